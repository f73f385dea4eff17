/- Part 14: no statement of the seat is proved here. -/
import Derived.Test.YtcebnmieadkjfaaGreatDoorPg13
import Derived.DefersIn
import Derived.RecoverIn
set_option linter.unusedVariables false
set_option linter.unusedSimpArgs false
open Go.Proofs.Tryz renaming prog->xG,underlying20->w9,f133->vA,f77->vB,underlying3->wo,underlying148->vG
open List renaming mem_of_getElem?->xM,getElem?_toArray->w8,getElem?_cons_zero->xV,lookup_cons->zc,mem_append_left->vD,mem_cons->yD,not_mem_nil->xD,length_append->zw,length_singleton->vH
open Nat renaming strongRecOn->yS
open Go.Region renaming wanted->yO
open Go.Oper renaming uponIn->wa
open Go.Fence renaming wide->xf
open Go.Deferred renaming ofValue->yF
open Array renaming replicate->xd,getD_eq_getD_getElem?->wO
open Go.Sem renaming run_bind->zK
open Go.Result renaming andThen_ok->zL
open Go.Code renaming wpIn->wA
open Go.FrameMode.panicking renaming injEq->vC
open Bool renaming and_eq_true->zC,not_eq_true'->zU
open Go.Ending renaming returned->xJ
open Go.Instr renaming findNow->ym,sameBits->wi
open Go.Value renaming int->vF
namespace Go.Proofs
open Go Go.Sx
attribute [local irreducible] Go.Sx.Tri
section
variable{V0 V V1 V2 V3:Mem}{d:Ds}{m:Mm}{p kb bb:Nat}{kn:Int×Int->Option Int}{bz:Int×Int->Bool}{b6 b7 b8:Nat}{e:E}{x:Int}{T:KB}
structure Bx (p kb bb:Nat)(V:Mem)(b6 b7 b8:Nat)(e:E)(x:Int):Prop where
 h6:∃t,V b6=some (cell (pv p) t)
 h7:∃t,V b7=some (.cells e.row.toArray t (0,0))
 h8:∃t,V b8=some (cell (.int .i64 x) t)
 ne:b6≠kb/\b6≠bb/\b7≠kb/\b7≠bb/\b8≠kb/\b8≠bb
theorem Bx.keep(h:Bx p kb bb V b6 b7 b8 e x)(k:CL kb bb V V1):Bx p kb bb V1 b6 b7 b8 e x:=by
 obtain⟨⟨q,h6⟩,⟨c,h7⟩,⟨b,h8⟩,u,z,y,l,r,n6⟩:=h;exact⟨⟨q,k _ _ u z h6⟩,⟨c,k _ _ y l h7⟩,⟨b,k _ _ r n6 h8⟩,u,z,y,l,r,n6⟩
theorem BP.some{α:Type}{enc:α->Value}{b:Nat}{f:α->Option Value}(h:BP enc V b f):V b≠none:=by
 obtain⟨es,c,k,-⟩:=h.at_;rw[k];simp
theorem ne_of{b c:Nat}(h:V b=none)(k:V c≠none):b≠c:=λe=>k (e▸h)
theorem Bx.make(M:Bw V0 d m p kb bb V kn bz){t6 k u:Nat}(h6:V b6=none)(h7:(V.set b6 (cell (pv p) t6)) b7=none)(h8:((V.set b6 (cell (pv p) t6)).set b7 (.cells e.row.toArray k (0,0))) b8=none):
  Bx p kb bb (((V.set b6 (cell (pv p) t6)).set b7 (.cells e.row.toArray k (0,0))).set b8 (cell (.int .i64 x) u)) b6 b7 b8 e x/\V.sub (((V.set b6 (cell (pv p) t6)).set b7 (.cells e.row.toArray k (0,0))).set b8 (cell (.int .i64 x) u)):=by
 have z:=Mem.sub_new h6 (cell (pv p) t6);have y:=Mem.sub_new h7 (.cells e.row.toArray k (0,0));have l:=Mem.sub_new h8 (cell (.int .i64 x) u);have r:=BP.some M.known;have q:=BP.some M.busy;have up:∀{c:Nat},V c≠none->(V.set b6 (cell (pv p) t6)) c≠none/\((V.set b6 (cell (pv p) t6)).set b7 (.cells e.row.toArray k (0,0))) c≠none:=λ{c} h=>by
  cases b:V c with
  |none=>exact absurd b h
  |some o=>exact⟨by rw[z _ _ b];simp,by rw[y _ _ (z _ _ b)];simp⟩
 exact⟨⟨⟨t6,l _ _ (y _ _ Ao)⟩,⟨k,l _ _ Ao⟩,⟨u,Mem.set_same _ _ _⟩,ne_of h6 r,ne_of h6 q,ne_of h7 (up r).1,ne_of h7 (up q).1,ne_of h8 (up r).2,ne_of h8 (up q).2⟩,(z.trans y).trans l⟩
theorem c134(M:Bw V0 d m p kb bb V kn bz)(b:E.Ok V0 e)(B:Bx p kb bb V b6 b7 b8 e x){i:Nat}{a:E}(z:e.k[i]?=some a){R:Ending->Mem->Prop}
  (H:Tri xG 79 #[pv p,a.v,.int .i64 x] V R) (J:∀r V',R r V'->∃rs,r=resR rs):Tri xG 134 #[.int .i64 i,pv b6,pv b7,pv b8] V R:=by
 refine Tri.mono (x134 (R:=R) ?_) λ_ _ h=>h;obtain⟨⟨Y,h6⟩,⟨W,h7⟩,⟨O,h8⟩,-⟩:=B;have q:=(b.sub M.sub).rows;have A:=q.n_eq;have I:=(List.getElem?_eq_some_iff.1 z).1;obtain⟨y,-,c,-,G,N,Z,u⟩:=q.get (i:=i) (by omega);rw[z]at c;cases c;refine⟨_,Ax h6,nn,e.l,An h7 3 1 (by simp[E.row]),N,Z,by omega,_,_,_,_,u,_,Ax h8,Tri.mono H λr V' h=>?_⟩;obtain⟨rs,rfl⟩:=J r V' h;cases rs with
 |ok v=>exact .inl ⟨v,rfl,h⟩
 |bad f=>exact .inr ⟨_,rfl,h⟩
theorem BC.res{g:Nat->Rs}{r:Ending}(h:BC V0 d m p kb bb V kn bz g r V1):∃rs,r=resR rs:=by
 obtain⟨rs,h,-⟩:=h;exact⟨rs,h⟩
theorem DS{F:Int->Int->Rs}{i:Nat}{a:E}(h:e.k[i]?=some a):Bo (e.k.map (AD d m F x)) i=AD d m F x a:=I1 h
theorem Mf(G:Am d m){t:KB}{v:Int}(h:AX d m t v):-1099511627776<=v/\v<=1099511627776:=by
 unfold AX at h;split at h;·omega
 ·unfold AR at h;have k:=(BX G.mem).2.1;split at h;·exact of_decide_eq_true h
  ·split at h;·have:=of_decide_eq_true h;omega
   ·have:=of_decide_eq_true h;omega
theorem Av{c a b:Prop}(h:¬c)(u:b):Br c a b:=⟨λk=>absurd k h,λ_=>u⟩
theorem AZ{c a b:Prop}(h:c)(u:a):Br c a b:=⟨λ_=>u,λk=>absurd h k⟩
theorem exprC(S:CV V0 d m p kb bb)(N:Nat)(ih:∀N',N'<N->ExprC V0 d m p kb bb N'):ExprC V0 d m p kb bb N:=by
 have hM:=measC S N ih;intro e;induction e using E.ind with
 |h e ihk=>
 intro T t x V kn bz hv he ht hT M K hN;obtain⟨G,hG⟩:∃G:Nat->Rs,G=λn=>AD d m (Ay d m n) x e:=⟨_,rfl⟩;rw[<-hG];have O:∀n,G n=C4 d m (Ay d m n) x e.op e.n e.s (e.k.map (AD d m (Ay d m n) x)):=λn=>by rw[hG];exact evE_eq _ _ _
 have kid:∀{i:Nat}{a:E}{u:KB}{V1:Mem}{kn1:Int×Int->Option Int}{b6 b7 b8:Nat},e.k[i]?=some a->Al d (AQ d T) a=(u,0)->Bx p kb bb V1 b6 b7 b8 e x->Bw V0 d m p kb bb V1 kn1 bz->KnOk d m kn1->(∀k,kn k≠none->kn1 k≠none)->
   Tri xG 134 #[.int .i64 i,pv b6,pv b7,pv b8] V1 (BC V0 d m p kb bb V1 kn1 bz λn=>AD d m (Ay d m n) x a):=λ{i a u V1 kn1 b6 b7 b8} Z hu B M1 K1 W=>by
  have hm:a∈e.k:=xM Z;exact c134 M1 he B Z (ihk a hm T u x V1 kn1 bz (hv.kids a hm) (he.kids a hm) hu hT M1 K1 (Nat.le_trans (unseen_le W) hN)) λ_ _=>BC.res
 have val:∀{a:E}{u:KB}{w:Int},a∈e.k->Al d (AQ d T) a=(u,0)->(∃n,AD d m (Ay d m n) x a=.ok w)->AX d m u w:=λhm hu ⟨n,hn⟩=>sound S.good hT (hv.kids _ hm) hu hn;refine Tri.mono (Ol (R:=BC V0 d m p kb bb V kn bz G) ?_) λ_ _ h=>h;have two:∀{a b:E}{u w':KB},(9<=e.op/\e.op<=23/\e.op≠18/\e.op≠19/\e.op≠20/\e.op≠21)->e.k=[a,b]->Al d (AQ d T) a=(u,0)->Al d (AQ d T) b=(w',0)->II (sa p) e.op e.n e.s e.l x V (BC V0 d m p kb bb V kn bz G):=by
  intro a b u w' h W Z hb;unfold II;have Y:e.k[0]?=some a:=by rw[W];rfl
  have h1:e.k[1]?=some b:=by rw[W];rfl
  have y:∀n,G n=(AD d m (Ay d m n) x a).bind λw=>(AD d m (Ay d m n) x b).bind λz=>A4 e.op w z:=λn=>by rw[O,IZ h,DS Y,DS h1]
  refine Av (by omega) (Av (by omega) (Av (by omega) (Av (by omega) (Av (by omega) (Av (by omega) (Av (by omega) (Av (by omega) (Av (by omega) (Av (by omega) (Av (by omega) (Av (by omega) ?_)))))))))));intro b6 h6 b7 h7 b8 h8;obtain⟨B,J⟩:=Bx.make (e:=e) (x:=x) M h6 h7 h8;refine BC.split (kid Y Z B (M.grow J) K λ_ h=>h) (λf L H=>⟨_,rfl,H.bad (h:=λn w=>(AD d m (Ay d m n) x b).bind λz=>A4 e.op w z) J y⟩) λw L H=>?_;obtain⟨A,C,D,q,hw⟩:=H.ok_parts;have B4:=B.keep H.keep;obtain⟨t7,g7⟩:=B4.h7;have mh:Mono λn=>(AD d m (Ay d m n) x b).bind λz=>A4 e.op w z:=λn n' hn=>Rs.le.bind (CR x b n n' hn) λ_=>.inr rfl;have seq:∀{rs X},Cr V0 d m p kb bb L A bz (λn=>(AD d m (Ay d m n) x b).bind λz=>A4 e.op w z) rs X->Cr V0 d m p kb bb V kn bz G rs X:=λh=>H.seq (h:=λn w=>(AD d m (Ay d m n) x b).bind λz=>A4 e.op w z) J y (CR x a) mh q h;refine⟨nn,e.op,An g7 0 1 (by simp[E.row]),BC.split (kid h1 hb B4 C D q) (λf X I=>⟨_,rfl,seq (I.bad (Mem.sub.refl _) λ_=>rfl)⟩) λz X I=>?_⟩;obtain⟨kn5,M5,K5,hk5,F⟩:=I.ok_parts;obtain⟨t7',g7'⟩:=(B4.keep I.keep).h7;have hva:=Mf S.good (val (xM Y) Z hw);have hvb:=Mf S.good (val (xM h1) hb F);have done:∀rs,rs=A4 e.op w z->Cr V0 d m p kb bb V kn bz G rs X:=λrs hr=>seq (I.seq (h:=λ_ z=>A4 e.op w z) (Mem.sub.refl _) (λ_=>rfl) (CR x b) (LU _) hk5 (.pure M5 K5 (by rw[hr];exact Out.const _)));exact⟨DR g7' 0 0 1 (by simp[E.row]),nn,RB.split (c141 hva hvb) (λf hf=>⟨.bad f,rfl,done _ hf.symm⟩) λw2 hw2=>⟨.ok w2,rfl,done _ hw2.symm⟩⟩
 unfold II;have pure:∀{v:Int},(∀n,G n=.ok v)->BC V0 d m p kb bb V kn bz G (.returned (.int .i64 v)) V:=λ{v} h=>⟨.ok v,rfl,.pure M K ⟨0,h 0⟩⟩;have con:∀(r:Rs),Mono λ_=>r:=LU;cases kind (d:=d) (sc:=AQ d T) rfl hv ht with
 |int h hn=>
  refine⟨λ_=>pure λn=>(O n).trans (comb1 (.inl h)),λk=>absurd h k⟩
 |bool h hn=>
  refine⟨λk=>absurd (h.symm.trans k) (by decide),λ_=>⟨λ_=>pure λn=>(O n).trans (comb1 (.inr h)),λk=>absurd h k⟩⟩
 |nil h hn=>
  repeat refine Av (h▸(by decide)) ?_
  exact AZ h (pure λn=>(O n).trans (comb3 h))
 |var h hl hne=>
  have fin:TT 135 #[pv p,.string e.s,.int .i64 x] V λr V1=>∃v6,r=.returned (.int .i64 v6)/\BC V0 d m p kb bb V kn bz G (.returned (.int .i64 v6)) V1:=(c135 S M hT hl hne).call ⟨_,rfl,pure λn=>(O n).trans (comb4 h)⟩;repeat refine Av (h▸(by decide)) ?_
  exact AZ h fin
 |@fld _ u a h W Z hf=>
  have Y:e.k[0]?=some a:=by rw[W];rfl
  have y:∀n,G n=(AD d m (Ay d m n) x a).bind λw=>fldV d m w e.s:=λn=>by rw[O,comb5 h,DS Y]
  repeat refine Av (h▸(by decide)) ?_
  refine AZ h ?_;intro b6 h6 b7 h7 b8 h8;obtain⟨B,J⟩:=Bx.make (e:=e) (x:=x) M h6 h7 h8;refine BC.split (kid Y Z B (M.grow J) K λ_ h=>h) (λf L H=>⟨_,rfl,H.bad J y⟩) λw L H=>?_;obtain⟨A,C,D,q,hw⟩:=H.ok_parts;have B4:=B.keep H.keep;obtain⟨⟨t6,g6⟩,⟨t7,g7⟩,-⟩:=B4;have U:=val (xM Y) Z hw;have done:∀rs,rs=fldV d m w e.s->Cr V0 d m p kb bb V kn bz G rs L:=λrs hr=>H.seq J y (CR x a) (con _) q (.pure C D (by rw[hr];exact Out.const _));refine⟨DR g7 2 0 1 (by simp[E.row]),nn,DR g6 0 0 1 (by simp),RB.split (c136 S C hf U) (λf hf=>⟨.bad f,rfl,done _ hf.symm⟩) λw2 hw2=>⟨.ok w2,rfl,done _ hw2.symm⟩⟩
 |@call u a ms i h W Z hi hms hf=>
  have Y:e.k[0]?=some a:=by rw[W];rfl
  have y:∀n,G n=(AD d m (Ay d m n) x a).bind λw=>Ay d m n i w:=λn=>by rw[O,comb7 h,DS Y,hi]
  repeat refine Av (h▸(by decide)) ?_
  refine AZ h ?_;refine(c138 S M).call ⟨_,rfl,?_⟩;rw[hi];intro b6 h6 b7 h7 b8 h8;obtain⟨B,J⟩:=Bx.make (e:=e) (x:=x) M h6 h7 h8;refine BC.split (kid Y Z B (M.grow J) K λ_ h=>h) (λf L H=>⟨_,rfl,H.bad (h:=λn w=>Ay d m n i w) J y⟩) λw L H=>?_;obtain⟨A,C,D,q,hw⟩:=H.ok_parts;obtain⟨⟨t6,g6⟩,-⟩:=B.keep H.keep;have U:=EF S.good.valid hf (val (xM Y) Z hw);refine⟨DR g6 0 0 1 (by simp),BC.split (hM i ms w L A bz hms U C D (Nat.le_trans (unseen_le q) hN)) (λf X I=>⟨_,rfl,H.seq J y (CR x a) (mono_evM i w) q I⟩) λw2 X I=>⟨.ok w2,rfl,H.seq J y (CR x a) (mono_evM i w) q I⟩⟩
 |@neg a h W Z=>
  have Y:e.k[0]?=some a:=by rw[W];rfl
  have y:∀n,G n=(AD d m (Ay d m n) x a).bind λw=>BH (-w):=λn=>by rw[O,comb8 h,DS Y]
  repeat refine Av (h▸(by decide)) ?_
  refine AZ h ?_;intro b6 h6 b7 h7 b8 h8;obtain⟨B,J⟩:=Bx.make (e:=e) (x:=x) M h6 h7 h8;refine BC.split (kid Y Z B (M.grow J) K λ_ h=>h) (λf L H=>⟨_,rfl,H.bad J y⟩) λw L H=>?_;obtain⟨A,C,D,q,hw⟩:=H.ok_parts;have U:=C5.1 (val (xM Y) Z hw);have done:∀rs,rs=BH (0-w)->Cr V0 d m p kb bb V kn bz G rs L:=λrs hr=>H.seq J y (CR x a) (con _) q (.pure C D (by rw[hr,Int.zero_sub];exact Out.const _));refine⟨⟨by omega,by omega⟩,RB.split c139 (λf hf=>⟨.bad f,rfl,done _ hf.symm⟩) λw2 hw2=>⟨.ok w2,rfl,done _ hw2.symm⟩⟩
 |@not a h W Z=>
  have Y:e.k[0]?=some a:=by rw[W];rfl
  have y:∀n,G n=(AD d m (Ay d m n) x a).bind λw=>.ok (1-w):=λn=>by rw[O,comb18 h,DS Y]
  repeat refine Av (h▸(by decide)) ?_
  refine AZ h ?_;intro b6 h6 b7 h7 b8 h8;obtain⟨B,J⟩:=Bx.make (e:=e) (x:=x) M h6 h7 h8;refine BC.split (kid Y Z B (M.grow J) K λ_ h=>h) (λf L H=>⟨_,rfl,H.bad J y⟩) λw L H=>?_;obtain⟨A,C,D,q,hw⟩:=H.ok_parts;have U:=Da.1 (val (xM Y) Z hw);exact⟨⟨by omega,by omega⟩,.ok (1-w),rfl,H.seq J y (CR x a) (con _) q (.pure C D (Out.const _))⟩
 |@log a h W Z=>
  have Y:e.k[0]?=some a:=by rw[W];rfl
  have y:∀n,G n=(AD d m (Ay d m n) x a).bind λw=>.ok (logV w):=λn=>by rw[O,comb24 h,DS Y]
  repeat refine Av (h▸(by decide)) ?_
  refine AZ h ?_;intro b6 h6 b7 h7 b8 h8;obtain⟨B,J⟩:=Bx.make (e:=e) (x:=x) M h6 h7 h8;refine BC.split (kid Y Z B (M.grow J) K λ_ h=>h) (λf L H=>⟨_,rfl,H.bad J y⟩) λw L H=>?_;obtain⟨A,C,D,q,hw⟩:=H.ok_parts;have U:=C5.1 (val (xM Y) Z hw);refine GenK.max2 rfl rfl ⟨_,rfl,?_⟩;rw[show(if(0:Int)<w then w else 0)=(w.toNat:Int)by split<;>omega];have hb:Nat.log2 w.toNat<64∨w.toNat=0:=by
   by_cases h:w.toNat=0;·exact .inr h
   ·exact .inl ((Nat.log2_lt h).2 (by omega))
  have hlen:0<=CK w.toNat/\CK w.toNat<=64:=by
   unfold CK;rcases hb with h|h;·split<;>omega
   ·rw[if_pos h];omega
  refine⟨Hl _ (by omega),(c140 (by omega)).call ⟨_,rfl,⟨by omega,by omega⟩,GenK.max2 rfl rfl ⟨_,rfl,?_⟩⟩⟩;have hlog:=lenN_log (n:=w.toNat);rw[show(if(0:Int)<CK w.toNat-1 then CK w.toNat-1 else 0)=logV w by unfold logV;rw[<-hlog];split<;>omega];exact⟨.ok (logV w),rfl,H.seq J y (CR x a) (con _) q (.pure C D (Out.const _))⟩
 |@and a b h W Z hb=>
  have Y:e.k[0]?=some a:=by rw[W];rfl
  have h1:e.k[1]?=some b:=by rw[W];rfl
  have y:∀n,G n=(AD d m (Ay d m n) x a).bind λw=>if w=0 then .ok 0 else AD d m (Ay d m n) x b:=λn=>by rw[O,comb19 h,DS Y,DS h1]
  repeat refine Av (h▸(by decide)) ?_
  refine AZ h ?_;intro b6 h6 b7 h7 b8 h8;obtain⟨B,J⟩:=Bx.make (e:=e) (x:=x) M h6 h7 h8;refine BC.split (kid Y Z B (M.grow J) K λ_ h=>h) (λf L H=>⟨_,rfl,H.bad (h:=λn w=>if w=0 then .ok 0 else AD d m (Ay d m n) x b) J y⟩) λw L H=>?_;obtain⟨A,C,D,q,hw⟩:=H.ok_parts;have seq:∀{rs X},Cr V0 d m p kb bb L A bz (λn=>if w=0 then .ok 0 else AD d m (Ay d m n) x b) rs X->Mono (λn=>if w=0 then .ok 0 else AD d m (Ay d m n) x b)->Cr V0 d m p kb bb V kn bz G rs X:=λh mh=>H.seq (h:=λn w=>if w=0 then .ok 0 else AD d m (Ay d m n) x b) J y (CR x a) mh q h;refine⟨λF=>?_,λF=>?_⟩
  ·have F:w=0:=F;simp only[F,if_true]at seq;exact⟨.ok 0,rfl,seq (.pure C D (Out.const _)) (con _)⟩
  ·have F:¬w=0:=F;simp only[F,if_false]at seq;exact BC.split (kid h1 hb (B.keep H.keep) C D q) (λf X I=>⟨_,rfl,seq I (CR x b)⟩) λw2 X I=>⟨.ok w2,rfl,seq I (CR x b)⟩
 |@or a b h W Z hb=>
  have Y:e.k[0]?=some a:=by rw[W];rfl
  have h1:e.k[1]?=some b:=by rw[W];rfl
  have y:∀n,G n=(AD d m (Ay d m n) x a).bind λw=>if w=0 then AD d m (Ay d m n) x b else .ok 1:=λn=>by rw[O,comb20 h,DS Y,DS h1]
  repeat refine Av (h▸(by decide)) ?_
  refine AZ h ?_;intro b6 h6 b7 h7 b8 h8;obtain⟨B,J⟩:=Bx.make (e:=e) (x:=x) M h6 h7 h8;refine BC.split (kid Y Z B (M.grow J) K λ_ h=>h) (λf L H=>⟨_,rfl,H.bad (h:=λn w=>if w=0 then AD d m (Ay d m n) x b else .ok 1) J y⟩) λw L H=>?_;obtain⟨A,C,D,q,hw⟩:=H.ok_parts;have seq:∀{rs X},Cr V0 d m p kb bb L A bz (λn=>if w=0 then AD d m (Ay d m n) x b else .ok 1) rs X->Mono (λn=>if w=0 then AD d m (Ay d m n) x b else .ok 1)->Cr V0 d m p kb bb V kn bz G rs X:=λh mh=>H.seq (h:=λn w=>if w=0 then AD d m (Ay d m n) x b else .ok 1) J y (CR x a) mh q h;refine⟨λF=>?_,λF=>?_⟩
  ·have F:w=0:=F;simp only[F,if_true]at seq;exact BC.split (kid h1 hb (B.keep H.keep) C D q) (λf X I=>⟨_,rfl,seq I (CR x b)⟩) λw2 X I=>⟨.ok w2,rfl,seq I (CR x b)⟩
  ·have F:¬w=0:=F;simp only[F,if_false]at seq;exact⟨.ok 1,rfl,seq (.pure C D (Out.const _)) (con _)⟩
 |@cond a b c _ u w' h W Z hb hc hu hw=>
  have Y:e.k[0]?=some a:=by rw[W];rfl
  have h1:e.k[1]?=some b:=by rw[W];rfl
  have h2:e.k[2]?=some c:=by rw[W];rfl
  have y:∀n,G n=(AD d m (Ay d m n) x a).bind λw=>if w=0 then AD d m (Ay d m n) x c else AD d m (Ay d m n) x b:=λn=>by rw[O,comb21 h,DS Y,DS h1,DS h2]
  repeat refine Av (h▸(by decide)) ?_
  refine AZ h ?_;intro b6 h6 b7 h7 b8 h8;obtain⟨B,J⟩:=Bx.make (e:=e) (x:=x) M h6 h7 h8;refine BC.split (kid Y Z B (M.grow J) K λ_ h=>h) (λf L H=>⟨_,rfl,H.bad (h:=λn w=>if w=0 then AD d m (Ay d m n) x c else AD d m (Ay d m n) x b) J y⟩) λw L H=>?_;obtain⟨A,C,D,q,hw⟩:=H.ok_parts;have seq:∀{rs X},Cr V0 d m p kb bb L A bz (λn=>if w=0 then AD d m (Ay d m n) x c else AD d m (Ay d m n) x b) rs X->Mono (λn=>if w=0 then AD d m (Ay d m n) x c else AD d m (Ay d m n) x b)->Cr V0 d m p kb bb V kn bz G rs X:=λh mh=>H.seq (h:=λn w=>if w=0 then AD d m (Ay d m n) x c else AD d m (Ay d m n) x b) J y (CR x a) mh q h;refine⟨λF=>?_,λF=>?_⟩
  ·have F:w=0:=F;simp only[F,if_true]at seq;exact BC.split (kid h2 hc (B.keep H.keep) C D q) (λf X I=>⟨_,rfl,seq I (CR x c)⟩) λw2 X I=>⟨.ok w2,rfl,seq I (CR x c)⟩
  ·have F:¬w=0:=F;simp only[F,if_false]at seq;exact BC.split (kid h1 hb (B.keep H.keep) C D q) (λf X I=>⟨_,rfl,seq I (CR x b)⟩) λw2 X I=>⟨.ok w2,rfl,seq I (CR x b)⟩
 |eq h W Z hb=>exact two (by omega) W Z hb
 |cmp h W Z hb=>exact two (by omega) W Z hb
 |ari h W Z hb=>exact two (by omega) W Z hb
theorem exprAll(S:CV V0 d m p kb bb):∀N,ExprC V0 d m p kb bb N:=λN=>yS N λN h=>exprC S N h
end
end Go.Proofs
namespace Go.Sx
open Go
section
variable{P:Program}{n:Nat}{ops:Array Oper}{i:Nat}{o:Oper}{rest:List Nat}{Q:Exit->Act->World->Prop}{a:Act}{w:World}
theorem Fx(h:o.guard=none):yO o (yielded ops a.tmps)=true:=by simp[yO,h]
theorem step_value{v:Value}(u:ops[i]?=some o)(z:o.guard=none)(h:(execOp a.eval o).run P w=.ok (.value v) w)(k:wpOpsIn (Au none) n P ops Q rest (a.put o.dst v) w):wpOpsIn (Au none) n P ops Q (i::rest) a w:=by
 rw[wpOpsIn_cons];unfold wpOpIn;simp only[u];rw[if_pos (Fx z)];refine⟨λ_ _=>trivial,?_⟩;show wa _ _ _ _ _ _ _ ((execOp a.eval o).run P w);rw[h];exact k
theorem step_defer{d:Deferred}(u:ops[i]?=some o)(z:o.guard=none)(h:(execOp a.eval o).run P w=.ok (.defer d) w)(k:wpOpsIn (Au none) n P ops Q rest (({a with defers:=d::a.defers}:Act).put o.dst undef) w):wpOpsIn (Au none) n P ops Q (i::rest) a w:=by
 rw[wpOpsIn_cons];unfold wpOpIn;simp only[u];rw[if_pos (Fx z)];refine⟨λ_ _=>trivial,?_⟩;show wa _ _ _ _ _ _ _ ((execOp a.eval o).run P w);rw[h];exact k
theorem step_call{f:FuncId}{args:Array Value}{V:Mem}{R:Ending->Mem->Prop}(z:ops[i]?=some o)(y:o.guard=none)(k:(execOp a.eval o).run P w=.ok (.enter f args) w)(l:V.le w)(H:Tri P f args V R)
  (r:∀u V' w',R (.panicked u) V'->Aq V w V' w'->Q (.panic u) a w') (q:∀v V' w',R (.returned v) V'->Aq V w V' w'->wpOpsIn (Au none) n P ops Q rest (a.put o.dst v) w') (c:∀V',¬R .outgrown V'):wpOpsIn (Au none) n P ops Q (i::rest) a w:=by
 rw[wpOpsIn_cons];unfold wpOpIn;simp only[z];rw[if_pos (Fx y)];refine⟨λ_ _=>trivial,?_⟩;show wa _ _ _ _ _ _ _ ((execOp a.eval o).run P w);rw[k];refine⟨λh=>by simp[Au,xf]at h,Ke.2 (Gn (H w l) ?_)⟩;grind
theorem run_callv{c:Call}{fv:Operand}{f:FuncId}{first caps args:Array Value}(k:o.op=.call c)(u:c.callee=.value fv)(z:a.eval fv=.func (.func f) first caps)(h:c.args.map a.eval=args)(y:∀args w,(callFunc f args).run P w=.ok (.enter f args) w):
  (execOp a.eval o).run P w=.ok (.enter f (first++args++caps)) w:=by
 grind[execOp,resolve,yF,invoke]
def Rec(u:FrameMode)(v:Value)(k:FrameMode):Prop:=
 match u with
 |.panicking ({v:=z,recovered:=false,goexit:=false}::h)=>v=z/\k=.panicking ({v:=z,recovered:=true}::h)
 |_=>v=.nilIface/\k=u
theorem Pd{f:FuncId}{fn:Func}{x y:Code}{id:Nat}{z q:Oper}{args:Array Value}{u:FrameMode}{R:Ending->FrameMode->World->Prop}{at0:Array TypeId}{t3 t6:Nat}(M:P.funcs[f]?=some fn)(F:fn.body=some (.seq x y))(L:x=.region id #[z,q] false)
  (X:z.op=.call {callee:=.builtin .recover,args:=#[],argTypes:=at0}) (W:z.dst=some t6) (B:z.guard=none) (b:q.op=.assign (.tmp t6)) (C:q.dst=some t3) (D:q.guard=none) (h6:t6<fn.ntmps) (S:args.size<=fn.ntmps)
  (H:∀(v:Value)(r:FrameMode),Rec u v r->
   y.wpIn (Au none) n P (λe J w'=>(e=.normal∨e=.ret)/\J.defers=[]/\∃v,(results fn J.tmps).run P w'=.ok v w'/\R (.returned v) r w') ((({tmps:=args++xd (fn.ntmps-args.size) undef,defers:=[]}:Act).put (some t6) v).put (some t3) v) w):
  CallsDIn (Au none) n P f args u w R:=by
 refine callsDIn_of_wpSIn M F trivial λk cs hu=>?_;refine wpSIn_seq ?_;subst L;refine wpSIn_region ?_;have G:∀a:Act,(execOp a.eval z).run P w=.ok .recover w:=λa=>by
  unfold execOp;simp[X,resolve,invoke,builtin]
 have N:∀a:Act,(execOp a.eval q).run P w=.ok (.value (a.eval (.tmp t6))) w:=λa=>by
  unfold execOp;simp[b]
 have O:∀(v:Value)(r:FrameMode)(l:List Frame),Rec u v r->l={k with mode:=r}::cs->
   wpOpsSIn (Au none) n P #[z,q] (Exit.thenS (Code.wpSIn (Au none) n P y (bodyPostS P fn k cs R)) (bodyPostS P fn k cs R)) [1] (({tmps:=args++xd (fn.ntmps-args.size) undef,defers:=[]}:Act).put z.dst v) l w:=λv r l hv c=>by
  rw[wpOpsSIn.eq_2];simp only[w8,List.getElem?_cons_succ,xV];refine⟨λ_ _=>trivial,?_⟩;have hw:=Fx (ops:=#[z,q]) (a:=(({tmps:=args++xd (fn.ntmps-args.size) undef,defers:=[]}:Act).put z.dst v)) D;rw[if_pos hw,N];simp only;rw[wpOpsSIn.eq_1];show Code.wpSIn (Au none) n P y (bodyPostS P fn k cs R) _ l w;have e:(({tmps:=args++xd (fn.ntmps-args.size) undef,defers:=[]}:Act).put z.dst v).eval (.tmp t6)=v:=by
   rw[W];exact E0 (a:={tmps:=args++xd (fn.ntmps-args.size) undef,defers:=[]}) (v:=v) (by simp;omega)
  rw[e,W,C];refine wpSIn_of_wpIn rfl (wpIn_mono (H v r hv) ?_);rintro e J w' ⟨K,b,Z,A,I⟩;rcases K with rfl|rfl;·exact⟨b,r,c,Z,A,I⟩
  ·exact⟨b,r,c,Z,A,I⟩
 show wpOpsSIn _ _ _ _ _ [0,1] _ _ _;rw[wpOpsSIn.eq_2];simp only[w8,xV];refine⟨λ_ _=>trivial,?_⟩;have hw:=Fx (ops:=#[z,q]) (a:=({tmps:=args++xd (fn.ntmps-args.size) undef,defers:=[]}:Act)) B;simp only at hw;rw[if_pos hw,G];simp only;unfold recoverD;split
 ·rename_i v l h;simp only at h;split at h
  ·rename_i Z Y hm;simp only[Option.some.injEq,Prod.mk.injEq]at h;obtain⟨rfl,rfl⟩:=h;rw[hu]at hm;exact O _ _ _ (by unfold Rec;rw[hm];exact⟨rfl,rfl⟩) rfl
  ·cases h
 ·rename_i h;simp only at h;split at h;·cases h
  ·rename_i hm;refine O _ u _ ?_ (by cases k;simp only at hu;subst hu;rfl);rw[hu]at hm;unfold Rec;split;·exact absurd rfl (hm _ _)
   ·exact⟨rfl,rfl⟩
end
end Go.Sx
namespace Go.Proofs
open Go Go.Sx
attribute [local irreducible] Go.Sx.Tri
theorem GenK.neqNil{V:Mem}{x:Operand}{t:TypeId}{v:Value}{ty:Nat}{vals:Operand->Value}(h:vals x=.iface t v)(k:vals (.const .nilIface)=.nilIface){q:Value->Mem->Prop}(u:q (.bool true) V):GenK xG (.binOp .neq 20 x (.const .nilIface) 20) ty vals V q:=by
 intro w hw;refine⟨_,w,V,?_,Aq.refl hw,u⟩;have z:(Op.equal 20 (.iface t v) .nilIface).run xG w=.ok false w:=by
  rw[EX,Op.equalIn];simp[zK,run_underlying w9]
 unfold execOp;simp[h,k,binOp,eqGuard,zK,z]
theorem GenK.eqNilNil{V:Mem}{x:Operand}{ty:Nat}{vals:Operand->Value}(h:vals x=.nilIface)(k:vals (.const .nilIface)=.nilIface){q:Value->Mem->Prop}(u:q (.bool false) V):GenK xG (.binOp .neq 20 x (.const .nilIface) 20) ty vals V q:=by
 intro w hw;refine⟨_,w,V,?_,Aq.refl hw,u⟩;have z:(Op.equal 20 .nilIface .nilIface).run xG w=.ok true w:=by
  rw[EX,Op.equalIn];simp[zK,run_underlying w9]
 unfold execOp;simp[h,k,binOp,eqGuard,zK,z]
theorem GenK.assertOk{P:Program}{V:Mem}{x:Operand}{t u:TypeId}{ts:Array Field}{v:Value}{ty:Nat}{vals:Operand->Value}(h:P.underlying t=some (.struct ts))(k:vals x=.iface t v){q:Value->Mem->Prop}(z:q (.tuple #[v,.bool true]) V):GenK P (.typeAssert x u t true) ty vals V q:=by
 intro w hw;refine⟨_,w,V,?_,Aq.refl hw,z⟩;unfold execOp;simp[k,Instr.typeAssert,zK,run_underlying h]
theorem GenK.clear{P:Program}{V:Mem}{x:Operand}{t k e:TypeId}{b:Nat}{α:Type}{enc:α->Value}{f:α->Option Value}{ty:Nat}{vals:Operand->Value}(u:P.underlying t=some (.map k e))(z:vals x=.map (some b))(hm:BP enc V b f){q:Value->Mem->Prop}
  (y:∀o,BP enc (V.set b o) b (λ_=>none)->q (.tuple #[]) (V.set b o)):GenK P (.call {callee:=.builtin .clear,args:=#[x],argTypes:=#[t]}) ty vals V q:=by
 intro w hw;obtain⟨es,c,h,l,r,v⟩:=hm.at_;refine⟨_,_,V.set b (.map #[] c),?_,Aq.put hw h,y _ ⟨#[],c,Mem.set_same _ _ _,by simp,by simp,by simp[Di]⟩⟩;unfold execOp;simp only[resolve,invoke,builtin,zK,Sem.run_pure,zL,List.map_toArray,List.map_cons,List.map_nil,z,Builtin.clear_];simp[zK,run_underlying u,MapKept.run_getObj_map (hw _ _ h),MapKept.run_setObj_map _ (hw _ _ h)]
noncomputable def Cz:Oper:={ dst:=none,op:=.move (.tmp 0),type:=0,pos:= "",after:=#[],guard:=none}
noncomputable def tryX:Code:=match Az vA with|.seq x _=>x|c=>c
noncomputable def tryY:Code:=match Az vA with|.seq _ y=>y|c=>c
theorem tryBody:(vA).body=some (.seq tryX tryY):=by kernel_rfl
theorem tryX_eq:tryX=.region 0 #[(Cj tryX).getD 0 Cz,(Cj tryX).getD 1 Cz] false:=by kernel_rfl
def valRs:Rs->Int|.ok v=>v|.bad _=>0
def errRs:Rs->Int|.ok _=>0|.bad e=>e
section
variable{V0 V:Mem}{d:Ds}{m:Mm}{p kb bb:Nat}{kn:Int×Int->Option Int}{bz:Int×Int->Bool}
structure TryM (V0:Mem)(d:Ds)(m:Mm)(p kb bb b2 b4 b5:Nat)(V:Mem)(kn:Int×Int->Option Int)(bz:Int×Int->Bool)(x4 x5:Int):Prop where
 mach:Bw V0 d m p kb bb V kn bz
 c2:∃t,V b2=some (cell (pv p) t)
 c4:∃t,V b4=some (cell (.int .i64 x4) t)
 c5:∃t,V b5=some (cell (.int .i64 x5) t)
theorem tryLate(S:CV V0 d m p kb bb){b2 b4 b5:Nat}{x4 x5:Int}(T:TryM V0 d m p kb bb b2 b4 b5 V kn bz x4 x5)(n4:b4≠b5/\b4≠b2/\b5≠b2/\b4≠p/\b5≠p/\b4≠kb/\b5≠kb/\b4≠bb/\b5≠bb/\V0 b4=none/\V0 b5=none/\b2≠bb){e:Int}:
  AO xG 23 c133a [(0,pv b4),(1,pv b5),(2,pv b2),(3,fltV e)] [] V λ_ V'=>TryM V0 d m p kb bb b2 b4 b5 V' kn (λ_=>false) 0 e/\∀c o,c≠b4->c≠b5->c≠bb->V c=some o->V' c=some o:=by
 obtain⟨h,u,z,q,b,v,H,y,l,Z,Y,J⟩:=n4;obtain⟨M,⟨W,c2⟩,⟨G,c4⟩,⟨N,c5⟩⟩:=T;refine s133a (d:=fltV e) ?_;unfold w133a;refine GenK.neqNil rfl rfl ⟨true,rfl,λ_=>?_,λk=>absurd rfl k⟩;refine GenK.assertOk Tryz.underlying219 rfl ⟨e,true,rfl,λ_=>?_,λk=>absurd rfl k⟩;refine As.cell c4 (As.cell (by rw[Mem.set_ne h.symm];exact c5) ?_);have r:Bw V0 d m p kb bb ((V.set b4 (cell (.int .i64 0) G)).set b5 (cell (.int .i64 e) N)) kn bz:=
  ⟨(M.sub.set Z _).set Y _,by rw[Mem.set_ne b.symm,Mem.set_ne q.symm];exact M.at_,(M.known.set v.symm).set H.symm,(M.busy.set y.symm).set l.symm⟩
 refine⟨_,Ax (by rw[Mem.set_ne z.symm,Mem.set_ne u.symm];exact c2),nn,nn,_,r.cell 11 1 (by decide),GenK.clear Tryz.underlying145 rfl r.busy λo O=>⟨rfl,_,rfl,?_,?_⟩⟩
 ·refine⟨⟨r.sub.set S.b0 o,by rw[Mem.set_ne S.pb];exact r.at_,r.known.set S.kb,O.congr λ_=>rfl⟩,⟨W,?_⟩,⟨G,?_⟩,⟨N,?_⟩⟩;·rw[Mem.set_ne J,Mem.set_ne z.symm,Mem.set_ne u.symm];exact c2
  ·rw[Mem.set_ne y,Mem.set_ne h];exact Mem.set_same _ _ _
  ·rw[Mem.set_ne l];exact Mem.set_same _ _ _
 ·intro c R A I F L;rw[Mem.set_ne F,Mem.set_ne I,Mem.set_ne A];exact L
end
noncomputable def Fy:Code:=(flat (Az vB)).getD 1 .skip
noncomputable def tryR2:Code:=(flat (Az vB)).getD 2 .skip
theorem try_flat:flat (Az vB)=c77a++[Fy,tryR2,.ret]:=by kernel_rfl
theorem tryR1_eq:Fy=.region 1 #[(Cj Fy).getD 0 Cz,(Cj Fy).getD 1 Cz] false:=by kernel_rfl
theorem tryR2_eq:tryR2=.region 2 c77b false:=by kernel_rfl
theorem tryR2_size:(c77b).size=4:=by kernel_rfl
theorem tryY_flat:flat tryY=c133a:=by kernel_rfl
section
variable{V0 V:Mem}{d:Ds}{m:Mm}{p kb bb:Nat}{kn:Int×Int->Option Int}{g:Nat->Rs}
theorem Mg{P:Program}{a:Act}{o:Oper}{f:Fn}{first caps:Array Operand}{w:World}(h:o.op=.makeFunc f first caps):(execOp a.eval o).run P w=.ok (.value (.func f (first.map a.eval) (caps.map a.eval))) w:=by
 unfold execOp;simp[h,Instr.makeFunc]
theorem run_move{P:Program}{a:Act}{o:Oper}{x:Operand}{w:World}(h:o.op=.move x):(execOp a.eval o).run P w=.ok (.value (a.eval x)) w:=by
 unfold execOp;simp[h]
theorem Mh{P:Program}{a:Act}{o:Oper}{c:Call}{fv:Operand}{f:Fn}{first caps:Array Value}{w:World}(k:o.op=.defer c)(u:c.callee=.value fv)(z:a.eval fv=.func f first caps)(h:c.args.map a.eval=#[]):
  (execOp a.eval o).run P w=.ok (.defer {target:=.fn f caps,args:=first++#[]}) w:=by
 unfold execOp;simp[k,resolve,u,z,h,yF]
theorem Fz{N:Nat}{a:Act}{l:List (Nat×Value)}(h:Has N a l){t:Nat}{v:Value}(z:t<N):Has N (a.put (some t) v) ((t,v)::l):=by
 refine⟨by simp[Act.put,h.1],λs u k=>?_⟩;rw[zc]at k;by_cases e:s=t
 ·subst e;simp only[beq_self_eq_true]at k;cases k;simp[Act.put,wO,h.1,z]
 ·have y:(s==t)=false:=by simpa using e
  rw[y]at k;have:=h.2 s u k;rw[<-this];simp[Act.put,wO,Array.getElem?_setIfInBounds_ne (Ne.symm e)]
theorem cell1{b:Nat}{x:Int}{t:Nat}{w:World}(h:w.heap[b]?=some (cell (.int .i64 x) t)){T:TypeId}(k:Dd xG T (.cons (.var (.i .i64) 0) .nil) 0=some (.var (.i .i64) 0)):(loadVar T ⟨b,0,none⟩).run xG w=.ok (.int .i64 x) w:=
 GY (P:=xG) (t:=T) (cs:=.cons (.var (.i .i64) 0) .nil) (x:=.var (.i .i64) 0) (ρ:=[.int .i64 x]) (β:=id) (o:=0) h k
theorem Mi{tmps:Array Value}{b4 b5:Nat}{x4 x5:Int}{h k:Nat}{w:World}(u:tmps.getD 4 undef=pv b4)(z:tmps.getD 5 undef=pv b5)(c4:w.heap[b4]?=some (cell (.int .i64 x4) h))(c5:w.heap[b5]?=some (cell (.int .i64 x5) k)):
  (results vB tmps).run xG w=.ok (.tuple #[.int .i64 x4,.int .i64 x5]) w:=by
 have y:vB.results=#[.cell 4 3,.cell 5 43]:=by kernel_rfl
 unfold results;rw[y];have l:asAddr (tmps.getD 4 undef)=pure ⟨b4,0,none⟩:=by rw[u];rfl
 have r:asAddr (tmps.getD 5 undef)=pure ⟨b5,0,none⟩:=by rw[z];rfl
 simp only[List.mapM_toArray,List.mapM_cons,List.mapM_nil,zK,Sem.run_map,Sem.run_pure,zL,l,r,cell1 c4 (T:=3) (by kernel_rfl),cell1 c5 (T:=43) (by kernel_rfl)];rfl
theorem Mj{tmps:Array Value}{w:World}:(results vA tmps).run xG w=.ok (.tuple #[]) w:=by
 have h:vA.results=#[]:=by kernel_rfl
 unfold results;rw[h];simp
theorem tryNil{a b c:Option Addr}:AO xG 23 c133a [(0,.pointer a),(1,.pointer b),(2,.pointer c),(3,.nilIface)] [] V λ_ V'=>V'=V:=by
 refine s133a (d:=.nilIface) ?_;unfold w133a;exact GenK.eqNilNil rfl rfl ⟨false,rfl,(λk=>by cases k),λ_=>⟨_,rfl,rfl⟩⟩
theorem lateC(S:CV V0 d m p kb bb){b2 b4 b5:Nat}{x4 x5:Int}{bz:Int×Int->Bool}{V1:Mem}(T:TryM V0 d m p kb bb b2 b4 b5 V1 kn bz x4 x5)(n4:b4≠b5/\b4≠b2/\b5≠b2/\b4≠p/\b5≠p/\b4≠kb/\b5≠kb/\b4≠bb/\b5≠bb/\V0 b4=none/\V0 b5=none/\b2≠bb){w:World}(hw:V1.le w){u:FrameMode}{n:Nat}(hu:u=.returning∨∃c,u=.panicking [{v:=fltV c,recovered:=false}]):
  CallsDIn (Au none) n xG 133 #[pv b4,pv b5,pv b2] u w λe k w'=>(∃v,e=.returned v)/\∃V2,Aq V1 w V2 w'/\
   ((u=.returning/\k=.returning/\V2=V1)∨∃c,u=.panicking [{v:=fltV c,recovered:=false}]/\k=.panicking [{v:=fltV c,recovered:=true}]/\TryM V0 d m p kb bb b2 b4 b5 V2 kn (λ_=>false) 0 c/\∀c o,c≠b4->c≠b5->c≠bb->V1 c=some o->V2 c=some o):=by
 refine Pd (fn:=vA) (at0:=#[]) (t3:=3) (t6:=6) Tryz.func133 tryBody tryX_eq (by kernel_rfl) (by kernel_rfl) (by kernel_rfl) (by kernel_rfl) (by kernel_rfl) (by kernel_rfl) (by rw[show vA.ntmps=23 by kernel_rfl];decide) (by rw[show vA.ntmps=23 by kernel_rfl];simp) ?_;intro v k h;refine E9 ?_;rw[tryY_flat];have q:=Fz (Fz (Hk (args:=[pv b4,pv b5,pv b2]) (N:=23) (by simp)) (t:=6) (v:=v) (by decide)) (t:=3) (v:=v) (by decide);have y:Has 23 _ [(0,pv b4),(1,pv b5),(2,pv b2),(3,v)]:=⟨q.1,λs x l=>by
  simp only[zc]at l
  repeat' split at l
  all_goals first
   |(rename_i e;simp only[beq_iff_eq]at e;subst e;cases l;exact q.get rfl)
   |cases l⟩
 rcases hu with rfl|⟨c,rfl⟩
 ·obtain⟨rfl,rfl⟩:v=.nilIface/\k=.returning:=h;refine EI ?_ (tryNil (V:=V1) none n _ w hw y.1 y.2);rintro e H w' ⟨rfl,z,-,vs,V',-,rfl,r⟩;exact⟨.inl rfl,z,_,Mj,⟨_,rfl⟩,V',r,.inl ⟨rfl,rfl,rfl⟩⟩
 ·obtain⟨rfl,rfl⟩:v=fltV c/\k=.panicking [{v:=fltV c,recovered:=true}]:=by
   obtain⟨z,J⟩:=h;exact⟨z,J⟩
  refine EI ?_ (tryLate S T n4 (e:=c) none n _ w hw y.1 y.2);rintro e H w' ⟨rfl,z,-,vs,V',-,b,r⟩;exact⟨.inl rfl,z,_,Mj,⟨_,rfl⟩,V',r,.inr ⟨c,rfl,rfl,b.1,b.2⟩⟩
theorem Out.imp{B u:Int->Int->Prop}{r:Rs}(h:Out d m B g r)(k:∀a b,B a b->u a b):Out d m u g r:=by
 cases r with
 |ok v=>exact h
 |bad e=>
  rcases h with h|⟨z,h|⟨a,b,y,l⟩⟩;·exact .inl h
  ·exact .inr ⟨z,.inl h⟩
  ·exact .inr ⟨z,.inr ⟨a,b,k a b y,l⟩⟩
theorem I9{F:Fence}{n:Nat}{P:Program}{f:FuncId}{args:Array Value}{u:FrameMode}{w:World}{R y:Ending->FrameMode->World->Prop}(h:CallsDIn F n P f args u w R)(k:∀e z w',R e z w'->y e z w'):CallsDIn F n P f args u w y:=
 ⟨h.1,λc cs l r=>let⟨e,z,w',fr,a,b⟩:=h.2 c cs l r;⟨e,z,w',fr,k _ _ _ a,b⟩⟩
structure TryR (V0:Mem)(d:Ds)(m:Mm)(p kb bb:Nat)(V:Mem)(g:Nat->Rs)(rs:Rs)(V':Mem):Prop where
 out:Out d m (λ_ _=>False) g rs
 keep:CL kb bb V V'
 mach:∃kn',Bw V0 d m p kb bb V' kn' (λ_=>false)/\KnOk d m kn'
def TryP(V0:Mem)(d:Ds)(m:Mm)(p kb bb:Nat)(V:Mem)(g:Nat->Rs):Ending->Mem->Prop:=λe V'=>∃rs,e=.returned (.tuple #[.int .i64 (valRs rs),.int .i64 (errRs rs)])/\TryR V0 d m p kb bb V g rs V'
theorem tryC(S:CV V0 d m p kb bb)(M:Bw V0 d m p kb bb V kn (λ_=>false)){f:Nat}{caps:List Value}(hf:FP f)(H:∀V1,V.sub V1->Tri xG f caps.toArray V1 (BC V0 d m p kb bb V1 kn (λ_=>false) g)):
  Tri xG 77 #[pv p,.func (.func f) #[] caps.toArray] V (TryP V0 d m p kb bb V g):=by
 unfold Go.Sx.Tri;intro w hV;refine(callsIn_wide (n:=0)).1 (callsIn_of_wp_defers (F:=Au none) Tryz.func77 (c:=Az vB) (by kernel_rfl) trivial (E9 ?_) rfl);rw[try_flat];have hA:AO xG 9 c77a [(0,pv p),(1,.func (.func f) #[] caps.toArray)] [1,2,4,5] V λvs V1=>∃b2 b4 b5,vs=[.func (.func f) #[] caps.toArray,pv b2,pv b4,pv b5]/\
   V b2=none/\(V.set b2 (cell (pv p) 90)) b4=none/\((V.set b2 (cell (pv p) 90)).set b4 (cell (.int .i64 0) 3)) b5=none/\
   V1=(((V.set b2 (cell (pv p) 90)).set b4 (cell (.int .i64 0) 3)).set b5 (cell (.int .i64 0) 43)):=by
  refine s77a (a:=some ⟨p,0,none⟩) (b:=.func (.func f) #[] caps.toArray) ?_;unfold w77a;intro b2 h2 b4 O b5 r;exact⟨_,rfl,b2,b4,b5,rfl,h2,O,r,rfl⟩
 refine hA.step hV (Hk (args:=[pv p,.func (.func f) #[] caps.toArray]) (N:=9) (by simp)) ?_;rintro a1 w1 vs V1 hd1 q ⟨b2,b4,b5,rfl,h2,O,r,J⟩ R;have z:b4≠b2:=λe=>by rw[e,Mem.set_same]at O;cases O
 have y:b5≠b4:=λe=>by rw[e,Mem.set_same]at r;cases r
 have G:b5≠b2:=λe=>by rw[e,Mem.set_ne z.symm,Mem.set_same]at r;cases r
 rw[Mem.set_ne z]at O;rw[Mem.set_ne y,Mem.set_ne G]at r;have s1:V.sub V1:=by
  rw[J];refine((Mem.sub.refl V).set h2 _).set O _|>.set r _
 have M1:=M.grow s1;have X:∀{b:Nat},V b=none->b≠p/\b≠kb/\b≠bb/\V0 b=none:=λ{b} A=>by
  obtain⟨e1,c1,k1,-⟩:=M.known.at_;obtain⟨e2,c2,U,-⟩:=M.busy.at_;refine⟨λe=>?_,λe=>?_,λe=>?_,?_⟩;·subst e;rw[M.at_]at A;cases A
  ·subst e;rw[k1]at A;cases A
  ·subst e;rw[U]at A;cases A
  ·cases h0:V0 b with
   |none=>rfl
   |some o=>rw[M.sub _ _ h0]at A;cases A
 obtain⟨-,a3',a4,-⟩:=X h2;obtain⟨q2,q3,q4,q5⟩:=X O;obtain⟨r2,r3,r4,r5⟩:=X r;have n4:b4≠b5/\b4≠b2/\b5≠b2/\b4≠p/\b5≠p/\b4≠kb/\b5≠kb/\b4≠bb/\b5≠bb/\V0 b4=none/\V0 b5=none/\b2≠bb:=⟨y.symm,z,G,q2,r2,q3,r3,q4,r4,q5,r5,a4⟩;have e2:V1 b2=some (cell (pv p) 90):=by rw[J,Mem.set_ne G.symm,Mem.set_ne z.symm,Mem.set_same]
 have e4:V1 b4=some (cell (.int .i64 0) 3):=by rw[J,Mem.set_ne y.symm,Mem.set_same]
 have e5:V1 b5=some (cell (.int .i64 0) 43):=by rw[J,Mem.set_same]
 show wA (Au none) 0 xG Fy _ a1 w1;rw[tryR1_eq];refine wpIn_region ?_;show wpOpsIn _ _ _ _ _ [0,1] _ _;refine Go.Sx.step_value (o:=(Cj Fy).getD 0 Cz) rfl (by kernel_rfl) (Mg (f:=.func 133) (first:=#[]) (caps:=#[.tmp 4,.tmp 5,.tmp 2]) (by kernel_rfl)) ?_;have g2:a1.eval (.tmp 2)=pv b2:=q.get rfl;have g4:a1.eval (.tmp 4)=pv b4:=q.get rfl;have g5:a1.eval (.tmp 5)=pv b5:=q.get rfl;have hd0:((Cj Fy).getD 0 Cz).dst=some 6:=by kernel_rfl
 have hd1':((Cj Fy).getD 1 Cz).dst=none:=by kernel_rfl
 rw[hd0,show(#[Operand.tmp 4,.tmp 5,.tmp 2].map a1.eval)=#[pv b4,pv b5,pv b2]by simp[g2,g4,g5],show((#[]:Array Operand).map a1.eval)=#[]by simp];have B:=Fz q (t:=6) (v:=.func (.func 133) #[] #[pv b4,pv b5,pv b2]) (by decide);refine Go.Sx.step_defer (o:=(Cj Fy).getD 1 Cz) rfl (by kernel_rfl) (Mh (c:={callee:=.value (.tmp 6),args:=#[],argTypes:=#[]}) (fv:=.tmp 6) (f:=.func 133) (first:=#[]) (by kernel_rfl) rfl (B.get rfl) (by simp)) ?_;rw[hd1'];show wA (Au none) 0 xG tryR2 _ _ w1;rw[tryR2_eq];refine wpIn_region ?_;rw[tryR2_size];show wpOpsIn _ _ _ _ _ [0,1,2,3] _ _;have i0:(c77b)[0]?=some ((c77b).getD 0 Cz):=by kernel_rfl
 have i1:(c77b)[1]?=some ((c77b).getD 1 Cz):=by kernel_rfl
 have d0:((c77b).getD 0 Cz).dst=some 7:=by kernel_rfl
 have d1:((c77b).getD 1 Cz).dst=some 8:=by kernel_rfl
 refine Go.Sx.step_value i0 (by kernel_rfl) (run_move (x:=.tmp 1) (by kernel_rfl)) ?_;rw[d0];suffices key:∀a3:Act,a3.defers=[{target:=.fn (.func 133) #[pv b4,pv b5,pv b2],args:=#[]++#[]}]->
   Has 9 a3 [(6,.func (.func 133) #[] #[pv b4,pv b5,pv b2]),(1,.func (.func f) #[] caps.toArray),(2,pv b2),(4,pv b4),(5,pv b5)]->
   wpOpsIn (Au none) 0 xG c77b (Exit.then (Cq none 0 xG (bodyPostDIn (Au none) 0 xG vB λe w'=>∃V',TryP V0 d m p kb bb V g e V'/\Aq V w V' w') [Code.ret]) (bodyPostDIn (Au none) 0 xG vB λe w'=>∃V',TryP V0 d m p kb bb V g e V'/\Aq V w V' w')) [1,2,3] (a3.put (some 7) (a3.eval (.tmp 1))) w1 by
  refine key _ ?_ ⟨B.1,B.2⟩;show _::a1.defers=_;rw[hd1]
 intro a3 hd3 hH3;have hg:a3.eval (.tmp 1)=.func (.func f) #[] caps.toArray:=hH3.get rfl;rw[hg];have Z:=Fz hH3 (t:=7) (v:=.func (.func f) #[] caps.toArray) (by decide);have inv:∀w',(invoke (.fn (.func 133) #[pv b4,pv b5,pv b2]) (#[]++#[])).run xG w'=.ok (.enter 133 #[pv b4,pv b5,pv b2]) w':=λw'=>by simp[invoke]
 have l:∀{V':Mem}{kn':Int×Int->Option Int}{Y:Int×Int->Bool},Bw V0 d m p kb bb V' kn' Y->CL kb bb V1 V'->TryM V0 d m p kb bb b2 b4 b5 V' kn' Y 0 0:=λh k=>⟨h,⟨_,k _ _ a3' a4 e2⟩,⟨_,k _ _ q3 q4 e4⟩,⟨_,k _ _ r3 r4 e5⟩⟩;have I:∀{rs:Rs},Out d m (F0 λ_=>false) g rs->Out d m (λ_ _=>False) g rs:=λh=>h.imp λa b h=>by cases h
 have hK:∀{V' V2:Mem},CL kb bb V1 V'->(∀c o,c≠b4->c≠b5->c≠bb->V' c=some o->V2 c=some o)->CL kb bb V V2:=λk1 U c o c1 c2 c3=>U c o (λe=>by rw[e,O]at c3;cases c3) (λe=>by rw[e,r]at c3;cases c3) c2 (k1 c o c1 c2 (s1 _ _ c3));refine Go.Sx.step_call i1 (by kernel_rfl) (by simpa using run_callv (c:={callee:=.value (.tmp 7),args:=#[],argTypes:=#[]}) (fv:=.tmp 7) (f:=f) (first:=#[]) (caps:=caps.toArray) (args:=#[]) (by kernel_rfl) rfl (Z.get rfl) (by simp) hf) R.le (H V1 s1) ?_ ?_ ?_
 ·rintro ch V' w' ⟨rs,u,W⟩ hF;cases rs with
  |ok v=>cases u
  |bad c=>
   cases u;show LeavesIn (Au none) 0 xG _ _ _ a3.defers _ w';rw[hd3];obtain⟨kn',Y,C,m2,-⟩:=W.mach;refine⟨nofun,(λh=>by simp[Au,xf]at h),_,_,_,_,rfl,inv w',λ_ _=>trivial,I9 (lateC S (l C W.keep) n4 hF.le (.inr ⟨c,rfl⟩)) ?_⟩;rintro e u' w'' ⟨⟨v,rfl⟩,V2,D,⟨h,-⟩|⟨c',hc,rfl,L,hk2⟩⟩;·cases h
   ·have hcc:c'=c:=by
     simp only[vC,List.cons.injEq,PanicEntry.mk.injEq,fltV]at hc;simpa using hc.1.1.symm
    subst hcc;obtain⟨t4,k4⟩:=L.c4;obtain⟨t5,k5⟩:=L.c5;refine⟨_,Mi (Z.get rfl) (Z.get rfl) (D.le _ _ k4) (D.le _ _ k5),V2,⟨.bad c',rfl,I W.out,hK W.keep hk2,kn',L.mach,m2⟩,(R.trans hF).trans D⟩
 ·rintro v V' w' ⟨rs,u,W⟩ hF;cases rs with
  |bad c=>cases u
  |ok x=>
   cases u;rw[d1];obtain⟨kn',Y,C,m2,m3⟩:=W.mach;obtain⟨rfl,-⟩:=m3 x rfl;have T1:=l C W.keep;obtain⟨t4,k4⟩:=T1.c4;obtain⟨t5,k5⟩:=T1.c5;have hH5:=Fz Z (t:=8) (v:=.int .i64 x) (by decide);have hB:Aw xG 9 c77b 2 2 [(4,pv b4),(5,pv b5),(8,.int .i64 x)] [4,5] V' λvs V2=>vs=[pv b4,pv b5]/\V2=(V'.set b4 (cell (.int .i64 x) t4)).set b5 (cell (.int .i64 0) t5):=by
    refine s77b (a:=some ⟨b4,0,none⟩) (b:=some ⟨b5,0,none⟩) (c:=x) ?_;unfold w77b;exact As.cell k4 (As.cell (by rw[Mem.set_ne y];exact k5) ⟨_,rfl,rfl,rfl⟩)
   show wpOpsIn _ _ _ _ _ (List.range' 2 2++[]) _ w';refine hB.step hF.le (⟨hH5.1,λs v hs=>by
    simp only[zc]at hs
    repeat' split at hs
    all_goals first
     |(rename_i e;simp only[beq_iff_eq]at e;subst e;cases hs;exact hH5.get rfl)
     |cases hs⟩:Has 9 _ [(4,pv b4),(5,pv b5),(8,.int .i64 x)]) ?_
   rintro a6 w6 vs V2 hd6 hH6 ⟨rfl,hV2⟩ hF6;show wA (Au none) 0 xG .ret _ a6 w6;refine wpIn_ret ?_;show LeavesIn (Au none) 0 xG _ _ _ a6.defers _ w6;rw[hd6];show LeavesIn (Au none) 0 xG _ _ _ a3.defers _ w6;rw[hd3];have L:TryM V0 d m p kb bb b2 b4 b5 V2 kn' (λ_=>false) x 0:=by
    rw[hV2];refine⟨⟨(C.sub.set q5 _).set r5 _,by rw[Mem.set_ne r2.symm,Mem.set_ne q2.symm];exact C.at_,(C.known.set q3.symm).set r3.symm,(C.busy.set q4.symm).set r4.symm⟩,?_,⟨t4,by rw[Mem.set_ne y.symm,Mem.set_same]⟩,⟨t5,Mem.set_same _ _ _⟩⟩;obtain⟨t2,U⟩:=T1.c2;exact⟨t2,by rw[Mem.set_ne G.symm,Mem.set_ne z.symm];exact U⟩
   refine⟨nofun,(λh=>by simp[Au,xf]at h),_,_,_,_,rfl,inv w6,λ_ _=>trivial,I9 (lateC S L n4 hF6.le (.inl rfl)) ?_⟩;rintro e u' w'' ⟨⟨v,rfl⟩,V3,K,⟨-,rfl,rfl⟩|⟨c',hc,-⟩⟩
   ·obtain⟨u4,k4'⟩:=L.c4;obtain⟨u5,k5'⟩:=L.c5;refine⟨_,Mi (hH6.get rfl) (hH6.get rfl) (K.le _ _ k4') (K.le _ _ k5'),V3,⟨.ok x,rfl,I W.out,hK W.keep (λc o c1 c2 _ c3=>?_),kn',L.mach,m2⟩,((R.trans hF).trans hF6).trans K⟩;rw[hV2,Mem.set_ne c2,Mem.set_ne c1];exact c3
   ·cases hc
 ·rintro V' ⟨rs,u,-⟩;cases rs<;>cases u
end
end Go.Proofs
namespace Go.Proofs
open Go Go.Sx
structure Sr where
 order:List Int
 again:Int
def Dr(x:Fld×Int):Bool:=!CQ x.1.ty&&decide (x.2≠0)
def tgtI(l:List Fld)(vs:List Int)(i:Nat):List Int:=(((l.zip vs).take i).filter Dr).map (·.2)
def Dt(l:List Fld)(vs:List Int):List Int:=((l.zip vs).filter Dr).map (·.2)
def EJ(d:Ds)(m:Mm)(n:Int):List Int:=match m.nodes[(n-1).toNat]? with|some x=>Dt (BV d x.ty) x.f|none=>[]
def A9(d:Ds)(m:Mm):Nat->Sr->Int->Sr
 |0,st,_=>st
 |f+1,st,n=>if n∈st.order then⟨st.order,if st.again=0 then n else st.again⟩else(EJ d m n).foldl (A9 d m f) ⟨st.order++[n],st.again⟩
def lookP(d:Ds)(m:Mm)(f:Nat)(st:Sr)(l:List Fld)(vs:List Int):Sr:=(Dt l vs).foldl (A9 d m f) st
def BM(d:Ds)(m:Mm):Sr:=lookP d m (m.nodes.length+1) ⟨[],0⟩ d.globals m.globals
theorem tgtI_zero(l:List Fld)(vs:List Int):tgtI l vs 0=[]:=rfl
theorem Ja{l:List Fld}{vs:List Int}{i:Nat}{f:Fld}{v:Int}(k:l[i]?=some f)(hv:vs[i]?=some v):tgtI l vs (i+1)=tgtI l vs i++if Dr (f,v)=true then[v]else[]:=by
 have u:(l.zip vs)[i]?=some (f,v):=by rw[List.getElem?_zip_eq_some];exact⟨k,hv⟩
 unfold tgtI;rw[List.take_add_one,u,List.filter_append,List.map_append];by_cases h:Dr (f,v)=true;·simp[h]
 ·simp[h]
theorem tgtI_all{l:List Fld}{vs:List Int}{i:Nat}(h:l.length<=i):tgtI l vs i=Dt l vs:=by
 unfold tgtI Dt;rw[List.take_of_length_le];rw[List.length_zip];omega
def BY(m:Mm)(st:Sr):Nat:=((List.range m.nodes.length).filter λ(i:Nat)=>!decide (((i:Int)+1)∈st.order)).length
theorem entP_sub(d:Ds)(m:Mm):∀(f:Nat)(st:Sr)(n:Int),∀x∈st.order,x∈(A9 d m f st n).order
 |0,st,n,x,h=>h
 |f+1,st,n,x,h=>by
  unfold A9;split;·exact h
  ·have:∀(l:List Int)(s:Sr),x∈s.order->x∈(l.foldl (A9 d m f) s).order:=λl=>by
    induction l with
    |nil=>exact λs h=>h
    |cons a l k=>exact λs h=>k _ (entP_sub d m f s a x h)
   exact this _ _ (vD _ h)
theorem foldP_sub(d:Ds)(m:Mm)(f:Nat)(x:Int):∀(l:List Int)(s:Sr),x∈s.order->x∈(l.foldl (A9 d m f) s).order:=λl=>by
 induction l with
 |nil=>exact λs h=>h
 |cons a l k=>exact λs h=>k _ (entP_sub d m f s a x h)
end Go.Proofs
namespace Go.Proofs
open Go Go.Sx
open Classical in
noncomputable def EK(d:Ds)(m:Mm)(e:E)(x:Int):Bool:=decide (∃n,AD d m (Ay d m n) x e=.ok 1)
noncomputable def CW(d:Ds)(m:Mm)(v:Iv)(x:Int):Bool:=decide (typV d m x=v.ty)&&!EK d m v.x x
noncomputable def BZ(d:Ds)(m:Mm)(v:Iv)(l:List Int):List (KB×Int):=(l.filter (CW d m v)).map λx=>(v.name,x)
def B0(d:Ds)(m:Mm)(v:Iv):List Int:=if v.ty=sE then[0]else(BM d m).order
noncomputable def allP(d:Ds)(m:Mm):List (KB×Int):=d.invs.flatMap λv=>BZ d m v (B0 d m v)
theorem Kt{d:Ds}{m:Mm}{e:E}{x:Int}{rs:Rs}(h:Out d m (λ_ _=>False) (λn=>AD d m (Ay d m n) x e) rs):EK d m e x=decide (rs=.ok 1):=by
 unfold EK;rw[decide_eq_decide];constructor
 ·rintro⟨n,k⟩;exact Out.unique (CR x e) h (show Out d m (λ_ _=>False) _ (Rs.ok 1)from⟨n,k⟩)
 ·rintro rfl;exact h
end Go.Proofs
namespace Go.Proofs
open Go Go.Sx
attribute [local irreducible] Go.Sx.Tri
theorem chk_zero{d:Ds}(h:(fltR (BJ d)).2.2=0):BJ d=none:=by
 have key:∀{a:Option Flt},(∀r,a=some r->r.2.2≠0)->(fltR a).2.2=0->a=none:=λ{a} q h=>by
  cases a with
  |none=>rfl
  |some r=>exact absurd h (q r rfl)
 refine key (λr k=>?_) h;unfold BJ at k;have u:∀{a b:Option Flt} {r},a.or b=some r->a=some r∨b=some r:=λ{a b r} h=>by
  cases a with
  |none=>exact .inr (by simpa using h)
  |some x=>exact .inl (by simpa using h)
 rcases u k with z|k;·exact(IS d r z).1
 rcases u k with z|k;·exact(IT d r z).1
 rcases u k with z|k;·exact(IU d r z).1
 rcases u k with z|k
 ·unfold D5 at z;obtain⟨j,x,-,y⟩:=Gw z;split at y;·rename_i l;cases y;exact l
  ·cases y
 ·exact(IV d r k).1
theorem ivB_parts{x:Iv}(h:EC x=true):A6 x.name=true/\openB x.ty=true/\VE x.x:=by
 unfold EC at h;simp only[zC]at h;exact⟨h.1.1,h.1.2,VE.of_valid h.2⟩
section
variable{V:Mem}{d:Ds}{m:Mm}
def Ku:Int×Int->Option Int:=λ_=>none
def H3:Int×Int->Bool:=λ_=>false
theorem Mk[Tab V](l:Ds.Ok V d)(hm:Mm.Ok V m):Tri xG 33 #[d.v,m.v] V λe V'=>
  (∃p kb bb,e=.returned (.tuple #[pv p,.int .i64 0])/\CV V d m p kb bb/\Bw V d m p kb bb V' Ku H3)∨(¬Am d m/\e=.returned (.tuple #[.pointer none,.int .i64 1])/\V.sub V'):=by
 refine NF ?_;refine(J8 scopeC newC l).call ?_;have bad:∀{V1:Mem},V.sub V1->¬Am d m->(∃p kb bb,xJ (.tuple #[.pointer none,.int .i64 1])=.returned (.tuple #[pv p,.int .i64 0])/\CV V d m p kb bb/\Bw V d m p kb bb V1 Ku H3)∨(¬Am d m/\xJ (.tuple #[.pointer none,.int .i64 1])=.returned (.tuple #[.pointer none,.int .i64 1])/\V.sub V1):=λW h=>.inr ⟨h,rfl,W⟩;by_cases hv:A7 d=true
 ·rw[if_pos hv];refine⟨_,_,_,rfl,λr=>(Kr l hm).call ⟨_,rfl,λq=>?_,λq=>bad (Mem.sub.refl _) λk=>q k.mem⟩,λr=>bad (Mem.sub.refl _) λk=>r (by rw[k.chk];rfl)⟩;have G:Am d m:=⟨hv,chk_zero r,q⟩;refine GenK.makeMap λkb y=>⟨some kb,rfl,GenK.makeMap λbb u=>⟨some bb,rfl,λp z=>?_⟩⟩;have c:bb≠kb:=λe=>by rw[e,Mem.set_same]at u;cases u
  have N:p≠bb:=λe=>by rw[e,Mem.set_same]at z;cases z
  have Z:p≠kb:=λe=>by rw[e,Mem.set_ne c.symm,Mem.set_same]at z;cases z
  have O:=Mem.sub_new y (.map #[] 0);have Y:=Mem.sub_new u (.map #[] 0);have b:=Mem.sub_new z (.cells (mrow d m kb bb).toArray 147 (0,0));have H:V bb=none:=by rw[Mem.set_ne c]at u;exact u
  have J:V p=none:=by rw[Mem.set_ne N,Mem.set_ne Z]at z;exact z
  refine .inl ⟨p,kb,bb,rfl,⟨G,l,hm,J,y,H,Z,N,c.symm⟩,(O.trans Y).trans b,Mem.set_same _ _ _,?_,?_⟩;·exact(((BP.made V kb).sub Y).sub b).congr λ_=>rfl
  ·exact((BP.made _ bb).sub b).congr λ_=>rfl
 ·rw[if_neg hv];refine⟨_,_,_,rfl,λh=>absurd h (by decide),λ_=>bad (Mem.sub.refl _) λk=>hv k.valid⟩
section
variable{V0:Mem}{p kb bb:Nat}{kn:Int×Int->Option Int}{bz:Int×Int->Bool}
theorem postOf{f:FuncId}{args:Array Value}{g:Nat->Rs}(h:Tri xG f args V (BC V0 d m p kb bb V kn bz g)):Tri xG f args V λe V1=>(∃v,e=.returned (.int .i64 v)/\BC V0 d m p kb bb V kn bz g (.returned (.int .i64 v)) V1)∨∃u,e=.panicked u/\BC V0 d m p kb bb V kn bz g e V1:=
 Tri.mono h λe V' ⟨rs,z,k⟩=>by
  subst z;cases rs with
  |ok a=>exact .inl ⟨a,rfl,.ok a,rfl,k⟩
  |bad e=>exact .inr ⟨_,rfl,.bad e,rfl,k⟩
theorem Pe(S:CV V0 d m p kb bb)(M:Bw V0 d m p kb bb V kn bz)(K:KnOk d m kn){b1 b2 b3 h k t3:Nat}{v:Iv}{T t:KB}{x:Int}(u:V b1=some (cell (pv p) h))(z:V b2=some (.cells v.row.toArray k (0,0)))(y:V b3=some (cell (.int .i64 x) t3))
  (hv:VE v.x) (l:E.Ok V0 v.x) (r:Al d (AQ d T) v.x=(t,0)) (q:This d m T x):
  Tri xG 78 #[pv b1,pv b2,pv b3] V (BC V0 d m p kb bb V kn bz λn=>AD d m (Ay d m n) x v.x):=by
 refine Oj (R:=BC V0 d m p kb bb V kn bz λn=>AD d m (Ay d m n) x v.x) ?_;exact⟨_,Ax u,nn,_,_,_,_,An z 2 4 (by simp[Iv.row]),_,Ax y,postOf (exprAll S (F5 d m kn bz) v.x T t x V kn bz hv l r q M K (Nat.le_refl _))⟩
theorem Ml(S:CV V0 d m p kb bb)(M:Bw V0 d m p kb bb V kn H3)(K:KnOk d m kn){v:Iv}{x:Int}(hv:v∈d.invs)(N:This d m v.ty x):
  Tri xG 36 #[pv p,v.v,.int .i64 x] V λe V'=>e=.returned (.bool (EK d m v.x x))/\CL kb bb V V'/\∃kn',Bw V0 d m p kb bb V' kn' H3/\KnOk d m kn':=by
 refine NJ ?_;intro b1 k b2 u b3 z;have Z:=Mem.sub_new k (cell (pv p) 90);have r:=Mem.sub_new u (.cells v.row.toArray 99 (0,0));have y:=Mem.sub_new z (cell (.int .i64 x) 3);have s:=Z.trans (r.trans y);have l:=(ivB_parts ((Hj S.good.valid).2.2.2 v hv)).2.2;obtain⟨-,c2⟩:=(Kc S.good.chk).2 v hv;refine Tri.mono (tryC S (M.grow s) (g:=λn=>AD d m (Ay d m n) x v.x) (caps:=[pv b1,pv b2,pv b3]) Tryz.call78 λV1 h=>
  Pe S ((M.grow s).grow h) K (h _ _ ((r.trans y) _ _ Ao)) (h _ _ (y _ _ Ao)) (h _ _ Ao) l (S.ds.invsOk v hv) c2 N) ?_
 rintro _ V' ⟨rs,rfl,Y,q,kn',b,H⟩;have J:=Kt Y;refine⟨_,_,rfl,λG=>⟨?_,(CL.of_sub s).trans q,kn',b,H⟩,λG=>⟨?_,(CL.of_sub s).trans q,kn',b,H⟩⟩
 ·rw[J];cases rs with
  |ok a=>rw[show decide (Rs.ok a=Rs.ok 1)=decide (a=1)by rw[decide_eq_decide];simp];rfl
  |bad c=>rfl
 ·rw[J];cases rs with
  |ok a=>exact absurd rfl G
  |bad c=>rfl
end
end
end Go.Proofs
namespace Go.Sx
open Go
open Classical
section
variable{P:Program}{V0 V1 V:Mem}{e:TypeId}{sz:Nat}{s:Sl}{vs:List Value}
def Bl(s:Sl)(c:Nat):Prop:=s.c≠0/\s.p=some ⟨c,0,none⟩
noncomputable def Mem.but(V:Mem)(s:Sl):Mem:=λc=>if Bl s c then none else V c
theorem Mem.but_sub(V:Mem)(s:Sl):(V.but s).sub V:=λc o h=>by
 grind[Mem.but]
theorem Mem.but_at{c:Nat}{o:Obj}(h:V c=some o)(k:¬Bl s c):V.but s c=some o:=by
 grind[Mem.but]
theorem Own.cases0(h:Own V0 V e sz s vs):(s.n=0/\s.c=0/\vs=[])∨(s.c≠0/\∃g k,s.p=some ⟨g,0,none⟩/\V0 g=none/\V g=some (.cells k e (0,0))/\s.n<=s.c/\s.c<=maxLen/\k.size=s.c*sz/\k.toList.take (s.n*sz)=vs):=by
 rcases h.at_ with u|⟨g,k,u,z,y,l,r⟩;·exact .inl u
 ·by_cases q:s.c=0;·simp_all
  simp_all
theorem Own.but(h:Own V0 V e sz s vs):Own (V.but s) V e sz s vs:=by
 refine⟨Mem.but_sub V s,h.len,?_⟩;rcases h.cases0 with k|⟨u,g,cur,k,y,z⟩;·exact .inl k
 ·refine .inr ⟨g,cur,k,?_,z⟩;unfold Mem.but;rw[if_pos ⟨u,k⟩]
theorem Own.apart(h:Own V0 V e sz s vs){c:Nat}(y:∀k,V c≠some (.cells k e (0,0))):¬Bl s c:=by
 rintro⟨z,l⟩;rcases h.cases0 with⟨-,u,-⟩|⟨-,g,k,u,r,q,-⟩;·exact z u
 simp_all
theorem Own.apart0(h:Own V0 V e sz s vs){c:Nat}{o:Obj}(z:V0 c=some o):¬Bl s c:=by
 rintro⟨u,y⟩;rcases h.cases0 with⟨-,k,-⟩|⟨-,g,cur,k,l,-⟩;·exact u k
 simp_all
theorem Own.apartN(h:Own V0 V e sz s vs){c:Nat}(k:V c=none):¬Bl s c:=h.apart λu=>by rw[k];nofun
theorem Own.sub_but(h:Own V0 V e sz s vs):V0.sub (V.but s):=λ_ _ k=>Mem.but_at (h.sub _ _ k) (h.apart0 k)
theorem Own.narrow(h:Own V1 V e sz s vs)(u:V0.sub V1):Own V0 V e sz s vs:=⟨u.trans h.sub,h.len,by
 rcases h.at_ with k|⟨g,cur,k,z,y⟩;·exact .inl k
 ·refine .inr ⟨g,cur,k,?_,y⟩;cases l:V0 g with
  |none=>rfl
  |some o=>rw[u _ _ l]at z;cases z⟩
theorem Own.put(h:Own V0 V e sz s vs){c:Nat}(u:¬Bl s c)(z:V0 c=none)(o:Obj):Own V0 (V.set c o) e sz s vs:=⟨h.sub.set z o,h.len,by
 rcases h.cases0 with k|⟨y,g,cur,k,l,r,q⟩;·exact .inl k
 ·refine .inr ⟨g,cur,k,l,?_,q⟩;rw[Mem.set_ne λe=>u ⟨y,by simp_all⟩];exact r⟩
theorem Mn(k:Int):∀(es:List MapEntry)(i:Nat),(∀e∈es,∃n,e.key=.int .i64 n)->
  ym (.int .i64) (.int .i64 k) es i=some ((es.findIdx? λe=>decide (e.key=.int .i64 k)).bind λj=>(es[j]?).map λe=>(i+j,e.val))
 |[],_,_=>rfl
 |e::es,i,h=>by
  obtain⟨s,y⟩:=h e (by simp);have l:=Mn k es (i+1) λx r=>h x (by simp[r]);unfold ym;simp only[y,Instr.sameNow,List.findIdx?_cons];by_cases z:k=s;·grind
  ·have u:¬s=k:=λe=>z e.symm;simp only[l];have q:(k==s)=false:=by simpa using z
   cases c:List.findIdx? (λe=>decide (e.key=vF .i64 k)) es with
   |none=>simp[u,q]
   |some j=>grind
theorem keyInt{kt:TypeId}(k:P.underlying kt=some (.int .i64)):KeyOf P kt (vF .i64) where
 inj:=λa b h=>by cases h;rfl
 find:=λa es w h=>by
  simp_all[Instr.findKey,zK,run_underlying,zL,Mn,Nat.zero_add]
 check:=λb a w=>by
  unfold Instr.checkKey;simp_all[zK,run_underlying,zL]
 stays:=λa w=>by
  have h:wi 10000 (.int .i64 a) (.int .i64 a)=true:=by
   rw[show(10000:Nat)=9999+1 from rfl];simp[wi]
  unfold Instr.keyThatStays;rw[if_pos h];rfl
end
end Go.Sx
namespace Go.Proofs
open Go Go.Sx
attribute [local irreducible] Go.Sx.Tri
def Fa(x:KB×Int):List Value:=[.string x.1,.int .i64 x.2]
theorem app31:AppP 31 3 1 AE:=appG Tryz.underlying31 (by kernel_rfl) (by kernel_rfl) (by kernel_rfl) (by kernel_rfl) (by kernel_rfl) (by decide) (by intro _;rfl) λx u hu=>by simp only[AE,yD,xD,or_false]at hu;subst hu;rfl
theorem app55:AppP 55 49 2 Fa:=appG Tryz.underlying55 (by kernel_rfl) (by kernel_rfl) (by kernel_rfl) (by kernel_rfl) (by kernel_rfl) (by decide) (by intro _;rfl) λx u hu=>by simp only[Fa,yD,xD,or_false]at hu;rcases hu with rfl|rfl<;>rfl
theorem app32:AppP 32 130 2 Nd.row:=appG Tryz.underlying32 (by kernel_rfl) (by kernel_rfl) (by kernel_rfl) (by kernel_rfl) (by kernel_rfl) (by decide) (by intro _;rfl) λx u hu=>by simp only[Nd.row,Sl.v,yD,xD,or_false]at hu;rcases hu with rfl|rfl<;>rfl
theorem H4{V:Mem}{b:Nat}{n:Int}{t:Nat}(h:V b=some (.cells #[.int .i64 n] t (0,0))):Ad V ⟨some ⟨b,0,none⟩,1,1⟩ 1 ([n].map AE):=
 Ad.cells (xs:=[n]) (row:=AE) h rfl (λ_=>rfl) rfl (by simp)
section
variable{V0 V V1:Mem}{d:Ds}{m:Mm}{p ib:Nat}{st:Sr}{o:Sl}
theorem As.at2{V:Mem}{b:Nat}{c:Array Value}{t off:Nat}{vs:List Value}{q:Mem->Prop}(h:V b=some (.cells c t (0,0)))(k:off+vs.length<=c.size)
  (u:q (V.set b (.cells (c.toList.take off++vs++c.toList.drop (off+vs.length)).toArray t (0,0)))):As (Aa (sa b) off) 0 vs V q:=by
 have e:Aa (sa b) off=some ⟨b,off,none⟩:=by
  unfold Aa Addr.add;simp only[Option.map_some];split<;>simp_all
 rw[e];exact⟨⟨b,off,none⟩,c,t,rfl,h,rfl,by simpa using k,by simpa using u⟩
def srow(d:Ds)(m:Mm)(o:Sl)(ib:Nat)(a:Int):List Value:=[Go.Sx.vS d.name,d.ts.v,d.gs.v,d.ps.v,d.ms.v,d.is.v,d.qs.v,d.bs.v,m.gs.v,m.ns.v,o.v,.map (some ib),.int .i64 a]
structure SrAt (V0:Mem)(d:Ds)(m:Mm)(p ib:Nat)(V:Mem)(st:Sr)(o:Sl):Prop where
 at_:V p=some (.cells (srow d m o ib st.again).toArray 150 (0,0))
 own:Sx.Own V0 V 3 1 o (st.order.flatMap AE)
 map:∃f:Int->Option Int,BP (vF .i64) V ib (λn=>(f n).map (vF .i64))/\∀n,(n∈st.order->∃j,f n=some j/\1<=j)/\(¬n∈st.order->f n=none)
 cap:st.order.length+BY m st<=m.nodes.length
 rng:∀x∈st.order,1<=x/\x<=(m.nodes.length:Int)
structure Kv (V0:Mem)(d:Ds)(m:Mm)(p ib:Nat):Prop where
 valid:A7 d=true
 mem:BQ d m=true
 ds:Ds.Ok V0 d
 mm:Mm.Ok V0 m
 p0:V0 p=none
 i0:V0 ib=none
 pi:p≠ib
theorem SrAt.cell(h:SrAt V0 d m p ib V st o)(i n:Nat)(hi:i+n<=13):V.rowp (sa p) i n=some (((srow d m o ib st.again).drop i).take n):=An h.at_ i n hi
theorem unS_le{a b:Sr}(h:∀x∈a.order,x∈b.order):BY m b<=BY m a:=by
 unfold BY;refine I8 λi _ u=>?_;simp only[zU,decide_eq_false_iff_not]at u⊢;exact λk=>u (h _ k)
theorem unS_lt{n:Int}(z:1<=n/\n<=(m.nodes.length:Int))(h:¬n∈st.order){a:Int}:BY m ⟨st.order++[n],a⟩<BY m st:=by
 unfold BY;obtain⟨i,rfl⟩:∃i:Nat,n=(i:Int)+1:=⟨(n-1).toNat,by omega⟩;refine Ks (λj _ u=>?_) i (List.mem_range.2 (by omega)) (by simpa using h) (by simp);simp only[zU,decide_eq_false_iff_not]at u⊢;exact λk=>u (vD _ k)
theorem ref_in{xs:List Fld}{vs:List Int}(h:AB d m xs vs=true){i:Nat}{f:Fld}{v:Int}(l:xs[i]?=some f)(z:vs[i]?=some v)(u:CQ f.ty=false)(r:v≠0):1<=v/\v<=(m.nodes.length:Int):=by
 obtain⟨b,k,y⟩:=H0 h l;rw[z]at k;cases k;unfold CQ at u;simp only[Bool.or_eq_false_iff,decide_eq_false_iff_not]at u;unfold AR at y;rw[if_neg u.1,if_neg u.2,decide_eq_true_eq]at y;rcases y with h|⟨q,c,-⟩;·exact absurd h r
 ·exact⟨q,c⟩
def SrPost(V0:Mem)(d:Ds)(m:Mm)(p ib:Nat)(st:Sr):Ending->Mem->Prop:=λe V'=>e=.returned (.tuple #[])/\∃o,SrAt V0 d m p ib V' st o
variable(V0 d m p ib)in
def EntC(N:Nat):Prop:=∀(st:Sr)(n:Int)(f:Nat) V o,SrAt V0 d m p ib V st o->1<=n/\n<=(m.nodes.length:Int)->BY m st<=N->BY m st<f->
 Tri xG 195 #[pv p,.int .i64 n] V (SrPost V0 d m p ib (A9 d m f st n))
theorem lookC{N:Nat}(K:EntC V0 d m p ib N){l s:Sl}{xs:List Fld}{vs:List Int}(S:Ad V0 l 2 (xs.map Fld.row))(U:Ad V0 s 1 (vs.map AE))(hv:AB d m xs vs=true){f:Nat}(h:SrAt V0 d m p ib V st o)(hN:BY m st<=N)(hf:BY m st<f):
  Tri xG 132 #[pv p,l.v,s.v] V (SrPost V0 d m p ib ((Dt xs vs).foldl (A9 d m f) st)):=by
 refine Tri.mono (x132 (R:=SrPost V0 d m p ib ((Dt xs vs).foldl (A9 d m f) st)) ?_) λ_ _ h=>h;have D:xs.length=vs.length:=by
  unfold AB at hv;rw[zC,decide_eq_true_eq]at hv;exact hv.1
 refine E3 xs.length (λi V1=>∃H,SrAt V0 d m p ib V1 ((tgtI xs vs i).foldl (A9 d m f) st) H) ⟨o,by rw[tgtI_zero];exact h⟩ ?_;rintro i V1 J hi ⟨H,b⟩ A;have k:=S.sub b.own.sub;have G:=U.sub b.own.sub;refine⟨λu=>?_,λI=>?_⟩
 ·obtain⟨x,hxm,M,-,c,hp,F,Z⟩:=k.get u;have n1:=k.n_eq;have n2:=G.n_eq;obtain⟨y,hym,L,-,hjl,Y,W,r⟩:=G.get (i:=i) (by omega);have hu:BY m ((tgtI xs vs i).foldl (A9 d m f) st)<=BY m st:=unS_le λz F=>foldP_sub d m f z _ _ F;have same:Dr (x,y)=false->∃X,SrAt V0 d m p ib V1 ((tgtI xs vs (i+1)).foldl (A9 d m f) st) X:=λB=>by
   rw[Ja M L,B,if_neg (by decide),List.append_nil];exact⟨H,b⟩
  refine⟨hp,F,u,_,_,Z,c188.call ⟨_,rfl,λC=>⟨k.succ u,A c _ (same ?_)⟩,λC=>⟨Y,W,by omega,_,r,λq=>⟨k.succ u,A c _ (same ?_)⟩,λq=>⟨Y,W,by omega,_,r,?_⟩⟩⟩⟩;·unfold Dr;rw[show CQ x.ty=true from C];rfl
  ·have q:y=0:=q;unfold Dr;rw[q];simp
  ·have O:CQ x.ty=false:=(Bool.not_eq_true _).mp C;have q:¬y=0:=q;have B:Dr (x,y)=true:=by unfold Dr;rw[O,decide_eq_true q];rfl
   refine Tri.mono (K _ y f V1 H b (ref_in hv M L O q) (by omega) (by omega)) ?_;rintro _ V2 ⟨rfl,X,h4⟩;refine⟨rfl,k.succ u,A c _ ⟨X,?_⟩⟩;rw[Ja M L,B,if_pos rfl,List.foldl_append,List.foldl_cons,List.foldl_nil];exact h4
 ·have hd:=(k.done I).2;rw[tgtI_all hd]at b;exact⟨rfl,H,b⟩
theorem enterC(S:Kv V0 d m p ib)(N:Nat)(ih:∀N',N'<N->EntC V0 d m p ib N'):EntC V0 d m p ib N:=by
 intro st n f V o h hn hN hf;obtain⟨f,rfl⟩:∃f',f=f'+1:=⟨f-1,by omega⟩;refine Tri.mono (x195 (R:=SrPost V0 d m p ib (A9 d m (f+1) st n)) ?_) λ_ _ h=>h;obtain⟨g,U,b⟩:=h.map;refine⟨nn,nn,_,h.cell 11 1 (by decide),Bu.key1 (k:=n) (keyInt wo) vG H2 U ?_⟩;by_cases l:n∈st.order
 ·obtain⟨j,D,hj1⟩:=(b n).1 l;rw[D];refine⟨j,rfl,λc=>?_,λ_=>⟨nn,nn,_,h.cell 12 1 (by decide),λc=>⟨nn,nn,?_⟩,λc=>?_⟩⟩
  ·have c:j=0:=c;omega
  ·have c:st.again=0:=c;have e:A9 d m (f+1) st n=⟨st.order,n⟩:=by unfold A9;rw[if_pos l,if_pos c]
   rw[e];refine As.at2 (off:=12) h.at_ (by simp[srow]) ⟨rfl,o,?_,h.own.put (h.own.apart λz y=>?_) S.p0 _,⟨g,U.set S.pi.symm,b⟩,h.cap,h.rng⟩;·rw[Mem.set_same];rfl
   ·rw[h.at_]at y;cases y
  ·have c:¬st.again=0:=c;have e:A9 d m (f+1) st n=st:=by unfold A9;rw[if_pos l,if_neg c]
   rw[e];exact⟨rfl,o,h⟩
 ·rw[(b n).2 l];have hcap:=h.cap;have hlt:=unS_lt (st:=st) hn l (a:=st.again);refine⟨0,rfl,λ_=>⟨nn,nn,o,h.cell 10 1 (by decide),λtb v=>?_⟩,λc=>absurd rfl c⟩;have pne:∀z,V p≠some (.cells z 3 (0,0)):=λz y=>by rw[h.at_]at y;cases y
  have ine:∀z,V ib≠some (.cells z 3 (0,0)):=λz y=>by
   obtain⟨e1,K,W,-⟩:=U.at_;rw[W]at y;cases y
  have hpt:tb≠p:=λe=>by rw[e,h.at_]at v;cases v
  have hit:tb≠ib:=λe=>by
   obtain⟨e1,K,W,-⟩:=U.at_;rw[e,W]at v;cases v
  have m4:=(BX S.mem).2.1;have O:=(h.own.but).new v (.cells #[.int .i64 n] 3 (0,0));refine app31 (s:=o) (u:=⟨some ⟨tb,0,none⟩,1,1⟩) (xs:=st.order) (ys:=[n]) rfl rfl O (H4 Ao) (by simp;omega) λH V2 ho2=>⟨H,rfl,nn,nn,?_⟩;have Z:=ho2.sub;have hp2:V2 p=some (.cells (srow d m o ib st.again).toArray 150 (0,0)):=Z _ _ (Mem.but_at h.at_ (h.own.apart pne));have hg2:BP (vF .i64) V2 ib λn=>(g n).map (vF .i64):=by
   obtain⟨e1,K,W,k2⟩:=U.at_;exact⟨e1,K,Z _ _ (Mem.but_at W (h.own.apart ine)),k2⟩
  have ho3:Sx.Own V0 V2 3 1 H ((st.order++[n]).flatMap AE):=ho2.narrow h.own.sub_but;refine As.at2 (off:=10) hp2 (by simp[srow]) ?_;obtain⟨V3,G⟩:∃V3,V3=V2.set p (.cells (srow d m H ib st.again).toArray 150 (0,0)):=⟨_,rfl⟩;have A:V2.set p (.cells ((srow d m o ib st.again).toArray.toList.take 10++[uL H]++(srow d m o ib st.again).toArray.toList.drop (10+[uL H].length)).toArray 150 (0,0))=V3:=G.symm;have I:V3 p=some (.cells (srow d m H ib st.again).toArray 150 (0,0)):=by rw[G,Mem.set_same]
  have hg3:BP (vF .i64) V3 ib λn=>(g n).map (vF .i64):=by rw[G];exact hg2.set S.pi.symm
  have pne2:∀z,V2 p≠some (.cells z 3 (0,0)):=λz y=>by rw[hp2]at y;cases y
  have M:Sx.Own V0 V3 3 1 H ((st.order++[n]).flatMap AE):=by rw[G];exact ho3.put (ho3.apart pne2) S.p0 _
  show ¬_/\_;rw[A];refine⟨nn,nn,_,An I 11 1 (by simp[srow]),nn,nn,H,An I 10 1 (by simp[srow]),Cg.key (k:=n) (keyInt wo) vG hg3 λob hob=>?_⟩;have hn2:=M.n_eq (λ_=>rfl) (by decide);have h5:SrAt V0 d m p ib (V3.set ib ob) ⟨st.order++[n],st.again⟩ H:=by
   refine⟨by rw[Mem.set_ne S.pi];exact I,M.put (M.apart λz y=>?_) S.i0 _,⟨λx=>if x=n then some (H.n:Int)else g x,hob.congr λx=>?_,λx=>⟨λr=>?_,λr=>?_⟩⟩,?_,λx r=>?_⟩
   ·obtain⟨e1,K,W,-⟩:=hg3.at_;rw[W]at y;cases y
   ·by_cases r:x=n<;>simp[r]
   ·by_cases F:x=n
    ·refine⟨H.n,by simp[F],?_⟩;rw[hn2,zw,vH];omega
    ·obtain⟨j,D,hj1⟩:=(b x).1 (by simpa [F]using r);exact⟨j,by simp[F,D],hj1⟩
   ·have hx':¬x∈st.order/\¬x=n:=by simpa using r
    simp[hx'.2,(b x).2 hx'.1]
   ·show(st.order++[n]).length+_<=_;rw[zw,vH];omega
   ·rcases List.mem_append.1 r with r|r;·exact h.rng x r
    ·rw[List.mem_singleton.1 r];exact hn
  obtain⟨q,rfl⟩:∃q:Nat,n=(q:Int)+1:=⟨(n-1).toNat,by omega⟩;have L:=S.mm.sub h5.own.sub;have hdd:=S.ds.sub h5.own.sub;have hnn:=L.nodes.n_eq;obtain⟨x,X,r,-,hl2,hpx,hzx,B⟩:=L.nodes.get (i:=q) (by omega);have hty:=(BX S.mem).2.2.1 x X;obtain⟨K,c2⟩:=of_decide_eq_true hty;obtain⟨j,D⟩:∃j:Nat,x.ty=(j:Int):=⟨_,(Int.toNat_of_nonneg K).symm⟩;have htn:=hdd.types.n_eq;obtain⟨t,htm,ht,-,hl3,Y,hzt,C⟩:=hdd.types.get (i:=j) (by omega);have hI:IR ((q:Int)):=⟨by omega,by have:=(L.nodes.succ (i:=q) (by omega)).2;omega⟩;rw[show((q:Int)+1-1)=(q:Int)by omega];refine⟨nn,nn,Bc,m.ns,h5.cell 9 1 (by decide),hI,hpx,hzx,by omega,_,_,B,nn,nn,Bc,d.ts,h5.cell 1 1 (by decide),?_⟩;rw[D];have hfo:=En ht D;have J:=(BX S.mem).2.2.2.2 x X;rw[hfo]at J;refine⟨Y,hzt,by omega,Ah Y,_,_,C,Tri.mono (lookC (ih (BY m ⟨st.order++[(q:Int)+1],st.again⟩) (by omega)) (S.ds.typesOk t htm).fields (S.mm.nodesOk x X).rows J (f:=f) h5 (Nat.le_refl _) (by omega)) ?_⟩;rintro _ V5 ⟨rfl,o5,h6⟩;refine⟨rfl,rfl,o5,?_⟩;have e:A9 d m (f+1) st ((q:Int)+1)=(Dt t.fields x.f).foldl (A9 d m f) ⟨st.order++[(q:Int)+1],st.again⟩:=by
   rw[A9,if_neg l];unfold EJ;rw[show((q:Int)+1-1).toNat=q by omega,r];show(Dt (BV d x.ty) x.f).foldl _ _=_;rw[hfo]
  rw[e];exact h6
theorem entAll(S:Kv V0 d m p ib):∀N,EntC V0 d m p ib N:=λN=>yS N λN h=>enterC S N h
end
section
variable{V:Mem}{d:Ds}{m:Mm}
theorem Pf(hv:A7 d=true)(k:BQ d m=true)(l:Ds.Ok V d)(hm:Mm.Ok V m):Tri xG 76 #[d.v,m.v] V λe V'=>∃p ib o,e=.returned (pv p)/\SrAt V d m p ib V' (BM d m) o:=by
 refine Oi ?_;refine GenK.makeMap λib u=>⟨some ib,rfl,λp z=>?_⟩;have r:p≠ib:=λe=>by rw[e,Mem.set_same]at z;cases z
 have y:V p=none:=by rw[Mem.set_ne r]at z;exact z
 have b:=Mem.sub_new u (.map #[] 0);have q:=Mem.sub_new z (.cells (srow d m ⟨none,0,0⟩ ib 0).toArray 150 (0,0));have S:Kv V d m p ib:=⟨hv,k,l,hm,y,u,r⟩;have c:SrAt V d m p ib ((V.set ib (.map #[] 0)).set p (.cells (srow d m ⟨none,0,0⟩ ib 0).toArray 150 (0,0))) ⟨[],0⟩ ⟨none,0,0⟩:=
  ⟨Mem.set_same _ _ _,Own.nil (b.trans q) _ _,⟨λ_=>none,(((BP.made V ib).sub q)).congr λ_=>rfl,λ_=>⟨λh=>by simp at h,λ_=>rfl⟩⟩,by
   show 0+BY m ⟨[],0⟩<=_;unfold BY;have:=List.length_filter_le (λi:Nat=>!decide (((i:Int)+1)∈(⟨[],0⟩:Sr).order)) (List.range m.nodes.length);rw[List.length_range]at this;omega,λx h=>by simp at h⟩
 have hu:BY m ⟨[],0⟩<=m.nodes.length:=by have:=c.cap;simp at this;omega
 refine Tri.mono (lookC (entAll S m.nodes.length) l.globals hm.globals (BX k).2.2.2.1 (f:=m.nodes.length+1) c hu (by omega)) ?_;rintro _ V2 ⟨rfl,o,h⟩;exact⟨rfl,p,ib,o,rfl,h⟩
theorem Pg[Tab V](hv:A7 d=true)(k:BQ d m=true)(u:Ds.Ok V d)(hm:Mm.Ok V m):Tri xG 34 #[d.v,m.v] V λe V'=>∃o:Sl,e=.returned (.tuple #[.slice o.p o.n o.c,.int .i64 0])/\Sx.Own V V' 3 1 o ((BM d m).order.flatMap AE)/\(BM d m).order.length<=m.nodes.length/\∀x∈(BM d m).order,1<=x/\x<=(m.nodes.length:Int):=by
 refine NG ?_;refine(Kr u hm).call ⟨_,rfl,λ_=>Tri.mono (Pf hv k u hm) ?_,λh=>absurd k h⟩;rintro _ V2 ⟨p,ib,o,rfl,h⟩;have z:=h.cap;exact⟨_,rfl,nn,nn,o,h.cell 10 1 (by decide),o,rfl,h.own,by omega,h.rng⟩
end
end Go.Proofs
