/- Part 15: no statement of the seat is proved here. -/
import Derived.Test.YtgdmkmfchcflpaaGreatDoorPe14
set_option linter.unusedVariables false
set_option linter.unusedSimpArgs false
open Go.Proofs.Tryz renaming prog->xE,underlying34->ur,underlying5->uq,underlying9->xW,underlying116->u5
open Nat renaming div_le_self->uc,zero_le->ub
open Int renaming toNat_natCast->vM
open Go.IntKind renaming signed->zQ,bits->zR
open List renaming eq_nil_of_length_eq_zero->ya,map_append->yP,length_append->zw,mem_append->wZ,mem_singleton->zO,mapM_cons->wI,cons_append->zI,mem_of_getElem?->xQ,length_take->wX,length_map->wq,getElem?_map->y4,take_add_one->wh,take_append_drop->vz,flatten_append->yL,flatten_cons->uF,flatten_nil->ua,append_nil->xp,take_of_length_le->wH,replicate->yJ,length_cons->zy,mem_cons_of_mem->za,mem_cons_self->zb,flatMap_cons->yc,map_congr_left->vk,getElem?_append_left->vt,getElem?_append_right->vq,range->zB,mem_of_mem_take->wW,getElem?_eq_getElem->yu
open Go.Addr renaming add->zE
open List.cons renaming injEq->yE
open Go.Value renaming string->xN,int->xw
open Option.some renaming injEq->zF
open Go.Addr.mk renaming injEq->u3
namespace Go.Proofs
open Go Go.Sx
attribute [local irreducible] Go.Sx.Tri
def BlkP(P:P5)(p:Nat):Prop:=p=P.a∨p=P.b∨p=P.c∨p=P.d∨p=P.r
section
variable{W V V' D:Mem}{P:P5}{k:Dk}{s0:Sl}{st st':List Int×Bool}{Q Q':Mem->Mem->Prop}
theorem BG.over:Bc (BG P k s0 st):=by
 refine⟨λW V ⟨u,c,ok,g,h,G,z⟩=>?_,λW V h=>h.sub⟩;obtain⟨M,J⟩:∃M:Nat->Prop,M=λb=>BlkP P b∨BlkA u b:=⟨_,rfl⟩;have H:∀b,BlkP P b->M b:=λb w=>by rw[J];exact .inl w
 have N:∀b,BlkA u b->M b:=λb w=>by rw[J];exact .inr w
 refine⟨M,λb w=>?_,λb w=>?_,λV' q=>⟨u,c,ok,g,?_,G,z⟩⟩
 ·rw[J]at w;rcases w with(rfl|rfl|rfl|rfl|rfl)|w;·exact h.na
  ·exact h.nb
  ·exact h.nc
  ·exact h.nd
  ·exact h.nr
  ·exact(GM h.own w).1
 ·rw[J]at w;rcases w with(rfl|rfl|rfl|rfl|rfl)|w;·rw[h.va];simp
  ·rw[h.vb];simp
  ·rw[h.vc];simp
  ·rw[h.vd];simp
  ·rw[h.vr];simp
  ·obtain⟨-,A,z⟩:=GM h.own w;rw[z];simp
 ·have Z:=H P.a (.inl rfl);have w:=H P.b (.inr (.inl rfl));have z:=H P.c (.inr (.inr (.inl rfl)));have Y:=H P.d (.inr (.inr (.inr (.inl rfl))));have O:=H P.r (.inr (.inr (.inr (.inr rfl))));exact⟨Do Z,Do w,Do z,Do Y,Do O,q _ _ Z h.va,q _ _ w h.vb,q _ _ z h.vc,q _ _ Y h.vd,q _ _ O h.vr,h.ne,Hz h.own GB λb o w _ I=>⟨Do (N b w),q _ _ (N b w) I⟩,h.isb,h.gle⟩
structure DK (P:P5)(k:Dk)(s0:Sl)(st st':List Int×Bool)(Q Q':Mem->Mem->Prop):Prop where
 step:∀W V,Q W V->∃W1,W.sub W1/\BG P k s0 st W1 V/\∀V',BG P k s0 st' W1 V'->Q' W V'
theorem DK.base:DK P k s0 st st' (BG P k s0 st) (BG P k s0 st'):=⟨λW _ h=>⟨W,Mem.sub.refl _,h,λ_ h=>h⟩⟩
theorem DK.ql{e sz:Nat}{o:Sl}{vs:List Value}(h:DK P k s0 st st' Q Q'):DK P k s0 st st' (QL e sz Q o vs) (QL e sz Q' o vs):=⟨λW V ⟨W1,w,z⟩=>by
 obtain⟨r,q,H,J⟩:=h.step W1 V z;exact⟨r,w.sub.trans q,H,λV' G=>⟨W1,w,J V' G⟩⟩⟩
theorem DK.see(T:DK P k s0 st st' Q Q')(h:Ar D V Q):∃W u c ok g,Tw P k s0 W V u c ok g/\st=(c++strR k g,ok):=by
 obtain⟨W,-,-,w⟩:=h.use;obtain⟨W1,-,⟨u,c,ok,g,z,r,-⟩,-⟩:=T.step W V w;exact⟨W1,u,c,ok,g,z,r⟩
theorem twoB(T:DK P k s0 st (AT st).2 Q Q')(z:Bc Q')(h:Ar D V Q)(r:Bt D s0 k.data)(q:k.data.length<=2147483648)(H:AY k=true){R:Ending->Mem->Prop}(J:∀V',Ar D V' Q'->R (.returned (.int .i64 (AT st).1)) V'):
  Tri xE 81 #[.pointer (some ⟨P.a,0,none⟩),.pointer (some ⟨P.b,0,none⟩),.pointer (some ⟨P.c,0,none⟩),.pointer (some ⟨P.d,0,none⟩)] V R:=by
 obtain⟨W,w,A,G⟩:=h.use;obtain⟨W1,N,Z,Y⟩:=T.step W V G;refine Tri.mono (Ox Z (r.sub (w.trans N)) q H) ?_;rintro _ V' ⟨rfl,O⟩;exact J V' (Ar.mk z (Y V' O) w)
end
theorem app99:AppP 99 105 2 Vn.row:=appG Tryz.underlying99 (by kernel_rfl) (by kernel_rfl) (by kernel_rfl) (by kernel_rfl) (by kernel_rfl) (by decide) (by intro _;rfl) λx u h=>by simp only[Vn.row,Sl.v,List.mem_cons,List.not_mem_nil,or_false]at h;rcases h with rfl|rfl<;>rfl
def DirQ(D V:Mem)(a b:Sl)(vs:List Vn)(x:Dir):Prop:=Ar D V (QL 105 2 (QL 3 1 EmQ a (x.sizes.flatMap Am)) b (vs.flatMap Vn.row))/\(∀v∈vs,Ad D v.sl 1 (v.parts.map Am))/\vs.map Vn.p=x.all
def OpenR(V:Mem)(k:Dk):Ending->Mem->Prop:=λe V'=>V.sub V'/\∃a b:Sl,e=.returned (.tuple #[.agg #[a.v,b.v],.int .i64 (Au k).2])/\((Au k).2=0->∃D vs,V.sub D/\DirQ D V' a b vs (Au k).1)
theorem DirQ.dr{D V:Mem}{a b:Sl}{vs:List Vn}{x:Dir}(h:DirQ D V a b vs x):Gd V a b vs x:=by
 obtain⟨w,r,q⟩:=h;obtain⟨W,J,G,z⟩:=w.use;refine⟨?_,QL.rows (QL.over EmQ.over) (λ_=>rfl) (by decide) z,λv H=>(r v H).sub w.sub,q⟩;exact QL.rows (QL.over EmQ.over) (λ_=>rfl) (by decide) (QL.swap z)
theorem tdiv_ceil{n p:Int}(w:0<=n)(z:n<=12000)(r:32<=p)(H:p<=256):IntKind.wrap .i64 ((n+p-1).tdiv p)=((n.toNat+p.toNat-1)/p.toNat:Nat):=by
 obtain⟨a,rfl⟩:∃a:Nat,n=a:=⟨n.toNat,by omega⟩;obtain⟨b,rfl⟩:∃b:Nat,p=b:=⟨p.toNat,by omega⟩;have e:((a:Int)+b-1)=((a+b-1:Nat):Int):=by omega
 have h:(a+b-1)/b<=a+b-1:=uc _ _;rw[e,vM,vM,Int.tdiv_eq_ediv_of_nonneg (by omega),show((a+b-1:Nat):Int)/(b:Int)=(((a+b-1)/b:Nat):Int)from rfl];generalize(a+b-1)/b=q at h⊢;exact Eh ⟨by simp[IntKind.min,zQ,zR]<;>omega,by simp[IntKind.max,zQ,zR];omega⟩
section
variable{V:Mem}{k:Dk}{s:Sl}
theorem JK(E:Bt V s k.data)(S:k.data.length<=2147483648):Tri xE 55 #[k.v s] V (OpenR V k):=by
 obtain⟨R,hR⟩:∃R,R=OpenR V k:=⟨_,rfl⟩;rw[<-hR];refine NZ ?_;have bad:∀{er:Int}{a b:Sl}{V':Mem},(Au k).2=er->er≠0->V.sub V'->R (.returned (.tuple #[.agg #[.slice a.p a.n a.c,.slice b.p b.n b.c],.int .i64 er])) V':=λ{er a b V'} h h0 hs=>by
  rw[hR];exact⟨hs,a,b,by rw[h];rfl,λh'=>absurd (h.symm.trans h') h0⟩
 by_cases z:AY k=true;rotate_left
 ·have hp:=My E S;rw[if_neg z]at hp;refine hp.call ⟨_,_,rfl,λh=>absurd h (by decide),λ_=>bad (a:=Ah) (b:=Ah) ?_ (by decide) (Mem.sub.refl _)⟩;unfold Au;rw[if_pos (by simpa using z)]
 have hp:=My E S;rw[if_pos z]at hp;refine hp.call ⟨_,_,rfl,λ_=>⟨λh0=>?_,λh0=>⟨λh32=>bad (a:=Ah) (b:=Ah) ?_ (by decide) (Mem.sub.refl _),λh32=>?_⟩⟩,λh=>absurd rfl h⟩
 ·have Z:Bh k=[]:=ya (by omega);have ho:Au k=(⟨[],[]⟩,0):=by unfold Au;rw[if_neg (by rw[z];simp),if_pos Z]
  rw[hR];unfold OpenR;rw[ho];refine⟨Mem.sub.refl _,Ah,Ah,rfl,λ_=>⟨V,[],Mem.sub.refl _,?_,(λv z=>by cases z),rfl⟩⟩;exact QL.start (QL.over EmQ.over) (QL.start EmQ.over (Ar.mk EmQ.over (W:=V) (Mem.sub.refl V) (Mem.sub.refl V)))
 ·unfold Au;rw[if_neg (by rw[z];simp),if_neg (λh=>h0 (by rw[h];rfl)),if_pos h32]
 have Z:Bh k≠[]:=λh=>h0 (by rw[h];rfl);have ho:Au k=match EP k.page.toNat (strK k)with|none=>(⟨[],[]⟩,7)|some x=>(x,0):=by
  unfold Au;rw[if_neg (by rw[z];simp),if_neg Z,if_neg h32];rfl
 have hpg:=BF z;have form:∀{a b:Sl}{V':Mem},EP k.page.toNat (strK k)=none->V.sub V'->R (.returned (.tuple #[.agg #[.slice a.p a.n a.c,.slice b.p b.n b.c],.int .i64 7])) V':=λh hs=>bad (by rw[ho,h]) (by decide) hs;have e0:∀p,Aa (some (⟨p,0,none⟩:Addr)) 0=some ⟨p,0,none⟩:=λp=>by simp[Aa,zE]
 intro b6 hb6 b7 hb7 b8 hb8 b9 K Y T;simp only[e0];generalize hV6:((((V.set b6 _).set b7 _).set b8 _).set b9 _).set Y _=V6;have hTw:BG ⟨b7,b8,b9,Y,b6⟩ k s (strK k,true) V V6:=by
  have s6:=Mem.sub_new hb6 (.cells #[.slice none 0 0,.bool true] 86 (0,0));have s7:=Mem.sub_new hb7 (cell (pv b6) 84);have s8:=Mem.sub_new hb8 (cell (.int .i64 0) 3);have s9:=Mem.sub_new K (cell (.int .i64 ((Bh k).length:Nat)) 3);have O:=Mem.sub_new T (.cells #[.int .i64 k.page,s.v,.int .i64 k.syn,.int .i64 k.aft] 36 (0,0));rw[<-hV6];have no:∀{A B:Mem}{b:Nat},A.sub B->B b=none->A b=none:=λ{A B b} hs h=>by
   cases h':A b with
   |none=>rfl
   |some o=>rw[hs _ _ h']at h;cases h
  have t7:=s6.trans s7;have t8:=t7.trans s8;have t9:=t8.trans s9;refine⟨Ah,[],true,0,⟨no s6 hb7,no t7 hb8,no t8 K,no t9 T,hb6,(s8.trans (s9.trans O)) _ _ As,(s9.trans O) _ _ As,O _ _ As,Mem.set_same _ _ _,(s7.trans (s8.trans (s9.trans O))) _ _ As,λh=>?_,⟨t9.trans O,rfl,.inl ⟨rfl,rfl,rfl⟩⟩,(λx hx=>by cases hx),ub _⟩,rfl,by decide⟩;have h:b8=b9:=h;rw[<-h,Mem.set_same]at K;cases K
 have B0:Ar V V6 (BG ⟨b7,b8,b9,Y,b6⟩ k s (strK k,true)):=Ar.mk BG.over hTw (Mem.sub.refl V);obtain⟨P,hP⟩:∃P:P5,P=⟨b7,b8,b9,Y,b6⟩:=⟨_,rfl⟩;have ea:b7=P.a:=by rw[hP]
 have eb:b8=P.b:=by rw[hP]
 have ec:b9=P.c:=by rw[hP]
 have ed:Y=P.d:=by rw[hP]
 rw[<-hP]at B0;rw[ea,eb,ec,ed];have hS:=str_isB E.b;obtain⟨t1,ht1⟩:∃t1,t1=AT (strK k,true):=⟨_,rfl⟩;obtain⟨N,ht2⟩:∃N,N=AT t1.2:=⟨_,rfl⟩;obtain⟨r,ht3⟩:∃r,r=AT N.2:=⟨_,rfl⟩;have i1:=FD (s:=(strK k,true)) hS;rw[<-ht1]at i1;have i2:=FD i1.2;rw[<-ht2]at i2;have i3:=FD i2.2;rw[<-ht3]at i3;have w:EP k.page.toNat (strK k)=if t1.1≠26743 then none else if 1000<N.1∨30<r.1 then none else match Df k.page.toNat r.1.toNat (BT N.1.toNat r.2).2 with|none=>none|some v=>if v.2.2 then some ⟨(BT N.1.toNat r.2).1,v.1⟩else none:=by
  unfold EP;rw[ht3,ht2,ht1];rfl
 refine twoB DK.base BG.over B0 E S z λV7 B7=>?_;rw[<-ht1]at B7⊢;refine⟨_,rfl,λh1=>?_,λh1=>form (a:=Ah) (b:=Ah) (by rw[w,if_pos h1]) B7.sub⟩;refine twoB DK.base BG.over B7 E S z λV8 B8=>?_;rw[<-ht2]at B8⊢;refine⟨_,rfl,twoB DK.base BG.over B8 E S z λV9 B9=>?_⟩;rw[<-ht3]at B9⊢;refine⟨_,rfl,λh2=>form (a:=Ah) (b:=Ah) (by rw[w,if_neg (not_not_intro h1),if_pos (.inl h2)]) B9.sub,λh2=>⟨λh3=>form (a:=Ah) (b:=Ah) (by rw[w,if_neg (not_not_intro h1),if_pos (.inr h3)]) B9.sub,λh3=>?_⟩⟩;rw[if_neg (not_not_intro h1),if_neg (by omega)]at w;refine⟨λm xs V1=>∃(i:Nat)(a:Sl),m=N.1.toNat-i/\i<=N.1.toNat/\xs=[.slice a.p a.n a.c,.slice none 0 0,.int .i64 i]/\Ar V V1 (QL 3 1 (BG P k s (BT i r.2).2) a ((BT i r.2).1.flatMap Am)),N.1.toNat,
  ⟨0,Ah,rfl,ub _,rfl,QL.start BG.over B9⟩,?_⟩
 rintro m V10 H v15 v16 ⟨i,a,rfl,hi,q,B10⟩ J hJ;simp only[yE,and_true]at q;obtain⟨q1,q2,q3⟩:=q;cases AG _ _ q1;cases AG v15 Ah q2;cases Ax _ _ q3;obtain⟨l1,l2,l3⟩:=rdL_b i r.2 i3.2;refine⟨λhlt=>?_,λhge=>?_⟩
 ·refine twoB DK.base.ql (QL.over BG.over) B10 E S z λV11 G=>⟨_,rfl,λtb I=>?_⟩;refine ER DU (row:=Am) (x:=(AT (BT i r.2).2).1) (λ_=>rfl) BG.over G I (by omega) rfl rfl rfl λU V12 M=>⟨U,rfl,⟨by omega,by omega⟩,hJ _ _ _ (show N.1.toNat-(i+1)<N.1.toNat-i by omega) ⟨i+1,U,rfl,by omega,rfl,?_⟩⟩;rw[Lk];exact M
 obtain rfl:i=N.1.toNat:=by omega
 obtain⟨zs,hzs⟩:∃zs,zs=(BT N.1.toNat r.2).1:=⟨_,rfl⟩;obtain⟨t4,ht4⟩:∃t4,t4=(BT N.1.toNat r.2).2:=⟨_,rfl⟩;rw[<-hzs,<-ht4]at w;rw[<-ht4]at l2;rw[<-hzs]at l3 l1;rw[<-hzs,<-ht4]at B10;clear hJ;refine⟨λm xs V1=>∃(i:Nat)(b:Sl)(D:Mem)(vs:List Vn)(y:List (Int×List Int))(st:List Int×Bool),m=r.1.toNat-i/\i<=r.1.toNat/\xs=[.slice H.p H.n H.c,.slice b.p b.n b.c,.int .i64 0,.int .i64 i]/\Df k.page.toNat i t4=some (y,st)/\V.sub D/\
   Ar D V1 (QL 105 2 (QL 3 1 (BG P k s st) H (zs.flatMap Am)) b (vs.flatMap Vn.row))/\(∀v∈vs,Ad D v.sl 1 (v.parts.map Am))/\vs.map Vn.p=y/\vs.length=i,r.1.toNat,
  ⟨0,Ah,V,[],[],t4,rfl,ub _,rfl,rfl,Mem.sub.refl _,QL.start (QL.over BG.over) B10,(λv z=>by cases z),rfl,rfl⟩,?_⟩
 rintro m V11 v17 v18 v19 v20 ⟨i,b,D,vs,y,st,rfl,hi2,q,hrd,hD,G,hvs,hvp,hvl⟩ J1 hJ1;simp only[yE,and_true]at q;obtain⟨q1,q2,q3,q4⟩:=q;cases AG _ _ q1;cases AG _ _ q2;cases Ax _ _ q3;cases Ax _ _ q4;obtain⟨c1,c2,c3⟩:=rdV_b i t4 _ l2 hrd;refine⟨λhlt=>?_,λhge2=>?_⟩
 ·have i5:=FD c2;have L:=JJ k.page.toNat i t4;rw[hrd,Option.bind_some]at L;dsimp only at L c1 c2 c3 i5;refine twoB DK.base.ql.ql (QL.over (QL.over BG.over)) G (E.sub hD) S z λV12 M=>⟨_,rfl,λX=>form ?_ (hD.trans M.sub),λX=>?_⟩;·rw[w,rdV_gone (n:=i+1) (by rw[L,FE,if_pos X];rfl) _ (by omega)]
  obtain⟨W1,u1,cc1,ok1,g1,C,-⟩:=(DK.base (st':=st)).ql.ql.see M;obtain⟨nb,hnb⟩:∃nb,nb=((AT st).1.toNat+k.page.toNat-1)/k.page.toNat:=⟨_,rfl⟩;have hck:=tdiv_ceil (n:=(AT st).1) (p:=k.page) i5.1.1 (by omega) (by omega) hpg.2.1;rw[<-hnb]at hck;refine⟨by simp,k.page,At C.vd 0 1 (by simp),⟨by have:=i5.1;unfold in16 at this;omega,by have:=i5.1;unfold in16 at this;omega⟩,⟨by have:=i5.1;unfold in16 at this;omega,by have:=i5.1;unfold in16 at this;omega⟩,by simp,k.page,At C.vd 0 1 (by simp),by omega,?_⟩;rw[hck];rw[FE,if_neg X,Option.map_some,<-hnb]at L;have hnle:nb<=20000:=by
   rw[hnb];have:=uc ((AT st).1.toNat+k.page.toNat-1) k.page.toNat;have:=i5.1.2;omega
  have B13:Ar D V12 (QL 3 1 (QL 105 2 (QL 3 1 (BG P k s (AT st).2) H (zs.flatMap Am)) v18 (vs.flatMap Vn.row)) Ah (([]:List Int).flatMap Am)):=QL.start (QL.over (QL.over BG.over)) M;refine⟨λm xs V1=>∃(j:Nat)(o:Sl),m=nb-j/\j<=nb/\xs=[.int .i64 (AT st).1,.slice o.p o.n o.c,.int .i64 j]/\Ar D V1 (QL 3 1 (QL 105 2 (QL 3 1 (BG P k s (BT j (AT st).2).2) H (zs.flatMap Am)) v18 (vs.flatMap Vn.row)) o ((BT j (AT st).2).1.flatMap Am)),nb,
   ⟨0,Ah,rfl,ub _,rfl,B13⟩,?_⟩
  rintro m V13 v24 v25 v26 ⟨j,o,rfl,hj,q,B14⟩ J2 hJ2;simp only[yE,and_true]at q;obtain⟨q1,q2,q3⟩:=q;cases Ax _ _ q1;cases AG _ _ q2;cases Ax _ _ q3;obtain⟨m1,m2,m3⟩:=rdL_b j (AT st).2 i5.2;refine⟨λhlt2=>?_,λhge3=>?_⟩
  ·refine twoB DK.base.ql.ql.ql (QL.over (QL.over (QL.over BG.over))) B14 (E.sub hD) S z λV14 B15=>⟨_,rfl,λtb I=>?_⟩;refine ER DU (row:=Am) (x:=(AT (BT j (AT st).2).2).1) (λ_=>rfl) (QL.over (QL.over BG.over)) B15 I (by omega) rfl rfl rfl λU V15 B16=>⟨U,rfl,⟨by omega,by omega⟩,hJ2 _ _ _ (show nb-(j+1)<nb-j by omega) ⟨j+1,U,rfl,by omega,rfl,?_⟩⟩;rw[Lk];exact B16
  ·obtain rfl:j=nb:=by omega
   intro tb I;obtain⟨D2,hD2,hf2,B15⟩:=QL.pub (row:=Am) (QL.over (QL.over BG.over)) (λ_=>rfl) (by decide) B14;refine ER app99 (row:=Vn.row) (x:=⟨(AT st).1,v25,(BT j (AT st).2).1⟩) (λ_=>rfl) (QL.over BG.over) B15 I (by omega) rfl rfl rfl λU V15 B16=>⟨U,rfl,⟨by omega,by omega⟩,hJ1 _ _ _ (show r.1.toNat-(i+1)<r.1.toNat-i by omega) ⟨i+1,U,D2,_,_,_,rfl,by omega,rfl,L,hD.trans hD2,B16,λv z=>?_,by rw[yP,hvp];rfl,by rw[zw,hvl];rfl⟩⟩;rcases wZ.1 z with z|z;·exact(hvs v z).sub hD2
   ·rw[zO.1 z];exact hf2
 ·obtain rfl:i=r.1.toNat:=by omega
  rw[hrd]at w;obtain⟨W1,u1,cc1,ok1,g1,C,hst⟩:=(DK.base (st':=st)).ql.ql.see G;have hok:st.2=ok1:=by rw[hst]
  have w:EP k.page.toNat (strK k)=if st.2 then some ⟨zs,y⟩else none:=w
  rw[hok]at w;refine⟨_,Al C.va,by simp,by simp,ok1,At C.vr 1 1 (by simp),λh=>?_,λh=>form (by rw[w,if_neg h]) (hD.trans G.sub)⟩;rw[w,if_pos h]at ho;have ho:Au k=(⟨zs,y⟩,0):=ho;rw[hR];unfold OpenR;rw[ho];refine⟨hD.trans G.sub,H,v18,rfl,λ_=>⟨D,vs,hD,?_,hvs,hvp⟩⟩;obtain⟨W,hDW,hW,hq⟩:=G.use;exact Ar.mk (QL.over (QL.over EmQ.over)) (QL.map hq λW1 _ hq1=>QL.map hq1 λW2 _ hq2=>hq2.sub) hDW
end
theorem Ll{α β:Type}{f:α->Option β}:∀(l:List α)(a:α),(l++[a]).mapM f=(l.mapM f).bind λr=>(f a).map λy=>r++[y]
 |[],a=>by
  cases h:f a<;>simp[wI,h]
 |x::l,a=>by
  rw[zI,wI,Ll l a,wI];cases f x with
  |none=>rfl
  |some z=>
   cases List.mapM f l with
   |none=>rfl
   |some r=>
    cases f a with
    |none=>rfl
    |some y=>rfl
theorem Lm{α β:Type}{f:α->Option β}:∀(l r:List α),l.mapM f=none->(l++r).mapM f=none
 |[],_,h=>by cases h
 |x::l,r,h=>by
  rw[wI]at h;rw[zI,wI];cases q:f x with
  |none=>rfl
  |some z=>
   rw[q]at h;cases w:List.mapM f l with
   |none=>rw[Lm l r w];rfl
   |some y=>rw[w]at h;cases h
theorem chunk_len{k:Dk}{x:Dir}{i:Int}{c:List Int}(w:AY k=true)(h:Cg k x i=some c):c.length<=256:=by
 unfold Cg at h;split at h
 ·rename_i s b r z;split at h;·cases h
  ·cases h;have:=K0 k b (xQ z);have:=BF w;rw[wX];omega
 ·cases h
theorem open_valid{k:Dk}(h:(Au k).2=0):AY k=true:=by
 cases w:AY k with
 |true=>rfl
 |false=>
  unfold Au at h;rw[if_pos w]at h;cases h
def LoadR(V:Mem)(d:Ds)(k:Dk)(i:Int):Ending->Mem->Prop:=λe V'=>V.sub V'/\∃(m:Mm)(er:Int),e=.returned (.tuple #[m.v,.int .i64 er])/\Mm.Ok V' m/\LoadQ d k i m er
section
variable{V:Mem}{k:Dk}{s:Sl}{d:Ds}{i:Int}
theorem JL[hT:Tab V](hd:Ds.Ok V d)(hb:Bt V s k.data)(hl:k.data.length<=2147483648):Tri xE 27 #[k.v s,d.v,.int .i64 i] V (LoadR V d k i):=by
 obtain⟨R,hR⟩:∃R,R=LoadR V d k i:=⟨_,rfl⟩;rw[<-hR];refine Nl ?_;have out:∀{er:Int}{V':Mem},V.sub V'->LoadQ d k i Fc er->R (.returned (.tuple #[.agg #[.slice none 0 0,.slice none 0 0],.int .i64 er])) V':=λhs h=>by
  rw[hR];exact⟨hs,Fc,_,rfl,zero_ok _,h⟩
 have C:Fc.plain=([],[]):=rfl;refine(Ij hd).call ⟨_,rfl,λh1=>?_,λh1=>out (Mem.sub.refl V) (.arg (λh=>h1 (decide_eq_true h)) rfl C)⟩;have E:AL d:=of_decide_eq_true h1;refine Tri.mono (JK hb hl) ?_;rintro _ V2 ⟨B,a,b,rfl,ho⟩;refine⟨a,b,_,rfl,λH=>?_,λH=>out B (.opn E H rfl C)⟩;obtain⟨D,vs,hD,G⟩:=ho H;have G:=G.dr;have h2:=G.rows.n_eq;have h3:vs.length=(Au k).1.all.length:=by rw[<-G.all,wq]
 have hB:=open_b (k:=k) hb.b;have hv:=open_valid H;refine⟨λN=>out B (.rng E H (.inl N) rfl C),λN=>⟨λhge=>out B (.rng E H (.inr (by omega)) rfl C),λhlt=>?_⟩⟩;obtain⟨j,rfl⟩:∃j:Nat,i=j:=⟨i.toNat,by omega⟩;have K:(0:Int)<=(j:Int)/\(j:Int)<((Au k).1.all.length:Int):=⟨by omega,by omega⟩;obtain⟨v,hvm,hvj,-,-,hp,hz2,S⟩:=G.rows.get (i:=j) (by omega);have T:(Au k).1.all[j]?=some v.p:=by rw[<-G.all,y4,hvj];rfl
 have w:loadK k j=(v.parts.mapM λp=>Cg k (Au k).1 p).map List.flatten:=by
  unfold loadK;rw[vM,T];rfl
 obtain⟨-,hv1,U,hv3⟩:=hB.v v.p (xQ T);have U:v.parts.length<=20000:=by
  have e:v.parts.length=v.p.2.length:=rfl;rw[e,U];have:=uc (v.p.1.toNat+k.page.toNat-1) k.page.toNat;have:=BF hv;omega
 refine⟨hp,by omega,by omega,Ak hp,v.size,v.sl,S,?_⟩;refine⟨λm xs V3=>∃(q:Nat)(o:Sl)(Z:List (List Int)),m=v.parts.length-q/\q<=v.parts.length/\xs=[.int .i64 0,.slice o.p o.n o.c,.int .i64 q]/\((v.parts.take q).mapM λp=>Cg k (Au k).1 p)=some Z/\Z.flatten.length<=256*q/\An Z.flatten/\Sx.Own V2 V3 5 1 o (Z.flatten.flatMap AS),v.parts.length,
  ⟨0,Ah,[],rfl,ub _,rfl,rfl,Nat.le_refl _,(λx hx=>by cases hx),Own.nil (Mem.sub.refl _) _ _⟩,?_⟩
 rintro m V3 v19 v20 v21 ⟨q,o,Z,rfl,hqle,hxs,O,hcl,hcb,A⟩ J hJ;simp only[yE,and_true]at hxs;obtain⟨q1,q2,q3⟩:=hxs;cases Ax _ _ q1;cases AG _ _ q2;cases Ax _ _ q3;have s3:=A.sub;have I:=(G.parts v hvm).sub s3;refine⟨λz=>?_,λhge2=>?_⟩
 ·obtain⟨p,hpm,hpq,-,hql,hp2,hz3,M⟩:=I.get z;have Y:=hv3 p hpm;have htk:v.parts.take (q+1)=v.parts.take q++[p]:=by rw[wh,hpq];rfl
  have r:((v.parts.take (q+1)).mapM λp=>Cg k (Au k).1 p)=(Cg k (Au k).1 p).map λy=>Z++[y]:=by
   rw[htk,Ll,O];rfl
  refine⟨hp2,hz3,z,p,M,Tri.mono (MD (G.sub s3) ((hb.sub B).sub s3) hl hv (λy hy=>(hB.s y hy).1) Y.1 (by have:=Y.2;omega)) ?_⟩;rintro _ V4 ⟨s4,hc⟩;cases L:Cg k (Au k).1 p with
  |none=>
   rw[L]at hc r;dsimp only at hc;subst hc;refine⟨Ah,7,rfl,λh=>absurd h (by decide),λ_=>out ((B.trans s3).trans s4) (.form E H K ?_ rfl C)⟩;have:v.parts.mapM (λp=>Cg k (Au k).1 p)=none:=by
    rw[<-vz (q+1) v.parts];exact Lm _ _ r
   rw[w,this];rfl
  |some c=>
   rw[L]at hc r;obtain⟨u,rfl,hu⟩:=hc;have hcle:=chunk_len hv L;refine⟨u,0,rfl,λ_=>?_,λh=>absurd rfl h⟩;refine Ek (s:=v20) (u:=u) (xs:=Z.flatten) (ys:=c) rfl rfl (Own.growS A s4) hu.rows (by omega) λs' V5 ho5=>⟨s',rfl,I.succ z,hJ _ _ _ (show v.parts.length-(q+1)<v.parts.length-q by omega) ⟨q+1,s',Z++[c],rfl,by omega,rfl,r,?_,?_,?_⟩⟩
   ·rw[yL,zw];simp only[uF,ua,xp];omega
   ·rw[yL];simp only[uF,ua,xp];exact hcb.app hu.b
   ·rw[yL];simp only[uF,ua,xp];exact ho5
 ·have hge3:=(I.done hge2).2;rw[wH hge3]at O;have X:=B.trans s3;haveI:Tab V3:=Tab.sub (V:=V) inferInstance X;refine Tri.mono (Lf (hd.sub X) (Own.bt A hcb) (by omega)) ?_;rintro _ V4 ⟨s4,m,er,rfl,hm,hdq⟩;refine⟨m.gs,m.ns,er,rfl,?_⟩;rw[hR];exact⟨X.trans s4,m,er,rfl,hm,.dec E H K (by rw[w,O];rfl) hdq⟩
end
theorem Oy:IdxP 60 Mm.row Mm.v 2:=by
 intro V l xs g first r Y St O w A I
 refine Nz (a:=l) (b:=.func (.func g) first.toArray r.toArray) ?_;refine Av xs.length St A ?_;intro i b V1 J E Z M;have h:=w i V1 Z;refine⟨λz=>?_,λH=>?_⟩
 ·obtain⟨x,hm,L,K,R,G,X,q⟩:=h.get z;refine⟨G,X,z,_,_,q,g,_,_,rfl,Y,Tri.mono (I i x V1 L Z) ?_⟩;rintro e V2 ⟨b,rfl,B,C⟩;exact⟨b,rfl,λN=>.inl ⟨i,rfl,B N⟩,λN=>⟨h.succ z,M R _ _ (C (by simpa using N))⟩⟩
 ·have e:i=xs.length:=by have:=(h.done H).2;omega
  simp_all
theorem MF:ConP 36 Mm.row Mm.v 2:=conG Oy No
theorem Ln:ConC 36 Mm.row Mm.v 2:=conC MF
def MS(mb:Nat)(f:KB->Option Value)(Q:Mem->Mem->Prop):Mem->Mem->Prop:=λW V=>∃W1,W.sub W1/\W mb=none/\BJ xN W1 mb f/\Q W1 V
section
variable{Q:Mem->Mem->Prop}{D V V' W W':Mem}{mb:Nat}{f f':KB->Option Value}
theorem Io(h:BJ xN W mb f)(w:W' mb=W mb):BJ xN W' mb f:=by
 obtain⟨es,c,z,r⟩:=h.at_;exact⟨es,c,by rw[w];exact z,r⟩
theorem JM(h:BJ xN W mb f):∃o,W mb=some o:=by
 obtain⟨es,c,w,-⟩:=h.at_;exact⟨_,w⟩
theorem Lo(z:Bc Q)(h:Q W V)(r:V.sub V'):∃W',W.sub W'/\Q W' V'/\∀b,V b=none->W' b=V' b:=by
 obtain⟨M,G,q⟩:=z.1 W V h;have H:=z.2 _ _ h;refine⟨Mem.minus V' M,λb o w=>?_,q.2 V' λb o _ J=>r _ _ J,λb w=>Cn λhm=>q.1 b hm w⟩;rw[Cn λhm=>by simp_all];exact r _ _ (H _ _ w)
theorem MS.over(r:Bc Q):Bc (MS mb f Q):=by
 refine⟨λW V ⟨W1,q,H,hm,z⟩=>?_,λW V ⟨W1,q,H,hm,z⟩=>q.trans (r.2 _ _ z)⟩;obtain⟨M,O,J⟩:=r.1 W1 V z;obtain⟨o,G⟩:=JM hm;have N:=r.2 _ _ z _ _ G;have A:¬M mb:=λh=>by simp_all
 refine⟨λb=>M b∨b=mb,λb w=>?_,λb w=>?_,λV' Z=>⟨Mem.minus V' M,λc x L=>?_,Do (.inr rfl),Io hm ?_,J.2 V' λb x w I=>Z b x (.inl w) I⟩⟩
 ·rcases w with w|rfl
  ·cases hw:W b with
   |none=>rfl
   |some x=>
    have Y:=O b w;rw[q _ _ hw]at Y;cases Y
  ·exact H
 ·rcases w with w|rfl;·exact J.1 b w
  ·rw[N];simp
 ·grind[Do,inr,Cn]
 ·rw[Cn A,Z mb o (.inr rfl) N,G]
theorem MS.start(z:Bc Q)(h:Ar D V Q)(w:V mb=none):Ar D (V.set mb (.map #[] 0)) (MS mb (λ_=>none) Q):=by
 obtain⟨W,r,q,H⟩:=h.use;obtain⟨W',J,G,N⟩:=Lo z H (Mem.sub_new w (.map #[] 0));exact Ar.mk (MS.over z) (W:=W) ⟨W',J,free q w,Io (BJ.made V mb) (N mb w),G⟩ r
theorem MS.get(w:Bc Q)(h:Ar D V (MS mb f Q)):BJ xN V mb f:=by
 obtain⟨W,r,q,W1,H,J,hm,z⟩:=h.use;exact hm.sub (w.2 _ _ z)
theorem MS.upd(z:Bc Q)(h:Ar D V (MS mb f Q)){r:Obj}(q:BJ xN (V.set mb r) mb f'):Ar D (V.set mb r) (MS mb f' Q):=by
 obtain⟨W,N,L,W1,Z,Y,hm,J⟩:=h.use;obtain⟨M,R,O⟩:=z.1 W1 V J;obtain⟨o,X⟩:=JM hm;have G:¬M mb:=λh=>by simp_all
 have ne:∀{b},M b->b≠mb:=λw e=>G (e▸w);refine Ar.mk (MS.over z) (W:=W) ⟨Mem.minus (V.set mb r) M,λb x w=>?_,Y,Io q (Cn G),O.2 _ λb x w B=>by grind[Mem.set_ne]⟩ N;have H:=Z _ _ w;have A:¬M b:=λh=>by simp_all
 have I:b≠mb:=λe=>by simp_all
 rw[Cn A,Mem.set_ne I];exact z.2 _ _ J _ _ H
end
structure CT (V:Mem)(l:Sl)(ms:List Mm):Prop where
 rows:Ad V l 2 (ms.map Mm.row)
 ok:∀m∈ms,Mm.Ok V m
theorem CT.sub{V V':Mem}{l:Sl}{ms:List Mm}(h:CT V l ms)(w:V.sub V'):CT V' l ms:=⟨h.rows.sub w,λm hm=>(h.ok m hm).sub w⟩
def Cr(d:Ds)(ms:List Mm):Bool:=!(ms.any λm=>!AB d m)
theorem EU{d:Ds}{ms:List Mm}:Cr d ms=true↔∀m∈ms,AB d m=true:=by
 unfold Cr;rw[Bool.not_eq_true',List.any_eq_false];exact⟨λh m hm=>by simpa using h m hm,λh m hm=>by simpa using h m hm⟩
section
variable{V:Mem}{d:Ds}{m:Mm}{l:Sl}{ms:List Mm}{p:Nat}
theorem Oz[Tab V](h:Ds.Ok V d)(hm:Mm.Ok V m)(w:V p=some (.cells d.row.toArray 30 (0,0))):PP 65 [m.v,pv p] V (.bool (!AB d m)):=by
 refine NA ?_;refine⟨d.name,d.ts,d.gs,d.ps,d.ms,d.is,d.qs,d.bs,At w 0 8 (by simp[Ds.row]),?_⟩;exact(H1 h hm).call ⟨_,rfl,rfl,rfl⟩
end
theorem zeroCells_u8(n:Nat):(Builtin.zeroCells (xw .u8 0).cells n).toList=(yJ n (0:Int)).flatMap AS:=K4 n
theorem appZ{V0 V:Mem}{s:Sl}{b:List Int}{m:Nat}{x y:Operand}{ty:Nat}{vals:Operand->Value}(r:vals x=.slice s.p s.n s.c)(H:vals y=.int .i64 m)(own:Sx.Own V0 V 5 1 s (b.flatMap AS))(h:b.length+m<=2147483648){q:Value->Mem->Prop}
  (J:∀s' V',Sx.Own V0 V' 5 1 s' ((b++yJ m 0).flatMap AS)->q (.slice s'.p s'.n s'.c) V'):GenK xE (.call {callee:=.builtin .append,args:=#[x,y],argTypes:=#[34,3]}) ty vals V q:=by
 have G:s.n=b.length:=own.n_eq (λ_=>rfl) (by decide);refine _root_.Go.Sx.GenK.appendZ (i:=ti 5) (z:=.int .u8 0) (n:=m) ur Tryz.underlying3 (by kernel_rfl) (by kernel_rfl) (by kernel_rfl) rfl (by decide) (of_decide_eq_true (by kernel_rfl)) (λu w=>by simp[Value.cells]at w;rw[w];rfl) r H own (by omega) λs' V' N=>J s' V' ?_;rw[List.flatMap_append,<-zeroCells_u8];exact N
structure BA (F:(Mem->Mem->Prop)->Mem->Mem->Prop):Prop where
 step:∀Qi W V,F Qi W V->∃W1,W.sub W1/\Qi W1 V/\(∀Qi' V',Qi' W1 V'->F Qi' W V')/\∀Qi' g x V',W1 g=none->Qi' (W1.set g x) V'->F Qi' (W.set g x) V'
 over:∀Qi,Bc Qi->Bc (F Qi)
def CQ(p t e sz:Nat)(Q:Mem->Mem->Prop)(vs:List Value):Mem->Mem->Prop:=λW V=>∃(o:Sl)(W1:Mem),W.sub W1/\W p=none/\W1 p=some (cell (.slice o.p o.n o.c) t)/\QL e sz Q o vs W1 V
section
variable{Q Q' Qi:Mem->Mem->Prop}{D V V' W:Mem}{p t e sz mb:Nat}{f:KB->Option Value}{o:Sl}{vs:List Value}
theorem CQ.over(A:Bc Q):Bc (CQ p t e sz Q vs):=by
 have z:∀{o},Bc (QL e sz Q o vs):=QL.over A;refine⟨λW V ⟨o,W1,H,J,r,q⟩=>?_,λW V ⟨o,W1,H,J,r,q⟩=>H.trans (z.2 _ _ q)⟩;obtain⟨M,G,N⟩:=z.1 W1 V q;have Z:=z.2 _ _ q _ _ r;have I:¬M p:=λh=>by rw[G p h]at r;cases r
 refine⟨λb=>M b∨b=p,λb w=>?_,λb w=>?_,λV' Y=>⟨o,Mem.minus V' M,λc x r=>?_,Do (.inr rfl),?_,N.2 V' λb x w L=>Y b x (.inl w) L⟩⟩
 ·rcases w with w|rfl
  ·cases hw:W b with
   |none=>rfl
   |some x=>
    have O:=G b w;rw[H _ _ hw]at O;cases O
  ·exact J
 ·rcases w with w|rfl;·exact N.1 b w
  ·rw[Z];simp
 ·grind[Do,inr,Cn]
 ·rw[Cn I];exact Y p _ (.inr rfl) Z
theorem JN{A B:Mem}{g:Nat}{x:Obj}(h:A.sub B):(A.set g x).sub (B.set g x):=λb y w=>by
 by_cases e:b=g;·subst e;rw[Mem.set_same]at w⊢;exact w
 ·rw[Mem.set_ne e]at w⊢;exact h _ _ w
theorem BA.base:BA λX=>X:=⟨λ_ W _ h=>⟨W,Mem.sub.refl _,h,λ_ _ h=>h,λ_ _ _ _ _ h=>h⟩,λ_ h=>h⟩
theorem BA.ql{F:(Mem->Mem->Prop)->Mem->Mem->Prop}(h:BA F):BA λX=>QL e sz (F X) o vs:=⟨λQi W V ⟨W1,w,J⟩=>by
 obtain⟨G,H,N,Z,Y⟩:=h.step Qi W1 V J;refine⟨G,w.sub.trans H,N,λQ' V' z=>⟨W1,w,Z Q' V' z⟩,λQ' g x V' r z=>⟨W1.set g x,EO w (JN w.sub) (λb y I O q=>?_),Y Q' g x V' r z⟩⟩;have ne:b≠g:=λe=>by rw[e]at q;rw[H _ _ q]at r;cases r
 rw[Mem.set_ne ne,Mem.set_ne ne];exact⟨O,q⟩,λQi A=>QL.over (h.over Qi A)⟩
theorem BA.ms{F:(Mem->Mem->Prop)->Mem->Mem->Prop}(h:BA F):BA λX=>MS mb f (F X):=⟨λQi W V ⟨W1,w,q,hm,G⟩=>by
 obtain⟨N,H,Z,Y,O⟩:=h.step Qi W1 V G;refine⟨N,w.trans H,Z,λQ' V' z=>⟨W1,w,q,hm,Y Q' V' z⟩,λQ' g x V' r z=>?_⟩;have ne:mb≠g:=λe=>by
  obtain⟨y,J⟩:=JM hm;rw[e]at J;rw[H _ _ J]at r;cases r
 exact⟨W1.set g x,JN w,by rw[Mem.set_ne ne];exact q,Io hm (Mem.set_ne ne),O Q' g x V' r z⟩,λQi A=>MS.over (h.over Qi A)⟩
theorem BA.cq{F:(Mem->Mem->Prop)->Mem->Mem->Prop}(h:BA F):BA λX=>CQ p t e sz (F X) vs:=⟨λQi W V ⟨o,W1,z,H,w,G⟩=>by
 obtain⟨N,J,Z,Y,O⟩:=(h.ql (e:=e) (sz:=sz) (o:=o) (vs:=vs)).step Qi W1 V G;refine⟨N,z.trans J,Z,λQ' V' r=>⟨o,W1,z,H,w,Y Q' V' r⟩,λQ' g x V' q r=>?_⟩;have ne:p≠g:=λe=>by rw[e]at w;rw[J _ _ w]at q;cases q
 exact⟨o,W1.set g x,JN z,by rw[Mem.set_ne ne];exact H,by rw[Mem.set_ne ne];exact w,O Q' g x V' q r⟩,λQi A=>CQ.over (h.over Qi A)⟩
theorem BA.at_{F:(Mem->Mem->Prop)->Mem->Mem->Prop}(h:BA F)(J:Ar D V (F Qi)):∃W1,D.sub W1/\Qi W1 V/\(∀Q' V',Bc Q'->Q' W1 V'->Ar D V' (F Q'))/\∀Q' g x V',Bc Q'->W1 g=none->Q' (W1.set g x) V'->D.sub (D.set g x)/\Ar (D.set g x) V' (F Q'):=by
 obtain⟨W,w,-,G⟩:=J.use;obtain⟨W1,q,N,Z,Y⟩:=h.step Qi W V G;exact⟨W1,w.trans q,N,λQ' V' z r=>Ar.mk (h.over Q' z) (Z Q' V' r) w,λQ' g x V' z H r=>⟨Mem.sub_new (free (w.trans q) H) x,Ar.mk (h.over Q' z) (Y Q' g x V' H r) (JN w)⟩⟩
theorem cq_new(z:Bc Q)(h:Q W V)(w:V p=none):CQ p t e sz Q [] W (V.set p (cell (.slice none 0 0) t)):=by
 obtain⟨W',r,q,H⟩:=Lo z h (Mem.sub_new w (cell (.slice none 0 0) t));exact⟨Ah,W',r,free (z.2 _ _ h) w,by rw[H p w];exact Mem.set_same _ _ _,W',Own.nil (Mem.sub.refl _) _ _,q⟩
theorem CQ.see(r:Bc Q)(h:CQ p t e sz Q vs W V):∃o:Sl,V p=some (cell (.slice o.p o.n o.c) t)/\Sx.Own W V e sz o vs:=by
 obtain⟨o,W1,z,N,q,H⟩:=h;have w:=QL.own r H;exact⟨o,w.sub _ _ q,EO w (z.trans w.sub) λg x _ J G=>⟨free z J,G⟩⟩
theorem CQ.push{α:Type}{ts:Nat}{row:α->List Value}{xs:List α}{x:α}(A:AppP ts e sz row)(T:∀x,(row x).length=sz)(Z:Bc Q)(h:CQ p t e sz Q (xs.flatMap row) W V){o:Sl}(Y:V p=some (cell (.slice o.p o.n o.c) t)){b:Nat}(J:V b=none)(U:xs.length+1<=2147483648){ty:Nat}{y z:Operand}{vals:Operand->Value}(hx:vals y=.slice o.p o.n o.c)(hy:vals z=.slice (sa b) 1 1){c:Array Value}(hc:c=(row x).toArray){K:Value->Mem->Prop}
  (hK:∀(w:Sl) V',W.sub V'->V' p=some (cell (.slice o.p o.n o.c) t)->(∀q:Mem->Prop,(∀V2,CQ p t e sz Q ((xs++[x]).flatMap row) W V2->q V2)->AQ (sa p) 0 [.slice w.p w.n w.c] V' q)->K (.slice w.p w.n w.c) V'):
  GenK xE (.call {callee:=.builtin .append,args:=#[y,z],argTypes:=#[ts,ts]}) ty vals (V.set b (.cells c e (0,0))) K:=by
 obtain⟨o2,W1,R,X,r,B⟩:=h;have O:=(QL.over Z).2 _ _ B _ _ r;obtain rfl:o2=o:=by
  rw[O]at Y;simp only[zF,Obj.cells.injEq,Array.mk.injEq,yE,and_true]at Y;exact AG _ _ Y
 refine pushW A T Z B J U hx hy hc λw V' C=>?_;have E:=QL.over (e:=e) (sz:=sz) (o:=w) (vs:=(xs++[x]).flatMap row) Z;have H:=E.2 _ _ C;refine hK w V' (R.trans H) (H _ _ r) λq I=>AQ.cell (H _ _ r) (I _ ?_);obtain⟨M,S,L⟩:=E.1 W1 V' C;have N:¬M p:=λh=>by rw[S p h]at r;cases r
 refine⟨w,Mem.minus (V'.set p (cell (.slice w.p w.n w.c) t)) M,λb y J=>?_,X,?_,L.2 _ λb y J hv=>?_⟩
 ·have G:=R _ _ J;have n1:¬M b:=λh=>by rw[S b h]at G;cases G
  have n2:b≠p:=λe=>by rw[e,X]at J;cases J
  rw[Cn n1,Mem.set_ne n2];exact H _ _ G
 ·rw[Cn N];exact Mem.set_same _ _ _
 ·rw[Mem.set_ne λhe=>N (by rw[<-he];exact J)];exact hv
theorem ms_look(w:Bc Q)(h:MS mb f Q W V):BJ xN V mb f:=by
 obtain⟨W1,r,q,hm,z⟩:=h;exact hm.sub (w.2 _ _ z)
theorem ms_upd{f':KB->Option Value}(H:Bc Q)(h:MS mb f Q W V){r:Obj}(q:BJ xN (V.set mb r) mb f'):MS mb f' Q W (V.set mb r):=by
 obtain⟨W1,O,J,hm,G⟩:=h;obtain⟨M,N,A⟩:=H.1 W1 V G;obtain⟨o,Z⟩:=JM hm;have Y:¬M mb:=λh=>by rw[N mb h]at Z;cases Z
 refine⟨Mem.minus (V.set mb r) M,λb x z=>?_,J,Io q (Cn Y),A.2 _ λb x z I=>by rw[Mem.set_ne λL=>Y (by rw[<-L];exact z)];exact I⟩;have w:=O _ _ z;have R:¬M b:=λh=>by rw[N b h]at w;cases w
 have X:b≠mb:=λe=>by rw[e,J]at z;cases z
 rw[Cn R,Mem.set_ne X];exact H.2 _ _ G _ _ w
end
section
variable{Q:Mem->Mem->Prop}{W V:Mem}{pp pd pk:Nat}{k:Dk}{s u:Sl}{c:List Int}{n:Int}{ns:List Int}{ss:List Sl}
theorem MG(U:Bc Q)(h:CQ pp 47 3 1 (CQ pd 41 34 1 Q (ss.flatMap BL)) (ns.flatMap Am) W V)(hk:W pk=some (.cells #[.int .i64 k.page,s.v,.int .i64 k.syn,.int .i64 k.aft] 36 (0,0)))(hp:1<=k.page/\k.page<=256)(hu:Bt W u c)(hc:c.length<=k.page.toNat)(hn1:ns.length+1<=2147483648)(hn2:ss.length+1<=2147483648):
  Tri xE 66 #[.int .i64 n,u.v,pv pp,pv pd,pv pk] V λe V'=>e=.returned (.tuple #[])/\∃(w:Sl)(g:Nat)(x:Obj),W g=none/\(∀A:Mem,A g=some x->Bt A w (Bz k.page.toNat c))/\CQ pp 47 3 1 (CQ pd 41 34 1 Q ((ss++[w]).flatMap BL)) ((ns++[n]).flatMap Am) (W.set g x) V':=by
 obtain⟨R,hR⟩:∃R:Ending->Mem->Prop,R=λe V'=>e=.returned (.tuple #[])/\∃(w:Sl)(g:Nat)(x:Obj),W g=none/\(∀A:Mem,A g=some x->Bt A w (Bz k.page.toNat c))/\CQ pp 47 3 1 (CQ pd 41 34 1 Q ((ss++[w]).flatMap BL)) ((ns++[n]).flatMap Am) (W.set g x) V':=⟨_,rfl⟩;rw[<-hR];refine NB ?_;have q:∀{vs},Bc (CQ pd 41 34 1 Q vs):=CQ.over U;obtain⟨op,O,-⟩:=CQ.see q h;have hun:=hu.n;refine⟨op,Al O,λb6 hb6=>CQ.push DU (x:=n) (λ_=>rfl) q h O hb6 hn1 rfl rfl rfl λo' V2 hW2 hpp2 hst=>⟨o',rfl,hst _ λV3 S=>?_⟩⟩;have N:=(CQ.over q).2 _ _ S;obtain⟨W1,hW1,Y,-,I⟩:=(BA.base.cq).step _ W V3 S;obtain⟨od,z,-⟩:=CQ.see U Y;have M:=q.2 _ _ Y;refine⟨od,Al z,by simp,k.page,At (N _ _ hk) 0 1 (by simp),⟨by omega,by omega⟩,?_⟩;refine Tri.mono (Jo (hu.sub N).rows (by omega)) ?_;rintro _ V4 ⟨s4,rfl,o4⟩;have L:=o4.sub;have e0:Aa (some (⟨pk,0,none⟩:Addr)) 0=some ⟨pk,0,none⟩:=by simp[Aa,zE]
 refine⟨s4,rfl,⟨by omega,by omega⟩,by rw[e0];exact At (L _ _ (N _ _ hk)) 0 1 (by simp),by simp,Al (L _ _ z),?_⟩;refine appZ (m:=(k.page-(u.n:Int)).toNat) rfl (by show xw .i64 _=_;congr 1;omega) o4 (by omega) λw V5 J=>⟨w,rfl,Al (J.sub _ _ z),Al (J.sub _ _ z),λb12 X=>?_⟩;have B:c++yJ (k.page-(u.n:Int)).toNat 0=Bz k.page.toNat c:=by
  unfold Bz;rw[show(k.page-(u.n:Int)).toNat=k.page.toNat-c.length by omega]
 rw[B]at J;have hpl:=Jx hc;have hpb:An (Bz k.page.toNat c):=hu.b.app λx T=>by rw[(List.mem_replicate.1 T).2];decide
 have hwn:w.n=k.page.toNat:=by rw[J.n_eq (λ_=>rfl) (by decide),hpl]
 obtain⟨g,r,hwp,H,C,hnc⟩:∃g r,w.p=some ⟨g,0,none⟩/\V3 g=none/\V5 g=some (.cells r 5 (0,0))/\w.n<=w.c:=by
  rcases J.at_ with⟨h1,-⟩|⟨g,r,h1,h2,S,Y,-⟩;·omega
  ·exact⟨g,r,h1,h2,S,Y⟩
 have E:W1 g=none:=free M H;have hg0:W g=none:=free hW1 E;have hbt:∀A:Mem,A g=some (.cells r 5 (0,0))->Bt A w (Bz k.page.toNat c):=λA hA=>by
  refine Own.bt (V0:=λ_=>none) (EO J (λb o G=>by cases G) λg' x G _ T=>?_) hpb;have:g'=g:=by
   have:=G.2;rw[hwp]at this;simp only[zF,u3,and_true]at this;exact this.symm
  subst this;rw[C]at T;exact⟨rfl,by rw[hA];exact T⟩
 obtain⟨W',hWW,h5,Z⟩:=Lo q Y J.sub;have h6:CQ pd 41 34 1 Q (ss.flatMap BL) (W1.set g (.cells r 5 (0,0))) V5:=by
  obtain⟨o,W2,a1,a2,a3,a4⟩:=h5;obtain⟨o2,W3,c1,c2,c3,c4⟩:=Y;have npg:pd≠g:=λe=>by rw[e]at z;rw[z]at H;cases H
  refine⟨o,W2,λb y G=>?_,by rw[Mem.set_ne npg];exact c2,a3,a4⟩;by_cases e:b=g
  ·subst e;rw[Mem.set_same]at G;refine a1 _ _ ?_;rw[Z b H,C];exact G
  ·rw[Mem.set_ne e]at G;exact a1 _ _ (hWW _ _ G)
 refine CQ.push app41 (row:=BL) (x:=w) (λ_=>rfl) U h6 (J.sub _ _ z) X hn2 rfl rfl rfl λo'' V7 hW7 hpd7 K=>⟨o'',rfl,K _ λV8 h8=>?_⟩;rw[hR];exact⟨rfl,w,g,_,hg0,hbt,I _ g _ V8 E h8⟩
end
end Go.Proofs
namespace Go.Proofs
open Go Go.Sx
theorem MH(n:Nat):∀(l:List (List Int))(s:SvS)(c:List Int),B2 n s (l++[c])=((Dg n (B2 n s l).1 c).1,(B2 n s l).2++[(Dg n (B2 n s l).1 c).2])
 |[],s,c=>rfl
 |x::l,s,c=>by
  rw[zI,B2,MH n l,B2];rfl
theorem MI(n:Nat):∀(l:List (List Int))(s:SvS)(b:List Int),C5 n s (l++[b])=(C5 n s l).bind λy=>Ew n y b
 |[],s,b=>by
  show C5 n s [b]=Ew n s b;rw[C5];cases Ew n s b<;>rfl
 |x::l,s,b=>by
  rw[zI,C5,C5];cases Ew n s x with
  |none=>rfl
  |some y=>exact MI n l y b
theorem MJ(n:Nat):∀(l r:List (List Int))(s:SvS),C5 n s l=none->C5 n s (l++r)=none
 |[],_,_,h=>by cases h
 |x::l,r,s,h=>by
  rw[C5]at h;rw[zI,C5];cases w:Ew n s x with
  |none=>rfl
  |some y=>rw[w]at h;exact MJ n l r y h
theorem knOf_snoc(C:List (List Int))(c x:List Int):knOf (C++[c]) x=if x=c then some (C.length:Int)else knOf C x:=by
 unfold knOf;rw[List.zipIdx_append,List.foldl_append];simp
structure HA (s:SvS)(j:Nat):Prop where
 tot:0<=s.tot
 totu:s.tot<=400000
 all:s.all.length<=30
 sizes:s.sizes.length<=1000+12300*s.all.length+j
 acc:s.acc.length<=12300*s.all.length+j
 parts:∀y∈s.all,y.2.length<=400
 num:∀x∈s.acc,0<=x.1/\x.1<=10000000
theorem svOne_b{n:Nat}{s:SvS}{j:Nat}{c:List Int}(h:HA s j)(r:j<=12300):HA (Dg n s c).1 (j+1):=by
 unfold Dg;have q:=h.sizes;have H:=h.acc;have z:=h.all;cases s.kn c with
 |some i=>exact⟨h.tot,h.totu,z,show s.sizes.length<=1000+12300*s.all.length+(j+1)by omega,show s.acc.length<=12300*s.all.length+(j+1)by omega,h.parts,h.num⟩
 |none=>
  refine⟨h.tot,h.totu,z,?_,?_,h.parts,λx w=>?_⟩
  ·show(s.sizes++[_]).length<=_;rw[zw];show s.sizes.length+1<=1000+12300*s.all.length+(j+1);omega
  ·show(s.acc++[_]).length<=_;rw[zw];show s.acc.length+1<=12300*s.all.length+(j+1);omega
  ·rcases wZ.1 w with w|w;·exact h.num x w
   ·rw[zO.1 w];exact⟨by show(0:Int)<=100+_;omega,by show(100:Int)+s.sizes.length<=_;omega⟩
theorem svOne_all(n:Nat)(s:SvS)(c:List Int):(Dg n s c).1.all=s.all/\(Dg n s c).1.tot=s.tot:=by
 unfold Dg;cases s.kn c<;>exact⟨rfl,rfl⟩
theorem Lq(n:Nat):∀(l:List (List Int))(s:SvS),(B2 n s l).1.all=s.all/\(B2 n s l).1.tot=s.tot/\(B2 n s l).2.length=l.length
 |[],_=>⟨rfl,rfl,rfl⟩
 |c::l,s=>by
  obtain⟨h,w,z⟩:=Lq n l (Dg n s c).1;obtain⟨r,q⟩:=svOne_all n s c;exact⟨h.trans r,w.trans q,by show(_::_).length=_;rw[zy,z];rfl⟩
theorem verB_len(v:Int×List Int):(CR v).length=2+2*v.2.length:=by
 rw[CR,zw,flat2];rfl
theorem vers_len:∀(l:List (Int×List Int)),(∀y∈l,y.2.length<=400)->(l.flatMap CR).length<=802*l.length
 |[],_=>by simp
 |v::l,h=>by
  have z:=vers_len l λy w=>h y (za _ w);have r:=h v zb;rw[yc,zw,verB_len,zy];omega
theorem dirB_len{x:Dir}(h:∀y∈x.all,y.2.length<=400):(BE x).length<=6+2*x.sizes.length+802*x.all.length:=by
 have:=vers_len x.all h;unfold BE;rw[zw,zw,flat2];show 6+_+_<=_;omega
theorem parts_le{page l:Nat}(h:32<=page)(w:page<=256)(z:l<=12000):(l+page-1)/page<=400:=by
 rw[Nat.div_le_iff_le_mul_add_pred (by omega)];have:32*400<=page*400:=Nat.mul_le_mul_right _ h;omega
def FF(x:KB):List Int:=x.data.toList.map λu=>(u.toNat:Int)
theorem unB_bs{c:List Int}(h:An c):FF (Cf c)=c:=by
 unfold FF Cf;rw[Jn,yP,List.map_map];have e:∀x∈c,((λu:UInt8=>(u.toNat:Int))∘λn:Int=>UInt8.ofNat n.toNat) x=x:=λx w=>by
  have:=h x w;simp only[Function.comp];rw[UInt8.toNat_ofNat_of_lt' (by show x.toNat<256;omega)];omega
 rw[vk e,List.map_id'];rfl
theorem bs_unB(x:KB):Cf (FF x)=x:=by
 have h:(Cf (FF x)).data.toList=x.data.toList:=by
  unfold FF Cf;rw[Jn,List.map_map];have e:∀u∈x.data.toList,((λn:Int=>UInt8.ofNat n.toNat)∘λu:UInt8=>(u.toNat:Int)) u=u:=λu _=>by simp
  rw[vk e,List.map_id'];rfl
 cases x with
 |mk d=>
  have:(Cf (FF ⟨d⟩)).data=d:=Array.toList_inj.1 h;cases w:Cf (FF ⟨d⟩)with
  |mk z=>rw[w]at this;rw[show z=d from this]
def El(f:List Int->Option Int)(x:KB):Option Value:=(f (FF x)).map (xw .i64)
theorem mKn_bs{f:List Int->Option Int}{c:List Int}(h:An c):El f (Cf c)=(f c).map (xw .i64):=by unfold El;rw[unB_bs h]
theorem mKn_add{f:List Int->Option Int}{c:List Int}(h:An c)(i:Int)(x:KB):@ite _ (x=Cf c) (Classical.propDecidable _) (some (xw .i64 i)) (El f x)=El (λy=>if y=c then some i else f y) x:=by
 by_cases w:x=Cf c;·rw[if_pos w,w,mKn_bs h,if_pos rfl];rfl
 ·rw[if_neg w];unfold El;have:¬FF x=c:=λe=>w (by rw[<-e,bs_unB]);simp only[if_neg this]
end Go.Proofs
namespace Go.Proofs
open Go Go.Sx
attribute [local irreducible] Go.Sx.Tri
def FG(Q:Mem->Mem->Prop):Prop:=∀W W' V,W'.sub W->Q W V->Q W' V
section
variable{Q Qi:Mem->Mem->Prop}{D V W:Mem}{e sz:Nat}{o:Sl}{vs:List Value}
theorem FG.em:FG EmQ:=λ_ _ _ w h=>Mem.sub.trans w h
theorem FG.ql(_:FG Q):FG (QL e sz Q o vs):=λW W' V h ⟨W1,w,z⟩=>⟨W1,EO w (h.trans w.sub) λg x _ r q=>⟨free h r,q⟩,z⟩
theorem BA.pub{F:(Mem->Mem->Prop)->Mem->Mem->Prop}{α:Type}{row:α->List Value}{xs:List α}(h:BA F)(J:Bc Q)(r:FG Q)(G:∀x,(row x).length=sz)(A:0<sz)(w:Ar D V (F (QL e sz Q o (xs.flatMap row)))):∃H,D.sub H/\Ad H o sz (xs.map row)/\Ar H V (F Q):=by
 obtain⟨W1,I,⟨M,q,N⟩,L,R⟩:=h.at_ w;rcases q.at_ with⟨X,S,B⟩|⟨g,cur,C,Z,Y,T⟩
 ·refine⟨D,Mem.sub.refl _,?_,L Q V J (r _ _ _ q.sub N)⟩;have z:xs=[]:=by
   cases xs with
   |nil=>rfl
   |cons x xs=>
    have z:=congrArg List.length B;rw[yc,zw,G]at z;simp at z;omega
  rw[z];exact⟨X,by omega,by omega,by simp,by simp⟩
 ·have E:(W1.set g (.cells cur e (0,0))).sub M:=λb y w=>by
   by_cases e:b=g;·subst e;rw[Mem.set_same]at w;rw[Y];exact w
   ·rw[Mem.set_ne e]at w;exact q.sub _ _ w
  obtain⟨O,K⟩:=R Q g (.cells cur e (0,0)) V J Z (r _ _ _ E N);refine⟨_,O,?_,K⟩;refine Own.rows (V0:=D) (EO q O λb x w U z=>?_) G A;have:b=g:=by
   have:=w.2;rw[C]at this;simp only[zF,u3,and_true]at this;exact this.symm
  subst this;rw[Y]at z;exact⟨free I Z,by rw[Mem.set_same];exact z⟩
end
def Ip(mb pp pd:Nat)(kn:List Int->Option Int)(a:Sl)(sizes:List Int)(b:Sl)(vs:List Vn)(ss:List Sl)(ns:List Int):Mem->Mem->Prop:=
 CQ pp 47 3 1 (CQ pd 41 34 1 (MS mb (El kn) (QL 105 2 (QL 3 1 EmQ a (sizes.flatMap Am)) b (vs.flatMap Vn.row))) (ss.flatMap BL)) (ns.flatMap Am)
structure Fe (D:Mem)(vs:List Vn)(ss:List Sl)(all:List (Int×List Int))(acc:List (Int×List Int)):Prop where
 parts:∀v∈vs,Ad D v.sl 1 (v.parts.map Am)
 all:vs.map Vn.p=all
 len:ss.length=acc.length
 at_:∀(i:Nat) u x,ss[i]?=some u->acc[i]?=some x->Bt D u x.2
theorem Fe.sub{D w:Mem}{vs:List Vn}{ss:List Sl}{all acc:List (Int×List Int)}(h:Fe D vs ss all acc)(z:D.sub w):Fe w vs ss all acc:=⟨λv r=>(h.parts v r).sub z,h.all,h.len,λi u x q H=>(h.at_ i u x q H).sub z⟩
theorem Fe.add{D:Mem}{vs:List Vn}{ss:List Sl}{all acc:List (Int×List Int)}(h:Fe D vs ss all acc){w:Sl}{y:Int×List Int}(hw:Bt D w y.2):Fe D vs (ss++[w]) all (acc++[y]):=by
 refine⟨h.parts,h.all,by rw[zw,zw,h.len];rfl,λi u x z r=>?_⟩;rcases Nat.lt_or_ge i ss.length with q|q
 ·rw[vt q]at z;rw[vt (by rw[<-h.len];exact q)]at r;exact h.at_ i u x z r
 ·rw[vq q]at z;rw[vq (by rw[<-h.len];exact q),<-h.len]at r;cases H:i-ss.length with
  |zero=>rw[H]at z r;cases z;cases r;exact hw
  |succ j=>rw[H]at z;cases z
theorem nsOver{mb pp pd:Nat}{kn:List Int->Option Int}{a b:Sl}{sizes:List Int}{vs:List Vn}{ss:List Sl}{ns:List Int}:Bc (Ip mb pp pd kn a sizes b vs ss ns):=CQ.over (CQ.over (MS.over (QL.over (QL.over EmQ.over))))
def HB(a:Sl)(sizes:List Int)(b:Sl)(vs:List Vn):Mem->Mem->Prop:=QL 105 2 (QL 3 1 EmQ a (sizes.flatMap Am)) b (vs.flatMap Vn.row)
theorem Ge{a b:Sl}{sizes:List Int}{vs:List Vn}:Bc (HB a sizes b vs):=QL.over (QL.over EmQ.over)
section
variable{F:(Mem->Mem->Prop)->Mem->Mem->Prop}{D V:Mem}{a b:Sl}{sizes:List Int}{vs:List Vn}
theorem BA.dr(h:BA F)(z:Ar D V (F (HB a sizes b vs))):Ad V a 1 (sizes.map Am)/\Ad V b 2 (vs.map Vn.row):=by
 obtain⟨W1,-,w,-⟩:=h.at_ z;exact⟨QL.rows (QL.over EmQ.over) (λ_=>rfl) (by decide) (QL.swap w),QL.rows (QL.over EmQ.over) (λ_=>rfl) (by decide) w⟩
end
theorem range_split{i n:Nat}(h:i<=n):∃r,zB n=zB i++r:=by
 refine⟨(zB n).drop i,?_⟩;have:(zB n).take i=zB i:=by rw[List.take_range,Nat.min_eq_left h]
 rw[<-this,vz]
theorem sum_le:∀(l:List (Int×List Int)),(∀y∈l,0<=y.1/\y.1<=12000)->0<=(l.map (·.1)).sum/\(l.map (·.1)).sum<=12000*l.length
 |[],_=>by simp
 |y::l,h=>by
  have r:=sum_le l λz w=>h z (za _ w);have q:=h y zb;rw[List.map_cons,List.sum_cons,zy];omega
def CU(d:Ds)(k:Dk)(ms:List Mm):Dk×Int×Int:=if AL d/\Cr d ms=true/\AY k=true then DH k (ms.map (Ai d))else(Ca,0,1)
def SaveR(V:Mem)(d:Ds)(k:Dk)(ms:List Mm):Ending->Mem->Prop:=λe V'=>V.sub V'/\∃s':Sl,e=.returned (.tuple #[(CU d k ms).1.v s',.int .i64 (CU d k ms).2.1,.int .i64 (CU d k ms).2.2])/\Bt V' s' (CU d k ms).1.data
section
variable{V:Mem}{d:Ds}{k:Dk}{s l:Sl}{ms:List Mm}
theorem MK[hT:Tab V](hd:Ds.Ok V d)(hb:Bt V s k.data)(hlen:k.data.length<=2147483648)(hl:CT V l ms):Tri xE 41 #[k.v s,d.v,l.v] V (SaveR V d k ms):=by
 obtain⟨R,hR⟩:∃R,R=SaveR V d k ms:=⟨_,rfl⟩;rw[<-hR];have fin:∀{k':Dk}{n er:Int}{s':Sl}{V':Mem},CU d k ms=(k',n,er)->Bt V' s' k'.data->V.sub V'->R (.returned (.tuple #[.agg #[.int .i64 k'.page,.slice s'.p s'.n s'.c,.int .i64 k'.syn,.int .i64 k'.aft],.int .i64 n,.int .i64 er])) V':=λ{k' n er s' V'} h hbt hs=>by
  rw[hR];unfold SaveR;rw[h];exact⟨hs,s',rfl,hbt⟩
 have O:∀{er:Int}{V':Mem},CU d k ms=(Ca,0,er)->V.sub V'->R (.returned (.tuple #[.agg #[.int .i64 0,.slice none 0 0,.int .i64 0,.int .i64 0],.int .i64 0,.int .i64 er])) V':=λh hs=>fin (s':=Ah) h Bt.nil hs;refine NY ?_;have e0:∀p,Aa (some (⟨p,0,none⟩:Addr)) 0=some ⟨p,0,none⟩:=λp=>by simp[Aa,zE]
 intro pk hpk0;simp only[e0];generalize hV1:V.set pk _=V1;have s1:V.sub V1:=hV1▸Mem.sub_new hpk0 _;have hpk1:V1 pk=some (.cells #[.int .i64 k.page,s.v,.int .i64 k.syn,.int .i64 k.aft] 36 (0,0)):=by rw[<-hV1];exact Mem.set_same _ _ _
 haveI:Tab V1:=Tab.sub (V:=V) inferInstance s1;refine(Ij (hd.sub s1)).call ⟨_,rfl,λh1=>?_,λh1=>O (by unfold CU;rw[if_neg λh=>h1 (decide_eq_true h.1)]) s1⟩;have hr:AL d:=of_decide_eq_true h1;intro bd hbd;simp only[e0];generalize hV2:V1.set bd _=V2;have s12:V1.sub V2:=hV2▸Mem.sub_new hbd _;have s2:=s1.trans s12;have hcell:V2 bd=some (.cells d.row.toArray 30 (0,0)):=by rw[<-hV2];exact Mem.set_same _ _ _
 have hpk:=s12 _ _ hpk1;haveI:Tab V2:=Tab.sub (V:=V) inferInstance s2;have hl2:=hl.sub s2;have hd2:=hd.sub s2;have hb2:=hb.sub s2;have rk:=At hpk 0 4 (by simp);refine(Ln (l:=l) (first:=[]) (caps:=[pv bd]) hl2.rows Tryz.call65 (λm=>!AB d m) λm hm=>Oz hd2 (hl2.ok m hm) hcell).call ⟨_,rfl,λhany=>O ?_ s2,λhany=>⟨k.page,s,k.syn,k.aft,rk,(FA hb2 hlen).call ⟨_,rfl,λhv=>?_,λhv=>O (by unfold CU;rw[if_neg λh=>hv h.2.2]) s2⟩⟩⟩
 ·unfold CU;rw[if_neg λh=>?_];have:=h.2.1;unfold Cr at this;rw[hany]at this;cases this
 have hok:Cr d ms=true:=by unfold Cr;simpa using hany
 have hval:=EU.1 hok;obtain⟨codes,hcodes⟩:∃codes,codes=ms.map (Ai d):=⟨_,rfl⟩;have hsv:CU d k ms=DH k codes:=by unfold CU;rw[if_pos ⟨hr,hok,hv⟩,hcodes]
 rw[hsv]at fin O;have hpg:=BF hv;refine⟨by simp,k.page,At hpk 0 1 (by simp),λh32=>O (by unfold DH;rw[if_pos h32]) s2,λh32=>⟨k.page,s,k.syn,k.aft,rk,?_⟩⟩;refine Tri.mono (JK hb2 hlen) ?_;rintro _ V6 ⟨s6,a,b,rfl,ho⟩;have s26:=s2.trans s6;refine⟨a,b,_,rfl,λhx0=>?_,λhx0=>O (by unfold DH;rw[if_neg h32,if_pos hx0]) s26⟩;obtain⟨D6,vs,hD6,B6,hvs,hvp⟩:=ho hx0;obtain⟨x,hx⟩:∃x,x=(Au k).1:=⟨_,rfl⟩;rw[<-hx]at B6 hvp;have hB:DirB k.page.toNat x:=hx▸open_b (k:=k) hb.b;obtain⟨pg,hpgn⟩:∃pg,pg=k.page.toNat:=⟨_,rfl⟩;have hpg32:32<=pg/\pg<=256:=by omega
 have H:DH k codes=match(zB x.sizes.length).mapM (λi:Nat=>Cg k x i)with
  |none=>(Ca,0,7)
  |some C=>match C5 pg ⟨x.sizes,x.all,knOf C,(x.all.map (·.1)).sum,[]⟩ codes with
   |none=>(Ca,0,4)
   |some s=>if codes=[]then(k,x.all.length,0)else let c:=CC k (s.acc++CS pg ⟨s.sizes,s.all⟩);if c.2=0 then(c.1,x.all.length,0)else(c.1,0,c.2):=by
  unfold DH;rw[if_neg h32,if_neg (not_not_intro hx0),hx,hpgn];rfl
 have hvn:vs.length=x.all.length:=by rw[<-hvp,wq]
 refine GenK.makeMap λmb hmb=>⟨some mb,rfl,?_⟩;have B7:Ar D6 (V6.set mb (.map #[] 0)) (MS mb (El (knOf [])) (HB a x.sizes b vs)):=by
  have e:El (knOf [])=λ_=>none:=by funext y;rfl
  rw[e];exact MS.start Ge B6 hmb
 refine⟨λm xs V8=>∃(i:Nat)(C:List (List Int)),m=x.sizes.length-i/\i<=x.sizes.length/\xs=[.int .i64 0,.int .i64 0,.int .i64 i]/\((zB i).mapM λi:Nat=>Cg k x i)=some C/\C.length=i/\∃D,D6.sub D/\Ar D V8 (MS mb (El (knOf C)) (HB a x.sizes b vs)),x.sizes.length,
  ⟨0,[],rfl,ub _,rfl,rfl,rfl,D6,Mem.sub.refl _,B7⟩,?_⟩
 rintro m V8 v31 v32 v33 ⟨i,C,rfl,hi,hxs,hC,hCl,D8,hD8,B8⟩ J0 hJ0;simp only[yE,and_true]at hxs;obtain⟨q1,q2,q3⟩:=hxs;cases Ax _ _ q1;cases Ax _ _ q2;cases Ax _ _ q3;have hd8:=(hD6.trans hD8).trans B8.sub;obtain⟨ra,rb⟩:=BA.base.ms.dr B8;have hdr:Gd V8 a b vs x:=⟨ra,rb,λv hv=>((hvs v hv).sub hD8).sub B8.sub,hvp⟩;have han:=ra.n_eq;refine⟨λhlt=>?_,λhge=>?_⟩
 ·have hil:i<x.sizes.length:=by omega
  have hb8:=hb2.sub hd8;have hsn:((zB (i+1)).mapM λi:Nat=>Cg k x i)=(Cg k x (i:Nat)).map λy=>C++[y]:=by
   rw[List.range_succ,Ll,hC];rfl
  refine⟨k.page,s,k.syn,k.aft,At (hd8 _ _ hpk) 0 4 (by simp),Tri.mono (MD hdr hb8 hlen hv (λy Y=>(hB.s y Y).1) (i:=(i:Int)) (by omega) (by have:=hB.n;omega)) ?_⟩;rintro _ V9 ⟨s9,hc⟩;cases hck:Cg k x (i:Nat)with
  |none=>
   rw[hck]at hc hsn;dsimp only at hc;subst hc;refine⟨Ah,7,rfl,λh=>absurd h (by decide),λ_=>O ?_ (s2.trans (hd8.trans s9))⟩;obtain⟨r,hr'⟩:=range_split (i:=i+1) (n:=x.sizes.length) hil;rw[H,hr',Lm _ _ hsn]
  |some c=>
   rw[hck]at hc hsn;obtain⟨u,rfl,hu⟩:=hc;refine⟨u,0,rfl,λ_=>?_,λh=>absurd rfl h⟩;have B9:=B8.grow s9;refine GenK.bstr ur uq xW rfl hu ⟨_,rfl,?_⟩;refine BQ.key (enc:=xN) (keyStr xW) u5 (MS.get Ge B9) λob hm'=>⟨⟨by omega,by have:=hB.n;omega⟩,hJ0 _ _ _ (show x.sizes.length-(i+1)<x.sizes.length-i by omega) ⟨i+1,C++[c],rfl,hil,rfl,hsn,by rw[zw,hCl];rfl,D8,hD8,?_⟩⟩;refine MS.upd Ge B9 (hm'.congr λy=>?_);rw[mKn_add hu.b];unfold El;rw[knOf_snoc,hCl]
 clear hJ0;obtain rfl:i=x.sizes.length:=by omega
 rw[hC]at H;dsimp only at H;obtain⟨tot,htot⟩:∃tot,tot=(x.all.map (·.1)).sum:=⟨_,rfl⟩;have htotb:=sum_le x.all λy Y=>⟨(hB.v y Y).1,(hB.v y Y).2.1⟩;have hc30:=hB.c;refine Cz (mk:=.int .i64) (b0:=0) Ax x.all.length (λj v V9=>V9=V8/\v=((x.all.take j).map (·.1)).sum) ⟨rfl,rfl⟩ ?_;rintro j v34 V9 J1 hj ⟨rfl,hv34⟩ hJ1;have hbn:=rb.n_eq;refine⟨λhlt=>?_,λhge2=>?_⟩
 ·obtain⟨w,hwm,hwj,-,hjl,hp,hz,hrow⟩:=rb.get hlt;have hwa:x.all[j]?=some w.p:=by rw[<-hvp,y4,hwj];rfl
  have hw:=hB.v w.p (xQ hwa);have hsl:=sum_le (x.all.take j) λy Y=>⟨(hB.v y (wW Y)).1,(hB.v y (wW Y)).2.1⟩;rw[<-hv34,wX]at hsl;have hw1:0<=w.size/\w.size<=12000:=⟨hw.1,hw.2.1⟩;refine⟨hp,hz,hlt,w.size,w.sl,hrow,⟨by omega,by omega⟩,rb.succ hlt,hJ1 (by omega) _ _ ⟨rfl,?_⟩⟩;rw[wh,hwa,yP,List.sum_append,hv34];simp[Vn.p]
 have hje:x.all.take j=x.all:=wH (by omega);rw[hje,<-htot]at hv34;subst hv34;rw[<-htot]at H htotb;clear hJ1;intro pp hpp;intro pd hpd;simp only[e0];have B11:Ar D8 ((V9.set pp (cell (.slice none 0 0) 47)).set pd (cell (.slice none 0 0) 41)) (Ip mb pp pd (knOf C) a x.sizes b vs [] []):=by
  obtain⟨W,hDW,hW,hq⟩:=B8.use;have c1:CQ pp 47 3 1 (MS mb (El (knOf C)) (HB a x.sizes b vs)) [] W _:=cq_new (MS.over Ge) hq hpp;obtain⟨W1,h1,h2,h3,-⟩:=BA.base.cq.step _ W _ c1;have c2:=h3 _ _ (cq_new (t:=41) (e:=34) (sz:=1) (MS.over Ge) h2 hpd);exact Ar.mk nsOver c2 hDW
 clear B8 B7 B6 hpp hpd ra rb hdr;have L:=hD6.trans hD8;have A:=L _ _ hpk;have hcell8:=L _ _ hcell;have hl8:=hl2.sub L;have hdd8:=hd2.sub L;have hb8:=hb2.sub L;haveI:Tab D8:=Tab.sub (V:=V2) inferInstance L;have hsD:V.sub D8:=s2.trans L;obtain⟨s0,hs0⟩:∃s0:SvS,s0=⟨x.sizes,x.all,knOf C,v34,[]⟩:=⟨_,rfl⟩;rw[<-hs0]at H;have hcl:codes.length=ms.length:=by rw[hcodes,wq]
 have hG:∀m∈ms,BR d m:=λm hm=>⟨hr.1,hr.2,hval m hm⟩;have S0:HA s0 0:=by
  rw[hs0];refine⟨htotb.1,show v34<=400000 by omega,hc30,by have:=hB.n;show x.sizes.length<=_;omega,ub _,λy Y=>?_,λy Y=>by cases Y⟩;obtain⟨y1,y2,y3,-⟩:=hB.v y Y;rw[y3,<-hpgn];exact parts_le hpg32.1 hpg32.2 (by omega)
 refine⟨λm xs V12=>∃(i:Nat)(a b:Sl)(D:Mem)(vs:List Vn)(ss:List Sl)(t:SvS),m=ms.length-i/\i<=ms.length/\xs=[.slice a.p a.n a.c,.slice b.p b.n b.c,.int .i64 t.tot,.int .i64 0,.int .i64 0,.int .i64 i]/\C5 pg s0 (codes.take i)=some t/\D8.sub D/\
   Ar D V12 (Ip mb pp pd t.kn a t.sizes b vs ss (t.acc.map (·.1)))/\Fe D vs ss t.all t.acc/\HA t 0,ms.length,
  ⟨0,a,b,D8,vs,[],s0,rfl,ub _,by rw[hs0];rfl,rfl,Mem.sub.refl _,by rw[hs0];exact B11,by rw[hs0];exact⟨λv hv=>(hvs v hv).sub hD8,hvp,rfl,λi u x hu=>by cases hu⟩,S0⟩,?_⟩
 have hb0:b.n=x.all.length:=by omega
 clear B11 hvs hvp hvn;rintro m V12 v38 v39 v40 v41 v42 v43 ⟨i,a1,b1,D,vs,ss,t,rfl,hi2,hxs,hst,hD,B12,hSD,I⟩ J2 hJ2;simp only[yE,and_true]at hxs;obtain⟨q1,q2,q3,q4,q5,q6⟩:=hxs;cases AG _ _ q1;cases AG _ _ q2;cases Ax _ _ q3;cases Ax _ _ q4;cases Ax _ _ q5;cases Ax _ _ q6;have E:=hD.trans B12.sub;refine⟨λhlt=>?_,λhge3=>?_⟩
 ·obtain⟨m,hm,hmi,-,hil,hp,hz,hrow⟩:=(hl8.rows.sub E).get hlt;have hG:=hG m hm;have hci:codes[i]?=some (Ai d m):=by rw[hcodes,y4,hmi];rfl
  have hsn:C5 pg s0 (codes.take (i+1))=Ew pg t (Ai d m):=by
   rw[wh,hci,Option.toList_some,MI,hst];rfl
  have full:C5 pg s0 (codes.take (i+1))=none->DH k codes=(Ca,0,4):=λh=>by
   have:=MJ pg (codes.take (i+1)) (codes.drop (i+1)) s0 h;rw[vz]at this;rw[H,this]
  refine⟨hp,hz,hlt,m.gs,m.ns,hrow,d.name,d.ts,d.gs,d.ps,d.ms,d.is,d.qs,d.bs,At (E _ _ hcell8) 0 8 (by simp[Ds.row]),?_⟩;refine Tri.mono (B12.run (R:=λe U'=>∃s:Sl,e=.returned s.v/\Bt U' s (Ai d m)) λU hU=>?_) ?_
  ·haveI:Tab U:=Tab.sub (V:=D8) inferInstance (hD.trans hU);exact JF hG (hdd8.sub (hD.trans hU)) ((hl8.ok m hm).sub (hD.trans hU))
  rintro _ V13 ⟨D13,hD13,⟨sc,rfl,hbc⟩,B13⟩;have hcn:=hbc.n;have hcl:=Gb hG;have htot0:=I.tot;have h13:=hD.trans hD13;have htr:V.sub V13:=hsD.trans (h13.trans B13.sub);have htot1:=I.totu;have hbn1:v39.n=t.all.length:=by
   have:=(BA.base.ms.cq.cq.dr B13).2.n_eq;rw[this,<-hSD.all,wq]
  refine⟨sc,rfl,⟨by omega,by omega⟩,λhbig=>O (full ?_) htr,λhbig=>⟨λh30=>O (full ?_) htr,λh30=>?_⟩⟩;·rw[hsn,Ew,if_pos (.inl (by omega))]
  ·rw[hsn,Ew,if_pos (.inr (by omega))]
  obtain⟨J,X⟩:∃J,J=AK pg (Ai d m):=⟨_,rfl⟩;have hsn2:C5 pg s0 (codes.take (i+1))=some {(B2 pg {t with tot:=t.tot+(Ai d m).length} J).1 with all:=(B2 pg {t with tot:=t.tot+(Ai d m).length} J).1.all++[(((Ai d m).length:Int),(B2 pg {t with tot:=t.tot+(Ai d m).length} J).2)]}:=by
   rw[hsn,Ew,if_neg (by omega),X]
  obtain⟨S,ht1⟩:∃S:SvS,S={t with tot:=t.tot+(Ai d m).length}:=⟨_,rfl⟩;rw[<-ht1]at hsn2;have hcle:(Ai d m).length<=12000:=by omega
  have S1:HA S 0:=by
   rw[ht1];exact⟨show 0<=t.tot+(Ai d m).length by omega,show t.tot+(Ai d m).length<=400000 by omega,I.all,I.sizes,I.acc,I.parts,I.num⟩
  have hpgi:(pg:Int)=k.page:=by omega
  have hD13':=h13;refine⟨by simp,k.page,At ((h13.trans B13.sub) _ _ A) 0 1 (by simp),?_⟩;rw[<-hpgi];refine Tri.mono (B13.run (R:=λe U'=>∃o:Sl,e=.returned o.v/\Ls U' o J) λU hU=>X▸Lg (hbc.sub hU) (by omega) (by omega) (by omega)) ?_;rintro _ V14 ⟨D14,hD14,⟨oc,rfl,hLs⟩,B14⟩;refine⟨oc,rfl,?_⟩;have hon:=hLs.n;have hcsl:J.length<=12300:=by
   rw[X,ES (by omega)];have:=uc ((Ai d m).length+pg-1) pg;omega
  have h14:=h13.trans hD14;have hpk14:=h14 _ _ A;have S14:Fe D14 vs ss S.all S.acc:=by rw[ht1];exact(hSD.sub hD13).sub hD14
  have B14':Ar D14 V14 (QL 3 1 (Ip mb pp pd S.kn v38 S.sizes v39 vs ss (S.acc.map (·.1))) Ah (([]:List Int).flatMap Am)):=by
   rw[ht1];exact QL.start nsOver B14
  have hck:∀c∈J,c.length<=pg:=λc hc=>(Hv (by omega) _ c (X▸hc)).2;refine⟨λmm xs V15=>∃(j:Nat)(a o:Sl)(D:Mem)(ss:List Sl),mm=J.length-j/\j<=J.length/\xs=[.slice a.p a.n a.c,.slice v39.p v39.n v39.c,.int .i64 (Ai d m).length,.slice o.p o.n o.c,.int .i64 j]/\D14.sub D/\
    Ar D V15 (QL 3 1 (Ip mb pp pd (B2 pg S (J.take j)).1.kn a (B2 pg S (J.take j)).1.sizes v39 vs ss ((B2 pg S (J.take j)).1.acc.map λy:Int×List Int=>y.1)) o ((B2 pg S (J.take j)).2.flatMap Am))/\Fe D vs ss S.all (B2 pg S (J.take j)).1.acc/\HA (B2 pg S (J.take j)).1 j,J.length,
   ⟨0,v38,Ah,D14,ss,rfl,ub _,by rw[hcn];rfl,Mem.sub.refl _,B14',S14,S1⟩,?_⟩
  rintro m2 V15 T v58 v59 v60 v61 ⟨j,a2,o2,D15,ss2,rfl,hj,hxs,G,Z,M,N⟩ J3 hJ3;simp only[yE,and_true]at hxs;obtain⟨q1,q2,q3,q4,q5⟩:=hxs;cases AG _ _ q1;cases AG _ _ q2;cases Ax _ _ q3;cases AG _ _ q4;cases Ax _ _ q5;obtain⟨z,hz1⟩:∃z,z=(B2 pg S (J.take j)).1:=⟨_,rfl⟩;obtain⟨pr,hpr⟩:∃pr,pr=(B2 pg S (J.take j)).2:=⟨_,rfl⟩;rw[<-hz1,<-hpr]at Z;rw[<-hz1]at M N;have hprl:pr.length<=J.length:=by
   rw[hpr,(Lq pg _ _).2.2,wX];omega
  refine⟨λhlt2=>?_,λhge4=>?_⟩
  ·have hjl:j<J.length:=by omega
   have hcj:=yu hjl;obtain⟨c,hc⟩:∃c,c=J[j]:=⟨_,rfl⟩;rw[<-hc]at hcj;have hcm:c∈J:=xQ hcj;have htk:J.take (j+1)=J.take j++[c]:=by rw[wh,hcj];rfl
   have hstep:B2 pg S (J.take (j+1))=((Dg pg z c).1,pr++[(Dg pg z c).2]):=by rw[htk,MH,<-hz1,<-hpr]
   obtain⟨u,hp1,B,hu⟩:=(hLs.sub G).get hcj;have hu15:=hu.sub Z.sub;have hrow15:V15.rowp oc.p (j*1) 1=some [u.v]:=by
    obtain⟨u',hp1',hrow1',hu'⟩:=((hLs.sub G).sub Z.sub).get hcj;cases hop:oc.p with
    |none=>exact absurd hop hp1
    |some ad=>
     rw[hop]at B;exact Z.sub.row B
   refine⟨hp1,by omega,hlt2,u,hrow15,GenK.bstr ur uq xW rfl hu15 ⟨_,rfl,?_⟩⟩;obtain⟨W1,hW1,hms,hto,-⟩:=BA.base.cq.cq.ql.at_ Z;have hmv:=ms_look Ge hms;refine Bl.key2 (enc:=xN) (keyStr xW) u5 Hl hmv ?_;rw[mKn_bs hu.b];have SB16:=svOne_b (n:=pg) (c:=c) N (by omega);cases hkn:z.kn c with
   |some q=>
    have hone:Dg pg z c=(z,q):=by unfold Dg;rw[hkn]
    refine⟨q,true,rfl,λ_ tb htb=>?_,λh=>absurd rfl h⟩;refine ER DU (row:=Am) (x:=q) (λ_=>rfl) nsOver Z htb (by omega) rfl rfl rfl λo5 V18 B18=>⟨o5,rfl,⟨by omega,by omega⟩,hJ3 _ _ _ (show J.length-(j+1)<J.length-j by omega) ⟨j+1,T,o5,D15,ss2,rfl,hjl,rfl,G,?_⟩⟩;rw[hstep,hone];rw[hone]at SB16;exact⟨B18,M,SB16⟩
   |none=>
    refine⟨0,false,rfl,λh=>absurd h (by decide),λ_=>?_⟩;have hone:Dg pg z c=({z with sizes:=z.sizes++[(c.length:Int)],kn:=λx=>if x=c then some (z.sizes.length:Int)else z.kn x,acc:=z.acc++[(100+(z.sizes.length:Int),Bz pg c)]},(z.sizes.length:Int)):=by unfold Dg;rw[hkn]
    have han:T.n=z.sizes.length:=(BA.base.ms.cq.cq.ql.dr Z).1.n_eq;have hzs:=N.sizes;have hza:=N.acc;have hz30:=N.all;refine GenK.bstr ur uq xW rfl hu15 ⟨_,rfl,?_⟩;refine BQ.key (enc:=xN) (keyStr xW) u5 hmv λob hm'=>?_;have hms2:MS mb (El λx=>if x=c then some (z.sizes.length:Int)else z.kn x) (HB T z.sizes v39 vs) W1 (V15.set mb ob):=ms_upd Ge hms (hm'.congr λy=>by rw[han,mKn_add hu.b]);have B18:=hto _ _ (MS.over Ge) hms2;clear hms hms2 hm' hmv hto;intro tb htb;obtain⟨W2,hW2,hql,hto2,-⟩:=(BA.base.ql (e:=105) (sz:=2)).ms.cq.cq.ql.at_ B18;refine pushW DU (row:=Am) (x:=(u.n:Int)) (λ_=>rfl) EmQ.over hql htb (by omega) rfl rfl rfl λa3 V20 hq20=>?_;have B20:=hto2 _ _ (QL.over EmQ.over) hq20;refine⟨a3,rfl,⟨by omega,by omega⟩,?_⟩;obtain⟨W3,hW3,hcq,-,hnew⟩:=BA.base.ql.at_ B20;have hssl:ss2.length=z.acc.length:=M.len;refine Tri.mono (MG (k:=k) (s:=s) (n:=100+(T.n:Int)) (MS.over (QL.over (QL.over EmQ.over))) hcq ((G.trans hW3) _ _ hpk14) (by omega) (hu.sub hW3) (by rw[<-hpgn];exact hck c hcm) (by rw[wq];omega) (by omega)) ?_;rintro _ V21 ⟨rfl,w,g,xo,hg,hw,hcq2⟩;obtain⟨hDg,B21⟩:=hnew _ g xo V21 (CQ.over (CQ.over (MS.over (QL.over (QL.over EmQ.over))))) hg hcq2;refine⟨rfl,λtb2 htb2=>?_⟩;refine ER DU (row:=Am) (x:=(T.n:Int)) (λ_=>rfl) (CQ.over (CQ.over (MS.over (QL.over (QL.over EmQ.over))))) B21 htb2 (by omega) rfl rfl rfl λo5 V23 B23=>⟨o5,rfl,⟨by omega,by omega⟩,hJ3 _ _ _ (show J.length-(j+1)<J.length-j by omega) ⟨j+1,a3,o5,_,ss2++[w],rfl,hjl,rfl,G.trans hDg,?_⟩⟩;rw[hstep,hone];rw[hone]at SB16;have hwD:=hw (D15.set g xo) As;rw[<-hpgn]at hwD;refine⟨?_,(M.sub hDg).add (y:=(100+(z.sizes.length:Int),Bz pg c)) hwD,SB16⟩;have e1:z.acc.map (·.1)++[100+(T.n:Int)]=(z.acc++[(100+(z.sizes.length:Int),Bz pg c)]).map (·.1):=by rw[yP,han];rfl
    have e2:z.sizes++[(u.n:Int)]=z.sizes++[(c.length:Int)]:=by rw[hu.n]
    rw[e1,e2,han]at B23;exact B23
  ·obtain rfl:j=J.length:=by omega
   have hte:J.take J.length=J:=List.take_length;rw[hte]at hz1 hpr;intro tb htb;obtain⟨D16,hD16,hf,B16⟩:=QL.pub (row:=Am) nsOver (λ_=>rfl) (by decide) Z;obtain⟨W1,hW1,hql,hto,-⟩:=BA.base.ms.cq.cq.at_ B16;have hz30:=I.all;have hvl:vs.length=t.all.length:=by rw[<-hSD.all,wq]
   obtain⟨za1,za2,za3⟩:=Lq pg J S;rw[<-hz1]at za1 za2;rw[<-hpr]at za3;have ha1:S.all=t.all:=by rw[ht1]
   have ht2:S.tot=t.tot+(Ai d m).length:=by rw[ht1]
   rw[<-hz1,<-hpr]at hsn2;refine pushW app99 (row:=Vn.row) (x:=⟨(Ai d m).length,v60,pr⟩) (λ_=>rfl) (QL.over EmQ.over) hql htb (by omega) rfl rfl rfl λb3 V17 hq17=>⟨b3,rfl,(hl8.rows.sub E).succ hlt,hJ2 _ _ _ (show ms.length-(i+1)<ms.length-i by omega) ⟨i+1,T,b3,D16,vs++[⟨(Ai d m).length,v60,pr⟩],ss2,_,rfl,hil,?_,hsn2,(h14.trans G).trans hD16,?_,?_,?_⟩⟩
   ·show _=[Value.slice T.p T.n T.c,.slice b3.p b3.n b3.c,.int .i64 z.tot,.int .i64 0,.int .i64 0,.int .i64 ((i+1:Nat):Int)];rw[za2,ht2,hcn];rfl
   ·exact hto _ _ (QL.over (QL.over EmQ.over)) hq17
   ·refine⟨λv hv=>?_,?_,M.len,λq u y hu Y=>(M.at_ q u y hu Y).sub hD16⟩
    ·rcases wZ.1 hv with hv|hv;·exact(M.parts v hv).sub hD16
     ·rw[zO.1 hv];exact hf
    ·show _=z.all++[_];rw[yP,M.all,za1];rfl
   ·have hzs:=N.sizes;have hza:=N.acc;refine⟨N.tot,N.totu,?_,?_,?_,λy Y=>?_,N.num⟩
    ·show(z.all++[_]).length<=30;rw[zw,za1,ha1];show t.all.length+1<=30;omega
    ·show z.sizes.length<=1000+12300*(z.all++[_]).length+0;rw[zw];show z.sizes.length<=1000+12300*(z.all.length+1)+0;omega
    ·show z.acc.length<=12300*(z.all++[_]).length+0;rw[zw];show z.acc.length<=12300*(z.all.length+1)+0;omega
    ·rcases wZ.1 Y with Y|Y;·exact N.parts y Y
     ·rw[zO.1 Y];show pr.length<=400;rw[za3,X,ES (by omega)];exact parts_le hpg32.1 hpg32.2 hcle
 ·have hln:=hl8.rows.n_eq;obtain rfl:i=ms.length:=by have:=((hl8.rows.sub E).done hge3).2;omega
  rw[wH (by omega)]at hst;rw[hst]at H;dsimp only at H;refine⟨λhz=>⟨by simp,s,At (E _ _ A) 1 1 (by simp),Tri.mono (Jo (hb8.sub E).rows hlen) ?_⟩,λhnz=>?_⟩
  ·rintro _ V13 ⟨sc,rfl,oc⟩;refine⟨sc,rfl,by simp,AQ.at2 (off:=1) (oc.sub _ _ (E _ _ A)) (by simp) ⟨k.page,sc,k.syn,k.aft,At As 0 4 (by simp),?_⟩⟩;have hcn:codes=[]:=ya (by omega);rw[if_pos hcn]at H;rw[hb0];refine fin H (Own.bt (V0:=λ_=>none) (EO oc (λb o hb=>by cases hb) λg y hg h0 Y=>⟨rfl,?_⟩) hb.b) (((hsD.trans E).trans oc.sub).set hpk0 _);rw[Mem.set_ne λe=>by rw[e,E _ _ A]at h0;cases h0];exact Y
  have hcn:codes≠[]:=λe=>by rw[e]at hcl;simp at hcl;omega
  rw[if_neg hcn]at H;obtain⟨Dp,hDp,rb',Bp⟩:=BA.pub (row:=Vn.row) BA.base.ms.cq.cq (QL.over EmQ.over) (FG.ql FG.em) (λ_=>rfl) (by decide) B12;obtain⟨Dq,hDq,ra',Bq⟩:=BA.pub (row:=Am) BA.base.ms.cq.cq EmQ.over FG.em (λ_=>rfl) (by decide) Bp;have hpq:=hDp.trans hDq;have hdr:Gd Dq v38 v39 vs ⟨t.sizes,t.all⟩:=⟨ra',rb'.sub hDq,λv hv=>(hSD.parts v hv).sub hpq,hSD.all⟩;obtain⟨db,hdb⟩:∃db,db=BE ⟨t.sizes,t.all⟩:=⟨_,rfl⟩;have hdbl:db.length<=1000000:=by
   have h1:=dirB_len (x:=⟨t.sizes,t.all⟩) I.parts;have h2:=I.sizes;have h3:=I.all;rw[hdb];have h1:(BE ⟨t.sizes,t.all⟩).length<=6+2*t.sizes.length+802*t.all.length:=h1;omega
  have hdbb:An db:=hdb▸dir_b _;have hDD:=hD.trans hpq;refine⟨by simp,k.page,At (E _ _ A) 0 1 (by simp),?_⟩;refine Tri.mono (Bq.run (R:=λe U'=>∃s':Sl,e=.returned s'.v/\Bt U' s' db) λU hU=>Tri.mono (Ov (hdr.sub hU) (hdb▸hdbl)) λe U' ⟨s',h1,h2⟩=>⟨h2.sub,s',h1,hdb▸Own.bt h2 (dir_b _)⟩) ?_;rintro _ V13 ⟨D13,hD13,⟨sb,rfl,hbb⟩,B13⟩;have hpgi:(pg:Int)=k.page:=by omega
  have hr13:V13.rowp (Aa (sa pk) 0) 0 1=some [.int .i64 k.page]:=by
   rw[e0];exact At (((hDD.trans hD13).trans B13.sub) _ _ A) 0 1 (by simp)
  refine⟨sb,rfl,by first|exact hr13|(rw[e0]at hr13;exact hr13),by simp,?_⟩;rw[<-hpgi];obtain⟨J,X⟩:∃J,J=AK pg db:=⟨_,rfl⟩;refine Tri.mono (B13.run (R:=λe U'=>∃o:Sl,e=.returned o.v/\Ls U' o J) λU hU=>X▸Lg (hbb.sub hU) (by omega) (by omega) (by omega)) ?_;rintro _ V14 ⟨D14,hD14,⟨oc,rfl,hLs⟩,B14⟩;have hon:=hLs.n;have hcsl:J.length<=1000300:=by
   rw[X,ES (by omega)];have:=uc (db.length+pg-1) pg;omega
  have hck:∀c∈J,c.length<=pg:=λc hc=>(Hv (by omega) _ c (X▸hc)).2;obtain⟨dp,hdp⟩:∃dp,dp=CS pg ⟨t.sizes,t.all⟩:=⟨_,rfl⟩;rw[<-hdp]at H;have hdpl:dp.length=J.length:=by rw[hdp,CS,<-hdb,<-X,wq,List.length_zipIdx]
  have hdpg:∀(j:Nat) c,J[j]?=some c->dp[j]?=some ((j:Int),Bz pg c):=λj c hc=>by
   rw[hdp,CS,<-hdb,<-X,y4,List.getElem?_zipIdx,hc];simp
  have h14:=(hDD.trans hD13).trans hD14;have hacc:=I.acc;have hall:=I.all;refine⟨oc,rfl,E3 J.length (λj V15=>∃(D:Mem)(ss:List Sl),D14.sub D/\Ar D V15 (CQ pp 47 3 1 (CQ pd 41 34 1 (MS mb (El t.kn) EmQ) (ss.flatMap BL)) (((t.acc++dp.take j).map λy:Int×List Int=>y.1).flatMap Am))/\Fe D vs ss t.all (t.acc++dp.take j)) ⟨D14,ss,Mem.sub.refl _,by simpa using B14,by simpa using((hSD.sub hpq).sub hD13).sub hD14⟩ ?_⟩;rintro j V15 J3 hj ⟨D15,ss2,G,Z,M⟩ hJ3;have hssl:=M.len;rw[zw,wX]at hssl;refine⟨λhlt2=>?_,λhge4=>?_⟩
  ·have hjl:j<J.length:=by omega
   have hcj:=yu hjl;obtain⟨c,hc⟩:∃c,c=J[j]:=⟨_,rfl⟩;rw[<-hc]at hcj;have hcm:c∈J:=xQ hcj;obtain⟨u,hp1,B,hu⟩:=(hLs.sub G).get hcj;have hrow15:V15.rowp oc.p (j*1) 1=some [u.v]:=by
    cases hop:oc.p with
    |none=>exact absurd hop hp1
    |some ad=>
     rw[hop]at B;exact Z.sub.row B
   refine⟨hp1,by omega,hlt2,u,hrow15,?_⟩;obtain⟨W3,hW3,hcq,-,hnew⟩:=BA.base.at_ Z;refine Tri.mono (MG (k:=k) (s:=s) (n:=(j:Int)) (MS.over EmQ.over) hcq ((G.trans hW3) _ _ (h14 _ _ A)) (by omega) (hu.sub hW3) (by rw[<-hpgn];exact hck c hcm) (by rw[wq,zw,wX];omega) (by omega)) ?_;rintro _ V16 ⟨rfl,w,g,xo,hg,hw,hcq2⟩;obtain⟨hDg,B16⟩:=hnew _ g xo V16 (CQ.over (CQ.over (MS.over EmQ.over))) hg hcq2;have hwD:=hw (D15.set g xo) As;rw[<-hpgn]at hwD;have htk:t.acc++dp.take (j+1)=(t.acc++dp.take j)++[((j:Int),Bz pg c)]:=by rw[wh,hdpg j c hcj,List.append_assoc];rfl
   refine⟨rfl,⟨by omega,by omega⟩,hJ3 hjl _ ⟨_,ss2++[w],G.trans hDg,?_,?_⟩⟩;·rw[htk,yP];exact B16
   ·rw[htk];exact(M.sub hDg).add hwD
  ·have hdt:dp.take j=dp:=wH (by omega);rw[hdt]at Z M;have hsub:=G.trans Z.sub;have hk15:=hsub _ _ (h14 _ _ A);obtain⟨W3,hW3,hcq,-,-⟩:=BA.base.at_ Z;obtain⟨op,hop,oo⟩:=CQ.see (CQ.over (MS.over EmQ.over)) hcq;obtain⟨W4,hW4,hcq4,-,-⟩:=BA.base.cq.at_ Z;obtain⟨od,hod,ood⟩:=CQ.see (MS.over EmQ.over) hcq4;have hPg:Pg V15 op od (t.acc++dp):=by
    refine⟨oo.rows (λ_=>rfl) (by decide),ss2,ood.rows (λ_=>rfl) (by decide),by rw[M.len,wq],λq u y hu Y=>?_⟩;rw[y4,Option.map_eq_some_iff]at Y;obtain⟨y',hy',rfl⟩:=Y;exact(M.at_ q u y' hu hy').sub Z.sub
   have hnum:∀y∈t.acc++dp,K.inR .i64 y.1:=λy Y=>by
    rcases wZ.1 Y with Y|Y
    ·have:=I.num y Y;exact⟨by omega,by omega⟩
    ·obtain⟨q,hq⟩:=List.mem_iff_getElem?.1 Y;have hql:=(List.getElem?_eq_some_iff.1 hq).1;rw[hdpg q (J[q]'(by omega)) (yu (by omega))]at hq;cases hq;exact⟨by show(-9223372036854775808:Int)<=(q:Int);omega,by show(q:Int)<=9223372036854775807;omega⟩
   refine⟨k.page,s,k.syn,k.aft,At hk15 0 4 (by simp),op,Al hop,od,Al hod,Tri.mono (Ot (hb8.sub (h14.trans hsub)) hlen hPg hnum) ?_⟩;rintro _ V16 ⟨s16,s',rfl,hbt⟩;have hfs:=(hsD.trans (h14.trans hsub)).trans s16;refine⟨_,s',_,_,_,rfl,λh0=>?_,λh0=>?_⟩
   ·rw[if_pos h0]at H;rw[hb0];exact fin H hbt hfs
   ·rw[if_neg h0]at H;exact fin H hbt hfs
end
section
variable{V:Mem}{d:Ds}{m:Mm}{k:Dk}{s l:Sl}{ms:List Mm}{b:List Int}{n:Int}
theorem GN[Y:Tab V](r:Ds.Ok V d)(q:Bt V s k.data)(w:k.data.length<=2147483648)(hm:Mm.Ok V m):Tri xE 16 #[k.v s,d.v,m.v] V (SaveR V d k [m]):=by
 refine Nj ?_;intro p H;have J:Aa (some (⟨p,0,none⟩:Addr)) 0=some ⟨p,0,none⟩:=by simp[Aa,zE]
 simp only[J];have z:=Mem.sub_new H (.cells #[m.gs.v,m.ns.v] 50 (0,0));haveI:Tab (V.set p (.cells #[m.gs.v,m.ns.v] 50 (0,0))):=Tab.sub (V:=V) inferInstance z;have G:CT (V.set p (.cells #[m.gs.v,m.ns.v] 50 (0,0))) ⟨some ⟨p,0,none⟩,1,1⟩ [m]:=⟨Ad.cells (xs:=[m]) (row:=Mm.row) As rfl (λ_=>rfl) rfl (by simp),λx N=>by rw[zO.1 N];exact hm.sub z⟩;refine Tri.mono (MK (r.sub z) (q.sub z) w G) ?_;rintro _ V1 ⟨Z,s',rfl,h⟩;exact⟨_,_,_,_,_,_,rfl,z.trans Z,s',rfl,h⟩
end
end Go.Proofs
