/- Part 15: no statement of the seat is proved here. -/
import Derived.Test.YtejinebghgaigaaGreatDoorPr14
import Derived.Test.YtejinebghgaigaaGreatDoorPr12
import Derived.Test.YtejinebghgaigaaGreatDoorPr11
import Derived.Test.YtejinebghgaigaaGreatDoorPr13
import Derived.DefersIn
import Derived.RecoverIn
set_option linter.unusedVariables false
set_option linter.unusedSimpArgs false
open List renaming getElem?_eq_some_iff->yw,mem_of_getElem?->xJ,any_eq_true->xU,mem_iff_getElem?->xn,replicate->yI,length_append->zw,length_singleton->xi,length_map->xm,getD_cons_zero->xr,all_eq_true->za
open Go.Proofs.Tryz renaming prog->xE,underlying3->wv,underlying164->wq,underlying9->xz
open Int renaming toNat_natCast->xv
open Go.Value renaming int->xe
open Nat renaming log2->wY
open Prod.mk renaming inj->wu
open Bool renaming and_eq_true->zC,and_false->wo
open Go.Ending renaming returned->xG
open Option renaming map_some->zJ
open Option.some renaming injEq->zF
open Go.Region renaming wanted->yN
open Go.Oper renaming uponIn->wm
namespace Go.Proofs
open Go Go.Sx
attribute [local irreducible] Go.Sx.Tri
section
variable{V0 V V1:Mem}{d:Ds}{p F c q:Nat}{s:St}{pr:Pr}{vals:List Int}
theorem Fm{V:Mem}{gs:Sl}{l:List Int}(h:Ad V gs 1 (l.map Al)){i:Nat}{v:Int}(hv:l[i]?=some v):¬gs.p=none/\(0:Int)<=(i:Int)/\(i:Int)<(gs.n:Int)/\V.rowp gs.p (i*1) 1=some [.int .i64 v]:=by
 have z:=h.n_eq;have x:=(yw.1 hv).1;obtain⟨y,-,g,-,f,t,u,k⟩:=h.get (i:=i) (by omega);rw[hv]at g;cases g;exact⟨t,u,by omega,k⟩
theorem nodeAt(M:EM V0 d p F V s c){k i:Nat}{ty v:Int}{fs:List Int}(z:s.ns[k]?=some (ty,fs))(hv:fs[i]?=some v):∃gs ns ls nd sl,V p=some (.cells (AY d F s.tk c s.cm gs ns ls).toArray 140 (0,0))/\AP V0 V gs ns ls nd s/\nd[k]?=some ⟨ty,sl,fs⟩/\IR (k:Int)/\
  ¬ns.p=none/\(0:Int)<=(k:Int)/\(k:Int)<(ns.n:Int)/\V.rowp ns.p (k*2) 2=some [.int .i64 ty,.slice sl.p sl.n sl.c]/\¬sl.p=none/\(0:Int)<=(i:Int)/\(i:Int)<(sl.n:Int)/\V.rowp sl.p (i*1) 1=some [.int .i64 v]:=by
 obtain⟨gs,ns,ls,nd,t,L⟩:=M.ex;have g:=L.nodes.rows (λ_=>rfl) (by decide);have x:=g.n_eq;obtain⟨sl,h⟩:=L.at_ z;have j:=(yw.1 h).1;obtain⟨y,-,u,-,-,l,r,f⟩:=g.get (i:=k) (by omega);rw[h]at u;cases u;have e:IR ((k:Int)):=⟨by omega,by have:=(g.succ (i:=k) (by omega)).2;omega⟩;obtain⟨H,J,N,Z⟩:=Fm ((L.fld _ (xJ h)).rows (λ_=>rfl) (by decide)) hv;exact⟨gs,ns,ls,nd,sl,t,L,h,e,l,r,by omega,f,H,J,N,Z⟩
theorem exprC{n:Nat}(hR:CallC d p F n):ExprC d p F n:=by
 intro e;induction e using E.ind with
 |h e ih=>
 intro t V0 V s c q pr vals X hv he ht;obtain⟨gs,ns,ls,nd,hat,L⟩:=X.M.ex;obtain⟨fa,fb,hq0,hra0,hrb0⟩:=X.fr.ex;have hq:=L.sub _ _ hq0;have hd:=X.S.ds.sub L.sub;have U:=he.sub L.sub;obtain⟨f,hf⟩:∃f,f=C0 d (CA d (A9 d F n) c) pr vals:=⟨_,rfl⟩;obtain⟨G,Y⟩:∃G:Rx Int,G=C5 d (CA d (A9 d F n) c) pr vals (intB d (Av d pr) e.k) e.op e.n e.s (e.k.map f) s:=⟨_,rfl⟩;rw[IX,<-hf,<-Y];have hcs:=H9 X.S.procs (Ga (F:=F) X.S.procs n) c;have hsz:=szE_eq e;have K:∀{i:Nat}{a:E},e.k[i]?=some a->BL (e.k.map f) i=f a:=λh=>KR h;have kid:∀{i:Nat}{a:E}{u:KB}{V1:Mem}{T:St},e.k[i]?=some a->As d (Av d pr) a=(u,0)->Cx V0 d p F c q pr vals n (AB a) V1 T->Tri xE 280 #[pv p,pv q,.agg #[.int .i64 a.op,.int .i64 a.n,.string a.s,.slice a.l.p a.l.n a.l.c]] V1 (PX V0 d p F c (f a T)):=λ{i a u V1 T} z J I=>by
  have hm:=xJ z;rw[hf];exact ih a hm u V0 V1 T c q pr vals I (hv.kids a hm) (he.kids a hm) J
 have go:∀{i:Nat}{a:E}{u:KB}{T s2:St}{V1 V2:Mem}{m k:Nat}{v:Int},e.k[i]?=some a->As d (Av d pr) a=(u,0)->Cx V0 d p F c q pr vals n m V1 T->AB a+k<=m->f a T=.ok v s2->EM V0 d p F V2 s2 c->Cx V0 d p F c q pr vals n k V2 s2/\Cb d s2.mm u v:=λ{i a u T s2 V1 V2 m k v} z J I hm e2 M2=>by
  have hmem:=xJ z;have P:=I5 X.S.procs hcs X.po a u T (hv.kids a hmem) J I.G I.hv;rw[hf]at e2;obtain⟨G2,g2,q2⟩:=P.got e2;exact⟨(I.le hm).next g2 G2 M2,q2⟩
 have s1':∀{a:E},e.k=[a]->AB e=AB a+1:=λh=>by rw[hsz,h];simp;omega
 have s2':∀{a b:E},e.k=[a,b]->AB e=AB a+AB b+1:=λh=>by rw[hsz,h];simp;omega
 have s3':∀{a b c:E},e.k=[a,b,c]->AB e=AB a+AB b+AB c+1:=λh=>by rw[hsz,h];simp;omega
 refine Tri.mono (x280 (R:=PX V0 d p F c G) ?_) λ_ _ h=>h;have two:∀{a b:E}{u w':KB},(9<=e.op/\e.op<=23/\e.op≠18/\e.op≠19/\e.op≠20/\e.op≠21)->e.k=[a,b]->As d (Av d pr) a=(u,0)->As d (Av d pr) b=(w',0)->(e.op≠14->e.op≠15->u=Ai/\w'=Ai)->
   w280 (sa p) (sa q) e.op e.n e.s e.l V (PX V0 d p F c G):=by
  intro a b u w' h N J D hint;have z:e.k[0]?=some a:=by rw[N];rfl
  have h1:e.k[1]?=some b:=by rw[N];rfl
  have Z:=Y;rw[F8 h,K z,K h1]at Z;obtain⟨k1,k2,k3,k4⟩:=DD U z;unfold w280;have hs:=s2' N;refine Ah (by omega) (Ah (by omega) (Ah (by omega) (Ah (by omega) (Ah (by omega) (Ah (by omega) (Ah (by omega) (Ah (by omega) (Ah (by omega) (Ah (by omega) (Ah (by omega) (Ah (by omega) (Ah (by omega) ?_))))))))))));refine⟨k1,by decide,k3,_,_,_,_,k4,PX.bind Z (kid z J (X.le (by omega))) λv T V1 e1 A H=>?_⟩;obtain⟨I,r⟩:=go (k:=AB b+1) z J X (by omega) e1 A;obtain⟨l1,l2,l3,l4⟩:=DD (he.sub A.sub) h1;refine⟨l1,by decide,l3,_,_,_,_,l4,PX.bind H (kid h1 D (I.le (by omega))) λw s2 V2 e2 M2 hG2=>?_⟩;obtain⟨X2,hv2⟩:=go (k:=1) h1 D I (by omega) e2 M2;have g2:=((I5 X.S.procs hcs X.po b w' T (hv.kids b (xJ h1)) D I.G I.hv).got (by rw[hf]at e2;exact e2)).2.1;have r:=g2.val r;obtain⟨gs2,ns2,JR,G5,O,L2⟩:=M2.ex;obtain⟨m1,m2,m3,m4⟩:=DD (he.sub M2.sub) z;have hcm:s2.cm+1<=16000000:=by have h1:=X2.w;have h2:=X2.tk;have h3:=X2.S.fuel;unfold BW at h1;omega
  have hib:intB d (Av d pr) e.k=decide (u=Ai):=by rw[N];show decide ((As d (Av d pr) a).1=Ai)=_;rw[J]
  rw[hib]at hG2;have ty:=typC (F:=F) X2.S M2 X2.fr X2.po X2.G X2.hv a u (hv.kids a (xJ z)) (he.kids a (xJ z)) J;have hM:EM V0 d p F (V2.set p (.cells (AY d F s2.tk c ((s2.cm+1:Nat):Int) gs2 ns2 JR).toArray 140 (0,0))) {s2 with cm:=s2.cm+1} c:=MA.set (row':=AY d F s2.tk c ((s2.cm+1:Nat):Int)) Gb M2.p0 O L2 rfl rfl rfl rfl;have yes:∀{x:Int},(e.op=16∨e.op=17∨((e.op=14∨e.op=15)/\u=Ai))->Bg e.op v w=.ok x->G=.ok x {s2 with cm:=s2.cm+1}:=λhc hx=>by
   rw[hG2,hx];unfold DC;rw[if_pos (by simpa using hc)];rfl
  have no:∀{x:Int},¬(e.op=16∨e.op=17∨((e.op=14∨e.op=15)/\u=Ai))->Bg e.op v w=.ok x->G=.ok x s2:=λhc hx=>by
   rw[hG2,hx];unfold DC;rw[if_neg (by simpa using hc)];rfl
  have eqB:∀{x:Bool},(e.op=14∨e.op=15)->Bg e.op v w=.ok (Et x)->((decide (v=w))==(decide (e.op=14)))=x->_:=λ{x} ho hx D=>by
   refine(⟨m1,by decide,m3,_,_,_,_,m4,ty.call ⟨_,rfl,λhi=>⟨nn,nn,_,An O 13 1 (by simp[AY]),⟨by omega,by omega⟩,nn,nn,Ao.at2 (off:=13) O (by simp[AY]) ?_⟩,λhi=>?_⟩⟩:¬e.l.p=none/\(0:Int)<=(0:Int)/\0<(e.l.n:Int)/\∃v16 v17 v18 v19,V2.rowp e.l.p ((0:Int).toNat*4) 4=some [uI v16,uI v17,uS v18,uL v19]/\
    TT 308 #[uP (sa p),uP (sa q),uA #[uI v16,uI v17,uS v18,uL v19]] V2 λe' V3=>∃v20,e'=rV (uS v20)/\
    Br (v20=(Ac [105,110,116]))
    (¬(some (⟨p,0,none⟩:Addr))=none/\¬(some (⟨p,0,none⟩:Addr))=none/\∃v21,V3.rowp (sa p) ((13:Int).toNat*1) 1=some [uI v21]/\
    IR (v21+1)/\¬(some (⟨p,0,none⟩:Addr))=none/\¬(some (⟨p,0,none⟩:Addr))=none/\Ao (Aa (sa p) 13) 0 [uI (v21+1)] V3 λV4=>
    TT 309 #[uB ((decide (v=w))==(decide (e.op=14)))] V4 λe' V5=>∃v22,e'=rV (uI v22)/\PX V0 d p F c G (rV (uI v22)) V5)
    (TT 309 #[uB ((decide (v=w))==(decide (e.op=14)))] V3 λe' V4=>∃v21,e'=rV (uI v21)/\PX V0 d p F c G (rV (uI v21)) V4))
   ·rw[D];exact c309.call ⟨_,rfl,PX.ok (yes (.inr (.inr ⟨ho,hi⟩)) hx) hM⟩
   ·rw[D];exact c309.call ⟨_,rfl,PX.ok (no (λk=>k.elim (λk=>by omega) λk=>k.elim (λk=>by omega) λk=>hi k.2) hx) M2⟩
  have cmB:∀{x:Bool},(e.op=16∨e.op=17)->Bg e.op v w=.ok (Et x)->(¬(some (⟨p,0,none⟩:Addr))=none/\¬(some (⟨p,0,none⟩:Addr))=none/\∃v16,V2.rowp (sa p) ((13:Int).toNat*1) 1=some [uI v16]/\
    IR (v16+1)/\¬(some (⟨p,0,none⟩:Addr))=none/\¬(some (⟨p,0,none⟩:Addr))=none/\Ao (Aa (sa p) 13) 0 [uI (v16+1)] V2 λV3=>
    TT 309 #[uB x] V3 λe' V4=>∃v17,e'=rV (uI v17)/\PX V0 d p F c G (rV (uI v17)) V4):=λ{x} ho hx=>
   ⟨nn,nn,_,An O 13 1 (by simp[AY]),⟨by omega,by omega⟩,nn,nn,Ao.at2 (off:=13) O (by simp[AY]) (c309.call ⟨_,rfl,PX.ok (yes (by omega) hx) hM⟩)⟩
  refine⟨λh14=>eqB (x:=decide (v=w)) (.inl h14) ?_ ?_,λh14=>⟨λh15=>eqB (x:=!decide (v=w)) (.inr h15) ?_ ?_,λh15=>⟨λh16=>cmB (.inl h16) ?_,λh16=>⟨λh17=>cmB (.inr h17) ?_,λh17=>?_⟩⟩⟩⟩;·rw[show e.op=14 from h14];rfl
  ·rw[decide_eq_true (show e.op=14 from h14)];cases decide (v=w)<;>rfl
  ·rw[show e.op=15 from h15];rfl
  ·rw[decide_eq_false (show ¬e.op=14 from h14)];cases decide (v=w)<;>rfl
  ·rw[show e.op=16 from h16];rfl
  ·rw[show e.op=17 from h17];rfl
  ·have h14:¬e.op=14:=h14;have h15:¬e.op=15:=h15;have h16:¬e.op=16:=h16;have h17:¬e.op=17:=h17;obtain⟨rfl,rfl⟩:=hint h14 h15;refine PB.last (s:=s2) ?_ M2 (c310 (by omega) (EI.1 r) (EI.1 hv2));rw[hG2];unfold DC;rw[if_neg (by omega)]
 have hkind:=kindX (sc:=Av d pr) rfl hv ht;cases hkind with
 |int h hn=>
  unfold w280;exact AV h (PX.ok (Y.trans (IZ (.inl h))) X.M)
 |bool h hn=>
  unfold w280;exact Ah (by omega) (AV h (PX.ok (Y.trans (IZ (.inr h))) X.M))
 |nil h hn=>
  unfold w280;repeat refine Ah (h▸(by decide)) ?_
  exact AV h (PX.ok (Y.trans (MD h)) X.M)
 |var h hl hne=>
  unfold w280;have Z:=Y.trans (ME h);have hra:=hra0.sub L.sub;repeat refine Ah (h▸(by decide)) ?_
  refine AV h ⟨nn,nn,fa,An hq 0 1 (by simp),(c281 hra).call ⟨_,rfl,?_⟩⟩;have hvg:=(BD X.G.mem).2.2.2.1;rcases H8 X.G X.hv X.po.vars hl hne with⟨i,g,v,h1,h2,h3,h4,-,h6⟩|⟨i,g,v,z,h1,h2,h3,h4,-,h6⟩
  ·rw[h1];obtain⟨g1,g2,g3,g4⟩:=Fm (hrb0.sub L.sub) h3;exact AV (by omega) ⟨nn,nn,fb,An hq 1 1 (by simp),g1,g2,g3,_,g4,PX.ok (Z.trans h6) X.M⟩
  ·rw[z];have I:=X.le (k:=1) (by omega);refine Ah (by decide) ⟨nn,nn,AX,d.gs,An hat 2 1 (by simp[AY]),(c281 hd.globals).call ⟨_,rfl,?_⟩⟩;rw[h1];refine Tri.mono (c282 X.M (Cx.fit (m:=0) I)) ?_;rintro _ V3 ⟨rfl,M3⟩;obtain⟨gs3,ns3,Ib,nd3,C,L3⟩:=M3.ex;obtain⟨g1,g2,g3,g4⟩:=Fm (L3.glob.rows (λ_=>rfl) (by decide)) (i:=i) (v:=v) h3;exact⟨rfl,nn,nn,AX,gs3,An C 8 1 (by simp[AY]),g1,g2,g3,_,g4,PX.ok (Z.trans h6) M3⟩
 |@fld _ u a h N J hf'=>
  unfold w280;have z:e.k[0]?=some a:=by rw[N];rfl
  have Z:=Y;rw[KS h,K z]at Z;obtain⟨k1,k2,k3,k4⟩:=DD U z;have hs:=s1' N;repeat refine Ah (h▸(by decide)) ?_
  refine AV h ⟨k1,by decide,k3,_,_,_,_,k4,PX.bind Z (kid z J (X.le (by omega))) λv T V1 e1 A H=>?_⟩;obtain⟨I,r⟩:=go (k:=1) z J X (by omega) e1 A;refine⟨λB=>Gd (PX.bad ?_ A),λB=>?_⟩;·rw[H];unfold fldX;rw[if_pos (show v=0 from B)]
  have B:¬v=0:=B;obtain⟨k,i,j,tt,g,fs,w,rfl,e2,e3,e4,e5,e6,e7,e8,e9,-⟩:=I4 I.G hf' r B;refine(c283 X.S A e2 e3).call ⟨_,rfl,?_⟩;rw[e6];refine Tri.mono (c282 A (Cx.fit (m:=0) I)) ?_;rintro _ V3 ⟨rfl,M3⟩;obtain⟨gs3,ns3,Ib,nd3,sl3,C,L3,-,hI,n1,n2,n3,n4,m1,m2,m3,m4⟩:=nodeAt M3 (k:=k) (i:=i) e2 e8;rw[show((k:Int)+1-1)=(k:Int)by omega];refine⟨rfl,nn,nn,AX,ns3,An C 9 1 (by simp[AY]),hI,n1,n2,n3,Ak n1,_,_,n4,m1,m2,m3,_,m4,PX.ok ?_ M3⟩;rw[H];unfold fldX;rw[if_neg B,show((k:Int)+1-1).toNat=k by omega,e2];simp only;rw[e5,e6,xv,e8];rfl
 |new h hn=>
  unfold w280;have Z:=Y.trans (MF h);repeat refine Ah (h▸(by decide)) ?_
  have hnn:=(L.nodes.rows (λ_=>rfl) (by decide)).n_eq;have hlen:=L.len;refine AV h ⟨nn,nn,AX,ns,An hat 9 1 (by simp[AY]),λhl=>Gd (PX.bad ?_ X.M),λhl=>?_⟩
  ·have hl:4096<=(ns.n:Int):=hl;rw[Z];unfold newX;rw[if_pos (by omega)]
  have hl:¬4096<=(ns.n:Int):=hl;obtain⟨tt,htm,hte⟩:=xU.1 hn;have hte:tt.name=e.s:=of_decide_eq_true hte;obtain⟨j,hj⟩:=xn.1 htm;have hidx:Bx d e.s=(j:Int):=hte▸(F7 (BD X.G.mem).1).2.1 j tt hj;have hfo:Bm d (j:Int)=tt.fields:=Ef hj rfl;refine(c305 X.S X.M).call ⟨_,rfl,?_⟩;rw[hidx];have htn:=hd.types.n_eq;have hjl:=(yw.1 hj).1;obtain⟨y,-,hy,-,-,hp,B,hrow⟩:=hd.types.get (i:=j) (by omega);rw[hj]at hy;cases hy;have hfn:=(hd.typesOk tt htm).fields.n_eq;have hfl:=(Ja X.S.valid).2 tt htm;refine⟨nn,nn,AX,ns,An hat 9 1 (by simp[AY]),nn,nn,AX,d.ts,An hat 1 1 (by simp[AY]),hp,B,by omega,Ak hp,_,_,hrow,mk43 (n:=tt.fs.n) rfl rfl (by omega) λg hg=>⟨⟨some ⟨g,0,none⟩,tt.fs.n,tt.fs.n⟩,rfl,?_⟩⟩;obtain⟨V2,hV2⟩:∃V2,V2=V.set g (.cells (madeCells (xe .i64 0).cells (tt.fs.n*1)) 3 (0,0)):=⟨_,rfl⟩;have hown:=Jb hg (n:=tt.fs.n) (by omega);rw[<-hV2]at hown⊢;have O:=hown.sub _ _ hat;refine⟨EW O 9 0 1 (by simp[AY]),AX,nn,nn,EW O 9 0 1 (by simp[AY]),AX,nn,nn,λtb htb=>?_⟩;refine L.new (n:=⟨(j:Int),⟨some ⟨g,0,none⟩,tt.fs.n,tt.fs.n⟩,yI tt.fs.n 0⟩) hown htb rfl rfl (by omega) λs3 V3 L3 hk3=>⟨s3,rfl,nn,nn,AX,?_⟩;have C:=hk3 _ _ O (Hu hat Gb L.nodes (.inr (.inl rfl)));refine Ao.at2 (off:=9) C (by simp[AY]) ?_;have M4:EM V0 d p F (V3.set p (.cells (AY d F s.tk c s.cm gs s3 ls).toArray 140 (0,0))) {s with ns:=s.ns++[((j:Int),yI tt.fs.n 0)]} c:=
   ⟨X.M.p0,gs,s3,ls,nd++[_],Mem.set_same _ _ _,L3.put (JP C Gb) X.M.p0 _⟩
  have hn3:=(L3.nodes.rows (λ_=>rfl) (by decide)).n_eq;rw[zw,xi]at hn3;show ¬(some (⟨p,0,none⟩:Addr):Option Addr)=none/\_;refine⟨nn,nn,AX,s3,An Az 9 1 (by simp[AY]),?_⟩;rw[show((s3.n:Nat):Int)=(s.ns.length:Int)+1 by omega];have hfit:s.lg.length+1<=2147483648:=Cx.fit (m:=0) (X.le (k:=0+1) (by omega));refine Tri.mono (c282 M4 hfit) ?_;rintro _ V7 ⟨rfl,M7⟩;obtain⟨gs7,ns7,G7,nd7,hat7,L7⟩:=M7.ex;have hn7:=(L7.nodes.rows (λ_=>rfl) (by decide)).n_eq;have hl7:=L7.len;have hl7:nd7.length=(s.ns++[((j:Int),yI tt.fs.n 0)]).length:=hl7;rw[zw,xi]at hl7;refine⟨rfl,nn,nn,AX,ns7,An hat7 9 1 (by simp[AY]),?_⟩;rw[show((ns7.n:Nat):Int)=(s.ns.length:Int)+1 by omega];refine PX.ok ?_ M7;rw[Z];unfold newX;rw[if_neg (by omega),hidx,hfo,<-hfn];rfl
 |@call pr' i h hc hr=>
  unfold w280;have Z:=Y.trans (I0 h);rw[hc.idx]at Z;repeat refine Ah (h▸(by decide)) ?_
  refine AV h (PX.last Z ?_);rw[hf];refine callC hR X he hc hv λa hm u W V' s' hW X' J=>?_;exact ih a hm u W V' s' c q pr vals X' (hv.kids a hm) ((he.kids a hm).sub hW) J
 |@neg a h N J=>
  unfold w280;have z:e.k[0]?=some a:=by rw[N];rfl
  have Z:=Y;rw[KT h,K z]at Z;obtain⟨k1,k2,k3,k4⟩:=DD U z;have hs:=s1' N;repeat refine Ah (h▸(by decide)) ?_
  refine AV h ⟨k1,by decide,k3,_,_,_,_,k4,PX.bind Z (kid z J (X.le (by omega))) λv T V1 e1 A H=>?_⟩;obtain⟨I,r⟩:=go (k:=1) z J X (by omega) e1 A;have:=EI.1 r;rw[<-Int.zero_sub]at H;exact⟨⟨by omega,by omega⟩,PB.last H A c306⟩
 |@not a h N J=>
  unfold w280;have z:e.k[0]?=some a:=by rw[N];rfl
  have Z:=Y;rw[cX18 h,K z]at Z;obtain⟨k1,k2,k3,k4⟩:=DD U z;have hs:=s1' N;repeat refine Ah (h▸(by decide)) ?_
  refine AV h ⟨k1,by decide,k3,_,_,_,_,k4,PX.bind Z (kid z J (X.le (by omega))) λv T V1 e1 A H=>?_⟩;obtain⟨I,r⟩:=go (k:=1) z J X (by omega) e1 A;have:=E6.1 r;exact⟨⟨by omega,by omega⟩,PX.ok H A⟩
 |@log a h N J=>
  unfold w280;have z:e.k[0]?=some a:=by rw[N];rfl
  have Z:=Y;rw[cX24 h,K z]at Z;obtain⟨k1,k2,k3,k4⟩:=DD U z;have hs:=s1' N;repeat refine Ah (h▸(by decide)) ?_
  refine AV h ⟨k1,by decide,k3,_,_,_,_,k4,PX.bind Z (kid z J (X.le (by omega))) λv T V1 e1 A H=>?_⟩;obtain⟨I,r⟩:=go (k:=1) z J X (by omega) e1 A;have hr:=EI.1 r;refine GenK.max2 rfl rfl ⟨_,rfl,?_⟩;obtain⟨w,hw⟩:∃w:Nat,(if(1:Int)<v then v else 1)=(w:Int):=⟨(if(1:Int)<v then v else 1).toNat,by split<;>omega⟩;rw[hw];have hw1:1<=w/\(w:Int)<=1099511627776:=by split at hw<;>omega
  have D:wY w<64:=(Nat.log2_lt (by omega)).2 (by omega);have hlen:lenN w=(wY w:Int)+1:=by unfold lenN;rw[if_neg (by omega)]
  refine⟨QS _ (by omega),(c307 (by omega)).call ⟨_,rfl,?_⟩⟩;rw[hlen];refine⟨⟨by omega,by omega⟩,PX.ok ?_ A⟩;rw[H];have:DB v=(wY w:Int):=by
   unfold DB;by_cases r:1<v;·rw[if_pos r]at hw;rw[hw,xv]
   ·rw[if_neg r]at hw;have:w=1:=by omega
    subst this;have:v.toNat=0∨v.toNat=1:=by omega
    rcases this with h|h<;>rw[h]<;>rfl
  rw[this,show(wY w:Int)+1-1=(wY w:Int)by omega]
 |@and a b h N J D=>
  unfold w280;have z:e.k[0]?=some a:=by rw[N];rfl
  have h1:e.k[1]?=some b:=by rw[N];rfl
  have Z:=Y;rw[cX19 h,K z,K h1]at Z;obtain⟨k1,k2,k3,k4⟩:=DD U z;have hs:=s2' N;repeat refine Ah (h▸(by decide)) ?_
  refine AV h ⟨k1,by decide,k3,_,_,_,_,k4,PX.bind Z (kid z J (X.le (by omega))) λv T V1 e1 A H=>?_⟩;obtain⟨I,r⟩:=go (k:=AB b) z J X (by omega) e1 A;obtain⟨l1,l2,l3,l4⟩:=DD (he.sub A.sub) h1;refine⟨λB=>PX.ok ?_ A,λB=>⟨l1,by decide,l3,_,_,_,_,l4,PX.last ?_ (kid h1 D I)⟩⟩;·rw[H,if_pos (show v=0 from B)]
  ·rw[H,if_neg (show ¬v=0 from B)]
 |@or a b h N J D=>
  unfold w280;have z:e.k[0]?=some a:=by rw[N];rfl
  have h1:e.k[1]?=some b:=by rw[N];rfl
  have Z:=Y;rw[cX20 h,K z,K h1]at Z;obtain⟨k1,k2,k3,k4⟩:=DD U z;have hs:=s2' N;repeat refine Ah (h▸(by decide)) ?_
  refine AV h ⟨k1,by decide,k3,_,_,_,_,k4,PX.bind Z (kid z J (X.le (by omega))) λv T V1 e1 A H=>?_⟩;obtain⟨I,r⟩:=go (k:=AB b) z J X (by omega) e1 A;obtain⟨l1,l2,l3,l4⟩:=DD (he.sub A.sub) h1;have r:=E6.1 r;refine⟨λB=>PX.ok ?_ A,λB=>⟨l1,by decide,l3,_,_,_,_,l4,PX.last ?_ (kid h1 D I)⟩⟩
  ·have B:v=1:=B;rw[H,if_neg (by omega)]
  ·have B:¬v=1:=B;rw[H,if_pos (by omega)]
 |@cond a b c' _ u w h N J D hc hu hw _=>
  unfold w280;have z:e.k[0]?=some a:=by rw[N];rfl
  have h1:e.k[1]?=some b:=by rw[N];rfl
  have h2:e.k[2]?=some c':=by rw[N];rfl
  have Z:=Y;rw[cX21 h,K z,K h1,K h2]at Z;obtain⟨k1,k2,k3,k4⟩:=DD U z;have hs:=s3' N;repeat refine Ah (h▸(by decide)) ?_
  refine AV h ⟨k1,by decide,k3,_,_,_,_,k4,PX.bind Z (kid z J (X.le (by omega))) λv T V1 e1 A H=>?_⟩;obtain⟨I,r⟩:=go (k:=AB b+AB c') z J X (by omega) e1 A;obtain⟨l1,l2,l3,l4⟩:=DD (he.sub A.sub) h1;obtain⟨m1,m2,m3,m4⟩:=DD (he.sub A.sub) h2;have r:=E6.1 r;refine⟨λB=>⟨l1,by decide,l3,_,_,_,_,l4,PX.last ?_ (kid h1 D (I.le (by omega)))⟩,λB=>⟨m1,by decide,m3,_,_,_,_,m4,PX.last ?_ (kid h2 hc (I.le (by omega)))⟩⟩
  ·have B:v=1:=B;rw[H,if_neg (by omega)]
  ·have B:¬v=1:=B;rw[H,if_pos (by omega)]
 |@eq a b u w h N J D hf'=>exact two (by omega) N J D λ_ _=>by omega
 |@cmp a b h N J D=>exact two (by omega) N J D λ_ _=>⟨rfl,rfl⟩
 |@ari a b h N J D=>exact two (by omega) N J D λ_ _=>⟨rfl,rfl⟩
end
section
variable{W V0 V V1 V':Mem}{d:Ds}{p F c q:Nat}{s:St}{pr:Pr}{vals:List Int}
theorem MA.poke{ty:Nat}{row:Sl->Sl->Sl->List Value}(h:MA ty V0 p row V s){b:Nat}(g:V0 b≠none)(o:Obj):MA ty (V0.set b o) p row (V.set b o) s:=by
 obtain⟨gs,ns,ls,nd,f,L⟩:=h.ex;have k:p≠b:=λe=>g (e▸h.p0);exact⟨by rw[Mem.set_ne k];exact h.p0,gs,ns,ls,nd,by grind[Mem.set_ne],L.poke g o⟩
structure Hy (W V0:Mem)(q:Nat)(pr:Pr)(vals:List Int):Prop where
 sub:W.sub V0
 ex:∃a b:Sl,W q=some (.cells #[a.v,b.v] 310 (0,0))/\Ad W a 2 (pr.vars.map Fld.row)/\Sx.Own W V0 3 1 b (vals.flatMap Al)
theorem Hy.fv(h:Hy W V0 q pr vals):Fv V0 q pr vals:=by
 obtain⟨a,b,h1,h2,h3⟩:=h.ex;exact⟨a,b,h.sub _ _ h1,h2.sub h.sub,h3.rows (λ_=>rfl) (by decide)⟩
theorem frStore{b:Sl}(own:Sx.Own W V0 3 1 b (vals.flatMap Al))(M:EM V0 d p F V s c){i:Nat}(hi:i<vals.length){v:Int}{Q:Mem->Prop}
  (t:∀h V',Sx.Own W h 3 1 b ((vals.set i v).flatMap Al)->EM h d p F V' s c->Q V'):Ao (Aa b.p (i*1)) 0 [.int .i64 v] V Q:=by
 rw[Nat.mul_one];rcases own.cases0 with⟨h1,h2,h3⟩|⟨x,g,cur,h1,h2,h3,h4,u,j,z⟩
 ·rw[CB]at h3;have:vals=[]:=by simpa using h3
  rw[this]at hi;simp at hi
 have y:b.n*1<=b.c*1:=Nat.mul_le_mul_right _ h4;have f:=own.len;rw[CB,xm]at f;have k:V0 g≠none:=by rw[h3];simp
 rw[h1];have e:(cur.toList.take i++[xe .i64 v]++cur.toList.drop (i+1))=cur.toList.set i (.int .i64 v):=K3 _ _ _ (by simp;omega);refine Ao.at2 (off:=i) (M.sub _ _ h3) (by simp;omega) (t (V0.set g _) _ ⟨own.sub.set h2 _,?_,.inr ⟨g,_,h1,h2,Mem.set_same _ _ _,h4,u,?_,?_⟩⟩ (M.poke k _));·rw[CB,xm,List.length_set];exact f
 ·simp_all
 ·rw[show i+[xe .i64 v].length=i+1 from rfl,e];show(cur.toList.set i (.int .i64 v)).take (b.n*1)=_;rw[List.take_set,z,CB,CB,List.map_set]
def PS(W:Mem)(d:Ds)(p F c q:Nat)(pr:Pr)(r:Rx Rt):Ending->Mem->Prop:=λe V'=>match r with
 |.ok g s=>e=.returned (.agg #[.bool g.2.isSome,.int .i64 (g.2.getD 0)])/\∃h,Hy W h q pr g.1/\EM h d p F V' s c
 |.bad k s=>e=fltE k/\∃f,EM W d p F V' s f
theorem PS.bind{f:FuncId}{args:Array Value}{r:Rx Int}{G:Rx Rt}{h:Int->St->Rx Rt}{K:Int->Mem->Prop}(t:W.sub V0)(g:G=r.bind h)(H:Tri xE f args V (PX V0 d p F c r))(u:∀v s V',r=.ok v s->EM V0 d p F V' s c->G=h v s->K v V'):
  Tri xE f args V λe V'=>(∃v,e=.returned (.int .i64 v)/\K v V')∨∃z,e=.panicked z/\PS W d p F c q pr G e V':=
 PX.split H (λk s y V' e hm=>by subst e;rw[g];exact⟨rfl,y,hm.narrow t⟩) λv s V' e hm=>u v s V' e hm (by rw[g,e];rfl)
theorem PS.ok{G:Rx Rt}{rt:Rt}(h:G=.ok rt s)(k:Hy W V0 q pr rt.1)(M:EM V0 d p F V s c){b:Bool}{v:Int}(g:b=rt.2.isSome)(hv:v=rt.2.getD 0):PS W d p F c q pr G (.returned (.agg #[.bool b,.int .i64 v])) V:=by
 rw[h,g,hv];exact⟨rfl,V0,k,M⟩
theorem PS.bad{G:Rx Rt}{k:Int}(h:G=.bad k s)(g:W.sub V0)(M:EM V0 d p F V s c):PS W d p F c q pr G (fltE k) V:=by rw[h];exact⟨rfl,c,M.narrow g⟩
theorem PS.split{f:FuncId}{args:Array Value}{r:Rx Rt}{K:Bool->Int->Mem->Prop}{R:Ending->Mem->Prop}(H:Tri xE f args V (PS W d p F c q pr r))(z:∀k s u V',r=.bad k s->EM W d p F V' s u->R (fltE k) V')(j:∀t s g V',r=.ok t s->Hy W g q pr t.1->EM g d p F V' s c->K t.2.isSome (t.2.getD 0) V'):
  Tri xE f args V λe V'=>(∃b v,e=.returned (.agg #[.bool b,.int .i64 v])/\K b v V')∨∃y,e=.panicked y/\R e V':=
 Tri.mono H λe V' h=>by
  cases r with
  |ok t s=>obtain⟨h1,g,h2,h3⟩:=h;grind
  |bad k s=>
   obtain⟨x,u,hm⟩:=h;subst x;exact .inr ⟨_,rfl,z k s u V' rfl hm⟩
structure Do (W V0:Mem)(d:Ds)(p F c q:Nat)(pr:Pr)(vals:List Int)(n m:Nat)(V:Mem)(s:St):Prop where
 S:ES W d F
 fr:Hy W V0 q pr vals
 po:D0 d pr
 G:Am d s.mm
 hv:Aw d s.mm pr.vars vals=true
 M:EM V0 d p F V s c
 tk:s.tk<=F
 n:F<n+s.tk
 w:BW m s
theorem Do.cx{n m:Nat}(X:Do W V0 d p F c q pr vals n m V s):Cx V0 d p F c q pr vals n m V s:=⟨X.S.sub X.fr.sub,X.fr.fv,X.po,X.G,X.hv,X.M,X.tk,X.n,X.w⟩
theorem Do.next{n m k:Nat}{f:Mem}{h:List Int}{s':St}(X:Do W V0 d p F c q pr vals n (m+k) V s)(g:Gr F m s s')(G:Am d s'.mm)(t:Hy W f q pr h)(hv:Aw d s'.mm pr.vars h=true)(M:EM f d p F V' s' c):Do W f d p F c q pr h n k V' s':=
 ⟨X.S,t,X.po,G,hv,M,g.fu X.tk,by have:=g.tk;have:=X.n;omega,X.w.next g⟩
theorem Do.le{n m k:Nat}(X:Do W V0 d p F c q pr vals n m V s)(h:k<=m):Do W V0 d p F c q pr vals n k V s:=⟨X.S,X.fr,X.po,X.G,X.hv,X.M,X.tk,X.n,X.w.le h⟩
variable(d p F)in
def SC(n:Nat):Prop:=∀(l:List S)(W V0 V:Mem)(s:St)(c q:Nat)(pr:Pr)(vals:List Int)(sl:Sl),Do W V0 d p F c q pr vals n 0 V s->(∀x∈l,Eu d pr x)->(∀x∈l,S.Ok W x)->Ad W sl 5 (l.map S.row)->
 Tri xE 208 #[pv p,pv q,sl.v] V (PS W d p F c q pr (A9 d F n c pr l vals s))
variable(d p F)in
def OB(n:Nat):Prop:=∀(x:S)(W V0 V:Mem)(s:St)(c q:Nat)(pr:Pr)(vals:List Int),Do W V0 d p F c q pr vals (n+1) 0 V s->Eu d pr x->S.Ok W x->
 Tri xE 249 #[pv p,pv q,x.v] V (PS W d p F c q pr (DH d F (A9 d F n) c pr (n+1) x vals s))
theorem stsC{n:Nat}(H:OB d p F n):SC d p F (n+1):=by
 intro l W V0 V s c q pr vals sl X I K e;obtain⟨f,hf⟩:∃f,f=DH d F (A9 d F n) c pr (n+1):=⟨_,rfl⟩;obtain⟨G,hG⟩:∃G:Rx Rt,G=DR f l vals s:=⟨_,rfl⟩;show Tri _ _ _ _ (PS W d p F c q pr (DR (DH d F (A9 d F n) c pr (n+1)) l vals s));rw[<-hf,<-hG];refine Tri.mono (x208 (R:=PS W d p F c q pr G) ?_) λ_ _ h=>h;refine Fz l.length (λi V1=>∃N g s',Do W N d p F c q pr g (n+1) 0 V1 s'/\G=DR f (l.drop i) g s') ⟨V0,vals,s,X,hG⟩ ?_;rintro i V1 J hi ⟨N,g,s',t,u⟩ hJ;have T:=e.sub (t.fr.sub.trans t.M.sub);refine⟨λZ=>?_,λU=>?_⟩
 ·obtain⟨x,Y,hx,hdr,hil,hp,hz,j⟩:=T.get Z;rw[S.row_eq]at j;rw[hdr]at u;have z:G=(f x g s').bind λr st=>match r.2 with|some _=>.ok r st|none=>DR f (l.drop (i+1)) r.1 st:=u
  have P:=st_snd (F:=F) (c:=c) (n:=n+1) t.S.procs (Ga t.S.procs n) t.po (I x Y) t.G t.hv;have Hx:=H x W N V1 s' c q pr g t (I x Y) (K x Y);rw[<-hf]at Hx P;rw[show x.v=.agg #[.int .i64 x.op,.string x.s,.slice x.el.p x.el.n x.el.c,.slice x.ll.p x.ll.n x.ll.c,.slice x.xl.p x.xl.n x.xl.c]by unfold S.v;rw[S.row_eq];rfl]at Hx;refine⟨hp,hz,Z,_,_,_,_,_,j,PS.split Hx (λk C c' V2 D E=>?_) λA C L V2 D B E=>?_⟩;·rw[z,D];exact⟨rfl,c',E⟩
  obtain⟨G2,g2,q2⟩:=P.got D;rw[D]at z;cases y:A.2 with
  |some v=>
   have O:G=.ok A C:=by rw[z];show(match A.2 with|some _=>_|none=>_)=_;rw[y]
   exact⟨λ_=>PS.ok O B E (by rw[y]) (by rw[y]),λh=>absurd rfl h⟩
  |none=>
   have O:G=DR f (l.drop (i+1)) A.1 C:=by rw[z];show(match A.2 with|some _=>_|none=>_)=_;rw[y]
   exact⟨(λh=>by cases h),λ_=>⟨T.succ Z,hJ hil _ ⟨L,A.1,C,t.next (m:=0) g2 G2 B q2.1 E,O⟩⟩⟩
 ·rw[(T.done U).1]at u;exact PS.ok u t.fr t.M rfl rfl
end
section
variable{W V0 V V1 V':Mem}{d:Ds}{p F c q:Nat}{s:St}{pr:Pr}{vals:List Int}
theorem esAt{x:S}(h:S.Ok V x){i:Nat}{a:E}(g:x.es[i]?=some a):¬x.el.p=none/\(i:Int)<(x.el.n:Int)/\V.rowp x.el.p (i*4) 4=some [.int .i64 a.op,.int .i64 a.n,.string a.s,.slice a.l.p a.l.n a.l.c]:=by
 have f:=h.eRows;have j:=f.n_eq;have r:=(yw.1 g).1;obtain⟨y,-,t,-,u,z,e,k⟩:=f.get (i:=i) (by omega);rw[g]at t;cases t;exact⟨z,by omega,k⟩
theorem La(h:s.tk<F):EV F s=.ok () {s with tk:=s.tk+1}:=by unfold EV;rw[if_neg (by omega)]
theorem Lb(h:F<=s.tk):EV F s=.bad 20 s:=by unfold EV;rw[if_pos h]
theorem Do.tick{n:Nat}(X:Do W V0 d p F c q pr vals (n+1) 0 V s)(h:s.tk<F)(M:EM V0 d p F V' {s with tk:=s.tk+1} c):Do W V0 d p F c q pr vals n 4000 V' {s with tk:=s.tk+1}:=
 ⟨X.S,X.fr,X.po,⟨X.G.valid,X.G.chk,X.G.mem⟩,X.hv,M,h,by have:=X.n;show F<n+(s.tk+1);omega,by have:=X.w;unfold BW at*;show s.lg.length+s.cm+4000<=4000*(s.tk+1);omega⟩
theorem Do.tick'{n:Nat}(X:Do W V0 d p F c q pr vals n 0 V s)(h:s.tk<F)(M:EM V0 d p F V' {s with tk:=s.tk+1} c):Do W V0 d p F c q pr vals n 4000 V' {s with tk:=s.tk+1}:=
 ⟨X.S,X.fr,X.po,⟨X.G.valid,X.G.chk,X.G.mem⟩,X.hv,M,h,by have:=X.n;show F<n+(s.tk+1);omega,by have:=X.w;unfold BW at*;show s.lg.length+s.cm+4000<=4000*(s.tk+1);omega⟩
theorem QU{n:Nat}(hE:ExprC d p F n)(hS:SC d p F n)(hR:CallC d p F n):OB d p F n:=by
 intro x W V0 V s c q pr vals X hty C;obtain⟨G,hG0⟩:∃G:Rx Rt,G=DH d F (A9 d F n) c pr (n+1) x vals s:=⟨_,rfl⟩;rw[<-hG0];refine Tri.mono ((show x.v=.agg #[.int .i64 x.op,.string x.s,.slice x.el.p x.el.n x.el.c,.slice x.ll.p x.ll.n x.ll.c,.slice x.xl.p x.xl.n x.xl.c]by unfold S.v;rw[S.row_eq];rfl)▸x249 (R:=PS W d p F c q pr G) ?_) λ_ _ h=>h;have hF:=X.S.fuel;refine Tri.mono (c279 hF X.M) ?_;rintro e1 V1 (⟨hlt,rfl,M1⟩|⟨hge,rfl,rfl⟩);rotate_left
 ·refine .inr ⟨_,rfl,PS.bad (s:=s) ?_ X.fr.sub X.M⟩;rw[hG0];unfold DH;rw[Lb hge];rfl
 refine .inl ⟨rfl,?_⟩;obtain⟨s1,hs1⟩:∃s1:St,s1={s with tk:=s.tk+1}:=⟨_,rfl⟩;have Z:Do W V0 d p F c q pr vals n 4000 V1 s1:=by rw[hs1];exact X.tick hlt M1
 have T:G=EJ d F (A9 d F n) c pr (n+1) x vals s1:=by rw[hG0];unfold DH;rw[La hlt,hs1];rfl
 have hcs:=Ga (F:=F) X.S.procs n;have U:∀{V2:Mem}{N:Mem},W.sub N->N.sub V2->S.Ok V2 x:=λh1 h2=>C.sub (h1.trans h2);have ex:∀{i:Nat}{a:E}{u:KB}{V2 N:Mem}{f:List Int}{O:St}{m:Nat},x.es[i]?=some a->Bz a=true->As d (Av d pr) a=(u,0)->Do W N d p F c q pr f n m V2 O->1000<=m->
   Tri xE 280 #[pv p,pv q,.agg #[.int .i64 a.op,.int .i64 a.n,.string a.s,.slice a.l.p a.l.n a.l.c]] V2 (PX N d p F c (CT d (A9 d F n) c pr f a O)):=λ{i a u V2 N f O m} D hv ha H hm=>by
  have hp:=GR hv;exact hE a u N V2 O c q pr f (H.cx.le (by omega)) hp.1 ((C.eOk a (xJ D)).sub H.fr.sub) ha
 have go:∀{a:E}{u:KB}{V2 V3 N:Mem}{f:List Int}{O A:St}{m:Nat}{v:Int},Bz a=true->As d (Av d pr) a=(u,0)->Do W N d p F c q pr f n (1000+m) V2 O->CT d (A9 d F n) c pr f a O=.ok v A->EM N d p F V3 A c->
   Do W N d p F c q pr f n m V3 A/\Cb d A.mm u v/\Gr F 1000 O A:=λ{a u V2 V3 N f O A m v} hv ha H e M3=>by
  obtain⟨G3,g3,q3⟩:=(GS (F:=F) (c:=c) H.S.procs hcs H.po hv ha H.G H.hv).got e;exact⟨H.next g3 G3 H.fr (BQ (λh=>g3.right h) H.hv) M3,q3,g3⟩
 unfold EJ at T;cases kindS hty with
 |@set a u t h I hv ht hl hne hf=>
  rw[if_pos h,I,xr]at T;have D:x.es[0]?=some a:=by rw[I];rfl
  obtain⟨k1,k3,k4⟩:=esAt (U Z.fr.sub Z.M.sub) D;refine AV h ⟨k1,by decide,k3,_,_,_,_,k4,PS.bind Z.fr.sub T (ex D hv ht Z (by omega)) λv O V2 e2 M2 r=>?_⟩;obtain⟨H,B,-⟩:=go (m:=3000) hv ht Z e2 M2;obtain⟨fa,fb,hq0,hra0,hrb0⟩:=H.fr.ex;have hW2:=H.fr.sub.trans H.M.sub;have hq:=hW2 _ _ hq0;refine⟨nn,nn,fa,An hq 0 1 (by simp),(c281 (hra0.sub hW2)).call ⟨_,rfl,?_⟩⟩;unfold setX at r;rcases H8 H.G H.hv H.po.vars hl hne with⟨i,g,w,h1,h2,h3,h4,-⟩|⟨i,g,w,h0',h1,h2,h3,h4,-⟩
  ·rw[h1];rw[if_pos (by omega),h1,xv]at r;have hil:=(yw.1 h3).1;have hbn:=((hrb0.rows (λ_=>rfl) (by decide):Ad V0 fb 1 (vals.map Al))).n_eq;obtain⟨g1,g2,g3,-⟩:=Fm (hrb0.rows (λ_=>rfl) (by decide)) h3;refine AV (by omega) ⟨nn,nn,fb,An hq 1 1 (by simp),g1,g2,g3,frStore hrb0 M2 hil λN V' ho M'=>?_⟩;exact PS.ok r ⟨ho.sub,fa,fb,hq0,hra0,ho⟩ M' rfl rfl
  ·rw[h0'];rw[if_neg (by omega),h1,xv]at r;obtain⟨gs,ns,ls,nd,hat,L⟩:=M2.ex;have hd:=(H.S.sub H.fr.sub).ds.sub L.sub;refine Ah (by decide) ⟨nn,nn,AX,d.gs,An hat 2 1 (by simp[AY]),(c281 hd.globals).call ⟨_,rfl,?_⟩⟩;rw[h1];refine Tri.mono (c282 M2 (Cx.fit (m:=0) (H.cx.le (by omega)))) ?_;rintro _ V5 ⟨rfl,M5⟩;obtain⟨gs5,ns5,G8,nd5,Y,L5⟩:=M5.ex;obtain⟨g1,g2,g3,-⟩:=Fm (L5.glob.rows (λ_=>rfl) (by decide)) (i:=i) (v:=w) h3;have hil:=(yw.1 h3).1;refine⟨rfl,nn,nn,AX,gs5,An Y 8 1 (by simp[AY]),g1,g2,g3,L5.setG (i:=i) hil λV6 L6 hk6=>?_⟩;refine PS.ok r H.fr (V0:=V0) (MA.mk M5.p0 ⟨gs5,ns5,G8,nd5,?_,L6⟩) rfl rfl;rw[hk6 _ (Hu Y Gb L5.glob (.inl rfl))];exact Y
 |@put a b u w t h I hv hw ha ht hl hf=>
  rw[if_neg (by omega),if_pos h,I,xr,List.getD_cons_succ,xr]at T;have D:x.es[0]?=some a:=by rw[I];rfl
  have h1:x.es[1]?=some b:=by rw[I];rfl
  obtain⟨k1,k3,k4⟩:=esAt (U Z.fr.sub Z.M.sub) D;refine Ah (by omega) (AV h ⟨k1,by decide,k3,_,_,_,_,k4,PS.bind Z.fr.sub T (ex D hv ha Z (by omega)) λv O V2 e2 M2 r=>?_⟩);obtain⟨H,B,-⟩:=go (m:=3000) hv ha Z e2 M2;obtain⟨l1,l3,l4⟩:=esAt (U H.fr.sub H.M.sub) h1;refine⟨l1,by decide,l3,_,_,_,_,l4,PS.bind H.fr.sub r (ex h1 hw ht H (by omega)) λy A V3 e3 M3 hG3=>?_⟩;obtain⟨X3,hv3,g3⟩:=go (m:=2000) hw ht H e3 M3;have B:=g3.val B;refine⟨λK=>Gd (PS.bad (s:=A) ?_ X3.fr.sub M3),λK=>?_⟩;·rw[hG3];unfold putX;rw[if_pos (show v=0 from K)];rfl
  have K:¬v=0:=K;obtain⟨k,i,j,tt,g,fs,z,rfl,f2,f3,f4,f5,f6,f7,f8,-⟩:=I4 X3.G hl B K;have hG4:G=.ok (vals,none) {A with ns:=A.ns.set k ((j:Int),fs.set i y),lg:=A.lg++[(2,(k:Int)+1,(i:Int))]}:=by
   rw[hG3];unfold putX;rw[if_neg K,show((k:Int)+1-1).toNat=k by omega,f2];simp only;rw[f5,f6,xv];rfl
  refine(c283 (X3.S.sub X3.fr.sub) M3 f2 f3).call ⟨_,rfl,?_⟩;rw[f6];refine Tri.mono (c282 M3 (Cx.fit (m:=0) (X3.cx.le (by omega)))) ?_;rintro _ V5 ⟨rfl,M5⟩;obtain⟨gs5,ns5,G8,nd5,sl5,Y,L5,hnd5,hI,n1,n2,n3,n4,m1,m2,m3,m4⟩:=nodeAt M5 (k:=k) (i:=i) f2 f8;have hil:=(yw.1 f8).1;rw[show((k:Int)+1-1)=(k:Int)by omega];refine⟨rfl,nn,nn,AX,ns5,An Y 9 1 (by simp[AY]),hI,n1,n2,n3,Ak n1,_,_,n4,m1,m2,m3,L5.setF hnd5 hil λV6 L6 hk6=>?_⟩;refine PS.ok hG4 X3.fr (V0:=V0) (MA.mk M5.p0 ⟨gs5,ns5,G8,_,?_,L6⟩) rfl rfl;rw[hk6 _ (Hu Y Gb (L5.fld _ (xJ hnd5)) (.inl rfl))];exact Y
 |@cond a h I hv ht=>
  rw[if_neg (by omega),if_neg (by omega),if_pos h,I,xr]at T;have D:x.es[0]?=some a:=by rw[I];rfl
  obtain⟨k1,k3,k4⟩:=esAt (U Z.fr.sub Z.M.sub) D;obtain⟨-,-,-,hlt1,hlt2⟩:=hty.parts;refine Ah (by omega) (Ah (by omega) (AV h ⟨k1,by decide,k3,_,_,_,_,k4,PS.bind Z.fr.sub T (ex D hv ht Z (by omega)) λv O V2 e2 M2 r=>?_⟩));obtain⟨H,B,-⟩:=go (m:=3000) hv ht Z e2 M2;have B:=E6.1 B;have fin:∀{l:List S}{sl:Sl},(∀y∈l,Eu d pr y)->(∀y∈l,S.Ok W y)->Ad W sl 5 (l.map S.row)->G=A9 d F n c pr l vals O->Tri xE 208 #[pv p,pv q,.slice sl.p sl.n sl.c] V2 λe' V'=>(∃b v,e'=.returned (.agg #[.bool b,.int .i64 v])/\PS W d p F c q pr G (.returned (.agg #[.bool b,.int .i64 v])) V')∨∃ch,e'=.panicked ch/\PS W d p F c q pr G e' V':=λ{l sl} t1 t2 t3 hGl=>
   PS.split (hS l W V0 V2 O c q pr vals sl (H.le (by omega)) t1 t2 t3) (λk A c' V3 e3 M3=>by rw[hGl,e3];exact⟨rfl,c',M3⟩) λrt A N V3 e3 hf3 M3=>PS.ok (hGl.trans e3) hf3 M3 rfl rfl
  refine⟨λK=>fin hlt1 C.lOk C.lRows ?_,λK=>fin hlt2 C.xOk C.xRows ?_⟩
  ·have K:v=1:=K;rw[r,if_neg (by omega)]
  ·have K:¬v=1:=K;rw[r,if_pos (by omega)]
 |@loop a h I hv ht=>
  rw[if_neg (by omega),if_neg (by omega),if_neg (by omega),if_pos h,I,xr]at T;have D:x.es[0]?=some a:=by rw[I];rfl
  obtain⟨-,-,-,hlt1,-⟩:=hty.parts;refine Ah (by omega) (Ah (by omega) (Ah (by omega) (AV h ?_)));refine⟨λm xs V2=>xs=[]/\∃N f s',Do W N d p F c q pr f n 1000 V2 s'/\F<m+s'.tk/\G=DY d F (A9 d F n) c pr a x.ls m f s',n+1,⟨rfl,V0,vals,s1,Z.le (by omega),by have:=Z.n;omega,T⟩,?_⟩;rintro m V2 ⟨-,N,f,s',X',hm,hG'⟩ J hJ;obtain⟨m,rfl⟩:∃m',m=m'+1:=⟨m-1,by have:=X'.tk;omega⟩;rw[DY]at hG';obtain⟨k1,k3,k4⟩:=esAt (U X'.fr.sub X'.M.sub) D;refine⟨k1,by decide,k3,_,_,_,_,k4,PS.bind X'.fr.sub hG' (ex D hv ht X' (by omega)) λv O V3 e2 M2 r=>?_⟩;obtain⟨H,B,g2⟩:=go (m:=0) hv ht X' e2 M2;have B:=E6.1 B;refine⟨λK=>?_,λK=>?_⟩;rotate_left
  ·have K:¬v=1:=K;rw[if_pos (by omega)]at r;exact PS.ok r H.fr H.M rfl rfl
  have K:v=1:=K;rw[if_neg (by omega)]at r;have P:=hcs c pr x.ls f O H.po hlt1 H.G H.hv;refine PS.split (hS x.ls W N V3 O c q pr f x.ll H hlt1 C.lOk C.lRows) (λk A c' V4 e3 M3=>?_) λrt A V0'' V4 e3 hf3 M3=>?_;·rw[r,e3];exact⟨rfl,c',M3⟩
  obtain⟨G3,g3,q3⟩:=P.got e3;have X3:=H.next (m:=0) (k:=0) g3 G3 hf3 q3.1 M3;rw[e3]at r;cases hrt:rt.2 with
  |some z=>
   have hG3:G=.ok rt A:=by rw[r];show(match rt.2 with|some _=>_|none=>_)=_;rw[hrt]
   exact⟨λ_=>PS.ok hG3 hf3 M3 (by rw[hrt]) (by rw[hrt]),λh=>absurd rfl h⟩
  |none=>
   have hG3:G=(EV F A).bind λ_ st=>DY d F (A9 d F n) c pr a x.ls m rt.1 st:=by rw[r];show(match rt.2 with|some _=>_|none=>_)=_;rw[hrt]
   refine⟨(λh=>by cases h),λ_=>Tri.mono (c279 hF M3) ?_⟩;rintro e4 V5 (⟨hlt',rfl,M5⟩|⟨hge,rfl,rfl⟩)
   ·refine .inl ⟨rfl,hJ m _ _ (by omega) ⟨rfl,V0'',rt.1,{A with tk:=A.tk+1},(X3.tick' hlt' M5).le (by omega),?_,by rw[hG3,La hlt'];rfl⟩⟩;have:=g2.tk;have:=g3.tk;show F<m+(A.tk+1);omega
   ·exact .inr ⟨_,rfl,PS.bad (s:=A) (by rw[hG3,Lb hge];rfl) hf3.sub M3⟩
 |ret0 h I hr=>
  rw[if_neg (by omega),if_neg (by omega),if_neg (by omega),if_neg (by omega),if_pos h,I]at T;have hn:=(U Z.fr.sub Z.M.sub).eRows.n_eq;rw[I]at hn;refine Ah (by omega) (Ah (by omega) (Ah (by omega) (Ah (by omega) (AV h (AV (by rw[hn];rfl) ?_)))));exact PS.ok T Z.fr Z.M rfl rfl
 |@ret1 a u h I hv ht hr hf=>
  rw[if_neg (by omega),if_neg (by omega),if_neg (by omega),if_neg (by omega),if_pos h,I]at T;have D:x.es[0]?=some a:=by rw[I];rfl
  obtain⟨k1,k3,k4⟩:=esAt (U Z.fr.sub Z.M.sub) D;refine Ah (by omega) (Ah (by omega) (Ah (by omega) (Ah (by omega) (AV h (Ah (by omega) ⟨k1,by decide,k3,_,_,_,_,k4,PS.bind Z.fr.sub T (ex D hv ht Z (by omega)) λv O V2 e2 M2 r=>?_⟩)))));exact PS.ok r Z.fr M2 rfl rfl
 |@call a pr' i h I hv ho hc=>
  rw[if_neg (by omega),if_neg (by omega),if_neg (by omega),if_neg (by omega),if_neg (by omega),if_pos h,I,xr]at T;unfold CT at T;rw[IX,I0 ho,hc.idx]at T;have D:x.es[0]?=some a:=by rw[I];rfl
  obtain⟨k1,k3,k4⟩:=esAt (U Z.fr.sub Z.M.sub) D;have hp:=GR hv;have hea:=C.eOk a (xJ D);refine Ah (by omega) (Ah (by omega) (Ah (by omega) (Ah (by omega) (Ah (by omega) (AV h ⟨k1,by decide,k3,_,_,_,_,k4,PS.bind Z.fr.sub T (callC hR (Z.cx.le (by omega)) (hea.sub Z.fr.sub) hc hp.1 λb hb u W' V2 O hW' H ht=>?_) λv O V2 e2 M2 r=>?_⟩)))));·exact hE b u W' V2 O c q pr vals H (hp.1.kids b hb) (((hea.sub Z.fr.sub).kids b hb).sub hW') ht
  ·exact PS.ok r Z.fr M2 rfl rfl
end
theorem own_zero{V0 V:Mem}{e:TypeId}{sz:Nat}{s:Sl}{vs:List Value}(h:Sx.Own V0 V e sz s vs):Sx.Own V0 V e sz ⟨s.p,0,s.c⟩ []:=⟨h.sub,by simp,by
 rcases h.at_ with⟨h1,h2,h3⟩|⟨g,cur,h1,h2,h3,h4,k,f,t⟩;·simp_all
 simp_all⟩
theorem Jc{V0 V k V':Mem}{e:TypeId}{sz:Nat}{s:Sl}{vs:List Value}(h:Sx.Own V0 V e sz s vs)(u:k.sub V')(f:∀g o,Bh s g->V0 g=none->V g=some o->k g=none/\V' g=some o):Sx.Own k V' e sz s vs:=⟨u,h.len,by
 rcases h.cases0 with h1|⟨t,g,cur,h1,h2,h3,h4⟩;·exact .inl h1
 ·exact .inr ⟨g,cur,h1,(f g _ ⟨t,h1⟩ h2 h3).1,(f g _ ⟨t,h1⟩ h2 h3).2,h4⟩⟩
theorem own_p0{V0 V:Mem}{e:TypeId}{sz:Nat}{s:Sl}{vs:List Value}(h:Sx.Own V0 V e sz s vs)(k:s.c≠0)(m:Nat):Aa s.p (0*m)=s.p:=by
 rw[Nat.zero_mul];rcases h.at_ with⟨h1,h2,h3⟩|⟨g,cur,h1,-⟩;·omega
 ·rw[h1];rfl
theorem az43{V0 V:Mem}{ty:TypeId}{x y:Operand}{vals:Operand->Value}{s:Sl}{n:Nat}{vs:List Int}(f:vals x=.slice s.p s.n s.c)(t:vals y=.int .i64 n)(own:Sx.Own V0 V 3 1 s (vs.flatMap Al))(g:s.n+n<=2147483648){q:Value->Mem->Prop}
  (j:∀(s':Sl) V',Sx.Own V0 V' 3 1 s' ((vs++yI n (0:Int)).flatMap Al)->q (.slice s'.p s'.n s'.c) V'):GenK xE (.call {callee:=.builtin .append,args:=#[x,y],argTypes:=#[43,3]}) ty vals V q:=
 Go.Sx.GenK.appendZ (z:=.int .i64 0) (i:=ti 3) (k:=.i64) Tryz.underlying43 wv (by kernel_rfl) (by kernel_rfl) (by kernel_rfl) (by kernel_rfl) (by decide) (of_decide_eq_true (by kernel_rfl)) (λu hu=>by
  have l:(xe .i64 0).cells=#[xe .i64 0]:=by rfl
  rw[l]at hu;simp at hu;subst hu;rfl) f t own g λs' V' h=>j s' V' (by
  rw[List.flatMap_append];have e:(yI n (0:Int)).flatMap Al=(Builtin.zeroCells (xe .i64 0).cells n).toList:=by rw[QN,CB,List.map_replicate]
  rw[e];exact h)
theorem az28{V0 V:Mem}{ty:TypeId}{x y:Operand}{vals:Operand->Value}{s:Sl}{n:Nat}{vs:List Value}(f:vals x=.slice s.p s.n s.c)(t:vals y=.int .i64 n)(own:Sx.Own V0 V 112 2 s vs)(g:s.n+n<=2147483648){q:Value->Mem->Prop}
  (j:∀(s':Sl) V' ws,Sx.Own V0 V' 112 2 s' ws->q (.slice s'.p s'.n s'.c) V'):GenK xE (.call {callee:=.builtin .append,args:=#[x,y],argTypes:=#[28,3]}) ty vals V q:=
 Go.Sx.GenK.appendZ (z:=.agg #[.string (Ac []),.string (Ac [])]) (i:=ti 112) (k:=.i64) Tryz.underlying28 wv (by kernel_rfl) (by kernel_rfl) (by kernel_rfl) (by kernel_rfl) (by decide) (of_decide_eq_true (by kernel_rfl)) (λu hu=>by
  have l:(Value.agg #[.string (Ac []),.string (Ac [])]).cells=#[.string (Ac []),.string (Ac [])]:=by rfl
  rw[l]at hu;simp at hu;subst hu;rfl) f t own g λs' V' h=>j s' V' _ h
theorem c222{V:Mem}{n:Nat}(f:n<=2147483648):Tri xE 222 #[.slice none 0 0,.int .i64 n] V λe V'=>∃s:Sl,e=.returned (.slice s.p s.n s.c)/\Sx.Own V V' 112 2 s []:=by
 refine x222 (a:=⟨none,0,0⟩) (b:=n) ?_;have e:(n:Int)-(((0:Nat):Int)-((0:Nat):Int))=n:=by omega
 refine Ah (by omega) ⟨⟨by simp,by simp⟩,⟨by rw[e];omega,by rw[e];omega⟩,λh=>⟨⟨by omega,by omega,by omega⟩,?_⟩,λh=>⟨⟨none,0,0⟩,rfl,Own.nil (Mem.sub.refl _) _ _⟩⟩;refine az28 (s:=⟨none,0,0⟩) (n:=n) (vs:=[]) (V0:=V) rfl (by rfl) (Own.nil (Mem.sub.refl _) _ _) (by simpa using f) λs' V' ws k=>⟨s',rfl,⟨by omega,by omega,by simp⟩,⟨s'.p,0,s'.c⟩,?_,own_zero k⟩;by_cases g:s'.c=0;·simp[g]
 ·rw[if_neg (by omega),show((0:Int).toNat*2)=0*2 from rfl,own_p0 k g];simp
theorem c176{V:Mem}{sl a b:Sl}{xs ys:List Fld}(h:Ad V sl 1 ([a,b].map λs:Sl=>[s.v]))(X:Ad V a 2 (xs.map Fld.row))(B:Ad V b 2 (ys.map Fld.row))(hx:xs.length<=100)(hy:ys.length<=100):
  Tri xE 176 #[sl.v] V λe V'=>∃s:Sl,e=.returned (.slice s.p s.n s.c)/\Sx.Own V V' 112 2 s ((xs++ys).flatMap Fld.row):=by
 have D:=X.n_eq;have E:=B.n_eq;refine x176 ?_;refine FA (mk:=λk:Int=>.int .i64 k) (b0:=0) CY 2 (λi k V1=>V1=V/\k=(((([a,b].take i).map (λs:Sl=>s.n)).sum:Nat):Int)) ⟨rfl,rfl⟩ ?_;rintro i k V1 J hi ⟨rfl,rfl⟩ K;refine⟨λg=>?_,λt=>?_⟩
 ·obtain⟨u,l,hu,r,z,H,N,f⟩:=h.get g;have T:u.n<=100:=by
   grind
  have hs:(([a,b].take (i+1)).map (λs:Sl=>s.n)).sum=(([a,b].take i).map (λs:Sl=>s.n)).sum+u.n:=by grind
  have U:(([a,b].take i).map (λs:Sl=>s.n)).sum<=200:=by
   rcases(show i=0∨i=1 by grind)with rfl|rfl;·simp
   ·simp;omega
  refine⟨H,N,g,u,f,⟨by omega,by omega⟩,Ah (by omega) ⟨h.succ g,K z _ _ ⟨rfl,by omega⟩⟩⟩
 ·have h2:=(h.done t).2;have Z:i=2:=by grind
  subst Z;refine Tri.mono (c222 (by simp;omega)) ?_;rintro _ V2 ⟨C,rfl,Y⟩;refine⟨C,rfl,FA (mk:=λs:Sl=>.slice s.p s.n s.c) (b0:=C) Bw 2 (λj s O=>Sx.Own V1 O 112 2 s ((([xs,ys].take j).flatten).flatMap Fld.row)) Y ?_⟩;rintro j s O J1 hj x A;have I:=h.sub x.sub;refine⟨λg=>?_,λt=>?_⟩
  ·obtain⟨u,l,hu,r,z,H,N,f⟩:=I.get g;obtain⟨y,hzs,L,R⟩:∃y,[xs,ys][j]?=some y/\Ad O u 2 (y.map Fld.row)/\([xs,ys].take j).flatten.length+y.length<=2147483648:=by
    rcases(show j=0∨j=1 by omega)with rfl|rfl;·simp at hu;subst hu;exact⟨xs,rfl,X.sub x.sub,by simp;omega⟩
    ·simp at hu;subst hu;exact⟨ys,rfl,B.sub x.sub,by simp;omega⟩
   refine⟨H,N,g,u,f,ET (s:=s) (u:=u) (xs:=([xs,ys].take j).flatten) (ys:=y) rfl rfl x L R λs' V' ho'=>⟨s',rfl,I.succ g,A z _ _ ?_⟩⟩;grind
  ·have h3:=(I.done t).2;grind
theorem runC{d:Ds}{p F n:Nat}(H:SC d p F n):CallC d p F n:=by
 intro V0 V s c i pr args l hS B G ha hl M htk hn hw;obtain⟨G',C⟩:∃G':Rx Int,G'=CA d (A9 d F n) c i args s:=⟨_,rfl⟩;rw[<-C];have D:=xJ B;have r:=hS.procs pr D;have u:=hS.ds.procsOk pr D;refine Tri.mono (x145 (R:=PX V0 d p F c G') ?_) λ_ _ h=>h;obtain⟨gs,ns,ls,nd,J,L⟩:=M.ex;unfold CA at C;refine⟨nn,nn,_,An J 12 1 (by simp[AY]),λh2=>Gd (PX.bad (by grind) M),λh2=>?_⟩;rw[if_neg (by omega),xv,B]at C;refine⟨nn,nn,_,An J 12 1 (by simp[AY]),⟨by omega,by omega⟩,nn,nn,Ao.at2 (off:=12) J (by simp[AY]) ?_⟩;have M1:EM V0 d p F (V.set p (.cells (AY d F s.tk ((c+1:Nat):Int) s.cm gs ns ls).toArray 140 (0,0))) s (c+1):=MA.set (row':=AY d F s.tk ((c+1:Nat):Int) s.cm) Gb M.p0 J L rfl rfl rfl rfl;obtain⟨V1,E⟩:∃V1,V1=V.set p (.cells (AY d F s.tk ((c+1:Nat):Int) s.cm gs ns ls).toArray 140 (0,0)):=⟨_,rfl⟩;rw[<-E]at M1;show Ag _ _ (V.set p (.cells (AY d F s.tk ((c+1:Nat):Int) s.cm gs ns ls).toArray 140 (0,0))) _;rw[<-E];intro b1 hb1;obtain⟨V2,N⟩:∃V2,V2=V1.set b1 (.cells #[.slice pr.ps.p pr.ps.n pr.ps.c,.slice pr.ls.p pr.ls.n pr.ls.c] 28 (0,0)):=⟨_,rfl⟩;have Z:V1.sub V2:=N▸Mem.sub_new hb1 _;have Y:=M1.sub.trans Z;have K:Ad V2 ⟨some ⟨b1,0,none⟩,2,2⟩ 1 ([pr.ps,pr.ls].map λs:Sl=>[s.v]):=Ad.cells (xs:=[pr.ps,pr.ls]) (row:=λs:Sl=>[s.v]) (by rw[N];exact Mem.set_same _ _ _) rfl (λ_=>rfl) rfl (by simp);show Tri _ _ #[.slice (sa b1) 2 2] (V1.set b1 (.cells #[.slice pr.ps.p pr.ps.n pr.ps.c,.slice pr.ls.p pr.ls.n pr.ls.c] 28 (0,0))) _;rw[<-N];have hln:=r.lens;refine Tri.mono (c176 K (u.params.sub Y) (u.locals.sub Y) (by omega) (by omega)) ?_;rintro _ V3 ⟨j,rfl,o3⟩;have T:=Y.trans o3.sub;have hal:=(Cm.1 ha).1;refine⟨j,rfl,Tri.mono (G4 (hl.sub T) (by omega)) ?_⟩;rintro _ V4 ⟨s4,rfl,o4⟩;have h4n:=o4.n_eq (λ_=>rfl) (by decide);have U:=u.locals.n_eq;refine⟨s4,rfl,az43 (s:=s4) (n:=pr.ls.n) rfl rfl o4 (by omega) λt V5 o5=>⟨t,rfl,λb2 O=>?_⟩⟩;rw[U]at o5;obtain⟨V6,A⟩:∃V6,V6=V5.set b2 (.cells #[.slice j.p j.n j.c,.slice t.p t.n t.c] 310 (0,0)):=⟨_,rfl⟩;have s56:V5.sub V6:=A▸Mem.sub_new O _;have s36:=o5.sub.trans s56;have s16:=Z.trans (o3.sub.trans s36);obtain⟨W,w0,w6,MW,I⟩:=M1.after s16;show Tri _ _ #[pv p,pv b2,.slice pr.bs.p pr.bs.n pr.bs.c] (V5.set b2 (.cells #[.slice j.p j.n j.c,.slice t.p t.n t.c] 310 (0,0))) _;rw[<-A];have n1:∀{b:Nat},V2 b=none->V1 b=none:=λ{b} h=>by
  cases hc:V1 b with
  |none=>rfl
  |some o=>rw[Z _ _ hc]at h;cases h
 have n3:∀{b:Nat},V3 b=none->V2 b=none:=λ{b} h=>by
  cases hc:V2 b with
  |none=>rfl
  |some o=>rw[o3.sub _ _ hc]at h;cases h
 have n5:V3 b2=none:=by
  cases hc:V3 b2 with
  |none=>rfl
  |some o=>rw[o5.sub _ _ hc]at O;cases O
 have hbk:∀{b:Nat},Bh t b->V3 b=none:=λh=>Own.none0 o5 h;have z:V0.sub (W.but t):=λb o hb=>Mem.but_at (w0 _ _ hb) λhk=>by have:=hbk hk;rw[T _ _ hb]at this;cases this
 have o5':Sx.Own (W.but t) W 3 1 t ((args++yI pr.locals.length (0:Int)).flatMap Al):=Jc o5 (Mem.but_sub _ _) λg o hk h0 h1=>⟨by grind[Mem.but],I _ _ (n1 (n3 h0)) (s56 _ _ h1)⟩;have o3':Sx.Own (λ_=>none) (W.but t) 112 2 j ((pr.params++pr.locals).flatMap Fld.row):=Jc o3 (λ_ _ h=>by cases h) λg o hk h0 h1=>⟨rfl,Mem.but_at (I _ _ (n1 h0) (s36 _ _ h1)) λhk'=>by simp_all⟩;have hfr:W b2=some (.cells #[j.v,t.v] 310 (0,0)):=I _ _ (n1 (n3 n5)) (by rw[A];exact Mem.set_same _ _ _);have nb2:¬Bh t b2:=λhk=>by
  grind[Own.some]
 have FR:Hy (W.but t) W b2 pr (args++yI pr.locals.length 0):=⟨Mem.but_sub _ _,j,t,Mem.but_at hfr nb2,o3'.rows (λ_=>rfl) (by decide),o5'⟩;have hv:=JO ha (KY G.valid λf hf=>r.vars f (List.mem_append_right _ hf));have X:Ad (W.but t) pr.bs 5 (pr.body.map S.row):=u.body.sub z;refine PS.split (H pr.body (W.but t) W V6 s (c+1) b2 pr _ pr.bs ⟨hS.sub z,FR,r,G,hv,MW,htk,hn,hw⟩ r.body (λx hx=>(u.stmts x hx).sub z) X) (λk s2 c' V7 e2 M7=>?_) λrt s2 W7 V7 e2 f7 M7=>?_
 ·rw[C];show PX V0 d p F c ((A9 d F n (c+1) pr pr.body _ s).bind _) _ _;rw[e2];exact⟨rfl,c',M7.narrow z⟩
 ·have M8:=M7.narrow (z.trans f7.sub);obtain⟨gs7,ns7,G7,nd7,y,L7⟩:=M8.ex;refine⟨nn,nn,_,An y 12 1 (by simp[AY]),⟨by omega,by omega⟩,nn,nn,Ao.at2 (off:=12) y (by simp[AY]) ?_⟩;rw[C];show PX V0 d p F c ((A9 d F n (c+1) pr pr.body _ s).bind _) _ _;rw[e2];refine⟨rfl,?_⟩;have e:(((c+1:Nat):Int)-1)=(c:Int):=by omega
  rw[e];exact MA.set (row':=AY d F s2.tk c s2.cm) Gb M8.p0 y L7 rfl rfl rfl rfl
theorem allC(d:Ds)(p F:Nat):∀n,SC d p F n
 |0=>λl W V0 V s c q pr vals sl X _ _ _=>absurd X.n (by have:=X.tk;omega)
 |n+1=>stsC (QU (exprC (runC (allC d p F n))) (allC d p F n) (runC (allC d p F n)))
end Go.Proofs
namespace Go.Proofs
open Go Go.Sx
section
variable{d:Ds}{F F' b:Nat}
def Sext(s t:St):Prop:=(∃l,t.lg=s.lg++l)/\s.tk<=t.tk/\s.ns.length<=t.ns.length
def RE{α:Type}(s:St)(r:Rx α):Prop:=Sext s r.st
end
end Go.Proofs
namespace Go.Proofs
open Go Go.Sx
section
variable{d:Ds}{F F':Nat}
def Mm.plain(m:Mm):List Int×List (Int×List Int):=(m.globals,m.nodes.map λn=>(n.ty,n.f))
def AR(m:Mm):St:=⟨m.globals,m.nodes.map λn=>(n.ty,n.f),0,0,[]⟩
theorem St.plain(s:St):s.mm.plain=(s.g,s.ns):=by
 unfold Mm.plain St.mm;simp[Function.comp_def]
theorem Jd{m m':Mm}(h:m.plain=m'.plain){i:Nat}{x:Nd}(k:m.nodes[i]?=some x):∃y,m'.nodes[i]?=some y/\y.ty=x.ty/\y.f=x.f:=by
 have h2:(m.nodes.map λn=>(n.ty,n.f))=m'.nodes.map λn=>(n.ty,n.f):=(wu h).2;have:(m'.nodes.map λn=>(n.ty,n.f))[i]?=some (x.ty,x.f):=by grind
 simp_all
theorem Ic{m m':Mm}(h:m.plain=m'.plain):m.nodes.length=m'.nodes.length:=by
 have h2:(m.nodes.map λn=>(n.ty,n.f))=m'.nodes.map λn=>(n.ty,n.f):=(wu h).2;have:=congrArg List.length h2;simpa using this
theorem M9{m m':Mm}(h:m.plain=m'.plain)(hv:Bs d m=true):Bs d m'=true:=by
 obtain⟨p1,g,p3,f,u⟩:=BD hv;have z:=Ic h;have y:m.globals=m'.globals:=(wu h).1;have r:∀{t v},AJ d m t v=true->AJ d m' t v=true:=λk=>KW (by omega) (λi x j=>by
  grind[Jd]) k
 grind[I3,BQ,xn,Jd,xJ,Es]
theorem Ge(m:Mm):(AR m).mm.plain=m.plain:=St.plain _
theorem Hz{m:Mm}(G:Am d m):Am d (AR m).mm:=⟨G.valid,G.chk,M9 (Ge m).symm G.mem⟩
theorem Ie{m m':Mm}(h:m.plain=m'.plain){t:KB}{v:Int}(k:AJ d m t v=true):AJ d m' t v=true:=KW (by rw[Ic h];omega) (λi x g=>by
 grind[Jd]) k
def DI:Rx Int->Int|.ok _ _=>0|.bad c _=>c
def outV:Rx Int->Int|.ok v _=>v|.bad _ _=>0
def Be(l:List (Int×Int×Int)):Nat:=(l.filter λa=>decide (0<a.2.1)).length
end
end Go.Proofs
namespace Go.Proofs
open Go Go.Sx
attribute [local irreducible] Go.Sx.Tri
theorem g264:IdxP 264 Nd.row Nd.v 2:=by
 intro V l xs g first t H St N k Z Y
 refine x264 (a:=l) (b:=.func (.func g) first.toArray t.toArray) ?_;refine AU xs.length St Z ?_;intro i b V1 J hi r O;have h:=k i V1 r;refine⟨λf=>?_,λz=>?_⟩
 ·obtain⟨x,hm,A,R,I,y,L,u⟩:=h.get f;refine⟨y,L,f,_,_,u,g,_,_,rfl,H,Tri.mono (Y i x V1 A r) ?_⟩;rintro e V2 ⟨b,rfl,h1,h2⟩;exact⟨b,rfl,λj=>.inl ⟨i,rfl,h1 j⟩,λj=>⟨h.succ f,O I _ _ (h2 (by simpa using j))⟩⟩
 ·have e:i=xs.length:=by have:=(h.done z).2;omega
  simp_all
theorem g231:ConP 231 Nd.row Nd.v 2:=conG g264 x231
theorem c231:ConC 231 Nd.row Nd.v 2:=conC g231
theorem If(w:World):(zeroValue 3).run xE w=.ok (.int .i64 0) w:=by kernel_rfl
def pmap(d:Ds)(i:Nat)(k:KB):Option Value:=if 0<=Bx d k/\Bx d k<(i:Int)then some (.int .i64 (Bx d k))else none
def tmap(d:Ds)(k:KB):Option Value:=if Ci d k=true then some (.int .i64 (Bx d k))else none
section
variable{V:Mem}{d:Ds}{m:Mm}{b:Nat}
theorem idxT_le{i:Nat}{x:Ty}(k:d.types[i]?=some x):0<=Bx d x.name/\Bx d x.name<=(i:Int):=by
 unfold Bx;rcases CP (λt:Ty=>decide (t.name=x.name)) d.types with⟨-,-,h⟩|⟨j,y,h1,h2,-,h4,-,-,-,g⟩;·grind
 ·rw[h1];refine⟨by omega,?_⟩;have f:¬i<j:=λu=>by
   have:=List.any_eq_false.1 g x (List.mem_take_iff_getElem.2 ⟨i,by omega,(yw.1 k).2⟩);simp_all
  omega
theorem idxT_at{k:KB}{i:Nat}(h:Bx d k=(i:Int)):∃x,d.types[i]?=some x/\x.name=k:=by
 unfold Bx at h;rcases CP (λt:Ty=>decide (t.name=k)) d.types with⟨h1,-⟩|⟨j,y,h1,h2,-,h4,g,-⟩;·omega
 grind
theorem pmap_all{k:KB}(i:Nat)(hi:d.types.length<=i):pmap d i k=tmap d k:=by
 unfold pmap tmap;rcases Mz d k with⟨h1,h2⟩|⟨h1,h2⟩;·grind
 ·obtain⟨j,h⟩:∃j:Nat,Bx d k=(j:Int):=⟨(Bx d k).toNat,by omega⟩;obtain⟨x,g,-⟩:=idxT_at h;grind
theorem c124{s:KB}:PP 124 [.string s] V (.bool (decide (s=Ai)||decide (s=Au))):=by
 refine x124 ?_;refine⟨λh=>⟨by grind[Ai],rfl⟩,λh=>⟨by rw[decide_eq_false (show ¬s=Ai from h)];rfl,rfl⟩⟩
theorem c125{s:KB}(h:By V b (tmap d)):PP 125 [.map (some b),.string s] V (.bool (Ci d s)):=by
 refine x125 ?_;refine BJ.str wq xz If h ?_;unfold tmap;cases k:Ci d s with
 |true=>simp_all
 |false=>simp_all
theorem c123{p t:Nat}(k:V p=some (cell (.map (some b)) t))(h:By V b (tmap d)){f:Fld}:PP 123 [f.v,pv p] V (.bool (!Bq d f.ty)):=by
 refine x123 ?_;refine c124.call ⟨_,rfl,λh1=>?_,λh1=>⟨some b,AG k,(c125 h).call ⟨_,rfl,?_,rfl⟩⟩⟩;·unfold Bq;grind
 grind[Bq,Ai,Au]
theorem c122{p t:Nat}(k:V p=some (cell (.map (some b)) t))(h:By V b (tmap d)){l:Sl}{xs:List Fld}(g:Ad V l 2 (xs.map Fld.row)):PP 122 [l.v,pv p] V (.bool (C4 d xs)):=by
 refine x122 ?_;refine(JD (first:=[]) (caps:=[pv p]) g Tryz.call123 (λf=>!Bq d f.ty) (λf _=>c123 k h)).call ⟨_,rfl,?_,rfl⟩;grind[C4]
theorem c126{p q t k:Nat}(g:V p=some (cell (.map (some b)) t))(f:V q=some (cell (.func (.func 122) #[] #[pv p]) k))(h:By V b (tmap d)){y:Ty}(u:Ty.Ok V y):
  PP 126 [y.v,pv q] V (.bool (!C4 d y.fields)):=by
 refine x126 ?_;exact⟨.func (.func 122) #[] #[pv p],rfl,AG f,122,_,_,rfl,Tryz.call122,(c122 g h u.fields).callv (first:=[]) (caps:=[pv p]) ⟨_,rfl,rfl,rfl⟩⟩
theorem Ig:Dn d=true↔BC d=true/\C4 d d.globals=true/\(∀(i:Nat)(x:Ty),d.types[i]?=some x->Bx d x.name=(i:Int))/\∀x∈d.types,C4 d x.fields=true:=by
 unfold Dn;rw[zC,zC,GO,and_assoc];refine and_congr_right λ_=>and_congr_right λ_=>⟨λh=>⟨λi x k=>?_,λx k=>?_⟩,λh i x k=>?_⟩;·grind
 ·obtain⟨i,hi,rfl⟩:=List.mem_iff_getElem.1 k;have:=h i _ (List.getElem?_eq_getElem hi);simp_all
 grind
def Ih(V':Mem)(d:Ds)(mo:Option Nat):Prop:=(Dn d=true/\∃b,mo=some b/\By V' b (tmap d))∨(¬Dn d=true/\mo=none)
theorem OC[Tab V](h:Ds.Ok V d):Tri xE 75 #[d.v] V λr V'=>∃N,r=.returned (.map N)/\V.sub V'/\Ih V' d N:=by
 refine Qa ?_;have L:∀{V1:Mem},V.sub V1->¬Dn d=true->(∃N,xG (.map none)=.returned (.map N)/\V.sub V1/\Ih V1 d N):=λf k=>⟨none,rfl,f,.inr ⟨k,rfl⟩⟩;refine(Ob h).call ⟨_,rfl,λhv=>?_,λhv=>L (Mem.sub.refl _) λk=>hv (Ig.1 k).1⟩;refine GenK.makeMap λb hb=>⟨some b,rfl,?_⟩;have f:∀o,V.sub (V.set b o):=λo=>Mem.sub_new hb _;refine AU (mk:=.map) (b0:=none) d.types.length (λi V1=>(∃o,V1=V.set b o)/\By V1 b (pmap d i)/\∀(j:Nat)(x:Ty),j<i->d.types[j]?=some x->Bx d x.name=(j:Int)) ⟨⟨_,rfl⟩,(By.made V b).congr λk=>?_,λ_ _ h=>absurd h (Nat.not_lt_zero _)⟩ ?_;·grind[pmap]
 rintro i b1 _ J hi ⟨⟨o,rfl⟩,hm,hd⟩ hJ;have g:=h.sub (f o);refine⟨λt=>?_,λX=>?_⟩
 ·obtain⟨x,hxm,R,hdr,hl,B,hz,Z⟩:=g.types.get t;have hle:=idxT_le R;refine⟨B,hz,t,_,_,Z,BJ.str wq xz If hm ?_⟩;by_cases hlo:Bx d x.name<(i:Int)
  ·have e:pmap d i x.name=some (.int .i64 (Bx d x.name)):=by grind[pmap]
   rw[e];refine⟨_,_,rfl,λ_=>L (f o) λk=>?_,λk=>absurd rfl k⟩;grind[Ig]
  ·have e:pmap d i x.name=none:=by grind[pmap]
   rw[e];refine⟨0,false,rfl,(λk=>by cases k),λ_=>C3.str wq xz hm λo2 C=>⟨g.types.succ t,hJ hl _ _ ⟨⟨o2,by rw[Mem.set_set]⟩,C.congr λk=>?_,λj y hj T=>?_⟩⟩⟩
   ·by_cases U:k=x.name
    ·subst U;rw[if_pos rfl];grind[pmap,Bx]
    ·rw[if_neg U];unfold pmap;by_cases hki:Bx d k=(i:Int);·grind[idxT_at,absurd]
     grind
   grind
 ·have Y:=(g.types.done X).2;have D:By (V.set b o) b (tmap d):=hm.congr λk=>pmap_all i Y;have u:∀(j:Nat)(x:Ty),d.types[j]?=some x->Bx d x.name=(j:Int):=λj x R=>hd j x (by grind) R;intro p B;have O:=Mem.sub_new B (cell (.map (some b)) 164);have z:=Mem.set_same (V.set b o) p (cell (.map (some b)) 164);have l:=D.sub O;have A:=g.sub O;refine(c122 z l A.globals).call ⟨_,rfl,λE=>λq hq=>?_,λE=>L ((f o).trans O) λk=>E (Ig.1 k).2.1⟩;have H:=Mem.sub_new hq (cell (.func (.func 122) #[] #[pv p]) 227);have K:=Mem.set_same ((V.set b o).set p (cell (.map (some b)) 164)) q (cell (.func (.func 122) #[] #[pv p]) 227);have I:=A.sub H;refine(c111 (first:=[]) (caps:=[pv q]) I.types Tryz.call126 (λy=>!C4 d y.fields) (λy T=>c126 (H _ _ z) K (l.sub H) (I.typesOk y T))).call ⟨_,rfl,λha=>L ((f o).trans (O.trans H)) λk=>?_,λha=>⟨_,AG (H _ _ z),some b,rfl,(f o).trans (O.trans H),.inl ⟨Ig.2 ⟨hv,E,u,λx R=>?_⟩,b,rfl,l.sub H⟩⟩⟩;·grind[xU,Ig]
  simp_all
theorem c265{mo:Option Nat}(l:Ih V d mo)(N:Dn d=true)(hm:Mm.Ok V m){g:KB}(Z:Bq d g=true){v:Int}:PP 265 [.map mo,m.v,.string g,.int .i64 v] V (.bool (AJ d m g v)):=by
 refine x265 ?_;have Y:=hm.nodes.n_eq;obtain⟨b,rfl,r⟩:∃b,mo=some b/\By V b (tmap d):=by
  rcases l with⟨-,h⟩|⟨h,-⟩;·exact h
  simp_all
 have ret:∀{x y:Bool},x=y->xG (.bool x)=.returned (.bool y)/\V=V:=λh=>by simp_all
 refine⟨λh1=>?_,λh1=>⟨λh2=>?_,λh2=>?_⟩⟩;·grind[AJ,Ai]
 ·grind[AJ,Ai,Au,inr]
 ·unfold AJ;rw[if_neg (show ¬g=Ai from h1),if_neg (show ¬g=Au from h2)];refine⟨λh3=>ret (decide_eq_true (.inl h3)).symm,λh3=>⟨λh4=>⟨λe=>?_,λe=>ret ?_⟩,λh4=>ret ?_⟩⟩
  ·obtain⟨i,rfl⟩:∃i:Nat,v=(i:Int)+1:=⟨(v-1).toNat,by omega⟩;have H:((i:Int)+1-1).toNat=i:=by omega
   obtain⟨x,J,O,-,A,u,I,f⟩:=hm.nodes.get (i:=i) (by omega);have z:=Ak (n:=i*2) u;have j:IR ((i:Int)+1-1):=⟨by omega,by have:=(hm.nodes.succ (i:=i) (by omega)).2;omega⟩;have t:Ci d g=true:=by
    grind[Bq,Ai,Au]
   rw[H];refine⟨j,u,by omega,by omega,z,_,_,f,BJ.str1 wq xz If r ?_⟩;unfold tmap;rw[if_pos t];refine⟨_,rfl,KL (k:=1) f (by decide),z,u,by omega,by omega,j,ret ?_⟩;grind
  ·grind
  grind
theorem c233{mo:Option Nat}(N:Ih V d mo)(Z:Dn d=true)(hm:Mm.Ok V m){l:Sl}{xs:List Fld}(f:Ad V l 2 (xs.map Fld.row))(Y:C4 d xs=true){s:Sl}{vs:List Int}(hv:Ad V s 1 (vs.map Al)):PP 233 [.map mo,m.v,l.v,s.v] V (.bool (Aw d m xs vs)):=by
 refine x233 ?_;have h1:=f.n_eq;have h2:=hv.n_eq;refine⟨λO=>?_,λO=>?_⟩
 ·refine AU (mk:=.bool) (b0:=false) vs.length (λi V1=>V=V1/\AllI (λi v=>AJ d m (tyAt xs i) v) vs i) ⟨rfl,AllI.zero⟩ ?_;rintro i b V1 J hi ⟨rfl,e⟩ A;refine⟨λh=>?_,λI=>?_⟩
  ·obtain⟨x,t,C,-,D,L,R,g⟩:=f.get h;obtain⟨y,X,H,-,u,z,j,k⟩:=hv.get (i:=i) (by omega);have B:tyAt xs i=x.ty:=by grind[tyAt]
   have r:Bq d x.ty=true:=za.1 Y x t;refine⟨L,R,h,_,_,g,z,j,by omega,_,k,(c265 N Z hm r).call ⟨_,rfl,λh3=>⟨f.succ h,A u _ _ ⟨rfl,e.succ H (by grind)⟩⟩,λh3=>?_⟩⟩;unfold Aw;rw[My H (by grind),wo];simp_all
  ·unfold Aw;rw[e.all (by omega),decide_eq_true (by omega)];simp_all
 ·unfold Aw;rw[decide_eq_false (by omega)];simp_all
theorem c232(h:Ds.Ok V d){p t:Nat}(k:V p=some (.cells d.row.toArray t (0,0))){n:Nd}:PP 232 [n.v,pv p] V (.bool (!Es d n)):=by
 refine x232 ?_;have g:=h.types.n_eq;refine⟨λh1=>?_,λh1=>⟨by simp,_,An k 1 1 (by simp[Ds.row]),?_⟩⟩;·unfold Es;rw[decide_eq_false (by omega)];exact⟨rfl,rfl⟩
 ·refine⟨?_,rfl⟩;grind[Es]
theorem c234(h:Ds.Ok V d)(hm:Mm.Ok V m){mo:Option Nat}(l:Ih V d mo)(y:Dn d=true){p q r t e t3:Nat}(H:V p=some (cell (.map mo) t))(J:V q=some (.cells m.row.toArray e (0,0)))(N:V r=some (.cells d.row.toArray t3 (0,0))){n:Nd}(Z:n∈m.nodes)(z:Es d n=true):
  PP 234 [n.v,pv p,pv q,pv r] V (.bool (!Aw d m (Bm d n.ty) n.f)):=by
 refine x234 ?_;obtain⟨h1,h2⟩:=of_decide_eq_true z;have j:=h.types.n_eq;obtain⟨i,hi⟩:∃i:Nat,n.ty=(i:Int):=⟨n.ty.toNat,by omega⟩;obtain⟨x,k,Y,-,A,g,I,u⟩:=h.types.get (i:=i) (by omega);have O:=Ef Y hi;rw[O];refine⟨_,AG H,_,_,An J 0 2 (by simp[Mm.row]),by simp,_,An N 1 1 (by simp[Ds.row]),g,h1,by omega,?_⟩;rw[hi];refine⟨Ak g,_,_,u,(c233 l y hm (h.typesOk x k).fields ((Ig.1 y).2.2.2 x k) (hm.nodesOk n Z).rows).call ⟨_,rfl,rfl,rfl⟩⟩
theorem c189(h:Ds.Ok V d)(hm:Mm.Ok V m){mo:Option Nat}(N:Ih V d mo):Bv xE 189 [.map mo,d.v,m.v] V (.bool (Bs d m)):=by
 refine Bv.mk ?_;refine x189 ?_;have l:=hm.nodes.n_eq;rcases N with⟨u,b,rfl,H⟩|⟨u,rfl⟩;rotate_left
 ·refine⟨λ_=>?_,λk=>absurd rfl k⟩;unfold Bs;rw[(Bool.not_eq_true _).mp u];exact⟨rfl,Mem.sub.refl _⟩
 refine⟨(λk=>by cases k),λ_=>⟨λh1=>?_,λh1=>?_⟩⟩;·unfold Bs;rw[decide_eq_false (by omega:¬m.nodes.length<=4096)];simp_all[wo,Bool.false_and,trivial,Mem.sub.refl]
 intro p Z;have y:=Mem.sub_new Z (.cells d.row.toArray 35 (0,0));have z:=Mem.set_same V p (.cells d.row.toArray 35 (0,0));have t:=hm.sub y;refine(c231 (first:=[]) (caps:=[pv p]) t.nodes Tryz.call232 (λn=>!Es d n) (λn l=>c232 (h.sub y) z)).call ⟨_,rfl,λh2=>?_,λh2=>?_⟩;·grind[Bs,Es]
 have x:m.nodes.all (Es d)=true:=by
  simp_all
 have e:Ih (V.set p (.cells d.row.toArray 35 (0,0))) d (some b):=.inl ⟨u,b,rfl,H.sub y⟩;have j:=h.sub y;refine⟨nofun,_,An z 2 1 (by simp[Ds.row]),(c233 e u t j.globals (Ig.1 u).2.1 t.globals).call ⟨_,rfl,λh3=>?_,λh3=>?_⟩⟩;rotate_left;·grind[Bs]
 intro q Y;have O:=Mem.sub_new Y (cell (.map (some b)) 164);intro r A;have J:=Mem.sub_new A (.cells m.row.toArray 49 (0,0));have g:=O.trans J;refine(c231 (first:=[]) (caps:=[pv q,pv r,pv p]) (t.sub g).nodes Tryz.call234 (λn=>!Aw d m (Bm d n.ty) n.f) (λn l=>?_)).call ⟨_,rfl,?_,y.trans g⟩;·refine c234 (j.sub g) (t.sub g) (mo:=some b) (.inl ⟨u,b,rfl,(H.sub y).sub g⟩) u (J _ _ Az) Az (g _ _ z) l (za.1 x n l)
 grind[Bs,Aw]
theorem c128[Tab V](h:Ds.Ok V d)(hm:Mm.Ok V m):Bv xE 128 [d.v,m.v] V (.bool (Bs d m)):=by
 refine Bv.mk ?_;refine x128 ?_;refine Tri.mono (OC h) ?_;rintro _ V' ⟨g,rfl,k,f⟩;exact⟨g,rfl,(c189 (h.sub k) (hm.sub k) f).call ⟨_,rfl,rfl,k⟩⟩
end
theorem Na{d:Ds}(h:(fltR (CS d)).2.2=0):CS d=none:=by
 have key:∀{a:Option Flt},(∀r,a=some r->r.2.2≠0)->(fltR a).2.2=0->a=none:=λ{a} u h=>by
  cases a with
  |none=>rfl
  |some r=>exact absurd h (u r rfl)
 refine key (λr k=>?_) h;unfold CS at k;have g:∀{a b:Option Flt} {r},a.or b=some r->a=some r∨b=some r:=λ{a b r} h=>by
  cases a with
  |none=>exact .inr (by simpa using h)
  |some x=>exact .inl (by simpa using h)
 rcases g k with h1|k;·exact(Mr d r h1).1
 rcases g k with h1|k;·exact(Mt d r h1).1
 rcases g k with h1|k;·exact(Mu d r h1).1
 rcases g k with h1|k
 ·unfold E4 at h1;obtain⟨j,x,-,f⟩:=IU h1;split at f;·rename_i t;cases f;exact t
  ·cases f
 ·exact(Mv d r k).1
section
variable{V:Mem}{d:Ds}{m:Mm}
theorem c206(R:Ds.Ok V d)(hm:Mm.Ok V m)(G:Am d m){g:KB}{v:Int}:PP 206 [d.v,m.v,.string g,.int .i64 v] V (.bool (AJ d m g v)):=by
 refine x206 ?_;have f:∀{b:Bool},AJ d m g v=b->(xG (.bool b)=.returned (.bool (AJ d m g v))/\V=V):=λe=>⟨by rw[e],rfl⟩;refine⟨λh=>⟨λa=>f ?_,λa=>f ?_⟩,λh=>⟨λh1=>⟨λa=>f ?_,λa=>f ?_⟩,λh1=>⟨λu=>f ?_,λu=>⟨λY=>⟨λr=>?_,λr=>f ?_⟩,λY=>f ?_⟩⟩⟩⟩;·unfold AJ;rw[if_pos (show g=Ai from h)];simp[show(-1099511627776:Int)<=v from a]
 ·unfold AJ;rw[if_pos (show g=Ai from h)];exact decide_eq_false λk=>a k.1
 ·unfold AJ;rw[if_neg (show ¬g=Ai from h),if_pos (show g=Au from h1)];exact decide_eq_true (.inl a)
 ·unfold AJ;rw[if_neg (show ¬g=Ai from h),if_pos (show g=Au from h1)];have a:¬v=0:=a;simp[a]
 ·unfold AJ;rw[if_neg (show ¬g=Ai from h),if_neg (show ¬g=Au from h1)];exact decide_eq_true (.inl u)
 ·have u:¬v=0:=u;have C:=hm.nodes.n_eq;have r:v<=(m.ns.n:Int):=r;obtain⟨k,X⟩:∃k:Nat,v-1=(k:Int):=⟨(v-1).toNat,by omega⟩;obtain⟨y,O,D,-,-,H,E,J⟩:=hm.nodes.get (i:=k) (by omega);obtain⟨p1,p2,p3,-⟩:=BD G.mem;have K:=of_decide_eq_true (p3 y O);obtain⟨j,A⟩:∃j:Nat,y.ty=(j:Int):=⟨y.ty.toNat,by omega⟩;have T:=R.types.n_eq;obtain⟨U,-,N,-,-,Z,I,z⟩:=R.types.get (i:=j) (by omega);have l:V.rowp m.ns.p (k*2) 2=some [.int .i64 (j:Int),y.sl.v]:=by rw[<-A];exact J
  rw[X];refine⟨⟨by omega,by omega⟩,H,E,by omega,Ak H,_,_,l,Z,I,by omega,Ak Z,_,_,z,f ?_⟩;unfold AJ;rw[if_neg (show ¬g=Ai from h),if_neg (show ¬g=Au from h1),X,xv,D];refine decide_eq_decide.2 ⟨λt=>?_,λt=>.inr ⟨by omega,by omega,?_⟩⟩
  ·rcases t with t|⟨-,-,t⟩;·exact absurd t u
   ·simp only[zJ,zF]at t;obtain⟨x,B,L⟩:=idxT_at (d:=d) (k:=g) (i:=j) (by rw[<-t,A]);rw[N]at B;cases B;exact L
  ·simp only[zJ,zF];rw[A,<-(F7 p1).2.1 j U N];exact congrArg _ t
 ·have r:¬v<=(m.ns.n:Int):=r;have C:=hm.nodes.n_eq;have u:¬v=0:=u;unfold AJ;rw[if_neg (show ¬g=Ai from h),if_neg (show ¬g=Au from h1)];exact decide_eq_false λt=>by rcases t with t|⟨-,t,-⟩<;>omega
 ·have Y:¬0<v:=Y;have u:¬v=0:=u;unfold AJ;rw[if_neg (show ¬g=Ai from h),if_neg (show ¬g=Au from h1)];exact decide_eq_false λt=>by rcases t with t|⟨t,-,-⟩<;>omega
def AQ(d:Ds)(m:Mm)(nm:KB)(args:List Int):Int:=
 if AD d nm<0 then 9 else match d.procs[(AD d nm).toNat]? with
  |none=>9
  |some pr=>if args.length=pr.params.length then(if Aw d m pr.params args=true then 0 else 11)else 3
theorem Je{nm:KB}{args:List Int}(h:AQ d m nm args=0):∃(i:Nat)(pr:Pr),AD d nm=(i:Int)/\d.procs[i]?=some pr/\Aw d m pr.params args=true:=by
 unfold AQ at h;split at h;·cases h
 ·split at h;·cases h
  ·rename_i h1 pr k;split at h
   ·split at h;·exact⟨(AD d nm).toNat,pr,by omega,k,by assumption⟩
    ·cases h
   ·cases h
def noPr:Pr:=⟨Ac [],Aj,[],Ac [],Aj,[],Aj,[]⟩
theorem c143(r:Ds.Ok V d)(hm:Mm.Ok V m)(G:Am d m){l:Sl}{args:List Int}(I:Ad V l 1 (args.map Al)){nm:KB}:
  PP 143 [d.v,m.v,.agg #[.string nm,l.v]] V (.tuple #[(if AQ d m nm args=0 then((d.procs[(AD d nm).toNat]?).getD noPr)else noPr).v,.int .i64 (AQ d m nm args)]):=by
 refine x143 ?_;have bad:∀{e:Int},AQ d m nm args=e->e≠0->(xG (.tuple #[noPr.v,.int .i64 e])=.returned (.tuple #[(if AQ d m nm args=0 then((d.procs[(AD d nm).toNat]?).getD noPr)else noPr).v,.int .i64 (AQ d m nm args)])/\V=V):=λe h=>⟨by rw[e,if_neg h],rfl⟩;refine(c205 r).call ⟨_,rfl,λh=>?_,λh=>?_⟩;·exact bad (by unfold AQ;rw[if_pos h]) (by decide)
 ·have h:¬AD d nm<0:=h;rcases CP (λt:Pr=>decide (t.name=nm)) d.procs with⟨h1,-⟩|⟨i,pr,h1,h2,-⟩
  ·have:AD d nm=-1:=h1;omega
  have hi:AD d nm=(i:Int):=h1;have hn:=r.procs.n_eq;have hil:=(yw.1 h2).1;obtain⟨y,R,hy,-,-,hp,hz,H⟩:=r.procs.get (i:=i) (by omega);rw[h2]at hy;cases hy;have N:AQ d m nm args=if args.length=pr.params.length then(if Aw d m pr.params args=true then 0 else 11)else 3:=by unfold AQ;rw[if_neg h,hi,xv,h2]
  have Z:=(r.procsOk pr R).params;have hln:=Z.n_eq;have han:=I.n_eq;rw[hi]at bad⊢;refine⟨hp,hz,by omega,_,_,_,_,_,H,λu=>?_,λu=>?_⟩
  ·have u:(l.n:Int)=(pr.ps.n:Int):=u;have Y:args.length=pr.params.length:=by omega
   rw[if_pos Y]at N;refine AU (mk:=λk:Int=>.int .i64 k) (b0:=0) args.length (λj V1=>V1=V/\∀(i:Nat) f v,i<j->pr.params[i]?=some f->args[i]?=some v->AJ d m f.ty v=true) ⟨rfl,λi f v h=>by omega⟩ ?_;rintro j b V1 J hj ⟨rfl,z⟩ hJ;refine⟨λx=>?_,λX=>?_⟩
   ·obtain⟨v,hvm,hv,-,B,C,D,E⟩:=I.get x;obtain⟨f,hfm,L,-,-,O,K,T⟩:=Z.get (i:=j) (by omega);refine⟨C,D,x,v,E,O,K,by omega,Ak O,_,_,T,(c206 r hm G).call ⟨_,rfl,λU=>⟨I.succ x,hJ B _ _ ⟨rfl,λi g w hi' hg hw=>?_⟩⟩,λU=>bad ?_ (by decide)⟩⟩
    ·rcases Nat.lt_or_ge i j with h3|h3;·exact z i g w h3 hg hw
     ·obtain rfl:i=j:=by omega
      rw[L]at hg;cases hg;rw[hv]at hw;cases hw;exact U
    ·rw[N,if_neg λk=>U ((Cm.1 k).2 j f v L hv)]
   ·have hd2:=(I.done X).2;have A:Aw d m pr.params args=true:=Cm.2 ⟨Y.symm,λi f v L hv=>z i f v (by have:=(yw.1 hv).1;omega) L hv⟩;rw[if_pos A]at N;refine⟨?_,rfl⟩;rw[N,if_pos rfl,xv,h2];rfl
  ·have u:¬(l.n:Int)=(pr.ps.n:Int):=u;exact bad (by rw[N,if_neg (by omega)]) (by decide)
noncomputable def C8(d:Ds)(m:Mm)(F:Int):Int:=by
 classical
 exact if Am d m then(if F<0 then 2 else if 1048576<F then 2 else 0)else 1
theorem QV[Tab V](f:Ds.Ok V d)(hm:Mm.Ok V m){F:Int}:PP 94 [d.v,m.v,.int .i64 F] V (.int .i64 (C8 d m F)):=by
 refine Qt ?_;have bad:¬Am d m->(xG (.int .i64 1)=.returned (.int .i64 (C8 d m F))/\V=V):=λh=>⟨by unfold C8;rw[if_neg h],rfl⟩;refine(Oi scopeC newC f).call ?_;by_cases hv:BC d=true
 ·rw[if_pos hv];refine⟨_,_,_,rfl,λg=>(c128 f hm).call ⟨_,rfl,λh1=>?_,λh1=>bad λk=>h1 k.mem⟩,λg=>bad λk=>g (by rw[k.chk];rfl)⟩;have G:Am d m:=⟨hv,Na g,h1⟩;refine⟨λh=>⟨?_,rfl⟩,λh=>⟨λh2=>⟨?_,rfl⟩,λh2=>⟨?_,rfl⟩⟩⟩;·unfold C8;rw[if_pos G,if_pos h]
  ·unfold C8;rw[if_pos G,if_neg h,if_pos h2]
  ·unfold C8;rw[if_pos G,if_neg h,if_neg h2]
 ·rw[if_neg hv];exact⟨_,_,_,rfl,λh=>absurd h (by decide),λ_=>bad λk=>hv k.valid⟩
end
theorem loop3u{V:Mem}{β h:Type}{mk:β->Value}{mc:h->Value}{B:β->h->Int->Mem->(KZ)->Prop}{b0:β}{c0:h}(inj:∀x y,mk x=mk y->x=y)(t:∀x y,mc x=mc y->x=y)(len:Nat)(St:Nat->β->h->Mem->Prop)(j:St 0 b0 c0 V)
  (step:∀(i:Nat)(b:β)(c:h) V1 J,i<=len->St i b c V1->(i<len->∀k g V2,St (i+1) k g V2->J [mk k,mc g,.int .i64 ((i:Int)+1)] V2)->B b c (i:Int) V1 J):
  ∃(I:Nat->KZ)(l:Nat),I l [mk b0,mc c0,.int .i64 0] V/\∀n V1,∀b:β,∀c:h,∀v:Int,I n [mk b,mc c,.int .i64 v] V1->∀J:KZ,(∀m ys f,m<n->I m ys f->J ys f)->B b c v V1 J:=by
 refine⟨LI len λi xs V=>∃b c,xs=[mk b,mc c,.int .i64 i]/\St i b c V,len,LI.start ⟨b0,c0,rfl,j⟩,?_⟩;rintro n V1 b c v ⟨i,rfl,hi,k,g,z,r⟩ J e;simp only[List.cons.injEq,Value.int.injEq,true_and,and_true]at z;obtain⟨H,N,rfl⟩:=z;cases inj _ _ H;cases t _ _ N;exact step i b c V1 J hi r λu k g V2 h2=>LI.next e u ⟨k,g,rfl,h2⟩
theorem QW{V:Mem}{m:Mm}(hm:Mm.Ok V m)(h1:m.globals.length<=2147483648)(h2:m.nodes.length<=4096)(h3:∀n∈m.nodes,n.f.length<=2147483648):Tri xE 96 #[m.v] V λe V'=>∃gs ns nd,e=.returned (.agg #[.slice gs.p gs.n gs.c,.slice ns.p ns.n ns.c])/\AP V V' gs ns Aj nd (AR m):=by
 refine QF ?_;refine Tri.mono (G4 hm.globals h1) ?_;rintro _ V1 ⟨gs,rfl,u⟩;refine⟨gs,rfl,loop3u (mk:=λs:Sl=>.slice s.p s.n s.c) (mc:=λs:Sl=>.slice s.p s.n s.c) (b0:=gs) (c0:=⟨none,0,0⟩) Bw Bw m.nodes.length (λi b ns V2=>b=gs/\∃nd,AP V V2 gs ns Aj nd ⟨m.globals,(m.nodes.take i).map λn=>(n.ty,n.f),0,0,[]⟩/\nd.length=i) ⟨rfl,[],⟨u,Own.nil u.sub _ _,Own.nil u.sub _ _,(λn z=>by cases z),rfl,(λn z=>by cases z),(λi j n B c h=>by cases h)⟩,rfl⟩ ?_⟩;rintro i b ns V2 J hi ⟨rfl,nd,L,y⟩ Z;have l:=hm.nodes.sub L.sub;refine⟨λk=>?_,λr=>?_⟩
 ·obtain⟨x,g,Y,-,H,O,A,t⟩:=l.get k;refine⟨O,A,k,x.ty,x.sl,t,Tri.mono (G4 ((hm.nodesOk x g).rows.sub L.sub) (h3 x g)) ?_⟩;rintro _ C ⟨fs,rfl,I⟩;refine⟨fs,rfl,λD N=>L.new (n:=⟨x.ty,fs,x.f⟩) I N rfl rfl (by omega) λs' V' R _=>⟨s',rfl,l.succ k,Z H _ _ _ ⟨rfl,nd++[⟨x.ty,fs,x.f⟩],?_,by rw[zw,y];rfl⟩⟩⟩;rw[List.take_add_one,Y];simpa using R
 ·have X:=(l.done r).2;rw[List.take_of_length_le X]at L;exact⟨b,ns,nd,rfl,L⟩
end Go.Proofs
namespace Go.Sx
open Go
section
variable{P:Program}{n:Nat}{ops:Array Oper}{i:Nat}{o:Oper}{rest:List Nat}{Q:Exit->Act->World->Prop}{a:Act}{w:World}
theorem Ii(h:o.guard=none):yN o (yielded ops a.tmps)=true:=by simp[yN,h]
theorem step_value{v:Value}(g:ops[i]?=some o)(f:o.guard=none)(h:(execOp a.eval o).run P w=.ok (.value v) w)(k:wpOpsIn (AM none) n P ops Q rest (a.put o.dst v) w):wpOpsIn (AM none) n P ops Q (i::rest) a w:=by
 rw[wpOpsIn_cons];unfold wpOpIn;simp only[g];rw[if_pos (Ii f)];refine⟨λ_ _=>trivial,?_⟩;show wm _ _ _ _ _ _ _ ((execOp a.eval o).run P w);rw[h];exact k
theorem step_defer{d:Deferred}(g:ops[i]?=some o)(f:o.guard=none)(h:(execOp a.eval o).run P w=.ok (.defer d) w)(k:wpOpsIn (AM none) n P ops Q rest (({a with defers:=d::a.defers}:Act).put o.dst undef) w):wpOpsIn (AM none) n P ops Q (i::rest) a w:=by
 rw[wpOpsIn_cons];unfold wpOpIn;simp only[g];rw[if_pos (Ii f)];refine⟨λ_ _=>trivial,?_⟩;show wm _ _ _ _ _ _ _ ((execOp a.eval o).run P w);rw[h];exact k
theorem step_call{f:FuncId}{args:Array Value}{V:Mem}{R:Ending->Mem->Prop}(t:ops[i]?=some o)(u:o.guard=none)(k:(execOp a.eval o).run P w=.ok (.enter f args) w)(z:V.le w)(H:Tri P f args V R)
  (y:∀g V' w',R (.panicked g) V'->Ax V w V' w'->Q (.panic g) a w') (x:∀v V' w',R (.returned v) V'->Ax V w V' w'->wpOpsIn (AM none) n P ops Q rest (a.put o.dst v) w') (j:∀V',¬R .outgrown V'):wpOpsIn (AM none) n P ops Q (i::rest) a w:=by
 rw[wpOpsIn_cons];unfold wpOpIn;simp only[t];rw[if_pos (Ii u)];refine⟨λ_ _=>trivial,?_⟩;show wm _ _ _ _ _ _ _ ((execOp a.eval o).run P w);rw[k];refine⟨λh=>by simp[AM,Fence.wide]at h,MJ.2 (IJ (H w z) ?_)⟩;grind
theorem run_callv{c:Call}{fv:Operand}{f:FuncId}{first caps args:Array Value}(k:o.op=.call c)(g:c.callee=.value fv)(t:a.eval fv=.func (.func f) first caps)(h:c.args.map a.eval=args)(u:∀args w,(callFunc f args).run P w=.ok (.enter f args) w):
  (execOp a.eval o).run P w=.ok (.enter f (first++args++caps)) w:=by
 grind[execOp,resolve,Deferred.ofValue,invoke]
def Rec(u:FrameMode)(v:Value)(k:FrameMode):Prop:=
 match u with
 |.panicking ({v:=g,recovered:=false,goexit:=false}::h)=>v=g/\k=.panicking ({v:=g,recovered:=true}::h)
 |_=>v=.nilIface/\k=u
end
end Go.Sx
