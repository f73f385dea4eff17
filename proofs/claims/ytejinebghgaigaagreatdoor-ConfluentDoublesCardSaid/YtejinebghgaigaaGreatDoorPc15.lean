/- Part 15: no statement of the seat is proved here. -/
import Derived.Test.YtejinebghgaigaaGreatDoorPc14
import Derived.Test.YtejinebghgaigaaGreatDoorPc12
import Derived.Test.YtejinebghgaigaaGreatDoorPc11
import Derived.Test.YtejinebghgaigaaGreatDoorPc13
import Derived.DefersIn
import Derived.RecoverIn
set_option linter.unusedVariables false
set_option linter.unusedSimpArgs false
open List renaming getElem?_eq_some_iff->yu,mem_of_getElem?->xr,any_eq_true->xV,mem_iff_getElem?->xj,replicate->yK,length_append->zw,length_singleton->xf,length_map->xi,getD_cons_zero->xo,all_eq_true->z7
open Go.Proofs.Tryz renaming prog->xG,underlying3->wo,underlying164->wk,underlying9->xy
open Int renaming toNat_natCast->xu
open Go.Value renaming int->xa
open Nat renaming log2->wy
open Prod.mk renaming inj->wm
open Bool renaming and_eq_true->zC,and_false->wj
open Go.Ending renaming returned->xI
open Option renaming map_some->zJ
open Option.some renaming injEq->zF
open Go.Region renaming wanted->yP
open Go.Oper renaming uponIn->wi
namespace Go.Proofs
open Go Go.Sx
attribute [local irreducible] Go.Sx.Tri
section
variable{V0 V V1:Mem}{d:Ds}{p F c q:Nat}{s:St}{pr:Pr}{vals:List Int}
theorem Fz{V:Mem}{gs:Sl}{l:List Int}(h:Ad V gs 1 (l.map Ak)){i:Nat}{v:Int}(hv:l[i]?=some v):¬gs.p=none/\(0:Int)<=(i:Int)/\(i:Int)<(gs.n:Int)/\V.rowp gs.p (i*1) 1=some [.int .i64 v]:=by
 have z:=h.n_eq;have x:=(yu.1 hv).1;obtain⟨y,-,g,-,f,t,u,k⟩:=h.get (i:=i) (by omega);rw[hv]at g;cases g;exact⟨t,u,by omega,k⟩
theorem nodeAt(M:EM V0 d p F V s c){k i:Nat}{ty v:Int}{fs:List Int}(z:s.ns[k]?=some (ty,fs))(hv:fs[i]?=some v):∃gs ns ls nd sl,V p=some (.cells (AW d F s.tk c s.cm gs ns ls).toArray 140 (0,0))/\AM V0 V gs ns ls nd s/\nd[k]?=some ⟨ty,sl,fs⟩/\IR (k:Int)/\
  ¬ns.p=none/\(0:Int)<=(k:Int)/\(k:Int)<(ns.n:Int)/\V.rowp ns.p (k*2) 2=some [.int .i64 ty,.slice sl.p sl.n sl.c]/\¬sl.p=none/\(0:Int)<=(i:Int)/\(i:Int)<(sl.n:Int)/\V.rowp sl.p (i*1) 1=some [.int .i64 v]:=by
 obtain⟨gs,ns,ls,nd,t,L⟩:=M.ex;have g:=L.nodes.rows (λ_=>rfl) (by decide);have x:=g.n_eq;obtain⟨sl,h⟩:=L.at_ z;have j:=(yu.1 h).1;obtain⟨y,-,u,-,-,l,r,f⟩:=g.get (i:=k) (by omega);rw[h]at u;cases u;have e:IR ((k:Int)):=⟨by omega,by have:=(g.succ (i:=k) (by omega)).2;omega⟩;obtain⟨H,J,N,Z⟩:=Fz ((L.fld _ (xr h)).rows (λ_=>rfl) (by decide)) hv;exact⟨gs,ns,ls,nd,sl,t,L,h,e,l,r,by omega,f,H,J,N,Z⟩
theorem exprC{n:Nat}(hR:CallC d p F n):ExprC d p F n:=by
 intro e;induction e using E.ind with
 |h e ih=>
 intro t V0 V s c q pr vals X hv he ht;obtain⟨gs,ns,ls,nd,hat,L⟩:=X.M.ex;obtain⟨fa,fb,hq0,hra0,hrb0⟩:=X.fr.ex;have hq:=L.sub _ _ hq0;have hd:=X.S.ds.sub L.sub;have U:=he.sub L.sub;obtain⟨f,hf⟩:∃f,f=Di d (CJ d (A4 d F n) c) pr vals:=⟨_,rfl⟩;obtain⟨G,Y⟩:∃G:Rx Int,G=Dh d (CJ d (A4 d F n) c) pr vals (intB d (Av d pr) e.k) e.op e.n e.s (e.k.map f) s:=⟨_,rfl⟩;rw[evX_eq,<-hf,<-Y];have hcs:=Ia X.S.procs (Gk (F:=F) X.S.procs n) c;have hsz:=szE_eq e;have K:∀{i:Nat}{a:E},e.k[i]?=some a->BQ (e.k.map f) i=f a:=λh=>KN h;have kid:∀{i:Nat}{a:E}{u:KB}{V1:Mem}{T:St},e.k[i]?=some a->As d (Av d pr) a=(u,0)->Cx V0 d p F c q pr vals n (AB a) V1 T->Tri xG 280 #[pv p,pv q,.agg #[.int .i64 a.op,.int .i64 a.n,.string a.s,.slice a.l.p a.l.n a.l.c]] V1 (PX V0 d p F c (f a T)):=λ{i a u V1 T} z J I=>by
  have hm:=xr z;rw[hf];exact ih a hm u V0 V1 T c q pr vals I (hv.kids a hm) (he.kids a hm) J
 have go:∀{i:Nat}{a:E}{u:KB}{T s2:St}{V1 V2:Mem}{m k:Nat}{v:Int},e.k[i]?=some a->As d (Av d pr) a=(u,0)->Cx V0 d p F c q pr vals n m V1 T->AB a+k<=m->f a T=.ok v s2->EM V0 d p F V2 s2 c->Cx V0 d p F c q pr vals n k V2 s2/\Ca d s2.mm u v:=λ{i a u T s2 V1 V2 m k v} z J I hm e2 M2=>by
  have hmem:=xr z;have P:=IW X.S.procs hcs X.po a u T (hv.kids a hmem) J I.G I.hv;rw[hf]at e2;obtain⟨G2,g2,q2⟩:=P.got e2;exact⟨(I.le hm).next g2 G2 M2,q2⟩
 have s1':∀{a:E},e.k=[a]->AB e=AB a+1:=λh=>by rw[hsz,h];simp;omega
 have s2':∀{a b:E},e.k=[a,b]->AB e=AB a+AB b+1:=λh=>by rw[hsz,h];simp;omega
 have s3':∀{a b c:E},e.k=[a,b,c]->AB e=AB a+AB b+AB c+1:=λh=>by rw[hsz,h];simp;omega
 refine Tri.mono (x280 (R:=PX V0 d p F c G) ?_) λ_ _ h=>h;have two:∀{a b:E}{u w':KB},(9<=e.op/\e.op<=23/\e.op≠18/\e.op≠19/\e.op≠20/\e.op≠21)->e.k=[a,b]->As d (Av d pr) a=(u,0)->As d (Av d pr) b=(w',0)->(e.op≠14->e.op≠15->u=Aj/\w'=Aj)->
   w280 (sa p) (sa q) e.op e.n e.s e.l V (PX V0 d p F c G):=by
  intro a b u w' h N J D hint;have z:e.k[0]?=some a:=by rw[N];rfl
  have h1:e.k[1]?=some b:=by rw[N];rfl
  have Z:=Y;rw[Gj h,K z,K h1]at Z;obtain⟨k1,k2,k3,k4⟩:=DH U z;unfold w280;have hs:=s2' N;refine Ah (by omega) (Ah (by omega) (Ah (by omega) (Ah (by omega) (Ah (by omega) (Ah (by omega) (Ah (by omega) (Ah (by omega) (Ah (by omega) (Ah (by omega) (Ah (by omega) (Ah (by omega) (Ah (by omega) ?_))))))))))));refine⟨k1,by decide,k3,_,_,_,_,k4,PX.bind Z (kid z J (X.le (by omega))) λv T V1 e1 A H=>?_⟩;obtain⟨I,r⟩:=go (k:=AB b+1) z J X (by omega) e1 A;obtain⟨l1,l2,l3,l4⟩:=DH (he.sub A.sub) h1;refine⟨l1,by decide,l3,_,_,_,_,l4,PX.bind H (kid h1 D (I.le (by omega))) λw s2 V2 e2 M2 hG2=>?_⟩;obtain⟨X2,hv2⟩:=go (k:=1) h1 D I (by omega) e2 M2;have g2:=((IW X.S.procs hcs X.po b w' T (hv.kids b (xr h1)) D I.G I.hv).got (by rw[hf]at e2;exact e2)).2.1;have r:=g2.val r;obtain⟨gs2,ns2,JQ,I2,O,L2⟩:=M2.ex;obtain⟨m1,m2,m3,m4⟩:=DH (he.sub M2.sub) z;have hcm:s2.cm+1<=16000000:=by have h1:=X2.w;have h2:=X2.tk;have h3:=X2.S.fuel;unfold BW at h1;omega
  have hib:intB d (Av d pr) e.k=decide (u=Aj):=by rw[N];show decide ((As d (Av d pr) a).1=Aj)=_;rw[J]
  rw[hib]at hG2;have ty:=typC (F:=F) X2.S M2 X2.fr X2.po X2.G X2.hv a u (hv.kids a (xr z)) (he.kids a (xr z)) J;have hM:EM V0 d p F (V2.set p (.cells (AW d F s2.tk c ((s2.cm+1:Nat):Int) gs2 ns2 JQ).toArray 140 (0,0))) {s2 with cm:=s2.cm+1} c:=MA.set (row':=AW d F s2.tk c ((s2.cm+1:Nat):Int)) Gn M2.p0 O L2 rfl rfl rfl rfl;have yes:∀{x:Int},(e.op=16∨e.op=17∨((e.op=14∨e.op=15)/\u=Aj))->Bg e.op v w=.ok x->G=.ok x {s2 with cm:=s2.cm+1}:=λhc hx=>by
   rw[hG2,hx];unfold DS;rw[if_pos (by simpa using hc)];rfl
  have no:∀{x:Int},¬(e.op=16∨e.op=17∨((e.op=14∨e.op=15)/\u=Aj))->Bg e.op v w=.ok x->G=.ok x s2:=λhc hx=>by
   rw[hG2,hx];unfold DS;rw[if_neg (by simpa using hc)];rfl
  have eqB:∀{x:Bool},(e.op=14∨e.op=15)->Bg e.op v w=.ok (Ev x)->((decide (v=w))==(decide (e.op=14)))=x->_:=λ{x} ho hx D=>by
   refine(⟨m1,by decide,m3,_,_,_,_,m4,ty.call ⟨_,rfl,λhi=>⟨nn,nn,_,Am O 13 1 (by simp[AW]),⟨by omega,by omega⟩,nn,nn,An.at2 (off:=13) O (by simp[AW]) ?_⟩,λhi=>?_⟩⟩:¬e.l.p=none/\(0:Int)<=(0:Int)/\0<(e.l.n:Int)/\∃v16 v17 v18 v19,V2.rowp e.l.p ((0:Int).toNat*4) 4=some [uI v16,uI v17,uS v18,uL v19]/\
    TT 308 #[uP (sa p),uP (sa q),uA #[uI v16,uI v17,uS v18,uL v19]] V2 λe' V3=>∃v20,e'=rV (uS v20)/\
    Br (v20=(Ac [105,110,116]))
    (¬(some (⟨p,0,none⟩:Addr))=none/\¬(some (⟨p,0,none⟩:Addr))=none/\∃v21,V3.rowp (sa p) ((13:Int).toNat*1) 1=some [uI v21]/\
    IR (v21+1)/\¬(some (⟨p,0,none⟩:Addr))=none/\¬(some (⟨p,0,none⟩:Addr))=none/\An (Aa (sa p) 13) 0 [uI (v21+1)] V3 λV4=>
    TT 309 #[uB ((decide (v=w))==(decide (e.op=14)))] V4 λe' V5=>∃v22,e'=rV (uI v22)/\PX V0 d p F c G (rV (uI v22)) V5)
    (TT 309 #[uB ((decide (v=w))==(decide (e.op=14)))] V3 λe' V4=>∃v21,e'=rV (uI v21)/\PX V0 d p F c G (rV (uI v21)) V4))
   ·rw[D];exact c309.call ⟨_,rfl,PX.ok (yes (.inr (.inr ⟨ho,hi⟩)) hx) hM⟩
   ·rw[D];exact c309.call ⟨_,rfl,PX.ok (no (λk=>k.elim (λk=>by omega) λk=>k.elim (λk=>by omega) λk=>hi k.2) hx) M2⟩
  have cmB:∀{x:Bool},(e.op=16∨e.op=17)->Bg e.op v w=.ok (Ev x)->(¬(some (⟨p,0,none⟩:Addr))=none/\¬(some (⟨p,0,none⟩:Addr))=none/\∃v16,V2.rowp (sa p) ((13:Int).toNat*1) 1=some [uI v16]/\
    IR (v16+1)/\¬(some (⟨p,0,none⟩:Addr))=none/\¬(some (⟨p,0,none⟩:Addr))=none/\An (Aa (sa p) 13) 0 [uI (v16+1)] V2 λV3=>
    TT 309 #[uB x] V3 λe' V4=>∃v17,e'=rV (uI v17)/\PX V0 d p F c G (rV (uI v17)) V4):=λ{x} ho hx=>
   ⟨nn,nn,_,Am O 13 1 (by simp[AW]),⟨by omega,by omega⟩,nn,nn,An.at2 (off:=13) O (by simp[AW]) (c309.call ⟨_,rfl,PX.ok (yes (by omega) hx) hM⟩)⟩
  refine⟨λh14=>eqB (x:=decide (v=w)) (.inl h14) ?_ ?_,λh14=>⟨λh15=>eqB (x:=!decide (v=w)) (.inr h15) ?_ ?_,λh15=>⟨λh16=>cmB (.inl h16) ?_,λh16=>⟨λh17=>cmB (.inr h17) ?_,λh17=>?_⟩⟩⟩⟩;·rw[show e.op=14 from h14];rfl
  ·rw[decide_eq_true (show e.op=14 from h14)];cases decide (v=w)<;>rfl
  ·rw[show e.op=15 from h15];rfl
  ·rw[decide_eq_false (show ¬e.op=14 from h14)];cases decide (v=w)<;>rfl
  ·rw[show e.op=16 from h16];rfl
  ·rw[show e.op=17 from h17];rfl
  ·have h14:¬e.op=14:=h14;have h15:¬e.op=15:=h15;have h16:¬e.op=16:=h16;have h17:¬e.op=17:=h17;obtain⟨rfl,rfl⟩:=hint h14 h15;refine PB.last (s:=s2) ?_ M2 (c310 (by omega) (EN.1 r) (EN.1 hv2));rw[hG2];unfold DS;rw[if_neg (by omega)]
 have hkind:=kindX (sc:=Av d pr) rfl hv ht;cases hkind with
 |int h hn=>
  unfold w280;exact AT h (PX.ok (Y.trans (IS (.inl h))) X.M)
 |bool h hn=>
  unfold w280;exact Ah (by omega) (AT h (PX.ok (Y.trans (IS (.inr h))) X.M))
 |nil h hn=>
  unfold w280;repeat refine Ah (h▸(by decide)) ?_
  exact AT h (PX.ok (Y.trans (My h)) X.M)
 |var h hl hne=>
  unfold w280;have Z:=Y.trans (Mz h);have hra:=hra0.sub L.sub;repeat refine Ah (h▸(by decide)) ?_
  refine AT h ⟨nn,nn,fa,Am hq 0 1 (by simp),(c281 hra).call ⟨_,rfl,?_⟩⟩;have hvg:=(BG X.G.mem).2.2.2.1;rcases H9 X.G X.hv X.po.vars hl hne with⟨i,g,v,h1,h2,h3,h4,-,h6⟩|⟨i,g,v,z,h1,h2,h3,h4,-,h6⟩
  ·rw[h1];obtain⟨g1,g2,g3,g4⟩:=Fz (hrb0.sub L.sub) h3;exact AT (by omega) ⟨nn,nn,fb,Am hq 1 1 (by simp),g1,g2,g3,_,g4,PX.ok (Z.trans h6) X.M⟩
  ·rw[z];have I:=X.le (k:=1) (by omega);refine Ah (by decide) ⟨nn,nn,AV,d.gs,Am hat 2 1 (by simp[AW]),(c281 hd.globals).call ⟨_,rfl,?_⟩⟩;rw[h1];refine Tri.mono (c282 X.M (Cx.fit (m:=0) I)) ?_;rintro _ V3 ⟨rfl,M3⟩;obtain⟨gs3,ns3,I5,nd3,C,L3⟩:=M3.ex;obtain⟨g1,g2,g3,g4⟩:=Fz (L3.glob.rows (λ_=>rfl) (by decide)) (i:=i) (v:=v) h3;exact⟨rfl,nn,nn,AV,gs3,Am C 8 1 (by simp[AW]),g1,g2,g3,_,g4,PX.ok (Z.trans h6) M3⟩
 |@fld _ u a h N J hf'=>
  unfold w280;have z:e.k[0]?=some a:=by rw[N];rfl
  have Z:=Y;rw[KO h,K z]at Z;obtain⟨k1,k2,k3,k4⟩:=DH U z;have hs:=s1' N;repeat refine Ah (h▸(by decide)) ?_
  refine AT h ⟨k1,by decide,k3,_,_,_,_,k4,PX.bind Z (kid z J (X.le (by omega))) λv T V1 e1 A H=>?_⟩;obtain⟨I,r⟩:=go (k:=1) z J X (by omega) e1 A;refine⟨λB=>Gq (PX.bad ?_ A),λB=>?_⟩;·rw[H];unfold fldX;rw[if_pos (show v=0 from B)]
  have B:¬v=0:=B;obtain⟨k,i,j,tt,g,fs,w,rfl,e2,e3,e4,e5,e6,e7,e8,e9,-⟩:=IV I.G hf' r B;refine(c283 X.S A e2 e3).call ⟨_,rfl,?_⟩;rw[e6];refine Tri.mono (c282 A (Cx.fit (m:=0) I)) ?_;rintro _ V3 ⟨rfl,M3⟩;obtain⟨gs3,ns3,I5,nd3,sl3,C,L3,-,hI,n1,n2,n3,n4,m1,m2,m3,m4⟩:=nodeAt M3 (k:=k) (i:=i) e2 e8;rw[show((k:Int)+1-1)=(k:Int)by omega];refine⟨rfl,nn,nn,AV,ns3,Am C 9 1 (by simp[AW]),hI,n1,n2,n3,Al n1,_,_,n4,m1,m2,m3,_,m4,PX.ok ?_ M3⟩;rw[H];unfold fldX;rw[if_neg B,show((k:Int)+1-1).toNat=k by omega,e2];simp only;rw[e5,e6,xu,e8];rfl
 |new h hn=>
  unfold w280;have Z:=Y.trans (MB h);repeat refine Ah (h▸(by decide)) ?_
  have hnn:=(L.nodes.rows (λ_=>rfl) (by decide)).n_eq;have hlen:=L.len;refine AT h ⟨nn,nn,AV,ns,Am hat 9 1 (by simp[AW]),λhl=>Gq (PX.bad ?_ X.M),λhl=>?_⟩
  ·have hl:4096<=(ns.n:Int):=hl;rw[Z];unfold newX;rw[if_pos (by omega)]
  have hl:¬4096<=(ns.n:Int):=hl;obtain⟨tt,htm,hte⟩:=xV.1 hn;have hte:tt.name=e.s:=of_decide_eq_true hte;obtain⟨j,hj⟩:=xj.1 htm;have hidx:Bw d e.s=(j:Int):=hte▸(Gi (BG X.G.mem).1).2.1 j tt hj;have hfo:Bi d (j:Int)=tt.fields:=Ef hj rfl;refine(c305 X.S X.M).call ⟨_,rfl,?_⟩;rw[hidx];have htn:=hd.types.n_eq;have hjl:=(yu.1 hj).1;obtain⟨y,-,hy,-,-,hp,B,hrow⟩:=hd.types.get (i:=j) (by omega);rw[hj]at hy;cases hy;have hfn:=(hd.typesOk tt htm).fields.n_eq;have hfl:=(I3 X.S.valid).2 tt htm;refine⟨nn,nn,AV,ns,Am hat 9 1 (by simp[AW]),nn,nn,AV,d.ts,Am hat 1 1 (by simp[AW]),hp,B,by omega,Al hp,_,_,hrow,mk43 (n:=tt.fs.n) rfl rfl (by omega) λg hg=>⟨⟨some ⟨g,0,none⟩,tt.fs.n,tt.fs.n⟩,rfl,?_⟩⟩;obtain⟨V2,hV2⟩:∃V2,V2=V.set g (.cells (madeCells (xa .i64 0).cells (tt.fs.n*1)) 3 (0,0)):=⟨_,rfl⟩;have hown:=I4 hg (n:=tt.fs.n) (by omega);rw[<-hV2]at hown⊢;have O:=hown.sub _ _ hat;refine⟨E0 O 9 0 1 (by simp[AW]),AV,nn,nn,E0 O 9 0 1 (by simp[AW]),AV,nn,nn,λtb htb=>?_⟩;refine L.new (n:=⟨(j:Int),⟨some ⟨g,0,none⟩,tt.fs.n,tt.fs.n⟩,yK tt.fs.n 0⟩) hown htb rfl rfl (by omega) λs3 V3 L3 hk3=>⟨s3,rfl,nn,nn,AV,?_⟩;have C:=hk3 _ _ O (Hy hat Gn L.nodes (.inr (.inl rfl)));refine An.at2 (off:=9) C (by simp[AW]) ?_;have M4:EM V0 d p F (V3.set p (.cells (AW d F s.tk c s.cm gs s3 ls).toArray 140 (0,0))) {s with ns:=s.ns++[((j:Int),yK tt.fs.n 0)]} c:=
   ⟨X.M.p0,gs,s3,ls,nd++[_],Mem.set_same _ _ _,L3.put (JO C Gn) X.M.p0 _⟩
  have hn3:=(L3.nodes.rows (λ_=>rfl) (by decide)).n_eq;rw[zw,xf]at hn3;show ¬(some (⟨p,0,none⟩:Addr):Option Addr)=none/\_;refine⟨nn,nn,AV,s3,Am Az 9 1 (by simp[AW]),?_⟩;rw[show((s3.n:Nat):Int)=(s.ns.length:Int)+1 by omega];have hfit:s.lg.length+1<=2147483648:=Cx.fit (m:=0) (X.le (k:=0+1) (by omega));refine Tri.mono (c282 M4 hfit) ?_;rintro _ V7 ⟨rfl,M7⟩;obtain⟨gs7,ns7,G8,nd7,hat7,L7⟩:=M7.ex;have hn7:=(L7.nodes.rows (λ_=>rfl) (by decide)).n_eq;have hl7:=L7.len;have hl7:nd7.length=(s.ns++[((j:Int),yK tt.fs.n 0)]).length:=hl7;rw[zw,xf]at hl7;refine⟨rfl,nn,nn,AV,ns7,Am hat7 9 1 (by simp[AW]),?_⟩;rw[show((ns7.n:Nat):Int)=(s.ns.length:Int)+1 by omega];refine PX.ok ?_ M7;rw[Z];unfold newX;rw[if_neg (by omega),hidx,hfo,<-hfn];rfl
 |@call pr' i h hc hr=>
  unfold w280;have Z:=Y.trans (IT h);rw[hc.idx]at Z;repeat refine Ah (h▸(by decide)) ?_
  refine AT h (PX.last Z ?_);rw[hf];refine callC hR X he hc hv λa hm u W V' s' hW X' J=>?_;exact ih a hm u W V' s' c q pr vals X' (hv.kids a hm) ((he.kids a hm).sub hW) J
 |@neg a h N J=>
  unfold w280;have z:e.k[0]?=some a:=by rw[N];rfl
  have Z:=Y;rw[KP h,K z]at Z;obtain⟨k1,k2,k3,k4⟩:=DH U z;have hs:=s1' N;repeat refine Ah (h▸(by decide)) ?_
  refine AT h ⟨k1,by decide,k3,_,_,_,_,k4,PX.bind Z (kid z J (X.le (by omega))) λv T V1 e1 A H=>?_⟩;obtain⟨I,r⟩:=go (k:=1) z J X (by omega) e1 A;have:=EN.1 r;rw[<-Int.zero_sub]at H;exact⟨⟨by omega,by omega⟩,PB.last H A c306⟩
 |@not a h N J=>
  unfold w280;have z:e.k[0]?=some a:=by rw[N];rfl
  have Z:=Y;rw[cX18 h,K z]at Z;obtain⟨k1,k2,k3,k4⟩:=DH U z;have hs:=s1' N;repeat refine Ah (h▸(by decide)) ?_
  refine AT h ⟨k1,by decide,k3,_,_,_,_,k4,PX.bind Z (kid z J (X.le (by omega))) λv T V1 e1 A H=>?_⟩;obtain⟨I,r⟩:=go (k:=1) z J X (by omega) e1 A;have:=Fb.1 r;exact⟨⟨by omega,by omega⟩,PX.ok H A⟩
 |@log a h N J=>
  unfold w280;have z:e.k[0]?=some a:=by rw[N];rfl
  have Z:=Y;rw[cX24 h,K z]at Z;obtain⟨k1,k2,k3,k4⟩:=DH U z;have hs:=s1' N;repeat refine Ah (h▸(by decide)) ?_
  refine AT h ⟨k1,by decide,k3,_,_,_,_,k4,PX.bind Z (kid z J (X.le (by omega))) λv T V1 e1 A H=>?_⟩;obtain⟨I,r⟩:=go (k:=1) z J X (by omega) e1 A;have hr:=EN.1 r;refine GenK.max2 rfl rfl ⟨_,rfl,?_⟩;obtain⟨w,hw⟩:∃w:Nat,(if(1:Int)<v then v else 1)=(w:Int):=⟨(if(1:Int)<v then v else 1).toNat,by split<;>omega⟩;rw[hw];have hw1:1<=w/\(w:Int)<=1099511627776:=by split at hw<;>omega
  have D:wy w<64:=(Nat.log2_lt (by omega)).2 (by omega);have hlen:lenN w=(wy w:Int)+1:=by unfold lenN;rw[if_neg (by omega)]
  refine⟨QW _ (by omega),(c307 (by omega)).call ⟨_,rfl,?_⟩⟩;rw[hlen];refine⟨⟨by omega,by omega⟩,PX.ok ?_ A⟩;rw[H];have:DF v=(wy w:Int):=by
   unfold DF;by_cases r:1<v;·rw[if_pos r]at hw;rw[hw,xu]
   ·rw[if_neg r]at hw;have:w=1:=by omega
    subst this;have:v.toNat=0∨v.toNat=1:=by omega
    rcases this with h|h<;>rw[h]<;>rfl
  rw[this,show(wy w:Int)+1-1=(wy w:Int)by omega]
 |@and a b h N J D=>
  unfold w280;have z:e.k[0]?=some a:=by rw[N];rfl
  have h1:e.k[1]?=some b:=by rw[N];rfl
  have Z:=Y;rw[cX19 h,K z,K h1]at Z;obtain⟨k1,k2,k3,k4⟩:=DH U z;have hs:=s2' N;repeat refine Ah (h▸(by decide)) ?_
  refine AT h ⟨k1,by decide,k3,_,_,_,_,k4,PX.bind Z (kid z J (X.le (by omega))) λv T V1 e1 A H=>?_⟩;obtain⟨I,r⟩:=go (k:=AB b) z J X (by omega) e1 A;obtain⟨l1,l2,l3,l4⟩:=DH (he.sub A.sub) h1;refine⟨λB=>PX.ok ?_ A,λB=>⟨l1,by decide,l3,_,_,_,_,l4,PX.last ?_ (kid h1 D I)⟩⟩;·rw[H,if_pos (show v=0 from B)]
  ·rw[H,if_neg (show ¬v=0 from B)]
 |@or a b h N J D=>
  unfold w280;have z:e.k[0]?=some a:=by rw[N];rfl
  have h1:e.k[1]?=some b:=by rw[N];rfl
  have Z:=Y;rw[cX20 h,K z,K h1]at Z;obtain⟨k1,k2,k3,k4⟩:=DH U z;have hs:=s2' N;repeat refine Ah (h▸(by decide)) ?_
  refine AT h ⟨k1,by decide,k3,_,_,_,_,k4,PX.bind Z (kid z J (X.le (by omega))) λv T V1 e1 A H=>?_⟩;obtain⟨I,r⟩:=go (k:=AB b) z J X (by omega) e1 A;obtain⟨l1,l2,l3,l4⟩:=DH (he.sub A.sub) h1;have r:=Fb.1 r;refine⟨λB=>PX.ok ?_ A,λB=>⟨l1,by decide,l3,_,_,_,_,l4,PX.last ?_ (kid h1 D I)⟩⟩
  ·have B:v=1:=B;rw[H,if_neg (by omega)]
  ·have B:¬v=1:=B;rw[H,if_pos (by omega)]
 |@cond a b c' _ u w h N J D hc hu hw _=>
  unfold w280;have z:e.k[0]?=some a:=by rw[N];rfl
  have h1:e.k[1]?=some b:=by rw[N];rfl
  have h2:e.k[2]?=some c':=by rw[N];rfl
  have Z:=Y;rw[cX21 h,K z,K h1,K h2]at Z;obtain⟨k1,k2,k3,k4⟩:=DH U z;have hs:=s3' N;repeat refine Ah (h▸(by decide)) ?_
  refine AT h ⟨k1,by decide,k3,_,_,_,_,k4,PX.bind Z (kid z J (X.le (by omega))) λv T V1 e1 A H=>?_⟩;obtain⟨I,r⟩:=go (k:=AB b+AB c') z J X (by omega) e1 A;obtain⟨l1,l2,l3,l4⟩:=DH (he.sub A.sub) h1;obtain⟨m1,m2,m3,m4⟩:=DH (he.sub A.sub) h2;have r:=Fb.1 r;refine⟨λB=>⟨l1,by decide,l3,_,_,_,_,l4,PX.last ?_ (kid h1 D (I.le (by omega)))⟩,λB=>⟨m1,by decide,m3,_,_,_,_,m4,PX.last ?_ (kid h2 hc (I.le (by omega)))⟩⟩
  ·have B:v=1:=B;rw[H,if_neg (by omega)]
  ·have B:¬v=1:=B;rw[H,if_pos (by omega)]
 |@eq a b u w h N J D hf'=>exact two (by omega) N J D λ_ _=>by omega
 |@cmp a b h N J D=>exact two (by omega) N J D λ_ _=>⟨rfl,rfl⟩
 |@ari a b h N J D=>exact two (by omega) N J D λ_ _=>⟨rfl,rfl⟩
end
section
variable{W V0 V V1 V':Mem}{d:Ds}{p F c q:Nat}{s:St}{pr:Pr}{vals:List Int}
theorem MA.poke{ty:Nat}{row:Sl->Sl->Sl->List Value}(h:MA ty V0 p row V s){b:Nat}(g:V0 b≠none)(o:Obj):MA ty (V0.set b o) p row (V.set b o) s:=by
 obtain⟨gs,ns,ls,nd,f,L⟩:=h.ex;have k:p≠b:=λe=>g (e▸h.p0);exact⟨by rw[Mem.set_ne k];exact h.p0,gs,ns,ls,nd,by grind[Mem.set_ne],L.poke g o⟩
structure HC (W V0:Mem)(q:Nat)(pr:Pr)(vals:List Int):Prop where
 sub:W.sub V0
 ex:∃a b:Sl,W q=some (.cells #[a.v,b.v] 310 (0,0))/\Ad W a 2 (pr.vars.map Fld.row)/\Sx.Own W V0 3 1 b (vals.flatMap Ak)
theorem HC.fv(h:HC W V0 q pr vals):Fv V0 q pr vals:=by
 obtain⟨a,b,h1,h2,h3⟩:=h.ex;exact⟨a,b,h.sub _ _ h1,h2.sub h.sub,h3.rows (λ_=>rfl) (by decide)⟩
theorem frStore{b:Sl}(own:Sx.Own W V0 3 1 b (vals.flatMap Ak))(M:EM V0 d p F V s c){i:Nat}(hi:i<vals.length){v:Int}{Q:Mem->Prop}
  (t:∀h V',Sx.Own W h 3 1 b ((vals.set i v).flatMap Ak)->EM h d p F V' s c->Q V'):An (Aa b.p (i*1)) 0 [.int .i64 v] V Q:=by
 rw[Nat.mul_one];rcases own.cases0 with⟨h1,h2,h3⟩|⟨x,g,cur,h1,h2,h3,h4,u,j,z⟩
 ·rw[Cy]at h3;have:vals=[]:=by simpa using h3
  rw[this]at hi;simp at hi
 have y:b.n*1<=b.c*1:=Nat.mul_le_mul_right _ h4;have f:=own.len;rw[Cy,xi]at f;have k:V0 g≠none:=by rw[h3];simp
 rw[h1];have e:(cur.toList.take i++[xa .i64 v]++cur.toList.drop (i+1))=cur.toList.set i (.int .i64 v):=K0 _ _ _ (by simp;omega);refine An.at2 (off:=i) (M.sub _ _ h3) (by simp;omega) (t (V0.set g _) _ ⟨own.sub.set h2 _,?_,.inr ⟨g,_,h1,h2,Mem.set_same _ _ _,h4,u,?_,?_⟩⟩ (M.poke k _));·rw[Cy,xi,List.length_set];exact f
 ·simp_all
 ·rw[show i+[xa .i64 v].length=i+1 from rfl,e];show(cur.toList.set i (.int .i64 v)).take (b.n*1)=_;rw[List.take_set,z,Cy,Cy,List.map_set]
def PS(W:Mem)(d:Ds)(p F c q:Nat)(pr:Pr)(r:Rx Rt):Ending->Mem->Prop:=λe V'=>match r with
 |.ok g s=>e=.returned (.agg #[.bool g.2.isSome,.int .i64 (g.2.getD 0)])/\∃h,HC W h q pr g.1/\EM h d p F V' s c
 |.bad k s=>e=fltE k/\∃f,EM W d p F V' s f
theorem PS.bind{f:FuncId}{args:Array Value}{r:Rx Int}{G:Rx Rt}{h:Int->St->Rx Rt}{K:Int->Mem->Prop}(t:W.sub V0)(g:G=r.bind h)(H:Tri xG f args V (PX V0 d p F c r))(u:∀v s V',r=.ok v s->EM V0 d p F V' s c->G=h v s->K v V'):
  Tri xG f args V λe V'=>(∃v,e=.returned (.int .i64 v)/\K v V')∨∃z,e=.panicked z/\PS W d p F c q pr G e V':=
 PX.split H (λk s y V' e hm=>by subst e;rw[g];exact⟨rfl,y,hm.narrow t⟩) λv s V' e hm=>u v s V' e hm (by rw[g,e];rfl)
theorem PS.ok{G:Rx Rt}{rt:Rt}(h:G=.ok rt s)(k:HC W V0 q pr rt.1)(M:EM V0 d p F V s c){b:Bool}{v:Int}(g:b=rt.2.isSome)(hv:v=rt.2.getD 0):PS W d p F c q pr G (.returned (.agg #[.bool b,.int .i64 v])) V:=by
 rw[h,g,hv];exact⟨rfl,V0,k,M⟩
theorem PS.bad{G:Rx Rt}{k:Int}(h:G=.bad k s)(g:W.sub V0)(M:EM V0 d p F V s c):PS W d p F c q pr G (fltE k) V:=by rw[h];exact⟨rfl,c,M.narrow g⟩
theorem PS.split{f:FuncId}{args:Array Value}{r:Rx Rt}{K:Bool->Int->Mem->Prop}{R:Ending->Mem->Prop}(H:Tri xG f args V (PS W d p F c q pr r))(z:∀k s u V',r=.bad k s->EM W d p F V' s u->R (fltE k) V')(j:∀t s g V',r=.ok t s->HC W g q pr t.1->EM g d p F V' s c->K t.2.isSome (t.2.getD 0) V'):
  Tri xG f args V λe V'=>(∃b v,e=.returned (.agg #[.bool b,.int .i64 v])/\K b v V')∨∃y,e=.panicked y/\R e V':=
 Tri.mono H λe V' h=>by
  cases r with
  |ok t s=>obtain⟨h1,g,h2,h3⟩:=h;grind
  |bad k s=>
   obtain⟨x,u,hm⟩:=h;subst x;exact .inr ⟨_,rfl,z k s u V' rfl hm⟩
structure Dr (W V0:Mem)(d:Ds)(p F c q:Nat)(pr:Pr)(vals:List Int)(n m:Nat)(V:Mem)(s:St):Prop where
 S:ES W d F
 fr:HC W V0 q pr vals
 po:Eh d pr
 G:Ao d s.mm
 hv:Ax d s.mm pr.vars vals=true
 M:EM V0 d p F V s c
 tk:s.tk<=F
 n:F<n+s.tk
 w:BW m s
theorem Dr.cx{n m:Nat}(X:Dr W V0 d p F c q pr vals n m V s):Cx V0 d p F c q pr vals n m V s:=⟨X.S.sub X.fr.sub,X.fr.fv,X.po,X.G,X.hv,X.M,X.tk,X.n,X.w⟩
theorem Dr.next{n m k:Nat}{f:Mem}{h:List Int}{s':St}(X:Dr W V0 d p F c q pr vals n (m+k) V s)(g:Gr F m s s')(G:Ao d s'.mm)(t:HC W f q pr h)(hv:Ax d s'.mm pr.vars h=true)(M:EM f d p F V' s' c):Dr W f d p F c q pr h n k V' s':=
 ⟨X.S,t,X.po,G,hv,M,g.fu X.tk,by have:=g.tk;have:=X.n;omega,X.w.next g⟩
theorem Dr.le{n m k:Nat}(X:Dr W V0 d p F c q pr vals n m V s)(h:k<=m):Dr W V0 d p F c q pr vals n k V s:=⟨X.S,X.fr,X.po,X.G,X.hv,X.M,X.tk,X.n,X.w.le h⟩
variable(d p F)in
def SC(n:Nat):Prop:=∀(l:List S)(W V0 V:Mem)(s:St)(c q:Nat)(pr:Pr)(vals:List Int)(sl:Sl),Dr W V0 d p F c q pr vals n 0 V s->(∀x∈l,Ey d pr x)->(∀x∈l,S.Ok W x)->Ad W sl 5 (l.map S.row)->
 Tri xG 208 #[pv p,pv q,sl.v] V (PS W d p F c q pr (A4 d F n c pr l vals s))
variable(d p F)in
def OL(n:Nat):Prop:=∀(x:S)(W V0 V:Mem)(s:St)(c q:Nat)(pr:Pr)(vals:List Int),Dr W V0 d p F c q pr vals (n+1) 0 V s->Ey d pr x->S.Ok W x->
 Tri xG 249 #[pv p,pv q,x.v] V (PS W d p F c q pr (DU d F (A4 d F n) c pr (n+1) x vals s))
theorem stsC{n:Nat}(H:OL d p F n):SC d p F (n+1):=by
 intro l W V0 V s c q pr vals sl X I K e;obtain⟨f,hf⟩:∃f,f=DU d F (A4 d F n) c pr (n+1):=⟨_,rfl⟩;obtain⟨G,hG⟩:∃G:Rx Rt,G=Eg f l vals s:=⟨_,rfl⟩;show Tri _ _ _ _ (PS W d p F c q pr (Eg (DU d F (A4 d F n) c pr (n+1)) l vals s));rw[<-hf,<-hG];refine Tri.mono (x208 (R:=PS W d p F c q pr G) ?_) λ_ _ h=>h;refine EW l.length (λi V1=>∃N g s',Dr W N d p F c q pr g (n+1) 0 V1 s'/\G=Eg f (l.drop i) g s') ⟨V0,vals,s,X,hG⟩ ?_;rintro i V1 J hi ⟨N,g,s',t,u⟩ hJ;have T:=e.sub (t.fr.sub.trans t.M.sub);refine⟨λZ=>?_,λU=>?_⟩
 ·obtain⟨x,Y,hx,hdr,hil,hp,hz,j⟩:=T.get Z;rw[S.row_eq]at j;rw[hdr]at u;have z:G=(f x g s').bind λr st=>match r.2 with|some _=>.ok r st|none=>Eg f (l.drop (i+1)) r.1 st:=u
  have P:=st_snd (F:=F) (c:=c) (n:=n+1) t.S.procs (Gk t.S.procs n) t.po (I x Y) t.G t.hv;have Hx:=H x W N V1 s' c q pr g t (I x Y) (K x Y);rw[<-hf]at Hx P;rw[show x.v=.agg #[.int .i64 x.op,.string x.s,.slice x.el.p x.el.n x.el.c,.slice x.ll.p x.ll.n x.ll.c,.slice x.xl.p x.xl.n x.xl.c]by unfold S.v;rw[S.row_eq];rfl]at Hx;refine⟨hp,hz,Z,_,_,_,_,_,j,PS.split Hx (λk C c' V2 D E=>?_) λA C L V2 D B E=>?_⟩;·rw[z,D];exact⟨rfl,c',E⟩
  obtain⟨G2,g2,q2⟩:=P.got D;rw[D]at z;cases y:A.2 with
  |some v=>
   have O:G=.ok A C:=by rw[z];show(match A.2 with|some _=>_|none=>_)=_;rw[y]
   exact⟨λ_=>PS.ok O B E (by rw[y]) (by rw[y]),λh=>absurd rfl h⟩
  |none=>
   have O:G=Eg f (l.drop (i+1)) A.1 C:=by rw[z];show(match A.2 with|some _=>_|none=>_)=_;rw[y]
   exact⟨(λh=>by cases h),λ_=>⟨T.succ Z,hJ hil _ ⟨L,A.1,C,t.next (m:=0) g2 G2 B q2.1 E,O⟩⟩⟩
 ·rw[(T.done U).1]at u;exact PS.ok u t.fr t.M rfl rfl
end
section
variable{W V0 V V1 V':Mem}{d:Ds}{p F c q:Nat}{s:St}{pr:Pr}{vals:List Int}
theorem esAt{x:S}(h:S.Ok V x){i:Nat}{a:E}(g:x.es[i]?=some a):¬x.el.p=none/\(i:Int)<(x.el.n:Int)/\V.rowp x.el.p (i*4) 4=some [.int .i64 a.op,.int .i64 a.n,.string a.s,.slice a.l.p a.l.n a.l.c]:=by
 have f:=h.eRows;have j:=f.n_eq;have r:=(yu.1 g).1;obtain⟨y,-,t,-,u,z,e,k⟩:=f.get (i:=i) (by omega);rw[g]at t;cases t;exact⟨z,by omega,k⟩
theorem K7(h:s.tk<F):Fx F s=.ok () {s with tk:=s.tk+1}:=by unfold Fx;rw[if_neg (by omega)]
theorem K8(h:F<=s.tk):Fx F s=.bad 20 s:=by unfold Fx;rw[if_pos h]
theorem Dr.tick{n:Nat}(X:Dr W V0 d p F c q pr vals (n+1) 0 V s)(h:s.tk<F)(M:EM V0 d p F V' {s with tk:=s.tk+1} c):Dr W V0 d p F c q pr vals n 4000 V' {s with tk:=s.tk+1}:=
 ⟨X.S,X.fr,X.po,⟨X.G.valid,X.G.chk,X.G.mem⟩,X.hv,M,h,by have:=X.n;show F<n+(s.tk+1);omega,by have:=X.w;unfold BW at*;show s.lg.length+s.cm+4000<=4000*(s.tk+1);omega⟩
theorem Dr.tick'{n:Nat}(X:Dr W V0 d p F c q pr vals n 0 V s)(h:s.tk<F)(M:EM V0 d p F V' {s with tk:=s.tk+1} c):Dr W V0 d p F c q pr vals n 4000 V' {s with tk:=s.tk+1}:=
 ⟨X.S,X.fr,X.po,⟨X.G.valid,X.G.chk,X.G.mem⟩,X.hv,M,h,by have:=X.n;show F<n+(s.tk+1);omega,by have:=X.w;unfold BW at*;show s.lg.length+s.cm+4000<=4000*(s.tk+1);omega⟩
theorem QY{n:Nat}(hE:ExprC d p F n)(hS:SC d p F n)(hR:CallC d p F n):OL d p F n:=by
 intro x W V0 V s c q pr vals X hty C;obtain⟨G,hG0⟩:∃G:Rx Rt,G=DU d F (A4 d F n) c pr (n+1) x vals s:=⟨_,rfl⟩;rw[<-hG0];refine Tri.mono ((show x.v=.agg #[.int .i64 x.op,.string x.s,.slice x.el.p x.el.n x.el.c,.slice x.ll.p x.ll.n x.ll.c,.slice x.xl.p x.xl.n x.xl.c]by unfold S.v;rw[S.row_eq];rfl)▸x249 (R:=PS W d p F c q pr G) ?_) λ_ _ h=>h;have hF:=X.S.fuel;refine Tri.mono (c279 hF X.M) ?_;rintro e1 V1 (⟨hlt,rfl,M1⟩|⟨hge,rfl,rfl⟩);rotate_left
 ·refine .inr ⟨_,rfl,PS.bad (s:=s) ?_ X.fr.sub X.M⟩;rw[hG0];unfold DU;rw[K8 hge];rfl
 refine .inl ⟨rfl,?_⟩;obtain⟨s1,hs1⟩:∃s1:St,s1={s with tk:=s.tk+1}:=⟨_,rfl⟩;have Z:Dr W V0 d p F c q pr vals n 4000 V1 s1:=by rw[hs1];exact X.tick hlt M1
 have T:G=Fe d F (A4 d F n) c pr (n+1) x vals s1:=by rw[hG0];unfold DU;rw[K7 hlt,hs1];rfl
 have hcs:=Gk (F:=F) X.S.procs n;have U:∀{V2:Mem}{N:Mem},W.sub N->N.sub V2->S.Ok V2 x:=λh1 h2=>C.sub (h1.trans h2);have ex:∀{i:Nat}{a:E}{u:KB}{V2 N:Mem}{f:List Int}{O:St}{m:Nat},x.es[i]?=some a->By a=true->As d (Av d pr) a=(u,0)->Dr W N d p F c q pr f n m V2 O->1000<=m->
   Tri xG 280 #[pv p,pv q,.agg #[.int .i64 a.op,.int .i64 a.n,.string a.s,.slice a.l.p a.l.n a.l.c]] V2 (PX N d p F c (CZ d (A4 d F n) c pr f a O)):=λ{i a u V2 N f O m} D hv ha H hm=>by
  have hp:=G4 hv;exact hE a u N V2 O c q pr f (H.cx.le (by omega)) hp.1 ((C.eOk a (xr D)).sub H.fr.sub) ha
 have go:∀{a:E}{u:KB}{V2 V3 N:Mem}{f:List Int}{O A:St}{m:Nat}{v:Int},By a=true->As d (Av d pr) a=(u,0)->Dr W N d p F c q pr f n (1000+m) V2 O->CZ d (A4 d F n) c pr f a O=.ok v A->EM N d p F V3 A c->
   Dr W N d p F c q pr f n m V3 A/\Ca d A.mm u v/\Gr F 1000 O A:=λ{a u V2 V3 N f O A m v} hv ha H e M3=>by
  obtain⟨G3,g3,q3⟩:=(G5 (F:=F) (c:=c) H.S.procs hcs H.po hv ha H.G H.hv).got e;exact⟨H.next g3 G3 H.fr (BV (λh=>g3.right h) H.hv) M3,q3,g3⟩
 unfold Fe at T;cases kindS hty with
 |@set a u t h I hv ht hl hne hf=>
  rw[if_pos h,I,xo]at T;have D:x.es[0]?=some a:=by rw[I];rfl
  obtain⟨k1,k3,k4⟩:=esAt (U Z.fr.sub Z.M.sub) D;refine AT h ⟨k1,by decide,k3,_,_,_,_,k4,PS.bind Z.fr.sub T (ex D hv ht Z (by omega)) λv O V2 e2 M2 r=>?_⟩;obtain⟨H,B,-⟩:=go (m:=3000) hv ht Z e2 M2;obtain⟨fa,fb,hq0,hra0,hrb0⟩:=H.fr.ex;have hW2:=H.fr.sub.trans H.M.sub;have hq:=hW2 _ _ hq0;refine⟨nn,nn,fa,Am hq 0 1 (by simp),(c281 (hra0.sub hW2)).call ⟨_,rfl,?_⟩⟩;unfold setX at r;rcases H9 H.G H.hv H.po.vars hl hne with⟨i,g,w,h1,h2,h3,h4,-⟩|⟨i,g,w,h0',h1,h2,h3,h4,-⟩
  ·rw[h1];rw[if_pos (by omega),h1,xu]at r;have hil:=(yu.1 h3).1;have hbn:=((hrb0.rows (λ_=>rfl) (by decide):Ad V0 fb 1 (vals.map Ak))).n_eq;obtain⟨g1,g2,g3,-⟩:=Fz (hrb0.rows (λ_=>rfl) (by decide)) h3;refine AT (by omega) ⟨nn,nn,fb,Am hq 1 1 (by simp),g1,g2,g3,frStore hrb0 M2 hil λN V' ho M'=>?_⟩;exact PS.ok r ⟨ho.sub,fa,fb,hq0,hra0,ho⟩ M' rfl rfl
  ·rw[h0'];rw[if_neg (by omega),h1,xu]at r;obtain⟨gs,ns,ls,nd,hat,L⟩:=M2.ex;have hd:=(H.S.sub H.fr.sub).ds.sub L.sub;refine Ah (by decide) ⟨nn,nn,AV,d.gs,Am hat 2 1 (by simp[AW]),(c281 hd.globals).call ⟨_,rfl,?_⟩⟩;rw[h1];refine Tri.mono (c282 M2 (Cx.fit (m:=0) (H.cx.le (by omega)))) ?_;rintro _ V5 ⟨rfl,M5⟩;obtain⟨gs5,ns5,G9,nd5,Y,L5⟩:=M5.ex;obtain⟨g1,g2,g3,-⟩:=Fz (L5.glob.rows (λ_=>rfl) (by decide)) (i:=i) (v:=w) h3;have hil:=(yu.1 h3).1;refine⟨rfl,nn,nn,AV,gs5,Am Y 8 1 (by simp[AW]),g1,g2,g3,L5.setG (i:=i) hil λV6 L6 hk6=>?_⟩;refine PS.ok r H.fr (V0:=V0) (MA.mk M5.p0 ⟨gs5,ns5,G9,nd5,?_,L6⟩) rfl rfl;rw[hk6 _ (Hy Y Gn L5.glob (.inl rfl))];exact Y
 |@put a b u w t h I hv hw ha ht hl hf=>
  rw[if_neg (by omega),if_pos h,I,xo,List.getD_cons_succ,xo]at T;have D:x.es[0]?=some a:=by rw[I];rfl
  have h1:x.es[1]?=some b:=by rw[I];rfl
  obtain⟨k1,k3,k4⟩:=esAt (U Z.fr.sub Z.M.sub) D;refine Ah (by omega) (AT h ⟨k1,by decide,k3,_,_,_,_,k4,PS.bind Z.fr.sub T (ex D hv ha Z (by omega)) λv O V2 e2 M2 r=>?_⟩);obtain⟨H,B,-⟩:=go (m:=3000) hv ha Z e2 M2;obtain⟨l1,l3,l4⟩:=esAt (U H.fr.sub H.M.sub) h1;refine⟨l1,by decide,l3,_,_,_,_,l4,PS.bind H.fr.sub r (ex h1 hw ht H (by omega)) λy A V3 e3 M3 hG3=>?_⟩;obtain⟨X3,hv3,g3⟩:=go (m:=2000) hw ht H e3 M3;have B:=g3.val B;refine⟨λK=>Gq (PS.bad (s:=A) ?_ X3.fr.sub M3),λK=>?_⟩;·rw[hG3];unfold putX;rw[if_pos (show v=0 from K)];rfl
  have K:¬v=0:=K;obtain⟨k,i,j,tt,g,fs,z,rfl,f2,f3,f4,f5,f6,f7,f8,-⟩:=IV X3.G hl B K;have hG4:G=.ok (vals,none) {A with ns:=A.ns.set k ((j:Int),fs.set i y),lg:=A.lg++[(2,(k:Int)+1,(i:Int))]}:=by
   rw[hG3];unfold putX;rw[if_neg K,show((k:Int)+1-1).toNat=k by omega,f2];simp only;rw[f5,f6,xu];rfl
  refine(c283 (X3.S.sub X3.fr.sub) M3 f2 f3).call ⟨_,rfl,?_⟩;rw[f6];refine Tri.mono (c282 M3 (Cx.fit (m:=0) (X3.cx.le (by omega)))) ?_;rintro _ V5 ⟨rfl,M5⟩;obtain⟨gs5,ns5,G9,nd5,sl5,Y,L5,hnd5,hI,n1,n2,n3,n4,m1,m2,m3,m4⟩:=nodeAt M5 (k:=k) (i:=i) f2 f8;have hil:=(yu.1 f8).1;rw[show((k:Int)+1-1)=(k:Int)by omega];refine⟨rfl,nn,nn,AV,ns5,Am Y 9 1 (by simp[AW]),hI,n1,n2,n3,Al n1,_,_,n4,m1,m2,m3,L5.setF hnd5 hil λV6 L6 hk6=>?_⟩;refine PS.ok hG4 X3.fr (V0:=V0) (MA.mk M5.p0 ⟨gs5,ns5,G9,_,?_,L6⟩) rfl rfl;rw[hk6 _ (Hy Y Gn (L5.fld _ (xr hnd5)) (.inl rfl))];exact Y
 |@cond a h I hv ht=>
  rw[if_neg (by omega),if_neg (by omega),if_pos h,I,xo]at T;have D:x.es[0]?=some a:=by rw[I];rfl
  obtain⟨k1,k3,k4⟩:=esAt (U Z.fr.sub Z.M.sub) D;obtain⟨-,-,-,hlt1,hlt2⟩:=hty.parts;refine Ah (by omega) (Ah (by omega) (AT h ⟨k1,by decide,k3,_,_,_,_,k4,PS.bind Z.fr.sub T (ex D hv ht Z (by omega)) λv O V2 e2 M2 r=>?_⟩));obtain⟨H,B,-⟩:=go (m:=3000) hv ht Z e2 M2;have B:=Fb.1 B;have fin:∀{l:List S}{sl:Sl},(∀y∈l,Ey d pr y)->(∀y∈l,S.Ok W y)->Ad W sl 5 (l.map S.row)->G=A4 d F n c pr l vals O->Tri xG 208 #[pv p,pv q,.slice sl.p sl.n sl.c] V2 λe' V'=>(∃b v,e'=.returned (.agg #[.bool b,.int .i64 v])/\PS W d p F c q pr G (.returned (.agg #[.bool b,.int .i64 v])) V')∨∃ch,e'=.panicked ch/\PS W d p F c q pr G e' V':=λ{l sl} t1 t2 t3 hGl=>
   PS.split (hS l W V0 V2 O c q pr vals sl (H.le (by omega)) t1 t2 t3) (λk A c' V3 e3 M3=>by rw[hGl,e3];exact⟨rfl,c',M3⟩) λrt A N V3 e3 hf3 M3=>PS.ok (hGl.trans e3) hf3 M3 rfl rfl
  refine⟨λK=>fin hlt1 C.lOk C.lRows ?_,λK=>fin hlt2 C.xOk C.xRows ?_⟩
  ·have K:v=1:=K;rw[r,if_neg (by omega)]
  ·have K:¬v=1:=K;rw[r,if_pos (by omega)]
 |@loop a h I hv ht=>
  rw[if_neg (by omega),if_neg (by omega),if_neg (by omega),if_pos h,I,xo]at T;have D:x.es[0]?=some a:=by rw[I];rfl
  obtain⟨-,-,-,hlt1,-⟩:=hty.parts;refine Ah (by omega) (Ah (by omega) (Ah (by omega) (AT h ?_)));refine⟨λm xs V2=>xs=[]/\∃N f s',Dr W N d p F c q pr f n 1000 V2 s'/\F<m+s'.tk/\G=Ew d F (A4 d F n) c pr a x.ls m f s',n+1,⟨rfl,V0,vals,s1,Z.le (by omega),by have:=Z.n;omega,T⟩,?_⟩;rintro m V2 ⟨-,N,f,s',X',hm,hG'⟩ J hJ;obtain⟨m,rfl⟩:∃m',m=m'+1:=⟨m-1,by have:=X'.tk;omega⟩;rw[Ew]at hG';obtain⟨k1,k3,k4⟩:=esAt (U X'.fr.sub X'.M.sub) D;refine⟨k1,by decide,k3,_,_,_,_,k4,PS.bind X'.fr.sub hG' (ex D hv ht X' (by omega)) λv O V3 e2 M2 r=>?_⟩;obtain⟨H,B,g2⟩:=go (m:=0) hv ht X' e2 M2;have B:=Fb.1 B;refine⟨λK=>?_,λK=>?_⟩;rotate_left
  ·have K:¬v=1:=K;rw[if_pos (by omega)]at r;exact PS.ok r H.fr H.M rfl rfl
  have K:v=1:=K;rw[if_neg (by omega)]at r;have P:=hcs c pr x.ls f O H.po hlt1 H.G H.hv;refine PS.split (hS x.ls W N V3 O c q pr f x.ll H hlt1 C.lOk C.lRows) (λk A c' V4 e3 M3=>?_) λrt A V0'' V4 e3 hf3 M3=>?_;·rw[r,e3];exact⟨rfl,c',M3⟩
  obtain⟨G3,g3,q3⟩:=P.got e3;have X3:=H.next (m:=0) (k:=0) g3 G3 hf3 q3.1 M3;rw[e3]at r;cases hrt:rt.2 with
  |some z=>
   have hG3:G=.ok rt A:=by rw[r];show(match rt.2 with|some _=>_|none=>_)=_;rw[hrt]
   exact⟨λ_=>PS.ok hG3 hf3 M3 (by rw[hrt]) (by rw[hrt]),λh=>absurd rfl h⟩
  |none=>
   have hG3:G=(Fx F A).bind λ_ st=>Ew d F (A4 d F n) c pr a x.ls m rt.1 st:=by rw[r];show(match rt.2 with|some _=>_|none=>_)=_;rw[hrt]
   refine⟨(λh=>by cases h),λ_=>Tri.mono (c279 hF M3) ?_⟩;rintro e4 V5 (⟨hlt',rfl,M5⟩|⟨hge,rfl,rfl⟩)
   ·refine .inl ⟨rfl,hJ m _ _ (by omega) ⟨rfl,V0'',rt.1,{A with tk:=A.tk+1},(X3.tick' hlt' M5).le (by omega),?_,by rw[hG3,K7 hlt'];rfl⟩⟩;have:=g2.tk;have:=g3.tk;show F<m+(A.tk+1);omega
   ·exact .inr ⟨_,rfl,PS.bad (s:=A) (by rw[hG3,K8 hge];rfl) hf3.sub M3⟩
 |ret0 h I hr=>
  rw[if_neg (by omega),if_neg (by omega),if_neg (by omega),if_neg (by omega),if_pos h,I]at T;have hn:=(U Z.fr.sub Z.M.sub).eRows.n_eq;rw[I]at hn;refine Ah (by omega) (Ah (by omega) (Ah (by omega) (Ah (by omega) (AT h (AT (by rw[hn];rfl) ?_)))));exact PS.ok T Z.fr Z.M rfl rfl
 |@ret1 a u h I hv ht hr hf=>
  rw[if_neg (by omega),if_neg (by omega),if_neg (by omega),if_neg (by omega),if_pos h,I]at T;have D:x.es[0]?=some a:=by rw[I];rfl
  obtain⟨k1,k3,k4⟩:=esAt (U Z.fr.sub Z.M.sub) D;refine Ah (by omega) (Ah (by omega) (Ah (by omega) (Ah (by omega) (AT h (Ah (by omega) ⟨k1,by decide,k3,_,_,_,_,k4,PS.bind Z.fr.sub T (ex D hv ht Z (by omega)) λv O V2 e2 M2 r=>?_⟩)))));exact PS.ok r Z.fr M2 rfl rfl
 |@call a pr' i h I hv ho hc=>
  rw[if_neg (by omega),if_neg (by omega),if_neg (by omega),if_neg (by omega),if_neg (by omega),if_pos h,I,xo]at T;unfold CZ at T;rw[evX_eq,IT ho,hc.idx]at T;have D:x.es[0]?=some a:=by rw[I];rfl
  obtain⟨k1,k3,k4⟩:=esAt (U Z.fr.sub Z.M.sub) D;have hp:=G4 hv;have hea:=C.eOk a (xr D);refine Ah (by omega) (Ah (by omega) (Ah (by omega) (Ah (by omega) (Ah (by omega) (AT h ⟨k1,by decide,k3,_,_,_,_,k4,PS.bind Z.fr.sub T (callC hR (Z.cx.le (by omega)) (hea.sub Z.fr.sub) hc hp.1 λb hb u W' V2 O hW' H ht=>?_) λv O V2 e2 M2 r=>?_⟩)))));·exact hE b u W' V2 O c q pr vals H (hp.1.kids b hb) (((hea.sub Z.fr.sub).kids b hb).sub hW') ht
  ·exact PS.ok r Z.fr M2 rfl rfl
end
theorem own_zero{V0 V:Mem}{e:TypeId}{sz:Nat}{s:Sl}{vs:List Value}(h:Sx.Own V0 V e sz s vs):Sx.Own V0 V e sz ⟨s.p,0,s.c⟩ []:=⟨h.sub,by simp,by
 rcases h.at_ with⟨h1,h2,h3⟩|⟨g,cur,h1,h2,h3,h4,k,f,t⟩;·simp_all
 simp_all⟩
theorem I6{V0 V k V':Mem}{e:TypeId}{sz:Nat}{s:Sl}{vs:List Value}(h:Sx.Own V0 V e sz s vs)(u:k.sub V')(f:∀g o,A8 s g->V0 g=none->V g=some o->k g=none/\V' g=some o):Sx.Own k V' e sz s vs:=⟨u,h.len,by
 rcases h.cases0 with h1|⟨t,g,cur,h1,h2,h3,h4⟩;·exact .inl h1
 ·exact .inr ⟨g,cur,h1,(f g _ ⟨t,h1⟩ h2 h3).1,(f g _ ⟨t,h1⟩ h2 h3).2,h4⟩⟩
theorem own_p0{V0 V:Mem}{e:TypeId}{sz:Nat}{s:Sl}{vs:List Value}(h:Sx.Own V0 V e sz s vs)(k:s.c≠0)(m:Nat):Aa s.p (0*m)=s.p:=by
 rw[Nat.zero_mul];rcases h.at_ with⟨h1,h2,h3⟩|⟨g,cur,h1,-⟩;·omega
 ·rw[h1];rfl
theorem az43{V0 V:Mem}{ty:TypeId}{x y:Operand}{vals:Operand->Value}{s:Sl}{n:Nat}{vs:List Int}(f:vals x=.slice s.p s.n s.c)(t:vals y=.int .i64 n)(own:Sx.Own V0 V 3 1 s (vs.flatMap Ak))(g:s.n+n<=2147483648){q:Value->Mem->Prop}
  (j:∀(s':Sl) V',Sx.Own V0 V' 3 1 s' ((vs++yK n (0:Int)).flatMap Ak)->q (.slice s'.p s'.n s'.c) V'):GenK xG (.call {callee:=.builtin .append,args:=#[x,y],argTypes:=#[43,3]}) ty vals V q:=
 Go.Sx.GenK.appendZ (z:=.int .i64 0) (i:=ti 3) (k:=.i64) Tryz.underlying43 wo (by kernel_rfl) (by kernel_rfl) (by kernel_rfl) (by kernel_rfl) (by decide) (of_decide_eq_true (by kernel_rfl)) (λu hu=>by
  have l:(xa .i64 0).cells=#[xa .i64 0]:=by rfl
  rw[l]at hu;simp at hu;subst hu;rfl) f t own g λs' V' h=>j s' V' (by
  rw[List.flatMap_append];have e:(yK n (0:Int)).flatMap Ak=(Builtin.zeroCells (xa .i64 0).cells n).toList:=by rw[QR,Cy,List.map_replicate]
  rw[e];exact h)
theorem az28{V0 V:Mem}{ty:TypeId}{x y:Operand}{vals:Operand->Value}{s:Sl}{n:Nat}{vs:List Value}(f:vals x=.slice s.p s.n s.c)(t:vals y=.int .i64 n)(own:Sx.Own V0 V 112 2 s vs)(g:s.n+n<=2147483648){q:Value->Mem->Prop}
  (j:∀(s':Sl) V' ws,Sx.Own V0 V' 112 2 s' ws->q (.slice s'.p s'.n s'.c) V'):GenK xG (.call {callee:=.builtin .append,args:=#[x,y],argTypes:=#[28,3]}) ty vals V q:=
 Go.Sx.GenK.appendZ (z:=.agg #[.string (Ac []),.string (Ac [])]) (i:=ti 112) (k:=.i64) Tryz.underlying28 wo (by kernel_rfl) (by kernel_rfl) (by kernel_rfl) (by kernel_rfl) (by decide) (of_decide_eq_true (by kernel_rfl)) (λu hu=>by
  have l:(Value.agg #[.string (Ac []),.string (Ac [])]).cells=#[.string (Ac []),.string (Ac [])]:=by rfl
  rw[l]at hu;simp at hu;subst hu;rfl) f t own g λs' V' h=>j s' V' _ h
theorem c222{V:Mem}{n:Nat}(f:n<=2147483648):Tri xG 222 #[.slice none 0 0,.int .i64 n] V λe V'=>∃s:Sl,e=.returned (.slice s.p s.n s.c)/\Sx.Own V V' 112 2 s []:=by
 refine x222 (a:=⟨none,0,0⟩) (b:=n) ?_;have e:(n:Int)-(((0:Nat):Int)-((0:Nat):Int))=n:=by omega
 refine Ah (by omega) ⟨⟨by simp,by simp⟩,⟨by rw[e];omega,by rw[e];omega⟩,λh=>⟨⟨by omega,by omega,by omega⟩,?_⟩,λh=>⟨⟨none,0,0⟩,rfl,Own.nil (Mem.sub.refl _) _ _⟩⟩;refine az28 (s:=⟨none,0,0⟩) (n:=n) (vs:=[]) (V0:=V) rfl (by rfl) (Own.nil (Mem.sub.refl _) _ _) (by simpa using f) λs' V' ws k=>⟨s',rfl,⟨by omega,by omega,by simp⟩,⟨s'.p,0,s'.c⟩,?_,own_zero k⟩;by_cases g:s'.c=0;·simp[g]
 ·rw[if_neg (by omega),show((0:Int).toNat*2)=0*2 from rfl,own_p0 k g];simp
theorem c176{V:Mem}{sl a b:Sl}{xs ys:List Fld}(h:Ad V sl 1 ([a,b].map λs:Sl=>[s.v]))(X:Ad V a 2 (xs.map Fld.row))(B:Ad V b 2 (ys.map Fld.row))(hx:xs.length<=100)(hy:ys.length<=100):
  Tri xG 176 #[sl.v] V λe V'=>∃s:Sl,e=.returned (.slice s.p s.n s.c)/\Sx.Own V V' 112 2 s ((xs++ys).flatMap Fld.row):=by
 have D:=X.n_eq;have E:=B.n_eq;refine x176 ?_;refine Fo (mk:=λk:Int=>.int .i64 k) (b0:=0) Cu 2 (λi k V1=>V1=V/\k=(((([a,b].take i).map (λs:Sl=>s.n)).sum:Nat):Int)) ⟨rfl,rfl⟩ ?_;rintro i k V1 J hi ⟨rfl,rfl⟩ K;refine⟨λg=>?_,λt=>?_⟩
 ·obtain⟨u,l,hu,r,z,H,N,f⟩:=h.get g;have T:u.n<=100:=by
   grind
  have hs:(([a,b].take (i+1)).map (λs:Sl=>s.n)).sum=(([a,b].take i).map (λs:Sl=>s.n)).sum+u.n:=by grind
  have U:(([a,b].take i).map (λs:Sl=>s.n)).sum<=200:=by
   rcases(show i=0∨i=1 by grind)with rfl|rfl;·simp
   ·simp;omega
  refine⟨H,N,g,u,f,⟨by omega,by omega⟩,Ah (by omega) ⟨h.succ g,K z _ _ ⟨rfl,by omega⟩⟩⟩
 ·have h2:=(h.done t).2;have Z:i=2:=by grind
  subst Z;refine Tri.mono (c222 (by simp;omega)) ?_;rintro _ V2 ⟨C,rfl,Y⟩;refine⟨C,rfl,Fo (mk:=λs:Sl=>.slice s.p s.n s.c) (b0:=C) Bv 2 (λj s O=>Sx.Own V1 O 112 2 s ((([xs,ys].take j).flatten).flatMap Fld.row)) Y ?_⟩;rintro j s O J1 hj x A;have I:=h.sub x.sub;refine⟨λg=>?_,λt=>?_⟩
  ·obtain⟨u,l,hu,r,z,H,N,f⟩:=I.get g;obtain⟨y,hzs,L,R⟩:∃y,[xs,ys][j]?=some y/\Ad O u 2 (y.map Fld.row)/\([xs,ys].take j).flatten.length+y.length<=2147483648:=by
    rcases(show j=0∨j=1 by omega)with rfl|rfl;·simp at hu;subst hu;exact⟨xs,rfl,X.sub x.sub,by simp;omega⟩
    ·simp at hu;subst hu;exact⟨ys,rfl,B.sub x.sub,by simp;omega⟩
   refine⟨H,N,g,u,f,EX (s:=s) (u:=u) (xs:=([xs,ys].take j).flatten) (ys:=y) rfl rfl x L R λs' V' ho'=>⟨s',rfl,I.succ g,A z _ _ ?_⟩⟩;grind
  ·have h3:=(I.done t).2;grind
theorem runC{d:Ds}{p F n:Nat}(H:SC d p F n):CallC d p F n:=by
 intro V0 V s c i pr args l hS B G ha hl M htk hn hw;obtain⟨G',C⟩:∃G':Rx Int,G'=CJ d (A4 d F n) c i args s:=⟨_,rfl⟩;rw[<-C];have D:=xr B;have r:=hS.procs pr D;have u:=hS.ds.procsOk pr D;refine Tri.mono (x145 (R:=PX V0 d p F c G') ?_) λ_ _ h=>h;obtain⟨gs,ns,ls,nd,J,L⟩:=M.ex;unfold CJ at C;refine⟨nn,nn,_,Am J 12 1 (by simp[AW]),λh2=>Gq (PX.bad (by grind) M),λh2=>?_⟩;rw[if_neg (by omega),xu,B]at C;refine⟨nn,nn,_,Am J 12 1 (by simp[AW]),⟨by omega,by omega⟩,nn,nn,An.at2 (off:=12) J (by simp[AW]) ?_⟩;have M1:EM V0 d p F (V.set p (.cells (AW d F s.tk ((c+1:Nat):Int) s.cm gs ns ls).toArray 140 (0,0))) s (c+1):=MA.set (row':=AW d F s.tk ((c+1:Nat):Int) s.cm) Gn M.p0 J L rfl rfl rfl rfl;obtain⟨V1,E⟩:∃V1,V1=V.set p (.cells (AW d F s.tk ((c+1:Nat):Int) s.cm gs ns ls).toArray 140 (0,0)):=⟨_,rfl⟩;rw[<-E]at M1;show Ag _ _ (V.set p (.cells (AW d F s.tk ((c+1:Nat):Int) s.cm gs ns ls).toArray 140 (0,0))) _;rw[<-E];intro b1 hb1;obtain⟨V2,N⟩:∃V2,V2=V1.set b1 (.cells #[.slice pr.ps.p pr.ps.n pr.ps.c,.slice pr.ls.p pr.ls.n pr.ls.c] 28 (0,0)):=⟨_,rfl⟩;have Z:V1.sub V2:=N▸Mem.sub_new hb1 _;have Y:=M1.sub.trans Z;have K:Ad V2 ⟨some ⟨b1,0,none⟩,2,2⟩ 1 ([pr.ps,pr.ls].map λs:Sl=>[s.v]):=Ad.cells (xs:=[pr.ps,pr.ls]) (row:=λs:Sl=>[s.v]) (by rw[N];exact Mem.set_same _ _ _) rfl (λ_=>rfl) rfl (by simp);show Tri _ _ #[.slice (sa b1) 2 2] (V1.set b1 (.cells #[.slice pr.ps.p pr.ps.n pr.ps.c,.slice pr.ls.p pr.ls.n pr.ls.c] 28 (0,0))) _;rw[<-N];have hln:=r.lens;refine Tri.mono (c176 K (u.params.sub Y) (u.locals.sub Y) (by omega) (by omega)) ?_;rintro _ V3 ⟨j,rfl,o3⟩;have T:=Y.trans o3.sub;have hal:=(Cw.1 ha).1;refine⟨j,rfl,Tri.mono (Gl (hl.sub T) (by omega)) ?_⟩;rintro _ V4 ⟨s4,rfl,o4⟩;have h4n:=o4.n_eq (λ_=>rfl) (by decide);have U:=u.locals.n_eq;refine⟨s4,rfl,az43 (s:=s4) (n:=pr.ls.n) rfl rfl o4 (by omega) λt V5 o5=>⟨t,rfl,λb2 O=>?_⟩⟩;rw[U]at o5;obtain⟨V6,A⟩:∃V6,V6=V5.set b2 (.cells #[.slice j.p j.n j.c,.slice t.p t.n t.c] 310 (0,0)):=⟨_,rfl⟩;have s56:V5.sub V6:=A▸Mem.sub_new O _;have s36:=o5.sub.trans s56;have s16:=Z.trans (o3.sub.trans s36);obtain⟨W,w0,w6,MW,I⟩:=M1.after s16;show Tri _ _ #[pv p,pv b2,.slice pr.bs.p pr.bs.n pr.bs.c] (V5.set b2 (.cells #[.slice j.p j.n j.c,.slice t.p t.n t.c] 310 (0,0))) _;rw[<-A];have n1:∀{b:Nat},V2 b=none->V1 b=none:=λ{b} h=>by
  cases hc:V1 b with
  |none=>rfl
  |some o=>rw[Z _ _ hc]at h;cases h
 have n3:∀{b:Nat},V3 b=none->V2 b=none:=λ{b} h=>by
  cases hc:V2 b with
  |none=>rfl
  |some o=>rw[o3.sub _ _ hc]at h;cases h
 have n5:V3 b2=none:=by
  cases hc:V3 b2 with
  |none=>rfl
  |some o=>rw[o5.sub _ _ hc]at O;cases O
 have hbk:∀{b:Nat},A8 t b->V3 b=none:=λh=>Own.none0 o5 h;have z:V0.sub (W.but t):=λb o hb=>Mem.but_at (w0 _ _ hb) λhk=>by have:=hbk hk;rw[T _ _ hb]at this;cases this
 have o5':Sx.Own (W.but t) W 3 1 t ((args++yK pr.locals.length (0:Int)).flatMap Ak):=I6 o5 (Mem.but_sub _ _) λg o hk h0 h1=>⟨by grind[Mem.but],I _ _ (n1 (n3 h0)) (s56 _ _ h1)⟩;have o3':Sx.Own (λ_=>none) (W.but t) 112 2 j ((pr.params++pr.locals).flatMap Fld.row):=I6 o3 (λ_ _ h=>by cases h) λg o hk h0 h1=>⟨rfl,Mem.but_at (I _ _ (n1 h0) (s36 _ _ h1)) λhk'=>by simp_all⟩;have hfr:W b2=some (.cells #[j.v,t.v] 310 (0,0)):=I _ _ (n1 (n3 n5)) (by rw[A];exact Mem.set_same _ _ _);have nb2:¬A8 t b2:=λhk=>by
  grind[Own.some]
 have FR:HC (W.but t) W b2 pr (args++yK pr.locals.length 0):=⟨Mem.but_sub _ _,j,t,Mem.but_at hfr nb2,o3'.rows (λ_=>rfl) (by decide),o5'⟩;have hv:=JN ha (KV G.valid λf hf=>r.vars f (List.mem_append_right _ hf));have X:Ad (W.but t) pr.bs 5 (pr.body.map S.row):=u.body.sub z;refine PS.split (H pr.body (W.but t) W V6 s (c+1) b2 pr _ pr.bs ⟨hS.sub z,FR,r,G,hv,MW,htk,hn,hw⟩ r.body (λx hx=>(u.stmts x hx).sub z) X) (λk s2 c' V7 e2 M7=>?_) λrt s2 W7 V7 e2 f7 M7=>?_
 ·rw[C];show PX V0 d p F c ((A4 d F n (c+1) pr pr.body _ s).bind _) _ _;rw[e2];exact⟨rfl,c',M7.narrow z⟩
 ·have M8:=M7.narrow (z.trans f7.sub);obtain⟨gs7,ns7,G8,nd7,y,L7⟩:=M8.ex;refine⟨nn,nn,_,Am y 12 1 (by simp[AW]),⟨by omega,by omega⟩,nn,nn,An.at2 (off:=12) y (by simp[AW]) ?_⟩;rw[C];show PX V0 d p F c ((A4 d F n (c+1) pr pr.body _ s).bind _) _ _;rw[e2];refine⟨rfl,?_⟩;have e:(((c+1:Nat):Int)-1)=(c:Int):=by omega
  rw[e];exact MA.set (row':=AW d F s2.tk c s2.cm) Gn M8.p0 y L7 rfl rfl rfl rfl
theorem allC(d:Ds)(p F:Nat):∀n,SC d p F n
 |0=>λl W V0 V s c q pr vals sl X _ _ _=>absurd X.n (by have:=X.tk;omega)
 |n+1=>stsC (QY (exprC (runC (allC d p F n))) (allC d p F n) (runC (allC d p F n)))
end Go.Proofs
namespace Go.Proofs
open Go Go.Sx
section
variable{d:Ds}{F F' b:Nat}
def Sext(s t:St):Prop:=(∃l,t.lg=s.lg++l)/\s.tk<=t.tk/\s.ns.length<=t.ns.length
def RE{α:Type}(s:St)(r:Rx α):Prop:=Sext s r.st
end
end Go.Proofs
namespace Go.Proofs
open Go Go.Sx
section
variable{d:Ds}{F F':Nat}
def Mm.plain(m:Mm):List Int×List (Int×List Int):=(m.globals,m.nodes.map λn=>(n.ty,n.f))
def AY(m:Mm):St:=⟨m.globals,m.nodes.map λn=>(n.ty,n.f),0,0,[]⟩
theorem St.plain(s:St):s.mm.plain=(s.g,s.ns):=by
 unfold Mm.plain St.mm;simp[Function.comp_def]
theorem I7{m m':Mm}(h:m.plain=m'.plain){i:Nat}{x:Nd}(k:m.nodes[i]?=some x):∃y,m'.nodes[i]?=some y/\y.ty=x.ty/\y.f=x.f:=by
 have h2:(m.nodes.map λn=>(n.ty,n.f))=m'.nodes.map λn=>(n.ty,n.f):=(wm h).2;have:(m'.nodes.map λn=>(n.ty,n.f))[i]?=some (x.ty,x.f):=by grind
 simp_all
theorem Ha{m m':Mm}(h:m.plain=m'.plain):m.nodes.length=m'.nodes.length:=by
 have h2:(m.nodes.map λn=>(n.ty,n.f))=m'.nodes.map λn=>(n.ty,n.f):=(wm h).2;have:=congrArg List.length h2;simpa using this
theorem MV{m m':Mm}(h:m.plain=m'.plain)(hv:BF d m=true):BF d m'=true:=by
 obtain⟨p1,g,p3,f,u⟩:=BG hv;have z:=Ha h;have y:m.globals=m'.globals:=(wm h).1;have r:∀{t v},AL d m t v=true->AL d m' t v=true:=λk=>KU (by omega) (λi x j=>by
  grind[I7]) k
 grind[IU,BV,xj,I7,xr,Eu]
theorem Ic(m:Mm):(AY m).mm.plain=m.plain:=St.plain _
theorem K9{m:Mm}(G:Ao d m):Ao d (AY m).mm:=⟨G.valid,G.chk,MV (Ic m).symm G.mem⟩
theorem JR{m m':Mm}(h:m.plain=m'.plain){t:KB}{v:Int}(k:AL d m t v=true):AL d m' t v=true:=KU (by rw[Ha h];omega) (λi x g=>by
 grind[I7]) k
def DI:Rx Int->Int|.ok _ _=>0|.bad c _=>c
def outV:Rx Int->Int|.ok v _=>v|.bad _ _=>0
def Bh(l:List (Int×Int×Int)):Nat:=(l.filter λa=>decide (0<a.2.1)).length
end
end Go.Proofs
namespace Go.Proofs
open Go Go.Sx
attribute [local irreducible] Go.Sx.Tri
theorem g264:IdxP 264 Nd.row Nd.v 2:=by
 intro V l xs g first t H St N k Z Y
 refine x264 (a:=l) (b:=.func (.func g) first.toArray t.toArray) ?_;refine AR xs.length St Z ?_;intro i b V1 J hi r O;have h:=k i V1 r;refine⟨λf=>?_,λz=>?_⟩
 ·obtain⟨x,hm,A,R,I,y,L,u⟩:=h.get f;refine⟨y,L,f,_,_,u,g,_,_,rfl,H,Tri.mono (Y i x V1 A r) ?_⟩;rintro e V2 ⟨b,rfl,h1,h2⟩;exact⟨b,rfl,λj=>.inl ⟨i,rfl,h1 j⟩,λj=>⟨h.succ f,O I _ _ (h2 (by simpa using j))⟩⟩
 ·have e:i=xs.length:=by have:=(h.done z).2;omega
  simp_all
theorem g231:ConP 231 Nd.row Nd.v 2:=conG g264 x231
theorem c231:ConC 231 Nd.row Nd.v 2:=conC g231
theorem Ie(w:World):(zeroValue 3).run xG w=.ok (.int .i64 0) w:=by kernel_rfl
def pmap(d:Ds)(i:Nat)(k:KB):Option Value:=if 0<=Bw d k/\Bw d k<(i:Int)then some (.int .i64 (Bw d k))else none
def tmap(d:Ds)(k:KB):Option Value:=if Cd d k=true then some (.int .i64 (Bw d k))else none
section
variable{V:Mem}{d:Ds}{m:Mm}{b:Nat}
theorem idxT_le{i:Nat}{x:Ty}(k:d.types[i]?=some x):0<=Bw d x.name/\Bw d x.name<=(i:Int):=by
 unfold Bw;rcases CP (λt:Ty=>decide (t.name=x.name)) d.types with⟨-,-,h⟩|⟨j,y,h1,h2,-,h4,-,-,-,g⟩;·grind
 ·rw[h1];refine⟨by omega,?_⟩;have f:¬i<j:=λu=>by
   have:=List.any_eq_false.1 g x (List.mem_take_iff_getElem.2 ⟨i,by omega,(yu.1 k).2⟩);simp_all
  omega
theorem idxT_at{k:KB}{i:Nat}(h:Bw d k=(i:Int)):∃x,d.types[i]?=some x/\x.name=k:=by
 unfold Bw at h;rcases CP (λt:Ty=>decide (t.name=k)) d.types with⟨h1,-⟩|⟨j,y,h1,h2,-,h4,g,-⟩;·omega
 grind
theorem pmap_all{k:KB}(i:Nat)(hi:d.types.length<=i):pmap d i k=tmap d k:=by
 unfold pmap tmap;rcases Mv d k with⟨h1,h2⟩|⟨h1,h2⟩;·grind
 ·obtain⟨j,h⟩:∃j:Nat,Bw d k=(j:Int):=⟨(Bw d k).toNat,by omega⟩;obtain⟨x,g,-⟩:=idxT_at h;grind
theorem c124{s:KB}:PP 124 [.string s] V (.bool (decide (s=Aj)||decide (s=Au))):=by
 refine x124 ?_;refine⟨λh=>⟨by grind[Aj],rfl⟩,λh=>⟨by rw[decide_eq_false (show ¬s=Aj from h)];rfl,rfl⟩⟩
theorem c125{s:KB}(h:Bx V b (tmap d)):PP 125 [.map (some b),.string s] V (.bool (Cd d s)):=by
 refine x125 ?_;refine BJ.str wk xy Ie h ?_;unfold tmap;cases k:Cd d s with
 |true=>simp_all
 |false=>simp_all
theorem c123{p t:Nat}(k:V p=some (cell (.map (some b)) t))(h:Bx V b (tmap d)){f:Fld}:PP 123 [f.v,pv p] V (.bool (!Bs d f.ty)):=by
 refine x123 ?_;refine c124.call ⟨_,rfl,λh1=>?_,λh1=>⟨some b,AG k,(c125 h).call ⟨_,rfl,?_,rfl⟩⟩⟩;·unfold Bs;grind
 grind[Bs,Aj,Au]
theorem c122{p t:Nat}(k:V p=some (cell (.map (some b)) t))(h:Bx V b (tmap d)){l:Sl}{xs:List Fld}(g:Ad V l 2 (xs.map Fld.row)):PP 122 [l.v,pv p] V (.bool (C3 d xs)):=by
 refine x122 ?_;refine(JB (first:=[]) (caps:=[pv p]) g Tryz.call123 (λf=>!Bs d f.ty) (λf _=>c123 k h)).call ⟨_,rfl,?_,rfl⟩;grind[C3]
theorem c126{p q t t2:Nat}(k:V p=some (cell (.map (some b)) t))(g:V q=some (cell (.func (.func 122) #[] #[pv p]) t2))(h:Bx V b (tmap d)){y:Ty}(f:Ty.Ok V y):
  PP 126 [y.v,pv q] V (.bool (!C3 d y.fields)):=by
 refine x126 ?_;exact⟨.func (.func 122) #[] #[pv p],rfl,AG g,122,_,_,rfl,Tryz.call122,(c122 k h f.fields).callv (first:=[]) (caps:=[pv p]) ⟨_,rfl,rfl,rfl⟩⟩
theorem If:Dq d=true↔BB d=true/\C3 d d.globals=true/\(∀(i:Nat)(x:Ty),d.types[i]?=some x->Bw d x.name=(i:Int))/\∀x∈d.types,C3 d x.fields=true:=by
 unfold Dq;rw[zC,zC,GX,and_assoc];refine and_congr_right λ_=>and_congr_right λ_=>⟨λh=>⟨λi x k=>?_,λx k=>?_⟩,λh i x k=>?_⟩;·grind
 ·obtain⟨i,hi,rfl⟩:=List.mem_iff_getElem.1 k;have:=h i _ (List.getElem?_eq_getElem hi);simp_all
 grind
def Ig(V':Mem)(d:Ds)(mo:Option Nat):Prop:=(Dq d=true/\∃b,mo=some b/\Bx V' b (tmap d))∨(¬Dq d=true/\mo=none)
theorem OM[Tab V](h:Ds.Ok V d):Tri xG 75 #[d.v] V λr V'=>∃N,r=.returned (.map N)/\V.sub V'/\Ig V' d N:=by
 refine Qe ?_;have L:∀{V1:Mem},V.sub V1->¬Dq d=true->(∃N,xI (.map none)=.returned (.map N)/\V.sub V1/\Ig V1 d N):=λf k=>⟨none,rfl,f,.inr ⟨k,rfl⟩⟩;refine(Om h).call ⟨_,rfl,λhv=>?_,λhv=>L (Mem.sub.refl _) λk=>hv (If.1 k).1⟩;refine GenK.makeMap λb hb=>⟨some b,rfl,?_⟩;have f:∀o,V.sub (V.set b o):=λo=>Mem.sub_new hb _;refine AR (mk:=.map) (b0:=none) d.types.length (λi V1=>(∃o,V1=V.set b o)/\Bx V1 b (pmap d i)/\∀(j:Nat)(x:Ty),j<i->d.types[j]?=some x->Bw d x.name=(j:Int)) ⟨⟨_,rfl⟩,(Bx.made V b).congr λk=>?_,λ_ _ h=>absurd h (Nat.not_lt_zero _)⟩ ?_;·grind[pmap]
 rintro i b1 _ J hi ⟨⟨o,rfl⟩,hm,hd⟩ hJ;have g:=h.sub (f o);refine⟨λt=>?_,λX=>?_⟩
 ·obtain⟨x,hxm,R,hdr,hl,B,hz,Z⟩:=g.types.get t;have hle:=idxT_le R;refine⟨B,hz,t,_,_,Z,BJ.str wk xy Ie hm ?_⟩;by_cases hlo:Bw d x.name<(i:Int)
  ·have e:pmap d i x.name=some (.int .i64 (Bw d x.name)):=by grind[pmap]
   rw[e];refine⟨_,_,rfl,λ_=>L (f o) λk=>?_,λk=>absurd rfl k⟩;grind[If]
  ·have e:pmap d i x.name=none:=by grind[pmap]
   rw[e];refine⟨0,false,rfl,(λk=>by cases k),λ_=>C2.str wk xy hm λo2 C=>⟨g.types.succ t,hJ hl _ _ ⟨⟨o2,by rw[Mem.set_set]⟩,C.congr λk=>?_,λj y hj T=>?_⟩⟩⟩
   ·by_cases U:k=x.name
    ·subst U;rw[if_pos rfl];grind[pmap,Bw]
    ·rw[if_neg U];unfold pmap;by_cases hki:Bw d k=(i:Int);·grind[idxT_at,absurd]
     grind
   grind
 ·have Y:=(g.types.done X).2;have D:Bx (V.set b o) b (tmap d):=hm.congr λk=>pmap_all i Y;have u:∀(j:Nat)(x:Ty),d.types[j]?=some x->Bw d x.name=(j:Int):=λj x R=>hd j x (by grind) R;intro p B;have O:=Mem.sub_new B (cell (.map (some b)) 164);have z:=Mem.set_same (V.set b o) p (cell (.map (some b)) 164);have l:=D.sub O;have A:=g.sub O;refine(c122 z l A.globals).call ⟨_,rfl,λE=>λq hq=>?_,λE=>L ((f o).trans O) λk=>E (If.1 k).2.1⟩;have H:=Mem.sub_new hq (cell (.func (.func 122) #[] #[pv p]) 227);have K:=Mem.set_same ((V.set b o).set p (cell (.map (some b)) 164)) q (cell (.func (.func 122) #[] #[pv p]) 227);have I:=A.sub H;refine(c111 (first:=[]) (caps:=[pv q]) I.types Tryz.call126 (λy=>!C3 d y.fields) (λy T=>c126 (H _ _ z) K (l.sub H) (I.typesOk y T))).call ⟨_,rfl,λha=>L ((f o).trans (O.trans H)) λk=>?_,λha=>⟨_,AG (H _ _ z),some b,rfl,(f o).trans (O.trans H),.inl ⟨If.2 ⟨hv,E,u,λx R=>?_⟩,b,rfl,l.sub H⟩⟩⟩;·grind[xV,If]
  simp_all
theorem c265{mo:Option Nat}(l:Ig V d mo)(N:Dq d=true)(hm:Mm.Ok V m){g:KB}(Z:Bs d g=true){v:Int}:PP 265 [.map mo,m.v,.string g,.int .i64 v] V (.bool (AL d m g v)):=by
 refine x265 ?_;have Y:=hm.nodes.n_eq;obtain⟨b,rfl,r⟩:∃b,mo=some b/\Bx V b (tmap d):=by
  rcases l with⟨-,h⟩|⟨h,-⟩;·exact h
  simp_all
 have ret:∀{x y:Bool},x=y->xI (.bool x)=.returned (.bool y)/\V=V:=λh=>by simp_all
 refine⟨λh1=>?_,λh1=>⟨λh2=>?_,λh2=>?_⟩⟩;·grind[AL,Aj]
 ·grind[AL,Aj,Au,inr]
 ·unfold AL;rw[if_neg (show ¬g=Aj from h1),if_neg (show ¬g=Au from h2)];refine⟨λh3=>ret (decide_eq_true (.inl h3)).symm,λh3=>⟨λh4=>⟨λe=>?_,λe=>ret ?_⟩,λh4=>ret ?_⟩⟩
  ·obtain⟨i,rfl⟩:∃i:Nat,v=(i:Int)+1:=⟨(v-1).toNat,by omega⟩;have H:((i:Int)+1-1).toNat=i:=by omega
   obtain⟨x,J,O,-,A,u,I,f⟩:=hm.nodes.get (i:=i) (by omega);have z:=Al (n:=i*2) u;have j:IR ((i:Int)+1-1):=⟨by omega,by have:=(hm.nodes.succ (i:=i) (by omega)).2;omega⟩;have t:Cd d g=true:=by
    grind[Bs,Aj,Au]
   rw[H];refine⟨j,u,by omega,by omega,z,_,_,f,BJ.str1 wk xy Ie r ?_⟩;unfold tmap;rw[if_pos t];refine⟨_,rfl,KI (k:=1) f (by decide),z,u,by omega,by omega,j,ret ?_⟩;grind
  ·grind
  grind
theorem c233{mo:Option Nat}(N:Ig V d mo)(Z:Dq d=true)(hm:Mm.Ok V m){l:Sl}{xs:List Fld}(f:Ad V l 2 (xs.map Fld.row))(Y:C3 d xs=true){s:Sl}{vs:List Int}(hv:Ad V s 1 (vs.map Ak)):PP 233 [.map mo,m.v,l.v,s.v] V (.bool (Ax d m xs vs)):=by
 refine x233 ?_;have h1:=f.n_eq;have h2:=hv.n_eq;refine⟨λO=>?_,λO=>?_⟩
 ·refine AR (mk:=.bool) (b0:=false) vs.length (λi V1=>V=V1/\AllI (λi v=>AL d m (tyAt xs i) v) vs i) ⟨rfl,AllI.zero⟩ ?_;rintro i b V1 J hi ⟨rfl,e⟩ A;refine⟨λh=>?_,λI=>?_⟩
  ·obtain⟨x,t,C,-,D,L,R,g⟩:=f.get h;obtain⟨y,X,H,-,u,z,j,k⟩:=hv.get (i:=i) (by omega);have B:tyAt xs i=x.ty:=by grind[tyAt]
   have r:Bs d x.ty=true:=z7.1 Y x t;refine⟨L,R,h,_,_,g,z,j,by omega,_,k,(c265 N Z hm r).call ⟨_,rfl,λh3=>⟨f.succ h,A u _ _ ⟨rfl,e.succ H (by grind)⟩⟩,λh3=>?_⟩⟩;unfold Ax;rw[Mu H (by grind),wj];simp_all
  ·unfold Ax;rw[e.all (by omega),decide_eq_true (by omega)];simp_all
 ·unfold Ax;rw[decide_eq_false (by omega)];simp_all
theorem c232(h:Ds.Ok V d){p t:Nat}(k:V p=some (.cells d.row.toArray t (0,0))){n:Nd}:PP 232 [n.v,pv p] V (.bool (!Eu d n)):=by
 refine x232 ?_;have g:=h.types.n_eq;refine⟨λh1=>?_,λh1=>⟨by simp,_,Am k 1 1 (by simp[Ds.row]),?_⟩⟩;·unfold Eu;rw[decide_eq_false (by omega)];exact⟨rfl,rfl⟩
 ·refine⟨?_,rfl⟩;grind[Eu]
theorem c234(h:Ds.Ok V d)(hm:Mm.Ok V m){mo:Option Nat}(l:Ig V d mo)(y:Dq d=true){p q r t t2 t3:Nat}(e:V p=some (cell (.map mo) t))(H:V q=some (.cells m.row.toArray t2 (0,0)))(J:V r=some (.cells d.row.toArray t3 (0,0))){n:Nd}(N:n∈m.nodes)(z:Eu d n=true):
  PP 234 [n.v,pv p,pv q,pv r] V (.bool (!Ax d m (Bi d n.ty) n.f)):=by
 refine x234 ?_;obtain⟨h1,h2⟩:=of_decide_eq_true z;have j:=h.types.n_eq;obtain⟨i,hi⟩:∃i:Nat,n.ty=(i:Int):=⟨n.ty.toNat,by omega⟩;obtain⟨x,k,Z,-,O,g,A,u⟩:=h.types.get (i:=i) (by omega);have Y:=Ef Z hi;rw[Y];refine⟨_,AG e,_,_,Am H 0 2 (by simp[Mm.row]),by simp,_,Am J 1 1 (by simp[Ds.row]),g,h1,by omega,?_⟩;rw[hi];refine⟨Al g,_,_,u,(c233 l y hm (h.typesOk x k).fields ((If.1 y).2.2.2 x k) (hm.nodesOk n N).rows).call ⟨_,rfl,rfl,rfl⟩⟩
theorem c189(h:Ds.Ok V d)(hm:Mm.Ok V m){mo:Option Nat}(N:Ig V d mo):Bf xG 189 [.map mo,d.v,m.v] V (.bool (BF d m)):=by
 refine Bf.mk ?_;refine x189 ?_;have l:=hm.nodes.n_eq;rcases N with⟨u,b,rfl,H⟩|⟨u,rfl⟩;rotate_left
 ·refine⟨λ_=>?_,λk=>absurd rfl k⟩;unfold BF;rw[(Bool.not_eq_true _).mp u];exact⟨rfl,Mem.sub.refl _⟩
 refine⟨(λk=>by cases k),λ_=>⟨λh1=>?_,λh1=>?_⟩⟩;·unfold BF;rw[decide_eq_false (by omega:¬m.nodes.length<=4096)];simp_all[wj,Bool.false_and,trivial,Mem.sub.refl]
 intro p Z;have y:=Mem.sub_new Z (.cells d.row.toArray 35 (0,0));have z:=Mem.set_same V p (.cells d.row.toArray 35 (0,0));have t:=hm.sub y;refine(c231 (first:=[]) (caps:=[pv p]) t.nodes Tryz.call232 (λn=>!Eu d n) (λn l=>c232 (h.sub y) z)).call ⟨_,rfl,λh2=>?_,λh2=>?_⟩;·grind[BF,Eu]
 have x:m.nodes.all (Eu d)=true:=by
  simp_all
 have e:Ig (V.set p (.cells d.row.toArray 35 (0,0))) d (some b):=.inl ⟨u,b,rfl,H.sub y⟩;have j:=h.sub y;refine⟨nofun,_,Am z 2 1 (by simp[Ds.row]),(c233 e u t j.globals (If.1 u).2.1 t.globals).call ⟨_,rfl,λh3=>?_,λh3=>?_⟩⟩;rotate_left;·grind[BF]
 intro q Y;have O:=Mem.sub_new Y (cell (.map (some b)) 164);intro r A;have J:=Mem.sub_new A (.cells m.row.toArray 49 (0,0));have g:=O.trans J;refine(c231 (first:=[]) (caps:=[pv q,pv r,pv p]) (t.sub g).nodes Tryz.call234 (λn=>!Ax d m (Bi d n.ty) n.f) (λn l=>?_)).call ⟨_,rfl,?_,y.trans g⟩;·refine c234 (j.sub g) (t.sub g) (mo:=some b) (.inl ⟨u,b,rfl,(H.sub y).sub g⟩) u (J _ _ Az) Az (g _ _ z) l (z7.1 x n l)
 grind[BF,Ax]
theorem c128[Tab V](h:Ds.Ok V d)(hm:Mm.Ok V m):Bf xG 128 [d.v,m.v] V (.bool (BF d m)):=by
 refine Bf.mk ?_;refine x128 ?_;refine Tri.mono (OM h) ?_;rintro _ V' ⟨g,rfl,k,f⟩;exact⟨g,rfl,(c189 (h.sub k) (hm.sub k) f).call ⟨_,rfl,rfl,k⟩⟩
end
theorem MX{d:Ds}(h:(fltR (CT d)).2.2=0):CT d=none:=by
 have key:∀{a:Option Flt},(∀r,a=some r->r.2.2≠0)->(fltR a).2.2=0->a=none:=λ{a} u h=>by
  cases a with
  |none=>rfl
  |some r=>exact absurd h (u r rfl)
 refine key (λr k=>?_) h;unfold CT at k;have g:∀{a b:Option Flt} {r},a.or b=some r->a=some r∨b=some r:=λ{a b r} h=>by
  cases a with
  |none=>exact .inr (by simpa using h)
  |some x=>exact .inl (by simpa using h)
 rcases g k with h1|k;·exact(Mn d r h1).1
 rcases g k with h1|k;·exact(Mo d r h1).1
 rcases g k with h1|k;·exact(Mp d r h1).1
 rcases g k with h1|k
 ·unfold E9 at h1;obtain⟨j,x,-,f⟩:=IN h1;split at f;·rename_i t;cases f;exact t
  ·cases f
 ·exact(Mq d r k).1
section
variable{V:Mem}{d:Ds}{m:Mm}
theorem c206(R:Ds.Ok V d)(hm:Mm.Ok V m)(G:Ao d m){g:KB}{v:Int}:PP 206 [d.v,m.v,.string g,.int .i64 v] V (.bool (AL d m g v)):=by
 refine x206 ?_;have f:∀{b:Bool},AL d m g v=b->(xI (.bool b)=.returned (.bool (AL d m g v))/\V=V):=λe=>⟨by rw[e],rfl⟩;refine⟨λh=>⟨λa=>f ?_,λa=>f ?_⟩,λh=>⟨λh1=>⟨λa=>f ?_,λa=>f ?_⟩,λh1=>⟨λu=>f ?_,λu=>⟨λY=>⟨λr=>?_,λr=>f ?_⟩,λY=>f ?_⟩⟩⟩⟩;·unfold AL;rw[if_pos (show g=Aj from h)];simp[show(-1099511627776:Int)<=v from a]
 ·unfold AL;rw[if_pos (show g=Aj from h)];exact decide_eq_false λk=>a k.1
 ·unfold AL;rw[if_neg (show ¬g=Aj from h),if_pos (show g=Au from h1)];exact decide_eq_true (.inl a)
 ·unfold AL;rw[if_neg (show ¬g=Aj from h),if_pos (show g=Au from h1)];have a:¬v=0:=a;simp[a]
 ·unfold AL;rw[if_neg (show ¬g=Aj from h),if_neg (show ¬g=Au from h1)];exact decide_eq_true (.inl u)
 ·have u:¬v=0:=u;have C:=hm.nodes.n_eq;have r:v<=(m.ns.n:Int):=r;obtain⟨k,X⟩:∃k:Nat,v-1=(k:Int):=⟨(v-1).toNat,by omega⟩;obtain⟨y,O,D,-,-,H,E,J⟩:=hm.nodes.get (i:=k) (by omega);obtain⟨p1,p2,p3,-⟩:=BG G.mem;have K:=of_decide_eq_true (p3 y O);obtain⟨j,A⟩:∃j:Nat,y.ty=(j:Int):=⟨y.ty.toNat,by omega⟩;have T:=R.types.n_eq;obtain⟨U,-,N,-,-,Z,I,z⟩:=R.types.get (i:=j) (by omega);have l:V.rowp m.ns.p (k*2) 2=some [.int .i64 (j:Int),y.sl.v]:=by rw[<-A];exact J
  rw[X];refine⟨⟨by omega,by omega⟩,H,E,by omega,Al H,_,_,l,Z,I,by omega,Al Z,_,_,z,f ?_⟩;unfold AL;rw[if_neg (show ¬g=Aj from h),if_neg (show ¬g=Au from h1),X,xu,D];refine decide_eq_decide.2 ⟨λt=>?_,λt=>.inr ⟨by omega,by omega,?_⟩⟩
  ·rcases t with t|⟨-,-,t⟩;·exact absurd t u
   ·simp only[zJ,zF]at t;obtain⟨x,B,L⟩:=idxT_at (d:=d) (k:=g) (i:=j) (by rw[<-t,A]);rw[N]at B;cases B;exact L
  ·simp only[zJ,zF];rw[A,<-(Gi p1).2.1 j U N];exact congrArg _ t
 ·have r:¬v<=(m.ns.n:Int):=r;have C:=hm.nodes.n_eq;have u:¬v=0:=u;unfold AL;rw[if_neg (show ¬g=Aj from h),if_neg (show ¬g=Au from h1)];exact decide_eq_false λt=>by rcases t with t|⟨-,t,-⟩<;>omega
 ·have Y:¬0<v:=Y;have u:¬v=0:=u;unfold AL;rw[if_neg (show ¬g=Aj from h),if_neg (show ¬g=Au from h1)];exact decide_eq_false λt=>by rcases t with t|⟨t,-,-⟩<;>omega
def AQ(d:Ds)(m:Mm)(nm:KB)(args:List Int):Int:=
 if AC d nm<0 then 9 else match d.procs[(AC d nm).toNat]? with
  |none=>9
  |some pr=>if args.length=pr.params.length then(if Ax d m pr.params args=true then 0 else 11)else 3
theorem La{nm:KB}{args:List Int}(h:AQ d m nm args=0):∃(i:Nat)(pr:Pr),AC d nm=(i:Int)/\d.procs[i]?=some pr/\Ax d m pr.params args=true:=by
 unfold AQ at h;split at h;·cases h
 ·split at h;·cases h
  ·rename_i h1 pr k;split at h
   ·split at h;·exact⟨(AC d nm).toNat,pr,by omega,k,by assumption⟩
    ·cases h
   ·cases h
def noPr:Pr:=⟨Ac [],Ai,[],Ac [],Ai,[],Ai,[]⟩
theorem c143(r:Ds.Ok V d)(hm:Mm.Ok V m)(G:Ao d m){l:Sl}{args:List Int}(I:Ad V l 1 (args.map Ak)){nm:KB}:
  PP 143 [d.v,m.v,.agg #[.string nm,l.v]] V (.tuple #[(if AQ d m nm args=0 then((d.procs[(AC d nm).toNat]?).getD noPr)else noPr).v,.int .i64 (AQ d m nm args)]):=by
 refine x143 ?_;have bad:∀{e:Int},AQ d m nm args=e->e≠0->(xI (.tuple #[noPr.v,.int .i64 e])=.returned (.tuple #[(if AQ d m nm args=0 then((d.procs[(AC d nm).toNat]?).getD noPr)else noPr).v,.int .i64 (AQ d m nm args)])/\V=V):=λe h=>⟨by rw[e,if_neg h],rfl⟩;refine(c205 r).call ⟨_,rfl,λh=>?_,λh=>?_⟩;·exact bad (by unfold AQ;rw[if_pos h]) (by decide)
 ·have h:¬AC d nm<0:=h;rcases CP (λt:Pr=>decide (t.name=nm)) d.procs with⟨h1,-⟩|⟨i,pr,h1,h2,-⟩
  ·have:AC d nm=-1:=h1;omega
  have hi:AC d nm=(i:Int):=h1;have hn:=r.procs.n_eq;have hil:=(yu.1 h2).1;obtain⟨y,R,hy,-,-,hp,hz,H⟩:=r.procs.get (i:=i) (by omega);rw[h2]at hy;cases hy;have N:AQ d m nm args=if args.length=pr.params.length then(if Ax d m pr.params args=true then 0 else 11)else 3:=by unfold AQ;rw[if_neg h,hi,xu,h2]
  have Z:=(r.procsOk pr R).params;have hln:=Z.n_eq;have han:=I.n_eq;rw[hi]at bad⊢;refine⟨hp,hz,by omega,_,_,_,_,_,H,λu=>?_,λu=>?_⟩
  ·have u:(l.n:Int)=(pr.ps.n:Int):=u;have Y:args.length=pr.params.length:=by omega
   rw[if_pos Y]at N;refine AR (mk:=λk:Int=>.int .i64 k) (b0:=0) args.length (λj V1=>V1=V/\∀(i:Nat) f v,i<j->pr.params[i]?=some f->args[i]?=some v->AL d m f.ty v=true) ⟨rfl,λi f v h=>by omega⟩ ?_;rintro j b V1 J hj ⟨rfl,z⟩ hJ;refine⟨λx=>?_,λX=>?_⟩
   ·obtain⟨v,hvm,hv,-,B,C,D,E⟩:=I.get x;obtain⟨f,hfm,L,-,-,O,K,T⟩:=Z.get (i:=j) (by omega);refine⟨C,D,x,v,E,O,K,by omega,Al O,_,_,T,(c206 r hm G).call ⟨_,rfl,λU=>⟨I.succ x,hJ B _ _ ⟨rfl,λi g w hi' hg hw=>?_⟩⟩,λU=>bad ?_ (by decide)⟩⟩
    ·rcases Nat.lt_or_ge i j with h3|h3;·exact z i g w h3 hg hw
     ·obtain rfl:i=j:=by omega
      rw[L]at hg;cases hg;rw[hv]at hw;cases hw;exact U
    ·rw[N,if_neg λk=>U ((Cw.1 k).2 j f v L hv)]
   ·have hd2:=(I.done X).2;have A:Ax d m pr.params args=true:=Cw.2 ⟨Y.symm,λi f v L hv=>z i f v (by have:=(yu.1 hv).1;omega) L hv⟩;rw[if_pos A]at N;refine⟨?_,rfl⟩;rw[N,if_pos rfl,xu,h2];rfl
  ·have u:¬(l.n:Int)=(pr.ps.n:Int):=u;exact bad (by rw[N,if_neg (by omega)]) (by decide)
noncomputable def C8(d:Ds)(m:Mm)(F:Int):Int:=by
 classical
 exact if Ao d m then(if F<0 then 2 else if 1048576<F then 2 else 0)else 1
theorem QZ[Tab V](f:Ds.Ok V d)(hm:Mm.Ok V m){F:Int}:PP 94 [d.v,m.v,.int .i64 F] V (.int .i64 (C8 d m F)):=by
 refine Qx ?_;have bad:¬Ao d m->(xI (.int .i64 1)=.returned (.int .i64 (C8 d m F))/\V=V):=λh=>⟨by unfold C8;rw[if_neg h],rfl⟩;refine(Ow scopeC newC f).call ?_;by_cases hv:BB d=true
 ·rw[if_pos hv];refine⟨_,_,_,rfl,λg=>(c128 f hm).call ⟨_,rfl,λh1=>?_,λh1=>bad λk=>h1 k.mem⟩,λg=>bad λk=>g (by rw[k.chk];rfl)⟩;have G:Ao d m:=⟨hv,MX g,h1⟩;refine⟨λh=>⟨?_,rfl⟩,λh=>⟨λh2=>⟨?_,rfl⟩,λh2=>⟨?_,rfl⟩⟩⟩;·unfold C8;rw[if_pos G,if_pos h]
  ·unfold C8;rw[if_pos G,if_neg h,if_pos h2]
  ·unfold C8;rw[if_pos G,if_neg h,if_neg h2]
 ·rw[if_neg hv];exact⟨_,_,_,rfl,λh=>absurd h (by decide),λ_=>bad λk=>hv k.valid⟩
end
theorem loop3u{V:Mem}{β h:Type}{mk:β->Value}{mc:h->Value}{B:β->h->Int->Mem->(KZ)->Prop}{b0:β}{c0:h}(inj:∀x y,mk x=mk y->x=y)(t:∀x y,mc x=mc y->x=y)(len:Nat)(St:Nat->β->h->Mem->Prop)(j:St 0 b0 c0 V)
  (step:∀(i:Nat)(b:β)(c:h) V1 J,i<=len->St i b c V1->(i<len->∀k g V2,St (i+1) k g V2->J [mk k,mc g,.int .i64 ((i:Int)+1)] V2)->B b c (i:Int) V1 J):
  ∃(I:Nat->KZ)(l:Nat),I l [mk b0,mc c0,.int .i64 0] V/\∀n V1,∀b:β,∀c:h,∀v:Int,I n [mk b,mc c,.int .i64 v] V1->∀J:KZ,(∀m ys f,m<n->I m ys f->J ys f)->B b c v V1 J:=by
 refine⟨LI len λi xs V=>∃b c,xs=[mk b,mc c,.int .i64 i]/\St i b c V,len,LI.start ⟨b0,c0,rfl,j⟩,?_⟩;rintro n V1 b c v ⟨i,rfl,hi,k,g,z,r⟩ J e;simp only[List.cons.injEq,Value.int.injEq,true_and,and_true]at z;obtain⟨H,N,rfl⟩:=z;cases inj _ _ H;cases t _ _ N;exact step i b c V1 J hi r λu k g V2 h2=>LI.next e u ⟨k,g,rfl,h2⟩
theorem Q0{V:Mem}{m:Mm}(hm:Mm.Ok V m)(h1:m.globals.length<=2147483648)(h2:m.nodes.length<=4096)(h3:∀n∈m.nodes,n.f.length<=2147483648):Tri xG 96 #[m.v] V λe V'=>∃gs ns nd,e=.returned (.agg #[.slice gs.p gs.n gs.c,.slice ns.p ns.n ns.c])/\AM V V' gs ns Ai nd (AY m):=by
 refine QI ?_;refine Tri.mono (Gl hm.globals h1) ?_;rintro _ V1 ⟨gs,rfl,u⟩;refine⟨gs,rfl,loop3u (mk:=λs:Sl=>.slice s.p s.n s.c) (mc:=λs:Sl=>.slice s.p s.n s.c) (b0:=gs) (c0:=⟨none,0,0⟩) Bv Bv m.nodes.length (λi b ns V2=>b=gs/\∃nd,AM V V2 gs ns Ai nd ⟨m.globals,(m.nodes.take i).map λn=>(n.ty,n.f),0,0,[]⟩/\nd.length=i) ⟨rfl,[],⟨u,Own.nil u.sub _ _,Own.nil u.sub _ _,(λn z=>by cases z),rfl,(λn z=>by cases z),(λi j n B c h=>by cases h)⟩,rfl⟩ ?_⟩;rintro i b ns V2 J hi ⟨rfl,nd,L,y⟩ Z;have l:=hm.nodes.sub L.sub;refine⟨λk=>?_,λr=>?_⟩
 ·obtain⟨x,g,Y,-,H,O,A,t⟩:=l.get k;refine⟨O,A,k,x.ty,x.sl,t,Tri.mono (Gl ((hm.nodesOk x g).rows.sub L.sub) (h3 x g)) ?_⟩;rintro _ C ⟨fs,rfl,I⟩;refine⟨fs,rfl,λD N=>L.new (n:=⟨x.ty,fs,x.f⟩) I N rfl rfl (by omega) λs' V' R _=>⟨s',rfl,l.succ k,Z H _ _ _ ⟨rfl,nd++[⟨x.ty,fs,x.f⟩],?_,by rw[zw,y];rfl⟩⟩⟩;rw[List.take_add_one,Y];simpa using R
 ·have X:=(l.done r).2;rw[List.take_of_length_le X]at L;exact⟨b,ns,nd,rfl,L⟩
end Go.Proofs
namespace Go.Sx
open Go
section
variable{P:Program}{n:Nat}{ops:Array Oper}{i:Nat}{o:Oper}{rest:List Nat}{Q:Exit->Act->World->Prop}{a:Act}{w:World}
theorem Ih(h:o.guard=none):yP o (yielded ops a.tmps)=true:=by simp[yP,h]
theorem step_value{v:Value}(g:ops[i]?=some o)(f:o.guard=none)(h:(execOp a.eval o).run P w=.ok (.value v) w)(k:wpOpsIn (AN none) n P ops Q rest (a.put o.dst v) w):wpOpsIn (AN none) n P ops Q (i::rest) a w:=by
 rw[wpOpsIn_cons];unfold wpOpIn;simp only[g];rw[if_pos (Ih f)];refine⟨λ_ _=>trivial,?_⟩;show wi _ _ _ _ _ _ _ ((execOp a.eval o).run P w);rw[h];exact k
theorem step_defer{d:Deferred}(g:ops[i]?=some o)(f:o.guard=none)(h:(execOp a.eval o).run P w=.ok (.defer d) w)(k:wpOpsIn (AN none) n P ops Q rest (({a with defers:=d::a.defers}:Act).put o.dst undef) w):wpOpsIn (AN none) n P ops Q (i::rest) a w:=by
 rw[wpOpsIn_cons];unfold wpOpIn;simp only[g];rw[if_pos (Ih f)];refine⟨λ_ _=>trivial,?_⟩;show wi _ _ _ _ _ _ _ ((execOp a.eval o).run P w);rw[h];exact k
theorem step_call{f:FuncId}{args:Array Value}{V:Mem}{R:Ending->Mem->Prop}(t:ops[i]?=some o)(u:o.guard=none)(k:(execOp a.eval o).run P w=.ok (.enter f args) w)(z:V.le w)(H:Tri P f args V R)
  (y:∀g V' w',R (.panicked g) V'->Aw V w V' w'->Q (.panic g) a w') (x:∀v V' w',R (.returned v) V'->Aw V w V' w'->wpOpsIn (AN none) n P ops Q rest (a.put o.dst v) w') (j:∀V',¬R .outgrown V'):wpOpsIn (AN none) n P ops Q (i::rest) a w:=by
 rw[wpOpsIn_cons];unfold wpOpIn;simp only[t];rw[if_pos (Ih u)];refine⟨λ_ _=>trivial,?_⟩;show wi _ _ _ _ _ _ _ ((execOp a.eval o).run P w);rw[k];refine⟨λh=>by simp[AN,Fence.wide]at h,MF.2 (GO (H w z) ?_)⟩;grind
theorem run_callv{c:Call}{fv:Operand}{f:FuncId}{first caps args:Array Value}(k:o.op=.call c)(g:c.callee=.value fv)(t:a.eval fv=.func (.func f) first caps)(h:c.args.map a.eval=args)(u:∀args w,(callFunc f args).run P w=.ok (.enter f args) w):
  (execOp a.eval o).run P w=.ok (.enter f (first++args++caps)) w:=by
 grind[execOp,resolve,Deferred.ofValue,invoke]
def Rec(u:FrameMode)(v:Value)(k:FrameMode):Prop:=
 match u with
 |.panicking ({v:=g,recovered:=false,goexit:=false}::h)=>v=g/\k=.panicking ({v:=g,recovered:=true}::h)
 |_=>v=.nilIface/\k=u
end
end Go.Sx
