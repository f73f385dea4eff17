/- Part 16: no statement of the seat is proved here. -/
import Derived.Test.YtmeagdecjpknkaaGreatDoorPs12
import Derived.Test.YtmeagdecjpknkaaGreatDoorPs15
import Derived.Test.YtmeagdecjpknkaaGreatDoorPs11
import Derived.Test.YtmeagdecjpknkaaGreatDoorPs14
import Derived.DefersIn
import Derived.RecoverIn
import Derived.Test.YtmeagdecjpknkaaGreatDoorPs04
set_option linter.unusedVariables false
set_option linter.unusedSimpArgs false
open Prod.mk renaming inj->wh
open List renaming mem_iff_getElem?->xg,mem_of_getElem?->xp,take_succ_cons->we,getElem?_cons_zero->wc,getElem?_eq_some_iff->yv,getElem?_eq_getElem->yu,all_eq_true->za,length_append->zw,take_add_one->w8,getElem?_toArray->vA,lookup_cons->zd,mem_cons->yD,not_mem_nil->xC
open Option.some renaming injEq->zF
open Go.Proofs.Tryz renaming prog->xE,underlying158->wb,underlying9->xw,f73->vB,f115->vC,underlying20->vD
open Bool renaming and_eq_true->zC,and_false->wa
open Go.Ending renaming returned->xH
open Int renaming toNat_natCast->xo
open Option renaming map_some->zJ
open Go.Region renaming wanted->yO
open Go.Oper renaming uponIn->w9
open Go.Fence renaming wide->wF
open Go.Deferred renaming ofValue->yF
open Array renaming replicate->wI,getD_eq_getD_getElem?->wY
open Go.Sem renaming run_bind->zK
open Go.Code renaming wpIn->wW
namespace Go.Proofs
open Go Go.Sx
section
variable{d:Ds}{F F':Nat}
def Mm.plain(m:Mm):List Int×List (Int×List Int):=(m.globals,m.nodes.map λn=>(n.ty,n.f))
def qBZ(m:Mm):St:=⟨m.globals,m.nodes.map λn=>(n.ty,n.f),0,0,[]⟩
theorem St.plain(s:St):s.mm.plain=(s.g,s.ns):=by
 unfold Mm.plain St.mm;simp[Function.comp_def]
theorem qFD{m m':Mm}(h:m.plain=m'.plain){i:Nat}{x:Nd}(k:m.nodes[i]?=some x):∃y,m'.nodes[i]?=some y/\y.ty=x.ty/\y.f=x.f:=by
 have h2:(m.nodes.map λn=>(n.ty,n.f))=m'.nodes.map λn=>(n.ty,n.f):=(wh h).2;have:(m'.nodes.map λn=>(n.ty,n.f))[i]?=some (x.ty,x.f):=by grind
 simp_all
theorem qDt{m m':Mm}(h:m.plain=m'.plain):m.nodes.length=m'.nodes.length:=by
 have h2:(m.nodes.map λn=>(n.ty,n.f))=m'.nodes.map λn=>(n.ty,n.f):=(wh h).2;have:=congrArg List.length h2;simpa using this
theorem qEu{m m':Mm}(h:m.plain=m'.plain)(hv:qAy d m=true):qAy d m'=true:=by
 obtain⟨p1,g,p3,f,u⟩:=qAh hv;have z:=qDt h;have y:m.globals=m'.globals:=(wh h).1;have r:∀{t v},qAA d m t v=true->qAA d m' t v=true:=λk=>qHw (by omega) (λi x j=>by
  grind[qFD]) k
 grind[qGz,qAp,xg,qFD,xp,qDK]
theorem qEf(m:Mm):(qBZ m).mm.plain=m.plain:=St.plain _
theorem qJE{m:Mm}(G:qAw d m):qAw d (qBZ m).mm:=⟨G.valid,G.chk,qEu (qEf m).symm G.mem⟩
theorem qDr{m m':Mm}(h:m.plain=m'.plain){t:KB}{v:Int}(k:qAA d m t v=true):qAA d m' t v=true:=qHw (by rw[qDt h];omega) (λi x g=>by
 grind[qFD]) k
def outC:Rx Int->Int|.ok _ _=>0|.bad c _=>c
def outV:Rx Int->Int|.ok v _=>v|.bad _ _=>0
def qAu(l:List (Int×Int×Int)):Nat:=(l.filter λa=>decide (0<a.2.1)).length
def alN(l:List (Int×Int×Int)):Nat:=(l.filter λa=>decide (a.1=3)).length
theorem qIQ(a:Int×Int×Int)(l:List (Int×Int×Int)):alN (a::l)=(if a.1=3 then 1 else 0)+alN l:=by
 grind[alN]
theorem qKf.len{n m:Nat}{l:List (Int×Int×Int)}(h:qKf n l m):m=n+alN l:=by
 induction h with
 |nil=>rfl
 |@acc n m k a f l t _ _ _ _ g=>rw[qIQ,if_neg (by omega)];omega
 |alloc _ _ g=>rw[qIQ,if_pos rfl];omega
theorem qKf.at_{n m:Nat}{l:List (Int×Int×Int)}(h:qKf n l m):∀(i:Nat) a,l[i]?=some a->(a.1=1∨a.1=2∨a.1=3)/\(a.1=3->a.2.1=((n+alN (l.take i):Nat):Int)+1)/\(a.1≠3->a.2.1<=((n+alN (l.take i):Nat):Int))/\0<=a.2.1/\0<=a.2.2:=by
 induction h with
 |nil=>simp_all
 |@acc n m k x f l u h0 h1 h2 _ t=>
  intro i a g;cases i with
  |zero=>
   grind
  |succ i=>
   have:=t i a (by simpa using g);rwa [we,qIQ,if_neg (by omega),Nat.zero_add]
 |@alloc n m f l h2 _ t=>
  intro i a g;cases i with
  |zero=>
   simp only[wc,zF]at g;subst g;exact⟨.inr (.inr rfl),λ_=>rfl,λh=>absurd rfl h,by grind,h2⟩
  |succ i=>
   have:=t i a (by simpa using g);rwa [we,qIQ,if_pos rfl,<-Nat.add_assoc]
end
end Go.Proofs
namespace Go.Proofs
open Go Go.Sx
attribute [local irreducible] Go.Sx.Tri
theorem g174:IdxP 174 Nd.row Nd.v 2:=by
 intro V l xs g first t q St H k h0 G
 refine x174 (a:=l) (b:=.func (.func g) first.toArray t.toArray) ?_;refine qAM xs.length St h0 ?_;intro i b V1 J A r N;have h:=k i V1 r;refine⟨λf=>?_,λz=>?_⟩
 ·obtain⟨x,hm,Z,I,Y,y,O,u⟩:=h.get f;refine⟨y,O,f,_,_,u,g,_,_,rfl,q,Tri.mono (G i x V1 Z r) ?_⟩;rintro e V2 ⟨b,rfl,h1,h2⟩;exact⟨b,rfl,λj=>.inl ⟨i,rfl,h1 j⟩,λj=>⟨h.succ f,N Y _ _ (h2 (by simpa using j))⟩⟩
 ·have e:i=xs.length:=by have:=(h.done z).2;omega
  simp_all
theorem g128:ConP 128 Nd.row Nd.v 2:=conG g174 x128
theorem c128:ConC 128 Nd.row Nd.v 2:=conC g128
theorem qGa(w:World):(zeroValue 3).run xE w=.ok (.int .i64 0) w:=by kernel_rfl
def pmap(d:Ds)(i:Nat)(k:KB):Option Value:=if 0<=qDL d k/\qDL d k<(i:Int)then some (.int .i64 (qDL d k))else none
def tmap(d:Ds)(k:KB):Option Value:=if qBd d k=true then some (.int .i64 (qDL d k))else none
section
variable{V:Mem}{d:Ds}{m:Mm}{b:Nat}
theorem idxT_le{i:Nat}{x:Ty}(k:d.types[i]?=some x):0<=qDL d x.name/\qDL d x.name<=(i:Int):=by
 unfold qDL;rcases qAL (λt:Ty=>decide (t.name=x.name)) d.types with⟨-,-,h⟩|⟨j,y,h1,h2,-,h4,-,-,-,g⟩;·grind
 ·rw[h1];refine⟨by omega,?_⟩;have f:¬i<j:=λu=>by
   have:=List.any_eq_false.1 g x (List.mem_take_iff_getElem.2 ⟨i,by omega,(yv.1 k).2⟩);simp_all
  omega
theorem idxT_at{k:KB}{i:Nat}(h:qDL d k=(i:Int)):∃x,d.types[i]?=some x/\x.name=k:=by
 unfold qDL at h;rcases qAL (λt:Ty=>decide (t.name=k)) d.types with⟨h1,-⟩|⟨j,y,h1,h2,-,h4,g,-⟩;·omega
 grind
theorem pmap_all{k:KB}(i:Nat)(hi:d.types.length<=i):pmap d i k=tmap d k:=by
 unfold pmap tmap;rcases qHF d k with⟨h1,h2⟩|⟨h1,h2⟩;·grind
 ·obtain⟨j,h⟩:∃j:Nat,qDL d k=(j:Int):=⟨(qDL d k).toNat,by omega⟩;obtain⟨x,g,-⟩:=idxT_at h;grind
theorem c124{s:KB}:PP 124 [.string s] V (.bool (decide (s=qAT)||decide (s=qAz))):=by
 refine x124 ?_;refine⟨λh=>⟨by grind[qAT],rfl⟩,λh=>⟨by rw[decide_eq_false (show ¬s=qAT from h)];rfl,rfl⟩⟩
theorem c125{s:KB}(h:qBs V b (tmap d)):PP 125 [.map (some b),.string s] V (.bool (qBd d s)):=by
 refine x125 ?_;refine qBH.str wb xw qGa h ?_;unfold tmap;cases k:qBd d s with
 |true=>simp_all
 |false=>simp_all
theorem c123{p t:Nat}(k:V p=some (cell (.map (some b)) t))(h:qBs V b (tmap d)){f:Fld}:PP 123 [f.v,pv p] V (.bool (!qBl d f.ty)):=by
 refine x123 ?_;refine c124.call ⟨_,rfl,λh1=>?_,λh1=>⟨some b,qBR k,(c125 h).call ⟨_,rfl,?_,rfl⟩⟩⟩;·unfold qBl;grind
 grind[qBl,qAT,qAz]
theorem c121{p t:Nat}(k:V p=some (cell (.map (some b)) t))(h:qBs V b (tmap d)){l:Sl}{xs:List Fld}(g:qAc V l 2 (xs.map Fld.row)):PP 121 [l.v,pv p] V (.bool (qBK d xs)):=by
 refine x121 ?_;refine(c122 (first:=[]) (caps:=[pv p]) g Tryz.call123 (λf=>!qBl d f.ty) (λf _=>c123 k h)).call ⟨_,rfl,?_,rfl⟩;grind[qBK]
theorem c127{p q t k:Nat}(g:V p=some (cell (.map (some b)) t))(f:V q=some (cell (.func (.func 121) #[] #[pv p]) k))(h:qBs V b (tmap d)){y:Ty}(u:Ty.Ok V y):
  PP 127 [y.v,pv q] V (.bool (!qBK d y.fields)):=by
 refine x127 ?_;exact⟨.func (.func 121) #[] #[pv p],rfl,qBR f,121,_,_,rfl,Tryz.call121,(c121 g h u.fields).callv (first:=[]) (caps:=[pv p]) ⟨_,rfl,rfl,rfl⟩⟩
theorem qCI:qJD d=true↔qAG d=true/\qBK d d.globals=true/\(∀(i:Nat)(x:Ty),d.types[i]?=some x->qDL d x.name=(i:Int))/\∀x∈d.types,qBK d x.fields=true:=by
 unfold qJD;rw[zC,zC,qDO,and_assoc];refine and_congr_right λ_=>and_congr_right λ_=>⟨λh=>⟨λi x k=>?_,λx k=>?_⟩,λh i x k=>?_⟩;·grind
 ·obtain⟨i,g,rfl⟩:=List.mem_iff_getElem.1 k;have:=h i _ (yu g);simp_all
 grind
def TyM(V':Mem)(d:Ds)(mo:Option Nat):Prop:=(qJD d=true/\∃b,mo=some b/\qBs V' b (tmap d))∨(¬qJD d=true/\mo=none)
theorem c78[Tab V](h:Ds.Ok V d):Tri xE 78 #[d.v] V λr V'=>∃N,r=.returned (.map N)/\V.sub V'/\TyM V' d N:=by
 refine x78 ?_;have no:∀{V1:Mem},V.sub V1->¬qJD d=true->(∃N,xH (.map none)=.returned (.map N)/\V.sub V1/\TyM V1 d N):=λf k=>⟨none,rfl,f,.inr ⟨k,rfl⟩⟩;refine(c120 h).call ⟨_,rfl,λhv=>?_,λhv=>no (Mem.sub.refl _) λk=>hv (qCI.1 k).1⟩;refine GenK.makeMap λb T=>⟨some b,rfl,?_⟩;have f:∀o,V.sub (V.set b o):=λo=>Zn T _;refine qAM (mk:=.map) (b0:=none) d.types.length (λi V1=>(∃o,V1=V.set b o)/\qBs V1 b (pmap d i)/\∀(j:Nat)(x:Ty),j<i->d.types[j]?=some x->qDL d x.name=(j:Int)) ⟨⟨_,rfl⟩,(qBs.made V b).congr λk=>?_,λ_ _ h=>absurd h (Nat.not_lt_zero _)⟩ ?_;·grind[pmap]
 rintro i b1 _ J hi ⟨⟨o,rfl⟩,hm,U⟩ hJ;have g:=h.sub (f o);refine⟨λt=>?_,λL=>?_⟩
 ·obtain⟨x,hxm,M,hdr,hl,X,hz,Z⟩:=g.types.get t;have hle:=idxT_le M;refine⟨X,hz,t,_,_,Z,qBH.str wb xw qGa hm ?_⟩;by_cases hlo:qDL d x.name<(i:Int)
  ·have e:pmap d i x.name=some (.int .i64 (qDL d x.name)):=by grind[pmap]
   rw[e];refine⟨_,_,rfl,λ_=>no (f o) λk=>?_,λk=>absurd rfl k⟩;grind[qCI]
  ·have e:pmap d i x.name=none:=by grind[pmap]
   rw[e];refine⟨0,false,rfl,(λk=>by cases k),λ_=>qEb.str wb xw hm λo2 B=>⟨g.types.succ t,hJ hl _ _ ⟨⟨o2,by rw[Mem.set_set]⟩,B.congr λk=>?_,λj y hj K=>?_⟩⟩⟩
   ·by_cases S:k=x.name
    ·subst S;rw[if_pos rfl];grind[pmap,qDL]
    ·rw[if_neg S];unfold pmap;by_cases hki:qDL d k=(i:Int);·grind[idxT_at,absurd]
     grind
   grind
 ·have Y:=(g.types.done L).2;have C:qBs (V.set b o) b (tmap d):=hm.congr λk=>pmap_all i Y;have u:∀(j:Nat)(x:Ty),d.types[j]?=some x->qDL d x.name=(j:Int):=λj x M=>U j x (by grind) M;intro p X;have O:=Zn X (cell (.map (some b)) 158);have z:=Mem.set_same (V.set b o) p (cell (.map (some b)) 158);have H:=C.sub O;have A:=g.sub O;refine(c121 z H A.globals).call ⟨_,rfl,λD=>λq hq=>?_,λD=>no ((f o).trans O) λk=>D (qCI.1 k).2.1⟩;have G:=Zn hq (cell (.func (.func 121) #[] #[pv p]) 204);have E:=Mem.set_same ((V.set b o).set p (cell (.map (some b)) 158)) q (cell (.func (.func 121) #[] #[pv p]) 204);have I:=A.sub G;refine(c126 (first:=[]) (caps:=[pv q]) I.types Tryz.call127 (λy=>!qBK d y.fields) (λy K=>c127 (G _ _ z) E (H.sub G) (I.typesOk y K))).call ⟨_,rfl,λha=>no ((f o).trans (O.trans G)) λk=>?_,λha=>⟨_,qBR (G _ _ z),some b,rfl,(f o).trans (O.trans G),.inl ⟨qCI.2 ⟨hv,D,u,λx M=>?_⟩,b,rfl,H.sub G⟩⟩⟩;·grind[List.any_eq_true,qCI]
  simp_all
theorem c175{mo:Option Nat}(r:TyM V d mo)(G:qJD d=true)(hm:Mm.Ok V m){g:KB}(N:qBl d g=true){v:Int}:PP 175 [.map mo,m.v,.string g,.int .i64 v] V (.bool (qAA d m g v)):=by
 refine x175 ?_;have Z:=hm.nodes.n_eq;obtain⟨b,rfl,q⟩:∃b,mo=some b/\qBs V b (tmap d):=by
  rcases r with⟨-,h⟩|⟨h,-⟩;·exact h
  simp_all
 have ret:∀{x y:Bool},x=y->xH (.bool x)=.returned (.bool y)/\V=V:=λh=>by simp_all
 refine⟨λh1=>?_,λh1=>⟨λh2=>?_,λh2=>?_⟩⟩;·grind[qAA,qAT]
 ·grind[qAA,qAT,qAz,inr]
 ·unfold qAA;rw[if_neg (show ¬g=qAT from h1),if_neg (show ¬g=qAz from h2)];refine⟨λh3=>ret (decide_eq_true (.inl h3)).symm,λh3=>⟨λh4=>⟨λe=>?_,λe=>ret ?_⟩,λh4=>ret ?_⟩⟩
  ·obtain⟨i,rfl⟩:∃i:Nat,v=(i:Int)+1:=⟨(v-1).toNat,by omega⟩;have H:((i:Int)+1-1).toNat=i:=by omega
   obtain⟨x,J,Y,-,O,u,A,f⟩:=hm.nodes.get (i:=i) (by omega);have z:=qAf (n:=i*2) u;have j:IR ((i:Int)+1-1):=⟨by omega,by have:=(hm.nodes.succ (i:=i) (by omega)).2;omega⟩;have t:qBd d g=true:=by
    grind[qBl,qAT,qAz]
   rw[H];refine⟨j,u,by omega,by omega,z,_,_,f,qBH.str1 wb xw qGa q ?_⟩;unfold tmap;rw[if_pos t];refine⟨_,rfl,qFy (k:=1) f (by decide),z,u,by omega,by omega,j,ret ?_⟩;grind
  ·grind
  grind
theorem c130{mo:Option Nat}(H:TyM V d mo)(G:qJD d=true)(hm:Mm.Ok V m){l:Sl}{xs:List Fld}(f:qAc V l 2 (xs.map Fld.row))(N:qBK d xs=true){s:Sl}{vs:List Int}(hv:qAc V s 1 (vs.map qAe)):PP 130 [.map mo,m.v,l.v,s.v] V (.bool (qAi d m xs vs)):=by
 refine x130 ?_;have h1:=f.n_eq;have h2:=hv.n_eq;refine⟨λZ=>?_,λZ=>?_⟩
 ·refine qAM (mk:=.bool) (b0:=false) vs.length (λi V1=>V=V1/\AllI (λi v=>qAA d m (tyAt xs i) v) vs i) ⟨rfl,AllI.zero⟩ ?_;rintro i b V1 J X ⟨rfl,q⟩ Y;refine⟨λh=>?_,λO=>?_⟩
  ·obtain⟨x,t,B,-,C,A,I,g⟩:=f.get h;obtain⟨y,M,e,-,u,z,j,k⟩:=hv.get (i:=i) (by omega);have L:tyAt xs i=x.ty:=by grind[tyAt]
   have r:qBl d x.ty=true:=za.1 N x t;refine⟨A,I,h,_,_,g,z,j,by omega,_,k,(c175 H G hm r).call ⟨_,rfl,λh3=>⟨f.succ h,Y u _ _ ⟨rfl,q.succ e (by grind)⟩⟩,λh3=>?_⟩⟩;unfold qAi;rw[qHN e (by grind),wa];simp_all
  ·unfold qAi;rw[q.all (by omega),decide_eq_true (by omega)];simp_all
 ·unfold qAi;rw[decide_eq_false (by omega)];simp_all
theorem c129(h:Ds.Ok V d){p t:Nat}(k:V p=some (.cells d.row.toArray t (0,0))){n:Nd}:PP 129 [n.v,pv p] V (.bool (!qDK d n)):=by
 refine x129 ?_;have g:=h.types.n_eq;refine⟨λh1=>?_,λh1=>⟨by simp,_,qAd k 1 1 (by simp[Ds.row]),?_⟩⟩;·unfold qDK;rw[decide_eq_false (by omega)];exact⟨rfl,rfl⟩
 ·refine⟨?_,rfl⟩;grind[qDK]
theorem c131(h:Ds.Ok V d)(hm:Mm.Ok V m){mo:Option Nat}(H:TyM V d mo)(y:qJD d=true){p q r t J t3:Nat}(G:V p=some (cell (.map mo) t))(N:V q=some (.cells m.row.toArray J (0,0)))(Z:V r=some (.cells d.row.toArray t3 (0,0))){n:Nd}(Y:n∈m.nodes)(z:qDK d n=true):
  PP 131 [n.v,pv p,pv q,pv r] V (.bool (!qAi d m (qAt d n.ty) n.f)):=by
 refine x131 ?_;obtain⟨h1,h2⟩:=of_decide_eq_true z;have j:=h.types.n_eq;obtain⟨i,e⟩:∃i:Nat,n.ty=(i:Int):=⟨n.ty.toNat,by omega⟩;obtain⟨x,k,O,-,I,g,M,u⟩:=h.types.get (i:=i) (by omega);have A:=qAU O e;rw[A];refine⟨_,qBR G,_,_,qAd N 0 2 (by simp[Mm.row]),by simp,_,qAd Z 1 1 (by simp[Ds.row]),g,h1,by omega,?_⟩;rw[e];refine⟨qAf g,_,_,u,(c130 H y hm (h.typesOk x k).fields ((qCI.1 y).2.2.2 x k) (hm.nodesOk n Y).rows).call ⟨_,rfl,rfl,rfl⟩⟩
theorem c79(h:Ds.Ok V d)(hm:Mm.Ok V m){mo:Option Nat}(N:TyM V d mo):Pur xE 79 [.map mo,d.v,m.v] V (.bool (qAy d m)):=by
 refine Pur.mk ?_;refine x79 ?_;have e:=hm.nodes.n_eq;rcases N with⟨u,b,rfl,J⟩|⟨u,rfl⟩;rotate_left
 ·refine⟨λ_=>?_,λk=>absurd rfl k⟩;unfold qAy;rw[(Bool.not_eq_true _).mp u];exact⟨rfl,Mem.sub.refl _⟩
 refine⟨(λk=>by cases k),λ_=>⟨λh1=>?_,λh1=>?_⟩⟩;·unfold qAy;rw[decide_eq_false (by omega:¬m.nodes.length<=4096)];simp_all[wa,Bool.false_and,trivial,Mem.sub.refl]
 intro p Z;have y:=Zn Z (.cells d.row.toArray 30 (0,0));have z:=Mem.set_same V p (.cells d.row.toArray 30 (0,0));have t:=hm.sub y;refine(c128 (first:=[]) (caps:=[pv p]) t.nodes Tryz.call129 (λn=>!qDK d n) (λn e=>c129 (h.sub y) z)).call ⟨_,rfl,λh2=>?_,λh2=>?_⟩;·grind[qAy,qDK]
 have x:m.nodes.all (qDK d)=true:=by
  simp_all
 have H:TyM (V.set p (.cells d.row.toArray 30 (0,0))) d (some b):=.inl ⟨u,b,rfl,J.sub y⟩;have j:=h.sub y;refine⟨nofun,_,qAd z 2 1 (by simp[Ds.row]),(c130 H u t j.globals (qCI.1 u).2.1 t.globals).call ⟨_,rfl,λh3=>?_,λh3=>?_⟩⟩;rotate_left;·grind[qAy]
 intro q Y;have O:=Zn Y (cell (.map (some b)) 158);intro r A;have G:=Zn A (.cells m.row.toArray 34 (0,0));have g:=O.trans G;refine(c128 (first:=[]) (caps:=[pv q,pv r,pv p]) (t.sub g).nodes Tryz.call131 (λn=>!qAi d m (qAt d n.ty) n.f) (λn e=>?_)).call ⟨_,rfl,?_,y.trans g⟩;·refine c131 (j.sub g) (t.sub g) (mo:=some b) (.inl ⟨u,b,rfl,(J.sub y).sub g⟩) u (G _ _ mss) mss (g _ _ z) e (za.1 x n e)
 grind[qAy,qAi]
theorem c44[Tab V](h:Ds.Ok V d)(hm:Mm.Ok V m):Pur xE 44 [d.v,m.v] V (.bool (qAy d m)):=by
 refine Pur.mk ?_;refine x44 ?_;refine Tri.mono (c78 h) ?_;rintro _ V' ⟨g,rfl,k,f⟩;exact⟨g,rfl,(c79 (h.sub k) (hm.sub k) f).call ⟨_,rfl,rfl,k⟩⟩
end
theorem chk_none{d:Ds}(h:(fltR (qIj d)).2.2=0):qIj d=none:=by
 have key:∀{a:Option Flt},(∀r,a=some r->r.2.2≠0)->(fltR a).2.2=0->a=none:=λ{a} u h=>by
  cases a with
  |none=>rfl
  |some r=>exact absurd h (u r rfl)
 refine key (λr k=>?_) h;unfold qIj at k;have g:∀{a b:Option Flt} {r},a.or b=some r->a=some r∨b=some r:=λ{a b r} h=>by
  cases a with
  |none=>exact .inr (by simpa using h)
  |some x=>exact .inl (by simpa using h)
 rcases g k with h1|k;·exact(qIT d r h1).1
 rcases g k with h1|k;·exact(qJC d r h1).1
 rcases g k with h1|k;·exact(qLV d r h1).1
 rcases g k with h1|k
 ·unfold qCJ at h1;obtain⟨j,x,-,f⟩:=qDn h1;split at f;·rename_i t;cases f;exact t
  ·cases f
 ·exact(qLZ d r k).1
section
variable{V:Mem}{d:Ds}{m:Mm}
theorem c161(M:Ds.Ok V d)(hm:Mm.Ok V m)(G:qAw d m){g:KB}{v:Int}:PP 161 [d.v,m.v,.string g,.int .i64 v] V (.bool (qAA d m g v)):=by
 refine x161 ?_;have f:∀{b:Bool},qAA d m g v=b->(xH (.bool b)=.returned (.bool (qAA d m g v))/\V=V):=λe=>⟨by rw[e],rfl⟩;refine⟨λh=>⟨λa=>f ?_,λa=>f ?_⟩,λh=>⟨λh1=>⟨λa=>f ?_,λa=>f ?_⟩,λh1=>⟨λh0=>f ?_,λh0=>⟨λZ=>⟨λr=>?_,λr=>f ?_⟩,λZ=>f ?_⟩⟩⟩⟩;·unfold qAA;rw[if_pos (show g=qAT from h)];simp[show(-1099511627776:Int)<=v from a]
 ·unfold qAA;rw[if_pos (show g=qAT from h)];exact decide_eq_false λk=>a k.1
 ·unfold qAA;rw[if_neg (show ¬g=qAT from h),if_pos (show g=qAz from h1)];exact decide_eq_true (.inl a)
 ·unfold qAA;rw[if_neg (show ¬g=qAT from h),if_pos (show g=qAz from h1)];have a:¬v=0:=a;simp[a]
 ·unfold qAA;rw[if_neg (show ¬g=qAT from h),if_neg (show ¬g=qAz from h1)];exact decide_eq_true (.inl h0)
 ·have h0:¬v=0:=h0;have B:=hm.nodes.n_eq;have r:v<=(m.ns.n:Int):=r;obtain⟨k,L⟩:∃k:Nat,v-1=(k:Int):=⟨(v-1).toNat,by omega⟩;obtain⟨y,Y,C,-,-,q,D,H⟩:=hm.nodes.get (i:=k) (by omega);obtain⟨p1,T,p3,-⟩:=qAh G.mem;have E:=of_decide_eq_true (p3 y Y);obtain⟨j,O⟩:∃j:Nat,y.ty=(j:Int):=⟨y.ty.toNat,by omega⟩;have K:=M.types.n_eq;obtain⟨S,-,J,-,-,N,A,u⟩:=M.types.get (i:=j) (by omega);have z:V.rowp m.ns.p (k*2) 2=some [.int .i64 (j:Int),y.sl.v]:=by rw[<-O];exact H
  rw[L];refine⟨⟨by omega,by omega⟩,q,D,by omega,qAf q,_,_,z,N,A,by omega,qAf N,_,_,u,f ?_⟩;unfold qAA;rw[if_neg (show ¬g=qAT from h),if_neg (show ¬g=qAz from h1),L,xo,C];refine decide_eq_decide.2 ⟨λt=>?_,λt=>.inr ⟨by omega,by omega,?_⟩⟩
  ·rcases t with t|⟨-,-,t⟩;·exact absurd t h0
   ·simp only[zJ,zF]at t;obtain⟨x,X,I⟩:=idxT_at (d:=d) (k:=g) (i:=j) (by rw[<-t,O]);rw[J]at X;cases X;exact I
  ·simp only[zJ,zF];rw[O,<-(qBF p1).2.1 j S J];exact congrArg _ t
 ·have r:¬v<=(m.ns.n:Int):=r;have B:=hm.nodes.n_eq;have h0:¬v=0:=h0;unfold qAA;rw[if_neg (show ¬g=qAT from h),if_neg (show ¬g=qAz from h1)];exact decide_eq_false λt=>by rcases t with t|⟨-,t,-⟩<;>omega
 ·have Z:¬0<v:=Z;have h0:¬v=0:=h0;unfold qAA;rw[if_neg (show ¬g=qAT from h),if_neg (show ¬g=qAz from h1)];exact decide_eq_false λt=>by rcases t with t|⟨t,-,-⟩<;>omega
def qCr(d:Ds)(m:Mm)(nm:KB)(args:List Int):Int:=
 if qDa d nm<0 then 9 else match d.procs[(qDa d nm).toNat]? with
  |none=>9
  |some pr=>if args.length=pr.params.length then(if qAi d m pr.params args=true then 0 else 11)else 3
theorem qHd{nm:KB}{args:List Int}(h:qCr d m nm args=0):∃(i:Nat)(pr:Pr),qDa d nm=(i:Int)/\d.procs[i]?=some pr/\qAi d m pr.params args=true:=by
 unfold qCr at h;split at h;·cases h
 ·split at h;·cases h
  ·rename_i h1 pr k;split at h
   ·split at h;·exact⟨(qDa d nm).toNat,pr,by omega,k,by assumption⟩
    ·cases h
   ·cases h
def noPr:Pr:=⟨qAo [],qAx,[],qAo [],qAx,[],qAx,[]⟩
theorem c114(r:Ds.Ok V d)(hm:Mm.Ok V m)(G:qAw d m){l:Sl}{args:List Int}(A:qAc V l 1 (args.map qAe)){nm:KB}:
  PP 114 [d.v,m.v,.agg #[.string nm,l.v]] V (.tuple #[(if qCr d m nm args=0 then((d.procs[(qDa d nm).toNat]?).getD noPr)else noPr).v,.int .i64 (qCr d m nm args)]):=by
 refine x114 ?_;have bad:∀{e:Int},qCr d m nm args=e->e≠0->(xH (.tuple #[noPr.v,.int .i64 e])=.returned (.tuple #[(if qCr d m nm args=0 then((d.procs[(qDa d nm).toNat]?).getD noPr)else noPr).v,.int .i64 (qCr d m nm args)])/\V=V):=λe h=>⟨by rw[e,if_neg h],rfl⟩;refine(c160 r).call ⟨_,rfl,λh=>?_,λh=>?_⟩;·exact bad (by unfold qCr;rw[if_pos h]) (by decide)
 ·have h:¬qDa d nm<0:=h;rcases qAL (λt:Pr=>decide (t.name=nm)) d.procs with⟨h1,-⟩|⟨i,pr,h1,h2,-⟩
  ·have:qDa d nm=-1:=h1;omega
  have U:qDa d nm=(i:Int):=h1;have hn:=r.procs.n_eq;have hil:=(yv.1 h2).1;obtain⟨y,M,hy,-,-,hp,hz,q⟩:=r.procs.get (i:=i) (by omega);rw[h2]at hy;cases hy;have H:qCr d m nm args=if args.length=pr.params.length then(if qAi d m pr.params args=true then 0 else 11)else 3:=by unfold qCr;rw[if_neg h,U,xo,h2]
  have N:=(r.procsOk pr M).params;have hln:=N.n_eq;have han:=A.n_eq;rw[U]at bad⊢;refine⟨hp,hz,by omega,_,_,_,_,_,q,λu=>?_,λu=>?_⟩
  ·have u:(l.n:Int)=(pr.ps.n:Int):=u;have Z:args.length=pr.params.length:=by omega
   rw[if_pos Z]at H;refine qAM (mk:=λk:Int=>.int .i64 k) (b0:=0) args.length (λj V1=>V1=V/\∀(i:Nat) f v,i<j->pr.params[i]?=some f->args[i]?=some v->qAA d m f.ty v=true) ⟨rfl,λi f v h=>by omega⟩ ?_;rintro j b V1 J hj ⟨rfl,z⟩ hJ;refine⟨λx=>?_,λL=>?_⟩
   ·obtain⟨v,hvm,hv,-,X,B,C,D⟩:=A.get x;obtain⟨f,hfm,I,-,-,Y,E,K⟩:=N.get (i:=j) (by omega);refine⟨B,C,x,v,D,Y,E,by omega,qAf Y,_,_,K,(c161 r hm G).call ⟨_,rfl,λS=>⟨A.succ x,hJ X _ _ ⟨rfl,λi g w hi' T hw=>?_⟩⟩,λS=>bad ?_ (by decide)⟩⟩
    ·rcases Nat.lt_or_ge i j with h3|h3;·exact z i g w h3 T hw
     ·obtain rfl:i=j:=by omega
      rw[I]at T;cases T;rw[hv]at hw;cases hw;exact S
    ·rw[H,if_neg λk=>S ((qAD.1 k).2 j f v I hv)]
   ·have hd2:=(A.done L).2;have O:qAi d m pr.params args=true:=qAD.2 ⟨Z.symm,λi f v I hv=>z i f v (by have:=(yv.1 hv).1;omega) I hv⟩;rw[if_pos O]at H;refine⟨?_,rfl⟩;rw[H,if_pos rfl,xo,h2];rfl
  ·have u:¬(l.n:Int)=(pr.ps.n:Int):=u;exact bad (by rw[H,if_neg (by omega)]) (by decide)
noncomputable def qAF(d:Ds)(m:Mm)(F:Int):Int:=by
 classical
 exact if qAw d m then(if F<0 then 2 else if 1048576<F then 2 else 0)else 1
theorem c71[Tab V](g:Ds.Ok V d)(hm:Mm.Ok V m){F:Int}:PP 71 [d.v,m.v,.int .i64 F] V (.int .i64 (qAF d m F)):=by
 refine x71 ?_;have bad:¬qAw d m->(xH (.int .i64 1)=.returned (.int .i64 (qAF d m F))/\V=V):=λh=>⟨by unfold qAF;rw[if_neg h],rfl⟩;refine(c113 scopeC newC g).call ?_;by_cases hv:qAG d=true
 ·rw[if_pos hv];refine⟨_,_,_,rfl,λh0=>(c44 g hm).call ⟨_,rfl,λh1=>?_,λh1=>bad λk=>h1 k.mem⟩,λh0=>bad λk=>h0 (by rw[k.chk];rfl)⟩;have G:qAw d m:=⟨hv,chk_none h0,h1⟩;refine⟨λh=>⟨?_,rfl⟩,λh=>⟨λh2=>⟨?_,rfl⟩,λh2=>⟨?_,rfl⟩⟩⟩;·unfold qAF;rw[if_pos G,if_pos h]
  ·unfold qAF;rw[if_pos G,if_neg h,if_pos h2]
  ·unfold qAF;rw[if_pos G,if_neg h,if_neg h2]
 ·rw[if_neg hv];exact⟨_,_,_,rfl,λh=>absurd h (by decide),λ_=>bad λk=>hv k.valid⟩
end
theorem loop3u{V:Mem}{β h:Type}{mk:β->Value}{mc:h->Value}{B:β->h->Int->Mem->(KZ)->Prop}{b0:β}{c0:h}(inj:∀x y,mk x=mk y->x=y)(t:∀x y,mc x=mc y->x=y)(len:Nat)(St:Nat->β->h->Mem->Prop)(h0:St 0 b0 c0 V)
  (step:∀(i:Nat)(b:β)(c:h) V1 J,i<=len->St i b c V1->(i<len->∀k g V2,St (i+1) k g V2->J [mk k,mc g,.int .i64 ((i:Int)+1)] V2)->B b c (i:Int) V1 J):
  ∃(I:Nat->KZ)(j:Nat),I j [mk b0,mc c0,.int .i64 0] V/\∀n V1,∀b:β,∀c:h,∀v:Int,I n [mk b,mc c,.int .i64 v] V1->∀J:KZ,(∀m ys f,m<n->I m ys f->J ys f)->B b c v V1 J:=by
 refine⟨LI len λi xs V=>∃b c,xs=[mk b,mc c,.int .i64 i]/\St i b c V,len,LI.start ⟨b0,c0,rfl,h0⟩,?_⟩;rintro n V1 b c v ⟨i,rfl,r,k,g,z,q⟩ J e;simp only[List.cons.injEq,Value.int.injEq,true_and,and_true]at z;obtain⟨H,G,rfl⟩:=z;cases inj _ _ H;cases t _ _ G;exact step i b c V1 J r q λu k g V2 h2=>LI.next e u ⟨k,g,rfl,h2⟩
theorem c72{V:Mem}{m:Mm}(hm:Mm.Ok V m)(h1:m.globals.length<=2147483648)(h2:m.nodes.length<=4096)(h3:∀n∈m.nodes,n.f.length<=2147483648):Tri xE 72 #[m.v] V λe V'=>∃gs ns nd,e=.returned (.agg #[.slice gs.p gs.n gs.c,.slice ns.p ns.n ns.c])/\Lay V V' gs ns qAx nd (qBZ m):=by
 refine x72 ?_;refine Tri.mono (c42 hm.globals h1) ?_;rintro _ V1 ⟨gs,rfl,u⟩;refine⟨gs,rfl,loop3u (mk:=λs:Sl=>.slice s.p s.n s.c) (mc:=λs:Sl=>.slice s.p s.n s.c) (b0:=gs) (c0:=⟨none,0,0⟩) qAH qAH m.nodes.length (λi b ns V2=>b=gs/\∃nd,Lay V V2 gs ns qAx nd ⟨m.globals,(m.nodes.take i).map λn=>(n.ty,n.f),0,0,[]⟩/\nd.length=i) ⟨rfl,[],⟨u,Own.nil u.sub _ _,Own.nil u.sub _ _,(λn z=>by cases z),rfl,(λn z=>by cases z),(λi j n X c h=>by cases h)⟩,rfl⟩ ?_⟩;rintro i b ns V2 J B ⟨rfl,nd,L,y⟩ N;have r:=hm.nodes.sub L.sub;refine⟨λk=>?_,λq=>?_⟩
 ·obtain⟨x,g,Z,-,H,Y,O,t⟩:=r.get k;refine⟨Y,O,k,x.ty,x.sl,t,Tri.mono (c42 ((hm.nodesOk x g).rows.sub L.sub) (h3 x g)) ?_⟩;rintro _ C ⟨fs,rfl,A⟩;refine⟨fs,rfl,λD G=>L.new (n:=⟨x.ty,fs,x.f⟩) A G rfl rfl (by omega) λs' V' I _=>⟨s',rfl,r.succ k,N H _ _ _ ⟨rfl,nd++[⟨x.ty,fs,x.f⟩],?_,by rw[zw,y];rfl⟩⟩⟩;rw[w8,Z];simpa using I
 ·have M:=(r.done q).2;rw[List.take_of_length_le M]at L;exact⟨b,ns,nd,rfl,L⟩
end Go.Proofs
namespace Go.Sx
open Go
section
variable{P:Program}{n:Nat}{ops:Array Oper}{i:Nat}{o:Oper}{rest:List Nat}{Q:Exit->Act->World->Prop}{a:Act}{w:World}
theorem qCk(h:o.guard=none):yO o (yielded ops a.tmps)=true:=by simp[yO,h]
theorem step_value{v:Value}(g:ops[i]?=some o)(f:o.guard=none)(h:(execOp a.eval o).run P w=.ok (.value v) w)(k:wpOpsIn (qAK none) n P ops Q rest (a.put o.dst v) w):wpOpsIn (qAK none) n P ops Q (i::rest) a w:=by
 rw[wpOpsIn_cons];unfold wpOpIn;simp only[g];rw[if_pos (qCk f)];refine⟨λ_ _=>trivial,?_⟩;show w9 _ _ _ _ _ _ _ ((execOp a.eval o).run P w);rw[h];exact k
theorem step_defer{d:Deferred}(g:ops[i]?=some o)(f:o.guard=none)(h:(execOp a.eval o).run P w=.ok (.defer d) w)(k:wpOpsIn (qAK none) n P ops Q rest (({a with defers:=d::a.defers}:Act).put o.dst undef) w):wpOpsIn (qAK none) n P ops Q (i::rest) a w:=by
 rw[wpOpsIn_cons];unfold wpOpIn;simp only[g];rw[if_pos (qCk f)];refine⟨λ_ _=>trivial,?_⟩;show w9 _ _ _ _ _ _ _ ((execOp a.eval o).run P w);rw[h];exact k
theorem step_call{f:FuncId}{args:Array Value}{V:Mem}{R:Ending->Mem->Prop}(t:ops[i]?=some o)(u:o.guard=none)(k:(execOp a.eval o).run P w=.ok (.enter f args) w)(z:V.le w)(H:Tri P f args V R)
  (y:∀g V' w',R (.panicked g) V'->Frm V w V' w'->Q (.panic g) a w') (x:∀v V' w',R (.returned v) V'->Frm V w V' w'->wpOpsIn (qAK none) n P ops Q rest (a.put o.dst v) w') (j:∀V',¬R .outgrown V'):wpOpsIn (qAK none) n P ops Q (i::rest) a w:=by
 rw[wpOpsIn_cons];unfold wpOpIn;simp only[t];rw[if_pos (qCk u)];refine⟨λ_ _=>trivial,?_⟩;show w9 _ _ _ _ _ _ _ ((execOp a.eval o).run P w);rw[k];refine⟨λh=>by simp[qAK,wF]at h,qEK.2 (qDp (H w z) ?_)⟩;grind
theorem run_callv{c:Call}{fv:Operand}{f:FuncId}{first caps args:Array Value}(k:o.op=.call c)(g:c.callee=.value fv)(t:a.eval fv=.func (.func f) first caps)(h:c.args.map a.eval=args)(u:∀args w,(callFunc f args).run P w=.ok (.enter f args) w):
  (execOp a.eval o).run P w=.ok (.enter f (first++args++caps)) w:=by
 grind[execOp,resolve,yF,invoke]
def Rec(u:FrameMode)(v:Value)(k:FrameMode):Prop:=
 match u with
 |.panicking ({v:=g,recovered:=false,goexit:=false}::h)=>v=g/\k=.panicking ({v:=g,recovered:=true}::h)
 |_=>v=.nilIface/\k=u
end
section
variable{P:Program}{n:Nat}
theorem qIR{F:Fence}{c:Code}{Q t:Exit->Act->List Frame->World->Prop}{a:Act}{cs:List Frame}{w:World}(h:c.wpSIn F n P Q a cs w)(u:∀e a cs w,Q e a cs w->t e a cs w):c.wpSIn F n P t a cs w:=
 λb k z y x g=>let⟨e,j,f,w',v,q,r⟩:=h b k z y x g;⟨e,j,f,w',v,u _ _ _ _ q,r⟩
theorem wpSIn_head{x:Code}:∀{c:Code}{rest:List Code}{Q:Exit->Act->List Frame->World->Prop}{a:Act}{cs:List Frame}{w:World},flat c=x::rest->x.wpSIn (qAK none) n P (Exit.thenS (λa cs w=>wpL none n P (λe z w'=>Q e z cs w') rest a w) Q) a cs w->c.wpSIn (qAK none) n P Q a cs w:=by
 intro c;induction c with
 |seq p q f j=>
  intro rest Q a cs w g h;rw[flat]at g;cases t:flat p with
  |nil=>
   exfalso;have:∀c:Code,flat c≠[]:=λc=>by
    induction c with
    |seq a b u r=>rw[flat];simp[u]
    |_=>simp[flat]
   exact this p t
  |cons y v=>
   rw[t,List.cons_append]at g;obtain⟨rfl,rfl⟩:y=x/\v++flat q=rest:=by
    simp_all
   refine wpSIn_seq (f t (qIR h ?_));intro e a cs w k;cases e with
   |normal=>
    refine qDb ?_ (qGb k);intro e a w k;cases e with
    |normal=>exact wpSIn_of_wpIn rfl (qCO k)
    |_=>exact k
   |_=>exact k
 |_=>
  intro rest Q a cs w g h;rw[flat]at g
  ·injection g with h1 h2
   subst h1;subst h2;refine qIR h ?_;intro e a cs w k;cases e with
   |normal=>exact k
   |_=>exact k
  all_goals (intro x y;nofun)
variable{ops:Array Oper}{i:Nat}{o:Oper}{rest:List Nat}{Q:Exit->Act->World->Prop}{a:Act}{w:World}
theorem qKu{f:FuncId}{fn:Func}{x c:Code}{rest:List Code}{id:Nat}{t y:Oper}{args:Array Value}{u:FrameMode}{R:Ending->FrameMode->World->Prop}{at0:Array TypeId}{t3 t6:Nat}(A:P.funcs[f]?=some fn)(I:fn.body=some c)(q:flat c=x::rest)(M:x=.region id #[t,y] false)
  (h0:t.op=.call {callee:=.builtin .recover,args:=#[],argTypes:=at0}) (Y:t.dst=some t6) (L:t.guard=none) (h1:y.op=.assign (.tmp t6)) (d1:y.dst=some t3) (X:y.guard=none) (C:t6<fn.ntmps) (D:args.size<=fn.ntmps)
  (H:∀(v:Value)(z:FrameMode),Rec u v z->
   wpL none n P (λe j w'=>(e=.normal∨e=.ret)/\j.defers=[]/\∃v,(results fn j.tmps).run P w'=.ok v w'/\R (.returned v) z w') rest ((({tmps:=args++wI (fn.ntmps-args.size) undef,defers:=[]}:Act).put (some t6) v).put (some t3) v) w):
  CallsDIn (qAK none) n P f args u w R:=by
 refine callsDIn_of_wpSIn A I trivial λk cs hu=>?_;refine wpSIn_head q ?_;subst M;refine wpSIn_region ?_;have J:∀a:Act,(execOp a.eval t).run P w=.ok .recover w:=λa=>by
  unfold execOp;simp[h0,resolve,invoke,builtin]
 have G:∀a:Act,(execOp a.eval y).run P w=.ok (.value (a.eval (.tmp t6))) w:=λa=>by
  unfold execOp;simp[h1]
 have O:∀(v:Value)(z:FrameMode)(g:List Frame),Rec u v z->g={k with mode:=z}::cs->
   wpOpsSIn (qAK none) n P #[t,y] (Exit.thenS (λa g w=>wpL none n P (λe j w'=>bodyPostS P fn k cs R e j g w') rest a w) (bodyPostS P fn k cs R)) [1] (({tmps:=args++wI (fn.ntmps-args.size) undef,defers:=[]}:Act).put t.dst v) g w:=λv z g hv r=>by
  rw[wpOpsSIn.eq_2];simp only[vA,List.getElem?_cons_succ,wc];refine⟨λ_ _=>trivial,?_⟩;have hw:=qCk (ops:=#[t,y]) (a:=(({tmps:=args++wI (fn.ntmps-args.size) undef,defers:=[]}:Act).put t.dst v)) X;rw[if_pos hw,G];simp only;rw[wpOpsSIn.eq_1];show wpL none n P (λe j w'=>bodyPostS P fn k cs R e j g w') rest _ w;have e:(({tmps:=args++wI (fn.ntmps-args.size) undef,defers:=[]}:Act).put t.dst v).eval (.tmp t6)=v:=by
   rw[Y];exact qBG (a:={tmps:=args++wI (fn.ntmps-args.size) undef,defers:=[]}) (v:=v) (by simp;omega)
  rw[e,Y,d1];refine qDb ?_ (H v z hv);rintro e j w' ⟨B,h1,N,h2,h3⟩;rcases B with rfl|rfl;·exact⟨h1,z,r,N,h2,h3⟩
  ·exact⟨h1,z,r,N,h2,h3⟩
 show wpOpsSIn _ _ _ _ _ [0,1] _ _ _;rw[wpOpsSIn.eq_2];simp only[vA,wc];refine⟨λ_ _=>trivial,?_⟩;have hw:=qCk (ops:=#[t,y]) (a:=({tmps:=args++wI (fn.ntmps-args.size) undef,defers:=[]}:Act)) L;simp only at hw;rw[if_pos hw,J];simp only;unfold recoverD;split
 ·rename_i v g h;simp only at h;split at h
  ·rename_i N Z hm;simp only[zF,Prod.mk.injEq]at h;obtain⟨rfl,rfl⟩:=h;rw[hu]at hm;exact O _ _ _ (by unfold Rec;rw[hm];exact⟨rfl,rfl⟩) rfl
  ·cases h
 ·rename_i h;simp only at h;split at h;·cases h
  ·rename_i hm;refine O _ u _ ?_ (by cases k;simp only at hu;subst hu;rfl);rw[hu]at hm;unfold Rec;split;·exact absurd rfl (hm _ _)
   ·exact⟨rfl,rfl⟩
end
end Go.Sx
namespace Go.Proofs
open Go Go.Sx
set_option maxRecDepth 100000
section
variable{V:Mem}{R:RP}
noncomputable def c73a:List Code:=((qCK (qAs vB) []).drop 0).take 3
def w73a(a:KB)(b c d g i j k l o:Sl)(p:KB)(q:Sl)(r:Int):MR:=λV R=>TT 114 #[uD a b c d g i j k,uA #[uL l,uL o],uA #[uS p,uL q]] V λe V1=>∃s u y z A B,e=rT #[uA #[uS s,uL u,uS y,uL z,uL A],uI B]/\qAr [uS a,uL b,uL c,uL d,uL g,uL i,uL j,uL k] 30 V1 λC V2=>qAr [uL l,uL o] 34 V2 λD h=>qAr [uS p,uL q] 49 h λF f=>qAr [uP none] 124 f λG t=>qAr [uI 0,uI 0,uI 0,uI 0,uI 0] 54 t λH x=>qAr [uS s,uL u,uS y,uL z,uL A] 143 x λL v=>R (rT #[uI r,uP (qAa C 0),uP (qAa D 0),uP (qAa F 0),uP (qAa G 0),uP (qAa H 0),uI B,uP (qAa L 0),uB (!(decide (B=0)))]) v
theorem s73a{a:KB}{b c d g i j k l o:Sl}{p:KB}{q:Sl}{r:Int}{V:Mem}{R:KZ}(h:w73a a b c d g i j k l o p q r V (OV R)):Seg xE 37 c73a [(0,uD a b c d g i j k),(1,uA #[uL l,uL o]),(2,uA #[uS p,uL q]),(3,uI r)] [3,4,5,6,8,9,10,11,20] V R:=
 qBx (H:=hK 37) [(0,(.agg (.cons (.var .s 0) (.cons (.var .sl 1) (.cons (.var .sl 2) (.cons (.var .sl 3) (.cons (.var .sl 4) (.cons (.var .sl 5) (.cons (.var .sl 6) (.cons (.var .sl 7) .nil)))))))))),(1,(.agg (.cons (.var .sl 8) (.cons (.var .sl 9) .nil)))),(2,(.agg (.cons (.var .s 10) (.cons (.var .sl 11) .nil)))),(3,(.var (.i .i64) 12))] [uS a,uL b,uL c,uL d,uL g,uL i,uL j,uL k,uL l,uL o,uS p,uL q,uI r] rfl (by kernel_rfl) h
noncomputable def c73b:List Code:=((qCK (qAs vB) [3,0]).drop 0).take 1
def w73b(a b:Option Addr)(c:Int):MR:=λV R=>StT a 0 [uP none] V λV1=>StT b 0 [uI 0,uI 0,uI 0,uI 0,uI 0] V1 λV2=>R (rT #[uP a,uP b,uI c]) V2
theorem s73b{a b:Option Addr}{c:Int}{V:Mem}{R:KZ}(h:w73b a b c V (OV R)):Seg xE 37 c73b [(8,uP a),(9,uP b),(10,uI c)] [8,9,10] V R:=
 qBx (H:=hK 37) [(8,(.var .p 0)),(9,(.var .p 1)),(10,(.var (.i .i64) 2))] [uP a,uP b,uI c] rfl (by kernel_rfl) h
noncomputable def c73c:List Code:=((qCK (qAs vB) []).drop 4).take 1
def w73c(a:Int)(b c d g i:Option Addr)(j:Int)(k:Option Addr):MR:=λV R=>∃l o p q r s u y,V.rowp b ((0:Int).toNat*1) 8=some [uS l,uL o,uL p,uL q,uL r,uL s,uL u,uL y]/\∃z A,V.rowp c ((0:Int).toNat*1) 2=some [uL z,uL A]/\qAr [uS l,uL o,uL p,uL q,uL r,uL s,uL u,uL y,uL z,uL A,uI a,uI 0,uI 0,uI 0,z0] 128 V λB V1=>StT g 0 [uP (qAa B 0)] V1 λV2=>R (rT #[uP d,uP g,uP i,uI j,uP k]) V2
theorem s73c{a:Int}{b c d g i:Option Addr}{j:Int}{k:Option Addr}{V:Mem}{R:KZ}(h:w73c a b c d g i j k V (OV R)):Seg xE 37 c73c [(3,uI a),(4,uP b),(5,uP c),(6,uP d),(8,uP g),(9,uP i),(10,uI j),(11,uP k)] [6,8,9,10,11] V R:=
 qBx (H:=hK 37) [(3,(.var (.i .i64) 0)),(4,(.var .p 1)),(5,(.var .p 2)),(6,(.var .p 3)),(8,(.var .p 4)),(9,(.var .p 5)),(10,(.var (.i .i64) 6)),(11,(.var .p 7))] [uI a,uP b,uP c,uP d,uP g,uP i,uI j,uP k] rfl (by kernel_rfl) h
noncomputable def c73d:Array Oper:=qFf ((qCK (qAs vB) []).getD 6 .skip)
def w73d(a b c:Option Addr)(d:Int)(g:Option Addr):MR:=λV R=>∃i,V.rowp b ((0:Int).toNat*1) 1=some [uP i]/\∃j k l o p,V.rowp g ((0:Int).toNat*1) 5=some [uS j,uL k,uS l,uL o,uL p]/\¬a=none/\∃q,V.rowp a 1 1=some [uL q]/\R (rT #[uP b,uP c,uI d,uP i,uA #[uS j,uL k,uS l,uL o,uL p],uL q]) V
theorem s73d{a b c:Option Addr}{d:Int}{g:Option Addr}{V:Mem}{R:KZ}(h:w73d a b c d g V (OV R)):qDB xE 37 c73d 0 4 [(6,uP a),(8,uP b),(9,uP c),(10,uI d),(11,uP g)] [8,9,10,29,30,32] V R:=
 qAI (H:=hK 37) [(6,(.var .p 0)),(8,(.var .p 1)),(9,(.var .p 2)),(10,(.var (.i .i64) 3)),(11,(.var .p 4))] [uP a,uP b,uP c,uI d,uP g] rfl (by kernel_rfl) h
noncomputable def c73e:Array Oper:=qFf ((qCK (qAs vB) []).getD 6 .skip)
def w73e(a b:Option Addr)(c:Int):MR:=λV R=>¬b=none/\StT (qAa b 1) 0 [uI c] V λV1=>R (rT #[uP a,uP b]) V1
theorem s73e{a b:Option Addr}{c:Int}{V:Mem}{R:KZ}(h:w73e a b c V (OV R)):qDB xE 37 c73e 5 2 [(8,uP a),(9,uP b),(33,uI c)] [8,9] V R:=
 qAI (H:=hK 37) [(8,(.var .p 0)),(9,(.var .p 1)),(33,(.var (.i .i64) 2))] [uP a,uP b,uI c] rfl (by kernel_rfl) h
noncomputable def c73f:List Code:=((qCK (qAs vB) []).drop 7).take 1
def w73f(a b:Option Addr):MR:=λV R=>∃c,V.rowp a ((0:Int).toNat*1) 1=some [uP c]/\∃d g i j k,V.rowp b ((0:Int).toNat*1) 5=some [uI d,uI g,uI i,uI j,uI k]/\StT a 0 [uP c] V λV1=>V1.rowp b 0 5=some [uI d,uI g,uI i,uI j,uI k]/\StT b 0 [uI d,uI g,uI i,uI j,uI k] V1 λV2=>R (rT #[uP a,uP b,uI 0]) V2
theorem s73f{a b:Option Addr}{V:Mem}{R:KZ}(h:w73f a b V (OV R)):Seg xE 37 c73f [(8,uP a),(9,uP b)] [8,9,10] V R:=
 qBx (H:=hK 37) [(8,(.var .p 0)),(9,(.var .p 1))] [uP a,uP b] rfl (by kernel_rfl) h
noncomputable def c115a:List Code:=((qCK (qAs vC) []).drop 1).take 5
abbrev w115a_0(o:Sl)(p:Int)(h:Mem)(a:Option Addr)(k:LMP):Prop:=Ix o p (∃q r s,h.rowp o.p (p.toNat*3) 3=some [uI q,uI r,uI s]/\Br (0<r) (¬a=none/\¬(qAa a 2)=none/\∃u,h.rowp a 3 1=some [uI u]/\IR (u+1)/\¬a=none/\¬(qAa a 2)=none/\StT (qAa a 3) 0 [uI (u+1)] h λg=>IR (p+1)/\k [uI (p+1)] g) (IR (p+1)/\k [uI (p+1)] h))
def w115a(a b:Option Addr)(c:Value):MR:=λV R=>GenK xE (.binOp .neq 20 (.tmp 8) (.const .nilIface) 20) 4 (gv [(8,K.cast .r c)]) V λx V1=>∃d,x=uB d/\Br (d=true) (GenK xE (.typeAssert (.tmp 11) 20 201 true) 202 (gv [(11,K.cast .r c)]) V1 λx V2=>∃g i,x=.tuple #[uA #[uI g],uB i]/\Br (i=true) (¬a=none/\StT (qAa a 0) 0 [uI g] V2 λh=>∃j,h.rowp b ((0:Int).toNat*1) 1=some [uP j]/\N2 j (∃k,h.rowp j 13 1=some [uI k]/\¬a=none/\¬(qAa a 2)=none/\StT (qAa a 2) 0 [uI k] h λu=>∃l,u.rowp b ((0:Int).toNat*1) 1=some [uP l]/\N2 l (∃o,u.rowp l 14 1=some [uL o]/\Lp [uI 0] u λI n z=>∀p,I n [uI p] z->∀f:LMP,Nx I n f->Br (p<(o.n:Int)) (w115a_0 o p z a f) (R (rT #[]) z)))) (∃t x,K.cast .r c=.iface t x/\R (.panicked [{v:=.iface t x,recovered:=false}]) V2)) (∃g,V1.rowp b ((0:Int).toNat*1) 1=some [uP g]/\N2 g (∃i,V1.rowp g 13 1=some [uI i]/\¬a=none/\¬(qAa a 2)=none/\StT (qAa a 2) 0 [uI i] V1 λV2=>∃j,V2.rowp b ((0:Int).toNat*1) 1=some [uP j]/\N2 j (∃k,V2.rowp j 14 1=some [uL k]/\Lp [uI 0] V2 λI n h=>∀l,I n [uI l] h->∀f:LMP,Nx I n f->Br (l<(k.n:Int)) (w115a_0 k l h a f) (R (rT #[]) h))))
theorem s115a{a b:Option Addr}{c:Value}{V:Mem}{R:KZ}(h:w115a a b c V (OV R)):Seg xE 46 c115a [(0,uP a),(1,uP b),(2,K.cast .r c)] [] V R:=
 qBx (H:=hK 46) [(0,(.var .p 0)),(1,(.var .p 1)),(2,(.var .r 2))] [uP a,uP b,c] rfl (by kernel_rfl) h
end
end Go.Proofs
namespace Go.Proofs
open Go Go.Sx
attribute [local irreducible] Go.Sx.Tri
theorem GenK.neqNil{V:Mem}{x:Operand}{t:TypeId}{v:Value}{ty:Nat}{vals:Operand->Value}(k:vals x=.iface t v)(g:vals (.const .nilIface)=.nilIface){q:Value->Mem->Prop}(h:q (.bool true) V):GenK xE (.binOp .neq 20 x (.const .nilIface) 20) ty vals V q:=by
 intro w hw;refine⟨_,w,V,?_,Frm.refl hw,h⟩;have f:(Op.equal 20 (.iface t v) .nilIface).run xE w=.ok false w:=by
  rw[qCC,Op.equalIn];simp[zK,run_underlying vD]
 simp_all[execOp,binOp,eqGuard,zK]
theorem GenK.eqNilNil{V:Mem}{x:Operand}{ty:Nat}{vals:Operand->Value}(k:vals x=.nilIface)(g:vals (.const .nilIface)=.nilIface){q:Value->Mem->Prop}(h:q (.bool false) V):GenK xE (.binOp .neq 20 x (.const .nilIface) 20) ty vals V q:=by
 intro w hw;refine⟨_,w,V,?_,Frm.refl hw,h⟩;have f:(Op.equal 20 .nilIface .nilIface).run xE w=.ok true w:=by
  rw[qCC,Op.equalIn];simp[zK,run_underlying vD]
 simp_all[execOp,binOp,eqGuard,zK]
theorem GenK.assertOk{P:Program}{V:Mem}{x:Operand}{t u:TypeId}{ts:Array Field}{v:Value}{ty:Nat}{vals:Operand->Value}(h:P.underlying t=some (.struct ts))(k:vals x=.iface t v){q:Value->Mem->Prop}(g:q (.tuple #[v,.bool true]) V):GenK P (.typeAssert x u t true) ty vals V q:=by
 intro w hw;refine⟨_,w,V,?_,Frm.refl hw,g⟩;unfold execOp;simp[k,Instr.typeAssert,zK,run_underlying h]
noncomputable def dOp:Oper:={ dst:=none,op:=.move (.tmp 0),type:=0,pos:= "",after:=#[],guard:=none}
theorem run_makeFunc{P:Program}{a:Act}{o:Oper}{f:Fn}{first caps:Array Operand}{w:World}(h:o.op=.makeFunc f first caps):(execOp a.eval o).run P w=.ok (.value (.func f (first.map a.eval) (caps.map a.eval))) w:=by
 unfold execOp;simp[h,Instr.makeFunc]
theorem run_deferv{P:Program}{a:Act}{o:Oper}{c:Call}{fv:Operand}{f:Fn}{first caps:Array Value}{w:World}(k:o.op=.defer c)(g:c.callee=.value fv)(t:a.eval fv=.func f first caps)(h:c.args.map a.eval=#[]):
  (execOp a.eval o).run P w=.ok (.defer {target:=.fn f caps,args:=first++#[]}) w:=by
 simp_all[execOp,resolve,yF]
theorem qLQ{N:Nat}{a:Act}{l:List (Nat×Value)}(h:Has N a l){t:Nat}{v:Value}(g:t<N):Has N (a.put (some t) v) ((t,v)::l):=by
 refine⟨by simp[Act.put,h.1],λs u k=>?_⟩;rw[zd]at k;by_cases e:s=t
 ·subst e;simp only[beq_self_eq_true]at k;cases k;simp[Act.put,wY,h.1,g]
 ·have f:(s==t)=false:=by simpa using e
  rw[f]at k;have:=h.2 s u k;simp_all[Act.put,wY,Array.getElem?_setIfInBounds_ne,Ne.symm]
theorem qJV{F:Fence}{n:Nat}{P:Program}{f:FuncId}{args:Array Value}{u:FrameMode}{w:World}{R t:Ending->FrameMode->World->Prop}(h:CallsDIn F n P f args u w R)(k:∀e g w',R e g w'->t e g w'):CallsDIn F n P f args u w t:=
 ⟨h.1,λc cs h1 h2=>let⟨e,g,w',fr,a,b⟩:=h.2 c cs h1 h2;⟨e,g,w',fr,k _ _ _ a,b⟩⟩
def qER(a0 a1 a2 a3:Int):List Value:=[.int .i64 a0,.int .i64 a1,.int .i64 a2,.int .i64 a3,.int .i64 0]
structure PM (V0:Mem)(d:Ds)(p F b8 b9:Nat)(gs ns ls:Sl)(nd:List Nd)(V:Mem)(s:St)(c:Nat)(a0 a1 a2 a3:Int):Prop where
 ex:∃W,V0.sub W/\W p=none/\V p=some (.cells (qCb d F s.tk c s.cm gs ns ls).toArray 128 (0,0))/\Lay W V gs ns ls nd s/\W b8=some (cell (pv p) 124)/\W b9=some (.cells (qER a0 a1 a2 a3).toArray 54 (0,0))
section
variable{V0 V:Mem}{d:Ds}{p F b8 b9 c:Nat}{gs ns ls:Sl}{nd:List Nd}{s:St}{a0 a1 a2 a3 a0' a1' a2' a3':Int}
theorem PM.set9(h:PM V0 d p F b8 b9 gs ns ls nd V s c a0 a1 a2 a3)(k:b8≠b9)(g:V0 b9=none){x:Array Value}(f:x=(qER a0' a1' a2' a3').toArray):PM V0 d p F b8 b9 gs ns ls nd (V.set b9 (.cells x 54 (0,0))) s c a0' a1' a2' a3':=by
 obtain⟨W,h1,h2,h3,L,t,u⟩:=h.ex;have np:p≠b9:=λe=>by simp_all
 exact⟨W.set b9 (.cells x 54 (0,0)),h1.set g _,by rw[Zm np];exact h2,by rw[Zm np];exact h3,L.poke (by rw[u];simp) _,by rw[Zm k];exact t,by rw[Mem.set_same,f]⟩
theorem PM.set8(h:PM V0 d p F b8 b9 gs ns ls nd V s c a0 a1 a2 a3)(k:b8≠b9)(g:V0 b8=none){x:Array Value}(f:x=#[pv p]):PM V0 d p F b8 b9 gs ns ls nd (V.set b8 (.cells x 124 (0,0))) s c a0 a1 a2 a3:=by
 obtain⟨W,h1,h2,h3,L,t,u⟩:=h.ex;have np:p≠b8:=λe=>by simp_all
 exact⟨W.set b8 (.cells x 124 (0,0)),h1.set g _,by rw[Zm np];exact h2,by rw[Zm np];exact h3,L.poke (by rw[t];simp) _,by rw[Mem.set_same,f],by grind[Zm]⟩
theorem PM.at8(h:PM V0 d p F b8 b9 gs ns ls nd V s c a0 a1 a2 a3):V b8=some (cell (pv p) 124):=by
 obtain⟨W,h1,h2,h3,L,k,g⟩:=h.ex;exact L.sub _ _ k
theorem PM.at9(h:PM V0 d p F b8 b9 gs ns ls nd V s c a0 a1 a2 a3):V b9=some (.cells (qER a0 a1 a2 a3).toArray 54 (0,0)):=by
 obtain⟨W,h1,h2,h3,L,g,k⟩:=h.ex;exact L.sub _ _ k
theorem PM.em(h:PM V0 d p F b8 b9 gs ns ls nd V s c a0 a1 a2 a3):EM V0 d p F V s c:=by
 obtain⟨W,h1,h2,h3,L,k,g⟩:=h.ex;exact MA.narrow (W:=W) ⟨h2,gs,ns,ls,nd,h3,L⟩ h1
theorem PM.atp(h:PM V0 d p F b8 b9 gs ns ls nd V s c a0 a1 a2 a3):V p=some (.cells (qCb d F s.tk c s.cm gs ns ls).toArray 128 (0,0)):=by
 obtain⟨W,h1,h2,h3,L,k,g⟩:=h.ex;exact h3
theorem PM.log(h:PM V0 d p F b8 b9 gs ns ls nd V s c a0 a1 a2 a3):qAc V ls 3 (s.lg.map qFY):=by
 obtain⟨W,h1,h2,h3,L,k,g⟩:=h.ex;exact L.log.rows (λ_=>rfl) (by decide)
theorem qJp{l:List (Int×Int×Int)}{i:Nat}{x:Int×Int×Int}(h:l[i]?=some x):qAu (l.take (i+1))=qAu (l.take i)+if 0<x.2.1 then 1 else 0:=by
 unfold qAu;rw[w8,h,List.filter_append,zw];grind
theorem nodesN_le(l:List (Int×Int×Int))(i:Nat):qAu (l.take i)<=i:=by
 grind[qAu]
theorem lateTail(u:b8≠b9)(v:V0 b9=none)(P:PM V0 d p F b8 b9 gs ns ls nd V s c a0 a1 0 0){R:Ending->Mem->Prop}(T:∀V',PM V0 d p F b8 b9 gs ns ls nd V' s c a0 a1 s.cm (qAu s.lg)->R (rT #[]) V') :
    (∃H,V.rowp (sa b8) ((0:Int).toNat*1) 1=some [uP H]/\
 ¬H=none/\¬H=none/\∃A,V.rowp H ((13:Int).toNat*1) 1=some [uI A]/\
 ¬(some (⟨b9,0,none⟩:Addr))=none/\¬(qAa (sa b9) 2)=none/\StT (qAa (sa b9) 2) 0 [uI A] V λV2=>
 ∃G,V2.rowp (sa b8) ((0:Int).toNat*1) 1=some [uP G]/\
 ¬G=none/\¬G=none/\∃z,V2.rowp G ((14:Int).toNat*1) 1=some [uL z]/\
 ∃(I:Nat->KZ)(X:Nat),I X [uI 0] V2/\∀n h,∀k,I n [uI k] h->∀N:KZ,(∀m ys y,m<n->I m ys y->N ys y)->
 Br (k<(z.n:Int))
 (¬z.p=none/\0<=k/\k<(z.n:Int)/\∃v j Z,h.rowp z.p (k.toNat*3) 3=some [uI v,uI j,uI Z]/\
 Br (0<j)
 (¬(some (⟨b9,0,none⟩:Addr))=none/\¬(qAa (sa b9) 2)=none/\∃f,h.rowp (sa b9) ((3:Int).toNat*1) 1=some [uI f]/\
 IR (f+1)/\¬(some (⟨b9,0,none⟩:Addr))=none/\¬(qAa (sa b9) 2)=none/\StT (qAa (sa b9) 3) 0 [uI (f+1)] h λB=>
 IR (k+1)/\N [uI (k+1)] B)
 (IR (k+1)/\N [uI (k+1)] h))
 (R (rT #[]) h)):=by
  refine⟨_,qBR P.at8,nn,nn,_,qAd P.atp 13 1 (by simp[qCb]),nn,pnn,StT.at2 (off:=2) P.at9 (by simp[qER]) ?_⟩;have Y:=P.set9 (a0':=a0) (a1':=a1) (a2':=s.cm) (a3':=0) u v (x:=(((qER a0 a1 0 0).toArray.toList.take 2++[Value.int .i64 (s.cm:Int)]++(qER a0 a1 0 0).toArray.toList.drop (2+[Value.int .i64 (s.cm:Int)].length)).toArray)) (by simp[qER]);refine⟨_,qBR Y.at8,nn,nn,ls,qAd Y.atp 14 1 (by simp[qCb]),qIs s.lg.length (λi h=>PM V0 d p F b8 b9 gs ns ls nd h s c a0 a1 s.cm (qAu (s.lg.take i))) Y ?_⟩;intro i h J U r M;refine⟨λg=>?_,λO=>?_⟩
  · have t:=r.log;obtain⟨x,-,C,-,q,D,E,e⟩:=t.get g;have hc:=t.cap;have hf:=t.fit;have K:=t.n_eq;have S:=nodesN_le s.lg i;have L:=qJp C;refine⟨D,E,g,_,_,_,e,λh0=>⟨nn,pnn,_,qAd r.at9 3 1 (by simp[qER]),⟨by omega,by omega⟩,nn,pnn,StT.at2 (off:=3) r.at9 (by simp[qER]) ⟨t.succ g,M q _ ?_⟩⟩,λh0=>⟨t.succ g,M q _ ?_⟩⟩
    · rw[if_pos h0]at L;exact r.set9 u v (by rw[L];simp[qER])
    simp_all
  · have hd:=(r.log.done O).2;grind
def fltVE(e:Int):Value:=.iface 201 (.agg #[.int .i64 e])
theorem lateNil(g:b8≠b9)(f:V0 b9=none)(P:PM V0 d p F b8 b9 gs ns ls nd V s c 0 a1 0 0):Seg xE 46 c115a [(0,pv b9),(1,pv b8),(2,.nilIface)] [] V λ_ V'=>PM V0 d p F b8 b9 gs ns ls nd V' s c 0 a1 s.cm (qAu s.lg):=by
 refine s115a (c:=.nilIface) ?_;unfold w115a;exact GenK.eqNilNil rfl rfl ⟨false,rfl,(λk=>by cases k),λ_=>lateTail (R:=λe V'=>∃vs:List Value,e=.returned (.tuple vs.toArray)/\PM V0 d p F b8 b9 gs ns ls nd V' s c 0 a1 s.cm (qAu s.lg)) g f P λV' h=>⟨[],rfl,h⟩⟩
theorem lateFlt(g:b8≠b9)(f:V0 b9=none){e:Int}(P:PM V0 d p F b8 b9 gs ns ls nd V s c 0 a1 0 0):Seg xE 46 c115a [(0,pv b9),(1,pv b8),(2,fltVE e)] [] V λ_ V'=>PM V0 d p F b8 b9 gs ns ls nd V' s c e a1 s.cm (qAu s.lg):=by
 refine s115a (c:=fltVE e) ?_;unfold w115a;refine GenK.neqNil rfl rfl ⟨true,rfl,λ_=>?_,λk=>absurd rfl k⟩;refine GenK.assertOk Tryz.underlying201 rfl ⟨e,true,rfl,λ_=>⟨nn,StT.at2 (off:=0) P.at9 (by simp[qER]) ?_⟩,λk=>absurd rfl k⟩;exact lateTail (R:=λx V'=>∃vs:List Value,x=.returned (.tuple vs.toArray)/\PM V0 d p F b8 b9 gs ns ls nd V' s c e a1 s.cm (qAu s.lg)) g f (P.set9 (a0':=e) (a1':=a1) (a2':=0) (a3':=0) g f (by simp[qER])) λV' h=>⟨[],rfl,h⟩
noncomputable def lateX:Code:=(flat (qAs vC)).getD 0 .skip
theorem lateBody:(vC).body=some (qAs vC):=by kernel_rfl
theorem lateX_eq:lateX=.region 0 #[(qFf lateX).getD 0 dOp,(qFf lateX).getD 1 dOp] false:=by kernel_rfl
theorem late_flat:flat (qAs vC)=lateX::c115a:=by kernel_rfl
theorem qHW{tmps:Array Value}{w:World}:(results vC tmps).run xE w=.ok (.tuple #[]) w:=by
 simp_all[results]
theorem lateC(k:b8≠b9)(r:V0 b9=none)(P:PM V0 d p F b8 b9 gs ns ls nd V s c 0 a1 0 0){w:World}(hw:V.le w){u:FrameMode}{n:Nat}{f:Int}(hu:(u=.returning/\f=0)∨u=.panicking [{v:=fltVE f,recovered:=false}]):
  CallsDIn (qAK none) n xE 115 #[pv b9,pv b8] u w λe g w'=>(∃v,e=.returned v)/\(∃V2,Frm V w V2 w'/\PM V0 d p F b8 b9 gs ns ls nd V2 s c f a1 s.cm (qAu s.lg))/\
   ((u=.returning/\g=.returning)∨(g=.panicking [{v:=fltVE f,recovered:=true}])):=by
 refine qKu (fn:=vC) (at0:=#[]) (t3:=2) (t6:=7) Tryz.func115 lateBody late_flat lateX_eq (by kernel_rfl) (by kernel_rfl) (by kernel_rfl) (by kernel_rfl) (by kernel_rfl) (by kernel_rfl) (by simp_all) (by simp_all) ?_;intro v g h;have h0:=qLQ (qLQ (qIJ (args:=[pv b9,pv b8]) (N:=46) (by simp)) (t:=7) (v:=v) (by decide)) (t:=2) (v:=v) (by decide);have z:Has 46 _ [(0,pv b9),(1,pv b8),(2,v)]:=⟨h0.1,λs x y=>by
  simp only[zd]at y
  repeat' split at y
  all_goals first
   |(rename_i e;simp only[beq_iff_eq]at e;subst e;cases y;exact h0.get rfl)
   |cases y⟩
 rcases hu with⟨rfl,rfl⟩|rfl
 ·obtain⟨rfl,rfl⟩:v=.nilIface/\g=.returning:=h;refine qDb ?_ (lateNil k r P none n _ w hw z.1 z.2);rintro e q w' ⟨rfl,h1,-,vs,V',-,h4,j⟩;exact⟨.inl rfl,h1,_,qHW,⟨_,rfl⟩,⟨V',j,h4⟩,.inl ⟨rfl,rfl⟩⟩
 ·obtain⟨rfl,rfl⟩:v=fltVE f/\g=.panicking [{v:=fltVE f,recovered:=true}]:=by
   obtain⟨h1,h2⟩:=h;grind
  refine qDb ?_ (lateFlt k r P none n _ w hw z.1 z.2);rintro e q w' ⟨rfl,h1,-,vs,V',-,h4,j⟩;exact⟨.inl rfl,h1,_,qHW,⟨_,rfl⟩,⟨V',j,h4⟩,.inr rfl⟩
end
theorem Lay.base{V0 V:Mem}{gs ns ls:Sl}{nd:List Nd}{s:St}(L:Lay V0 V gs ns ls nd s){p:Nat}(p0:V0 p=none):∃W,V0.sub W/\W p=none/\W.sub V/\Lay W V gs ns ls nd s/\∀b o,V b=some o->b≠p->Alien V b->W b=some o:=by
 refine⟨Mem.minus V (Mine p gs ns ls nd),λb o k=>?_,qBC (.inl rfl),qCh,L.frame (λ_ _ _ h=>h),λb o k g t=>?_⟩;·rw[qBe λhm=>by rw[L.mine0 p0 hm]at k;cases k];exact L.sub _ _ k
 ·rw[qBe];exact k;have no:∀{e sz sl vs},(e=3∨e=92∨e=89)->Sx.Own V0 V e sz sl vs->¬Blk sl b:=λ{e sz sl vs} u z=>z.apart λf=>t f e u;rintro(h|h|h|h|⟨n,y,h⟩);·exact g h
  ·exact no (.inl rfl) L.glob h
  ·exact no (.inr (.inl rfl)) L.nodes h
  ·exact no (.inr (.inr rfl)) L.log h
  ·exact no (.inl rfl) (L.fld n y) h
theorem qMk{V:Mem}{b:Nat}{x:Array Value}{t:Nat}(h:V b=some (.cells x t (0,0)))(k:NT t):Alien V b:=qHk h k
noncomputable def playI:Code:=(flat (qAs vB)).getD 3 .skip
noncomputable def qKp:Code:=(flat (qAs vB)).getD 5 .skip
noncomputable def playR:Code:=(flat (qAs vB)).getD 6 .skip
theorem play_flat:flat (qAs vB)=c73a++playI::(c73c++qKp::playR::(c73f++[.ret])):=by kernel_rfl
theorem playI_eq:playI=.cond (.tmp 20) (kid playI 0) .skip:=by kernel_rfl
theorem playK_flat:flat (kid playI 0)=c73b++[.ret]:=by kernel_rfl
theorem playD_eq:qKp=.region 5 #[(qFf qKp).getD 0 dOp,(qFf qKp).getD 1 dOp] false:=by kernel_rfl
theorem playR_eq:playR=.region 6 c73d false:=by kernel_rfl
theorem playR_size:(c73d).size=7:=by kernel_rfl
theorem playde:c73d=c73e:=rfl
theorem run_ldv{w:World}{b t T:Nat}{x:Value}{cs y:Go.Sx.T}{ρ:List Value}(h:w.heap[b]?=some (.cells (cs.evs ρ id).toArray t (0,0)))(k:qFQ xE T cs 0=some y)(g:y.ev ρ id=x):(loadVar T ⟨b,0,none⟩).run xE w=.ok x w:=by
 grind[qCe,xE,T,id]
def outT:Go.Sx.T:=.cons (.var (.i .i64) 0) (.cons (.var (.i .i64) 1) (.cons (.var (.i .i64) 2) (.cons (.var (.i .i64) 3) (.cons (.var (.i .i64) 4) .nil))))
theorem qDG{tmps:Array Value}{b8 b9 h k:Nat}{q:Option Addr}{a0 a1 a2 a3 er:Int}{w:World}(g:tmps.getD 8 undef=pv b8)(f:tmps.getD 9 undef=pv b9)(t:tmps.getD 10 undef=.int .i64 er)
  (u:w.heap[b8]?=some (cell (.pointer q) h)) (c9:w.heap[b9]?=some (.cells (qER a0 a1 a2 a3).toArray k (0,0))):
  (results vB tmps).run xE w=.ok (.tuple #[.pointer q,.agg (qER a0 a1 a2 a3).toArray,.int .i64 er]) w:=by
 have z:vB.results=#[.cell 8 124,.cell 9 54,.tmp 10]:=by kernel_rfl
 unfold results;rw[z];have x:asAddr (tmps.getD 8 undef)=pure ⟨b8,0,none⟩:=by rw[g];rfl
 have j:asAddr (tmps.getD 9 undef)=pure ⟨b9,0,none⟩:=by rw[f];rfl
 have r:(loadVar 124 ⟨b8,0,none⟩).run xE w=.ok (.pointer q) w:=run_ldv (cs:=.cons (.var .p 0) .nil) (y:=.var .p 0) (ρ:=[.pointer q]) u (by kernel_rfl) rfl;have e:(loadVar 54 ⟨b9,0,none⟩).run xE w=.ok (.agg (qER a0 a1 a2 a3).toArray) w:=run_ldv (cs:=outT) (y:=.agg outT) (ρ:=qER a0 a1 a2 a3) c9 (by kernel_rfl) rfl;simp_all
section
variable{V0 V:Mem}{d:Ds}{F:Nat}{gs ns:Sl}{nd:List Nd}{m:Mm}
def PlayP(V0:Mem)(d:Ds)(F:Nat)(m:Mm)(nm:KB)(args:List Int)(V:Mem):Ending->Mem->Prop:=λe V'=>
 (qCr d m nm args≠0/\V.sub V'/\e=.returned (.tuple #[.pointer none,.agg (qER 0 0 0 0).toArray,.int .i64 (qCr d m nm args)]))∨
 (qCr d m nm args=0/\∃p c,∃r:Rx Int,r=qCf d F (qDa d nm) args (qBZ m)/\EM V0 d p F V' r.st c/\e=.returned (.tuple #[pv p,.agg (qER (outC r) (outV r) r.st.cm (qAu r.st.lg)).toArray,.int .i64 0]))
end
theorem lookup_mem{s:Nat}{v:Value}:∀{l:List (Nat×Value)},l.lookup s=some v->(s,v)∈l
 |[],h=>by cases h
 |(t,u)::l,h=>by
  rw[zd]at h;split at h
  ·rename_i e;simp only[beq_iff_eq]at e;subst e;cases h;exact List.mem_cons_self
  ·exact List.mem_cons_of_mem _ (lookup_mem h)
theorem qII{N:Nat}{a:Act}{l k:List (Nat×Value)}(h:Has N a l)(g:∀x∈k,l.lookup x.1=some x.2):Has N a k:=⟨h.1,λs v f=>h.2 s v (g (s,v) (lookup_mem f))⟩
noncomputable def qFB:Call:=match((c73d).getD 4 dOp).op with|.call c=>c|_=>{callee:=.value (.tmp 0),args:=#[],argTypes:=#[]}
noncomputable def playFv:Operand:=match qFB.callee with|.value f=>f|_=>.tmp 0
theorem playCall_op:((c73d).getD 4 dOp).op=.call qFB:=by kernel_rfl
theorem playCall_fv:qFB.callee=.value playFv:=by kernel_rfl
theorem qLD:qFB.args=#[.tmp 29,.tmp 30,.tmp 32]:=by kernel_rfl
theorem playFv_eval(a:Act):a.eval playFv=.func (.func 116) #[] #[]:=by kernel_rfl
theorem free{V U:Mem}(k:V.sub U){b:Nat}(h:U b=none):V b=none:=by
 cases g:V b with
 |none=>rfl
 |some o=>rw[k _ _ g]at h;cases h
section
variable{V0 V:Mem}{d:Ds}{F:Nat}{m:Mm}{nm:KB}{args:List Int}{l:Sl}{b4 b5 b6 b8 b9 b11 p c:Nat}{gs ns ls:Sl}{nd:List Nd}{s:St}{a1:Int}{pr:Pr}{er:Int}
theorem segA(Y:Ds.Ok V d)(hm:Mm.Ok V m)(G:qAw d m)(O:qAc V l 1 (args.map qAe))(y:pr=if qCr d m nm args=0 then(d.procs[(qDa d nm).toNat]?).getD noPr else noPr):
  Seg xE 37 c73a [(0,d.v),(1,m.v),(2,.agg #[.string nm,l.v]),(3,.int .i64 F)] [3,4,5,6,8,9,10,11,20] V λvs V1=>∃b4 b5 b6 b8 b9 b11:Nat,vs=[.int .i64 F,pv b4,pv b5,pv b6,pv b8,pv b9,.int .i64 (qCr d m nm args),pv b11,.bool (!(decide (qCr d m nm args=0)))]/\
   V.sub V1/\V b8=none/\V b9=none/\b8≠b9/\V1 b4=some (.cells d.row.toArray 30 (0,0))/\V1 b5=some (.cells m.row.toArray 34 (0,0))/\V1 b6=some (.cells #[.string nm,l.v] 49 (0,0))/\V1 b8=some (cell (.pointer none) 124)/\V1 b9=some (.cells (qER 0 0 0 0).toArray 54 (0,0))/\V1 b11=some (.cells pr.row.toArray 143 (0,0)):=by
 have J:=c114 Y hm G O (nm:=nm);rw[<-y]at J;refine s73a (a:=d.name) (b:=d.ts) (c:=d.gs) (d:=d.ps) (g:=d.ms) (i:=d.is) (j:=d.qs) (k:=d.bs) (l:=m.gs) (o:=m.ns) (p:=nm) (q:=l) (r:=F) ?_;unfold w73a;refine J.call ⟨_,_,_,_,_,_,rfl,λb4 h4 b5 A b6 I b8 N b9 Z b11 x=>?_⟩;have H:=λo=>Zn h4 o;have z:=λo=>Zn A o;have f:=λo=>Zn I o;have t:=λo=>Zn N o;have u:=λo=>Zn Z o;have h:=λo=>Zn x o;refine⟨_,rfl,b4,b5,b6,b8,b9,b11,rfl,(H _).trans ((z _).trans ((f _).trans ((t _).trans ((u _).trans (h _))))),free ((H _).trans ((z _).trans (f _))) N,free ((H _).trans ((z _).trans ((f _).trans (t _)))) Z,λe=>?_,?_,?_,?_,?_,?_,Mem.set_same _ _ _⟩;·grind[Mem.set_same]
 ·exact((z _).trans ((f _).trans ((t _).trans ((u _).trans (h _))))) _ _ mss
 ·exact((f _).trans ((t _).trans ((u _).trans (h _)))) _ _ mss
 ·exact((t _).trans ((u _).trans (h _))) _ _ mss
 ·exact((u _).trans (h _)) _ _ mss
 ·exact(h _) _ _ mss
theorem segB(h:b8≠b9)(k:V0 b8=none)(g:V0 b9=none)(f:V0.sub V)(t:V b8=some (cell (.pointer none) 124))(u:V b9=some (.cells (qER 0 0 0 0).toArray 54 (0,0))):
  Seg xE 37 c73b [(8,pv b8),(9,pv b9),(10,.int .i64 er)] [8,9,10] V λvs V1=>vs=[pv b8,pv b9,.int .i64 er]/\V0.sub V1/\V1 b8=some (cell (.pointer none) 124)/\V1 b9=some (.cells (qER 0 0 0 0).toArray 54 (0,0)):=by
 refine s73b (a:=some ⟨b8,0,none⟩) (b:=some ⟨b9,0,none⟩) (c:=er) ?_;unfold w73b;refine StT.cell t ?_;show StT (qAa (sa b9) 0) 0 _ _ _;refine StT.at2 (off:=0) (by rw[Zm h.symm];exact u) (by simp[qER]) ⟨_,rfl,rfl,(f.set k _).set g _,by rw[Zm h,Mem.set_same],by rw[Mem.set_same];simp[qER]⟩
theorem segC(f:V b4=some (.cells d.row.toArray 30 (0,0)))(t:V b5=some (.cells m.row.toArray 34 (0,0)))(u:V b8=some (cell (.pointer none) 124)):
  Seg xE 37 c73c [(3,.int .i64 F),(4,pv b4),(5,pv b5),(6,pv b6),(8,pv b8),(9,pv b9),(10,.int .i64 er),(11,pv b11)] [6,8,9,10,11] V λvs V1=>
   vs=[pv b6,pv b8,pv b9,.int .i64 er,pv b11]/\∃p,V p=none/\V1=(V.set p (.cells (qCb d F ((0:Nat):Int) ((0:Nat):Int) ((0:Nat):Int) m.gs m.ns qAx).toArray 128 (0,0))).set b8 (cell (pv p) 124):=by
 refine s73c (a:=F) (b:=some ⟨b4,0,none⟩) (c:=some ⟨b5,0,none⟩) (d:=some ⟨b6,0,none⟩) (g:=some ⟨b8,0,none⟩) (i:=some ⟨b9,0,none⟩) (j:=er) (k:=some ⟨b11,0,none⟩) ?_;unfold w73c;refine⟨_,_,_,_,_,_,_,_,qAd f 0 8 (by simp[Ds.row]),_,_,qAd t 0 2 (by simp[Mm.row]),λp z=>?_⟩;have h:b8≠p:=λe=>by simp_all
 exact StT.cell (by rw[Zm h];exact u) ⟨_,rfl,rfl,p,z,rfl⟩
theorem segD(k:V b6=some (.cells #[.string nm,l.v] 49 (0,0)))(f:V b8=some (cell (pv p) 124))(h:V b11=some (.cells pr.row.toArray 143 (0,0))):
  qDB xE 37 c73d 0 4 [(6,pv b6),(8,pv b8),(9,pv b9),(10,.int .i64 er),(11,pv b11)] [8,9,10,29,30,32] V λvs V1=>
   vs=[pv b8,pv b9,.int .i64 er,pv p,pr.v,l.v]/\V1=V:=by
 refine s73d (a:=some ⟨b6,0,none⟩) (b:=some ⟨b8,0,none⟩) (c:=some ⟨b9,0,none⟩) (d:=er) (g:=some ⟨b11,0,none⟩) ?_;unfold w73d;exact⟨_,qBR f,_,_,_,_,_,qAd h 0 5 (by simp[Pr.row]),nn,l,qAd k 1 1 (by simp),_,rfl,rfl,rfl⟩
theorem segE(h:b8≠b9)(k:V0 b9=none){v:Int}(P:PM V0 d p F b8 b9 gs ns ls nd V s c 0 0 0 0):
  qDB xE 37 c73e 5 2 [(8,pv b8),(9,pv b9),(33,.int .i64 v)] [8,9] V λvs V1=>vs=[pv b8,pv b9]/\PM V0 d p F b8 b9 gs ns ls nd V1 s c 0 v 0 0:=by
 refine s73e (a:=some ⟨b8,0,none⟩) (b:=some ⟨b9,0,none⟩) (c:=v) ?_;unfold w73e;exact⟨nn,StT.at2 (off:=1) P.at9 (by simp[qER]) ⟨_,rfl,rfl,P.set9 h k (by simp[qER])⟩⟩
theorem segF(h:b8≠b9)(g:V0 b8=none)(f:V0 b9=none)(P:PM V0 d p F b8 b9 gs ns ls nd V s c 0 a1 0 0):
  Seg xE 37 c73f [(8,pv b8),(9,pv b9)] [8,9,10] V λvs V1=>vs=[pv b8,pv b9,.int .i64 0]/\PM V0 d p F b8 b9 gs ns ls nd V1 s c 0 a1 0 0:=by
 refine s73f (a:=some ⟨b8,0,none⟩) (b:=some ⟨b9,0,none⟩) ?_;unfold w73f;have k:=P.set8 h g (x:=#[pv p]) rfl;refine⟨_,qBR P.at8,_,_,_,_,_,qAd P.at9 0 5 (by simp[qER]),StT.cell P.at8 ⟨qAd k.at9 0 5 (by simp[qER]),?_⟩⟩;show StT (qAa (sa b9) 0) 0 _ _ _;exact StT.at2 (off:=0) k.at9 (by simp[qER]) ⟨_,rfl,rfl,k.set9 h f (by simp[qER])⟩
end
section
variable{V0 V:Mem}{d:Ds}{F:Nat}{m:Mm}{nm:KB}{args:List Int}{l:Sl}
theorem c73(S:ES V0 d F)(L:Lay V0 V m.gs m.ns qAx m.nodes (qBZ m))(hm:Mm.Ok V m)(G:qAw d m)(ha:qAc V0 l 1 (args.map qAe)):
  Tri xE 73 #[d.v,m.v,.agg #[.string nm,l.v],.int .i64 F] V (PlayP V0 d F m nm args V):=by
 unfold Go.Sx.Tri;intro w hV;refine(callsIn_wide (n:=0)).1 (callsIn_of_wp_defers (F:=qAK none) Tryz.func73 (c:=qAs vB) (by kernel_rfl) trivial (qCO ?_) rfl);rw[play_flat];obtain⟨pr,hpr⟩:∃pr,pr=if qCr d m nm args=0 then(d.procs[(qDa d nm).toNat]?).getD noPr else noPr:=⟨_,rfl⟩
 refine(segA (F:=F) (S.ds.sub L.sub) hm G (ha.sub L.sub) hpr).step hV (qIJ (args:=[d.v,m.v,.agg #[.string nm,l.v],.int .i64 F]) (N:=37) (by simp)) ?_;rintro a1 w1 vs V1 hd1 K ⟨b4,b5,b6,b8,b9,b11,rfl,s1,f8,f9,j,e4,e5,e6,e8,e9,e11⟩ J;have v8:=free L.sub f8;have v9:=free L.sub f9;have h20:a1.eval (.tmp 20)=.bool (!(decide (qCr d m nm args=0))):=K.get rfl;show wW (qAK none) 0 xE playI _ a1 w1;rw[playI_eq];by_cases hc:qCr d m nm args=0
 ·refine wpIn_cond_false (by grind) (wpIn_skip ?_);show wpL none 0 xE _ (c73c++qKp::playR::(c73f++[.ret])) a1 w1;refine(segC (F:=F) (m:=m) e4 e5 e8).step J.le (qII K (by
   intro x A;simp only[yD,xC,or_false]at A;rcases A with rfl|rfl|rfl|rfl|rfl|rfl|rfl|rfl<;>rfl)) ?_
  rintro a2 w2 vs V2 T u ⟨rfl,p,hp,X⟩ g;have hp8:b8≠p:=λe=>by simp_all
  have s2:V1.sub (V1.set p (.cells (qCb d F ((0:Nat):Int) ((0:Nat):Int) ((0:Nat):Int) m.gs m.ns qAx).toArray 128 (0,0))):=Zn hp _;have L1:=(L.grow s1).grow s2;have L2:Lay V0 V2 m.gs m.ns qAx m.nodes (qBZ m):=by
   rw[X];exact L1.put (qMk (s2 _ _ e8) (by unfold NT;decide)) v8 _
  have p0:V0 p=none:=free (L.sub.trans s1) hp;obtain⟨W,w0,wp,wV,LW,hW⟩:=L2.base p0;have hat:V2 p=some (.cells (qCb d F ((0:Nat):Int) ((0:Nat):Int) ((0:Nat):Int) m.gs m.ns qAx).toArray 128 (0,0)):=by rw[X,Zm hp8.symm,Mem.set_same]
  have keep:∀{b:Nat}{o:Obj},V1 b=some o->b≠b8->V2 b=some o:=λ{b o} hb hne=>by rw[X,Zm hne];exact s2 _ _ hb
  have I:V2 b8=some (cell (pv p) 124):=by rw[X,Mem.set_same]
  have n6:b6≠b8:=λe=>by simp_all
  have n11:b11≠b8:=λe=>by simp_all
  have B:=keep e9 j.symm;have hp9:b9≠p:=λe=>by simp_all
  have W8:W b8=some (cell (pv p) 124):=hW _ _ I hp8 (qMk I (by unfold NT;decide));have W9:W b9=some (.cells (qER 0 0 0 0).toArray 54 (0,0)):=hW _ _ B hp9 (qMk B (by unfold NT;decide));have MW:EM W d p F V2 (qBZ m) 0:=⟨wp,m.gs,m.ns,qAx,m.nodes,hat,LW⟩;obtain⟨i,q,hi,hq,hval⟩:=qHd hc;have hpq:pr=q:=by simp_all
  have hG:=qJE G;have hvs:qAi d (qBZ m).mm q.params args=true:=qAp (qDr (qEf m).symm) hval;obtain⟨r,hr⟩:∃r:Rx Int,r=qCf d F (i:Int) args (qBZ m):=⟨_,rfl⟩;have H:Tri xE 116 #[pv p,pr.v,l.v] V2 (PX W d p F 0 r):=by
   rw[hr,hpq];exact runC (allC d p F (F+1)) W V2 (qBZ m) 0 i q args l (S.sub w0) hq hG hvs (ha.sub w0) MW (Nat.zero_le _) (by omega) (by unfold BW;show 0+0+0<=_;omega)
  show wW (qAK none) 0 xE qKp _ a2 w2;rw[playD_eq];refine wpIn_region ?_;show wpOpsIn _ _ _ _ _ [0,1] _ _;refine Go.Sx.step_value (o:=(qFf qKp).getD 0 dOp) rfl (by kernel_rfl) (run_makeFunc (f:=.func 115) (first:=#[]) (caps:=#[.tmp 9,.tmp 8]) (by kernel_rfl)) ?_;have g8:a2.eval (.tmp 8)=pv b8:=u.get rfl;have g9:a2.eval (.tmp 9)=pv b9:=u.get rfl;have hd0:((qFf qKp).getD 0 dOp).dst=some 28:=by kernel_rfl
  have hd1':((qFf qKp).getD 1 dOp).dst=none:=by kernel_rfl
  rw[hd0,show(#[Operand.tmp 9,.tmp 8].map a2.eval)=#[pv b9,pv b8]by simp[g8,g9],show((#[]:Array Operand).map a2.eval)=#[]by simp];have hH3:=qLQ u (t:=28) (v:=.func (.func 115) #[] #[pv b9,pv b8]) (by decide);refine Go.Sx.step_defer (o:=(qFf qKp).getD 1 dOp) rfl (by kernel_rfl) (run_deferv (c:={callee:=.value (.tmp 28),args:=#[],argTypes:=#[]}) (fv:=.tmp 28) (f:=.func 115) (first:=#[]) (by kernel_rfl) rfl (hH3.get rfl) (by simp)) ?_;rw[hd1'];show wW (qAK none) 0 xE playR _ _ w2;rw[playR_eq];refine wpIn_region ?_;rw[playR_size];show wpOpsIn _ _ _ _ _ (List.range' 0 4++[4,5,6]) _ _;have D:Has 37 _ [(6,pv b6),(8,pv b8),(9,pv b9),(10,.int .i64 (qCr d m nm args)),(11,pv b11)]:=qII hH3 (by
   intro x A;simp only[yD,xC,or_false]at A;rcases A with rfl|rfl|rfl|rfl|rfl<;>rfl)
  refine(segD (pr:=pr) (keep e6 n6) I (keep e11 n11)).step g.le ⟨D.1,D.2⟩ ?_;rintro M w4 vs V4 hd4 z ⟨rfl,rfl⟩ C;have hdf:M.defers=[{target:=.fn (.func 115) #[pv b9,pv b8],args:=#[]++#[]}]:=by
   rw[hd4];show _::a2.defers=_;rw[T,hd1]
  have inv:∀w',(invoke (.fn (.func 115) #[pv b9,pv b8]) (#[]++#[])).run xE w'=.ok (.enter 115 #[pv b9,pv b8]) w':=λw'=>by simp[invoke]
  have q29:M.eval (.tmp 29)=pv p:=z.get rfl;have q30:M.eval (.tmp 30)=pr.v:=z.get rfl;have q32:M.eval (.tmp 32)=l.v:=z.get rfl;have t8:M.tmps.getD 8 undef=pv b8:=z.get rfl;have t9:M.tmps.getD 9 undef=pv b9:=z.get rfl;have t10:M.tmps.getD 10 undef=.int .i64 0:=by rw[<-hc];exact z.get rfl
  have i4:(c73d)[4]?=some ((c73d).getD 4 dOp):=by kernel_rfl
  have d4:((c73d).getD 4 dOp).dst=some 33:=by kernel_rfl
  have U:qFB.args.map M.eval=#[pv p,pr.v,l.v]:=by grind[qLD]
  have mk:∀{V':Mem}{s':St}{c':Nat},EM W d p F V' s' c'->∃gs ns ls nd,PM V0 d p F b8 b9 gs ns ls nd V' s' c' 0 0 0 0:=λ{V' s' c'} h=>by
   obtain⟨gs,ns,ls,nd,h1,h2⟩:=h.ex;exact⟨gs,ns,ls,nd,W,w0,wp,h1,h2,W8,W9⟩
  have hrs:(r.st:St)=(qCf d F (qDa d nm) args (qBZ m)).st:=by rw[hr,hi]
  refine Go.Sx.step_call i4 (by kernel_rfl) (by simpa using run_callv (c:=qFB) (fv:=playFv) (f:=116) (first:=#[]) (caps:=#[]) (args:=#[pv p,pr.v,l.v]) playCall_op playCall_fv (playFv_eval M) U Tryz.call116) C.le H ?_ ?_ ?_
  ·intro ch V' w' E Z;cases r with
   |ok v s'=>cases E.1
   |bad k s'=>
    obtain⟨he,c',hm'⟩:=E;have hch:ch=[{v:=fltVE k,recovered:=false}]:=by
     unfold fltE at he;injection he
    subst hch;obtain⟨gs,ns,ls,nd,P⟩:=mk hm';show LeavesIn (qAK none) 0 xE _ _ _ M.defers _ w';rw[hdf];refine⟨nofun,(λh=>by simp[qAK,wF]at h),_,_,_,_,rfl,inv w',λ_ _=>trivial,qJV (lateC j v9 P Z.le (f:=k) (.inr rfl)) ?_⟩;rintro e u' w'' ⟨⟨v,rfl⟩,⟨V6,y,P6⟩,⟨h,-⟩|rfl⟩;·cases h
    ·refine⟨_,qDG t8 t9 t10 (y.le _ _ P6.at8) (y.le _ _ P6.at9),V6,.inr ⟨hc,p,c',.bad k s',by rw[hr,hi],P6.em,rfl⟩,(((J.trans g).trans C).trans Z).trans y⟩
  ·intro v V' w' E Z;cases r with
   |bad k s'=>cases E.1
   |ok x s'=>
    obtain⟨he,hm'⟩:=E;cases he;rw[d4];obtain⟨gs,ns,ls,nd,P⟩:=mk hm';have hH5:=qLQ z (t:=33) (v:=.int .i64 x) (by decide);show wpOpsIn _ _ _ _ _ (List.range' 5 2++[]) _ w';rw[playde];refine(segE j v9 (v:=x) P).step Z.le (qII ⟨hH5.1,hH5.2⟩ (by
     intro x A;simp only[yD,xC,or_false]at A;rcases A with rfl|rfl|rfl<;>rfl)) ?_
    rintro a6 w6 vs V6 hd6 hH6 ⟨rfl,P6⟩ y;show wpL none 0 xE _ (c73f++[.ret]) a6 w6;refine(segF j v8 v9 P6).step y.le hH6 ?_;rintro a7 w7 vs V7 hd7 Y ⟨rfl,P7⟩ hF7;show wW (qAK none) 0 xE .ret _ a7 w7;refine wpIn_ret ?_;show LeavesIn (qAK none) 0 xE _ _ _ a7.defers _ w7;have hdf7:a7.defers=_:=(hd7.trans hd6).trans hdf;rw[hdf7];refine⟨nofun,(λh=>by simp[qAK,wF]at h),_,_,_,_,rfl,inv w7,λ_ _=>trivial,qJV (lateC j v9 P7 hF7.le (f:=0) (.inl ⟨rfl,rfl⟩)) ?_⟩;rintro e u' w'' ⟨⟨v,rfl⟩,⟨V8,O,P8⟩,⟨-,rfl⟩|rfl⟩;·refine⟨_,qDG (Y.get rfl) (Y.get rfl) (Y.get rfl) (O.le _ _ P8.at8) (O.le _ _ P8.at9),V8,.inr ⟨hc,p,0,.ok x s',by rw[hr,hi],P8.em,rfl⟩,((((((J.trans g).trans C).trans Z).trans y).trans hF7).trans O)⟩
    ·refine⟨_,qDG (Y.get rfl) (Y.get rfl) (Y.get rfl) (O.le _ _ P8.at8) (O.le _ _ P8.at9),V8,.inr ⟨hc,p,0,.ok x s',by rw[hr,hi],P8.em,rfl⟩,((((((J.trans g).trans C).trans Z).trans y).trans hF7).trans O)⟩
  ·intro V' E;cases r with
   |ok v s'=>cases E.1
   |bad k s'=>cases E.1
 ·refine wpIn_cond_true (by grind) (qCO ?_);rw[playK_flat];refine(segB j f8 f9 s1 e8 e9).step J.le (qII K (by
   intro x A;simp only[yD,xC,or_false]at A;rcases A with rfl|rfl|rfl<;>rfl)) ?_
  rintro a2 w2 vs V2 T u ⟨rfl,s2,I,B⟩ g;show wW (qAK none) 0 xE .ret _ a2 w2;refine wpIn_ret ?_;show LeavesIn (qAK none) 0 xE _ _ _ a2.defers _ w2;rw[T,hd1];exact⟨_,qDG (u.get rfl) (u.get rfl) (u.get rfl) (g.le _ _ I) (g.le _ _ B),V2,.inl ⟨hc,s2,rfl⟩,J.trans g⟩
end
section
variable{V:Mem}{d:Ds}{F:Nat}{m m':Mm}{nm:KB}{args:List Int}{l:Sl}
theorem values_plain(h:m.plain=m'.plain){t:List Fld}{vs:List Int}:qAi d m t vs=qAi d m' t vs:=by
 rw[Bool.eq_iff_iff];grind[qAp,qDr]
theorem qFO(h:m.plain=m'.plain):qCr d m nm args=qCr d m' nm args:=by
 grind[qCr,values_plain]
noncomputable def qAZ(d:Ds)(m:Mm)(nm:KB)(args:List Int)(F:Int):Int:=if qAF d m F=0 then qCr d m nm args else qAF d m F
theorem qDl{F:Int}(h:qAF d m F=0):qAw d m:=by
 grind[qAF]
theorem ok_copy(hm:Mm.Ok V m){V':Mem}{gs ns:Sl}{nd:List Nd}(L:Lay V V' gs ns qAx nd (qBZ m)):Mm.Ok V' ⟨gs,m.globals,ns,nd⟩/\(⟨gs,m.globals,ns,nd⟩:Mm).plain=m.plain:=by
 have h:(⟨gs,m.globals,ns,nd⟩:Mm).plain=m.plain:=by
  unfold Mm.plain;rw[L.eq];rfl
 refine⟨⟨L.glob.rows (λ_=>rfl) (by decide),hm.gIn,L.nodes.rows (λ_=>rfl) (by decide),λn k=>?_⟩,h⟩;obtain⟨i,f⟩:=xg.1 k;obtain⟨y,t,u,z⟩:=qFD h f;have g:=hm.nodesOk y (xp t);exact⟨(L.fld n k).rows (λ_=>rfl) (by decide),by rw[<-u];exact g.tyIn,by rw[<-z];exact g.vals⟩
def StartP(V:Mem)(d:Ds)(F:Nat)(m:Mm)(nm:KB)(args:List Int):Ending->Mem->Prop:=λe V'=>
 (qAZ d m nm args F≠0/\V.sub V'/\e=.returned (.tuple #[.pointer none,.agg (qER 0 0 0 0).toArray,.int .i64 (qAZ d m nm args F)]))∨
 (qAZ d m nm args F=0/\∃p c,∃r:Rx Int,r=qCf d F (qDa d nm) args (qBZ m)/\EM V d p F V' r.st c/\e=.returned (.tuple #[pv p,.agg (qER (outC r) (outV r) r.st.cm (qAu r.st.lg)).toArray,.int .i64 0]))
theorem c61[Tab V](x:Ds.Ok V d)(hm:Mm.Ok V m)(J:qAc V l 1 (args.map qAe))(N:F<=4000):Tri xE 61 #[d.v,m.v,.agg #[.string nm,l.v],.int .i64 F] V (StartP V d F m nm args):=by
 refine x61 (R:=StartP V d F m nm args) ?_;refine(c71 x hm).call ⟨_,rfl,λh0=>?_,λh0=>?_⟩
 ·have G:=qDl h0;have k:qAZ d m nm args F=qCr d m nm args:=by grind[qAZ]
  obtain⟨p1,Z,p3,E,Y⟩:=qAh G.mem;have O:=lens12 G.valid;refine Tri.mono (c72 hm (by grind[qAD]) Z λn q=>?_) ?_
  ·have:=(qAD.1 (Y n q)).1;have A:=of_decide_eq_true (p3 n q);obtain⟨j,I⟩:∃j:Nat,n.ty=(j:Int):=⟨n.ty.toNat,by omega⟩;have g:j<d.types.length:=by omega
   have X:=yu g;rw[I,qAU X rfl]at this;grind
  rintro _ V1 ⟨gs,ns,nd,rfl,L⟩;obtain⟨t,H⟩:=ok_copy hm L;have B:qAw d ⟨gs,m.globals,ns,nd⟩:=⟨G.valid,G.chk,qEu H.symm G.mem⟩;have u:qBZ ⟨gs,m.globals,ns,nd⟩=qBZ m:=by
   unfold qBZ;rw[show nd.map (λn=>(n.ty,n.f))=m.nodes.map (λn=>(n.ty,n.f))from L.eq]
  have C:Lay V V1 gs ns qAx nd (qBZ ⟨gs,m.globals,ns,nd⟩):=by grind
  refine⟨gs,ns,rfl,Tri.mono (c73 (m:=⟨gs,m.globals,ns,nd⟩) ⟨x,G.valid,qGJ G.valid G.chk,N⟩ C t B J) ?_⟩;have h:qCr d ⟨gs,m.globals,ns,nd⟩ nm args=qCr d m nm args:=qFO H;rintro e V2 (⟨z,y,rfl⟩|⟨z,p,c,r,D,M,rfl⟩)
  ·rw[h]at z⊢;exact⟨_,_,_,_,_,_,_,rfl,.inl ⟨by omega,L.sub.trans y,by rw[k];rfl⟩⟩
  ·rw[h]at z;exact⟨_,_,_,_,_,_,_,rfl,.inr ⟨by omega,p,c,r,by rw[D,u],M,rfl⟩⟩
 ·have k:qAZ d m nm args F=qAF d m F:=by grind[qAZ]
  exact .inl ⟨by omega,Mem.sub.refl _,by rw[k];rfl⟩
def RunP(V:Mem)(d:Ds)(F:Nat)(m:Mm)(nm:KB)(args:List Int):Ending->Mem->Prop:=λe V'=>
 (qAZ d m nm args F≠0/\V.sub V'/\e=.returned (.tuple #[.agg (qER 0 0 0 0).toArray,.agg #[qAx.v,qAx.v],.int .i64 (qAZ d m nm args F)]))∨
 (qAZ d m nm args F=0/\∃r:Rx Int,∃gs ns ls nd,r=qCf d F (qDa d nm) args (qBZ m)/\Lay V V' gs ns ls nd r.st/\e=.returned (.tuple #[.agg (qER (outC r) (outV r) r.st.cm (qAu r.st.lg)).toArray,.agg #[gs.v,ns.v],.int .i64 0]))
theorem c24[Tab V](f:Ds.Ok V d)(hm:Mm.Ok V m)(t:qAc V l 1 (args.map qAe))(u:F<=4000):Tri xE 24 #[d.v,m.v,.agg #[.string nm,l.v],.int .i64 F] V (RunP V d F m nm args):=by
 refine x24 (R:=RunP V d F m nm args) ?_;refine Tri.mono (c61 f hm t u) ?_;rintro e V1 (⟨g,z,rfl⟩|⟨g,p,c,r,y,M,rfl⟩);·exact⟨_,_,_,_,_,_,_,rfl,λh=>absurd h g,λ_=>.inl ⟨g,z,rfl⟩⟩
 ·obtain⟨gs,ns,ls,nd,k,L⟩:=M.ex;exact⟨_,_,_,_,_,_,_,rfl,λ_=>⟨nn,nn,gs,ns,qAd k 8 2 (by simp[qCb]),qAN k 8 0 2 (by simp[qCb]),nn,nn,.inr ⟨g,r,gs,ns,ls,nd,y,L,rfl⟩⟩,λh=>absurd rfl h⟩
def TraceP(V:Mem)(d:Ds)(F:Nat)(m:Mm)(nm:KB)(args:List Int):Ending->Mem->Prop:=λe V'=>
 (qAZ d m nm args F≠0/\V.sub V'/\e=.returned (.tuple #[qAx.v,.int .i64 (qAZ d m nm args F)]))∨
 (qAZ d m nm args F=0/\∃r:Rx Int,∃ls,r=qCf d F (qDa d nm) args (qBZ m)/\Sx.Own V V' 89 3 ls (r.st.lg.flatMap qFY)/\e=.returned (.tuple #[ls.v,.int .i64 0]))
theorem c36[Tab V](f:Ds.Ok V d)(hm:Mm.Ok V m)(t:qAc V l 1 (args.map qAe))(u:F<=4000):Tri xE 36 #[d.v,m.v,.agg #[.string nm,l.v],.int .i64 F] V (TraceP V d F m nm args):=by
 refine x36 (R:=TraceP V d F m nm args) ?_;refine Tri.mono (c61 f hm t u) ?_;rintro e V1 (⟨k,z,rfl⟩|⟨k,p,c,r,y,M,rfl⟩);·exact⟨_,_,_,_,_,_,_,rfl,λh=>absurd h k,λ_=>.inl ⟨k,z,rfl⟩⟩
 ·obtain⟨gs,ns,ls,nd,g,L⟩:=M.ex;exact⟨_,_,_,_,_,_,_,rfl,λ_=>⟨nn,nn,ls,qAd g 14 1 (by simp[qCb]),.inr ⟨k,r,ls,y,L.log,rfl⟩⟩,λh=>absurd rfl h⟩
end
end Go.Proofs
