/- Part 17 of a proof of a law of this seat: no statement of the seat is proved here. -/
import Derived.Test.YtmeagdecjpknkaaGreatDoorPr16
import Derived.ProofKit
import Derived.Test.YtmeagdecjpknkaaGreatDoorRows
import Derived.Lib.LaidIn
import Derived.Lib.LaidTab
import Derived.Handed
set_option linter.unusedVariables false
set_option linter.unusedSimpArgs false
open Go.Proofs.Tryz renaming prog->xD,underlying3->wo,underlying149->vF,underlying141->vG,underlying31->wq
open Prod.mk renaming inj->wm
open List renaming take_of_length_le->wY,getElem?_eq_some_iff->yw,drop_succ_cons->vH,drop_zero->vJ,take_succ_cons->wk,take_zero->vK,length_map->xd,getElem?_map->ya,getD_eq_getElem?_getD->vT,range->zB,mem_filter->yZ,mem_range->yX,mem_cons_of_mem->zb,mem_cons_self->zc,filter_cons->z7
open Option renaming bind_eq_some_iff->vA,map_some->zJ,getD_some->xW
open Option.some renaming injEq->zF,inj->vP
open Go.DataW renaming trod->vB,Trod->vL,TrodAll->vR
open Go.IntKind renaming i64->yu
open Nat renaming lt_succ_self->vC,strongRecOn->yR
open Go.TypeDesc renaming struct->vD
open Go.Value renaming string->xI,agg->vM,cells->vN
open List.cons renaming injEq->yD
open Array renaming getElem?_eq_getElem->yS,mem_toList_iff->vW,all_eq_true'->wF,getD->z6,getD_eq_getD_getElem?->wT,getElem?_setIfInBounds_ne->wU
open Go.Lib renaming TabIs->xK,asciiSpaceTab->xL
open Go.World renaming settled->vO
open Go.Input renaming okWide_of_okWideB->vQ
open Bool renaming and_eq_true->zC
open Go.Oper renaming uponIn->wc
open Go.CallsIn renaming mono->vU
open Go.RoundIn renaming mono->vV
open Go.Region renaming binds->yQ,ready->yY
namespace Go.Proofs
open Go Go.Sx
attribute [local irreducible] Go.Sx.Tri
theorem qFf{p q B X:Prop}(f:(¬p∨¬q)->X)(t:p->q->B):Br p (Br q B X) X:=⟨λk=>⟨λg=>t k g,λg=>f (.inr g)⟩,λk=>f (.inl k)⟩
theorem take_eq{α:Type}{xs ys:List α}{i:Nat}{x y:α}(h:xs.take i=ys.take i)(k:xs[i]?=some x)(g:ys[i]?=some y)(e:x=y):xs.take (i+1)=ys.take (i+1):=by
 grind[List.take_add_one]
section
variable{V:Mem}{d:Ds}{m:Mm}
def RI(V:Mem):Ending->Mem->Prop:=λe V'=>V=V'/\∃r:Int,e=.returned (.int .i64 r)/\-1<=r/\r<=2000
def RY(V:Mem):Ending->Mem->Prop:=λe V'=>V=V'/\∃b:Bool,e=.returned (.bool b)
theorem RI.mk{r:Int}(h:-1<=r/\r<=2000):RI V (.returned (.int .i64 r)) V:=⟨rfl,r,rfl,h⟩
theorem RY.mk{b:Bool}:RY V (.returned (.bool b)) V:=⟨rfl,b,rfl⟩
theorem leftC:∀(k:Nat),k<=65->∀(e:E)(n:Int),E.Ok V e->-1<=n->n<=2000->Tri xD 119 #[e.v,.int .i64 k,.int .i64 n] V (RI V):=by
 intro k;induction k with
 |zero=>
  intro _ e n z h1 h2;refine Tri.mono (x119 (R:=RI V) ?_) λ_ _ h=>h;exact⟨λ_=>.mk ⟨by omega,by omega⟩,λ_=>⟨λ_=>.mk ⟨by omega,by omega⟩,λh=>absurd rfl h⟩⟩
 |succ k q=>
  intro G e n z h1 h2;refine Tri.mono (x119 (R:=RI V) ?_) λ_ _ h=>h;refine⟨λ_=>.mk ⟨by omega,by omega⟩,λh3=>⟨λ_=>.mk ⟨by omega,by omega⟩,λ_=>⟨λ_=>.mk ⟨by omega,by omega⟩,λ_=>⟨⟨by omega,by omega⟩,?_⟩⟩⟩⟩;have h3:¬n<=0:=h3;refine qFH (mk:=.int .i64) (b0:=n-1) qDY e.k.length (λi a V1=>V=V1/\-1<=a/\a<=2000) ⟨rfl,by omega,by omega⟩ ?_;rintro i a V1 J Z ⟨rfl,f,t⟩ o;refine qFf (λ_=>.mk ⟨f,t⟩) (λg Y=>?_);obtain⟨x,y,W,-,j,b,s,u⟩:=z.rows.get g;refine⟨b,s,g,_,_,_,_,u,⟨by omega,by omega⟩,?_⟩;rw[show((k+1:Nat):Int)-1=(k:Int)by omega];refine Tri.mono (q (by omega) x a (z.kids x y) f t) ?_;rintro _ _ ⟨rfl,r,rfl,h4⟩;exact⟨_,rfl,z.rows.succ g,o j _ _ ⟨rfl,h4⟩⟩
theorem leftAllC:∀(k:Nat),k<=65->∀(s:Sl)(xs:List S)(n:Int),qAc V s 5 (xs.map S.row)->(∀x∈xs,S.Ok V x)->-1<=n->n<=2000->Tri xD 118 #[s.v,.int .i64 k,.int .i64 n] V (RI V):=by
 intro k;induction k with
 |zero=>
  intro _ s xs n W ho h1 h2;refine Tri.mono (x118 (R:=RI V) ?_) λ_ _ h=>h;exact⟨λ_=>.mk ⟨by omega,by omega⟩,λh=>absurd rfl h⟩
 |succ k ih=>
  intro hk s xs n W ho h1 h2;refine Tri.mono (x118 (R:=RI V) ?_) λ_ _ h=>h;refine⟨λ_=>.mk ⟨by omega,by omega⟩,λ_=>?_⟩;refine qHO (mk:=.int .i64) (mc:=.int .i64) 0 n qDY xs.length (λi a V1=>V=V1/\-1<=a/\a<=2000) ⟨rfl,h1,h2⟩ ?_;rintro i b a V1 J hi ⟨rfl,O,A⟩ hJ;refine qFf (λ_=>.mk ⟨O,A⟩) (λf hn=>?_);have hn:0<=a:=hn;obtain⟨x,I,hx,-,G,e,Z,g⟩:=W.get f;have L:=ho x I;cases x with
  |mk op sn el es ll ls xl X=>
  cases L with
  |mk he B hl C D E hop=>
  have Y:=qAe (n:=i*5) e;have t:=W.succ f;refine⟨⟨by omega,by omega⟩,e,Z,f,Y,_,_,_,_,_,g,λ_=>.mk ⟨by omega,by omega⟩,λ_=>?_⟩;refine qFH (mk:=.int .i64) (b0:=a-1) qDY es.length (λj c V2=>V=V2/\-1<=c/\c<=2000) ⟨rfl,by omega,by omega⟩ ?_;rintro j c V2 J1 hj ⟨rfl,z,q⟩ K;have ek:((k+1:Nat):Int)-1=(k:Int):=by omega
  refine⟨e,Z,f,Y,_,_,_,_,_,g,qFf (λ_=>⟨λT=>⟨e,Z,f,Y,_,_,_,_,_,g,⟨by omega,by omega⟩,?_⟩,λT=>⟨λh=>absurd h T,λ_=>⟨t,hJ G _ _ _ ⟨rfl,z,q⟩⟩⟩⟩) (λu T=>?_)⟩
  ·rw[ek];refine Tri.mono (ih (by omega) ll ls c hl C z q) ?_;rintro _ _ ⟨rfl,r,rfl,h3⟩;refine⟨_,rfl,λhr0=>⟨e,Z,f,Y,_,_,_,_,_,g,⟨by omega,by omega⟩,Tri.mono (ih (by omega) xl X r D E h3.1 h3.2) ?_⟩,λ_=>⟨t,hJ G _ _ _ ⟨rfl,h3⟩⟩⟩;rintro _ _ ⟨rfl,r2,rfl,h4⟩;simp_all
  ·obtain⟨y,U,hy,-,hjl,hpy,hzy,o⟩:=he.get u;refine⟨e,Z,f,Y,_,_,_,_,_,g,hpy,hzy,u,_,_,_,_,o,Tri.mono (leftC 65 (by omega) y c (B y U) z q) ?_⟩;rintro _ _ ⟨rfl,r,rfl,h3⟩;exact⟨_,rfl,he.succ u,K hjl _ _ ⟨rfl,h3⟩⟩
theorem wideC{l:Sl}{xs:List Fld}(u:qAc V l 2 (xs.map Fld.row)):Tri xD 117 #[l.v] V (RY V):=by
 refine Tri.mono (x117 (R:=RY V) ?_) λ_ _ h=>h;refine⟨λ_=>.mk,λ_=>qAI (mk:=.bool) (b0:=false) xs.length (λi V1=>V=V1) rfl ?_⟩;rintro i b V1 J q rfl j;refine⟨λk=>?_,λ_=>.mk⟩;obtain⟨x,r,o,-,f,t,z,g⟩:=u.get k;have y:=qAe (n:=i*2) t;exact⟨t,z,k,y,_,_,g,λ_=>.mk,λ_=>⟨t,z,k,y,_,_,g,λ_=>.mk,λ_=>⟨u.succ k,j f _ _ rfl⟩⟩⟩
theorem overC(j:Ds.Ok V d){n:Int}(h1:-1<=n)(h2:n<=2000):Tri xD 76 #[d.v,.int .i64 n] V (RY V):=by
 refine Tri.mono (x76 (R:=RY V) ?_) λ_ _ h=>h;refine⟨λ_=>.mk,λ_=>⟨λ_=>.mk,λ_=>⟨λ_=>.mk,λ_=>⟨λ_=>.mk,λ_=>⟨λ_=>.mk,λ_=>⟨λ_=>.mk,λ_=>⟨λ_=>.mk,λ_=>Tri.mono (wideC j.globals) ?_⟩⟩⟩⟩⟩⟩⟩;rintro _ _ ⟨rfl,b,rfl⟩;refine⟨_,rfl,λ_=>.mk,λ_=>qAI (mk:=.bool) (b0:=false) d.types.length (λi V1=>V=V1) rfl ?_⟩;rintro i b V1 J s rfl e;refine⟨λk=>?_,λ_=>?_⟩
 ·obtain⟨x,u,G,-,z,y,q,g⟩:=j.types.get k;have o:=qAe (n:=i*2) y;refine⟨y,q,k,o,_,_,g,λ_=>.mk,λ_=>⟨y,q,k,o,_,_,g,Tri.mono (wideC (j.typesOk x u).fields) ?_⟩⟩;rintro _ _ ⟨rfl,b,rfl⟩;exact⟨_,rfl,λ_=>.mk,λ_=>⟨j.types.succ k,e z _ _ rfl⟩⟩
 refine qHO (mk:=.bool) (mc:=.int .i64) b n qDY d.procs.length (λi a V1=>V=V1/\-1<=a/\a<=2000) ⟨rfl,h1,h2⟩ ?_;rintro i b a V1 J s ⟨rfl,f,t⟩ e;refine qFf (λ_=>?_) (λk Z=>?_);rotate_left
 ·obtain⟨x,u,G,-,z,y,q,g⟩:=j.procs.get k;have Y:=j.procsOk x u;refine⟨y,q,k,_,_,_,_,_,g,λ_=>.mk,λ_=>⟨λ_=>.mk,λ_=>Tri.mono (wideC Y.params) ?_⟩⟩;rintro _ _ ⟨rfl,b1,rfl⟩;refine⟨_,rfl,λ_=>.mk,λ_=>Tri.mono (wideC Y.locals) ?_⟩;rintro _ _ ⟨rfl,b2,rfl⟩;refine⟨_,rfl,λ_=>.mk,λ_=>Tri.mono (leftAllC 65 (by omega) x.bs x.body a Y.body Y.stmts f t) ?_⟩;rintro _ _ ⟨rfl,r,rfl,h3⟩;exact⟨_,rfl,j.procs.succ k,e z _ _ _ ⟨rfl,h3⟩⟩
 refine qHO (mk:=.bool) (mc:=.int .i64) b a qDY d.measures.length (λi a V1=>V=V1/\-1<=a/\a<=2000) ⟨rfl,f,t⟩ ?_;clear e;rintro i b a V1 J s ⟨rfl,f,t⟩ e;refine qFf (λ_=>?_) (λk Z=>?_);rotate_left
 ·obtain⟨x,u,G,-,z,y,q,g⟩:=j.measures.get k;have o:=qAe (n:=i*7) y;refine⟨y,q,k,o,_,_,_,_,_,_,_,g,λ_=>.mk,λ_=>⟨y,q,k,o,_,_,_,_,_,_,_,g,λ_=>.mk,λ_=>⟨y,q,k,o,_,_,_,_,_,_,_,g,Tri.mono (leftC 65 (by omega) x.x a (j.measuresOk x u).x f t) ?_⟩⟩⟩;rintro _ _ ⟨rfl,r,rfl,h3⟩;exact⟨_,rfl,j.measures.succ k,e z _ _ _ ⟨rfl,h3⟩⟩
 refine qHO (mk:=.bool) (mc:=.int .i64) b a qDY d.invs.length (λi a V1=>V=V1/\-1<=a/\a<=2000) ⟨rfl,f,t⟩ ?_;clear e;rintro i b a V1 J s ⟨rfl,f,t⟩ e;refine qFf (λ_=>?_) (λk Z=>?_);rotate_left
 ·obtain⟨x,u,G,-,z,y,q,g⟩:=j.invs.get k;have o:=qAe (n:=i*6) y;refine⟨y,q,k,o,_,_,_,_,_,_,g,λ_=>.mk,λ_=>⟨y,q,k,o,_,_,_,_,_,_,g,λ_=>.mk,λ_=>⟨y,q,k,o,_,_,_,_,_,_,g,Tri.mono (leftC 65 (by omega) x.x a (j.invsOk x u) f t) ?_⟩⟩⟩;rintro _ _ ⟨rfl,r,rfl,h3⟩;exact⟨_,rfl,j.invs.succ k,e z _ _ _ ⟨rfl,h3⟩⟩
 refine qHO (mk:=.bool) (mc:=.int .i64) b a qDY d.pots.length (λi a V1=>V=V1/\-1<=a/\a<=2000) ⟨rfl,f,t⟩ ?_;clear e;rintro i b a V1 J s ⟨rfl,f,t⟩ e;refine qFf (λ_=>?_) (λk Z=>?_);rotate_left
 ·obtain⟨x,u,G,-,z,y,q,g⟩:=j.pots.get k;have o:=qAe (n:=i*5) y;refine⟨y,q,k,o,_,_,_,_,_,g,λ_=>.mk,λ_=>⟨y,q,k,o,_,_,_,_,_,g,Tri.mono (leftC 65 (by omega) x.x a (j.potsOk x u) f t) ?_⟩⟩;rintro _ _ ⟨rfl,r,rfl,h3⟩;exact⟨_,rfl,j.pots.succ k,e z _ _ _ ⟨rfl,h3⟩⟩
 refine qHO (mk:=.bool) (mc:=.int .i64) b a qDY d.bounds.length (λi a V1=>V=V1/\-1<=a/\a<=2000) ⟨rfl,f,t⟩ ?_;clear e;rintro i b a V1 J s ⟨rfl,f,t⟩ e;refine qFf (λ_=>.mk) (λk Z=>?_);obtain⟨x,u,G,-,z,y,q,g⟩:=j.bounds.get k;have o:=qAe (n:=i*5) y;refine⟨y,q,k,o,_,_,_,_,_,g,λ_=>.mk,λ_=>⟨y,q,k,o,_,_,_,_,_,g,Tri.mono (leftC 65 (by omega) x.x a (j.boundsOk x u) f t) ?_⟩⟩;rintro _ _ ⟨rfl,r,rfl,h3⟩;exact⟨_,rfl,j.bounds.succ k,e z _ _ _ ⟨rfl,h3⟩⟩
theorem greatC(k:Ds.Ok V d):Tri xD 38 #[d.v] V (RY V):=by
 refine Tri.mono (x38 (R:=RY V) ?_) λ_ _ h=>h;refine Tri.mono (overC k (n:=2000) (by omega) (by omega)) ?_;rintro _ _ ⟨rfl,b,rfl⟩;exact⟨_,rfl,.mk⟩
theorem manyC(hm:Mm.Ok V m):Tri xD 39 #[m.v] V (RY V):=by
 refine Tri.mono (x39 (R:=RY V) ?_) λ_ _ h=>h;refine⟨λ_=>.mk,λ_=>⟨λ_=>.mk,λ_=>qAI (mk:=.bool) (b0:=false) m.nodes.length (λi V1=>V=V1) rfl ?_⟩⟩;rintro i b V1 J j rfl u;refine⟨λk=>?_,λ_=>.mk⟩;obtain⟨x,z,r,-,f,t,y,g⟩:=hm.nodes.get k;exact⟨t,y,k,qAe t,_,_,g,λ_=>.mk,λ_=>⟨hm.nodes.succ k,u f _ _ rfl⟩⟩
theorem c141{s t:Sl}{xs ys:List Int}(h:qAc V s 1 (xs.map qAf))(k:qAc V t 1 (ys.map qAf)):PP 141 [.slice s.p s.n s.c,.slice t.p t.n t.c] V (.bool (decide (xs=ys))):=by
 refine x141 ?_;have a:=h.n_eq;have v:=k.n_eq;refine⟨λq=>?_,λq=>?_⟩
 ·refine qAI (mk:=.bool) (b0:=false) xs.length (λi V1=>V=V1/\xs.take i=ys.take i) ⟨rfl,rfl⟩ ?_;rintro i b V1 J B ⟨rfl,G⟩ Z;refine⟨λg=>?_,λY=>?_⟩
  ·obtain⟨x,W,O,-,z,A,I,u⟩:=h.get g;obtain⟨y,L,R,-,X,j,r,f⟩:=k.get (i:=i) (by omega);refine⟨A,I,g,_,u,j,r,by omega,_,f,λo=>⟨h.succ g,Z z _ _ ⟨rfl,take_eq G O R o⟩⟩,λo=>?_⟩;rw[decide_eq_false λe=>?_];·simp_all
   simp_all
  grind
 ·rw[decide_eq_false λe=>q (by rw[a,v,e])];simp_all
theorem plain_ext{a b:Mm}(k:a.globals=b.globals)(g:(a.nodes.map λn=>(n.ty,n.f))=b.nodes.map λn=>(n.ty,n.f)):a.plain=b.plain:=by grind[Mm.plain]
instance:DecidableEq (List Int×List (Int×List Int)):=inferInstance
theorem c95{a b:Mm}(z:Mm.Ok V a)(s:Mm.Ok V b):PP 95 [a.v,b.v] V (.bool (decide (a.plain=b.plain))):=by
 refine x95 ?_;have C:=z.nodes.n_eq;have D:=s.nodes.n_eq;have no:a.plain≠b.plain->(Ending.returned (.bool false)=.returned (.bool (decide (a.plain=b.plain)))/\V=V):=λh=>⟨by simp_all,rfl⟩;refine(c141 z.globals s.globals).call ⟨_,rfl,λj=>?_,λj=>no λe=>j (decide_eq_true (wm e).1)⟩;have j:=of_decide_eq_true j;refine⟨λR=>?_,λR=>no λe=>R (by rw[C,D,qDS e])⟩;refine qAI (mk:=.bool) (b0:=false) a.nodes.length (λi V1=>V=V1/\(a.nodes.map λn=>(n.ty,n.f)).take i=(b.nodes.map λn=>(n.ty,n.f)).take i) ⟨rfl,rfl⟩ ?_;rintro i b0 V1 J S ⟨rfl,Z⟩ E;refine⟨λg=>?_,λY=>?_⟩
 ·obtain⟨x,W,T,-,O,G,X,u⟩:=z.nodes.get g;obtain⟨y,A,U,-,K,t,r,k⟩:=s.nodes.get (i:=i) (by omega);have B:(i:Int)<(b.ns.n:Int):=by omega
  have q:(a.nodes.map λn=>(n.ty,n.f))[i]?=some (x.ty,x.f):=by simp_all
  have o:(b.nodes.map λn=>(n.ty,n.f))[i]?=some (y.ty,y.f):=by simp_all
  have bad:(x.ty,x.f)≠(y.ty,y.f)->a.plain≠b.plain:=λh e=>h (by rw[show(a.nodes.map λn=>(n.ty,n.f))=b.nodes.map λn=>(n.ty,n.f)from(wm e).2,o]at q;simp_all);refine⟨G,X,g,qAe G,_,_,u,t,r,B,qAe t,_,_,k,λI=>⟨G,X,g,qAe G,_,_,u,t,r,B,qAe t,_,_,k,(c141 (z.nodesOk x W).rows (s.nodesOk y A).rows).call ⟨_,rfl,λL=>⟨z.nodes.succ g,E O _ _ ⟨rfl,take_eq Z q o (Prod.ext I (of_decide_eq_true L))⟩⟩,λL=>no (bad λe=>L (decide_eq_true (wm e).2))⟩⟩,λI=>no (bad λe=>I (wm e).1)⟩
 ·have hd:=(z.nodes.done Y).2;rw[wY (by simp_all),wY (by simp_all)]at Z;exact⟨by rw[decide_eq_true (plain_ext j Z)],rfl⟩
end
theorem start_ok{d:Ds}{m:Mm}{nm:ByteArray}{args:List Int}{F:Int}(G:qAz d m)(h:0<=F/\F<=1048576):qAU d m nm args F=qCK d m nm args:=by
 grind[qAZ,qAU]
section
variable{V:Mem}
def qEh(b n:Nat):Sl:=⟨some ⟨b,0,none⟩,n,n⟩
end
section
variable{V V0:Mem}{d:Ds}{F:Nat}{m:Mm}{nm:ByteArray}{args:List Int}{l:Sl}
theorem qCS{F:Int}(h:qAU d m nm args F=0):qAz d m/\qCK d m nm args=0:=by
 grind[qAU,qFr,absurd]
end
section
variable{V V0:Mem}{d:Ds}{F:Nat}{m:Mm}{nm:ByteArray}{args:List Int}{l:Sl}
theorem qGF(u:Ds.Ok V d){V':Mem}{gs ns ls:Sl}{nd:List Nd}{s:St}(L:Lay V V' gs ns ls nd s)(x:qAz d s.mm):Mm.Ok V' ⟨gs,s.g,ns,nd⟩/\(⟨gs,s.g,ns,nd⟩:Mm).plain=(s.g,s.ns):=by
 have i:(⟨gs,s.g,ns,nd⟩:Mm).plain=(s.g,s.ns):=by
  unfold Mm.plain;rw[<-L.eq]
 obtain⟨p1,J,p3,r,q⟩:=qAl x.mem;have z:∀{t:List Fld}{vs:List Int},qAh d s.mm t vs=true->∀v∈vs,inI v:=λ{t vs} h v hv=>by
  obtain⟨j,y⟩:=List.mem_iff_getElem?.1 hv;obtain⟨o,b⟩:=qAB.1 h;have a:=(yw.1 y).1;have:=b j _ v (List.getElem?_eq_getElem (by omega)) y;grind[qAy,inI]
 refine⟨⟨L.glob.rows (λ_=>rfl) (by decide),z r,L.nodes.rows (λ_=>rfl) (by decide),λn e=>?_⟩,i⟩;have k:(⟨n.ty,qAD,n.f⟩:Nd)∈s.mm.nodes:=by
  unfold St.mm;rw[<-L.eq];grind
 refine⟨(L.fld n e).rows (λ_=>rfl) (by decide),?_,z (q ⟨n.ty,qAD,n.f⟩ k)⟩;have:=of_decide_eq_true (p3 ⟨n.ty,qAD,n.f⟩ k);have o:d.types.length<=9223372036854775807:=by
  have:=u.types.n_eq;have:=u.types.cap;have:=u.types.fit;omega
 grind[inI]
theorem qGz(G:qAz d m)(g:qCK d m nm args=0):qAz d (qBS d F (qCJ d nm) args (qBU m)).st.mm:=by
 obtain⟨i,q,f,t,k⟩:=qGR g;rw[f];exact(play_snd (F:=F) (qGy G.valid G.chk) t (qJn G) (qAp (qCZ (qDP m).symm) k)).good
end
end Go.Proofs
namespace Go.Proofs
open Go Go.Sx
def qBp(w:World):Mem:=λb=>w.heap[b]?
theorem heapM_le(w:World):(qBp w).le w:=λ_ _ h=>h
theorem qGH{α β:Type}{f:α->Option β}:∀{l:List α}{r:List β},l.mapM f=some r->r.length=l.length/\∀(i:Nat)(a:α),l[i]?=some a->∃b,r[i]?=some b/\f a=some b
 |[],r,h=>by simp_all
 |x::l,r,h=>by
  simp only[List.mapM_cons,Option.bind_eq_bind,vA,Option.pure_def,zF]at h;obtain⟨b,g,t,k,rfl⟩:=h;obtain⟨h1,h2⟩:=qGH k;grind
theorem cells_row{w:World}{a:Addr}{n:Nat}{cs:List Value}(h:w.cells? 0 a n=some cs)(j:0<n):(qBp w).row a n=some cs:=by
 unfold World.cells? at h;rw[if_pos (Nat.zero_le _)]at h;obtain⟨h1,h2⟩:=qGH h;have g:∀i,i<n->∃v,cs[i]?=some v/\w.cell? (a.add i)=some v:=λi z=>h2 i i (by simp[z]);obtain⟨Y,-,k⟩:=g 0 j;have r:a.add 0=a:=by rfl
 rw[r]at k;unfold World.cell? at k;split at k
 ·rename_i c t fr q;split at k;·cases k
  ·rename_i J;have f:a.spot.isNone=true:=by simp_all
   have x:a.spot=none:=by simp_all
   have y:∀i,i<n->∃v,cs[i]?=some v/\c[a.off+i]?=some v:=λi z=>by
    obtain⟨v,hv,G⟩:=g i z;refine⟨v,hv,?_⟩;have e:a.add i=⟨a.block,a.off+i,none⟩:=by
     unfold Addr.add;by_cases h0:i=0
     ·subst h0;rw[if_pos rfl];cases a with
      |mk b o s=>simp_all
     grind
    grind[World.cell?]
   have u:a.off+n<=c.size:=by
    obtain⟨v,_,G⟩:=y (n-1) (by omega);grind
   have Z:cs.length=n:=by rw[h1];simp
   unfold Mem.row qBp;simp only[q];rw[if_pos ⟨f,u⟩];congr 1;apply List.ext_getElem?;grind
 ·cases k
section
variable{H:Type}{enc:TypeId×Value->H}{w:World}
noncomputable abbrev TR(enc:TypeId×Value->H)(w:World)(n:Nat)(t:TypeId)(cs:List Value):=vB enc xD w 0 (λ_=>true) true n t cs
theorem rd_str{n:Nat}{t:TypeId}{cs:List Value}{x:DataW H×List MemPlace}(k:xD.underlying t=some .string)(h:TR enc w n t cs=some x):∃s,cs=[.string s]:=by
 cases n with
 |zero=>cases h
 |succ n=>
  unfold TR vB at h;grind
theorem rd_int{n:Nat}{t:TypeId}{cs:List Value}{x:DataW H×List MemPlace}(k:xD.underlying t=some (.int .i64))(h:TR enc w n t cs=some x):∃v:Int,cs=[.int .i64 v]/\yu.min<=v/\v<=yu.max:=by
 cases n with
 |zero=>cases h
 |succ n=>
  unfold TR vB at h;grind[Lit.wf]
theorem rd_slice{α:Type}{row:α->List Value}{ok:α->Prop}{sz n:Nat}{t e:TypeId}{cs:List Value}{x:DataW H×List MemPlace}(q:xD.underlying t=some (.slice e))(Y:xD.cellsOf e=sz)(o:0<sz)(j:∀a,(row a).length=sz)
  (v:∀m,m<n->∀cs x,TR enc w m e cs=some x->∃a,row a=cs/\ok a) (h:TR enc w n t cs=some x):∃(s:Sl)(xs:List α),cs=[.slice s.p s.n s.c]/\qAc (qBp w) s sz (xs.map row)/\∀a∈xs,ok a:=by
 cases n with
 |zero=>cases h
 |succ n=>
  have key:∀(a:Addr)(len cap:Nat),TR enc w (n+1) t [.slice (some a) len cap]=some x->∃(xs:List α),qAc (qBp w) ⟨some a,len,cap⟩ sz (xs.map row)/\∀a∈xs,ok a:=by
   intro a len cap h;unfold TR vB at h;rw[q]at h;simp only at h;split at h;case isFalse=>cases h
   rename_i k;simp only[vA]at h;obtain⟨f,hm,-⟩:=h;obtain⟨h1,h2⟩:=qGH hm;have u:∀i:Fin len,∃y:α,(qBp w).row (a.add (i*sz)) sz=some (row y)/\ok y:=by
    intro i;obtain⟨b,-,r⟩:=h2 i i (by simp);simp only[vA]at r;obtain⟨J,G,z⟩:=r;obtain⟨y,W,Z⟩:=v n (vC n) J _ z;grind[cells_row]
   refine⟨List.ofFn λi=>Classical.choose (u i),⟨by simp,k.2.1,by grind[maxLen],?_,?_⟩,?_⟩;·simp_all
   ·grind
   grind
  have g:cs=[.slice none 0 0]∨∃a len cap,cs=[.slice (some a) len cap]:=by
   unfold TR vB at h;grind
  rcases g with rfl|⟨a,len,cap,rfl⟩;·exact⟨⟨none,0,0⟩,[],rfl,qAc.nil,by simp⟩
  grind
theorem qBt{n:Nat}{t:TypeId}{fs:Array Field}{cs:List Value}{x:DataW H×List MemPlace}(z:xD.underlying t=some (.struct fs))(h:TR enc w n t cs=some x):
  cs.length=xD.cellsOf t/\∃m,m<n/\∀(i:Nat)(f:Field),fs.toList[i]?=some f->∃y,TR enc w m f.type ((cs.drop f.offset).take (xD.cellsOf f.type))=some y:=by
 cases n with
 |zero=>cases h
 |succ n=>
  have key:cs.length=xD.cellsOf t->(∃xs,(fs.toList.mapM λf=>vB enc xD w 0 (λ_=>true) true n f.type ((cs.drop f.offset).take (xD.cellsOf f.type)))=some xs)->
    cs.length=xD.cellsOf t/\∃m,m<n+1/\∀(i:Nat)(f:Field),fs.toList[i]?=some f->∃y,TR enc w m f.type ((cs.drop f.offset).take (xD.cellsOf f.type))=some y:=by
   rintro g ⟨xs,u⟩;refine⟨g,n,vC n,λi f j=>?_⟩;obtain⟨-,h2⟩:=qGH u;grind
  unfold TR vB at h;rw[z]at h;split at h;all_goals first|(rename_i e;cases e;done)|(rename_i e _;cases e;done)|(rename_i e _ _;cases e;done)|(exact absurd rfl ((by assumption:∀k:Array Field,some (vD fs)=some (vD k)->False) fs))|skip
  rename_i e;cases e;split at h
  ·rename_i g;simp only[Option.map_eq_some_iff]at h;obtain⟨xs,u,-⟩:=h;simp_all
  simp_all
end
end Go.Proofs
namespace Go.Proofs
open Go Go.Sx
section
variable{H:Type}{enc:TypeId×Value->H}{w:World}
theorem at1{cs:List Value}{v:Value}{off m:Nat}{t:TypeId}(h:∃y,TR enc w m t ((cs.drop off).take (xD.cellsOf t))=some y)(k:xD.cellsOf t=1)(hv:cs[off]?=some v):∃y,TR enc w m t [v]=some y:=by
 grind[yw,List.drop_eq_getElem_cons]
theorem cl9:xD.cellsOf 9=1:=by kernel_rfl
theorem cl3:xD.cellsOf 3=1:=by kernel_rfl
theorem cl22:xD.cellsOf 22=1:=by kernel_rfl
theorem cl23:xD.cellsOf 23=1:=by kernel_rfl
theorem cl24:xD.cellsOf 24=1:=by kernel_rfl
theorem cl25:xD.cellsOf 25=1:=by kernel_rfl
theorem cl26:xD.cellsOf 26=1:=by kernel_rfl
theorem cl27:xD.cellsOf 27=1:=by kernel_rfl
theorem cl28:xD.cellsOf 28=1:=by kernel_rfl
theorem cl38:xD.cellsOf 149=1:=by kernel_rfl
theorem cl52:xD.cellsOf 141=1:=by kernel_rfl
theorem cl40:xD.cellsOf 151=4:=by kernel_rfl
theorem cl67:xD.cellsOf 101=2:=by kernel_rfl
theorem cl94:xD.cellsOf 98=2:=by kernel_rfl
theorem cl54:xD.cellsOf 143=5:=by kernel_rfl
theorem cl75:xD.cellsOf 154=5:=by kernel_rfl
theorem cl97:xD.cellsOf 184=7:=by kernel_rfl
theorem cl58:xD.cellsOf 187=6:=by kernel_rfl
theorem cl61:xD.cellsOf 189=5:=by kernel_rfl
theorem cl64:xD.cellsOf 191=5:=by kernel_rfl
theorem cl30:xD.cellsOf 30=8:=by kernel_rfl
theorem gS{m:Nat}{v:Value}(h:∃y,TR enc w m 9 [v]=some y):∃s,v=.string s:=by
 obtain⟨y,k⟩:=h;obtain⟨s,e⟩:=rd_str Tryz.underlying9 k;exact⟨s,by simpa using e⟩
theorem gI{m:Nat}{v:Value}(h:∃y,TR enc w m 3 [v]=some y):∃n:Int,v=.int .i64 n/\yu.min<=n/\n<=yu.max:=by
 obtain⟨y,k⟩:=h;obtain⟨s,e,h1⟩:=rd_int wo k;exact⟨s,by simpa using e,h1⟩
theorem gSl{α:Type}{row:α->List Value}{ok:α->Prop}{sz m:Nat}{t e:TypeId}{v:Value}(u:xD.underlying t=some (.slice e))(z:xD.cellsOf e=sz)(g:0<sz)(k:∀a,(row a).length=sz)
  (j:∀f,f<m->∀cs x,TR enc w f e cs=some x->∃a,row a=cs/\ok a) (h:∃y,TR enc w m t [v]=some y):∃(s:Sl)(xs:List α),v=.slice s.p s.n s.c/\qAc (qBp w) s sz (xs.map row)/\∀a∈xs,ok a:=by
 obtain⟨y,i⟩:=h;obtain⟨s,xs,e,h1,h2⟩:=rd_slice u z g k j i;grind
theorem len2{cs:List Value}(h:cs.length=2):∃a b,cs=[a,b]:=by
 match cs,h with
 |[a,b],_=>simp_all
theorem len4{cs:List Value}(h:cs.length=4):∃a b c d,cs=[a,b,c,d]:=by
 match cs,h with
 |[a,b,c,d],_=>simp_all
theorem len5{cs:List Value}(h:cs.length=5):∃a b c d e,cs=[a,b,c,d,e]:=by
 match cs,h with
 |[a,b,c,d,e],_=>simp_all
theorem len6{cs:List Value}(h:cs.length=6):∃a b c d e f,cs=[a,b,c,d,e,f]:=by
 match cs,h with
 |[a,b,c,d,e,f],_=>simp_all
theorem len7{cs:List Value}(h:cs.length=7):∃a b c d e f g,cs=[a,b,c,d,e,f,g]:=by
 match cs,h with
 |[a,b,c,d,e,f,g],_=>simp_all
theorem len8{cs:List Value}(h:cs.length=8):∃a b c d e f g i,cs=[a,b,c,d,e,f,g,i]:=by
 match cs,h with
 |[a,b,c,d,e,f,g,i],_=>simp_all
theorem rdFld{n:Nat}{cs:List Value}{x:DataW H×List MemPlace}(h:TR enc w n 101 cs=some x):∃f:Fld,Fld.row f=cs/\True:=by
 obtain⟨g,m,-,k⟩:=qBt Tryz.underlying101 h;obtain⟨a,b,rfl⟩:=len2 (g.trans cl67);obtain⟨t,rfl⟩:=gS (at1 (k 0 _ rfl) cl9 rfl);obtain⟨u,rfl⟩:=gS (at1 (k 1 _ rfl) cl9 rfl);exact⟨⟨t,u⟩,rfl,trivial⟩
theorem rdE:∀(n:Nat)(cs:List Value)(x:DataW H×List MemPlace),TR enc w n 151 cs=some x->∃e:E,E.row e=cs/\E.Ok (qBp w) e:=by
 intro n;induction n using yR with
 |_ n f=>
 intro cs x h;obtain⟨t,m,hm,g⟩:=qBt Tryz.underlying151 h;obtain⟨a,b,c,d,rfl⟩:=len4 (t.trans cl40);obtain⟨op,rfl,u⟩:=gI (at1 (g 0 _ rfl) cl3 rfl);obtain⟨nn,rfl,z⟩:=gI (at1 (g 1 _ rfl) cl3 rfl);obtain⟨s,rfl⟩:=gS (at1 (g 2 _ rfl) cl9 rfl);obtain⟨l,k,rfl,y,j⟩:=gSl (row:=E.row) (ok:=E.Ok (qBp w)) vF cl40 (by decide) (λ_=>rfl) (λi r=>f i (by omega)) (at1 (g 3 _ rfl) cl38 rfl);exact⟨.mk op nn s l k,rfl,.mk y j u z⟩
theorem S.row_len:∀s:S,(S.row s).length=5:=λs=>by cases s;rfl
theorem rdS:∀(n:Nat)(cs:List Value)(x:DataW H×List MemPlace),TR enc w n 154 cs=some x->∃e:S,S.row e=cs/\S.Ok (qBp w) e:=by
 intro n;induction n using yR with
 |_ n r=>
 intro cs x h;obtain⟨q,m,hm,k⟩:=qBt Tryz.underlying154 h;obtain⟨a,b,c,d,e,rfl⟩:=len5 (q.trans cl75);obtain⟨op,rfl,o⟩:=gI (at1 (k 0 _ rfl) cl3 rfl);obtain⟨s,rfl⟩:=gS (at1 (k 1 _ rfl) cl9 rfl);obtain⟨el,es,rfl,f,t⟩:=gSl (row:=E.row) (ok:=E.Ok (qBp w)) vF cl40 (by decide) (λ_=>rfl) (λg _=>rdE g) (at1 (k 2 _ rfl) cl38 rfl);obtain⟨ll,ls,rfl,u,z⟩:=gSl (row:=S.row) (ok:=S.Ok (qBp w)) vG cl75 (by decide) S.row_len (λg y=>r g (by omega)) (at1 (k 3 _ rfl) cl52 rfl);obtain⟨xl,xs,rfl,j,i⟩:=gSl (row:=S.row) (ok:=S.Ok (qBp w)) vG cl75 (by decide) S.row_len (λg y=>r g (by omega)) (at1 (k 4 _ rfl) cl52 rfl);exact⟨.mk op s el es ll ls xl xs,rfl,.mk f t u z j i o⟩
theorem gF{m:Nat}{v:Value}(h:∃y,TR enc w m 23 [v]=some y):∃(s:Sl)(xs:List Fld),v=.slice s.p s.n s.c/\qAc (qBp w) s 2 (xs.map Fld.row):=by
 obtain⟨s,xs,h1,h2,-⟩:=gSl (row:=Fld.row) (ok:=λ_=>True) Tryz.underlying23 cl67 (by decide) (λ_=>rfl) (λ_ _ _ _=>rdFld) h;grind
theorem rdTy{n:Nat}{cs:List Value}{x:DataW H×List MemPlace}(h:TR enc w n 98 cs=some x):∃f:Ty,Ty.row f=cs/\Ty.Ok (qBp w) f:=by
 obtain⟨t,m,-,g⟩:=qBt Tryz.underlying98 h;obtain⟨a,b,rfl⟩:=len2 (t.trans cl94);obtain⟨u,rfl⟩:=gS (at1 (g 0 _ rfl) cl9 rfl);obtain⟨l,k,rfl,z⟩:=gF (at1 (g 1 _ rfl) cl23 rfl);exact⟨⟨u,l,k⟩,rfl,⟨z⟩⟩
theorem rdPr{n:Nat}{cs:List Value}{x:DataW H×List MemPlace}(h:TR enc w n 143 cs=some x):∃f:Pr,Pr.row f=cs/\Pr.Ok (qBp w) f:=by
 obtain⟨y,m,-,k⟩:=qBt Tryz.underlying143 h;obtain⟨a,b,c,d,e,rfl⟩:=len5 (y.trans cl54);obtain⟨j,rfl⟩:=gS (at1 (k 0 _ rfl) cl9 rfl);obtain⟨i,r,rfl,g⟩:=gF (at1 (k 1 _ rfl) cl23 rfl);obtain⟨q,rfl⟩:=gS (at1 (k 2 _ rfl) cl9 rfl);obtain⟨o,s,rfl,t⟩:=gF (at1 (k 3 _ rfl) cl23 rfl);obtain⟨v,J,rfl,u,z⟩:=gSl (row:=S.row) (ok:=S.Ok (qBp w)) vG cl75 (by decide) S.row_len (λG _=>rdS G) (at1 (k 4 _ rfl) cl52 rfl);exact⟨⟨j,i,r,q,o,s,v,J⟩,rfl,⟨g,t,u,z⟩⟩
theorem rdMs{n:Nat}{cs:List Value}{x:DataW H×List MemPlace}(h:TR enc w n 184 cs=some x):∃f:Ms,Ms.row f=cs/\Ms.Ok (qBp w) f:=by
 obtain⟨r,m,-,k⟩:=qBt Tryz.underlying184 h;obtain⟨a,b,c,d,e,f,g,rfl⟩:=len7 (r.trans cl97);obtain⟨z,rfl⟩:=gS (at1 (k 0 _ rfl) cl9 rfl);obtain⟨j,rfl⟩:=gS (at1 (k 1 _ rfl) cl9 rfl);obtain⟨nn,rfl,q⟩:=gI (at1 (k 2 _ rfl) cl3 rfl);obtain⟨y,t⟩:=k 3 _ rfl;change TR enc w m 151 (([xI z,.string j,.int .i64 nn,d,e,f,g].drop 3).take (xD.cellsOf 151))=some y at t;rw[cl40]at t;obtain⟨x,i,u⟩:=rdE m _ _ t;simp only[vH,vJ,wk,vK,E.row,yD,and_true]at i;obtain⟨rfl,rfl,rfl,rfl⟩:=i;exact⟨⟨z,j,nn,x⟩,rfl,⟨u,q⟩⟩
theorem rdIv{n:Nat}{cs:List Value}{x:DataW H×List MemPlace}(h:TR enc w n 187 cs=some x):∃f:Iv,Iv.row f=cs/\E.Ok (qBp w) f.x:=by
 obtain⟨r,m,-,k⟩:=qBt Tryz.underlying187 h;obtain⟨a,b,d,e,f,g,rfl⟩:=len6 (r.trans cl58);obtain⟨z,rfl⟩:=gS (at1 (k 0 _ rfl) cl9 rfl);obtain⟨j,rfl⟩:=gS (at1 (k 1 _ rfl) cl9 rfl);obtain⟨y,t⟩:=k 2 _ rfl;change TR enc w m 151 (([xI z,.string j,d,e,f,g].drop 2).take (xD.cellsOf 151))=some y at t;rw[cl40]at t;obtain⟨x,i,u⟩:=rdE m _ _ t;simp only[vH,vJ,wk,vK,E.row,yD,and_true]at i;obtain⟨rfl,rfl,rfl,rfl⟩:=i;exact⟨⟨z,j,x⟩,rfl,u⟩
theorem rdPo{n:Nat}{cs:List Value}{x:DataW H×List MemPlace}(h:TR enc w n 189 cs=some x):∃f:Po,Po.row f=cs/\E.Ok (qBp w) f.x:=by
 obtain⟨i,m,-,u⟩:=qBt Tryz.underlying189 h;obtain⟨a,d,e,f,g,rfl⟩:=len5 (i.trans cl61);obtain⟨z,rfl⟩:=gS (at1 (u 0 _ rfl) cl9 rfl);obtain⟨y,k⟩:=u 1 _ rfl;change TR enc w m 151 (([xI z,d,e,f,g].drop 1).take (xD.cellsOf 151))=some y at k;rw[cl40]at k;obtain⟨x,j,t⟩:=rdE m _ _ k;simp only[vH,vJ,wk,vK,E.row,yD,and_true]at j;obtain⟨rfl,rfl,rfl,rfl⟩:=j;exact⟨⟨z,x⟩,rfl,t⟩
theorem rdBd{n:Nat}{cs:List Value}{x:DataW H×List MemPlace}(h:TR enc w n 191 cs=some x):∃f:Bd,Bd.row f=cs/\E.Ok (qBp w) f.x:=by
 obtain⟨i,m,-,u⟩:=qBt Tryz.underlying191 h;obtain⟨a,d,e,f,g,rfl⟩:=len5 (i.trans cl64);obtain⟨z,rfl⟩:=gS (at1 (u 0 _ rfl) cl9 rfl);obtain⟨y,k⟩:=u 1 _ rfl;change TR enc w m 151 (([xI z,d,e,f,g].drop 1).take (xD.cellsOf 151))=some y at k;rw[cl40]at k;obtain⟨x,j,t⟩:=rdE m _ _ k;simp only[vH,vJ,wk,vK,E.row,yD,and_true]at j;obtain⟨rfl,rfl,rfl,rfl⟩:=j;exact⟨⟨z,x⟩,rfl,t⟩
theorem rdDs{n:Nat}{cs:List Value}{x:DataW H×List MemPlace}(h:TR enc w n 30 cs=some x):∃d:Ds,d.row=cs/\Ds.Ok (qBp w) d:=by
 obtain⟨t,m,-,k⟩:=qBt Tryz.underlying30 h;obtain⟨a,b,c,d,e,f,g,i,rfl⟩:=len8 (t.trans cl30);obtain⟨u,rfl⟩:=gS (at1 (k 0 _ rfl) cl9 rfl);obtain⟨z,y,rfl,h1,j⟩:=gSl (row:=Ty.row) (ok:=Ty.Ok (qBp w)) Tryz.underlying22 cl94 (by decide) (λ_=>rfl) (λ_ _ _ _=>rdTy) (at1 (k 1 _ rfl) cl22 rfl);obtain⟨r,q,rfl,h2⟩:=gF (at1 (k 2 _ rfl) cl23 rfl);obtain⟨o,s,rfl,h3,v⟩:=gSl (row:=Pr.row) (ok:=Pr.Ok (qBp w)) Tryz.underlying24 cl54 (by decide) (λ_=>rfl) (λ_ _ _ _=>rdPr) (at1 (k 3 _ rfl) cl24 rfl);obtain⟨J,G,rfl,h4,Z⟩:=gSl (row:=Ms.row) (ok:=Ms.Ok (qBp w)) Tryz.underlying25 cl97 (by decide) (λ_=>rfl) (λ_ _ _ _=>rdMs) (at1 (k 4 _ rfl) cl25 rfl);obtain⟨Y,W,rfl,O,A⟩:=gSl (row:=Iv.row) (ok:=λf=>E.Ok (qBp w) f.x) Tryz.underlying26 cl58 (by decide) (λ_=>rfl) (λ_ _ _ _=>rdIv) (at1 (k 5 _ rfl) cl26 rfl);obtain⟨I,L,rfl,R,X⟩:=gSl (row:=Po.row) (ok:=λf=>E.Ok (qBp w) f.x) Tryz.underlying27 cl61 (by decide) (λ_=>rfl) (λ_ _ _ _=>rdPo) (at1 (k 6 _ rfl) cl27 rfl);obtain⟨B,C,rfl,D,K⟩:=gSl (row:=Bd.row) (ok:=λf=>E.Ok (qBp w) f.x) Tryz.underlying28 cl64 (by decide) (λ_=>rfl) (λ_ _ _ _=>rdBd) (at1 (k 7 _ rfl) cl28 rfl);exact⟨⟨u,z,y,r,q,o,s,J,G,Y,W,I,L,B,C⟩,rfl,⟨h1,j,h2,h3,v,h4,Z,O,A,R,X,D,K⟩⟩
end
end Go.Proofs
namespace Go.Proofs.YtmeagdecjpknkaaGreatDoor
open Go Go.Sx Go.Proofs Go.ChangeShapes Go.WideShapes Go.ChangeAt Go.RowKit
theorem same_old{P:Program}{f:FuncId}{args:List Value}{W:World}{v:Value}(h:Pur P f args (qBp W) v):Calls P f args.toArray W λe k=>e=.returned v/\k.os=W.os/\k.output=W.output/\W.heap.size<=k.heap.size/\∀b,b<W.heap.size->k.heap[b]?=W.heap[b]?:=by
 have h2:Tri P f args.toArray (qBp W) λe V'=>e=.returned v/\V'=qBp W:=h;unfold Tri at h2;refine qCX (h2 W (heapM_le W)) ?_;rintro e k ⟨V',⟨rfl,rfl⟩,g⟩;refine⟨rfl,g.os,g.out,g.size,λb t=>?_⟩;have:qBp W b=some W.heap[b]:=yS t;rw[g.le b _ this];exact this.symm
theorem Tryz.own:ownKnob xD.godebug=none:=by kernel_rfl
theorem Tryz.laidOut:laidOutB xD=true:=by kernel_rfl
theorem tab_of{W:World}(h:xK xD W "strings.asciiSpace" .u8 xL):Tab (qBp W):=by
 have k:xD.globalNamed "strings.asciiSpace" =some 0:=by kernel_rfl
 unfold xK World.var? at h;rw[k,Option.bind_some]at h;split at h
 ·rename_i cs t fr g;simp only[zF]at h;exact⟨t,fr,by rw[<-h];exact g⟩
 ·cases h
theorem desc_of{H:Type}{enc:TypeId×Value->H}{W:World}{v:Value}{f:DataW H}{p:List MemPlace}(h:vL enc xD W 0 (λ_=>true) true 30 v f p):∃d:Ds,v=d.v/\Ds.Ok (qBp W) d:=by
 obtain⟨fuel,h⟩:=h;obtain⟨d,g,k⟩:=rdDs h;refine⟨d,?_,k⟩;have t:v.cells.toList.length=8:=by rw[<-g];rfl
 cases v with
 |agg cs=>
  have:cs.toList=d.row:=g.symm;show vM cs=.agg d.row.toArray;rw[<-this]
 |_=>simp[vN]at t
noncomputable def laidWorld(os:Os):World:=
 let w0:=World.holding xD os ⟨#[.cells #[.int .u16 9,.int .u16 13,.int .u16 1,.int .u16 32,.int .u16 133,.int .u16 101,.int .u16 160,.int .u16 5760,.int .u16 5600,.int .u16 8192,.int .u16 8202,.int .u16 1,.int .u16 8232,.int .u16 8233,.int .u16 1,.int .u16 8239,.int .u16 8287,.int .u16 48,.int .u16 12288,.int .u16 12288,.int .u16 1] 385,
  .cells #[.slice (some ⟨(vO xD os).heap.size,0,none⟩) 7 7,.slice none 0 0,.int .i64 2] 382],#[],[]⟩
 {w0 with heap:=(w0.heap.modify 0 fun
   |.cells _ t frozen=>.cells (xL.map λz=>Value.int .u8 z).toArray t frozen
   |o=>o).modify 1 fun
   |.cells _ t frozen=>.cells #[.pointer (some ⟨(vO xD os).heap.size+1,0,none⟩)] t frozen
   |o=>o}
theorem qLp(os:Os)(args:Array Value):laidMet xD [("unicode.White_Space",Rows.laid_unicode_White_Space),("strings.asciiSpace",Rows.laid_strings_asciiSpace)] ((laidWorld os).forCall (λ_ _=>0) ⟨#[],args,[]⟩).memory:=
 (LaidIn.of_run [0,1,(vO xD os).heap.size,(vO xD os).heap.size+1] 12 (by kernel_rfl) (by kernel_rfl) (by kernel_rfl) (by kernel_rfl)).met
end Go.Proofs.YtmeagdecjpknkaaGreatDoor
namespace Go.Proofs.YtmeagdecjpknkaaGreatDoor
open Go Go.Sx Go.Proofs Go.ChangeShapes Go.WideShapes Go.ChangeAt Go.RowKit
abbrev laid0:List (String×DataW Unit):=[("unicode.White_Space",Rows.laid_unicode_White_Space),("strings.asciiSpace",Rows.laid_strings_asciiSpace)]
theorem qHS{w:World}:laidMetH xD laid0 w↔laidMet xD laid0 w:=by
 rfl
theorem tab_laid{W:World}(h:laidMet xD laid0 W):Tab (qBp W):=by
 obtain⟨ps,h1,h2,h3⟩:=h;obtain⟨g,t,cs,fuel,p,q,Z,Y,b,O,k,s⟩:=h1;obtain⟨v,J,G,x,A,I,j,i,f,u,y,a⟩:=k;refine tab_of ?_;unfold xK;rw[f];have r:v=0:=vP (j.symm.trans (show xD.globalNamed "strings.asciiSpace" =some 0 by kernel_rfl));subst r;have o:J=365:=vP (i.symm.trans (show(xD.globals[0]?).map (·.type)=some 365 by kernel_rfl));subst o;have z:(Rows.laid_strings_asciiSpace:DataW Unit)=Lib.tabData .u8 xL:=by kernel_rfl
 rw[z]at u;rw[<-Lib.cells_of_tab (n:=256) (e:=5) Tryz.underlying365 Tryz.underlying5 (by kernel_rfl) (by kernel_rfl) u]
theorem kept{W k:World}(h1:k.os=W.os)(h2:k.output=W.output)(f:∀b,b<W.heap.size->k.heap[b]?=W.heap[b]?)(g:MemPlace->Prop):W.keptBut k g:=by
 refine⟨h1,h2,λi t=>?_⟩;grind
theorem again_arg{H:Type}{enc:TypeId×Value->H}{t:TypeId}(y:xD.readableRec t=true)(g:t<xD.types.size){W u:World}{v:Value}{d:DataW H}{ps:List MemPlace}(h:vL enc xD W 0 (λ_=>true) true t v d ps)
  (k:∀b,b<W.heap.size->u.heap[b]?=W.heap[b]?) (f:∀x∈ps,x.block<W.heap.size):vL enc xD u 0 (λb=>decide (b<W.heap.size)) true t v d ps:=
 WideElems.Trod_stays Tryz.laidOut y g h (λx z=>by
  have:=f x z;cases x with
  |cell b o=>exact World.cell?_of_block (w:=W) (k b this)
  |map b=>exact k b this) (λx z=>by simp_all)
theorem wit{C:Checked}{os:Os}{f:FuncId}{fn:Func}{s:ChangeSpec}{g:List PathCond}{apart:Bool}{X:World->Array Value->Prop}{H:Type}{enc:TypeId×Value->H}(w0:World)(args:Array Value)(fuel:Nat)(z:w0.os=os)
  (hv:(w0.forCall (λ_ _=>0) ⟨#[],args,[]⟩).variablesRefB C.prog=true)
  (x:((w0.forCall (λ_ _=>0) ⟨#[],args,[]⟩).heap.toList.drop C.prog.globals.size).take ((begin C.prog (λ_ _=>0) default).world.heap.size-C.prog.globals.size)=
   (begin C.prog (λ_ _=>0) default).world.heap.toList.drop C.prog.globals.size)
  (t:Input.okWideB C.prog (w0.forCall (λ_ _=>0) ⟨#[],args,[]⟩) f ⟨#[],args,[]⟩=true)
  (u:s.preB enc C.prog fn g apart (w0.forCall (λ_ _=>0) ⟨#[],args,[]⟩).memory args fuel=true)
  (y:s.sizedB enc C.prog fn apart (w0.forCall (λ_ _=>0) ⟨#[],args,[]⟩).memory args fuel=true)
  (j:X (w0.forCall (λ_ _=>0) ⟨#[],args,[]⟩).memory args):
  ∃(w:World)(k:Tape)(i:Input),w.os=os/\(w.forCall k i).Shaped C.prog/\i.vars=[]/\Input.okWide C.prog (w.forCall k i) .any w.heap.size f i/\
   ((s.pre enc C.prog fn g apart (w.forCall k i).memory i.args/\X (w.forCall k i).memory i.args)/\sizedMet enc C.prog fn (OpenSpec.ofChange s) apart (w.forCall k i).memory i.args)/\({}:Assume).holds C.prog (lone (Frame.enter C.prog f i.args .normal) [] (w.forCall k i)):=
 ⟨w0,λ_ _=>0,⟨#[],args,[]⟩,z,World.shaped_of_RefB hv x,(vQ (base:=0) t).1,(vQ t).2,⟨⟨ChangeSpec.pre_of_preB u,j⟩,sizedMet_of_sizedB y⟩,by
  grind[Assume.holds]⟩
theorem again_all{H:Type}{enc:TypeId×Value->H}{W y:World}(k:∀b,b<W.heap.size->y.heap[b]?=W.heap[b]?):∀{ts:List TypeId}{vs:List Value}{ds:List (DataW H)}{ps:List MemPlace},(∀t∈ts,xD.readableRec t=true/\t<xD.types.size)->
  vR enc xD W 0 (λ_=>true) true ts vs ds ps->(∀x∈ps,x.block<W.heap.size)->vR enc xD y 0 (λb=>decide (b<W.heap.size)) true ts vs ds ps
 |[],_,_,_,_,h,_=>by
  obtain⟨rfl,rfl,rfl⟩:=trodAll_nil h;rfl
 |t::ts,_,_,_,f,h,g=>by
  obtain⟨v,vs,d,ds,p,q,rfl,rfl,rfl,h1,h2⟩:=trodAll_cons h;exact⟨p,q,again_arg (f t (by simp)).1 (f t (by simp)).2 h1 k (λx z=>g x (List.mem_append_left _ z)),again_all k (λu hu=>f u (by simp[hu])) h2 (λx z=>g x (List.mem_append_right _ z)),rfl⟩
end Go.Proofs.YtmeagdecjpknkaaGreatDoor
namespace Go.Proofs.YtmeagdecjpknkaaGreatDoor
open Go Go.Sx Go.Proofs Go.ChangeShapes Go.WideShapes Go.ChangeAt Go.RowKit
section
variable{H:Type}{enc:TypeId×Value->H}{w:World}
theorem cl31:xD.cellsOf 31=1:=by kernel_rfl
theorem clNd:xD.cellsOf 92=2:=by kernel_rfl
theorem clNds:xD.cellsOf 32=1:=by kernel_rfl
theorem clMm:xD.cellsOf 34=2:=by kernel_rfl
theorem gInts{m:Nat}{v:Value}(h:∃y,TR enc w m 31 [v]=some y):∃(s:Sl)(xs:List Int),v=.slice s.p s.n s.c/\qAc (qBp w) s 1 (xs.map qAf)/\∀x∈xs,inI x:=
 gSl (row:=qAf) (ok:=inI) wq cl3 (by decide) (λ_=>rfl) (λf _ cs x k=>by
  obtain⟨n,rfl,g⟩:=rd_int wo k;exact⟨n,rfl,g⟩) h
theorem rdNd{n:Nat}{cs:List Value}{x:DataW H×List MemPlace}(h:TR enc w n 92 cs=some x):∃f:Nd,Nd.row f=cs/\Nd.Ok (qBp w) f:=by
 obtain⟨u,m,-,g⟩:=qBt Tryz.underlying92 h;obtain⟨a,b,rfl⟩:=len2 (u.trans clNd);obtain⟨t,rfl,z⟩:=gI (at1 (g 0 _ rfl) cl3 rfl);obtain⟨l,k,rfl,y,j⟩:=gInts (at1 (g 1 _ rfl) cl31 rfl);exact⟨⟨t,l,k⟩,rfl,⟨y,z,j⟩⟩
theorem rdMm{n:Nat}{cs:List Value}{x:DataW H×List MemPlace}(h:TR enc w n 34 cs=some x):∃m:Mm,m.row=cs/\Mm.Ok (qBp w) m:=by
 obtain⟨g,m,-,k⟩:=qBt Tryz.underlying34 h;obtain⟨a,b,rfl⟩:=len2 (g.trans clMm);obtain⟨f,t,rfl,h1,u⟩:=gInts (at1 (k 0 _ rfl) cl31 rfl);obtain⟨z,y,rfl,h2,j⟩:=gSl (row:=Nd.row) (ok:=Nd.Ok (qBp w)) Tryz.underlying32 clNd (by decide) (λ_=>rfl) (λ_ _ _ _=>rdNd) (at1 (k 1 _ rfl) clNds rfl);exact⟨⟨f,t,z,y⟩,rfl,⟨h1,u,h2,j⟩⟩
theorem clCl:xD.cellsOf 49=2:=by kernel_rfl
theorem rdCl{n:Nat}{cs:List Value}{x:DataW H×List MemPlace}(h:TR enc w n 49 cs=some x):∃(nm:ByteArray)(l:Sl)(xs:List Int),[xI nm,l.v]=cs/\qAc (qBp w) l 1 (xs.map qAf):=by
 obtain⟨f,m,-,g⟩:=qBt Tryz.underlying49 h;obtain⟨a,b,rfl⟩:=len2 (f.trans clCl);obtain⟨t,rfl⟩:=gS (at1 (g 0 _ rfl) cl9 rfl);obtain⟨l,k,rfl,u,-⟩:=gInts (at1 (g 1 _ rfl) cl31 rfl);exact⟨t,l,k,rfl,u⟩
end
theorem mem_of{H:Type}{enc:TypeId×Value->H}{W:World}{v:Value}{g:DataW H}{p:List MemPlace}(h:vL enc xD W 0 (λ_=>true) true 34 v g p):∃m:Mm,v=m.v/\Mm.Ok (qBp W) m:=by
 obtain⟨fuel,h⟩:=h;obtain⟨m,hm,k⟩:=rdMm h;refine⟨m,?_,k⟩;have f:v.cells.toList.length=2:=by rw[<-hm];rfl
 cases v with
 |agg cs=>
  have:cs.toList=m.row:=hm.symm;show vM cs=.agg m.row.toArray;rw[<-this]
 |_=>simp[vN]at f
theorem call_of{H:Type}{enc:TypeId×Value->H}{W:World}{v:Value}{g:DataW H}{p:List MemPlace}(h:vL enc xD W 0 (λ_=>true) true 49 v g p):∃(nm:ByteArray)(l:Sl)(xs:List Int),v=.agg #[.string nm,l.v]/\qAc (qBp W) l 1 (xs.map qAf):=by
 obtain⟨fuel,h⟩:=h;obtain⟨nm,l,xs,hm,k⟩:=rdCl h;refine⟨nm,l,xs,?_,k⟩;have f:v.cells.toList.length=2:=by rw[<-hm];rfl
 cases v with
 |agg cs=>
  have:cs.toList=[xI nm,l.v]:=hm.symm;show vM cs=.agg ([xI nm,l.v]:List Value).toArray;rw[<-this]
 |_=>simp[vN]at f
end Go.Proofs.YtmeagdecjpknkaaGreatDoor
namespace Go.Proofs.YtmeagdecjpknkaaGreatDoor
open Go Go.Sx Go.Proofs Go.ChangeShapes Go.WideShapes Go.ChangeAt Go.RowKit
set_option maxRecDepth 100000 in
theorem ints_of{H:Type}{enc:TypeId×Value->H}{W f:World}{r:Reach}{b0:Nat}{v:Value}{t:DataW H}{p:List MemPlace}(g:Value.okWide xD f r b0 31 v)(h:vL enc xD W 0 (λ_=>true) true 31 v t p):∃(l:Sl)(xs:List Int),v=l.v/\qAc (qBp W) l 1 (xs.map qAf):=by
 obtain⟨a,len,cap,rfl⟩:=okWide_slice wq g;obtain⟨fuel,h⟩:=h;have h:∃y,TR enc W fuel 31 [.slice a len cap]=some y:=⟨_,h⟩;obtain⟨l,k,u,z,-⟩:=gInts h;exact⟨l,k,u,z⟩
theorem qKK{H:Type}{enc:TypeId×Value->H}{w:World}{a b c d e f g:TypeId}{args:Array Value}{ds:List (DataW H)}{ps:List MemPlace}(h:vR enc xD w 0 (λ_=>true) true [a,b,c,d,e,f,g] args.toList ds ps):
  ∃t u z y x j i r d1 o s v J G p0 p1 Z p3 Y W O,args=#[t,u,z,y,x,j,i]/\ds=[r,d1,o,s,v,J,G]/\ps=p0++(p1++(Z++(p3++(Y++(W++O)))))/\vL enc xD w 0 (λ_=>true) true a t r p0/\vL enc xD w 0 (λ_=>true) true b u d1 p1/\vL enc xD w 0 (λ_=>true) true c z o Z/\vL enc xD w 0 (λ_=>true) true d y s p3/\vL enc xD w 0 (λ_=>true) true e x v Y/\vL enc xD w 0 (λ_=>true) true f j J W/\vL enc xD w 0 (λ_=>true) true g i G O:=by
 obtain⟨t,vs,r,I,p,q,A,rfl,rfl,h0,k⟩:=trodAll_cons h;obtain⟨u,L,d1,R,p1,q1,rfl,rfl,rfl,h1,k⟩:=trodAll_cons k;obtain⟨z,X,o,B,Z,q2,rfl,rfl,rfl,h2,k⟩:=trodAll_cons k;obtain⟨y,C,s,D,p3,q3,rfl,rfl,rfl,h3,k⟩:=trodAll_cons k;obtain⟨x,E,v,K,Y,q4,rfl,rfl,rfl,h4,k⟩:=trodAll_cons k;obtain⟨j,S,J,T,W,q5,rfl,rfl,rfl,U,k⟩:=trodAll_cons k;obtain⟨i,vs6,G,ds6,O,q6,rfl,rfl,rfl,h6,k⟩:=trodAll_cons k;obtain⟨rfl,rfl,rfl⟩:=trodAll_nil k;exact⟨t,u,z,y,x,j,i,r,d1,o,s,v,J,G,p,p1,Z,p3,Y,W,O,by grind,rfl,by simp,h0,h1,h2,h3,h4,U,h6⟩
end Go.Proofs.YtmeagdecjpknkaaGreatDoor
namespace Go.Proofs
open Go Go.Sx
end Go.Proofs
namespace Go.Proofs
open Go Go.Sx
mutual
def eEr:E->E|.mk o n s _ k=>.mk o n s qAD (qGb k)
def qGb:List E->List E|[]=>[]|x::xs=>eEr x::qGb xs
end
mutual
def sEr:S->S|.mk o s _ es _ ls _ xs=>.mk o s qAD (qGb es) qAD (qHb ls) qAD (qHb xs)
def qHb:List S->List S|[]=>[]|x::xs=>sEr x::qHb xs
end
def tEr(t:Ty):Ty:=⟨t.name,qAD,t.fields⟩
def pEr(p:Pr):Pr:=⟨p.name,qAD,p.params,p.result,qAD,p.locals,qAD,qHb p.body⟩
def dEr(d:Ds):Ds:=⟨d.name,qAD,d.types.map tEr,qAD,d.globals,qAD,d.procs.map pEr,qAD,[],qAD,[],qAD,[],qAD,[]⟩
theorem qDx:∀l:List E,qGb l=l.map eEr
 |[]=>by unfold qGb;rfl
 |x::xs=>by unfold qGb;rw[qDx xs];rfl
theorem qIm:∀l:List S,qHb l=l.map sEr
 |[]=>by unfold qHb;rfl
 |x::xs=>by unfold qHb;rw[qIm xs];rfl
theorem eErs_len(l:List E):(qGb l).length=l.length:=by rw[qDx,xd]
theorem sErs_len(l:List S):(qHb l).length=l.length:=by rw[qIm,xd]
mutual
theorem okE_er:∀(k:Int)(e:E),okE k (eEr e)=okE k e
 |k,.mk o n s _ l=>by unfold eEr okE;rw[eErs_len,okEs_er]
theorem okEs_er:∀(k:Int)(l:List E),okEs k (qGb l)=okEs k l
 |_,[]=>by unfold qGb;rfl
 |k,x::xs=>by unfold qGb okEs;rw[okE_er,okEs_er]
end
mutual
theorem szE_er:∀e:E,szE (eEr e)=szE e
 |.mk o n s _ l=>by unfold eEr szE;rw[szEs_er]
theorem szEs_er:∀l:List E,szEs (qGb l)=szEs l
 |[]=>by unfold qGb;rfl
 |x::xs=>by unfold qGb szEs;rw[szE_er,szEs_er]
end
theorem validE_er(e:E):qAM (eEr e)=qAM e:=by unfold qAM;rw[okE_er,szE_er]
theorem fop_er:∀l:List E,fop (qGb l)=fop l
 |[]=>by unfold qGb;rfl
 |.mk o n s _ l::xs=>by rfl
theorem shapeR_er(op:Int)(s:ByteArray)(es:List E)(nl k:Int):qBL op s (qGb es) nl k=qBL op s es nl k:=by
 unfold qBL qGu;have:(qGb es).all qAM=es.all qAM:=by
  rw[qDx,List.all_map];simp_all[congrArg,funext,validE_er]
 rw[eErs_len,fop_er,this]
mutual
theorem okS_er:∀(k:Int)(e:S),okS k (sEr e)=okS k e
 |k,.mk o s _ es _ ls _ xs=>by unfold sEr okS;rw[sErs_len,sErs_len,shapeR_er,qLi,qLi]
theorem qLi:∀(k:Int)(l:List S),qHc k (qHb l)=qHc k l
 |_,[]=>by unfold qHb;rfl
 |k,x::xs=>by unfold qHb qHc;rw[okS_er,qLi]
end
mutual
theorem szS_er:∀e:S,szS (sEr e)=szS e
 |.mk o s _ es _ ls _ xs=>by unfold sEr szS;rw[qKN,qKN]
theorem qKN:∀l:List S,qGq (qHb l)=qGq l
 |[]=>by unfold qHb;rfl
 |x::xs=>by unfold qHb qGq;rw[szS_er,qKN]
end
theorem qGX{α β:Type}{f:α->β}{p:β->Bool}{q:α->Bool}(l:List α)(h:∀x,p (f x)=q x):(l.map f).all p=l.all q:=by
 grind
theorem qLK{α β:Type}{f:α->β}{p:β->Bool}{q:α->Bool}(l:List α)(h:∀x,p (f x)=q x):(l.map f).any p=l.any q:=by
 grind
theorem idx_map{α β:Type}{f:α->β}{p:β->Bool}{q:α->Bool}(l:List α)(h:∀x,p (f x)=q x):qHu p (l.map f)=qHu q l:=by
 unfold qHu;have e:p∘f=q:=funext h;simp_all
theorem find_map'{α β:Type}{f:α->β}{p:β->Bool}{q:α->Bool}(l:List α)(h:∀x,p (f x)=q x):(l.map f).find? p=(l.find? q).map f:=by
 rw[List.find?_map];have e:p∘f=q:=funext h;rw[e]
theorem qFc{α β k:Type}{f:α->β}{p:Nat->β->Option k}{q:Nat->α->Option k}:∀(l:List α)(i:Nat),(∀j x,p j (f x)=q j x)->qAj p i (l.map f)=qAj q i l
 |[],_,_=>rfl
 |x::l,i,h=>by
  unfold List.map qAj;rw[h,qFc l (i+1) h]
theorem tyB_er(t:Ty):tyB (tEr t)=tyB t:=rfl
theorem prB_er(p:Pr):prB (pEr p)=prB p:=by
 unfold prB qEJ;show(qAV p.name&&qDn p.params 6&&qDn p.locals 12&&(decide (p.result=qAo [])||typB p.result)&&decide (qHc 1 (qHb p.body)=true/\qGq (qHb p.body)<=200))=_;rw[qLi,qKN]
section
variable(d:Ds)
theorem valid_er(h:qAJ d=true):qAJ (dEr d)=true:=by
 unfold qAJ at h⊢;simp only[zC,decide_eq_true_eq]at h⊢;refine⟨⟨⟨⟨⟨⟨⟨h.1.1.1.1.1.1.1,?_⟩,h.1.1.1.1.1.2⟩,?_⟩,rfl⟩,?_⟩,?_⟩,rfl⟩
 ·have:=h.1.1.1.1.1.1.2;show((d.types.map tEr).length:Int)<=12;simp_all
 ·have:=h.1.1.1.1.2;show((d.procs.map pEr).length:Int)<=40;simp_all
 ·show(d.types.map tEr).all tyB=true;grind[qGX,tyB_er]
 ·show(d.procs.map pEr).all prB=true;rw[qGX _ prB_er];exact h.1.2
theorem valid_re(h:qAJ (dEr d)=true)(h1:d.measures=[])(h2:d.invs=[])(h3:d.pots=[])(h4:d.bounds=[]):qAJ d=true:=by
 unfold qAJ at h⊢;simp only[zC,decide_eq_true_eq]at h⊢;refine⟨⟨⟨⟨⟨⟨⟨h.1.1.1.1.1.1.1,?_⟩,h.1.1.1.1.1.2⟩,?_⟩,?_⟩,?_⟩,?_⟩,?_⟩;·grind[dEr,tEr]
 ·grind[dEr,pEr]
 ·grind[lensB]
 ·have:=h.1.1.2;rw[show(dEr d).types=d.types.map tEr from rfl,qGX _ tyB_er]at this;exact this
 ·have:=h.1.2;rw[show(dEr d).procs=d.procs.map pEr from rfl,qGX _ prB_er]at this;exact this
 grind[qJT]
theorem qJl(s:ByteArray):qBa (dEr d) s=qBa d s:=qLK (f:=tEr) _ λ_=>rfl
theorem qLq(s:ByteArray):qBi (dEr d) s=qBi d s:=by unfold qBi;rw[qJl]
theorem fits_er(a b:ByteArray):qDH (dEr d) a b=qDH d a b:=by unfold qDH;rw[qJl]
theorem tyOf_er(s:ByteArray):qJL (dEr d) s=(qJL d s).map tEr:=find_map' (f:=tEr) _ λ_=>rfl
theorem prOf_er(s:ByteArray):qFA (dEr d) s=(qFA d s).map pEr:=find_map' (f:=pEr) _ λ_=>rfl
theorem fieldT_er(t n:ByteArray):qBY (dEr d) t n=qBY d t n:=by
 unfold qBY;rw[tyOf_er];cases qJL d t<;>rfl
theorem fitAll_er:∀(l:List ByteArray)(fs:List Fld),qCn (dEr d) l fs=qCn d l fs
 |a::l,f::fs=>by unfold qCn;rw[fits_er,fitAll_er]
 |[],_=>by simp[qCn]
 |_::_,[]=>by simp[qCn]
theorem callT_er(n:ByteArray)(l:List ByteArray):qFD (dEr d) n l=qFD d n l:=by
 unfold qFD;rw[prOf_er];cases qFA d n with
 |none=>rfl
 |some p=>
  show(if l.length≠p.params.length then _ else if qCn (dEr d) l p.params=true then _ else _)=_;rw[fitAll_er];rfl
theorem nodeT_er{sc:Sc}(k:sc.body=true)(op:Int)(s:ByteArray)(l:List ByteArray):qFU (dEr d) sc op s l=qFU d sc op s l:=by
 unfold qFU qIg;rw[if_pos k,if_pos k];simp only[fieldT_er,qJl,callT_er,fits_er]
mutual
theorem exprT_er{sc:Sc}(g:sc.body=true):∀e:E,qAq (dEr d) sc (eEr e)=qAq d sc e
 |.mk o n s _ k=>by unfold eEr qAq;rw[qGA g,nodeT_er d g]
theorem qGA{sc:Sc}(k:sc.body=true):∀(acc:List ByteArray)(l:List E),partsT (dEr d) sc acc (qGb l)=partsT d sc acc l
 |_,[]=>by rfl
 |acc,x::xs=>by unfold qGb partsT;rw[exprT_er k,qGA k]
end
theorem stmtT_er{sc:Sc}(g:sc.body=true)(r:ByteArray)(op:Int)(s:ByteArray)(es:List E):qEL (dEr d) sc r op s (qGb es)=qEL d sc r op s es:=by
 unfold qEL;rw[qGA d g];simp only[fits_er,fieldT_er];congr 1
 match es with
 |[]=>unfold qGb;rfl
 |.mk o n s _ k::es=>
  grind[qGb,eEr,E.k,E.s,qGA,callT_er]
mutual
theorem stT_er{sc:Sc}(k:sc.body=true)(r:ByteArray):∀(n:Int)(e:S),stT (dEr d) sc r n (sEr e)=stT d sc r n e
 |n,.mk o s _ es _ ls _ xs=>by
  unfold sEr stT;rw[stmtT_er d k,qKO k r (n+1) ls,qKO k r _ xs]
theorem qKO{sc:Sc}(k:sc.body=true)(r:ByteArray):∀(n:Int)(l:List S),qBK (dEr d) sc r n (qHb l)=qBK d sc r n l
 |_,[]=>by rfl
 |n,x::xs=>by unfold qHb qBK;rw[stT_er k,qKO k]
end
theorem oneT_er(l:List Fld)(i:Nat)(f:Fld):qEE (dEr d) l i f=qEE d l i f:=by unfold qEE;rw[qLq]
theorem declT_er(l:List Fld):qCp (dEr d) l=qCp d l:=by
 grind[qCp,oneT_er]
theorem types_er:qFE (dEr d)=qFE d:=by
 unfold qFE;congr 1
 ·unfold types1;refine qFc (f:=tEr) d.types 0 λj x=>?_;rw[show(dEr d).types=d.types.map tEr from rfl,<-List.map_take,qLK (f:=tEr) (q:=λg=>decide (g.name=x.name)) _ λ_=>rfl];rfl
 congr 1;·grind[types2,qFc,tEr,qCp,dEr,Int,declT_er]
 ·unfold types3;simp only[oneT_er];rfl
theorem heads_er:qEC (dEr d)=qEC d:=by
 unfold qEC;refine qFc (f:=pEr) d.procs 0 λj x=>?_;rw[show(dEr d).procs=d.procs.map pEr from rfl,<-List.map_take,qLK (f:=pEr) (q:=λg=>decide (g.name=x.name)) _ λ_=>rfl,declT_er,qLq];rfl
theorem bodies_er:qCv (dEr d)=qCv d:=by
 unfold qCv;refine qFc (f:=pEr) d.procs 0 λj x=>?_;show(if(qBK (dEr d) (qAg d x) x.result 0 (qHb x.body)).2≠0 then some (x.name,(qBK (dEr d) (qAg d x) x.result 0 (qHb x.body)).1,(qBK (dEr d) (qAg d x) x.result 0 (qHb x.body)).2)else none)=_;rw[qKO d rfl]
theorem qDu{α:Type}{a b:Option α}:a.or b=none↔a=none/\b=none:=by cases a<;>simp
theorem chk_er(h:qHW d=none):qHW (dEr d)=none:=by
 unfold qHW at h⊢;rw[qDu,qDu,qDu,qDu]at h;rw[types_er,heads_er,bodies_er,h.1,h.2.1,h.2.2.2.1];rfl
theorem chk_re(h:qHW (dEr d)=none)(h1:d.measures=[])(h2:d.invs=[])(h3:d.pots=[])(h4:d.bounds=[]):qHW d=none:=by
 unfold qHW at h⊢;rw[qDu,qDu,qDu,qDu,types_er,heads_er,bodies_er]at h;rw[h.1,h.2.1,h.2.2.2.1];have k:qEH d=none:=by unfold qEH form1 form2 form3 form4;rw[h1,h2,h3,h4];rfl
 have g:qHv d=none:=by unfold qHv exp1 exp2 exp3 exp4;rw[h1,h2,h3,h4];rfl
 rw[k,g];rfl
theorem idxT_er(s:ByteArray):qDw (dEr d) s=qDw d s:=idx_map (f:=tEr) _ λ_=>rfl
theorem qEa(t:Int):qAs (dEr d) t=qAs d t:=by
 unfold qAs;rw[show(dEr d).types=d.types.map tEr from rfl,ya,Option.map_map];rfl
theorem right_er(m:Mm)(t:ByteArray)(v:Int):qAy (dEr d) m t v=qAy d m t v:=by unfold qAy;rw[idxT_er]
theorem values_er(m:Mm)(l:List Fld)(vs:List Int):qAh (dEr d) m l vs=qAh d m l vs:=by unfold qAh;simp only[right_er]
theorem typed_er(l:List Fld):qBF (dEr d) l=qBF d l:=by unfold qBF;simp only[qLq]
theorem has_er:(qBF (dEr d) (dEr d).globals&&allI (λi t=>decide (qDw (dEr d) t.name=(i:Int))&&qBF (dEr d) t.fields) (dEr d).types)=(qBF d d.globals&&allI (λi t=>decide (qDw d t.name=(i:Int))&&qBF d t.fields) d.types):=by
 simp only[idxT_er,typed_er];congr 1;unfold allI;rw[show(dEr d).types=d.types.map tEr from rfl,List.zipIdx_map];exact qGX _ λ_=>rfl
theorem mem_er{d':Ds}(k:dEr d=dEr d')(hv:qAJ d'=true){m:Mm}(h:qAx d m=true):qAx d' m=true:=by
 have key:∀x:Ds,qAx x m=(qAJ x&&(qBF (dEr x) (dEr x).globals&&allI (λi t=>decide (qDw (dEr x) t.name=(i:Int))&&qBF (dEr x) t.fields) (dEr x).types)&&(decide (m.nodes.length<=4096)&&m.nodes.all (λn=>decide (0<=n.ty/\n.ty<((dEr x).types.length:Int)))&&qAh (dEr x) m (dEr x).globals m.globals&&m.nodes.all λn=>qAh (dEr x) m (qAs (dEr x) n.ty) n.f)):=λx=>by
  rw[has_er];simp only[values_er,qEa];rw[show(dEr x).types=x.types.map tEr from rfl,xd];unfold qAx hasT;simp only[Bool.and_assoc];rfl
 simp_all
end
structure qJG (d d':Ds):Prop where
 er:dEr d=dEr d'
 h1:d'.measures=[]
 h2:d'.invs=[]
 h3:d'.pots=[]
 h4:d'.bounds=[]
theorem qAz.same{d d':Ds}{m:Mm}(G:qAz d m)(h:qJG d d'):qAz d' m:=by
 have hv:=valid_re d' (h.er▸valid_er d G.valid) h.h1 h.h2 h.h3 h.h4;exact⟨hv,chk_re d' (h.er▸chk_er d G.chk) h.h1 h.h2 h.h3 h.h4,mem_er d h.er hv G.mem⟩
section
variable(d:Ds)
theorem qLe(s:ByteArray):qCJ (dEr d) s=qCJ d s:=idx_map (f:=pEr) _ λ_=>rfl
theorem cllE_er(m:Mm)(nm:ByteArray)(l:List Int):qCK (dEr d) m nm l=qCK d m nm l:=by
 unfold qCK;rw[qLe,show(dEr d).procs=d.procs.map pEr from rfl,ya];cases d.procs[(qCJ d nm).toNat]? with
 |none=>rfl
 |some p=>
  show(if qCJ d nm<0 then _ else if l.length=p.params.length then(if qAh (dEr d) m p.params l=true then _ else _)else _)=_;rw[values_er]
theorem fldX_er(a:Int)(s:ByteArray)(st:St):fldX (dEr d) a s st=fldX d a s st:=by unfold fldX;simp only[qEa]
theorem newX_er(s:ByteArray)(st:St):newX (dEr d) s st=newX d s st:=by unfold newX;simp only[qEa,idxT_er]
theorem putX_er(a v:Int)(s:ByteArray)(st:St):putX (dEr d) a v s st=putX d a v s st:=by unfold putX;simp only[qEa]
theorem intB_er{sc:Sc}(k:sc.body=true):∀l:List E,intB (dEr d) sc (qGb l)=intB d sc l
 |[]=>by unfold qGb;rfl
 |x::xs=>by
  unfold qGb;show decide ((qAq (dEr d) sc (eEr x)).1=qAP)=decide ((qAq d sc x).1=qAP);rw[exprT_er d k]
theorem combX_er(C:Cf)(p:Pr)(vals:List Int)(b:Bool)(op n:Int)(s:ByteArray)(ks:List (St->Rx Int))(st:St):qDi (dEr d) C (pEr p) vals b op n s ks st=qDi d C p vals b op n s ks st:=by
 unfold qDi;simp only[fldX_er,newX_er,qLe];rfl
mutual
theorem evX_er(C:Cf)(p:Pr)(vals:List Int):∀e:E,evX (dEr d) C (pEr p) vals (eEr e)=evX d C p vals e
 |.mk o n s _ k=>by
  unfold eEr evX;funext st;rw[combX_er,evXs_er C p vals k];show qDi d C p vals (intB (dEr d) (qAg d p) (qGb k)) o n s _ st=_;rw[intB_er d rfl]
theorem evXs_er(C:Cf)(p:Pr)(vals:List Int):∀l:List E,evXs (dEr d) C (pEr p) vals (qGb l)=evXs d C p vals l
 |[]=>by rfl
 |x::xs=>by unfold qGb evXs;rw[evX_er C p vals x,evXs_er C p vals xs]
end
theorem evX_er'(C:Cf)(p:Pr)(vals:List Int)(e:E)(st:St):evX (dEr d) C (pEr p) vals (eEr e) st=evX d C p vals e st:=congrFun (evX_er d C p vals e) st
theorem getD_er(l:List E)(i:Nat):(qGb l).getD i noE=eEr (l.getD i noE):=by
 rw[qDx,vT,vT,ya];grind[noE,eEr,qGb]
section
variable{Sn Sn':Sf}(hS:∀c p l vals st,Sn' c (pEr p) (qHb l) vals st=Sn c p l vals st)
include hS
theorem callX_er(c:Nat):qCs (dEr d) Sn' c=qCs d Sn c:=by
 funext i l st;unfold qCs;rw[show(dEr d).procs=d.procs.map pEr from rfl,ya];cases d.procs[i.toNat]? with
 |none=>rfl
 |some p=>
  show(if 200<=c then _ else(Sn' (c+1) (pEr p) (qHb p.body) _ st).bind _)=_;rw[hS];rfl
theorem evS_er(c:Nat)(p:Pr)(vals:List Int)(e:E)(st:St):evS (dEr d) Sn' c (pEr p) vals (eEr e) st=evS d Sn c p vals e st:=by
 unfold evS;rw[callX_er d hS,evX_er']
theorem whX_er(F c:Nat)(p:Pr)(e:E)(b:List S):∀(n:Nat)(vals:List Int)(st:St),whX (dEr d) F Sn' c (pEr p) (eEr e) (qHb b) n vals st=whX d F Sn c p e b n vals st
 |0,_,_=>rfl
 |n+1,vals,st=>by
  unfold whX;simp only[evS_er d hS,hS,whX_er F c p e b n]
theorem bodyX_er(F c:Nat)(p:Pr)(n:Nat)(s:S)(vals:List Int)(st:St):qHA (dEr d) F Sn' c (pEr p) n (sEr s) vals st=qHA d F Sn c p n s vals st:=by
 match s with
 |.mk o s _ es _ ls _ xs=>
  unfold sEr qHA;simp only[S.op,S.s,S.es,S.ls,S.xs,getD_er,evS_er d hS,hS,whX_er d hS,putX_er];cases es<;>simp only[qGb,evS_er d hS]<;>rfl
end
theorem stX_er{Sn Sn':Sf}(hS:∀c p l vals st,Sn' c (pEr p) (qHb l) vals st=Sn c p l vals st)(F c:Nat)(p:Pr)(n:Nat)(s:S)(vals:List Int)(st:St):stX (dEr d) F Sn' c (pEr p) n (sEr s) vals st=stX d F Sn c p n s vals st:=by
 grind[stX,bodyX_er]
theorem listX_er{f k:S->List Int->St->Rx Rt}(h:∀s vals st,k (sEr s) vals st=f s vals st):∀(l:List S)(vals:List Int)(st:St),qEY k (qHb l) vals st=qEY f l vals st
 |[],_,_=>by rfl
 |s::l,vals,st=>by
  unfold qHb qEY;rw[h];simp only[listX_er h l]
theorem stsX_er(F:Nat):∀(n c:Nat)(p:Pr)(l:List S)(vals:List Int)(st:St),qCg (dEr d) F n c (pEr p) (qHb l) vals st=qCg d F n c p l vals st
 |0,_,_,_,_,_=>rfl
 |n+1,c,p,l,vals,st=>listX_er (λs vals st=>stX_er d (stsX_er F n) F c p (n+1) s vals st) l vals st
theorem playX_er(F:Nat)(i:Int)(l:List Int)(st:St):qBS (dEr d) F i l st=qBS d F i l st:=by
 simp_all[qBS,callX_er,stsX_er]
end
section
variable{d d':Ds}(h:qJG d d')
include h
theorem qJG.play(F:Nat)(i:Int)(l:List Int)(st:St):qBS d' F i l st=qBS d F i l st:=by rw[<-playX_er d,h.er,playX_er]
theorem qJG.cll(m:Mm)(nm:ByteArray)(l:List Int):qCK d' m nm l=qCK d m nm l:=by rw[<-cllE_er d,h.er,cllE_er]
theorem qJG.idx(s:ByteArray):qCJ d' s=qCJ d s:=by rw[<-qLe d,h.er,qLe]
theorem qJG.fields(t:Int):qAs d' t=qAs d t:=by rw[<-qEa d,h.er,qEa]
end
end Go.Proofs
namespace Go.Sx
open Go
section
variable{P:Program}{n:Nat}{ops:Array Oper}{Q:Exit->Act->World->Prop}
theorem qJY{F:Fence}{i:Nat}{o:Oper}{a:Act}{w:World}{K:Act->World->Prop}(u:ops[i]?=some o)(z:o.guard=none)(h:wpOpIn F n P ops Q i K a w):wpOpIn F n P ops Q i (λt w'=>(∃v,t.tmps=(a.put o.dst v).tmps)/\K t w') a w:=by
 unfold wpOpIn at*
 simp only[u]at*
 have hw:=qCa (ops:=ops) (a:=a) z;rw[if_pos hw]at h⊢;unfold Oper.wpIn at*
 refine⟨h.1,?_⟩;have h:=h.2;generalize(o.semAt F.round a.eval).run P w=r at*
 have k:∀(ds:List Deferred)(v:Value),(({a with defers:=ds}:Act).put o.dst v).tmps=(a.put o.dst v).tmps:=λds v=>by
  cases o.dst<;>rfl
 cases r with
 |ok x w'=>
  cases x<;>simp only[wc]at h⊢<;>
   first
    |exact⟨⟨_,rfl⟩,h⟩
    |exact⟨⟨_,k _ _⟩,h⟩
    |exact⟨h.1,vU h.2 (λe f g=>by cases e<;>first|exact⟨⟨_,rfl⟩,g⟩|exact g)⟩
    |exact⟨h.1,RowsIn.mono h.2 (λ_ _ g=>⟨⟨_,rfl⟩,g⟩)⟩
    |exact⟨h.1,vV h.2 (λe f g=>by cases e<;>first|exact⟨⟨_,rfl⟩,g⟩|exact g)⟩
    |exact h
 |halt x w'=>cases x<;>simp only[wc]at h⊢<;>exact h
theorem qHE{F:Fence}{i:Nat}{o:Oper}{a:Act}{w:World}{K u:Act->World->Prop}{g:Exit->Act->World->Prop}(y:ops[i]?=some o)(j:o.guard=none)(h:wpOpIn F n P ops g i K a w)(f:∀q a w,¬g (.panic q) a w)(z:¬LetsOut g)(hK:∀a w,K a w->u a w):
  wpOpIn F n P ops Q i u a w:=by
 unfold wpOpIn at*
 simp only[y]at*
 have hw:=qCa (ops:=ops) (a:=a) j;rw[if_pos hw]at h⊢;unfold Oper.wpIn at*
 refine⟨h.1,?_⟩;have h:=h.2;generalize(o.semAt F.round a.eval).run P w=r at*
 cases r with
 |ok x w'=>
  cases x<;>simp only[wc]at h⊢<;>
   first
    |exact hK _ _ h
    |exact⟨h.1,vU h.2 (λe t k=>by cases e<;>first|exact hK _ _ k|exact(f _ _ _ k).elim|exact(z k).elim)⟩
    |exact⟨h.1,RowsIn.mono h.2 (λ_ _ k=>hK _ _ k)⟩
    |exact⟨h.1,vV h.2 (λe t k=>by cases e<;>first|exact hK _ _ k|exact(f _ _ _ k).elim|exact(z k).elim)⟩
    |exact h
 |halt x w'=>
  cases x<;>simp only[wc]at h⊢;all_goals first|exact(f _ _ _ h).elim|exact h
def aft(ops:Array Oper)(i:Nat):List Nat:=((ops[i]?).map λo=>(o.after.toList.filter (yQ .any)).map (·.on)).getD []
def anyOk(ops:Array Oper)(M k0:Nat)(deps:Nat->List Nat):Bool:=
 decide (ops.size=M+1)&&decide ((ops[M]?).map (·.dst)=some none)&&(zB M).all (λi=>decide ((ops[i]?).map (·.dst)=some (some (k0+i))))&&(zB (M+1)).all (λi=>((ops[i]?).map λo=>o.guard.isNone).getD false&&(aft ops i).all (λj=>decide (j<i))&&(deps i).all λj=>decide (j∈aft ops i)) &&
  (zB M).all λj=>(zB (M+1)).any λi=>decide (j<i)&&decide (j∈aft ops i)
theorem qKj{ops:Array Oper}{listed:Array Bool}{i:Nat}(h:i∈yY .any ops listed):i<ops.size/\listed.getD i true=false/\∀j∈aft ops i,listed.getD j false=true:=by
 unfold yY at h;rw[yZ,yX,zC]at h;refine⟨h.1,by simpa using h.2.1,λj k=>?_⟩;unfold aft at k;have h2:=h.2.2;cases g:ops[i]? with
 |none=>rw[g]at k;simp at k
 |some o=>
  rw[g]at k h2;simp only[zJ,xW,List.mem_map,yZ,vW,wF]at k h2;obtain⟨e,⟨f,t⟩,rfl⟩:=k;have:=h2 e f;rw[t]at this;simpa using this
theorem ready_in{ops:Array Oper}{listed:Array Bool}{i:Nat}(hi:i<ops.size)(h1:listed.getD i true=false)(h2:∀j∈aft ops i,listed.getD j false=true):i∈yY .any ops listed:=by
 unfold yY;rw[yZ,yX,zC];refine⟨hi,by simp[h1],?_⟩;have k:ops[i]?=some ops[i]:=yS hi;unfold aft at h2;rw[k]at h2⊢;simp only[zJ,xW,List.mem_map,yZ,vW,wF]at h2⊢;intro e g;cases f:yQ .any e with
 |false=>rfl
 |true=>simpa using h2 e.on ⟨e,⟨g,f⟩,rfl⟩
theorem qGN{l:Array Bool}{i:Nat}(hi:i<l.size)(a b:Bool):l.getD i a=l.getD i b:=by simp[z6,hi]
def unl(listed:Array Bool)(M:Nat):Nat:=((zB M).filter λi=>!listed.getD i true).length
theorem filt_le{α:Type}{p q:α->Bool}:∀{l:List α},(∀a∈l,q a=true->p a=true)->(l.filter q).length<=(l.filter p).length
 |[],_=>Nat.le_refl _
 |a::l,h=>by
  have k:=filt_le (l:=l) λx g=>h x (zb _ g);have f:=h a zc;rw[z7,z7];cases t:q a with
  |true=>rw[f t];simpa using k
  |false=>
   cases u:p a with
   |true=>simp;omega
   |false=>simpa using k
theorem filt_lt{α:Type}{p q:α->Bool}:∀{l:List α},(∀a∈l,q a=true->p a=true)->∀a∈l,p a=true->q a=false->(l.filter q).length<(l.filter p).length
 |[],_,a,k,_,_=>by cases k
 |b::l,h,a,k,f,t=>by
  have u:∀x∈l,q x=true->p x=true:=λx y=>h x (zb _ y);rw[z7,z7];rcases List.mem_cons.1 k with rfl|hm
  ·rw[f,t];have:=filt_le u;simp;omega
  ·have z:=filt_lt u a hm f t;have j:=h b zc;cases g:q b with
   |true=>rw[j g];simpa using z
   |false=>
    cases i:p b with
    |true=>simp;omega
    |false=>simpa using z
theorem unl_set{listed:Array Bool}{M i:Nat}(hi:i<M)(f:listed.size=M)(h:listed.getD i true=false):unl (listed.setIfInBounds i true) M<unl listed M:=by
 have h1:(listed.setIfInBounds i true).getD i true=true:=by simp[z6,f,hi]
 refine filt_lt (λj _ k=>?_) i (yX.2 hi) (by rw[h];rfl) (by rw[h1];rfl);by_cases g:j=i;·subst g;rw[h1]at k;cases k
 ·have:(listed.setIfInBounds i true).getD j true=listed.getD j true:=by
   simp[wT,wU (Ne.symm g)]
  rw[this]at k;exact k
theorem unl_zero{listed:Array Bool}{M:Nat}(g:listed.size=M)(h:unl listed M=0):∀i,i<M->listed.getD i false=true:=λi k=>by
 unfold unl at h;have:=List.eq_nil_of_length_eq_zero h;rw[List.filter_eq_nil_iff]at this;have:=this i (yX.2 k);rw[qGN (by omega) false true];simpa using this
section
variable{M k0 N:Nat}{deps:Nat->List Nat}{Pr:Nat->Value->Mem->Prop}{Φ:Mem->Prop}{V:Mem}{base:List (Nat×Value)}{a0:Act}{w0:World}
theorem anyR_sound(chk:anyOk ops M k0 deps=true)(mono:∀i v V1 V2,V1.sub V2->Pr i v V1->Pr i v V2)(C:∀s v,base.lookup s=some v->s<k0)
  (hN:k0+M<=N)
  (D:∀i,i<M->∀V1,V.sub V1->∀val:Nat->Value,(∀j∈deps i,Pr j (val j) V1)->∃t,(∀s v,t.lookup s=some v->base.lookup s=some v∨∃j∈deps i,s=k0+j/\v=val j)/\qDk P N ops i 1 t [k0+i] V1 λvs V2=>∃v,vs=[v]/\V1.sub V2/\Pr i v V2)
  (E:∀V1,V.sub V1->∀val:Nat->Value,(∀j∈deps M,Pr j (val j) V1)->∃t,(∀s v,t.lookup s=some v->base.lookup s=some v∨∃j∈deps M,s=k0+j/\v=val j)/\qDk P N ops M 1 t [] V1 λ_ V2=>Φ V2)
  (hQ:∀O w' V',O.defers=a0.defers->Has N O base->Φ V'->Frm V w0 V' w'->Q .normal O w'):
  ∀(fuel:Nat)(listed:Array Bool)(a:Act)(w:World),listed.size=M+1->unl listed (M+1)<=fuel->
   ((∃V1,V.sub V1/\Frm V w0 V1 w/\a.defers=a0.defers/\Has N a base/\listed.getD M false=false/\(∀i,i<M->listed.getD i false=true->Pr i (a.tmps.getD (k0+i) undef) V1)/\∀i,i<M->listed.getD i false=true->∀j∈aft ops i,listed.getD j false=true)∨((∀i,i<M+1->listed.getD i false=true)/\Q .normal a w))->
   wpAnyIn (qAF none) n P .any ops Q fuel listed a w:=by
 unfold anyOk at chk;simp only[zC,decide_eq_true_eq,List.all_eq_true,yX,List.any_eq_true]at chk;obtain⟨⟨⟨⟨c1,c0⟩,c2⟩,c3⟩,c4⟩:=chk;have op:∀i,i<M+1->∃o,ops[i]?=some o/\o.guard=none:=λi hi=>by
  have:=(c3 i hi).1.1;cases A:ops[i]? with
  |none=>rw[A]at this;cases this
  |some o=>
   rw[A]at this;refine⟨o,rfl,?_⟩;cases hg:o.guard with
   |none=>rfl
   |some g=>simp[hg]at this
 have x:∀listed:Array Bool,listed.size=M+1->yY .any ops listed=[]->∀i,i<M+1->listed.getD i false=true:=λlisted K hr i=>by
  induction i using yR with
  |ind i ih=>
   intro hi;cases h:listed.getD i false with
   |true=>rfl
   |false=>
    have:i∈yY .any ops listed:=ready_in (by omega) (by rw[qGN (by omega) true false];exact h) λj e=>by
     have z:=(c3 i hi).1.2 j e;exact ih j z (by omega)
    rw[hr]at this;cases this
 intro fuel;induction fuel with
 |zero=>
  intro listed a w K hu hI;have y:=unl_zero K (by omega);rw[wpAnyIn];rcases hI with⟨V1,-,-,-,-,S,-⟩|⟨-,hq⟩;·rw[y M (by omega)]at S;cases S
  ·refine⟨?_,hq⟩;cases hr:yY .any ops listed with
   |nil=>rfl
   |cons i l=>
    obtain⟨h1,h2,-⟩:=qKj (hr▸zc:i∈yY .any ops listed);rw[qGN (by omega) true false,y i (by omega)]at h2;cases h2
 |succ fuel ih=>
  intro listed a w K hu hI;rw[wpAnyIn];refine⟨λhr=>?_,λi hi=>?_⟩
  ·rcases hI with⟨V1,-,-,-,-,S,-⟩|⟨-,hq⟩;·rw[x listed K hr M (by omega)]at S;cases S
   ·exact hq
  ·obtain⟨h1,h2,h3⟩:=qKj hi;have r:i<M+1:=by omega
   rcases hI with⟨V1,J,hF,hdf,hH,S,hP,hC⟩|⟨y,-⟩;rotate_left;·rw[qGN (by omega) true false,y i r]at h2;cases h2
   obtain⟨o,A,hg⟩:=op i r;have hs':(listed.setIfInBounds i true).size=M+1:=by simp[K]
   have hu':unl (listed.setIfInBounds i true) (M+1)<=fuel:=by have:=unl_set r K h2;omega
   have q:(listed.setIfInBounds i true).getD i false=true:=by simp[z6,K,r]
   have f:∀j,j≠i->(listed.setIfInBounds i true).getD j false=listed.getD j false:=λj e=>by
    simp[wT,wU (Ne.symm e)]
   have T:∀j∈deps i,j<i/\listed.getD j false=true:=λj e=>⟨(c3 i r).1.2 j ((c3 i r).2 j e),h3 j ((c3 i r).2 j e)⟩;have R:∀j∈deps i,Pr j (a.tmps.getD (k0+j) undef) V1:=λj e=>by
    have:=T j e;exact hP j (by omega) this.2
   have hin:∀(t:List (Nat×Value)),(∀s v,t.lookup s=some v->base.lookup s=some v∨∃j∈deps i,s=k0+j/\v=a.tmps.getD (k0+j) undef)->∀s v,t.lookup s=some v->a.tmps.getD s undef=v:=λt h s v U=>by
    rcases h s v U with h|⟨j,-,rfl,rfl⟩;·exact hH.2 s v h
    ·rfl
   by_cases I:i<M
   ·obtain⟨t,G,Z⟩:=D i I V1 J (λj=>a.tmps.getD (k0+j) undef) R;have hw:=Z none n a w hF.le hH.1 (hin t G);rw[show List.range' i 1=[i]from rfl,wpOpsIn_cons]at hw;have Y:o.dst=some (k0+i):=by have:=c2 i I;rw[A]at this;simpa using this
    have hfin:wpOpIn (qAF none) n P ops Q i (wpAnyIn (qAF none) n P .any ops Q fuel (listed.setIfInBounds i true)) a w:=by
     refine qHE A hg (qJY A hg hw) (λ_ _ _ h=>by cases h.1) (λh=>by obtain⟨_,_,h,_⟩:=h;cases h) ?_;rintro O w' ⟨⟨v,hv⟩,-,hd',hs2,vs,V2,hlook,⟨u,rfl,W,hPu⟩,hF2⟩;rw[Y]at hv;have X:∀s,s≠k0+i->O.tmps.getD s undef=a.tmps.getD s undef:=λs hne=>by
      rw[hv];simp[Act.put,wT,wU (Ne.symm hne)]
     refine ih _ O w' hs' hu' (.inl ⟨V2,J.trans W,hF.trans hF2,hd'.trans hdf,⟨hs2,λs v L=>?_⟩,?_,λj e U=>?_,λj e U k hk=>?_⟩);·rw[X s (by have:=C s v L;omega)];exact hH.2 s v L
     ·rw[f M (by omega)];exact S
     ·by_cases z:j=i
      ·subst z;have:=hlook (k0+j) u (by simp);rw[this];exact hPu
      ·rw[X (k0+j) (by omega)];rw[f j z]at U;exact mono _ _ _ _ W (hP j e U)
     ·by_cases z:j=i
      ·subst z;by_cases hkj:k=j;·rw[hkj];exact q
       ·rw[f k hkj];exact h3 k hk
      ·rw[f j z]at U;by_cases hki:k=i;·rw[hki];exact q
       ·rw[f k hki];exact hC j e U k hk
    exact hfin
   ·have I:i=M:=by omega
    subst I;have y:∀k,k<=i->∀j,i-k<=j->j<i->listed.getD j false=true:=λk=>by
     induction k with
     |zero=>intro _ j h4 h5;omega
     |succ k ihk=>
      intro hk j h4 h5;obtain⟨b,hb1,hb2,hb3⟩:=c4 j h5;by_cases hbi:b=i;·subst hbi;exact h3 j hb3
      ·exact hC b (by omega) (ihk (by omega) b (by omega) (by omega)) j hb3
    obtain⟨t,G,Z⟩:=E V1 J (λj=>a.tmps.getD (k0+j) undef) R;have hw:=Z none n a w hF.le hH.1 (hin t G);rw[show List.range' i 1=[i]from rfl,wpOpsIn_cons]at hw;have Y:o.dst=none:=by rw[A]at c0;simpa using c0
    refine qHE A hg (qJY A hg hw) (λ_ _ _ h=>by cases h.1) (λh=>by obtain⟨_,_,h,_⟩:=h;cases h) ?_;rintro O w' ⟨⟨u,B⟩,-,hd',hs2,vs,V2,-,hΦ,hF2⟩;rw[Y]at B;have hu3:O.tmps=a.tmps:=B;refine ih _ O w' hs' hu' (.inr ⟨λj e=>?_,hQ O w' V2 (hd'.trans hdf) ⟨by rw[hu3];exact hH.1,λs v L=>by rw[hu3];exact hH.2 s v L⟩ hΦ (hF.trans hF2)⟩);by_cases z:j=i;·rw[z];exact q
    ·rw[f j z];exact y i (Nat.le_refl _) j (by omega) (by omega)
end
end
end Go.Sx
