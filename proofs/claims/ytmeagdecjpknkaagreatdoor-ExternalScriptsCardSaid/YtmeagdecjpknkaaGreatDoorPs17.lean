/- Part 17: no statement of the seat is proved here. -/
import Derived.Test.YtmeagdecjpknkaaGreatDoorPs16
import Derived.ProofKit
import Derived.Test.YtmeagdecjpknkaaGreatDoorRows
import Derived.Lib.LaidIn
import Derived.Lib.LaidTab
import Derived.Handed
import Derived.Test.YtmeagdecjpknkaaGreatDoorPs10
set_option linter.unusedVariables false
set_option linter.unusedSimpArgs false
open Go.Proofs.Tryz renaming prog->xE,underlying3->wi,underlying149->vK,underlying141->vL
open Prod.mk renaming inj->wh
open List renaming take_of_length_le->wx,mem_iff_getElem?->xg,getElem?_eq_some_iff->yv,drop_succ_cons->vM,drop_zero->vN,take_succ_cons->we,take_zero->vO,mem_of_getElem?->xp,replicate->yJ,length_append->zw,length_singleton->xe
open Option renaming bind_eq_some_iff->vF
open Option.some renaming injEq->zF,inj->vR
open Go.DataW renaming trod->vG,Trod->vP,TrodAll->vU
open Go.IntKind renaming i64->yr,wrap->xF,signed->zQ,bits->zR
open Nat renaming lt_succ_self->vH,strongRecOn->yS
open Go.TypeDesc renaming struct->vJ
open Go.Value renaming string->xI
open List.cons renaming injEq->yE
open Go.Lib renaming TabIs->xK,asciiSpaceTab->xL
open Go.World renaming settled->vQ
open Go.Input renaming okWide_of_okWideB->vT
open Int renaming tdiv_eq_ediv_of_nonneg->vV
namespace Go.Proofs
open Go Go.Sx
attribute [local irreducible] Go.Sx.Tri
theorem qFt{p q B X:Prop}(f:(¬p∨¬q)->X)(t:p->q->B):Br p (Br q B X) X:=⟨λh=>⟨λg=>t h g,λg=>f (.inr g)⟩,λh=>f (.inl h)⟩
theorem take_eq{α:Type}{xs ys:List α}{i:Nat}{x y:α}(h:xs.take i=ys.take i)(g:xs[i]?=some x)(f:ys[i]?=some y)(e:x=y):xs.take (i+1)=ys.take (i+1):=by
 grind[List.take_add_one]
section
variable{V:Mem}{d:Ds}{m:Mm}
def RI(V:Mem):Ending->Mem->Prop:=λe V'=>V=V'/\∃r:Int,e=.returned (.int .i64 r)/\-1<=r/\r<=2000
def RY(V:Mem):Ending->Mem->Prop:=λe V'=>V=V'/\∃b:Bool,e=.returned (.bool b)
theorem RI.mk{r:Int}(h:-1<=r/\r<=2000):RI V (.returned (.int .i64 r)) V:=⟨rfl,r,rfl,h⟩
theorem RY.mk{b:Bool}:RY V (.returned (.bool b)) V:=⟨rfl,b,rfl⟩
theorem leftC:∀(k:Nat),k<=65->∀(e:E)(n:Int),E.Ok V e->-1<=n->n<=2000->Tri xE 119 #[e.v,.int .i64 k,.int .i64 n] V (RI V):=by
 intro k;induction k with
 |zero=>
  intro _ e n z h1 h2;refine Tri.mono (x119 (R:=RI V) ?_) λ_ _ h=>h;exact⟨λ_=>.mk ⟨by omega,by omega⟩,λ_=>⟨λ_=>.mk ⟨by omega,by omega⟩,λh=>absurd rfl h⟩⟩
 |succ k N=>
  intro P e n z h1 h2;refine Tri.mono (x119 (R:=RI V) ?_) λ_ _ h=>h;refine⟨λ_=>.mk ⟨by omega,by omega⟩,λh3=>⟨λ_=>.mk ⟨by omega,by omega⟩,λ_=>⟨λ_=>.mk ⟨by omega,by omega⟩,λ_=>⟨⟨by omega,by omega⟩,?_⟩⟩⟩⟩;have h3:¬n<=0:=h3;refine qFk (mk:=.int .i64) (b0:=n-1) qCZ e.k.length (λi a V1=>V=V1/\-1<=a/\a<=2000) ⟨rfl,by omega,by omega⟩ ?_;rintro i a V1 J O ⟨rfl,f,t⟩ Z;refine qFt (λ_=>.mk ⟨f,t⟩) (λg A=>?_);obtain⟨x,j,I,-,o,Y,Q,u⟩:=z.rows.get g;refine⟨Y,Q,g,_,_,_,_,u,⟨by omega,by omega⟩,?_⟩;rw[show((k+1:Nat):Int)-1=(k:Int)by omega];refine Tri.mono (N (by omega) x a (z.kids x j) f t) ?_;rintro _ _ ⟨rfl,r,rfl,h4⟩;exact⟨_,rfl,z.rows.succ g,Z o _ _ ⟨rfl,h4⟩⟩
theorem leftAllC:∀(k:Nat),k<=65->∀(s:Sl)(xs:List S)(n:Int),qAc V s 5 (xs.map S.row)->(∀x∈xs,S.Ok V x)->-1<=n->n<=2000->Tri xE 118 #[s.v,.int .i64 k,.int .i64 n] V (RI V):=by
 intro k;induction k with
 |zero=>
  intro _ s xs n P ho h1 h2;refine Tri.mono (x118 (R:=RI V) ?_) λ_ _ h=>h;exact⟨λ_=>.mk ⟨by omega,by omega⟩,λh=>absurd rfl h⟩
 |succ k ih=>
  intro hk s xs n P ho h1 h2;refine Tri.mono (x118 (R:=RI V) ?_) λ_ _ h=>h;refine⟨λ_=>.mk ⟨by omega,by omega⟩,λ_=>?_⟩;refine qIb (mk:=.int .i64) (mc:=.int .i64) 0 n qCZ xs.length (λi a V1=>V=V1/\-1<=a/\a<=2000) ⟨rfl,h1,h2⟩ ?_;rintro i b a V1 J hi ⟨rfl,O,A⟩ hJ;refine qFt (λ_=>.mk ⟨O,A⟩) (λf hn=>?_);have hn:0<=a:=hn;obtain⟨x,I,hx,-,Z,N,Y,g⟩:=P.get f;have L:=ho x I;cases x with
  |mk op sn el es ll ls xl X=>
  cases L with
  |mk he B hl C D E hop=>
  have Q:=qAf (n:=i*5) N;have t:=P.succ f;refine⟨⟨by omega,by omega⟩,N,Y,f,Q,_,_,_,_,_,g,λ_=>.mk ⟨by omega,by omega⟩,λ_=>?_⟩;refine qFk (mk:=.int .i64) (b0:=a-1) qCZ es.length (λj c V2=>V=V2/\-1<=c/\c<=2000) ⟨rfl,by omega,by omega⟩ ?_;rintro j c V2 J1 hj ⟨rfl,z,o⟩ K;have ek:((k+1:Nat):Int)-1=(k:Int):=by omega
  refine⟨N,Y,f,Q,_,_,_,_,_,g,qFt (λ_=>⟨λT=>⟨N,Y,f,Q,_,_,_,_,_,g,⟨by omega,by omega⟩,?_⟩,λT=>⟨λh=>absurd h T,λ_=>⟨t,hJ Z _ _ _ ⟨rfl,z,o⟩⟩⟩⟩) (λu T=>?_)⟩
  ·rw[ek];refine Tri.mono (ih (by omega) ll ls c hl C z o) ?_;rintro _ _ ⟨rfl,r,rfl,h3⟩;refine⟨_,rfl,λhr0=>⟨N,Y,f,Q,_,_,_,_,_,g,⟨by omega,by omega⟩,Tri.mono (ih (by omega) xl X r D E h3.1 h3.2) ?_⟩,λ_=>⟨t,hJ Z _ _ _ ⟨rfl,h3⟩⟩⟩;rintro _ _ ⟨rfl,r2,rfl,h4⟩;simp_all
  ·obtain⟨y,U,hy,-,hjl,hpy,hzy,e⟩:=he.get u;refine⟨N,Y,f,Q,_,_,_,_,_,g,hpy,hzy,u,_,_,_,_,e,Tri.mono (leftC 65 (by omega) y c (B y U) z o) ?_⟩;rintro _ _ ⟨rfl,r,rfl,h3⟩;exact⟨_,rfl,he.succ u,K hjl _ _ ⟨rfl,h3⟩⟩
theorem wideC{l:Sl}{xs:List Fld}(z:qAc V l 2 (xs.map Fld.row)):Tri xE 117 #[l.v] V (RY V):=by
 refine Tri.mono (x117 (R:=RY V) ?_) λ_ _ h=>h;refine⟨λ_=>.mk,λ_=>qAM (mk:=.bool) (b0:=false) xs.length (λi V1=>V=V1) rfl ?_⟩;rintro i b V1 J N rfl o;refine⟨λg=>?_,λ_=>.mk⟩;obtain⟨x,e,Z,-,t,u,j,f⟩:=z.get g;have r:=qAf (n:=i*2) u;exact⟨u,j,g,r,_,_,f,λ_=>.mk,λ_=>⟨u,j,g,r,_,_,f,λ_=>.mk,λ_=>⟨z.succ g,o t _ _ rfl⟩⟩⟩
theorem overC(e:Ds.Ok V d){n:Int}(h1:-1<=n)(h2:n<=2000):Tri xE 76 #[d.v,.int .i64 n] V (RY V):=by
 refine Tri.mono (x76 (R:=RY V) ?_) λ_ _ h=>h;refine⟨λ_=>.mk,λ_=>⟨λ_=>.mk,λ_=>⟨λ_=>.mk,λ_=>⟨λ_=>.mk,λ_=>⟨λ_=>.mk,λ_=>⟨λ_=>.mk,λ_=>⟨λ_=>.mk,λ_=>Tri.mono (wideC e.globals) ?_⟩⟩⟩⟩⟩⟩⟩;rintro _ _ ⟨rfl,b,rfl⟩;refine⟨_,rfl,λ_=>.mk,λ_=>qAM (mk:=.bool) (b0:=false) d.types.length (λi V1=>V=V1) rfl ?_⟩;rintro i b V1 J Q rfl Y;refine⟨λg=>?_,λ_=>?_⟩
 ·obtain⟨x,z,P,-,j,o,N,f⟩:=e.types.get g;have Z:=qAf (n:=i*2) o;refine⟨o,N,g,Z,_,_,f,λ_=>.mk,λ_=>⟨o,N,g,Z,_,_,f,Tri.mono (wideC (e.typesOk x z).fields) ?_⟩⟩;rintro _ _ ⟨rfl,b,rfl⟩;exact⟨_,rfl,λ_=>.mk,λ_=>⟨e.types.succ g,Y j _ _ rfl⟩⟩
 refine qIb (mk:=.bool) (mc:=.int .i64) b n qCZ d.procs.length (λi a V1=>V=V1/\-1<=a/\a<=2000) ⟨rfl,h1,h2⟩ ?_;rintro i b a V1 J Q ⟨rfl,t,u⟩ Y;refine qFt (λ_=>?_) (λg O=>?_);rotate_left
 ·obtain⟨x,z,P,-,j,o,N,f⟩:=e.procs.get g;have A:=e.procsOk x z;refine⟨o,N,g,_,_,_,_,_,f,λ_=>.mk,λ_=>⟨λ_=>.mk,λ_=>Tri.mono (wideC A.params) ?_⟩⟩;rintro _ _ ⟨rfl,b1,rfl⟩;refine⟨_,rfl,λ_=>.mk,λ_=>Tri.mono (wideC A.locals) ?_⟩;rintro _ _ ⟨rfl,b2,rfl⟩;refine⟨_,rfl,λ_=>.mk,λ_=>Tri.mono (leftAllC 65 (by omega) x.bs x.body a A.body A.stmts t u) ?_⟩;rintro _ _ ⟨rfl,r,rfl,h3⟩;exact⟨_,rfl,e.procs.succ g,Y j _ _ _ ⟨rfl,h3⟩⟩
 refine qIb (mk:=.bool) (mc:=.int .i64) b a qCZ d.measures.length (λi a V1=>V=V1/\-1<=a/\a<=2000) ⟨rfl,t,u⟩ ?_;clear Y;rintro i b a V1 J Q ⟨rfl,t,u⟩ Y;refine qFt (λ_=>?_) (λg O=>?_);rotate_left
 ·obtain⟨x,z,P,-,j,o,N,f⟩:=e.measures.get g;have Z:=qAf (n:=i*7) o;refine⟨o,N,g,Z,_,_,_,_,_,_,_,f,λ_=>.mk,λ_=>⟨o,N,g,Z,_,_,_,_,_,_,_,f,λ_=>.mk,λ_=>⟨o,N,g,Z,_,_,_,_,_,_,_,f,Tri.mono (leftC 65 (by omega) x.x a (e.measuresOk x z).x t u) ?_⟩⟩⟩;rintro _ _ ⟨rfl,r,rfl,h3⟩;exact⟨_,rfl,e.measures.succ g,Y j _ _ _ ⟨rfl,h3⟩⟩
 refine qIb (mk:=.bool) (mc:=.int .i64) b a qCZ d.invs.length (λi a V1=>V=V1/\-1<=a/\a<=2000) ⟨rfl,t,u⟩ ?_;clear Y;rintro i b a V1 J Q ⟨rfl,t,u⟩ Y;refine qFt (λ_=>?_) (λg O=>?_);rotate_left
 ·obtain⟨x,z,P,-,j,o,N,f⟩:=e.invs.get g;have Z:=qAf (n:=i*6) o;refine⟨o,N,g,Z,_,_,_,_,_,_,f,λ_=>.mk,λ_=>⟨o,N,g,Z,_,_,_,_,_,_,f,λ_=>.mk,λ_=>⟨o,N,g,Z,_,_,_,_,_,_,f,Tri.mono (leftC 65 (by omega) x.x a (e.invsOk x z) t u) ?_⟩⟩⟩;rintro _ _ ⟨rfl,r,rfl,h3⟩;exact⟨_,rfl,e.invs.succ g,Y j _ _ _ ⟨rfl,h3⟩⟩
 refine qIb (mk:=.bool) (mc:=.int .i64) b a qCZ d.pots.length (λi a V1=>V=V1/\-1<=a/\a<=2000) ⟨rfl,t,u⟩ ?_;clear Y;rintro i b a V1 J Q ⟨rfl,t,u⟩ Y;refine qFt (λ_=>?_) (λg O=>?_);rotate_left
 ·obtain⟨x,z,P,-,j,o,N,f⟩:=e.pots.get g;have Z:=qAf (n:=i*5) o;refine⟨o,N,g,Z,_,_,_,_,_,f,λ_=>.mk,λ_=>⟨o,N,g,Z,_,_,_,_,_,f,Tri.mono (leftC 65 (by omega) x.x a (e.potsOk x z) t u) ?_⟩⟩;rintro _ _ ⟨rfl,r,rfl,h3⟩;exact⟨_,rfl,e.pots.succ g,Y j _ _ _ ⟨rfl,h3⟩⟩
 refine qIb (mk:=.bool) (mc:=.int .i64) b a qCZ d.bounds.length (λi a V1=>V=V1/\-1<=a/\a<=2000) ⟨rfl,t,u⟩ ?_;clear Y;rintro i b a V1 J Q ⟨rfl,t,u⟩ Y;refine qFt (λ_=>.mk) (λg O=>?_);obtain⟨x,z,P,-,j,o,N,f⟩:=e.bounds.get g;have Z:=qAf (n:=i*5) o;refine⟨o,N,g,Z,_,_,_,_,_,f,λ_=>.mk,λ_=>⟨o,N,g,Z,_,_,_,_,_,f,Tri.mono (leftC 65 (by omega) x.x a (e.boundsOk x z) t u) ?_⟩⟩;rintro _ _ ⟨rfl,r,rfl,h3⟩;exact⟨_,rfl,e.bounds.succ g,Y j _ _ _ ⟨rfl,h3⟩⟩
theorem greatC(g:Ds.Ok V d):Tri xE 38 #[d.v] V (RY V):=by
 refine Tri.mono (x38 (R:=RY V) ?_) λ_ _ h=>h;refine Tri.mono (overC g (n:=2000) (by omega) (by omega)) ?_;rintro _ _ ⟨rfl,b,rfl⟩;exact⟨_,rfl,.mk⟩
theorem manyC(hm:Mm.Ok V m):Tri xE 39 #[m.v] V (RY V):=by
 refine Tri.mono (x39 (R:=RY V) ?_) λ_ _ h=>h;refine⟨λ_=>.mk,λ_=>⟨λ_=>.mk,λ_=>qAM (mk:=.bool) (b0:=false) m.nodes.length (λi V1=>V=V1) rfl ?_⟩⟩;rintro i b V1 J o rfl z;refine⟨λg=>?_,λ_=>.mk⟩;obtain⟨x,j,e,-,t,u,r,f⟩:=hm.nodes.get g;exact⟨u,r,g,qAf u,_,_,f,λ_=>.mk,λ_=>⟨hm.nodes.succ g,z t _ _ rfl⟩⟩
theorem c141{s t:Sl}{xs ys:List Int}(h:qAc V s 1 (xs.map qAe))(k:qAc V t 1 (ys.map qAe)):PP 141 [.slice s.p s.n s.c,.slice t.p t.n t.c] V (.bool (decide (xs=ys))):=by
 refine x141 ?_;have N:=h.n_eq;have Z:=k.n_eq;refine⟨λo=>?_,λo=>?_⟩
 ·refine qAM (mk:=.bool) (b0:=false) xs.length (λi V1=>V=V1/\xs.take i=ys.take i) ⟨rfl,rfl⟩ ?_;rintro i b V1 J C ⟨rfl,Y⟩ Q;refine⟨λg=>?_,λP=>?_⟩
  ·obtain⟨x,O,A,-,z,I,L,u⟩:=h.get g;obtain⟨y,R,X,-,B,j,r,f⟩:=k.get (i:=i) (by omega);refine⟨I,L,g,_,u,j,r,by omega,_,f,λv=>⟨h.succ g,Q z _ _ ⟨rfl,take_eq Y A X v⟩⟩,λv=>?_⟩;rw[decide_eq_false λe=>?_];·simp_all
   simp_all
  grind
 ·rw[decide_eq_false λe=>o (by rw[N,Z,e])];simp_all
theorem plain_ext{a b:Mm}(h:a.globals=b.globals)(g:(a.nodes.map λn=>(n.ty,n.f))=b.nodes.map λn=>(n.ty,n.f)):a.plain=b.plain:=by grind[Mm.plain]
instance:DecidableEq (List Int×List (Int×List Int)):=inferInstance
theorem c95{a b:Mm}(j:Mm.Ok V a)(Y:Mm.Ok V b):PP 95 [a.v,b.v] V (.bool (decide (a.plain=b.plain))):=by
 refine x95 ?_;have E:=j.nodes.n_eq;have K:=Y.nodes.n_eq;have no:a.plain≠b.plain->(Ending.returned (.bool false)=.returned (.bool (decide (a.plain=b.plain)))/\V=V):=λh=>⟨by simp_all,rfl⟩;refine(c141 j.globals Y.globals).call ⟨_,rfl,λr=>?_,λr=>no λe=>r (decide_eq_true (wh e).1)⟩;have r:=of_decide_eq_true r;refine⟨λB=>?_,λB=>no λe=>B (by rw[E,K,qDt e])⟩;refine qAM (mk:=.bool) (b0:=false) a.nodes.length (λi V1=>V=V1/\(a.nodes.map λn=>(n.ty,n.f)).take i=(b.nodes.map λn=>(n.ty,n.f)).take i) ⟨rfl,rfl⟩ ?_;rintro i b0 V1 J hi ⟨rfl,P⟩ T;refine⟨λt=>?_,λO=>?_⟩
 ·obtain⟨x,A,hx,-,I,Q,C,z⟩:=j.nodes.get t;obtain⟨y,L,hy,-,U,u,o,g⟩:=Y.nodes.get (i:=i) (by omega);have D:(i:Int)<(b.ns.n:Int):=by omega
  have N:(a.nodes.map λn=>(n.ty,n.f))[i]?=some (x.ty,x.f):=by simp_all
  have Z:(b.nodes.map λn=>(n.ty,n.f))[i]?=some (y.ty,y.f):=by simp_all
  have bad:(x.ty,x.f)≠(y.ty,y.f)->a.plain≠b.plain:=λh e=>h (by rw[show(a.nodes.map λn=>(n.ty,n.f))=b.nodes.map λn=>(n.ty,n.f)from(wh e).2,Z]at N;simp_all);refine⟨Q,C,t,qAf Q,_,_,z,u,o,D,qAf u,_,_,g,λR=>⟨Q,C,t,qAf Q,_,_,z,u,o,D,qAf u,_,_,g,(c141 (j.nodesOk x A).rows (Y.nodesOk y L).rows).call ⟨_,rfl,λX=>⟨j.nodes.succ t,T I _ _ ⟨rfl,take_eq P N Z (Prod.ext R (of_decide_eq_true X))⟩⟩,λX=>no (bad λe=>X (decide_eq_true (wh e).2))⟩⟩,λR=>no (bad λe=>R (wh e).1)⟩
 ·have hd:=(j.nodes.done O).2;rw[wx (by simp_all),wx (by simp_all)]at P;exact⟨by rw[decide_eq_true (plain_ext r P)],rfl⟩
end
theorem qLp{d:Ds}{m:Mm}{nm:KB}{args:List Int}{F:Int}(G:qAw d m)(h:0<=F/\F<=1048576):qAZ d m nm args F=qCr d m nm args:=by
 grind[qAF,qAZ]
section
variable{V:Mem}
def qEs(b n:Nat):Sl:=⟨some ⟨b,0,none⟩,n,n⟩
end
section
variable{V V0:Mem}{d:Ds}{F:Nat}{m:Mm}{nm:KB}{args:List Int}{l:Sl}
theorem qCp{F:Int}(h:qAZ d m nm args F=0):qAw d m/\qCr d m nm args=0:=by
 grind[qAZ,qDl,absurd]
end
section
variable{V V0:Mem}{d:Ds}{F:Nat}{m:Mm}{nm:KB}{args:List Int}{l:Sl}
theorem qGR(z:Ds.Ok V d){V':Mem}{gs ns ls:Sl}{nd:List Nd}{s:St}(L:Lay V V' gs ns ls nd s)(o:qAw d s.mm):Mm.Ok V' ⟨gs,s.g,ns,nd⟩/\(⟨gs,s.g,ns,nd⟩:Mm).plain=(s.g,s.ns):=by
 have e:(⟨gs,s.g,ns,nd⟩:Mm).plain=(s.g,s.ns):=by
  unfold Mm.plain;rw[<-L.eq]
 obtain⟨p1,O,p3,J,N⟩:=qAh o.mem;have i:∀{t:List Fld}{vs:List Int},qAi d s.mm t vs=true->∀v∈vs,inI v:=λ{t vs} h v hv=>by
  obtain⟨j,r⟩:=xg.1 hv;obtain⟨Z,Y⟩:=qAD.1 h;have Q:=(yv.1 r).1;have:=Y j _ v (List.getElem?_eq_getElem (by omega)) r;grind[qAA,inI]
 refine⟨⟨L.glob.rows (λ_=>rfl) (by decide),i J,L.nodes.rows (λ_=>rfl) (by decide),λn P=>?_⟩,e⟩;have u:(⟨n.ty,qAx,n.f⟩:Nd)∈s.mm.nodes:=by
  unfold St.mm;rw[<-L.eq];grind
 refine⟨(L.fld n P).rows (λ_=>rfl) (by decide),?_,i (N ⟨n.ty,qAx,n.f⟩ u)⟩;have:=of_decide_eq_true (p3 ⟨n.ty,qAx,n.f⟩ u);have Z:d.types.length<=9223372036854775807:=by
  have:=z.types.n_eq;have:=z.types.cap;have:=z.types.fit;omega
 grind[inI]
theorem qFe(G:qAw d m)(g:qCr d m nm args=0):qAw d (qCf d F (qDa d nm) args (qBZ m)).st.mm:=by
 obtain⟨i,q,f,t,h⟩:=qHd g;rw[f];exact(play_snd (F:=F) (qGJ G.valid G.chk) t (qJE G) (qAp (qDr (qEf m).symm) h)).good
end
end Go.Proofs
namespace Go.Proofs
open Go Go.Sx
def qBE(w:World):Mem:=λb=>w.heap[b]?
theorem heapM_le(w:World):(qBE w).le w:=λ_ _ h=>h
theorem qGT{α β:Type}{f:α->Option β}:∀{l:List α}{r:List β},l.mapM f=some r->r.length=l.length/\∀(i:Nat)(a:α),l[i]?=some a->∃b,r[i]?=some b/\f a=some b
 |[],r,h=>by simp_all
 |x::l,r,h=>by
  simp only[List.mapM_cons,Option.bind_eq_bind,vF,Option.pure_def,zF]at h;obtain⟨b,t,u,g,rfl⟩:=h;obtain⟨h1,h2⟩:=qGT g;grind
theorem cells_row{w:World}{a:Addr}{n:Nat}{cs:List Value}(h:w.cells? 0 a n=some cs)(N:0<n):(qBE w).row a n=some cs:=by
 unfold World.cells? at h;rw[if_pos (Nat.zero_le _)]at h;obtain⟨h1,h2⟩:=qGT h;have f:∀i,i<n->∃v,cs[i]?=some v/\w.cell? (a.add i)=some v:=λi j=>h2 i i (by simp[j]);obtain⟨A,-,g⟩:=f 0 N;have Z:a.add 0=a:=by rfl
 rw[Z]at g;unfold World.cell? at g;split at g
 ·rename_i c t fr Y;split at g;·cases g
  ·rename_i Q;have u:a.spot.isNone=true:=by simp_all
   have J:a.spot=none:=by simp_all
   have r:∀i,i<n->∃v,cs[i]?=some v/\c[a.off+i]?=some v:=λi j=>by
    obtain⟨v,hv,P⟩:=f i j;refine⟨v,hv,?_⟩;have e:a.add i=⟨a.block,a.off+i,none⟩:=by
     unfold Addr.add;by_cases h0:i=0
     ·subst h0;rw[if_pos rfl];cases a with
      |mk b o s=>simp_all
     grind
    grind[World.cell?]
   have z:a.off+n<=c.size:=by
    obtain⟨v,_,P⟩:=r (n-1) (by omega);grind
   have O:cs.length=n:=by rw[h1];simp
   unfold Mem.row qBE;simp only[Y];rw[if_pos ⟨u,z⟩];congr 1;apply List.ext_getElem?;grind
 ·cases g
section
variable{H:Type}{enc:TypeId×Value->H}{w:World}
noncomputable abbrev TR(enc:TypeId×Value->H)(w:World)(n:Nat)(t:TypeId)(cs:List Value):=vG enc xE w 0 (λ_=>true) true n t cs
theorem rd_str{n:Nat}{t:TypeId}{cs:List Value}{x:DataW H×List MemPlace}(g:xE.underlying t=some .string)(h:TR enc w n t cs=some x):∃s,cs=[.string s]:=by
 cases n with
 |zero=>cases h
 |succ n=>
  unfold TR vG at h;grind
theorem rd_int{n:Nat}{t:TypeId}{cs:List Value}{x:DataW H×List MemPlace}(g:xE.underlying t=some (.int .i64))(h:TR enc w n t cs=some x):∃v:Int,cs=[.int .i64 v]/\yr.min<=v/\v<=yr.max:=by
 cases n with
 |zero=>cases h
 |succ n=>
  unfold TR vG at h;grind[Lit.wf]
theorem rd_slice{α:Type}{row:α->List Value}{ok:α->Prop}{sz n:Nat}{t e:TypeId}{cs:List Value}{x:DataW H×List MemPlace}(v:xE.underlying t=some (.slice e))(P:xE.cellsOf e=sz)(J:0<sz)(r:∀a,(row a).length=sz)
  (N:∀m,m<n->∀cs x,TR enc w m e cs=some x->∃a,row a=cs/\ok a) (h:TR enc w n t cs=some x):∃(s:Sl)(xs:List α),cs=[.slice s.p s.n s.c]/\qAc (qBE w) s sz (xs.map row)/\∀a∈xs,ok a:=by
 cases n with
 |zero=>cases h
 |succ n=>
  have key:∀(a:Addr)(len cap:Nat),TR enc w (n+1) t [.slice (some a) len cap]=some x->∃(xs:List α),qAc (qBE w) ⟨some a,len,cap⟩ sz (xs.map row)/\∀a∈xs,ok a:=by
   intro a len cap h;unfold TR vG at h;rw[v]at h;simp only at h;split at h;case isFalse=>cases h
   rename_i g;simp only[vF]at h;obtain⟨u,hm,-⟩:=h;obtain⟨h1,h2⟩:=qGT hm;have z:∀i:Fin len,∃y:α,(qBE w).row (a.add (i*sz)) sz=some (row y)/\ok y:=by
    intro i;obtain⟨b,-,o⟩:=h2 i i (by simp);simp only[vF]at o;obtain⟨Z,Y,j⟩:=o;obtain⟨y,O,Q⟩:=N n (vH n) Z _ j;grind[cells_row]
   refine⟨List.ofFn λi=>Classical.choose (z i),⟨by simp,g.2.1,by grind[maxLen],?_,?_⟩,?_⟩;·simp_all
   ·grind
   grind
  have f:cs=[.slice none 0 0]∨∃a len cap,cs=[.slice (some a) len cap]:=by
   unfold TR vG at h;grind
  rcases f with rfl|⟨a,len,cap,rfl⟩;·exact⟨⟨none,0,0⟩,[],rfl,qAc.nil,by simp⟩
  grind
theorem qBS{n:Nat}{t:TypeId}{fs:Array Field}{cs:List Value}{x:DataW H×List MemPlace}(j:xE.underlying t=some (.struct fs))(h:TR enc w n t cs=some x):
  cs.length=xE.cellsOf t/\∃m,m<n/\∀(i:Nat)(f:Field),fs.toList[i]?=some f->∃y,TR enc w m f.type ((cs.drop f.offset).take (xE.cellsOf f.type))=some y:=by
 cases n with
 |zero=>cases h
 |succ n=>
  have key:cs.length=xE.cellsOf t->(∃xs,(fs.toList.mapM λf=>vG enc xE w 0 (λ_=>true) true n f.type ((cs.drop f.offset).take (xE.cellsOf f.type)))=some xs)->
    cs.length=xE.cellsOf t/\∃m,m<n+1/\∀(i:Nat)(f:Field),fs.toList[i]?=some f->∃y,TR enc w m f.type ((cs.drop f.offset).take (xE.cellsOf f.type))=some y:=by
   rintro u ⟨xs,z⟩;refine⟨u,n,vH n,λi f r=>?_⟩;obtain⟨-,h2⟩:=qGT z;grind
  unfold TR vG at h;rw[j]at h;split at h;all_goals first|(rename_i e;cases e;done)|(rename_i e _;cases e;done)|(rename_i e _ _;cases e;done)|(exact absurd rfl ((by assumption:∀g:Array Field,some (vJ fs)=some (vJ g)->False) fs))|skip
  rename_i e;cases e;split at h
  ·rename_i u;simp only[Option.map_eq_some_iff]at h;obtain⟨xs,z,-⟩:=h;simp_all
  simp_all
end
end Go.Proofs
namespace Go.Proofs
open Go Go.Sx
section
variable{H:Type}{enc:TypeId×Value->H}{w:World}
theorem at1{cs:List Value}{v:Value}{off m:Nat}{t:TypeId}(h:∃y,TR enc w m t ((cs.drop off).take (xE.cellsOf t))=some y)(g:xE.cellsOf t=1)(hv:cs[off]?=some v):∃y,TR enc w m t [v]=some y:=by
 grind[yv,List.drop_eq_getElem_cons]
theorem cl9:xE.cellsOf 9=1:=by kernel_rfl
theorem cl3:xE.cellsOf 3=1:=by kernel_rfl
theorem cl22:xE.cellsOf 22=1:=by kernel_rfl
theorem cl23:xE.cellsOf 23=1:=by kernel_rfl
theorem cl24:xE.cellsOf 24=1:=by kernel_rfl
theorem cl25:xE.cellsOf 25=1:=by kernel_rfl
theorem cl26:xE.cellsOf 26=1:=by kernel_rfl
theorem cl27:xE.cellsOf 27=1:=by kernel_rfl
theorem cl28:xE.cellsOf 28=1:=by kernel_rfl
theorem cl38:xE.cellsOf 149=1:=by kernel_rfl
theorem cl52:xE.cellsOf 141=1:=by kernel_rfl
theorem cl40:xE.cellsOf 151=4:=by kernel_rfl
theorem cl67:xE.cellsOf 101=2:=by kernel_rfl
theorem cl94:xE.cellsOf 98=2:=by kernel_rfl
theorem cl54:xE.cellsOf 143=5:=by kernel_rfl
theorem cl75:xE.cellsOf 154=5:=by kernel_rfl
theorem cl97:xE.cellsOf 184=7:=by kernel_rfl
theorem cl58:xE.cellsOf 187=6:=by kernel_rfl
theorem cl61:xE.cellsOf 189=5:=by kernel_rfl
theorem cl64:xE.cellsOf 191=5:=by kernel_rfl
theorem cl30:xE.cellsOf 30=8:=by kernel_rfl
theorem gS{m:Nat}{v:Value}(h:∃y,TR enc w m 9 [v]=some y):∃s,v=.string s:=by
 obtain⟨y,g⟩:=h;obtain⟨s,e⟩:=rd_str Tryz.underlying9 g;exact⟨s,by simpa using e⟩
theorem gI{m:Nat}{v:Value}(h:∃y,TR enc w m 3 [v]=some y):∃n:Int,v=.int .i64 n/\yr.min<=n/\n<=yr.max:=by
 obtain⟨y,g⟩:=h;obtain⟨s,e,h1⟩:=rd_int wi g;exact⟨s,by simpa using e,h1⟩
theorem gSl{α:Type}{row:α->List Value}{ok:α->Prop}{sz m:Nat}{t e:TypeId}{v:Value}(z:xE.underlying t=some (.slice e))(j:xE.cellsOf e=sz)(f:0<sz)(g:∀a,(row a).length=sz)
  (i:∀u,u<m->∀cs x,TR enc w u e cs=some x->∃a,row a=cs/\ok a) (h:∃y,TR enc w m t [v]=some y):∃(s:Sl)(xs:List α),v=.slice s.p s.n s.c/\qAc (qBE w) s sz (xs.map row)/\∀a∈xs,ok a:=by
 obtain⟨y,r⟩:=h;obtain⟨s,xs,e,h1,h2⟩:=rd_slice z j f g i r;grind
theorem len2{cs:List Value}(h:cs.length=2):∃a b,cs=[a,b]:=by
 match cs,h with
 |[a,b],_=>simp_all
theorem len4{cs:List Value}(h:cs.length=4):∃a b c d,cs=[a,b,c,d]:=by
 match cs,h with
 |[a,b,c,d],_=>simp_all
theorem len5{cs:List Value}(h:cs.length=5):∃a b c d e,cs=[a,b,c,d,e]:=by
 match cs,h with
 |[a,b,c,d,e],_=>simp_all
theorem len6{cs:List Value}(h:cs.length=6):∃a b c d e f,cs=[a,b,c,d,e,f]:=by
 match cs,h with
 |[a,b,c,d,e,f],_=>simp_all
theorem len7{cs:List Value}(h:cs.length=7):∃a b c d e f g,cs=[a,b,c,d,e,f,g]:=by
 match cs,h with
 |[a,b,c,d,e,f,g],_=>simp_all
theorem len8{cs:List Value}(h:cs.length=8):∃a b c d e f g i,cs=[a,b,c,d,e,f,g,i]:=by
 match cs,h with
 |[a,b,c,d,e,f,g,i],_=>simp_all
theorem rdFld{n:Nat}{cs:List Value}{x:DataW H×List MemPlace}(h:TR enc w n 101 cs=some x):∃f:Fld,Fld.row f=cs/\True:=by
 obtain⟨t,m,-,g⟩:=qBS Tryz.underlying101 h;obtain⟨a,b,rfl⟩:=len2 (t.trans cl67);obtain⟨s1,rfl⟩:=gS (at1 (g 0 _ rfl) cl9 rfl);obtain⟨s2,rfl⟩:=gS (at1 (g 1 _ rfl) cl9 rfl);exact⟨⟨s1,s2⟩,rfl,trivial⟩
theorem rdE:∀(n:Nat)(cs:List Value)(x:DataW H×List MemPlace),TR enc w n 151 cs=some x->∃e:E,E.row e=cs/\E.Ok (qBE w) e:=by
 intro n;induction n using yS with
 |_ n f=>
 intro cs x h;obtain⟨t,m,hm,g⟩:=qBS Tryz.underlying151 h;obtain⟨a,b,c,d,rfl⟩:=len4 (t.trans cl40);obtain⟨op,rfl,u⟩:=gI (at1 (g 0 _ rfl) cl3 rfl);obtain⟨nn,rfl,z⟩:=gI (at1 (g 1 _ rfl) cl3 rfl);obtain⟨s,rfl⟩:=gS (at1 (g 2 _ rfl) cl9 rfl);obtain⟨l,k,rfl,j,i⟩:=gSl (row:=E.row) (ok:=E.Ok (qBE w)) vK cl40 (by decide) (λ_=>rfl) (λr o=>f r (by omega)) (at1 (g 3 _ rfl) cl38 rfl);exact⟨.mk op nn s l k,rfl,.mk j i u z⟩
theorem S.row_len:∀s:S,(S.row s).length=5:=λs=>by cases s;rfl
theorem rdS:∀(n:Nat)(cs:List Value)(x:DataW H×List MemPlace),TR enc w n 154 cs=some x->∃e:S,S.row e=cs/\S.Ok (qBE w) e:=by
 intro n;induction n using yS with
 |_ n v=>
 intro cs x h;obtain⟨J,m,hm,g⟩:=qBS Tryz.underlying154 h;obtain⟨a,b,c,d,e,rfl⟩:=len5 (J.trans cl75);obtain⟨op,rfl,N⟩:=gI (at1 (g 0 _ rfl) cl3 rfl);obtain⟨s,rfl⟩:=gS (at1 (g 1 _ rfl) cl9 rfl);obtain⟨el,es,rfl,t,u⟩:=gSl (row:=E.row) (ok:=E.Ok (qBE w)) vK cl40 (by decide) (λ_=>rfl) (λf _=>rdE f) (at1 (g 2 _ rfl) cl38 rfl);obtain⟨ll,ls,rfl,z,j⟩:=gSl (row:=S.row) (ok:=S.Ok (qBE w)) vL cl75 (by decide) S.row_len (λf i=>v f (by omega)) (at1 (g 3 _ rfl) cl52 rfl);obtain⟨xl,xs,rfl,r,o⟩:=gSl (row:=S.row) (ok:=S.Ok (qBE w)) vL cl75 (by decide) S.row_len (λf i=>v f (by omega)) (at1 (g 4 _ rfl) cl52 rfl);exact⟨.mk op s el es ll ls xl xs,rfl,.mk t u z j r o N⟩
theorem gF{m:Nat}{v:Value}(h:∃y,TR enc w m 23 [v]=some y):∃(s:Sl)(xs:List Fld),v=.slice s.p s.n s.c/\qAc (qBE w) s 2 (xs.map Fld.row):=by
 obtain⟨s,xs,h1,h2,-⟩:=gSl (row:=Fld.row) (ok:=λ_=>True) Tryz.underlying23 cl67 (by decide) (λ_=>rfl) (λ_ _ _ _=>rdFld) h;grind
theorem rdTy{n:Nat}{cs:List Value}{x:DataW H×List MemPlace}(h:TR enc w n 98 cs=some x):∃f:Ty,Ty.row f=cs/\Ty.Ok (qBE w) f:=by
 obtain⟨t,m,-,g⟩:=qBS Tryz.underlying98 h;obtain⟨a,b,rfl⟩:=len2 (t.trans cl94);obtain⟨s1,rfl⟩:=gS (at1 (g 0 _ rfl) cl9 rfl);obtain⟨l,k,rfl,u⟩:=gF (at1 (g 1 _ rfl) cl23 rfl);exact⟨⟨s1,l,k⟩,rfl,⟨u⟩⟩
theorem rdPr{n:Nat}{cs:List Value}{x:DataW H×List MemPlace}(h:TR enc w n 143 cs=some x):∃f:Pr,Pr.row f=cs/\Pr.Ok (qBE w) f:=by
 obtain⟨i,m,-,g⟩:=qBS Tryz.underlying143 h;obtain⟨a,b,c,d,e,rfl⟩:=len5 (i.trans cl54);obtain⟨s1,rfl⟩:=gS (at1 (g 0 _ rfl) cl9 rfl);obtain⟨r,o,rfl,t⟩:=gF (at1 (g 1 _ rfl) cl23 rfl);obtain⟨s2,rfl⟩:=gS (at1 (g 2 _ rfl) cl9 rfl);obtain⟨v,J,rfl,u⟩:=gF (at1 (g 3 _ rfl) cl23 rfl);obtain⟨N,Z,rfl,z,j⟩:=gSl (row:=S.row) (ok:=S.Ok (qBE w)) vL cl75 (by decide) S.row_len (λY _=>rdS Y) (at1 (g 4 _ rfl) cl52 rfl);exact⟨⟨s1,r,o,s2,v,J,N,Z⟩,rfl,⟨t,u,z,j⟩⟩
theorem rdMs{n:Nat}{cs:List Value}{x:DataW H×List MemPlace}(h:TR enc w n 184 cs=some x):∃f:Ms,Ms.row f=cs/\Ms.Ok (qBE w) f:=by
 obtain⟨i,m,-,t⟩:=qBS Tryz.underlying184 h;obtain⟨a,b,c,d,e,f,g,rfl⟩:=len7 (i.trans cl97);obtain⟨s1,rfl⟩:=gS (at1 (t 0 _ rfl) cl9 rfl);obtain⟨s2,rfl⟩:=gS (at1 (t 1 _ rfl) cl9 rfl);obtain⟨nn,rfl,r⟩:=gI (at1 (t 2 _ rfl) cl3 rfl);obtain⟨y,u⟩:=t 3 _ rfl;change TR enc w m 151 (([xI s1,.string s2,.int .i64 nn,d,e,f,g].drop 3).take (xE.cellsOf 151))=some y at u;rw[cl40]at u;obtain⟨x,j,z⟩:=rdE m _ _ u;simp only[vM,vN,we,vO,E.row,yE,and_true]at j;obtain⟨rfl,rfl,rfl,rfl⟩:=j;exact⟨⟨s1,s2,nn,x⟩,rfl,⟨z,r⟩⟩
theorem rdIv{n:Nat}{cs:List Value}{x:DataW H×List MemPlace}(h:TR enc w n 187 cs=some x):∃f:Iv,Iv.row f=cs/\E.Ok (qBE w) f.x:=by
 obtain⟨i,m,-,t⟩:=qBS Tryz.underlying187 h;obtain⟨a,b,d,e,f,g,rfl⟩:=len6 (i.trans cl58);obtain⟨s1,rfl⟩:=gS (at1 (t 0 _ rfl) cl9 rfl);obtain⟨s2,rfl⟩:=gS (at1 (t 1 _ rfl) cl9 rfl);obtain⟨y,u⟩:=t 2 _ rfl;change TR enc w m 151 (([xI s1,.string s2,d,e,f,g].drop 2).take (xE.cellsOf 151))=some y at u;rw[cl40]at u;obtain⟨x,j,z⟩:=rdE m _ _ u;simp only[vM,vN,we,vO,E.row,yE,and_true]at j;obtain⟨rfl,rfl,rfl,rfl⟩:=j;exact⟨⟨s1,s2,x⟩,rfl,z⟩
theorem rdPo{n:Nat}{cs:List Value}{x:DataW H×List MemPlace}(h:TR enc w n 189 cs=some x):∃f:Po,Po.row f=cs/\E.Ok (qBE w) f.x:=by
 obtain⟨i,m,-,z⟩:=qBS Tryz.underlying189 h;obtain⟨a,d,e,f,g,rfl⟩:=len5 (i.trans cl61);obtain⟨s1,rfl⟩:=gS (at1 (z 0 _ rfl) cl9 rfl);obtain⟨y,t⟩:=z 1 _ rfl;change TR enc w m 151 (([xI s1,d,e,f,g].drop 1).take (xE.cellsOf 151))=some y at t;rw[cl40]at t;obtain⟨x,j,u⟩:=rdE m _ _ t;simp only[vM,vN,we,vO,E.row,yE,and_true]at j;obtain⟨rfl,rfl,rfl,rfl⟩:=j;exact⟨⟨s1,x⟩,rfl,u⟩
theorem rdBd{n:Nat}{cs:List Value}{x:DataW H×List MemPlace}(h:TR enc w n 191 cs=some x):∃f:Bd,Bd.row f=cs/\E.Ok (qBE w) f.x:=by
 obtain⟨i,m,-,z⟩:=qBS Tryz.underlying191 h;obtain⟨a,d,e,f,g,rfl⟩:=len5 (i.trans cl64);obtain⟨s1,rfl⟩:=gS (at1 (z 0 _ rfl) cl9 rfl);obtain⟨y,t⟩:=z 1 _ rfl;change TR enc w m 151 (([xI s1,d,e,f,g].drop 1).take (xE.cellsOf 151))=some y at t;rw[cl40]at t;obtain⟨x,j,u⟩:=rdE m _ _ t;simp only[vM,vN,we,vO,E.row,yE,and_true]at j;obtain⟨rfl,rfl,rfl,rfl⟩:=j;exact⟨⟨s1,x⟩,rfl,u⟩
theorem rdDs{n:Nat}{cs:List Value}{x:DataW H×List MemPlace}(h:TR enc w n 30 cs=some x):∃d:Ds,d.row=cs/\Ds.Ok (qBE w) d:=by
 obtain⟨u,m,-,t⟩:=qBS Tryz.underlying30 h;obtain⟨a,b,c,d,e,f,g,i,rfl⟩:=len8 (u.trans cl30);obtain⟨s1,rfl⟩:=gS (at1 (t 0 _ rfl) cl9 rfl);obtain⟨z,j,rfl,h1,r⟩:=gSl (row:=Ty.row) (ok:=Ty.Ok (qBE w)) Tryz.underlying22 cl94 (by decide) (λ_=>rfl) (λ_ _ _ _=>rdTy) (at1 (t 1 _ rfl) cl22 rfl);obtain⟨o,v,rfl,h2⟩:=gF (at1 (t 2 _ rfl) cl23 rfl);obtain⟨J,N,rfl,h3,Z⟩:=gSl (row:=Pr.row) (ok:=Pr.Ok (qBE w)) Tryz.underlying24 cl54 (by decide) (λ_=>rfl) (λ_ _ _ _=>rdPr) (at1 (t 3 _ rfl) cl24 rfl);obtain⟨Y,Q,rfl,h4,P⟩:=gSl (row:=Ms.row) (ok:=Ms.Ok (qBE w)) Tryz.underlying25 cl97 (by decide) (λ_=>rfl) (λ_ _ _ _=>rdMs) (at1 (t 4 _ rfl) cl25 rfl);obtain⟨O,A,rfl,I,L⟩:=gSl (row:=Iv.row) (ok:=λf=>E.Ok (qBE w) f.x) Tryz.underlying26 cl58 (by decide) (λ_=>rfl) (λ_ _ _ _=>rdIv) (at1 (t 5 _ rfl) cl26 rfl);obtain⟨R,X,rfl,B,C⟩:=gSl (row:=Po.row) (ok:=λf=>E.Ok (qBE w) f.x) Tryz.underlying27 cl61 (by decide) (λ_=>rfl) (λ_ _ _ _=>rdPo) (at1 (t 6 _ rfl) cl27 rfl);obtain⟨D,K,rfl,T,U⟩:=gSl (row:=Bd.row) (ok:=λf=>E.Ok (qBE w) f.x) Tryz.underlying28 cl64 (by decide) (λ_=>rfl) (λ_ _ _ _=>rdBd) (at1 (t 7 _ rfl) cl28 rfl);exact⟨⟨s1,z,j,o,v,J,N,Y,Q,O,A,R,X,D,K⟩,rfl,⟨h1,r,h2,h3,Z,h4,P,I,L,B,C,T,U⟩⟩
end
end Go.Proofs
namespace Go.Proofs.YtmeagdecjpknkaaGreatDoor
open Go Go.Sx Go.Proofs Go.ChangeShapes Go.WideShapes Go.ChangeAt Go.RowKit
theorem same_old{P:Program}{f:FuncId}{args:List Value}{W:World}{v:Value}(h:Pur P f args (qBE W) v):Calls P f args.toArray W λe g=>e=.returned v/\g.os=W.os/\g.output=W.output/\W.heap.size<=g.heap.size/\∀b,b<W.heap.size->g.heap[b]?=W.heap[b]?:=by
 have h2:Tri P f args.toArray (qBE W) λe V'=>e=.returned v/\V'=qBE W:=h;unfold Tri at h2;refine qDp (h2 W (heapM_le W)) ?_;rintro e g ⟨V',⟨rfl,rfl⟩,t⟩;refine⟨rfl,t.os,t.out,t.size,λb u=>?_⟩;have:qBE W b=some W.heap[b]:=Array.getElem?_eq_getElem u;rw[t.le b _ this];exact this.symm
theorem Tryz.own:ownKnob xE.godebug=none:=by kernel_rfl
theorem Tryz.laidOut:laidOutB xE=true:=by kernel_rfl
theorem tab_of{W:World}(h:xK xE W "strings.asciiSpace" .u8 xL):Tab (qBE W):=by
 have g:xE.globalNamed "strings.asciiSpace" =some 0:=by kernel_rfl
 unfold xK World.var? at h;rw[g,Option.bind_some]at h;split at h
 ·rename_i cs t fr f;simp only[zF]at h;exact⟨t,fr,by rw[<-h];exact f⟩
 ·cases h
theorem desc_of{H:Type}{enc:TypeId×Value->H}{W:World}{v:Value}{t:DataW H}{p:List MemPlace}(h:vP enc xE W 0 (λ_=>true) true 30 v t p):∃d:Ds,v=d.v/\Ds.Ok (qBE W) d:=by
 obtain⟨fuel,h⟩:=h;obtain⟨d,f,g⟩:=rdDs h;refine⟨d,?_,g⟩;have u:v.cells.toList.length=8:=by rw[<-f];rfl
 cases v with
 |agg cs=>
  have:cs.toList=d.row:=f.symm;show Value.agg cs=.agg d.row.toArray;rw[<-this]
 |_=>simp[Value.cells]at u
noncomputable def laidWorld(os:Os):World:=
 let w0:=World.holding xE os ⟨#[.cells #[.int .u16 9,.int .u16 13,.int .u16 1,.int .u16 32,.int .u16 133,.int .u16 101,.int .u16 160,.int .u16 5760,.int .u16 5600,.int .u16 8192,.int .u16 8202,.int .u16 1,.int .u16 8232,.int .u16 8233,.int .u16 1,.int .u16 8239,.int .u16 8287,.int .u16 48,.int .u16 12288,.int .u16 12288,.int .u16 1] 385,
  .cells #[.slice (some ⟨(vQ xE os).heap.size,0,none⟩) 7 7,.slice none 0 0,.int .i64 2] 382],#[],[]⟩
 {w0 with heap:=(w0.heap.modify 0 fun
   |.cells _ t frozen=>.cells (xL.map λz=>Value.int .u8 z).toArray t frozen
   |o=>o).modify 1 fun
   |.cells _ t frozen=>.cells #[.pointer (some ⟨(vQ xE os).heap.size+1,0,none⟩)] t frozen
   |o=>o}
theorem qLM(os:Os)(args:Array Value):laidMet xE [("unicode.White_Space",Rows.laid_unicode_White_Space),("strings.asciiSpace",Rows.laid_strings_asciiSpace)] ((laidWorld os).forCall (λ_ _=>0) ⟨#[],args,[]⟩).memory:=
 (LaidIn.of_run [0,1,(vQ xE os).heap.size,(vQ xE os).heap.size+1] 12 (by kernel_rfl) (by kernel_rfl) (by kernel_rfl) (by kernel_rfl)).met
end Go.Proofs.YtmeagdecjpknkaaGreatDoor
namespace Go.Proofs.YtmeagdecjpknkaaGreatDoor
open Go Go.Sx Go.Proofs Go.ChangeShapes Go.WideShapes Go.ChangeAt Go.RowKit
abbrev laid0:List (String×DataW Unit):=[("unicode.White_Space",Rows.laid_unicode_White_Space),("strings.asciiSpace",Rows.laid_strings_asciiSpace)]
theorem qIf{w:World}:laidMetH xE laid0 w↔laidMet xE laid0 w:=by
 rfl
theorem tab_laid{W:World}(h:laidMet xE laid0 W):Tab (qBE W):=by
 obtain⟨ps,h1,h2,h3⟩:=h;obtain⟨g,t,cs,fuel,p,q,I,L,Z,R,f,Q⟩:=h1;obtain⟨P,O,A,r,X,B,o,v,u,z,i,Y⟩:=f;refine tab_of ?_;unfold xK;rw[u];have J:P=0:=vR (o.symm.trans (show xE.globalNamed "strings.asciiSpace" =some 0 by kernel_rfl));subst J;have N:O=365:=vR (v.symm.trans (show(xE.globals[0]?).map (·.type)=some 365 by kernel_rfl));subst N;have j:(Rows.laid_strings_asciiSpace:DataW Unit)=Lib.tabData .u8 xL:=by kernel_rfl
 rw[j]at z;rw[<-Lib.cells_of_tab (n:=256) (e:=5) Tryz.underlying365 Tryz.underlying5 (by kernel_rfl) (by kernel_rfl) z]
theorem kept{W h:World}(h1:h.os=W.os)(h2:h.output=W.output)(f:∀b,b<W.heap.size->h.heap[b]?=W.heap[b]?)(g:MemPlace->Prop):W.keptBut h g:=by
 refine⟨h1,h2,λi t=>?_⟩;grind
theorem again_arg{H:Type}{enc:TypeId×Value->H}{t:TypeId}(i:xE.readableRec t=true)(f:t<xE.types.size){W z:World}{v:Value}{d:DataW H}{ps:List MemPlace}(h:vP enc xE W 0 (λ_=>true) true t v d ps)
  (g:∀b,b<W.heap.size->z.heap[b]?=W.heap[b]?) (u:∀x∈ps,x.block<W.heap.size):vP enc xE z 0 (λb=>decide (b<W.heap.size)) true t v d ps:=
 WideElems.Trod_stays Tryz.laidOut i f h (λx j=>by
  have:=u x j;cases x with
  |cell b o=>exact World.cell?_of_block (w:=W) (g b this)
  |map b=>exact g b this) (λx j=>by simp_all)
theorem wit{C:Checked}{os:Os}{f:FuncId}{fn:Func}{s:ChangeSpec}{g:List PathCond}{apart:Bool}{X:World->Array Value->Prop}{H:Type}{enc:TypeId×Value->H}(w0:World)(args:Array Value)(fuel:Nat)(z:w0.os=os)
  (hv:(w0.forCall (λ_ _=>0) ⟨#[],args,[]⟩).variablesRefB C.prog=true)
  (r:((w0.forCall (λ_ _=>0) ⟨#[],args,[]⟩).heap.toList.drop C.prog.globals.size).take ((begin C.prog (λ_ _=>0) default).world.heap.size-C.prog.globals.size)=
   (begin C.prog (λ_ _=>0) default).world.heap.toList.drop C.prog.globals.size)
  (t:Input.okWideB C.prog (w0.forCall (λ_ _=>0) ⟨#[],args,[]⟩) f ⟨#[],args,[]⟩=true)
  (u:s.preB enc C.prog fn g apart (w0.forCall (λ_ _=>0) ⟨#[],args,[]⟩).memory args fuel=true)
  (j:s.sizedB enc C.prog fn apart (w0.forCall (λ_ _=>0) ⟨#[],args,[]⟩).memory args fuel=true)
  (o:X (w0.forCall (λ_ _=>0) ⟨#[],args,[]⟩).memory args):
  ∃(w:World)(h:Tape)(i:Input),w.os=os/\(w.forCall h i).Shaped C.prog/\i.vars=[]/\Input.okWide C.prog (w.forCall h i) .any w.heap.size f i/\
   ((s.pre enc C.prog fn g apart (w.forCall h i).memory i.args/\X (w.forCall h i).memory i.args)/\sizedMet enc C.prog fn (OpenSpec.ofChange s) apart (w.forCall h i).memory i.args)/\({}:Assume).holds C.prog (lone (Frame.enter C.prog f i.args .normal) [] (w.forCall h i)):=
 ⟨w0,λ_ _=>0,⟨#[],args,[]⟩,z,World.shaped_of_RefB hv r,(vT (base:=0) t).1,(vT t).2,⟨⟨ChangeSpec.pre_of_preB u,o⟩,sizedMet_of_sizedB j⟩,by
  grind[Assume.holds]⟩
theorem again_all{H:Type}{enc:TypeId×Value->H}{W i:World}(g:∀b,b<W.heap.size->i.heap[b]?=W.heap[b]?):∀{ts:List TypeId}{vs:List Value}{ds:List (DataW H)}{ps:List MemPlace},(∀t∈ts,xE.readableRec t=true/\t<xE.types.size)->
  vU enc xE W 0 (λ_=>true) true ts vs ds ps->(∀x∈ps,x.block<W.heap.size)->vU enc xE i 0 (λb=>decide (b<W.heap.size)) true ts vs ds ps
 |[],_,_,_,_,h,_=>by
  obtain⟨rfl,rfl,rfl⟩:=trodAll_nil h;rfl
 |t::ts,_,_,_,z,h,f=>by
  obtain⟨v,vs,d,ds,p,q,rfl,rfl,rfl,h1,h2⟩:=trodAll_cons h;exact⟨p,q,again_arg (z t (by simp)).1 (z t (by simp)).2 h1 g (λx j=>f x (List.mem_append_left _ j)),again_all g (λu hu=>z u (by simp[hu])) h2 (λx j=>f x (List.mem_append_right _ j)),rfl⟩
end Go.Proofs.YtmeagdecjpknkaaGreatDoor
namespace Go.Proofs.YtmeagdecjpknkaaGreatDoor
open Go Go.Sx Go.Proofs Go.ChangeShapes Go.WideShapes Go.ChangeAt Go.RowKit
section
variable{H:Type}{enc:TypeId×Value->H}{w:World}
theorem cl31:xE.cellsOf 31=1:=by kernel_rfl
theorem gInts{m:Nat}{v:Value}(h:∃y,TR enc w m 31 [v]=some y):∃(s:Sl)(xs:List Int),v=.slice s.p s.n s.c/\qAc (qBE w) s 1 (xs.map qAe)/\∀x∈xs,inI x:=
 gSl (row:=qAe) (ok:=inI) Tryz.underlying31 cl3 (by decide) (λ_=>rfl) (λt _ cs x g=>by
  obtain⟨n,rfl,f⟩:=rd_int wi g;exact⟨n,rfl,f⟩) h
theorem clCl:xE.cellsOf 49=2:=by kernel_rfl
theorem rdCl{n:Nat}{cs:List Value}{x:DataW H×List MemPlace}(h:TR enc w n 49 cs=some x):∃(nm:KB)(l:Sl)(xs:List Int),[xI nm,l.v]=cs/\qAc (qBE w) l 1 (xs.map qAe):=by
 obtain⟨f,m,-,g⟩:=qBS Tryz.underlying49 h;obtain⟨a,b,rfl⟩:=len2 (f.trans clCl);obtain⟨t,rfl⟩:=gS (at1 (g 0 _ rfl) cl9 rfl);obtain⟨l,k,rfl,u,-⟩:=gInts (at1 (g 1 _ rfl) cl31 rfl);exact⟨t,l,k,rfl,u⟩
end
end Go.Proofs.YtmeagdecjpknkaaGreatDoor
namespace Go.Proofs
open Go Go.Sx
attribute [local irreducible] Go.Sx.Tri
def qBI(d:Ds)(F tk c k cm nn:Int)(gs ns ls:Sl):List Value:=[Go.Sx.vS d.name,d.ts.v,d.gs.v,d.ps.v,d.ms.v,d.is.v,d.qs.v,d.bs.v,gs.v,ns.v,.int .i64 F,.int .i64 tk,.int .i64 c,.int .i64 k,.int .i64 cm,.int .i64 nn,.int .i64 0,ls.v]
abbrev XM(V0:Mem)(d:Ds)(p F:Nat)(V:Mem)(s:St)(c k:Int):Prop:=MA 119 V0 p (qBI d F s.tk c k s.cm (qAu s.lg)) V s
theorem ntX:NT 119:=by unfold NT;decide
def XR(V0:Mem)(d:Ds)(p F:Nat)(c:Int)(r:Rx Int):Ending->Mem->Prop:=λe V'=>match r with
 |.ok v s=>e=.returned (.int .i64 v)/\XM V0 d p F V' s c 0
 |.bad k s=>e=.returned (.int .i64 0)/\k≠0/\XM V0 d p F V' s c k
section
variable{V0 V V1:Mem}{d:Ds}{p F:Nat}{c k:Int}{s:St}
theorem XR.call{f:FuncId}{args:Array Value}{r:Rx Int}{K:Int->Mem->Prop}(H:Tri xE f args V (XR V0 d p F c r))(g:∀v s V',r=.ok v s->XM V0 d p F V' s c 0->K v V')(t:∀k s V',r=.bad k s->k≠0->XM V0 d p F V' s c k->K 0 V'):
  Tri xE f args V λe V'=>∃v,e=.returned (.int .i64 v)/\K v V':=
 Tri.mono H λe V' h=>by
  cases r with
  |ok v s=>exact⟨v,h.1,g v s V' rfl h.2⟩
  |bad k s=>exact⟨0,h.1,t k s V' rfl h.2.1 h.2.2⟩
theorem XR.ok{G:Rx Int}{v:Int}(h:G=.ok v s)(M:XM V0 d p F V s c 0):XR V0 d p F c G (.returned (.int .i64 v)) V:=by rw[h];exact⟨rfl,M⟩
theorem XR.bad{G:Rx Int}{k:Int}(h:G=.bad k s)(g:k≠0)(M:XM V0 d p F V s c k):XR V0 d p F c G (.returned (.int .i64 0)) V:=by rw[h];exact⟨rfl,g,M⟩
theorem XR.last{f:FuncId}{args:Array Value}{G r:Rx Int}(h:G=r)(H:Tri xE f args V (XR V0 d p F c r)):Tri xE f args V λe V'=>∃v,e=.returned (.int .i64 v)/\XR V0 d p F c G (.returned (.int .i64 v)) V':=by
 subst h;exact XR.call H (λv s V' e M=>XR.ok e M) λk s V' e g M=>XR.bad e g M
theorem c178(M:XM V0 d p F V s c 0){k:Int}:Tri xE 178 #[pv p,.int .i64 k] V λe V'=>e=.returned (.int .i64 0)/\XM V0 d p F V' s c k:=by
 obtain⟨gs,ns,ls,nd,g,L⟩:=M.ex;refine x178 ?_;exact⟨nn,nn,_,qAd g 13 1 (by simp[qBI]),λ_=>⟨nn,nn,StT.at2 (off:=13) g (by simp[qBI]) ⟨rfl,MA.set (row':=qBI d F s.tk c k s.cm (qAu s.lg)) ntX M.p0 g L rfl rfl rfl rfl⟩⟩,λh=>absurd rfl h⟩
theorem failX(M:XM V0 d p F V s c 0){k:Int}(g:k≠0){G:Rx Int}(f:G=.bad k s):Tri xE 178 #[pv p,.int .i64 k] V λe V'=>∃v,e=.returned (.int .i64 v)/\XR V0 d p F c G (.returned (.int .i64 v)) V':=
 Tri.mono (c178 M) λ_ _ ⟨h,t⟩=>⟨0,h,XR.bad f g t⟩
theorem c309{b:Bool}:PP 309 [.bool b] V (.int .i64 (trI b)):=by
 refine x309 ?_;refine⟨λh=>?_,λh=>?_⟩;·rw[show b=true from h];exact⟨rfl,rfl⟩
 ·rw[show b=false by simpa using h];exact⟨rfl,rfl⟩
theorem c293{l:List Fld}{fl:Sl}(t:qAc V fl 2 (l.map Fld.row)){nm:KB}:PP 293 [fl.v,.string nm] V (.int .i64 (qFW l nm)):=by
 refine x293 ?_;refine qAM (mk:=.int .i64) (b0:=0) l.length (λi V1=>V=V1/\qAY (λy:Fld=>!decide (y.name=nm)) l i) ⟨rfl,qAY.zero _ _⟩ ?_;rintro i b V1 J Y ⟨rfl,u⟩ e;refine⟨λg=>?_,λz=>?_⟩
 ·obtain⟨x,N,r,-,j,o,Z,f⟩:=t.get g;refine⟨o,Z,g,qAf o,_,_,f,λh=>?_,λh=>⟨t.succ g,e j _ _ ⟨rfl,qCm (p:=λy:Fld=>decide (y.name=nm)) u r (decide_eq_false h)⟩⟩⟩;unfold qFW;rw[qCH (p:=λy:Fld=>decide (y.name=nm)) u r (decide_eq_true h)];simp_all
 ·unfold qFW;rw[qDv (p:=λy:Fld=>decide (y.name=nm)) u (t.done z).2];simp_all
theorem c290{a:Int}(j:a<=1099511627776):PP 290 [.int .i64 a] V (.int .i64 (qKr a)):=by
 refine x290 ?_;have small:∀v:Int,v<=1->qKr v=0:=λv hv=>by
  unfold qKr;have:v.toNat=0∨v.toNat=1:=by omega
  rcases this with h|h<;>rw[h]<;>decide
 have step:∀v:Int,1<v->qKr v=qKr (v.tdiv 2)+1:=λv hv=>by
  unfold qKr;have e:(v.tdiv 2).toNat=v.toNat/2:=by grind
  rw[e,Nat.log2_def,if_pos (by omega)];simp
 have f:qKr a<=64:=by
  unfold qKr;by_cases h0:a.toNat=0;·rw[h0];decide
  ·have:=(Nat.log2_lt h0).2 (show a.toNat<2^64 by omega);omega
 have pos:∀v:Int,0<=qKr v:=λv=>by unfold qKr;omega
 refine⟨λn xs V1=>∃v c:Int,xs=[.int .i64 v,.int .i64 c]/\n=v.toNat/\V=V1/\v<=a/\0<=c/\c+qKr v=qKr a,a.toNat,⟨a,0,rfl,rfl,rfl,Int.le_refl _,Int.le_refl _,by omega⟩,?_⟩;rintro n V1 v c ⟨i,r,g,rfl,rfl,t,o,N⟩ J u;simp only[yE,Value.int.injEq,true_and,and_true]at g;obtain⟨rfl,rfl⟩:=g;refine⟨λhv=>?_,λhv=>?_⟩
 ·have hv:1<v:=hv;have hw:xF .i64 (v.tdiv 2)=v.tdiv 2:=by
   rw[vV (by omega)];exact qGY ⟨by simp[IntKind.min,zQ,zR];omega,by simp[IntKind.max,zQ,zR];omega⟩
  have Z:=step v hv;have Y:=pos (v.tdiv 2);have z:v.tdiv 2<v/\0<=v.tdiv 2:=by rw[vV (by omega)];omega
  refine⟨by decide,⟨by omega,by omega⟩,?_⟩;rw[hw];exact u (v.tdiv 2).toNat _ _ (by omega) ⟨v.tdiv 2,c+1,rfl,rfl,rfl,by omega,by omega,by omega⟩
 simp_all
theorem c211(f:F<=4000)(M:XM V0 d p F V s c 0):Tri xE 211 #[pv p] V λe V'=>(s.tk<F/\e=.returned (.bool true)/\XM V0 d p F V' {s with tk:=s.tk+1} c 0)∨(F<=s.tk/\e=.returned (.bool false)/\XM V0 d p F V' s c 20):=by
 obtain⟨gs,ns,ls,nd,g,L⟩:=M.ex;refine x211 ?_;refine⟨nn,nn,_,qAd g 13 1 (by simp[qBI]),λ_=>⟨nn,nn,_,qAd g 11 1 (by simp[qBI]),nn,nn,_,qAd g 10 1 (by simp[qBI]),λh=>?_,λh=>?_⟩,λh=>absurd rfl h⟩
 ·refine Tri.mono (c178 M) ?_;simp_all
 ·refine⟨nn,nn,_,qAd g 11 1 (by simp[qBI]),⟨by omega,by omega⟩,nn,nn,StT.at2 (off:=11) g (by simp[qBI]) (.inl ⟨by omega,rfl,?_⟩)⟩;exact MA.set (row':=qBI d F ((s.tk+1:Nat):Int) c 0 s.cm (qAu s.lg)) ntX M.p0 g L rfl rfl rfl rfl
theorem nodesN_one(l:List (Int×Int×Int))(a:Int×Int×Int):qAu (l++[a])=qAu l+if 0<a.2.1 then 1 else 0:=by
 grind[qAu]
theorem nodesN_bound(l:List (Int×Int×Int)):qAu l<=l.length:=by grind[qAu]
theorem c288(M:XM V0 d p F V s c 0){k a f:Int}(z:s.lg.length+1<=2147483648):Tri xE 288 #[pv p,.int .i64 k,.int .i64 a,.int .i64 f] V λe V'=>e=.returned (.tuple #[])/\XM V0 d p F V' (s.note (k,a,f)) c 0:=by
 obtain⟨gs,ns,ls,nd,t,L⟩:=M.ex;refine x288 ?_;have N:=nodesN_bound s.lg;have u:qAu (s.note (k,a,f)).lg=qAu s.lg+if 0<a then 1 else 0:=nodesN_one s.lg (k,a,f)
 refine⟨nn,nn,ls,qAd t 17 1 (by simp[qBI]),λR r=>L.note (a:=(k,a,f)) r rfl rfl z λs' V' Z Y=>⟨s',rfl,nn,nn,?_⟩⟩;have g:=Y _ _ t (qHZ t ntX L.log (.inr (.inr rfl)));refine StT.at2 (off:=17) g (by simp[qBI]) ?_;have o:MA 119 V0 p (qBI d F s.tk c 0 s.cm (qAu s.lg)) (V'.set p (.cells (qBI d F s.tk c 0 s.cm (qAu s.lg) gs ns s').toArray 119 (0,0))) (s.note (k,a,f)):=MA.set (row':=qBI d F s.tk c 0 s.cm (qAu s.lg)) ntX M.p0 g Z rfl rfl rfl rfl;show Br (0<a) _ _;obtain⟨i,j⟩:∃i,i=V'.set p (.cells (qBI d F s.tk c 0 s.cm (qAu s.lg) gs ns s').toArray 119 (0,0)):=⟨_,rfl⟩;have J:V'.set p (.cells ((qBI d F s.tk c 0 s.cm (qAu s.lg) gs ns ls).toArray.toList.take 17++[s'.v]++(qBI d F s.tk c 0 s.cm (qAu s.lg) gs ns ls).toArray.toList.drop (17+[s'.v].length)).toArray 119 (0,0))=i:=by rw[j];rfl
 rw[<-j]at o;obtain⟨Q,P,O,A,h,I⟩:=o.ex;refine⟨λh0=>?_,λh0=>?_⟩
 ·have h0:0<a:=h0;rw[if_pos h0]at u
  erw [J]
  refine⟨nn,nn,pnn,_,qAd h 15 1 (by simp[qBI]),⟨by omega,by omega⟩,nn,nn,pnn,StT.at2 (off:=15) h (by simp[qBI]) ⟨rfl,?_⟩⟩;exact MA.set (row':=qBI d F s.tk c 0 s.cm (qAu (s.note (k,a,f)).lg)) ntX M.p0 h I (by rw[u];rfl) rfl rfl rfl
 ·have h0:¬0<a:=h0;rw[if_neg h0,Nat.add_zero]at u;refine⟨rfl,?_⟩
  erw [J]
  show MA _ V0 p (qBI d F s.tk c 0 s.cm (qAu (s.note (k,a,f)).lg)) i _;grind
theorem c289(M:XM V0 d p F V s c 0){n:Int}:Tri xE 289 #[pv p,.int .i64 n] V (XR V0 d p F c (qEB (big n) s)):=by
 obtain⟨G,g⟩:∃G,G=qEB (big n) s:=⟨_,rfl⟩;rw[<-g];refine Tri.mono (x289 (R:=XR V0 d p F c G) ?_) λ_ _ h=>h;have bad:¬(-1099511627776<=n/\n<=1099511627776)->G=.bad 5 s:=λh=>by rw[g];unfold big;rw[if_neg h];rfl
 refine⟨λh=>failX M (by decide) (bad (by omega)),λh1=>⟨λh=>failX M (by decide) (bad (by omega)),λh2=>?_⟩⟩;have h1:¬n< -1099511627776:=h1;have h2:¬1099511627776<n:=h2;exact XR.ok (by rw[g];unfold big;rw[if_pos (by omega)];rfl) M
theorem c310(M:XM V0 d p F V s c 0){a b:Int}(t:-1099511627776<=a/\a<=1099511627776)(u:-1099511627776<=b/\b<=1099511627776):Tri xE 310 #[pv p,.int .i64 a,.int .i64 b] V (XR V0 d p F c (qEB (big (a*b)) s)):=by
 obtain⟨G,f⟩:∃G,G=qEB (big (a*b)) s:=⟨_,rfl⟩;rw[<-f];refine Tri.mono (x310 (R:=XR V0 d p F c G) ?_) λ_ _ h=>h;have fit:(-1099511627776<=a*b/\a*b<=1099511627776)->XR V0 d p F c G (.returned (.int .i64 (a*b))) V:=λk=>XR.ok (by rw[f];unfold big;rw[if_pos k];rfl) M;have key:∀x y:Int,x=(if a<0 then -a else a)->y=(if b<0 then -b else b)->Br (0<x) (¬x=0/\Br ((xF .i64 ((1099511627776:Int).tdiv x))<y)
   (Tri xE 178 #[pv p,.int .i64 5] V λe V1=>∃z,e=.returned (.int .i64 z)/\XR V0 d p F c G (.returned (.int .i64 z)) V1)
   (IR (a*b)/\XR V0 d p F c G (.returned (.int .i64 (a*b))) V)) (IR (a*b)/\XR V0 d p F c G (.returned (.int .i64 (a*b))) V):=λx y j i=>by
  refine⟨λh0=>?_,λh0=>?_⟩
  ·have h0:0<x:=h0;have g:a≠0:=λe=>by omega
   have r:xF .i64 ((1099511627776:Int).tdiv x)=(1099511627776:Int).tdiv x:=qIC ⟨by omega,by omega⟩;refine⟨by omega,?_⟩;rw[r];have hm:=mul_big t u g;rw[<-j,<-i]at hm;refine⟨λk=>failX M (by decide) (by rw[f];unfold big;rw[if_neg (hm.1 k)];rfl),λk=>?_⟩;simp_all[Classical.not_not,mul_in,inr]
  ·have h0:¬0<x:=h0;have g:a=0:=by omega
   exact⟨mul_in t u (.inl g),fit (by simp_all)⟩
 refine⟨λh1=>⟨⟨by omega,by omega⟩,λh2=>⟨⟨by omega,by omega⟩,?_⟩,λh2=>?_⟩,λh1=>⟨λh2=>⟨⟨by omega,by omega⟩,?_⟩,λh2=>?_⟩⟩;·grind
 ·grind
 ·grind
 grind
theorem c292(M:XM V0 d p F V s c 0){op v w:Int}(J:op=9∨op=10∨op=11∨op=12∨op=13∨op=22∨op=23)(hv:-1099511627776<=v/\v<=1099511627776)(hw:-1099511627776<=w/\w<=1099511627776):Tri xE 292 #[pv p,.int .i64 op,.int .i64 v,.int .i64 w] V (XR V0 d p F c (qEB (qCP op v w) s)):=by
 obtain⟨G,g⟩:∃G,G=qEB (qCP op v w) s:=⟨_,rfl⟩;rw[<-g];refine Tri.mono (x292 (R:=XR V0 d p F c G) ?_) λ_ _ h=>h;have good:∀{n:Int},qCP op v w=.ok n->XR V0 d p F c G (.returned (.int .i64 n)) V:=λe=>XR.ok (by rw[g,e];rfl) M;have j:∀{n:Int},qCP op v w=big n->Tri xE 289 #[pv p,.int .i64 n] V λe V'=>∃v,e=.returned (.int .i64 v)/\XR V0 d p F c G (.returned (.int .i64 v)) V':=λe=>XR.last (by rw[g,e]) (c289 M);have i:∀{n:Int},-2199023255552<=n/\n<=2199023255552->IR n:=λh=>⟨by omega,by omega⟩;have N:=qIC (b:=w) hv;have Z:=tdiv_in (b:=w) hv;refine⟨λh=>⟨i (by omega),j (by grind[qCP])⟩,λr=>⟨λh=>⟨i (by omega),j (by grind[qCP])⟩,λf=>⟨λh=>XR.last (by grind[qCP]) (c310 M hv hw),λt=>⟨λh=>⟨λk=>good ?_,λk=>good ?_⟩,λu=>⟨λh=>⟨λk=>good ?_,λk=>good ?_⟩,λz=>⟨λh=>failX M (by decide) ?_,λh0=>⟨λh=>⟨h0,?_⟩,λo=>⟨h0,good ?_⟩⟩⟩⟩⟩⟩⟩⟩;·grind[qCP]
 ·grind[qCP]
 ·grind[qCP]
 ·grind[qCP]
 ·rw[g];unfold qCP;rw[if_neg r,if_neg f,if_neg t,if_neg u,if_neg z,if_neg (by omega),if_neg (by omega),if_neg (by omega),if_neg (by omega),if_pos h];rfl
 ·grind[qCP,big]
 grind[qCP]
end
def qKd(pr:Pr)(a b:Sl)(r:Option Int):List Value:=[Go.Sx.vS pr.name,pr.ps.v,Go.Sx.vS pr.result,pr.ls.v,pr.bs.v,a.v,b.v,.bool r.isSome,.int .i64 (r.getD 0)]
structure Gv (V0:Mem)(q:Nat)(pr:Pr)(vals:List Int):Prop where
 ex:∃a b:Sl,V0 q=some (.cells (qKd pr a b none).toArray 259 (0,0))/\qAc V0 a 2 (pr.vars.map Fld.row)/\qAc V0 b 1 (vals.map qAe)
structure Yx (V0:Mem)(d:Ds)(p F c q:Nat)(pr:Pr)(vals:List Int)(n m:Nat)(V:Mem)(s:St):Prop where
 S:ES V0 d F
 fr:Gv V0 q pr vals
 pm:pr∈d.procs
 G:qAw d s.mm
 hv:qAi d s.mm pr.vars vals=true
 M:XM V0 d p F V s c 0
 tk:s.tk<=F
 n:F<n+s.tk
 w:BW m s
section
variable{V0 V V1:Mem}{d:Ds}{p F c q:Nat}{s:St}{pr:Pr}{vals:List Int}
theorem Yx.po{n m:Nat}(X:Yx V0 d p F c q pr vals n m V s):qCV d pr:=X.S.procs pr X.pm
theorem Yx.fit{n m:Nat}(X:Yx V0 d p F c q pr vals n (m+1) V s):s.lg.length+1<=2147483648:=by
 have h1:=X.w;have h2:=X.tk;have h3:=X.S.fuel;grind[BW]
theorem Yx.next{n m k:Nat}{V':Mem}{s':St}(X:Yx V0 d p F c q pr vals n (m+k) V s)(g:Gr F m s s')(G:qAw d s'.mm)(M:XM V0 d p F V' s' c 0):Yx V0 d p F c q pr vals n k V' s':=
 ⟨X.S,X.fr,X.pm,G,qAp (λh=>g.right h) X.hv,M,g.fu X.tk,by have:=g.tk;have:=X.n;omega,X.w.next g⟩
theorem Yx.le{n m k:Nat}(X:Yx V0 d p F c q pr vals n m V s)(h:k<=m):Yx V0 d p F c q pr vals n k V s:=⟨X.S,X.fr,X.pm,X.G,X.hv,X.M,X.tk,X.n,X.w.le h⟩
theorem Gv.sub{V':Mem}(h:Gv V0 q pr vals)(g:V0.sub V'):Gv V' q pr vals:=by
 obtain⟨a,b,h1,h2,h3⟩:=h.ex;exact⟨a,b,g _ _ h1,h2.sub g,h3.sub g⟩
theorem nodeX{u z:Int}(M:XM V0 d p F V s z u){k i:Nat}{ty v:Int}{fs:List Int}(r:s.ns[k]?=some (ty,fs))(hv:fs[i]?=some v):∃gs ns ls nd sl,V p=some (.cells (qBI d F s.tk z u s.cm (qAu s.lg) gs ns ls).toArray 119 (0,0))/\Lay V0 V gs ns ls nd s/\nd[k]?=some ⟨ty,sl,fs⟩/\IR (k:Int)/\
  ¬ns.p=none/\(0:Int)<=(k:Int)/\(k:Int)<(ns.n:Int)/\V.rowp ns.p (k*2) 2=some [.int .i64 ty,.slice sl.p sl.n sl.c]/\¬sl.p=none/\(0:Int)<=(i:Int)/\(i:Int)<(sl.n:Int)/\V.rowp sl.p (i*1) 1=some [.int .i64 v]:=by
 obtain⟨gs,ns,ls,nd,t,L⟩:=M.ex;have g:=L.nodes.rows (λ_=>rfl) (by decide);have o:=g.n_eq;obtain⟨sl,h⟩:=L.at_ r;have e:=(yv.1 h).1;obtain⟨y,-,j,-,-,J,N,f⟩:=g.get (i:=k) (by omega);rw[h]at j;cases j;have Z:IR ((k:Int)):=⟨by omega,by have:=(g.succ (i:=k) (by omega)).2;omega⟩;obtain⟨Y,Q,P,O⟩:=gAt ((L.fld _ (xp h)).rows (λ_=>rfl) (by decide)) hv;exact⟨gs,ns,ls,nd,sl,t,L,h,Z,J,N,by omega,f,Y,Q,P,O⟩
theorem nameX{n m:Nat}(X:Yx V0 d p F c q pr vals n (m+1) V s){nm t:KB}(O:qBU (qAg d pr).vars nm=t)(z:t≠sE):
  Tri xE 284 #[pv p,pv q,.string nm] V (XR V0 d p F c (varX d pr vals nm s)):=by
 obtain⟨gs,ns,ls,nd,j,L⟩:=X.M.ex;obtain⟨A,I,r,h,f⟩:=X.fr.ex;have Q:=L.sub _ _ r;have R:=X.S.ds.sub L.sub;refine x284 ?_;refine⟨nn,nn,A,qAd Q 5 1 (by simp[qKd]),(c293 (h.sub L.sub)).call ⟨_,rfl,?_⟩⟩;rcases qGc X.G X.hv X.po.vars O z with⟨i,g,v,h1,h2,h3,h4,-,o⟩|⟨i,g,v,h0,h1,h2,h3,h4,-,o⟩
 ·rw[h1];obtain⟨e,J,N,Z⟩:=gAt (f.sub L.sub) h3;exact qAv (by omega) ⟨nn,nn,I,qAd Q 6 1 (by simp[qKd]),e,J,N,_,Z,XR.ok o X.M⟩
 ·rw[h0];refine qAl (by decide) ⟨nn,nn,pnn,d.gs,qAd j 2 1 (by simp[qBI]),(c293 R.globals).call ⟨_,rfl,?_⟩⟩;rw[h1];refine Tri.mono (c288 X.M X.fit) ?_;rintro _ K ⟨rfl,P⟩;obtain⟨Y,B,C,D,u,E⟩:=P.ex;obtain⟨e,J,N,Z⟩:=gAt (E.glob.rows (λ_=>rfl) (by decide)) (i:=i) (v:=v) h3;exact⟨rfl,nn,nn,pnn,Y,qAd u 8 1 (by simp[qBI]),e,J,N,_,Z,XR.ok o P⟩
theorem c287(S:ES V0 d F){Z Y:Int}(M:XM V0 d p F V s Y Z){k j:Nat}{fs:List Int}{o:Ty}(Q:s.ns[k]?=some ((j:Int),fs))(e:d.types[j]?=some o){nm:KB}:PP 287 [pv p,.int .i64 ((k:Int)+1),.string nm] V (.int .i64 (qFW o.fields nm)):=by
 obtain⟨gs,ns,ls,nd,f,L⟩:=M.ex;refine x287 ?_;have v:=S.ds.sub L.sub;have h:=L.nodes.rows (λ_=>rfl) (by decide);have P:=h.n_eq;obtain⟨sl,t⟩:=L.at_ Q;have O:=(yv.1 t).1;obtain⟨y,-,u,-,-,N,A,z⟩:=h.get (i:=k) (by omega);rw[t]at u;cases u;have I:IR ((k:Int)):=⟨by omega,by have:=(h.succ (i:=k) (by omega)).2;omega⟩;have X:=v.types.n_eq;have R:=(yv.1 e).1;obtain⟨y,-,u,-,-,r,J,g⟩:=v.types.get (i:=j) (by omega);rw[e]at u;cases u;refine⟨nn,nn,pnn,d.ts,qAd f 1 1 (by simp[qBI]),nn,nn,pnn,ns,qAd f 9 1 (by simp[qBI]),?_⟩;rw[show((k:Int)+1-1)=(k:Int)by omega];exact⟨I,N,A,by omega,qAf N,_,_,z,r,J,(show(j:Int)<d.ts.n by omega),qAf r,_,_,g,(c293 (v.typesOk o (xp e)).fields).call ⟨_,rfl,rfl,rfl⟩⟩
theorem allocX{n m:Nat}(X:Yx V0 d p F c q pr vals n (m+1) V s){nm:KB}(hn:qBd d nm=true):
  Tri xE 285 #[pv p,.string nm] V (XR V0 d p F c (newX d nm s)):=by
 obtain⟨gs,ns,ls,nd,u,L⟩:=X.M.ex;have O:=X.S.ds.sub L.sub;obtain⟨G,hG⟩:∃G,G=newX d nm s:=⟨_,rfl⟩;rw[<-hG];refine Tri.mono (x285 (R:=XR V0 d p F c G) ?_) λ_ _ h=>h;have hnn:=(L.nodes.rows (λ_=>rfl) (by decide)).n_eq;have hlen:=L.len;refine⟨nn,nn,pnn,ns,qAd u 9 1 (by simp[qBI]),λI=>failX X.M (by decide) ?_,λI=>?_⟩;·grind[newX]
 have I:¬4096<=(ns.n:Int):=I;obtain⟨f,v,J⟩:=List.any_eq_true.1 hn;have J:f.name=nm:=of_decide_eq_true J;obtain⟨j,A⟩:=xg.1 v;have o:qDL d nm=(j:Int):=J▸(qBF (qAh X.G.mem).1).2.1 j f A;have B:qAt d (j:Int)=f.fields:=qAU A rfl;refine⟨nn,nn,d.name,d.ts,d.gs,d.ps,d.ms,d.is,d.qs,d.bs,qAd u 0 8 (by simp[qBI]),(c85 O).call ⟨_,rfl,?_⟩⟩;rw[show qHG (λt:Ty=>decide (t.name=nm)) d.types=(j:Int)from o];have htn:=O.types.n_eq;have hjl:=(yv.1 A).1;obtain⟨y,-,hy,-,-,hp,hz,Z⟩:=O.types.get (i:=j) (by omega);rw[A]at hy;cases hy;have C:=(O.typesOk f v).fields.n_eq;have hfl:=(lens12 X.S.valid).2 f v;refine⟨nn,nn,pnn,ns,qAd u 9 1 (by simp[qBI]),nn,nn,pnn,d.ts,qAd u 1 1 (by simp[qBI]),hp,hz,by omega,qAf hp,_,_,Z,mk31 (n:=f.fs.n) rfl rfl (by omega) λg hg=>⟨⟨some ⟨g,0,none⟩,f.fs.n,f.fs.n⟩,rfl,?_⟩⟩;obtain⟨V2,D⟩:∃V2,V2=V.set g (.cells (madeCells (Value.int .i64 0).cells (f.fs.n*1)) 3 (0,0)):=⟨_,rfl⟩;have z:=qDI hg (n:=f.fs.n) (by omega);rw[<-D]at z⊢;have r:=z.sub _ _ u;refine⟨qAN r 9 0 1 (by simp[qBI]),pnn,nn,nn,qAN r 9 0 1 (by simp[qBI]),pnn,nn,nn,λtb E=>?_⟩;refine L.new (n:=⟨(j:Int),⟨some ⟨g,0,none⟩,f.fs.n,f.fs.n⟩,yJ f.fs.n 0⟩) z E rfl rfl (by omega) λY V3 L3 K=>⟨Y,rfl,nn,nn,pnn,?_⟩;have e:=K _ _ r (qHZ u ntX L.nodes (.inr (.inl rfl)));refine StT.at2 (off:=9) e (by simp[qBI]) ?_;have M4:XM V0 d p F (V3.set p (.cells (qBI d F s.tk c 0 s.cm (qAu s.lg) gs Y ls).toArray 119 (0,0))) {s with ns:=s.ns++[((j:Int),yJ f.fs.n 0)]} c 0:=
  ⟨X.M.p0,gs,Y,ls,nd++[_],Mem.set_same _ _ _,L3.put (qHk e ntX) X.M.p0 _⟩
 have T:=(L3.nodes.rows (λ_=>rfl) (by decide)).n_eq;rw[zw,xe]at T;show ¬(some (⟨p,0,none⟩:Addr):Option Addr)=none/\_;refine⟨nn,nn,pnn,Y,qAd mss 9 1 (by simp[qBI]),?_⟩;rw[show((Y.n:Nat):Int)=(s.ns.length:Int)+1 by omega];refine Tri.mono (c288 M4 X.fit) ?_;rintro _ V7 ⟨rfl,M7⟩;obtain⟨gs7,Q,ls7,U,P,L7⟩:=M7.ex;have hn7:=(L7.nodes.rows (λ_=>rfl) (by decide)).n_eq;have N:=L7.len;have N:U.length=(s.ns++[((j:Int),yJ f.fs.n 0)]).length:=N;rw[zw,xe]at N;refine⟨rfl,nn,nn,pnn,Q,qAd P 9 1 (by simp[qBI]),?_⟩;rw[show((Q.n:Nat):Int)=(s.ns.length:Int)+1 by omega];refine XR.ok ?_ M7;rw[hG];unfold newX;rw[if_neg (by omega),o,B,<-C];rfl
theorem integersX{n m:Nat}(X:Yx V0 d p F c q pr vals n m V s){e:E}{t:KB}(hv:VE e)(N:E.Ok V0 e)(J:qAq d (qAg d pr) e=(t,0)):
  Tri xE 308 #[pv p,pv q,e.v] V λr V'=>r=.returned (.bool (decide (t=qAT)))/\V.sub V':=by
 obtain⟨gs,ns,ls,nd,f,L⟩:=X.M.ex;obtain⟨P,O,u,-,-⟩:=X.fr.ex;have Z:=L.sub _ _ u;have z:=X.S.ds.sub L.sub;have j:=z.procsOk pr X.pm;obtain⟨Y,i⟩:=hv;have A:=X.po.lens;have I:=(lens12 X.S.valid).1;refine x308 ?_;refine⟨nn,nn,_,_,_,_,_,_,_,_,qAd f 0 8 (by simp[qBI]),nn,nn,_,_,_,_,_,_,_,_,qAd f 0 8 (by simp[qBI]),nn,nn,_,_,_,_,_,qAd Z 0 5 (by simp[qKd]),?_⟩;refine Tri.mono (refInProc z j (by omega) (by omega)) ?_;rintro _ V1 ⟨s',rfl,g,o⟩;refine⟨_,_,rfl,qAN (g _ _ f) 0 0 8 (by simp[qBI]),nn,nn,?_⟩;have Q:=qLB (sc:=qAg d pr) (z.sub g) o e (N.sub (L.sub.trans g)) Y i V1 (Mem.sub.refl _);refine Q.call ⟨_,_,rfl,λh=>⟨?_,g⟩,λh=>absurd (show(qAq d (qAg d pr) e).2=0 by rw[J]) h⟩;rw[J];rfl
theorem compareX{n m:Nat}(X:Yx V0 d p F c q pr vals n (m+1) V s){e a:E}{u:KB}{v w:Int}(hv:VE e)(P:E.Ok V0 e)(h0:e.k[0]?=some a)(I:qAq d (qAg d pr) a=(u,0))(B:e.op=14∨e.op=15∨(e.op=16/\u=qAT)∨(e.op=17/\u=qAT)):
  Tri xE 291 #[pv p,pv q,e.v,.int .i64 v,.int .i64 w] V (XR V0 d p F c (qEB (qCP e.op v w) (qMd (decide (u=qAT)) e.op s))):=by
 obtain⟨gs,ns,ls,nd,C,L⟩:=X.M.ex;obtain⟨G,O⟩:∃G,G=qEB (qCP e.op v w) (qMd (decide (u=qAT)) e.op s):=⟨_,rfl⟩;rw[<-O];obtain⟨D,k2,K,T⟩:=qDV (P.sub L.sub) h0;have j:=xp h0;have U:s.cm+1<=16000000:=by have h1:=X.w;have h2:=X.tk;have h3:=X.S.fuel;grind[BW]
 refine Tri.mono (x291 (R:=XR V0 d p F c G) ?_) λ_ _ h=>h;refine⟨D,by decide,K,_,_,_,_,T,Tri.mono (integersX X (hv.kids a j) (P.kids a j) I) ?_⟩;rintro _ V1 ⟨rfl,N⟩;have A:=X.M.grow N;obtain⟨gs1,ns1,ls1,nd1,f,L1⟩:=A.ex;have Z:∀{s':St}{V2:Mem},XM V0 d p F V2 s' c 0->s'=qMd (decide (u=qAT)) e.op s->
   Br (e.op=14) (TT 309 #[uB (decide (v=w))] V2 λt z=>∃g,t=rV (uI g)/\XR V0 d p F c G (rV (uI g)) z)
   (Br (e.op=15) (TT 309 #[uB (!(decide (v=w)))] V2 λt z=>∃g,t=rV (uI g)/\XR V0 d p F c G (rV (uI g)) z)
   (Br (e.op=16) (TT 309 #[uB (decide (v<w))] V2 λt z=>∃g,t=rV (uI g)/\XR V0 d p F c G (rV (uI g)) z)
   (TT 309 #[uB (decide (v<=w))] V2 λt z=>∃g,t=rV (uI g)/\XR V0 d p F c G (rV (uI g)) z))):=λ{s' V2} M2 Y=>by
  have J:∀{x:Bool},qCP e.op v w=.ok (trI x)->Tri xE 309 #[.bool x] V2 λt z=>∃g,t=.returned (.int .i64 g)/\XR V0 d p F c G (.returned (.int .i64 g)) z:=λhx=>c309.call ⟨_,rfl,XR.ok (s:=s') (by rw[O,hx,Y];rfl) M2⟩;refine⟨λh=>J ?_,λi=>⟨λh=>J ?_,λr=>⟨λh=>J ?_,λo=>J ?_⟩⟩⟩;·rw[show e.op=14 from h];rfl
  ·rw[show e.op=15 from h];rfl
  ·rw[show e.op=16 from h];rfl
  ·have i:¬e.op=14:=i;have r:¬e.op=15:=r;have o:¬e.op=16:=o;rw[show e.op=17 by omega];rfl
 refine⟨_,rfl,λQ=>?_,λQ=>?_⟩
 ·have Q:u=qAT:=of_decide_eq_true Q;refine⟨nn,nn,pnn,_,qAd f 14 1 (by simp[qBI]),⟨by omega,by omega⟩,nn,nn,pnn,StT.at2 (off:=14) f (by simp[qBI]) ?_⟩;refine Z (s':={s with cm:=s.cm+1}) (MA.set (row':=qBI d F s.tk c 0 ((s.cm+1:Nat):Int) (qAu s.lg)) ntX A.p0 f L1 rfl rfl rfl rfl) ?_;grind[qMd,inr]
 grind[qAT,qMd]
end
section
variable{x y:St->Rx Int}{s s1 s2:St}{acc:List Int}{k:Int}
theorem sq1_ok(h:qKl [x] [] s=.ok acc s1):∃v,x s=.ok v s1/\acc=[v]:=by
 have h:(x s).bind (λv st=>.ok [v] st)=.ok acc s1:=h;cases e:x s with
 |ok v t=>rw[e]at h;cases h;simp_all
 |bad c t=>rw[e]at h;cases h
theorem sq1_bad(h:qKl [x] [] s=.bad k s1):x s=.bad k s1:=by
 have h:(x s).bind (λv st=>.ok [v] st)=.bad k s1:=h;cases e:x s with
 |ok v t=>rw[e]at h;cases h
 |bad c t=>rw[e]at h;cases h;rfl
theorem sq2_ok(h:qKl [x,y] [] s=.ok acc s2):∃v w s1,x s=.ok v s1/\y s1=.ok w s2/\acc=[v,w]:=by
 have h:(x s).bind (λv st=>(y st).bind λw st=>.ok [v,w] st)=.ok acc s2:=h;cases e:x s with
 |ok v t=>
  rw[e]at h;have h:(y t).bind (λw st=>.ok [v,w] st)=.ok acc s2:=h;cases g:y t with
  |ok w u=>rw[g]at h;cases h;grind
  |bad c u=>rw[g]at h;cases h
 |bad c t=>rw[e]at h;cases h
theorem sq2_bad(h:qKl [x,y] [] s=.bad k s2){g:Int->Int->St->Rx Int}:((x s).bind λv st=>(y st).bind λw st=>g v w st)=.bad k s2:=by
 have h:(x s).bind (λv st=>(y st).bind λw st=>.ok [v,w] st)=.bad k s2:=h;cases e:x s with
 |ok v t=>
  rw[e]at h;have h:(y t).bind (λw st=>.ok [v,w] st)=.bad k s2:=h;cases f:y t with
  |ok w u=>rw[f]at h;cases h
  |bad c u=>
   rw[f]at h;cases h;show((y t).bind λw st=>g v w st)=_;rw[f];rfl
 |bad c t=>rw[e]at h;cases h;rfl
end
section
variable{V0 W V V1:Mem}{d:Ds}{p F c q:Nat}{s:St}{pr:Pr}{vals:List Int}
theorem XR.narrow{c:Int}{r:Rx Int}{e:Ending}(g:V0.sub W)(h:XR W d p F c r e V):XR V0 d p F c r e V:=by
 cases r with
 |ok v s=>exact⟨h.1,h.2.narrow g⟩
 |bad k s=>exact⟨h.1,h.2.1,h.2.2.narrow g⟩
theorem XR.any{c:Int}{f:FuncId}{args:Array Value}{r:Rx Int}{K:Int->Mem->Prop}(H:Tri xE f args V (XR V0 d p F c r))(h:∀v g s V',XM V0 d p F V' s c g->(g=0/\r=.ok v s∨g≠0/\v=0/\r=.bad g s)->K v V'):
  Tri xE f args V λe V'=>∃v,e=.returned (.int .i64 v)/\K v V':=
 XR.call H (λv s V' e M=>h v 0 s V' M (.inl ⟨rfl,e⟩)) λk s V' e t M=>h 0 k s V' M (.inr ⟨t,rfl,e⟩)
theorem lastW{c:Int}{f:FuncId}{args:Array Value}{G r:Rx Int}(g:V0.sub W)(t:G=r)(H:Tri xE f args V (XR W d p F c r)):Tri xE f args V λe V'=>∃v,e=.returned (.int .i64 v)/\XR V0 d p F c G (.returned (.int .i64 v)) V':=
 Tri.mono (XR.last t H) λ_ _ ⟨v,u,h⟩=>⟨v,u,h.narrow g⟩
theorem XM.fault{c:Int}{g:Int}(M:XM V0 d p F V s c g):V.rowp (sa p) ((13:Int).toNat*1) 1=some [.int .i64 g]:=by
 obtain⟨gs,ns,ls,nd,h,L⟩:=M.ex;exact qAd h 13 1 (by simp[qBI])
variable(d p F)in
def XCallC(n:Nat):Prop:=∀(V0 V:Mem)(s:St)(c i:Nat)(pr:Pr)(args:List Int)(l:Sl),ES V0 d F->d.procs[i]?=some pr->qAw d s.mm->qAi d s.mm pr.params args=true->qAc V0 l 1 (args.map qAe)->XM V0 d p F V s c 0->s.tk<=F->F<n+s.tk->BW 0 s->
 Tri xE 138 #[pv p,.int .i64 (i:Int),l.v] V (XR V0 d p F c (qCG d (qCs d F n) c i args s))
variable(d p F)in
def XExprC(n:Nat):Prop:=∀(e:E)(t:KB)(V0 V:Mem)(s:St)(c q:Nat)(pr:Pr)(vals:List Int),Yx V0 d p F c q pr vals n (szE e) V s->VE e->E.Ok V0 e->qAq d (qAg d pr) e=(t,0)->
 Tri xE 255 #[pv p,pv q,e.v] V (XR V0 d p F c (evX d (qCG d (qCs d F n) c) pr vals e s))
theorem lazyX{n:Nat}{e:E}(X:Yx V0 d p F c q pr vals n (szE e) V s)(B:E.Ok V0 e){f:E->St->Rx Int}{G:Rx Int}(z:e.op=19∨e.op=20∨e.op=21){C:Cf}{b:Bool}(u:G=qDz d C pr vals b e.op e.n e.s (e.k.map f) s)
  {a a1:E} (h0:e.k[0]?=some a) (h1:e.k[1]?=some a1) (h2:e.op=21->∃a2,e.k[2]?=some a2)
  (kid:∀{i:Nat}{y:E}{V1:Mem}{s1:St},e.k[i]?=some y->(i=0/\V1=V/\s1=s∨i≠0/\∃v,f a s=.ok v s1/\XM V0 d p F V1 s1 c 0)->Tri xE 255 #[pv p,pv q,.agg #[.int .i64 y.op,.int .i64 y.n,.string y.s,.slice y.l.p y.l.n y.l.c]] V1 (XR V0 d p F c (f y s1))):
  Tri xE 286 #[pv p,pv q,e.v] V (XR V0 d p F c G):=by
 obtain⟨gs,ns,ls,nd,hat,L⟩:=X.M.ex;obtain⟨k1,k2,k3,k4⟩:=qDV (B.sub L.sub) h0;have K:∀{i:Nat}{a:E},e.k[i]?=some a->qEU (e.k.map f) i=f a:=λh=>qLO h;refine Tri.mono (x286 (R:=XR V0 d p F c G) ?_) λ_ _ h=>h;have A:∀{v:Int}{s1:St},f a s=.ok v s1->G=if e.op=19 then(if v=0 then .ok 0 s1 else f a1 s1)else if e.op=20 then(if v=0 then f a1 s1 else .ok 1 s1)else if v=0 then qEU (e.k.map f) 2 s1 else f a1 s1:=λ{v s1} hv=>by
  rcases z with h|h|h;·rw[u,cX19 h,K h0,hv,if_pos h];show(if v=0 then _ else qEU (e.k.map f) 1 s1)=_;rw[K h1]
  ·rw[u,cX20 h,K h0,hv,if_neg (by omega),if_pos h];show(if v=0 then qEU (e.k.map f) 1 s1 else _)=_;rw[K h1]
  ·rw[u,cX21 h,K h0,hv,if_neg (by omega),if_neg (by omega)];show(if v=0 then qEU (e.k.map f) 2 s1 else qEU (e.k.map f) 1 s1)=_;rw[K h1]
 have hGb:∀{k:Int}{s1:St},f a s=.bad k s1->G=.bad k s1:=λ{k s1} hv=>by
  rcases z with h|h|h;·rw[u,cX19 h,K h0,hv];rfl
  ·rw[u,cX20 h,K h0,hv];rfl
  ·rw[u,cX21 h,K h0,hv];rfl
 refine⟨k1,by decide,k3,_,_,_,_,k4,XR.any (kid h0 (.inl ⟨rfl,rfl,rfl⟩)) λv D s1 V1 r T=>⟨nn,nn,_,r.fault,λo=>?_,λo=>?_⟩⟩;rotate_left
 ·have o:¬D=0:=o;rcases T with⟨h,-⟩|⟨-,rfl,hb⟩;·omega
  grind[XR.bad]
 have o:D=0:=o;rcases T with⟨-,hv⟩|⟨h,-⟩;rotate_left;·omega
 subst o;have j:=A hv;have J:=B.sub r.sub;obtain⟨l1,l2,l3,l4⟩:=qDV J h1;have g:∀{U:Rx Int},U=f a1 s1->(¬e.l.p=none/\(0:Int)<=(1:Int)/\1<(e.l.n:Int)/\∃N Z Y Q,V1.rowp e.l.p ((1:Int).toNat*4) 4=some [uI N,uI Z,uS Y,uL Q]/\
   TT 255 #[uP (sa p),uP (sa q),uA #[uI N,uI Z,uS Y,uL Q]] V1 λe' V2=>∃P,e'=rV (uI P)/\XR V0 d p F c U (rV (uI P)) V2):=λI=>
  ⟨l1,by decide,l3,_,_,_,_,l4,XR.last I (kid h1 (.inr ⟨by decide,v,hv,r⟩))⟩
 rcases z with h|h|h
 ·rw[if_pos h]at j;refine qAl (by omega) (qAv h ⟨λt=>?_,λt=>qAl (by omega) (g ?_)⟩);·rw[if_pos (show v=0 from t)]at j;exact XR.ok j r
  simp_all
 ·rw[if_neg (by omega),if_pos h]at j;refine qAl (by omega) (qAl (by omega) (qAv h ⟨λt=>g ?_,λt=>?_⟩));·simp_all
  ·rw[if_neg (show ¬v=0 from t)]at j;exact XR.ok j r
 ·rw[if_neg (by omega),if_neg (by omega)]at j;obtain⟨a2,O⟩:=h2 h;obtain⟨m1,m2,m3,m4⟩:=qDV J O;refine qAv h ⟨λt=>⟨m1,by decide,m3,_,_,_,_,m4,XR.last ?_ (kid O (.inr ⟨by decide,v,hv,r⟩))⟩,λt=>qAl (by omega) (qAl (by omega) (g ?_))⟩;·simp_all
  simp_all
end
end Go.Proofs
