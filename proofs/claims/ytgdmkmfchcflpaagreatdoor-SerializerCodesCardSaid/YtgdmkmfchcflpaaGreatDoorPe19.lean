/- Part 19: no statement of the seat is proved here. -/
import Derived.Test.YtgdmkmfchcflpaaGreatDoorPe15
import Derived.Test.YtgdmkmfchcflpaaGreatDoorPe18
set_option linter.unusedVariables false
set_option linter.unusedSimpArgs false
open List renaming take_add_one->wh,take_of_length_le->wH,drop_succ_cons->tB,drop_zero->wu,take_succ_cons->tC,take_zero->tD,mem_map->wc,append_nil->xp,length_append->zw,replicate->yJ,length_take->wX,length_map->wq
open Go.Proofs.Tryz renaming prog->xE,underlying146->u9,underlying142->tA,underlying31->tE
open Prod.mk renaming inj->wJ
open Nat renaming strongRecOn->yS
open Go.Value renaming string->xN
open List.cons renaming injEq->yE
open Int renaming toNat_of_nonneg->vL
open Go.IntKind renaming wrap->xF,signed->zQ,bits->zR
namespace Go.Proofs
open Go Go.Sx
attribute [local irreducible] Go.Sx.Tri
theorem Gf{p q B X:Prop}(f:(¬p∨¬q)->X)(t:p->q->B):Br p (Br q B X) X:=⟨λh=>⟨λg=>t h g,λg=>f (.inr g)⟩,λh=>f (.inl h)⟩
theorem take_eq{α:Type}{xs ys:List α}{i:Nat}{x y:α}(h:xs.take i=ys.take i)(g:xs[i]?=some x)(f:ys[i]?=some y)(e:x=y):xs.take (i+1)=ys.take (i+1):=by
 grind[wh]
section
variable{V:Mem}{d:Ds}{m:Mm}
def RI(V:Mem):Ending->Mem->Prop:=λe V'=>V=V'/\∃r:Int,e=.returned (.int .i64 r)/\-1<=r/\r<=2000
def RY(V:Mem):Ending->Mem->Prop:=λe V'=>V=V'/\∃b:Bool,e=.returned (.bool b)
theorem RI.mk{r:Int}(h:-1<=r/\r<=2000):RI V (.returned (.int .i64 r)) V:=⟨rfl,r,rfl,h⟩
theorem RY.mk{b:Bool}:RY V (.returned (.bool b)) V:=⟨rfl,b,rfl⟩
theorem leftC:∀(k:Nat),k<=65->∀(e:E)(n:Int),E.Ok V e->-1<=n->n<=2000->Tri xE 86 #[e.v,.int .i64 k,.int .i64 n] V (RI V):=by
 intro k;induction k with
 |zero=>
  intro _ e n z c G;refine Tri.mono (MM (R:=RI V) ?_) λ_ _ h=>h;exact⟨λ_=>.mk ⟨by omega,by omega⟩,λ_=>⟨λ_=>.mk ⟨by omega,by omega⟩,λh=>absurd rfl h⟩⟩
 |succ k N=>
  intro P e n z c G;refine Tri.mono (MM (R:=RI V) ?_) λ_ _ h=>h;refine⟨λ_=>.mk ⟨by omega,by omega⟩,λp=>⟨λ_=>.mk ⟨by omega,by omega⟩,λ_=>⟨λ_=>.mk ⟨by omega,by omega⟩,λ_=>⟨⟨by omega,by omega⟩,?_⟩⟩⟩⟩;have p:¬n<=0:=p;refine Cz (mk:=.int .i64) (b0:=n-1) Ax e.k.length (λi a V1=>V=V1/\-1<=a/\a<=2000) ⟨rfl,by omega,by omega⟩ ?_;rintro i a V1 J O ⟨rfl,f,t⟩ Z;refine Gf (λ_=>.mk ⟨f,t⟩) (λg A=>?_);obtain⟨x,y,I,-,j,Y,W,u⟩:=z.rows.get g;refine⟨Y,W,g,_,_,_,_,u,⟨by omega,by omega⟩,?_⟩;rw[show((k+1:Nat):Int)-1=(k:Int)by omega];refine Tri.mono (N (by omega) x a (z.kids x y) f t) ?_;rintro _ _ ⟨rfl,r,rfl,Q⟩;exact⟨_,rfl,z.rows.succ g,Z j _ _ ⟨rfl,Q⟩⟩
theorem leftAllC:∀(k:Nat),k<=65->∀(s:Sl)(xs:List S)(n:Int),Ad V s 5 (xs.map S.row)->(∀x∈xs,S.Ok V x)->-1<=n->n<=2000->Tri xE 85 #[s.v,.int .i64 k,.int .i64 n] V (RI V):=by
 intro k;induction k with
 |zero=>
  intro _ s xs n Q ho h1 h2;refine Tri.mono (ML (R:=RI V) ?_) λ_ _ h=>h;exact⟨λ_=>.mk ⟨by omega,by omega⟩,λh=>absurd rfl h⟩
 |succ k ih=>
  intro hk s xs n Q ho h1 h2;refine Tri.mono (ML (R:=RI V) ?_) λ_ _ h=>h;refine⟨λ_=>.mk ⟨by omega,by omega⟩,λ_=>?_⟩;refine FR (mk:=.int .i64) (mc:=.int .i64) 0 n Ax xs.length (λi a V1=>V=V1/\-1<=a/\a<=2000) ⟨rfl,h1,h2⟩ ?_;rintro i b a V1 J hi ⟨rfl,P,O⟩ hJ;refine Gf (λ_=>.mk ⟨P,O⟩) (λf hn=>?_);have hn:0<=a:=hn;obtain⟨x,A,hx,-,N,G,Z,g⟩:=Q.get f;have I:=ho x A;cases x with
  |mk op sn el es ll ls xl M=>
  cases I with
  |mk he F hl L X B hop=>
  have Y:=Ak (n:=i*5) G;have t:=Q.succ f;refine⟨⟨by omega,by omega⟩,G,Z,f,Y,_,_,_,_,_,g,λ_=>.mk ⟨by omega,by omega⟩,λ_=>?_⟩;refine Cz (mk:=.int .i64) (b0:=a-1) Ax es.length (λj c V2=>V=V2/\-1<=c/\c<=2000) ⟨rfl,by omega,by omega⟩ ?_;rintro j c V2 J1 hj ⟨rfl,z,p⟩ C;have ek:((k+1:Nat):Int)-1=(k:Int):=by omega
  refine⟨G,Z,f,Y,_,_,_,_,_,g,Gf (λ_=>⟨λE=>⟨G,Z,f,Y,_,_,_,_,_,g,⟨by omega,by omega⟩,?_⟩,λE=>⟨λh=>absurd h E,λ_=>⟨t,hJ N _ _ _ ⟨rfl,z,p⟩⟩⟩⟩) (λu E=>?_)⟩
  ·rw[ek];refine Tri.mono (ih (by omega) ll ls c hl L z p) ?_;rintro _ _ ⟨rfl,r,rfl,W⟩;refine⟨_,rfl,λhr0=>⟨G,Z,f,Y,_,_,_,_,_,g,⟨by omega,by omega⟩,Tri.mono (ih (by omega) xl M r X B W.1 W.2) ?_⟩,λ_=>⟨t,hJ N _ _ _ ⟨rfl,W⟩⟩⟩;rintro _ _ ⟨rfl,r2,rfl,h4⟩;simp_all
  ·obtain⟨y,K,hy,-,T,U,hzy,e⟩:=he.get u;refine⟨G,Z,f,Y,_,_,_,_,_,g,U,hzy,u,_,_,_,_,e,Tri.mono (leftC 65 (by omega) y c (F y K) z p) ?_⟩;rintro _ _ ⟨rfl,r,rfl,W⟩;exact⟨_,rfl,he.succ u,C T _ _ ⟨rfl,W⟩⟩
theorem wideC{l:Sl}{xs:List Fld}(z:Ad V l 2 (xs.map Fld.row)):Tri xE 84 #[l.v] V (RY V):=by
 refine Tri.mono (OS (R:=RY V) ?_) λ_ _ h=>h;refine⟨λ_=>.mk,λ_=>Av (mk:=.bool) (b0:=false) xs.length (λi V1=>V=V1) rfl ?_⟩;rintro i b V1 J c rfl r;refine⟨λg=>?_,λ_=>.mk⟩;obtain⟨x,p,a,-,t,u,y,f⟩:=z.get g;have j:=Ak (n:=i*2) u;exact⟨u,y,g,j,_,_,f,λ_=>.mk,λ_=>⟨u,y,g,j,_,_,f,λ_=>.mk,λ_=>⟨z.succ g,r t _ _ rfl⟩⟩⟩
theorem overC(p:Ds.Ok V d){n:Int}(P:-1<=n)(O:n<=2000):Tri xE 59 #[d.v,.int .i64 n] V (RY V):=by
 refine Tri.mono (OK (R:=RY V) ?_) λ_ _ h=>h;refine⟨λ_=>.mk,λ_=>⟨λ_=>.mk,λ_=>⟨λ_=>.mk,λ_=>⟨λ_=>.mk,λ_=>⟨λ_=>.mk,λ_=>⟨λ_=>.mk,λ_=>⟨λ_=>.mk,λ_=>Tri.mono (wideC p.globals) ?_⟩⟩⟩⟩⟩⟩⟩;rintro _ _ ⟨rfl,b,rfl⟩;refine⟨_,rfl,λ_=>.mk,λ_=>Av (mk:=.bool) (b0:=false) d.types.length (λi V1=>V=V1) rfl ?_⟩;rintro i b V1 J Z rfl G;refine⟨λg=>?_,λ_=>?_⟩
 ·obtain⟨x,z,Y,-,y,j,c,f⟩:=p.types.get g;have e:=Ak (n:=i*2) j;refine⟨j,c,g,e,_,_,f,λ_=>.mk,λ_=>⟨j,c,g,e,_,_,f,Tri.mono (wideC (p.typesOk x z).fields) ?_⟩⟩;rintro _ _ ⟨rfl,b,rfl⟩;exact⟨_,rfl,λ_=>.mk,λ_=>⟨p.types.succ g,G y _ _ rfl⟩⟩
 refine FR (mk:=.bool) (mc:=.int .i64) b n Ax d.procs.length (λi a V1=>V=V1/\-1<=a/\a<=2000) ⟨rfl,P,O⟩ ?_;rintro i b a V1 J Z ⟨rfl,t,u⟩ G;refine Gf (λ_=>?_) (λg W=>?_);rotate_left
 ·obtain⟨x,z,Y,-,y,j,c,f⟩:=p.procs.get g;have Q:=p.procsOk x z;refine⟨j,c,g,_,_,_,_,_,f,λ_=>.mk,λ_=>⟨λ_=>.mk,λ_=>Tri.mono (wideC Q.params) ?_⟩⟩;rintro _ _ ⟨rfl,b1,rfl⟩;refine⟨_,rfl,λ_=>.mk,λ_=>Tri.mono (wideC Q.locals) ?_⟩;rintro _ _ ⟨rfl,b2,rfl⟩;refine⟨_,rfl,λ_=>.mk,λ_=>Tri.mono (leftAllC 65 (by omega) x.bs x.body a Q.body Q.stmts t u) ?_⟩;rintro _ _ ⟨rfl,r,rfl,N⟩;exact⟨_,rfl,p.procs.succ g,G y _ _ _ ⟨rfl,N⟩⟩
 refine FR (mk:=.bool) (mc:=.int .i64) b a Ax d.measures.length (λi a V1=>V=V1/\-1<=a/\a<=2000) ⟨rfl,t,u⟩ ?_;clear G;rintro i b a V1 J Z ⟨rfl,t,u⟩ G;refine Gf (λ_=>?_) (λg W=>?_);rotate_left
 ·obtain⟨x,z,Y,-,y,j,c,f⟩:=p.measures.get g;have e:=Ak (n:=i*7) j;refine⟨j,c,g,e,_,_,_,_,_,_,_,f,λ_=>.mk,λ_=>⟨j,c,g,e,_,_,_,_,_,_,_,f,λ_=>.mk,λ_=>⟨j,c,g,e,_,_,_,_,_,_,_,f,Tri.mono (leftC 65 (by omega) x.x a (p.measuresOk x z).x t u) ?_⟩⟩⟩;rintro _ _ ⟨rfl,r,rfl,N⟩;exact⟨_,rfl,p.measures.succ g,G y _ _ _ ⟨rfl,N⟩⟩
 refine FR (mk:=.bool) (mc:=.int .i64) b a Ax d.invs.length (λi a V1=>V=V1/\-1<=a/\a<=2000) ⟨rfl,t,u⟩ ?_;clear G;rintro i b a V1 J Z ⟨rfl,t,u⟩ G;refine Gf (λ_=>?_) (λg W=>?_);rotate_left
 ·obtain⟨x,z,Y,-,y,j,c,f⟩:=p.invs.get g;have e:=Ak (n:=i*6) j;refine⟨j,c,g,e,_,_,_,_,_,_,f,λ_=>.mk,λ_=>⟨j,c,g,e,_,_,_,_,_,_,f,λ_=>.mk,λ_=>⟨j,c,g,e,_,_,_,_,_,_,f,Tri.mono (leftC 65 (by omega) x.x a (p.invsOk x z) t u) ?_⟩⟩⟩;rintro _ _ ⟨rfl,r,rfl,N⟩;exact⟨_,rfl,p.invs.succ g,G y _ _ _ ⟨rfl,N⟩⟩
 refine FR (mk:=.bool) (mc:=.int .i64) b a Ax d.pots.length (λi a V1=>V=V1/\-1<=a/\a<=2000) ⟨rfl,t,u⟩ ?_;clear G;rintro i b a V1 J Z ⟨rfl,t,u⟩ G;refine Gf (λ_=>?_) (λg W=>?_);rotate_left
 ·obtain⟨x,z,Y,-,y,j,c,f⟩:=p.pots.get g;have e:=Ak (n:=i*5) j;refine⟨j,c,g,e,_,_,_,_,_,f,λ_=>.mk,λ_=>⟨j,c,g,e,_,_,_,_,_,f,Tri.mono (leftC 65 (by omega) x.x a (p.potsOk x z) t u) ?_⟩⟩;rintro _ _ ⟨rfl,r,rfl,N⟩;exact⟨_,rfl,p.pots.succ g,G y _ _ _ ⟨rfl,N⟩⟩
 refine FR (mk:=.bool) (mc:=.int .i64) b a Ax d.bounds.length (λi a V1=>V=V1/\-1<=a/\a<=2000) ⟨rfl,t,u⟩ ?_;clear G;rintro i b a V1 J Z ⟨rfl,t,u⟩ G;refine Gf (λ_=>.mk) (λg W=>?_);obtain⟨x,z,Y,-,y,j,c,f⟩:=p.bounds.get g;have e:=Ak (n:=i*5) j;refine⟨j,c,g,e,_,_,_,_,_,f,λ_=>.mk,λ_=>⟨j,c,g,e,_,_,_,_,_,f,Tri.mono (leftC 65 (by omega) x.x a (p.boundsOk x z) t u) ?_⟩⟩;rintro _ _ ⟨rfl,r,rfl,N⟩;exact⟨_,rfl,p.bounds.succ g,G y _ _ _ ⟨rfl,N⟩⟩
theorem greatC(g:Ds.Ok V d):Tri xE 35 #[d.v] V (RY V):=by
 refine Tri.mono (OD (R:=RY V) ?_) λ_ _ h=>h;refine Tri.mono (overC g (n:=2000) (by omega) (by omega)) ?_;rintro _ _ ⟨rfl,b,rfl⟩;exact⟨_,rfl,.mk⟩
theorem manyC(hm:Mm.Ok V m):Tri xE 37 #[m.v] V (RY V):=by
 refine Tri.mono (OE (R:=RY V) ?_) λ_ _ h=>h;refine⟨λ_=>.mk,λ_=>⟨λ_=>.mk,λ_=>Av (mk:=.bool) (b0:=false) m.nodes.length (λi V1=>V=V1) rfl ?_⟩⟩;rintro i b V1 J r rfl z;refine⟨λg=>?_,λ_=>.mk⟩;obtain⟨x,y,p,-,t,u,j,f⟩:=hm.nodes.get g;exact⟨u,j,g,Ak u,_,_,f,λ_=>.mk,λ_=>⟨hm.nodes.succ g,z t _ _ rfl⟩⟩
theorem MT{s t:Sl}{xs ys:List Int}(h:Ad V s 1 (xs.map Am))(k:Ad V t 1 (ys.map Am)):PP 52 [.slice s.p s.n s.c,.slice t.p t.n t.c] V (.bool (decide (xs=ys))):=by
 refine OJ ?_;have G:=h.n_eq;have N:=k.n_eq;refine⟨λa=>?_,λa=>?_⟩
 ·refine Av (mk:=.bool) (b0:=false) xs.length (λi V1=>V=V1/\xs.take i=ys.take i) ⟨rfl,rfl⟩ ?_;rintro i b V1 J L ⟨rfl,Z⟩ Y;refine⟨λg=>?_,λW=>?_⟩
  ·obtain⟨x,Q,P,-,z,O,A,u⟩:=h.get g;obtain⟨y,I,M,-,F,j,r,f⟩:=k.get (i:=i) (by omega);refine⟨O,A,g,_,u,j,r,by omega,_,f,λv=>⟨h.succ g,Y z _ _ ⟨rfl,take_eq Z P M v⟩⟩,λv=>?_⟩;rw[decide_eq_false λe=>?_];·simp_all
   simp_all
  grind
 ·rw[decide_eq_false λe=>a (by rw[G,N,e])];simp_all
theorem plain_ext{a b:Mm}(h:a.globals=b.globals)(g:(a.nodes.map λn=>(n.ty,n.f))=b.nodes.map λn=>(n.ty,n.f)):a.plain=b.plain:=by grind[Mm.plain]
theorem c22{a b:Mm}(j:Mm.Ok V a)(N:Mm.Ok V b):PP 22 [a.v,b.v] V (.bool (decide (a.plain=b.plain))):=by
 refine OC ?_;have X:=j.nodes.n_eq;have B:=N.nodes.n_eq;have Z:a.plain≠b.plain->(Ending.returned (.bool false)=.returned (.bool (decide (a.plain=b.plain)))/\V=V):=λh=>⟨by simp_all,rfl⟩;refine(MT j.globals N.globals).call ⟨_,rfl,λr=>?_,λr=>Z λe=>r (decide_eq_true (wJ e).1)⟩;have r:=of_decide_eq_true r;refine⟨λF=>?_,λF=>Z λe=>F (by rw[X,B,H0 e])⟩;refine Av (mk:=.bool) (b0:=false) a.nodes.length (λi V1=>V=V1/\(a.nodes.map λn=>(n.ty,n.f)).take i=(b.nodes.map λn=>(n.ty,n.f)).take i) ⟨rfl,rfl⟩ ?_;rintro i C V1 J S ⟨rfl,W⟩ E;refine⟨λt=>?_,λQ=>?_⟩
 ·obtain⟨x,P,T,-,O,Y,L,z⟩:=j.nodes.get t;obtain⟨y,A,U,-,K,u,p,g⟩:=N.nodes.get (i:=i) (by omega);have R:(i:Int)<(b.ns.n:Int):=by omega
  have c:(a.nodes.map λn=>(n.ty,n.f))[i]?=some (x.ty,x.f):=by simp_all
  have G:(b.nodes.map λn=>(n.ty,n.f))[i]?=some (y.ty,y.f):=by simp_all
  have bad:(x.ty,x.f)≠(y.ty,y.f)->a.plain≠b.plain:=λh e=>h (by rw[show(a.nodes.map λn=>(n.ty,n.f))=b.nodes.map λn=>(n.ty,n.f)from(wJ e).2,G]at c;simp_all);refine⟨Y,L,t,Ak Y,_,_,z,u,p,R,Ak u,_,_,g,λI=>⟨Y,L,t,Ak Y,_,_,z,u,p,R,Ak u,_,_,g,(MT (j.nodesOk x P).rows (N.nodesOk y A).rows).call ⟨_,rfl,λM=>⟨j.nodes.succ t,E O _ _ ⟨rfl,take_eq W c G (Prod.ext I (of_decide_eq_true M))⟩⟩,λM=>Z (bad λe=>M (decide_eq_true (wJ e).2))⟩⟩,λI=>Z (bad λe=>I (wJ e).1)⟩
 ·have hd:=(j.nodes.done Q).2;rw[wH (by simp_all),wH (by simp_all)]at W;exact⟨by rw[decide_eq_true (plain_ext r W)],rfl⟩
end
end Go.Proofs
namespace Go.Proofs
open Go Go.Sx
section
variable{H:Type}{enc:TypeId×Value->H}{w:World}
theorem rd_str{n:Nat}{t:TypeId}{cs:List Value}{x:DataW H×List MemPlace}(g:xE.underlying t=some .string)(h:TR enc w n t cs=some x):∃s,cs=[.string s]:=by
 cases n with
 |zero=>cases h
 |succ n=>
  unfold TR DataW.trod at h;grind
end
end Go.Proofs
namespace Go.Proofs
open Go Go.Sx
section
variable{H:Type}{enc:TypeId×Value->H}{w:World}
theorem Ed:xE.cellsOf 9=1:=by kernel_rfl
theorem cl22:xE.cellsOf 22=1:=by kernel_rfl
theorem cl23:xE.cellsOf 23=1:=by kernel_rfl
theorem cl24:xE.cellsOf 24=1:=by kernel_rfl
theorem cl25:xE.cellsOf 25=1:=by kernel_rfl
theorem cl26:xE.cellsOf 26=1:=by kernel_rfl
theorem cl27:xE.cellsOf 27=1:=by kernel_rfl
theorem cl28:xE.cellsOf 28=1:=by kernel_rfl
theorem cl38:xE.cellsOf 146=1:=by kernel_rfl
theorem cl52:xE.cellsOf 142=1:=by kernel_rfl
theorem cl40:xE.cellsOf 148=4:=by kernel_rfl
theorem cl67:xE.cellsOf 108=2:=by kernel_rfl
theorem cl94:xE.cellsOf 92=2:=by kernel_rfl
theorem cl54:xE.cellsOf 144=5:=by kernel_rfl
theorem cl75:xE.cellsOf 197=5:=by kernel_rfl
theorem cl97:xE.cellsOf 150=7:=by kernel_rfl
theorem cl58:xE.cellsOf 153=6:=by kernel_rfl
theorem cl61:xE.cellsOf 155=5:=by kernel_rfl
theorem cl64:xE.cellsOf 157=5:=by kernel_rfl
theorem cl30:xE.cellsOf 30=8:=by kernel_rfl
theorem gS{m:Nat}{v:Value}(h:∃y,TR enc w m 9 [v]=some y):∃s,v=.string s:=by
 obtain⟨y,g⟩:=h;obtain⟨s,e⟩:=rd_str Tryz.underlying9 g;exact⟨s,by simpa using e⟩
theorem len2{cs:List Value}(h:cs.length=2):∃a b,cs=[a,b]:=by
 match cs,h with
 |[a,b],_=>simp_all
theorem len5{cs:List Value}(h:cs.length=5):∃a b c d e,cs=[a,b,c,d,e]:=by
 match cs,h with
 |[a,b,c,d,e],_=>simp_all
theorem len6{cs:List Value}(h:cs.length=6):∃a b c d e f,cs=[a,b,c,d,e,f]:=by
 match cs,h with
 |[a,b,c,d,e,f],_=>simp_all
theorem len7{cs:List Value}(h:cs.length=7):∃a b c d e f g,cs=[a,b,c,d,e,f,g]:=by
 match cs,h with
 |[a,b,c,d,e,f,g],_=>simp_all
theorem len8{cs:List Value}(h:cs.length=8):∃a b c d e f g i,cs=[a,b,c,d,e,f,g,i]:=by
 match cs,h with
 |[a,b,c,d,e,f,g,i],_=>simp_all
theorem rdFld{n:Nat}{cs:List Value}{x:DataW H×List MemPlace}(h:TR enc w n 108 cs=some x):∃f:Fld,Fld.row f=cs/\True:=by
 obtain⟨t,m,-,g⟩:=Ej Tryz.underlying108 h;obtain⟨a,b,rfl⟩:=len2 (t.trans cl67);obtain⟨u,rfl⟩:=gS (at1 (g 0 _ rfl) Ed rfl);obtain⟨z,rfl⟩:=gS (at1 (g 1 _ rfl) Ed rfl);exact⟨⟨u,z⟩,rfl,trivial⟩
theorem Is:∀(n:Nat)(cs:List Value)(x:DataW H×List MemPlace),TR enc w n 148 cs=some x->∃e:E,E.row e=cs/\E.Ok (A3 w) e:=by
 intro n;induction n using yS with
 |_ n f=>
 intro cs x h;obtain⟨t,m,hm,g⟩:=Ej Tryz.underlying148 h;obtain⟨a,b,c,d,rfl⟩:=len4 (t.trans cl40);obtain⟨op,rfl,u⟩:=gI (at1 (g 0 _ rfl) Fx rfl);obtain⟨nn,rfl,z⟩:=gI (at1 (g 1 _ rfl) Fx rfl);obtain⟨s,rfl⟩:=gS (at1 (g 2 _ rfl) Ed rfl);obtain⟨l,k,rfl,y,j⟩:=DF (row:=E.row) (ok:=E.Ok (A3 w)) u9 cl40 (by decide) (λ_=>rfl) (λi r=>f i (by omega)) (at1 (g 3 _ rfl) cl38 rfl);exact⟨.mk op nn s l k,rfl,.mk y j u z⟩
theorem S.row_len:∀s:S,(S.row s).length=5:=λs=>by cases s;rfl
theorem O8:∀(n:Nat)(cs:List Value)(x:DataW H×List MemPlace),TR enc w n 197 cs=some x->∃e:S,S.row e=cs/\S.Ok (A3 w) e:=by
 intro n;induction n using yS with
 |_ n p=>
 intro cs x h;obtain⟨v,m,hm,g⟩:=Ej Tryz.underlying197 h;obtain⟨a,b,c,d,e,rfl⟩:=len5 (v.trans cl75);obtain⟨op,rfl,J⟩:=gI (at1 (g 0 _ rfl) Fx rfl);obtain⟨s,rfl⟩:=gS (at1 (g 1 _ rfl) Ed rfl);obtain⟨el,es,rfl,t,u⟩:=DF (row:=E.row) (ok:=E.Ok (A3 w)) u9 cl40 (by decide) (λ_=>rfl) (λf _=>Is f) (at1 (g 2 _ rfl) cl38 rfl);obtain⟨ll,ls,rfl,z,y⟩:=DF (row:=S.row) (ok:=S.Ok (A3 w)) tA cl75 (by decide) S.row_len (λf j=>p f (by omega)) (at1 (g 3 _ rfl) cl52 rfl);obtain⟨xl,xs,rfl,i,r⟩:=DF (row:=S.row) (ok:=S.Ok (A3 w)) tA cl75 (by decide) S.row_len (λf j=>p f (by omega)) (at1 (g 4 _ rfl) cl52 rfl);exact⟨.mk op s el es ll ls xl xs,rfl,.mk t u z y i r J⟩
theorem gF{m:Nat}{v:Value}(h:∃y,TR enc w m 23 [v]=some y):∃(s:Sl)(xs:List Fld),v=.slice s.p s.n s.c/\Ad (A3 w) s 2 (xs.map Fld.row):=by
 obtain⟨s,xs,g,f,-⟩:=DF (row:=Fld.row) (ok:=λ_=>True) Tryz.underlying23 cl67 (by decide) (λ_=>rfl) (λ_ _ _ _=>rdFld) h;grind
theorem rdTy{n:Nat}{cs:List Value}{x:DataW H×List MemPlace}(h:TR enc w n 92 cs=some x):∃f:Ty,Ty.row f=cs/\Ty.Ok (A3 w) f:=by
 obtain⟨t,m,-,g⟩:=Ej Tryz.underlying92 h;obtain⟨a,b,rfl⟩:=len2 (t.trans cl94);obtain⟨u,rfl⟩:=gS (at1 (g 0 _ rfl) Ed rfl);obtain⟨l,k,rfl,z⟩:=gF (at1 (g 1 _ rfl) cl23 rfl);exact⟨⟨u,l,k⟩,rfl,⟨z⟩⟩
theorem rdPr{n:Nat}{cs:List Value}{x:DataW H×List MemPlace}(h:TR enc w n 144 cs=some x):∃f:Pr,Pr.row f=cs/\Pr.Ok (A3 w) f:=by
 obtain⟨j,m,-,g⟩:=Ej Tryz.underlying144 h;obtain⟨a,b,c,d,e,rfl⟩:=len5 (j.trans cl54);obtain⟨i,rfl⟩:=gS (at1 (g 0 _ rfl) Ed rfl);obtain⟨r,p,rfl,t⟩:=gF (at1 (g 1 _ rfl) cl23 rfl);obtain⟨v,rfl⟩:=gS (at1 (g 2 _ rfl) Ed rfl);obtain⟨J,G,rfl,u⟩:=gF (at1 (g 3 _ rfl) cl23 rfl);obtain⟨N,Z,rfl,z,y⟩:=DF (row:=S.row) (ok:=S.Ok (A3 w)) tA cl75 (by decide) S.row_len (λY _=>O8 Y) (at1 (g 4 _ rfl) cl52 rfl);exact⟨⟨i,r,p,v,J,G,N,Z⟩,rfl,⟨t,u,z,y⟩⟩
theorem rdMs{n:Nat}{cs:List Value}{x:DataW H×List MemPlace}(h:TR enc w n 150 cs=some x):∃f:Ms,Ms.row f=cs/\Ms.Ok (A3 w) f:=by
 obtain⟨p,m,-,t⟩:=Ej Tryz.underlying150 h;obtain⟨a,b,c,d,e,f,g,rfl⟩:=len7 (p.trans cl97);obtain⟨j,rfl⟩:=gS (at1 (t 0 _ rfl) Ed rfl);obtain⟨i,rfl⟩:=gS (at1 (t 1 _ rfl) Ed rfl);obtain⟨nn,rfl,v⟩:=gI (at1 (t 2 _ rfl) Fx rfl);obtain⟨y,u⟩:=t 3 _ rfl;change TR enc w m 148 (([xN j,.string i,.int .i64 nn,d,e,f,g].drop 3).take (xE.cellsOf 148))=some y at u;rw[cl40]at u;obtain⟨x,r,z⟩:=Is m _ _ u;simp only[tB,wu,tC,tD,E.row,yE,and_true]at r;obtain⟨rfl,rfl,rfl,rfl⟩:=r;exact⟨⟨j,i,nn,x⟩,rfl,⟨z,v⟩⟩
theorem rdIv{n:Nat}{cs:List Value}{x:DataW H×List MemPlace}(h:TR enc w n 153 cs=some x):∃f:Iv,Iv.row f=cs/\E.Ok (A3 w) f.x:=by
 obtain⟨p,m,-,t⟩:=Ej Tryz.underlying153 h;obtain⟨a,b,d,e,f,g,rfl⟩:=len6 (p.trans cl58);obtain⟨j,rfl⟩:=gS (at1 (t 0 _ rfl) Ed rfl);obtain⟨i,rfl⟩:=gS (at1 (t 1 _ rfl) Ed rfl);obtain⟨y,u⟩:=t 2 _ rfl;change TR enc w m 148 (([xN j,.string i,d,e,f,g].drop 2).take (xE.cellsOf 148))=some y at u;rw[cl40]at u;obtain⟨x,r,z⟩:=Is m _ _ u;simp only[tB,wu,tC,tD,E.row,yE,and_true]at r;obtain⟨rfl,rfl,rfl,rfl⟩:=r;exact⟨⟨j,i,x⟩,rfl,z⟩
theorem rdPo{n:Nat}{cs:List Value}{x:DataW H×List MemPlace}(h:TR enc w n 155 cs=some x):∃f:Po,Po.row f=cs/\E.Ok (A3 w) f.x:=by
 obtain⟨r,m,-,z⟩:=Ej Tryz.underlying155 h;obtain⟨a,d,e,f,g,rfl⟩:=len5 (r.trans cl61);obtain⟨j,rfl⟩:=gS (at1 (z 0 _ rfl) Ed rfl);obtain⟨y,t⟩:=z 1 _ rfl;change TR enc w m 148 (([xN j,d,e,f,g].drop 1).take (xE.cellsOf 148))=some y at t;rw[cl40]at t;obtain⟨x,i,u⟩:=Is m _ _ t;simp only[tB,wu,tC,tD,E.row,yE,and_true]at i;obtain⟨rfl,rfl,rfl,rfl⟩:=i;exact⟨⟨j,x⟩,rfl,u⟩
theorem rdBd{n:Nat}{cs:List Value}{x:DataW H×List MemPlace}(h:TR enc w n 157 cs=some x):∃f:Bd,Bd.row f=cs/\E.Ok (A3 w) f.x:=by
 obtain⟨r,m,-,z⟩:=Ej Tryz.underlying157 h;obtain⟨a,d,e,f,g,rfl⟩:=len5 (r.trans cl64);obtain⟨j,rfl⟩:=gS (at1 (z 0 _ rfl) Ed rfl);obtain⟨y,t⟩:=z 1 _ rfl;change TR enc w m 148 (([xN j,d,e,f,g].drop 1).take (xE.cellsOf 148))=some y at t;rw[cl40]at t;obtain⟨x,i,u⟩:=Is m _ _ t;simp only[tB,wu,tC,tD,E.row,yE,and_true]at i;obtain⟨rfl,rfl,rfl,rfl⟩:=i;exact⟨⟨j,x⟩,rfl,u⟩
theorem rdDs{n:Nat}{cs:List Value}{x:DataW H×List MemPlace}(h:TR enc w n 30 cs=some x):∃d:Ds,d.row=cs/\Ds.Ok (A3 w) d:=by
 obtain⟨u,m,-,t⟩:=Ej Tryz.underlying30 h;obtain⟨a,b,c,d,e,f,g,i,rfl⟩:=len8 (u.trans cl30);obtain⟨z,rfl⟩:=gS (at1 (t 0 _ rfl) Ed rfl);obtain⟨y,j,rfl,r,p⟩:=DF (row:=Ty.row) (ok:=Ty.Ok (A3 w)) Tryz.underlying22 cl94 (by decide) (λ_=>rfl) (λ_ _ _ _=>rdTy) (at1 (t 1 _ rfl) cl22 rfl);obtain⟨v,J,rfl,G⟩:=gF (at1 (t 2 _ rfl) cl23 rfl);obtain⟨N,Z,rfl,Y,W⟩:=DF (row:=Pr.row) (ok:=Pr.Ok (A3 w)) Tryz.underlying24 cl54 (by decide) (λ_=>rfl) (λ_ _ _ _=>rdPr) (at1 (t 3 _ rfl) cl24 rfl);obtain⟨Q,P,rfl,O,A⟩:=DF (row:=Ms.row) (ok:=Ms.Ok (A3 w)) Tryz.underlying25 cl97 (by decide) (λ_=>rfl) (λ_ _ _ _=>rdMs) (at1 (t 4 _ rfl) cl25 rfl);obtain⟨I,M,rfl,F,L⟩:=DF (row:=Iv.row) (ok:=λf=>E.Ok (A3 w) f.x) Tryz.underlying26 cl58 (by decide) (λ_=>rfl) (λ_ _ _ _=>rdIv) (at1 (t 5 _ rfl) cl26 rfl);obtain⟨R,X,rfl,B,C⟩:=DF (row:=Po.row) (ok:=λf=>E.Ok (A3 w) f.x) Tryz.underlying27 cl61 (by decide) (λ_=>rfl) (λ_ _ _ _=>rdPo) (at1 (t 6 _ rfl) cl27 rfl);obtain⟨K,S,rfl,T,U⟩:=DF (row:=Bd.row) (ok:=λf=>E.Ok (A3 w) f.x) Tryz.underlying28 cl64 (by decide) (λ_=>rfl) (λ_ _ _ _=>rdBd) (at1 (t 7 _ rfl) cl28 rfl);exact⟨⟨z,y,j,v,J,N,Z,Q,P,I,M,R,X,K,S⟩,rfl,⟨r,p,G,Y,W,O,A,F,L,B,C,T,U⟩⟩
end
end Go.Proofs
namespace Go.Proofs.YtgdmkmfchcflpaaGreatDoor
open Go Go.Sx Go.Proofs Go.ChangeShapes Go.WideShapes Go.ChangeAt Go.RowKit
theorem JT{H:Type}{enc:TypeId×Value->H}{W:World}{v:Value}{z:DataW H}{p:List MemPlace}(h:DataW.Trod enc xE W 0 (λ_=>true) true 30 v z p):∃d:Ds,v=d.v/\Ds.Ok (A3 W) d:=by
 obtain⟨f,h⟩:=h;obtain⟨d,t,g⟩:=rdDs h;refine⟨d,?_,g⟩;have y:v.cells.toList.length=8:=by rw[<-t];rfl
 cases v with
 |agg u=>
  have:u.toList=d.row:=t.symm;show Value.agg u=.agg d.row.toArray;rw[<-this]
 |_=>simp[Value.cells]at y
end Go.Proofs.YtgdmkmfchcflpaaGreatDoor
namespace Go.Proofs.YtgdmkmfchcflpaaGreatDoor
open Go Go.Sx Go.Proofs Go.ChangeShapes Go.WideShapes Go.ChangeAt Go.RowKit
section
variable{H:Type}{enc:TypeId×Value->H}{w:World}
theorem cl31:xE.cellsOf 47=1:=by kernel_rfl
theorem clNd:xE.cellsOf 90=2:=by kernel_rfl
theorem clNds:xE.cellsOf 48=1:=by kernel_rfl
theorem clMm:xE.cellsOf 50=2:=by kernel_rfl
theorem gInts{m:Nat}{v:Value}(h:∃y,TR enc w m 47 [v]=some y):∃(s:Sl)(xs:List Int),v=.slice s.p s.n s.c/\Ad (A3 w) s 1 (xs.map Am)/\∀x∈xs,EM x:=
 DF (row:=Am) (ok:=EM) Tryz.underlying47 Fx (by decide) (λ_=>rfl) (λt _ u x g=>by
  obtain⟨n,rfl,f⟩:=rd_int Tryz.underlying3 g;exact⟨n,rfl,f⟩) h
theorem rdNd{n:Nat}{cs:List Value}{x:DataW H×List MemPlace}(h:TR enc w n 90 cs=some x):∃f:Nd,Nd.row f=cs/\Nd.Ok (A3 w) f:=by
 obtain⟨u,m,-,g⟩:=Ej Tryz.underlying90 h;obtain⟨a,b,rfl⟩:=len2 (u.trans clNd);obtain⟨t,rfl,z⟩:=gI (at1 (g 0 _ rfl) Fx rfl);obtain⟨l,k,rfl,y,j⟩:=gInts (at1 (g 1 _ rfl) cl31 rfl);exact⟨⟨t,l,k⟩,rfl,⟨y,z,j⟩⟩
theorem rdMm{n:Nat}{cs:List Value}{x:DataW H×List MemPlace}(h:TR enc w n 50 cs=some x):∃m:Mm,m.row=cs/\Mm.Ok (A3 w) m:=by
 obtain⟨f,m,-,g⟩:=Ej Tryz.underlying50 h;obtain⟨a,b,rfl⟩:=len2 (f.trans clMm);obtain⟨t,u,rfl,z,y⟩:=gInts (at1 (g 0 _ rfl) cl31 rfl);obtain⟨j,i,rfl,r,p⟩:=DF (row:=Nd.row) (ok:=Nd.Ok (A3 w)) Tryz.underlying48 clNd (by decide) (λ_=>rfl) (λ_ _ _ _=>rdNd) (at1 (g 1 _ rfl) clNds rfl);exact⟨⟨t,u,j,i⟩,rfl,⟨z,y,r,p⟩⟩
end
end Go.Proofs.YtgdmkmfchcflpaaGreatDoor
namespace Go.Proofs
open Go Go.Sx
attribute [local irreducible] Go.Sx.Tri
theorem plain_eq{t:KB}(h:t=AD∨t=AR):Bo t=true:=by
 unfold Bo;rcases h with rfl|rfl<;>simp
section
variable{V0 V:Mem}{d:Ds}{m:Mm}
theorem c102{s:Sl}{l:List Int}(h:Ad V s 1 (l.map Am)){x:Int}:PP 102 [s.v,.int .i64 x] V (.int .i64 (CP l x)):=by
 refine x102 ?_;refine Av (mk:=.int .i64) (b0:=0) l.length (λj V1=>V=V1/\AN (λy:Int=>!decide (y=x)) l j) ⟨rfl,AN.zero _ _⟩ ?_;rintro j b V1 J N ⟨rfl,z⟩ r;refine⟨λg=>?_,λt=>?_⟩
 ·obtain⟨y,p,c,-,u,a,G,f⟩:=h.get g;refine⟨a,G,g,_,f,λi=>?_,λi=>⟨h.succ g,r u _ _ ⟨rfl,He z c (decide_eq_false i)⟩⟩⟩;have e:CP l x=(j:Int):=by grind[CP,Hc,decide_eq_true]
  simp_all
 ·have e:CP l x=-1:=by unfold CP;exact Hd z (h.done t).2
  simp_all
theorem pos_neg{l:List Int}{x:Int}:¬(0<=CP l x)↔¬x∈l:=by
 unfold CP;rcases Dn (λy=>decide (y=x)) l with⟨h,-,g⟩|⟨i,y,h,g,-,f,t,-⟩;·grind
 grind
theorem tgtI_in{xs:List Fld}{vs:List Int}(h:Bb d m xs vs=true){i:Nat}:∀y∈tgtI xs vs i,1<=y/\y<=(m.nodes.length:Int):=λy g=>by
 have:y∈Cv xs vs:=by
  unfold tgtI at g;unfold Cv;obtain⟨a,r,rfl⟩:=wc.1 g;grind
 obtain⟨j,f,t,u,z,x⟩:=Hq.1 this;exact ref_in h t u z x
def LookRP(V0:Mem)(st:Sr):Ending->Mem->Prop:=λe V'=>∃s:Sl,e=.returned (.agg #[s.v,.int .i64 st.again])/\Sx.Own V0 V' 3 1 s (st.order.flatMap Am)
variable(V0 d m)in
def LookRC(N:Nat):Prop:=∀(st:Sr)(f:Nat) V (s l q:Sl)(xs:List Fld)(vs:List Int),Bv m st<=N->Bv m st<f->st.order.length+Bv m st<=m.nodes.length->Ad V0 l 2 (xs.map Fld.row)->Ad V0 q 1 (vs.map Am)->Bb d m xs vs=true->Sx.Own V0 V 3 1 s (st.order.flatMap Am)->
 Tri xE 101 #[d.v,m.v,.agg #[s.v,.int .i64 st.again],l.v,q.v] V (LookRP V0 (lookP d m f st xs vs))
theorem lookRC(W:AB d m=true)(hd:Ds.Ok V0 d)(hm:Mm.Ok V0 m)(N:Nat)(ih:∀N',N'<N->LookRC V0 d m N'):LookRC V0 d m N:=by
 intro st f V s l q xs vs hN hf C hl hq hv ho;refine Tri.mono (x101 (R:=LookRP V0 (lookP d m f st xs vs)) ?_) λ_ _ h=>h;have hlen:xs.length=vs.length:=by
  grind[Bb]
 have m4:=(DS W).2.1;refine loop3b (mk:=λs:Sl=>.slice s.p s.n s.c) (mc:=.int .i64) (b0:=s) (c0:=st.again) AG Ax xs.length (λi P a V1=>a=((tgtI xs vs i).foldl (AW d m f) st).again/\Sx.Own V0 V1 3 1 P (((tgtI xs vs i).foldl (AW d m f) st).order.flatMap Am)) ⟨rfl,ho⟩ ?_;rintro i P a V1 J hi ⟨rfl,O⟩ hJ;obtain⟨g,r⟩:∃g,g=(tgtI xs vs i).foldl (AW d m f) st:=⟨_,rfl⟩;rw[<-r]at O⊢;have hu:Bv m g<=Bv m st:=by simp_all[unS_le,foldP_sub]
 have hcl:Cl d m st g:=by rw[r];exact(Jr (ent_cl W f) (tgtI xs vs i) st (tgtI_in hv) hf).1
 have hcap1:=hcl.cap C;have v:=hl.sub O.sub;have E:=hq.sub O.sub;refine⟨λG=>?_,λhge=>?_⟩
 ·obtain⟨x,hxm,hx,-,K,hp,hz,A⟩:=v.get G;have n1:=v.n_eq;have n2:=E.n_eq;obtain⟨y,hym,hy,-,hjl,hpy,hzy,M⟩:=E.get (i:=i) (by omega);have same:CN (x,y)=false->J [.slice P.p P.n P.c,.int .i64 g.again,.int .i64 ((i:Int)+1)] V1:=λhr=>by
   refine hJ K P g.again V1 ?_;rw[Jp hx hy,hr,if_neg (by decide),xp,<-r];exact⟨rfl,O⟩
  have pl:Bo x.ty=true->CN (x,y)=false:=λh=>by grind[CN,Bo]
  refine⟨hpy,hzy,by omega,_,M,hp,hz,G,Ak hp,_,_,A,λh2=>⟨v.succ G,same (pl ?_)⟩,λh2=>⟨hp,hz,G,Ak hp,_,_,A,λh3=>⟨v.succ G,same (pl ?_)⟩,λh3=>⟨λh4=>⟨v.succ G,same ?_⟩,λh4=>?_⟩⟩⟩;·grind[AD,Bo]
  ·grind[AR,Bo]
  ·grind[CN]
  have hpl:Bo x.ty=false:=by
   grind[AD,AR,Bo]
  have h4:¬y=0:=h4;have hr:CN (x,y)=true:=by grind[CN]
  have hy1:=ref_in hv hx hy hpl h4;have next:∀(s':Sl) V2,Sx.Own V0 V2 3 1 s' ((AW d m f g y).order.flatMap Am)->J [.slice s'.p s'.n s'.c,.int .i64 (AW d m f g y).again,.int .i64 ((i:Int)+1)] V2:=λs' V2 h=>by
   refine hJ K s' _ V2 ?_;rw[Jp hx hy,hr,if_pos rfl,List.foldl_append,List.foldl_cons,List.foldl_nil,<-r];exact⟨rfl,h⟩
  obtain⟨f,rfl⟩:∃f',f=f'+1:=⟨f-1,by omega⟩;refine(c102 (O.rows (λ_=>rfl) (by decide))).call ⟨_,rfl,λh5=>?_,λh5=>?_⟩
  ·have F:y∈g.order:=Classical.not_not.1 λh=>pos_neg.2 h h5;have e:AW d m (f+1) g y=⟨g.order,if g.again=0 then y else g.again⟩:=by grind[AW]
   rw[e]at next
   refine⟨λh6=>⟨v.succ G,?_⟩,λh6=>⟨v.succ G,?_⟩⟩;·simp_all
   simp_all
  ·have F:¬y∈g.order:=pos_neg.1 h5;have hlt2:=unS_lt (st:=g) hy1 F (a:=g.again);intro tb htb;refine DU (s:=P) (u:=⟨some ⟨tb,0,none⟩,1,1⟩) (xs:=g.order) (ys:=[y]) rfl rfl (O.but.new htb (.cells #[.int .i64 y] 3 (0,0))) (one_int As) (by simp;omega) λo2 V2 ho2=>⟨o2,rfl,?_⟩;have L:Sx.Own V0 V2 3 1 o2 ((g.order++[y]).flatMap Am):=ho2.narrow O.sub_but;obtain⟨k,rfl⟩:∃k:Nat,y=(k:Int)+1:=⟨(y-1).toNat,by omega⟩;have S:=hm.sub L.sub;have T:=hd.sub L.sub;have hnn:=S.nodes.n_eq;obtain⟨z,X,hz',-,hl2,Q,U,Z⟩:=S.nodes.get (i:=k) (by omega);obtain⟨c1,c2⟩:=of_decide_eq_true ((DS W).2.2.1 z X);obtain⟨j,hj⟩:∃j:Nat,z.ty=(j:Int):=⟨_,(vL c1).symm⟩;have htn:=T.types.n_eq;obtain⟨t,htm,ht,-,hl3,I,hzt,B⟩:=T.types.get (i:=j) (by omega);have hI:IR ((k:Int)):=⟨by omega,by omega⟩;have hfo:=Fv ht hj;have Y:=(DS W).2.2.2.2 z X;rw[hfo]at Y;rw[show((k:Int)+1-1)=(k:Int)by omega];refine⟨hI,Q,U,by omega,Ak Q,_,_,Z,?_⟩;rw[hj];refine⟨I,hzt,by omega,Ak I,_,_,B,hI,Q,U,by omega,Ak Q,_,_,Z,?_⟩;refine Tri.mono (ih (Bv m ⟨g.order++[(k:Int)+1],g.again⟩) (by omega) ⟨g.order++[(k:Int)+1],g.again⟩ f V2 o2 t.fs z.sl t.fields z.f (Nat.le_refl _) (by omega) ?_ (hd.typesOk t htm).fields (hm.nodesOk z X).rows Y L) ?_;·grind
   rintro _ V5 ⟨s5,rfl,h6⟩;have e:AW d m (f+1) g ((k:Int)+1)=lookP d m f ⟨g.order++[(k:Int)+1],g.again⟩ t.fields z.f:=by
    rw[AW,if_neg F];simp_all[nodeTgt,lookP,Int,Cv,Bg]
   rw[<-e]at h6⊢;exact⟨_,_,rfl,v.succ G,next s5 V5 h6⟩
 ·have hdn:=(v.done hge).2;rw[tgtI_all hdn]at r;have e:lookP d m f st xs vs=g:=r.symm;rw[e];exact⟨P,rfl,O⟩
theorem O9(g:AB d m=true)(f:Ds.Ok V d)(hm:Mm.Ok V m):Tri xE 71 #[d.v,m.v] V (LookRP V (AJ d m)):=by
 refine Tri.mono (OQ (R:=LookRP V (AJ d m)) ?_) λ_ _ h=>h;have t:=H8 (m:=m);have all:∀N,LookRC V d m N:=λN=>yS N λN u=>lookRC g f hm N u;refine Tri.mono (all m.nodes.length ⟨[],0⟩ (m.nodes.length+1) V ⟨none,0,0⟩ d.gs m.gs d.globals m.globals t (by omega) (by simp_all) f.globals hm.globals (DS g).2.2.2.1 (Own.nil (Mem.sub.refl V) _ _)) ?_;rintro _ V2 ⟨s,rfl,h⟩;exact⟨_,_,rfl,s,rfl,h⟩
end
section
variable{V:Mem}{d:Ds}{m:Mm}
theorem MU{l q o:Sl}{xs:List Fld}{vs O:List Int}(S:Ad V l 2 (xs.map Fld.row))(T:Ad V q 1 (vs.map Am))(U:Ad V o 1 (O.map Am))(hO:O.length<=4096)(he:xs.length=vs.length)(R:xs.length<=4096):
  Tri xE 72 #[l.v,q.v,o.v] V λe V'=>∃s:Sl,e=.returned (.slice s.p s.n s.c)/\Sx.Own V V' 3 1 s ((Bi O xs vs).flatMap Am):=by
 refine OR ?_;have hrl:=renL_len (O:=O) he;refine Cz (mk:=λs:Sl=>.slice s.p s.n s.c) (b0:=⟨none,0,0⟩) AG xs.length (λi s V1=>Sx.Own V V1 3 1 s (((Bi O xs vs).take i).flatMap Am)) (Own.nil (Mem.sub.refl _) _ _) ?_;rintro i s V1 J hi Z hJ;have G:=S.sub Z.sub;have Y:=T.sub Z.sub;refine⟨λt=>?_,λP=>?_⟩
 ·obtain⟨x,hxm,hx,-,A,W,Q,r⟩:=G.get t;have n2:=Y.n_eq;obtain⟨y,hym,hy,-,hjl,I,M,N⟩:=Y.get (i:=i) (by omega);have F:=Ht (O:=O) hx hy;have add:∀{w z:Int}{V2:Mem}{ty:Nat}{a b:Operand}{vals:Operand->Value},V1=V2->w=(if Bo x.ty=true then y else Cq O y)->z=w->∀f,V2 f=none->vals a=.slice s.p s.n s.c->vals b=.slice (sa f) 1 1 ->
    GenK xE (.call {callee:=.builtin .append,args:=#[a,b],argTypes:=#[47,47]}) ty vals (V2.set f (.cells #[.int .i64 z] 3 (0,0))) λx X=>∃B:Sl,x=uL B/\IR ((i:Int)+1)/\J [uL B,uI ((i:Int)+1)] X:=λ{w z V2 ty a b vals} e hw Q f g ha R=>by
   subst e;subst Q;refine DU (s:=s) (u:=⟨some ⟨f,0,none⟩,1,1⟩) (xs:=(Bi O xs vs).take i) (ys:=[z]) ha R (Z.but.new g (.cells #[.int .i64 z] 3 (0,0))) (one_int As) (by grind) λo2 X L=>⟨o2,rfl,G.succ t,hJ A _ _ ?_⟩;rw[wh,F,<-hw];exact L.narrow Z.sub_but
  have C:∀{c:Bool},Bo x.ty=c->(if Bo x.ty=true then y else Cq O y)=if c=true then y else Cq O y:=λh=>by rw[h]
  refine⟨I,M,by omega,_,N,W,Q,t,Ak W,_,_,r,λE f g=>add rfl (by rw[C (plain_eq (.inl E))];rfl) rfl f g rfl rfl,λE=>⟨W,Q,t,Ak W,_,_,r,λK f g=>add rfl (by rw[C (plain_eq (.inr K))];rfl) rfl f g rfl rfl,λK=>?_⟩⟩;have hpl:Bo x.ty=false:=by
   grind[AD,AR,Bo]
  refine⟨λh4 f g=>add rfl ?_ rfl f g rfl rfl,λh4=>?_⟩;·grind[GH]
  ·refine(c102 (U.sub Z.sub)).call ⟨_,rfl,?_,λf g=>add rfl ?_ rfl f g rfl rfl⟩
   ·unfold CP;rcases Dn (λz=>decide (z=y)) O with⟨e,-⟩|⟨j,_,e,-,-,e2,-⟩;·rw[e];exact⟨by omega,by omega⟩
    ·rw[e];exact⟨by omega,by omega⟩
   grind[Cq]
 ·have hd:=(G.done P).2;grind
theorem lens_of(h:BX d=true):d.globals.length<=8/\∀t∈d.types,t.fields.length<=12:=by
 grind[BX,Dm,EI]
theorem MV{l:List Fld}{vs:List Int}(h:Bb d m l vs=true):l.length=vs.length:=by
 grind[Bb]
theorem JU(G:BR d m)(hd:Ds.Ok V d)(hm:Mm.Ok V m):Tri xE 43 #[d.v,m.v] V λe V'=>V.sub V'/\∃c:Mm,e=.returned (.agg #[c.gs.v,c.ns.v])/\Mm.Ok V' c/\IsCan d m c (AJ d m).order:=by
 refine O2 ?_;refine Tri.mono (O9 G.mem hd hm) ?_;rintro _ V1 ⟨o,rfl,ho⟩;have R:=GG G.mem;obtain⟨p1,p2,p3,p4,p5⟩:=DS G.mem;obtain⟨l1,l2⟩:=lens_of G.valid;have hcap:=R.cap;have X:=ho.rows (λ_=>rfl) (by decide);refine⟨o,_,rfl,Tri.mono (MU (hd.globals.sub ho.sub) (hm.globals.sub ho.sub) X (by omega) (MV p4) (by omega)) ?_⟩;rintro _ V2 ⟨gs,rfl,hg⟩;refine⟨gs,rfl,?_⟩;have hgR:=hg.rows (λ_=>rfl) (by decide);refine loop3b (mk:=λs:Sl=>.slice s.p s.n s.c) (mc:=λs:Sl=>.slice s.p s.n s.c) (b0:=gs) (c0:=⟨none,0,0⟩) AG AG (AJ d m).order.length (λi b c V3=>b=gs/\∃nd,CanAt d m V2 V3 c i nd) ⟨rfl,[],rfl,(λ_ _ _ h=>by omega),V2,Mem.sub.refl _,Own.nil (Mem.sub.refl _) _ _,(λ_ h=>by cases h)⟩ ?_;rintro i b s V3 J hi ⟨rfl,nd,C⟩ hJ;obtain⟨W,hW,y,B⟩:=C.mem;have A:V.sub V3:=((ho.sub.trans hg.sub).trans hW).trans y.sub;have Z:=hd.sub A;have Y:=hm.sub A;have Q:=X.sub ((hg.sub.trans hW).trans y.sub);refine⟨λI=>?_,λhge=>?_⟩
 ·obtain⟨n,hnm,hn,-,hil,hp,hz,E⟩:=Q.get I;have hr:=R.rng n hnm;obtain⟨k,rfl⟩:∃k:Nat,n=(k:Int)+1:=⟨(n-1).toNat,by omega⟩;have hnn:=Y.nodes.n_eq;obtain⟨z,P,hz',-,hl2,hpx,hzx,M⟩:=Y.nodes.get (i:=k) (by omega);obtain⟨c1,c2⟩:=of_decide_eq_true (p3 z P);obtain⟨j,K⟩:∃j:Nat,z.ty=(j:Int):=⟨_,(vL c1).symm⟩;have htn:=Z.types.n_eq;obtain⟨t,htm,ht,-,hl3,O,hzt,F⟩:=Z.types.get (i:=j) (by omega);have hI:IR ((k:Int)):=⟨by omega,by omega⟩;have S:=Fv ht K;have r:=p5 z P;rw[S]at r;refine⟨hp,hz,I,_,E,?_⟩;rw[show((k:Int)+1-1)=(k:Int)by omega];refine⟨hI,hpx,hzx,by omega,_,_,M,?_⟩;rw[K];refine⟨O,hzt,by omega,Ak O,_,_,F,Tri.mono (MU (Z.typesOk t htm).fields (Y.nodesOk z P).rows Q (by omega) (MV r) (by grind)) ?_⟩;rintro _ V4 ⟨fs,rfl,hf⟩;refine⟨fs,rfl,λtb htb=>?_⟩;have L:=Own.growS y hf.sub;have hfR:=hf.rows (λ_=>rfl) (by decide);obtain⟨nn,N⟩:∃nn:Nd,nn=⟨(j:Int),fs,Bi (AJ d m).order t.fields z.f⟩:=⟨_,rfl⟩;have T:Ad (V4.but s) fs 1 ((Bi (AJ d m).order t.fields z.f).map Am):=by
   have:Sx.Own (λ_=>none) (V4.but s) 3 1 fs ((Bi (AJ d m).order t.fields z.f).flatMap Am):=⟨(λ_ _ h=>by cases h),hf.len,by
    rcases hf.at_ with h|⟨g,cur,a,b,c,dd⟩;·exact .inl h
    ·exact .inr ⟨g,cur,a,rfl,Mem.but_at c (y.apartN b),dd⟩⟩
   exact this.rows (λ_=>rfl) (by decide)
  have hn2:Nd.Ok (V4.but s) nn:=by
   rw[N];exact⟨T,⟨by simp_all,by show(j:Int)<=9223372036854775807;have:=(Z.types.succ (i:=j) (by omega)).2;omega⟩,ren_in (by omega) (Y.nodesOk z P).vals⟩
  have hlen:nd.length<=4096:=by rw[C.len];omega
  refine app48 (s:=s) (u:=⟨some ⟨tb,0,none⟩,1,1⟩) (xs:=nd) (ys:=[nn]) rfl rfl (L.but.new htb (.cells #[uI (j:Int),uL fs] 90 (0,0))) (Ad.cells (xs:=[nn]) (row:=Nd.row) As (by rw[N];rfl) (λ_=>rfl) rfl (by simp)) (by simp;omega) λo2 V5 ho2=>⟨o2,rfl,Q.succ I,hJ hil _ _ _ ⟨rfl,nd++[nn],by rw[zw,C.len];rfl,λq w x hq hw U=>?_,V4.but s,hW.trans L.sub_but,ho2,λw hw=>?_⟩⟩
  ·by_cases hqi:q<i
   ·obtain⟨sl,hs⟩:=C.at_ q w x hqi hw U;exact⟨sl,by rw[List.getElem?_append_left (by grind)];exact hs⟩
   ·have:q=i:=by omega
    subst this;rw[hn]at hw;cases hw;rw[show((k:Int)+1-1).toNat=k by omega,hz']at U;cases U;refine⟨fs,?_⟩;rw[<-C.len,List.getElem?_concat_length,N,S,K]
  ·rcases List.mem_append.1 hw with hw|hw;·exact(B w hw).sub L.sub_but
   simp_all
 ·have hdn:=(Q.done hge).2;have hi':i=(AJ d m).order.length:=by omega
  refine⟨A,⟨b,Bi (AJ d m).order d.globals m.globals,s,nd⟩,rfl,⟨hgR.sub (hW.trans y.sub),ren_in (by omega) hm.gIn,y.rows (λ_=>rfl) (by decide),λn hn=>(B n hn).sub y.sub⟩,rfl,by rw[<-hi'];exact C.len,λj n x K U=>C.at_ j n x (by grind) K U⟩
end
end Go.Proofs
namespace Go.Proofs.YtgdmkmfchcflpaaGreatDoor
open Go Go.Sx Go.Proofs Go.ChangeShapes Go.WideShapes Go.ChangeAt Go.RowKit
set_option maxRecDepth 100000 in
theorem JV{H:Type}{enc:TypeId×Value->H}{W t:World}{r:Reach}{b0:Nat}{v:Value}{u:DataW H}{p:List MemPlace}(g:Value.okWide xE t r b0 31 v)(h:DataW.Trod enc xE W 0 (λ_=>true) true 31 v u p):∃(l:Sl)(ms:List Mm),v=l.v/\CT (A3 W) l ms:=by
 obtain⟨a,len,cap,rfl⟩:=okWide_slice tE g;obtain⟨f,h⟩:=h;have h:∃y,TR enc W f 31 [.slice a len cap]=some y:=⟨_,h⟩;obtain⟨s,ms,z,j,i⟩:=DF (row:=Mm.row) (ok:=λm:Mm=>Mm.Ok (A3 W) m) tE clMm (by decide) (λ_=>rfl) (λe _ J x c=>rdMm c) h;exact⟨s,ms,z,⟨j,i⟩⟩
end Go.Proofs.YtgdmkmfchcflpaaGreatDoor
namespace Go.Proofs
open Go Go.Sx
attribute [local irreducible] Go.Sx.Tri
section
variable{V:Mem}{d:Ds}{m:Mm}{k:Dk}{s l:Sl}{ms:List Mm}{b:List Int}{n:Int}
theorem Lv(f:Ds.Ok V d):PP 38 [d.v] V (.bool (decide (AL d))):=by
 refine OF ?_;refine(Lt f).call ⟨_,rfl,λg=>?_,λg=>?_⟩
 ·have g:BX d=true:=g;refine(O6 f).call ⟨_,rfl,?_⟩;have e:wellT d=decide (AL d):=by
   unfold wellT;rw[g,Bool.true_and];exact decide_eq_decide.2 ⟨λh=>⟨g,chk_none h⟩,λh=>by rw[h.2];rfl⟩
  rw[e];exact⟨rfl,rfl⟩
 ·rw[decide_eq_false λh:AL d=>g h.1];exact⟨rfl,rfl⟩
theorem Lw(p:CM n):Tri xE 70 #[.int .i64 n] V λe V'=>V.sub V'/\∃s:Sl,e=.returned s.v/\Bt V' s (AA n):=by
 have F:=p.1;have L:=p.2;refine OP ?_;refine⟨⟨by omega,by omega⟩,mk34 (n:=6) rfl rfl (by decide) λg c=>⟨⟨some ⟨g,0,none⟩,6,6⟩,rfl,?_⟩⟩;have N:Sx.Own V (V.set g (.cells (madeCells (Value.int .u8 0).cells (6*1)) 5 (0,0))) 5 1 ⟨some ⟨g,0,none⟩,6,6⟩ ((yJ 6 (0:Int)).flatMap AS):=
  ⟨Mem.sub_new c _,rfl,.inr ⟨g,_,rfl,c,Mem.set_same _ _ _,Nat.le_refl _,by simp[maxLen],by rw[size_madeCells],by rw[K4];rfl⟩⟩
 refine loopD (mk:=.int .i64) (b0:=n+140737488355328) (c0:=5) Ax 6 (by rfl) (λi v V1=>v=(n+140737488355328)/2^(8*i)/\Sx.Own V V1 5 1 ⟨some ⟨g,0,none⟩,6,6⟩ ((yJ (6-i) (0:Int)++(AA n).drop (6-i)).flatMap AS)) ⟨by simp,by
   rw[show yJ (6-0) (0:Int)++(AA n).drop (6-0)=yJ 6 0 by rw[List.drop_of_length_le (Nat.le_of_eq (De n)),xp]];exact N⟩ ?_
 rintro i v V1 J R ⟨rfl,y⟩ Z;have h:(0:Int)<2^(8*i):=Int.pow_pos (by decide);have f:0<=(n+140737488355328)/2^(8*i):=Int.ediv_nonneg (by omega) (Int.le_of_lt h);have t:(n+140737488355328)/2^(8*i)<=n+140737488355328:=Int.ediv_le_self _ (by omega);refine⟨λY=>?_,λW=>?_⟩
 ·have x:i<6:=by omega
  obtain⟨w,hw⟩:∃w,w=(n+140737488355328)/2^(8*i):=⟨_,rfl⟩;rw[<-hw]at f t⊢;have Q:xF .u8 (w.tmod 256)=w % 256:=by rw[GI,Int.tmod_eq_emod_of_nonneg f];omega
  have P:xF .i64 (w.tdiv 256)=w/256:=by
   rw[Int.tdiv_eq_ediv_of_nonneg f];exact Eh ⟨by simp[IntKind.min,zQ,zR];omega,by simp[IntKind.max,zQ,zR];omega⟩
  rw[Q,P];have u:((((6:Nat):Int)-1-(i:Int)).toNat*1)=5-i:=by omega
  refine⟨by decide,by simp,by omega,by show _<((6:Nat):Int);omega,?_⟩;rw[u];have j:(yJ (6-i) (0:Int)++(AA n).drop (6-i)).length=6:=by rw[zw,List.length_replicate,List.length_drop,De];omega
  refine Own.store y (i:=5-i) (by rw[FQ (sz:=1) (λ_=>rfl),j];omega) λX G _=>⟨by decide,⟨by omega,by omega⟩,Z x _ _ ⟨?_,?_⟩⟩;·rw[hw,Int.ediv_ediv_of_nonneg (Int.le_of_lt h),Nat.mul_succ,Int.pow_add];rfl
  ·have O:((yJ (6-i) (0:Int)++(AA n).drop (6-i)).flatMap AS).set (5-i) (.int .u8 (w % 256))=(yJ (6-(i+1)) (0:Int)++(AA n).drop (6-(i+1))).flatMap AS:=by
    have r:=cod6_get n (i:=5-i) (by omega);rw[show 8*(5-(5-i))=8*i by omega,<-hw]at r;have flat:∀l:List Int,l.flatMap AS=l.map (Value.int .u8):=λl=>by
     induction l with
     |nil=>rfl
     |cons a l A=>rw[List.flatMap_cons,A];rfl
    rw[flat,flat,<-List.map_set];congr 1;have I:6-(i+1)=5-i:=by omega
    have M:6-i=5-i+1:=by omega
    have z:5-i<(AA n).length:=by rw[De];omega
    rw[I,M,List.drop_eq_getElem_cons z,List.replicate_succ'];have:(AA n)[5-i]=w % 256:=by
     rw[List.getElem?_eq_getElem z]at r;exact Option.some.inj r
    rw[this,List.append_assoc,List.set_append_right _ _ (by simp)];simp
   rw[O]at G;exact G
 ·obtain rfl:i=6:=by omega
  refine⟨y.sub,⟨some ⟨g,0,none⟩,6,6⟩,rfl,Own.bt (V0:=V) ?_ (cod6_b n)⟩;simpa using y
theorem JW(G:BR d m)(hd:Ds.Ok V d)(hm:Mm.Ok V m):Tri xE 42 #[d.v,m.v] V λe V'=>V.sub V'/\∃s:Sl,e=.returned s.v/\Bt V' s (Ai d m):=by
 refine OI ?_;refine Tri.mono (JU G hd hm) ?_;rintro _ V1 ⟨s1,c,rfl,Z,I⟩;have Gc:=Ie G I;have hpl:=H9 G.mem I;have F:=ET Gc.mem;obtain⟨b1,b2,b3⟩:=GK G.valid;have hgl:c.globals.length<=8:=by have:c.globals.length=d.globals.length:=F.gl;omega
 have hnl:c.nodes.length<=4096:=by have:=F.len;simpa [Mm.plain]using this
 have g:∀n∈c.nodes,0<=n.ty/\n.ty<12/\n.f.length<=12/\∀x∈n.f,CM x:=λn hn=>by
  have L:(n.ty,n.f)∈c.plain.2:=wc.2 ⟨n,hn,rfl⟩;obtain⟨t1,t2,t3⟩:=F.ty _ L;have t3:n.f.length=(Bg d n.ty).length:=t3;have:=b3 n.ty;exact⟨t1,by have t2:n.ty<(d.types.length:Int):=t2;omega,by omega,F.fi _ L⟩
 refine⟨_,_,rfl,?_⟩;have hnn:=Z.nodes.n_eq;refine Cz (mk:=λs:Sl=>.slice s.p s.n s.c) (b0:=Ah) AG c.globals.length (λi u V2=>Sx.Own V1 V2 5 1 u (((c.globals.take i).flatMap AA).flatMap AS)) (Own.nil (Mem.sub.refl _) _ _) ?_;intro i u V2 J hi o2 hJ;refine⟨λh=>?_,λhge=>?_⟩
 ·obtain⟨x,a,M,-,hil,Y,R,t⟩:=(Z.globals.sub o2.sub).get h;refine⟨Y,R,h,x,t,Tri.mono (Lw (F.gi x a)) ?_⟩;rintro _ V3 ⟨X,B,rfl,W⟩;refine⟨B,rfl,Ek (s:=u) (u:=B) (xs:=(c.globals.take i).flatMap AA) (ys:=AA x) rfl rfl (Own.growS o2 X) W.rows (by rw[DG,wX,De];omega) λs' V4 N=>⟨s',rfl,Z.globals.succ h,hJ hil _ _ ?_⟩⟩;rw[wh,M,List.flatMap_append];simpa using N
 ·have hd2:=(Z.globals.done hge).2;rw[wH (by omega)]at o2;have hal:(c.globals.flatMap AA).length<=48:=by rw[DG];omega
  refine Tri.mono (Lw (n:=(c.ns.n:Int)) ⟨by omega,by omega⟩) ?_;rintro _ V3 ⟨X,B,rfl,W⟩;refine⟨B,rfl,Ek (s:=u) (u:=B) (xs:=c.globals.flatMap AA) (ys:=AA (c.ns.n:Int)) rfl rfl (Own.growS o2 X) W.rows (by rw[De];omega) λX V3 o3=>?_⟩;rw[hnn]at o3;obtain⟨A,hA⟩:∃A,A=c.globals.flatMap AA++AA (c.nodes.length:Nat):=⟨_,rfl⟩;rw[<-hA]at o3;have hAl:A.length<=54:=by rw[hA,zw,De];omega
  refine⟨X,rfl,?_⟩;have C:∀i,(((c.nodes.take i).map λn=>(n.ty,n.f)).flatMap B1).length<=299008:=λi=>by
   have:=JE ((c.nodes.take i).map λn=>(n.ty,n.f)) λx M=>by
    obtain⟨n,hn,rfl⟩:=wc.1 M;exact(g n (List.mem_of_mem_take hn)).2.2.1
   rw[wq,wX]at this;omega
  refine Cz (mk:=λs:Sl=>.slice s.p s.n s.c) AG c.nodes.length (λi u V4=>Sx.Own V1 V4 5 1 u ((A++((c.nodes.take i).map λn=>(n.ty,n.f)).flatMap B1).flatMap AS)) (by simpa using o3) ?_;intro k u4 V4 J1 hk N hJ1;refine⟨λh=>?_,λE=>?_⟩
  ·have K:=Z.sub N.sub;obtain⟨x,a,M,-,hkl,Y,R,t⟩:=K.nodes.get h;obtain⟨n1,n2,n3,n4⟩:=g x a;refine⟨Y,R,h,Ak Y,x.ty,x.sl,t,λtb htb=>?_⟩;have hprek:=C k;obtain⟨P,hP⟩:∃P,P=A++((c.nodes.take k).map λn=>(n.ty,n.f)).flatMap B1:=⟨_,rfl⟩;have hPl:P.length<=299100:=by rw[hP,zw];omega
   rw[<-hP]at N;have ety:xF .u8 x.ty=x.ty:=by rw[GI];omega
   rw[ety];refine oneB Ek (x:=x.ty) N htb (by omega) rfl rfl (λ_=>rfl) λs5 V5 o5=>⟨s5,rfl,?_⟩;refine Cz (mk:=λs:Sl=>.slice s.p s.n s.c) AG x.f.length (λj u V6=>Sx.Own V1 V6 5 1 u ((P++[x.ty]++(x.f.take j).flatMap AA).flatMap AS)) (by simpa using o5) ?_;intro j u6 V6 J2 hj S hJ2;have hc6:=Z.sub S.sub;have z:=hc6.nodes.at_get M;have Q:=((Z.nodesOk x a).rows).sub S.sub;refine⟨Y,R,h,Ak Y,x.ty,x.sl,z,λr=>?_,λT=>?_⟩
   ·obtain⟨y,hym,hy,-,hjl,hp2,hz2,O⟩:=Q.get r;refine⟨Y,R,h,Ak Y,x.ty,x.sl,z,hp2,hz2,r,y,O,Tri.mono (Lw (n4 y hym)) ?_⟩;rintro _ V7 ⟨s7,U,rfl,hb7⟩;refine⟨U,rfl,Ek (s:=u6) (u:=U) (xs:=P++[x.ty]++(x.f.take j).flatMap AA) (ys:=AA y) rfl rfl (Own.growS S s7) hb7.rows (by rw[zw,zw,DG,wX,De];simp;omega) λs' V8 o8=>⟨s',rfl,Q.succ r,hJ2 hjl _ _ ?_⟩⟩;have e:P++[x.ty]++(x.f.take (j+1)).flatMap AA=P++[x.ty]++(x.f.take j).flatMap AA++AA y:=by
     rw[wh,hy];simp
    rw[e];exact o8
   ·have hd3:=(Q.done T).2;rw[wH (by omega)]at S;refine⟨K.nodes.succ h,hJ1 hkl _ _ ?_⟩;have e:A++((c.nodes.take (k+1)).map λn=>(n.ty,n.f)).flatMap B1=P++[x.ty]++x.f.flatMap AA:=by
     rw[hP,wh,M];simp[B1]
    rw[e];exact S
  ·have hd3:=(Z.nodes.done E).2;rw[wH (by omega)]at N;have e:A++(c.nodes.map λn=>(n.ty,n.f)).flatMap B1=Ai d m:=by
    unfold Ai;rw[<-hpl,hA,BK,Mm.plain];simp only[wq]
   rw[e]at N;exact⟨s1.trans N.sub,u4,rfl,Own.bt N (code_b G)⟩
end
section
variable{V V' D:Mem}{d:Ds}{o l q:Sl}{xs:List (List Int)}{ms:List Mm}
theorem Bn.run{P:Program}{f:FuncId}{args:Array Value}{R:Ending->Mem->Prop}(h:Bn D V o xs)(H:∀U,D.sub U->Tri P f args U λe t=>U.sub t/\R e t):Tri P f args V λe V'=>∃g,D.sub g/\R e g/\Bn g V' o xs:=by
 obtain⟨ss,y,j,r⟩:=h;refine Tri.mono (y.run H) ?_;rintro e V1 ⟨g,z,p,c⟩;exact⟨g,z,p,ss,c,j,λi u x a v=>(r i u x a v).sub z⟩
theorem c9(g:Ds.Ok V d)(hm:CT V l ms):Tri xE 9 #[d.v,l.v] V λe V'=>V=V'/\∃b:Bool,e=.returned (.bool b)/\(b=true->ms.length<=8):=by
 refine x9 ?_;refine Tri.mono (greatC g) ?_;rintro _ V1 ⟨rfl,b,rfl⟩;have f:=hm.rows.n_eq;refine⟨b,rfl,λ_=>⟨rfl,false,rfl,λh=>by cases h⟩,λ_=>⟨λu=>?_,λ_=>⟨rfl,false,rfl,λh=>by cases h⟩⟩⟩;refine Tri.mono (MF (l:=l) (xs:=ms) (first:=[]) (caps:=[]) Tryz.call37 (λ_ V1=>V1=V) (λ_ V1=>V1=V) (λi V1 h=>h▸hm.rows) rfl λi x V1 t h=>?_) ?_
 ·subst h;refine Tri.mono (manyC (hm.ok x (List.mem_of_getElem? t))) ?_;rintro _ V2 ⟨rfl,b,rfl⟩;exact⟨b,rfl,λ_=>rfl,λ_=>rfl⟩
 ·rintro _ V2 (⟨i,rfl,rfl⟩|⟨rfl,rfl⟩);·exact⟨true,rfl,rfl,false,rfl,λh=>by cases h⟩
  ·exact⟨false,rfl,rfl,true,rfl,λ_=>by omega⟩
theorem Pa{m:Mm}{p:Nat}(h:Ds.Ok V d)(hm:Mm.Ok V m)(g:V p=some (.cells d.row.toArray 30 (0,0))):PP 39 [m.v,pv p] V (.bool (!AB d m)):=by
 refine OG ?_;refine⟨d.name,d.ts,d.gs,d.ps,d.ms,d.is,d.qs,d.bs,At g 0 8 (by simp[Ds.row]),?_⟩;exact(JS h hm).call ⟨_,rfl,rfl,rfl⟩
theorem c11(z:Ds.Ok V d)(hm:CT V l ms):PP 11 [d.v,l.v] V (.bool (decide (AL d)&&Cr d ms)):=by
 refine AP.mk (OA ?_);refine(Lv z).call ⟨_,rfl,λt=>?_,λt=>⟨by rw[(Bool.not_eq_true _).mp t];rfl,Mem.sub.refl _⟩⟩;intro b y;have x:Aa (some (⟨b,0,none⟩:Addr)) 0=some ⟨b,0,none⟩:=by simp[Aa,Addr.add]
 simp only[x];generalize g:V.set b _=V2;have u:V.sub V2:=g▸Mem.sub_new y _;have h:V2 b=some (.cells d.row.toArray 30 (0,0)):=by rw[<-g];exact Mem.set_same _ _ _
 have f:=hm.sub u;refine(Ln (l:=l) (first:=[]) (caps:=[pv b]) f.rows Tryz.call39 (λm=>!AB d m) λm hm=>Pa (z.sub u) (f.ok m hm) h).call ⟨_,rfl,?_,u⟩;rw[t];rfl
theorem It(Q:Ds.Ok V d)(hm:CT V l ms)(Y:AL d)(x:Cr d ms=true)(K:ms.length<=100):Tri xE 13 #[d.v,l.v] V λe V'=>∃(o:Sl)(D:Mem),e=.returned o.v/\V.sub D/\Bn D V' o (ms.map (Ai d)):=by
 refine OB ?_;have f:=EU.1 x;have P:=hm.rows.n_eq;refine Cz (mk:=λs:Sl=>.slice s.p s.n s.c) (b0:=Ah) AG ms.length (λi u V1=>∃D,V.sub D/\Bn D V1 u ((ms.take i).map (Ai d))) ⟨V,Mem.sub.refl _,Bn.start V⟩ ?_;rintro i u V1 J S ⟨D,g,t⟩ O;refine⟨λh=>?_,λA=>?_⟩
 ·obtain⟨m,z,j,-,r,I,M,y⟩:=(hm.rows.sub (g.trans t.sub)).get h;refine⟨I,M,h,m.gs,m.ns,y,?_⟩;refine Tri.mono (t.run (R:=λe F=>∃s:Sl,e=.returned s.v/\Bt F s (Ai d m)) λU W=>JW ⟨Y.1,Y.2,f m z⟩ (Q.sub (g.trans W)) ((hm.ok m z).sub (g.trans W))) ?_;rintro _ V2 ⟨L,a,⟨X,rfl,G⟩,B⟩;refine⟨X,rfl,λT N=>Bn.push B G N (by rw[wq,wX];omega) rfl rfl rfl λC V5 E=>⟨C,rfl,(hm.rows.sub (g.trans t.sub)).succ h,O r _ _ ⟨L,g.trans a,?_⟩⟩⟩;rw[wh,j,List.map_append];exact E
 ·have Z:ms.take i=ms:=wH (by omega);rw[Z]at t;exact⟨u,D,rfl,g,t⟩
end
end Go.Proofs
