/- Part 18: no statement of the seat is proved here. -/
import Derived.Test.YtgdmkmfchcflpaaGreatDoorPe08
import Derived.Test.YtgdmkmfchcflpaaGreatDoorPe17
set_option linter.unusedVariables false
set_option linter.unusedSimpArgs false
open Go.Ending renaming returned->xI
open Bool renaming true_and->u7,and_eq_true->zC
open Go.Proofs.Tryz renaming prog->xE
open List renaming getElem?_eq_some_iff->yv,any_eq_true->uw,mem_take_iff_getElem->vf,all_eq_true->z6
open Nat renaming not_lt_zero->wa
open Option renaming none_or->xz
namespace Go.Proofs
open Go Go.Sx
attribute [local irreducible] Go.Sx.Tri
def CntP(V:Mem)(l:List S):Prop:=∀(sl:Sl)(d:Int),Ad V sl 5 (l.map S.row)->(∀x∈l,S.Ok V x)->0<=d->d<=61->PP 129 [sl.v,.int .i64 d] V (.int .i64 (BU d 0 l))
theorem cntP_step{V:Mem}{l:List S}(p:∀x∈l,CntP V x.ls/\CntP V x.xs):CntP V l:=by
 intro sl d z y G P;refine x129 ?_;refine loop3s Ax l.length (λi acc V1=>V1=V/\0<=acc/\acc<=200/\BU d 0 l=BU d acc (l.drop i)) ⟨rfl,by omega,by omega,rfl⟩ ?_;rintro i acc c V1 J O ⟨rfl,N,A,b⟩ I;refine⟨λf=>?_,λj=>?_⟩
 ·obtain⟨x,hm,M,r,F,t,q,k⟩:=z.get f;have k:=S.row_get k;have g:=y x hm;have Z:=g.lRows.n_eq;have Y:=g.xRows.n_eq;rw[r,cntSs_cons]at b;have w:=cntS_eq d acc x;have a:=c164 g;rw[S.v_eq]at a;have bad:cntS d acc x=201->(xI (.int .i64 201)=xI (.int .i64 (BU d 0 l))/\V1=V1):=λh=>by
   grind
  have over:∀n,cntS d acc x=n->200<n->(xI (.int .i64 n)=xI (.int .i64 (BU d 0 l))/\V1=V1):=λn h W=>by
   grind
  have Q:∀n e,cntS d acc x=n->0<=n->¬200<n->J [.int .i64 n,.int .i64 e,.int .i64 ((i:Int)+1)] V1:=λn e h L W=>by
   grind
  refine⟨λu=>bad (by omega),λu=>⟨t,q,f,_,_,_,_,_,k,a.call ⟨_,rfl,λs=>⟨⟨by omega,by omega⟩,λv=>?_,λv=>?_⟩,λs=>bad (by simp_all)⟩⟩⟩
  ·rw[if_neg u,if_pos s,if_pos v]at w;have b1:=HC (d+1) 0 x.ls (by omega) (by omega);have b2:=HC (d+1) 0 x.xs (by omega) (by omega);refine⟨t,q,f,Ak t,_,_,_,_,_,k,⟨by omega,by omega⟩,((p x hm).1 x.ll (d+1) g.lRows g.lOk (by omega) (by omega)).call ⟨_,rfl,⟨by omega,by omega⟩,λH=>?_,λH=>?_⟩⟩
   ·rw[if_pos H]at w;refine⟨t,q,f,Ak t,_,_,_,_,_,k,⟨by omega,by omega⟩,((p x hm).2 x.xl (d+1) g.xRows g.xOk (by omega) (by omega)).call ⟨_,rfl,⟨by omega,by omega⟩,λo=>over _ w o,λo=>⟨z.succ f,Q _ _ w (by omega) o⟩⟩⟩
   grind
  grind
 ·rw[(z.done j).1,cntSs_nil]at b;simp_all
theorem cntP_S(V:Mem):∀s:S,CntP V s.ls/\CntP V s.xs:=by
 intro s;induction s using S.ind with
 |h s k g=>grind[cntP_step]
theorem c129{V:Mem}{l:List S}{sl:Sl}{d:Int}(k:Ad V sl 5 (l.map S.row))(h:∀x∈l,S.Ok V x)(g:0<=d)(f:d<=61):PP 129 [sl.v,.int .i64 d] V (.int .i64 (BU d 0 l)):=
 cntP_step (λx _=>cntP_S V x) sl d k h g f
theorem c128{V:Mem}{s:KB}:PP 128 [.string s] V (.bool (typB s)):=by
 refine x128 ?_;refine⟨λh=>?_,λh=>⟨λk=>?_,λk=>Em.call ⟨_,rfl,?_⟩⟩⟩<;>simp[typB,AD,AR, *]
theorem c131{V:Mem}{s:KB}:PP 131 [.string s] V (.bool (openB s)):=by
 refine x131 ?_;refine⟨λh=>?_,λh=>Em.call ⟨_,rfl,?_⟩⟩<;>simp[openB, *]
theorem JQ{V:Mem}{l:Sl}{xs:List Fld}{n:Int}(f:Ad V l 2 (xs.map Fld.row)):PP 88 [l.v,.int .i64 n] V (.bool (Dm xs n)):=by
 refine OU ?_;have e:=f.n_eq;refine⟨λh=>?_,λh=>?_⟩;·grind[Dm]
 ·have u:(xs.length:Int)<=n:=by omega
  refine Av xs.length (λi V1=>V1=V/\AN fldB xs i) ⟨rfl,AN.zero _ _⟩ ?_;rintro i b V1 J s ⟨rfl,z⟩ r;refine⟨λk=>?_,λw=>?_⟩
  ·obtain⟨x,hm,q,o,p,t,y,g⟩:=f.get k;have j:fldB x=false->(xI (.bool false)=xI (.bool (Dm xs n))/\V1=V1):=λh=>by
    unfold Dm;grind
   refine⟨t,y,k,Ak t,_,_,g,Em.call ⟨_,rfl,λc=>⟨t,y,k,Ak t,_,_,g,c128.call ⟨_,rfl,λa=>⟨f.succ k,r p _ _ ⟨rfl,z.succ q (by simp[fldB, *])⟩⟩,λa=>j (by simp[fldB, *])⟩⟩,λc=>j (by simp[fldB, *])⟩⟩
  ·have:=z.all (f.done w).2;simp[Dm,this,u]
theorem O3{V:Mem}{p:Pr}(h:Pr.Ok V p):PP 89 [p.v] V (.bool (D9 p)):=by
 refine OW ?_;have k:=c129 (d:=1) h.body h.stmts (by omega) (by omega);refine Em.call ⟨_,rfl,λg=>(JQ h.params).call ⟨_,rfl,λf=>(JQ h.locals).call ⟨_,rfl,λt=>⟨λu=>k.call ⟨_,rfl,?_⟩,λu=>c128.call ⟨_,rfl,λw=>k.call ⟨_,rfl,?_⟩,λw=>?_⟩⟩,λt=>?_⟩,λf=>?_⟩,λg=>?_⟩;all_goals simp[D9,<-validSs_cnt, *]
theorem O4{V:Mem}{d:Ds}(h:Ds.Ok V d):PP 90 [d.v] V (.bool (formB d)):=by
 refine OX ?_;generalize a:formB d=X;have key:∀b:Bool,X=b->(xI (.bool b)=xI (.bool X)/\V=V):=λn h=>by simp_all
 unfold formB at a;refine Av d.measures.length (λi V1=>V=V1/\AN Ea d.measures i) ⟨rfl,AN.zero _ _⟩ ?_;rintro i b V1 J p ⟨rfl,w⟩ y;refine⟨λk=>?_,λt=>?_⟩
 ·obtain⟨x,hm,j,l,r,f,z,g⟩:=h.measures.get k;have u:Ea x=false->X=false:=λh=>by grind
  refine⟨f,z,k,_,_,_,_,_,_,_,g,Em.call ⟨_,rfl,λc=>Em.call ⟨_,rfl,λq=>⟨λe=>key _ (u ?_),λe=>⟨λs=>key _ (u ?_),λs=>(c130 (h.measuresOk x hm).x).call ⟨_,rfl,λo=>⟨h.measures.succ k,y r _ _ ⟨rfl,w.succ j ?_⟩⟩,λo=>key _ (u ?_)⟩⟩⟩,λq=>key _ (u ?_)⟩,λc=>key _ (u ?_)⟩⟩
  ·have:¬(-1099511627776<=x.nil/\x.nil<=1099511627776):=by omega
   simp[Ea, *]
  ·have:¬(-1099511627776<=x.nil/\x.nil<=1099511627776):=by omega
   simp[Ea, *]
  ·have:(-1099511627776<=x.nil/\x.nil<=1099511627776):=by omega
   simp[Ea, *]
  all_goals simp[Ea, *]
 have H:=w.all (h.measures.done t).2;refine Av d.invs.length (λi V1=>V=V1/\AN FT d.invs i) ⟨rfl,AN.zero _ _⟩ ?_;rintro i b V1 J p ⟨rfl,w⟩ y;refine⟨λk=>?_,λt=>?_⟩
 ·obtain⟨x,hm,j,l,r,f,z,g⟩:=h.invs.get k;have u:FT x=false->X=false:=λh=>by rw[<-a,all_false hm (by rw[h];simp)];simp
  refine⟨f,z,k,Ak f,_,_,_,_,_,_,g,Em.call ⟨_,rfl,λc=>⟨f,z,k,Ak f,_,_,_,_,_,_,g,c131.call ⟨_,rfl,λq=>⟨f,z,k,Ak f,_,_,_,_,_,_,g,(c130 (h.invsOk x hm)).call ⟨_,rfl,λo=>⟨h.invs.succ k,y r _ _ ⟨rfl,w.succ j ?_⟩⟩,λo=>key _ (u ?_)⟩⟩,λq=>key _ (u ?_)⟩⟩,λc=>key _ (u ?_)⟩⟩;all_goals simp[FT, *]
 have G:=w.all (h.invs.done t).2;refine Av d.pots.length (λi V1=>V=V1/\AN FU d.pots i) ⟨rfl,AN.zero _ _⟩ ?_;rintro i b V1 J p ⟨rfl,w⟩ y;refine⟨λk=>?_,λt=>?_⟩
 ·obtain⟨x,hm,j,l,r,f,z,g⟩:=h.pots.get k;have u:FU x=false->X=false:=λh=>by grind
  refine⟨f,z,k,Ak f,_,_,_,_,_,g,c131.call ⟨_,rfl,λq=>⟨f,z,k,Ak f,_,_,_,_,_,g,(c130 (h.potsOk x hm)).call ⟨_,rfl,λo=>⟨h.pots.succ k,y r _ _ ⟨rfl,w.succ j ?_⟩⟩,λo=>key _ (u ?_)⟩⟩,λq=>key _ (u ?_)⟩⟩;all_goals simp[FU, *]
 have N:=w.all (h.pots.done t).2;refine Av d.bounds.length (λi V1=>V=V1/\AN FV d.bounds i) ⟨rfl,AN.zero _ _⟩ ?_;rintro i b V1 J p ⟨rfl,w⟩ y;refine⟨λk=>?_,λt=>?_⟩
 ·obtain⟨x,hm,j,l,r,f,z,g⟩:=h.bounds.get k;have u:FV x=false->X=false:=λh=>by grind
  refine⟨f,z,k,Ak f,_,_,_,_,_,g,Em.call ⟨_,rfl,λq=>⟨f,z,k,Ak f,_,_,_,_,_,g,(c130 (h.boundsOk x hm)).call ⟨_,rfl,λo=>⟨h.bounds.succ k,y r _ _ ⟨rfl,w.succ j ?_⟩⟩,λo=>key _ (u ?_)⟩⟩,λq=>key _ (u ?_)⟩⟩;all_goals simp[FV, *]
 have Z:=w.all (h.bounds.done t).2;simp_all
theorem Lt{V:Mem}{d:Ds}(h:Ds.Ok V d):PP 61 [d.v] V (.bool (BX d)):=by
 refine OL ?_;have W:=h.measures.n_eq;have Q:=h.invs.n_eq;have P:=h.pots.n_eq;have O:=h.bounds.n_eq;have A:=h.types.n_eq;have n6:=h.procs.n_eq;generalize q:BX d=X;have key:∀b:Bool,X=b->(xI (.bool b)=xI (.bool X)/\V=V):=λn h=>by simp_all
 unfold BX at q;have f:lensB d=false->X=false:=λh=>by simp_all
 refine Em.call ⟨_,rfl,λj=>⟨λs=>key _ ?_,λs=>(JQ h.globals).call ⟨_,rfl,λe=>⟨λH=>key _ ?_,λH=>⟨λt=>key _ (f ?_),λt=>⟨λG=>key _ (f ?_),λG=>⟨λN=>key _ (f ?_),λN=>⟨λZ=>key _ (f ?_),λZ=>?_⟩⟩⟩⟩⟩,λe=>key _ ?_⟩⟩,λj=>key _ ?_⟩;·grind
 ·grind
 ·exact decide_eq_false (by omega)
 ·exact decide_eq_false (by omega)
 ·exact decide_eq_false (by omega)
 ·exact decide_eq_false (by omega)
 ·have z:lensB d=true:=decide_eq_true (by omega);rw[j,decide_eq_true (p:=(d.types.length:Int)<=12) (by omega),e,decide_eq_true (p:=(d.procs.length:Int)<=40) (by omega),z]at q;simp only[u7]at q;refine Av d.types.length (λi V1=>V=V1/\AN EI d.types i) ⟨rfl,AN.zero _ _⟩ ?_;rintro i b V1 J Y ⟨rfl,y⟩ o;refine⟨λk=>?_,λu=>?_⟩
  ·obtain⟨x,hm,c,a,z,w,l,g⟩:=h.types.get k;have r:EI x=false->X=false:=λh=>by grind
   refine⟨w,l,k,Ak w,_,_,g,Em.call ⟨_,rfl,λj=>⟨w,l,k,Ak w,_,_,g,(JQ (h.typesOk x hm).fields).call ⟨_,rfl,λt=>⟨h.types.succ k,o z _ _ ⟨rfl,y.succ c ?_⟩⟩,λt=>key _ (r ?_)⟩⟩,λj=>key _ (r ?_)⟩⟩;all_goals simp[EI, *]
  have I:=y.all (h.types.done u).2;refine Av d.procs.length (λi V1=>V=V1/\AN D9 d.procs i) ⟨rfl,AN.zero _ _⟩ ?_;rintro i b V1 J Y ⟨rfl,y⟩ o;refine⟨λk=>?_,λu=>?_⟩
  ·obtain⟨x,hm,c,a,z,w,l,g⟩:=h.procs.get k;have r:D9 x=false->X=false:=λh=>by grind
   exact⟨w,l,k,_,_,_,_,_,g,(O3 (h.procsOk x hm)).call ⟨_,rfl,λt=>⟨h.procs.succ k,o z _ _ ⟨rfl,y.succ c t⟩⟩,λt=>key _ (r (eq_false_of_ne_true t))⟩⟩
  have M:=y.all (h.procs.done u).2;refine(O4 h).call ⟨_,rfl,key _ ?_⟩;simp_all
 ·simp_all
 simp_all
theorem HD{V:Mem}{d:Ds}(h:Ds.Ok V d){s:KB}:PP 93 [d.v,.string s] V (.int .i64 (CY (λt=>decide (t.name=s)) d.types)):=by
 refine O1 ?_;refine Av d.types.length (λi V1=>V=V1/\AN (λt=>!decide (t.name=s)) d.types i) ⟨rfl,AN.zero _ _⟩ ?_;rintro i b V1 J q ⟨rfl,f⟩ j;refine⟨λk=>?_,λu=>?_⟩
 ·obtain⟨x,hm,z,l,n,y,r,g⟩:=h.types.get k;refine⟨y,r,k,Ak y,_,_,g,λw=>?_,λw=>⟨h.types.succ k,j n _ _ ⟨rfl,He (p:=λt=>decide (t.name=s)) f z (decide_eq_false w)⟩⟩⟩;rw[Hc (p:=λt=>decide (t.name=s)) f z (decide_eq_true w)];simp_all
 ·rw[Hd (p:=λt=>decide (t.name=s)) f (h.types.done u).2];exact⟨rfl,rfl⟩
theorem c168{V:Mem}{d:Ds}(h:Ds.Ok V d){s:KB}:PP 168 [d.v,.string s] V (.int .i64 (CY (λt=>decide (t.name=s)) d.procs)):=by
 refine x168 ?_;refine Av d.procs.length (λi V1=>V=V1/\AN (λt=>!decide (t.name=s)) d.procs i) ⟨rfl,AN.zero _ _⟩ ?_;rintro i b V1 J q ⟨rfl,f⟩ j;refine⟨λk=>?_,λu=>?_⟩
 ·obtain⟨x,hm,z,l,n,y,r,g⟩:=h.procs.get k;refine⟨y,r,k,Ak y,_,_,_,_,_,g,λw=>?_,λw=>⟨h.procs.succ k,j n _ _ ⟨rfl,He (p:=λt=>decide (t.name=s)) f z (decide_eq_false w)⟩⟩⟩;rw[Hc (p:=λt=>decide (t.name=s)) f z (decide_eq_true w)];simp_all
 ·rw[Hd (p:=λt=>decide (t.name=s)) f (h.procs.done u).2];exact⟨rfl,rfl⟩
theorem c170{V:Mem}{d:Ds}(h:Ds.Ok V d){s:KB}:PP 170 [d.v,.string s] V (.int .i64 (CY (λt=>decide (t.name=s)) d.measures)):=by
 refine x170 ?_;refine Av d.measures.length (λi V1=>V=V1/\AN (λt=>!decide (t.name=s)) d.measures i) ⟨rfl,AN.zero _ _⟩ ?_;rintro i b V1 J q ⟨rfl,f⟩ j;refine⟨λk=>?_,λu=>?_⟩
 ·obtain⟨x,hm,z,l,n,y,r,g⟩:=h.measures.get k;refine⟨y,r,k,Ak y,_,_,_,_,_,_,_,g,λw=>?_,λw=>⟨h.measures.succ k,j n _ _ ⟨rfl,He (p:=λt=>decide (t.name=s)) f z (decide_eq_false w)⟩⟩⟩;rw[Hc (p:=λt=>decide (t.name=s)) f z (decide_eq_true w)];simp_all
 ·rw[Hd (p:=λt=>decide (t.name=s)) f (h.measures.done u).2];exact⟨rfl,rfl⟩
section
variable{V:Mem}{d:Ds}
theorem c171(h:Ds.Ok V d){s:KB}:PP 171 [d.v,.string s] V (.bool (Ck d s)):=by
 refine x171 ?_;refine(HD h).call ⟨_,rfl,?_⟩;rcases Dn (λt:Ty=>decide (t.name=s)) d.types with⟨k,f,g⟩|⟨i,x,k,f,g,w,z,y,u,_⟩;·rw[k,Ck,g];exact⟨rfl,rfl⟩
 ·rw[k,Ck,u,decide_eq_true (by omega)];exact⟨rfl,rfl⟩
theorem c169(h:Ds.Ok V d){s:KB}:PP 169 [d.v,.string s] V (.bool (Cd d s)):=by
 refine x169 ?_;refine⟨λk=>?_,λk=>⟨λg=>?_,λg=>(c171 h).call ⟨_,rfl,?_⟩⟩⟩<;>simp[Cd,AD,AR, *]
theorem c218(h:Ds.Ok V d){s t:KB}:PP 218 [d.v,.string s,.string t] V (.bool (CL d s t)):=by
 refine x218 ?_;unfold CL sNil;refine⟨λk=>?_,λk=>⟨λg=>(c171 h).call ⟨_,rfl,?_⟩,λg=>?_⟩⟩;·simp_all
 ·simp_all
 simp_all
theorem c217{l:Sl}{xs:List Fld}(h:Ad V l 2 (xs.map Fld.row)){s:KB}:PP 217 [l.v,.string s] V (.string (CG xs s)):=by
 refine x217 ?_;refine Av xs.length (λi V1=>V=V1/\CG xs s=CG (xs.drop i) s) ⟨rfl,rfl⟩ ?_;rintro i b V1 J r ⟨rfl,w⟩ y;refine⟨λk=>?_,λt=>?_⟩
 ·obtain⟨x,hm,q,u,j,f,z,g⟩:=h.get k;rw[u,CG]at w;refine⟨f,z,k,Ak f,_,_,g,λn=>⟨f,z,k,Ak f,_,_,g,?_⟩,λn=>⟨h.succ k,y j _ _ ⟨rfl,?_⟩⟩⟩;·simp_all
  simp_all
 ·rw[w,(h.done t).1];exact⟨rfl,rfl⟩
theorem c219(h:Ds.Ok V d){s t:KB}:PP 219 [d.v,.string s,.string t] V (.tuple #[.string (E5 d s t).1,.int .i64 (E5 d s t).2]):=by
 refine x219 ?_;refine(HD h).call ⟨_,rfl,?_⟩;unfold E5 tyOf;rcases Dn (λt:Ty=>decide (t.name=s)) d.types with⟨f,u,w⟩|⟨i,x,f,u,w,p,c,l,b,_⟩;·rw[f,u];exact⟨λ_=>⟨rfl,rfl⟩,λh=>absurd h (by decide)⟩
 ·rw[f,w];have a:=h.types.n_eq;have k:(i:Int)<(d.ts.n:Int):=by omega
  obtain⟨y,hm,z,r,e,j,q,g⟩:=h.types.get k;rw[u]at z;cases z;refine⟨λh=>absurd h (by omega),λ_=>⟨j,q,k,Ak j,_,_,g,(c217 (h.typesOk x l).fields).call ⟨_,rfl,λo=>?_,λo=>?_⟩⟩⟩;·grind[sE]
  grind[sE]
theorem c244{b:Bool}{s:KB}:PP 244 [.bool b,.string s] V (.tuple #[.string (Db b s).1,.int .i64 (Db b s).2]):=by
 refine x244 ?_;refine⟨λh=>?_,λh=>?_⟩;·unfold Db;rw[if_pos h];exact⟨rfl,rfl⟩
 ·unfold Db;rw[if_neg h];exact⟨rfl,rfl⟩
theorem c245{l:Sl}{xs:List KB}(h:Ad V l 1 (xs.map CD)){s:KB}:PP 245 [l.v,.string s] V (.bool (allT xs s)):=by
 refine x245 ?_;refine Av xs.length (λi V1=>V=V1/\AN (λx=>decide (x=s)) xs i) ⟨rfl,AN.zero _ _⟩ ?_;rintro i b V1 J q ⟨rfl,t⟩ w;refine⟨λk=>?_,λf=>?_⟩
 ·obtain⟨x,hm,z,y,j,n,r,g⟩:=h.get k;refine⟨n,r,k,_,g,λu=>⟨h.succ k,w j _ _ ⟨rfl,t.succ z (decide_eq_true u)⟩⟩,λu=>?_⟩;unfold allT;grind
 ·unfold allT;rw[t.all (h.done f).2];simp_all
theorem c215(h:Ds.Ok V d){s:KB}{l:Sl}{xs:List KB}(p:Ad V l 1 (xs.map CD)):PP 215 [d.v,.string s,l.v] V (.tuple #[.string (Fo d s xs).1,.int .i64 (Fo d s xs).2]):=by
 refine x215 ?_;refine(c168 h).call ⟨_,rfl,?_⟩;unfold Fo BI;rcases Dn (λt:Pr=>decide (t.name=s)) d.procs with⟨e,H,P⟩|⟨i,x,e,H,P,T,U,I,h7,_⟩;·rw[e,H];exact⟨λ_=>⟨rfl,rfl⟩,λh=>absurd h (by decide)⟩
 ·rw[e,P];have hn:=h.procs.n_eq;have k:(i:Int)<(d.ps.n:Int):=by omega
  obtain⟨y,hm,O,M,F,L,R,z⟩:=h.procs.get k;rw[H]at O;cases O;have r:=h.procsOk x I;have e1:=p.n_eq;have e2:=r.params.n_eq;refine⟨λh=>absurd h (by omega),λ_=>⟨L,R,k,_,_,_,_,_,z,λX=>?_,λX=>?_⟩⟩
  ·have g:xs.length=x.params.length:=by omega
   simp only[g,ne_eq,not_true_eq_false,if_false];refine Da xs.length (λi V1=>V=V1/\E6 d xs x.params=E6 d (xs.drop i) (x.params.drop i)) ⟨rfl,rfl⟩ ?_;rintro j b c V1 J hi ⟨rfl,a⟩ B;refine⟨λk=>?_,λG=>?_⟩
   ·obtain⟨y,C,D,q,N,Z,Y,u⟩:=p.get k;obtain⟨f,E,K,W,S,o,Q,w⟩:=r.params.get (i:=j) (by omega);rw[q,W,E6]at a;refine⟨Z,Y,k,_,u,o,Q,by omega,Ak o,_,_,w,(c218 h).call ⟨_,rfl,λA=>⟨p.succ k,B N _ _ _ ⟨rfl,?_⟩⟩,λA=>?_⟩⟩;·simp_all
    ·rw[eq_false_of_ne_true A,Bool.false_and]at a;rw[a];exact⟨rfl,rfl⟩
   ·rw[(p.done G).1,L9]at a;simp_all
  ·have g:¬xs.length=x.params.length:=by omega
   simp only[ne_eq,g,not_false_eq_true,if_true];exact⟨by rfl,by simp_all⟩
theorem c243(h:Ds.Ok V d){sl:Sl}{sc:Sc}{s:KB}{l:Sl}{xs:List KB}(z:Ad V l 1 (xs.map CD)):
  PP 243 [d.v,.agg #[sl.v,.bool sc.body],.string s,l.v] V (.tuple #[.string (Fq d sc s xs).1,.int .i64 (Fq d sc s xs).2]):=by
 refine x243 ?_;refine⟨λf=>(c215 h z).call ⟨_,_,rfl,λj=>⟨λk=>?_,λk=>?_⟩,λj=>?_⟩,λf=>?_⟩;·unfold Fq sE;rw[if_pos f,if_pos ⟨j,k⟩];exact⟨rfl,rfl⟩
 ·unfold Fq sE;rw[if_pos f,if_neg (λh=>k h.2)];exact⟨rfl,rfl⟩
 ·unfold Fq;rw[if_pos f,if_neg (λh=>j h.1)];exact⟨rfl,rfl⟩
 ·unfold Fq;rw[if_neg f];refine(c170 h).call ⟨_,rfl,?_⟩;unfold Fp meOf;rcases Dn (λt:Ms=>decide (t.name=s)) d.measures with⟨k,r,q⟩|⟨i,x,k,r,q,G,N,Z,Y,_⟩;·rw[k,r];exact⟨λ_=>⟨rfl,rfl⟩,λh=>absurd h (by decide)⟩
  ·rw[k,q];have W:=h.measures.n_eq;have u:(i:Int)<(d.ms.n:Int):=by omega
   obtain⟨y,hm,o,c,b,p,a,w⟩:=h.measures.get u;rw[r]at o;cases o;have Q:=z.n_eq;refine⟨λh=>absurd h (by omega),λ_=>⟨λe=>?_,λe=>?_⟩⟩
   ·have g:xs.length=1:=by omega
    obtain⟨H,P,J⟩:=Eu z (i:=0) (by omega);simp only[g,ne_eq,not_true_eq_false,if_false];exact⟨H,by omega,by omega,_,J,p,a,u,Ak p,_,_,_,_,_,_,_,w,(c218 h).call ⟨_,rfl,c244.call ⟨_,_,rfl,rfl,rfl⟩⟩⟩
   ·have g:¬xs.length=1:=by omega
    simp only[ne_eq,g,not_false_eq_true,if_true];exact⟨by rfl,by simp_all⟩
end
def HE(sl:Sl)(sc:Sc):Value:=.agg #[sl.v,.bool sc.body]
section
variable{V:Mem}{d:Ds}{sc:Sc}{sl:Sl}
def RefE(V:Mem)(d:Ds)(sl:Sl)(sc:Sc)(e:E):Prop:=∀V1,V.sub V1->PP 216 [d.v,HE sl sc,e.v] V1 (.tuple #[.string (CX d sc e).1,.int .i64 (CX d sc e).2])
theorem refParts(e:E)(G:E.Ok V e)(H:(e.k.length:Int)<=6)(N:∀x∈e.k,RefE V d sl sc x):
  Tri xE 214 #[d.v,HE sl sc,e.v] V λr V'=>∃s':Sl,r=.returned (.tuple #[.slice s'.p s'.n s'.c,.int .i64 (partsT d sc [] e.k).2])/\V.sub V'/\Ad V' s' 1 ((partsT d sc [] e.k).1.map CD):=by
 have Z:=G.rows;refine x214 ?_;refine loop4s (mk:=λs:Sl=>.slice s.p s.n s.c) (mc:=.int .i64) (md:=λs:Sl=>.slice s.p s.n s.c) ⟨none,0,0⟩ 0 ⟨none,0,0⟩ AG e.k.length (λi s V1=>∃acc,Own V V1 9 1 s (acc.flatMap CD)/\partsT d sc [] e.k=partsT d sc acc (e.k.drop i)/\acc.length=i) ⟨[],Own.nil (Mem.sub.refl _) _ _,rfl,rfl⟩ ?_;rintro i b c s V1 J O ⟨acc,g,f,t⟩ Y;have w:=Z.sub g.sub;refine⟨λz=>?_,λj=>?_⟩
 ·obtain⟨x,hm,A,l,W,q,Q,y⟩:=w.get z;rw[l,Hb]at f;refine⟨q,Q,z,_,_,_,_,y,(N x hm V1 g.sub).call ⟨_,_,rfl,λo=>?_,λo=>?_⟩⟩
  ·intro b1 a;rw[if_neg (λh=>h o)]at f;refine app229 (s:=s) (u:=⟨some ⟨b1,0,none⟩,1,1⟩) (xs:=acc) (ys:=[(CX d sc x).1]) rfl rfl (g.new a _) (HX As) (by simp;omega) λs' V' P=>⟨s',rfl,w.succ z,Y W _ _ _ _ ⟨_,P,f,by simp[t]⟩⟩
  ·rw[if_pos o]at f;exact⟨⟨none,0,0⟩,by rw[f],g.sub,by rw[f];exact Ad.nil⟩
 ·rw[(w.done j).1,HV]at f;exact⟨s,by rw[f],g.sub,by grind[ownS]⟩
set_option maxRecDepth 4000 in
theorem refExpr(hd:Ds.Ok V d)(R:Ad V sl 2 (sc.vars.map Fld.row)):∀(e:E),E.Ok V e->∀B,CA B e=true->RefE V d sl sc e:=by
 intro e;induction e using E.ind with
 |h e ih=>
 intro he B O V1 L;have v:=arity (HW O);have hk:∀x∈e.k,RefE V1 d sl sc x:=λx C V2 h2=>ih x C (he.kids x C) (B+1) (I3 O x C) V2 (L.trans h2);refine AP.mk (x216 ?_);refine Tri.mono (refParts e (he.sub L) v.2.2.2 hk) ?_;rintro _ V2 ⟨s',rfl,H,g⟩;rw[Kq];have p:=Kr d sc e.k [];generalize hPT:partsT d sc [] e.k=pt at g p;obtain⟨l,f⟩:=pt;refine⟨s',f,rfl,λz=>?_,λz=>?_⟩
 ·subst z;have p:l.length=e.k.length:=by simp_all
  simp only[ne_eq,not_true_eq_false,if_false];have q:=hd.sub (L.trans H);have A:=R.sub (L.trans H);generalize w:Fs d sc e.op e.s l=X;have key:∀a b,X=(a,b)->(xI (.tuple #[.string a,.int .i64 b])=xI (.tuple #[.string X.1,.int .i64 X.2])/\V1.sub V2):=λa b h=>by simp_all
  have i:=λt=>c245 g (s:=t);have u:=λa b=>c218 q (s:=a) (t:=b);have J:=λh:0<l.length=>Eu g h;have at1:=λh:1<l.length=>Eu g h;have at2:=λh:2<l.length=>Eu g h;unfold Fs at w;refine⟨λy=>key _ _ ?_,λy=>⟨λj=>key _ _ ?_,λj=>⟨λn=>key _ _ ?_,λn=>⟨λr=>?_,λr=>⟨λo=>?_,λo=>⟨λc=>?_,λc=>⟨λG=>?_,λG=>⟨λD=>?_,λD=>⟨λK=>?_,λK=>⟨λS=>?_,λS=>⟨λT=>?_,λT=>⟨λU=>?_,λU=>⟨λo19=>?_,λo19=>⟨λo20=>?_,λo20=>⟨λN=>?_,λN=>?_⟩⟩⟩⟩⟩⟩⟩⟩⟩⟩⟩⟩⟩⟩⟩;·rw[<-w,if_pos y];rfl
  ·rw[<-w,if_neg y,if_pos j];rfl
  ·rw[<-w,if_neg y,if_neg j,if_pos n];rfl
  ·rw[if_neg y,if_neg j,if_neg n,if_pos r]at w;refine(c217 A).call ⟨_,rfl,λh=>key _ _ ?_,λh=>key _ _ ?_⟩;·grind[CG,sE]
   grind[CG,sE]
  ·rw[if_neg y,if_neg j,if_neg n,if_neg r,if_pos o]at w;obtain⟨Z,Y,W⟩:=J (by omega);exact⟨Z,by omega,Y,_,W,(c219 q).call ⟨_,_,rfl,key _ _ (by rw[<-w])⟩⟩
  ·rw[if_neg y,if_neg j,if_neg n,if_neg r,if_neg o,if_pos c]at w;refine⟨λhb=>(c171 q).call ⟨_,rfl,λP=>key _ _ ?_,λP=>key _ _ ?_⟩,λhb=>key _ _ ?_⟩;·simp_all
   ·rw[<-w,if_neg (by rw[hb];simp),if_pos (eq_false_of_ne_true P)];rfl
   ·rw[<-w,if_pos (eq_false_of_ne_true hb)];rfl
  ·rw[if_neg y,if_neg j,if_neg n,if_neg r,if_neg o,if_neg c,if_pos G]at w;exact(c243 q (sl:=sl) g).call ⟨_,_,rfl,key _ _ (by rw[<-w])⟩
  iterate 2
   ·rw[if_neg y,if_neg j,if_neg n,if_neg r,if_neg o,if_neg c,if_neg G,if_pos (by omega)]at w;obtain⟨Z,Y,W⟩:=J (by have:=v.2.1 (by omega);omega);obtain⟨b1,b2,b3⟩:=at1 (by have:=v.2.1 (by omega);omega);refine⟨Z,by omega,Y,_,W,b1,by omega,b2,_,b3,(u _ _).call ⟨_,rfl,λh=>c244.call ⟨_,_,rfl,key _ _ ?_⟩,λh=>⟨b1,by omega,b2,_,b3,Z,by omega,Y,_,W,(u _ _).call ⟨_,rfl,c244.call ⟨_,_,rfl,key _ _ ?_⟩⟩⟩⟩⟩;·rw[<-w,h];rfl
    ·rw[<-w,eq_false_of_ne_true h];rfl
  iterate 2
   ·rw[if_neg y,if_neg j,if_neg n,if_neg r,if_neg o,if_neg c,if_neg G,if_neg (by omega),if_pos (by omega)]at w;exact(i _).call ⟨_,rfl,c244.call ⟨_,_,rfl,key _ _ (by rw[<-w];rfl)⟩⟩
  iterate 3
   ·rw[if_neg y,if_neg j,if_neg n,if_neg r,if_neg o,if_neg c,if_neg G,if_neg (by omega),if_neg (by omega),if_pos (by omega)]at w;exact(i _).call ⟨_,rfl,c244.call ⟨_,_,rfl,key _ _ (by rw[<-w];rfl)⟩⟩
  ·rw[if_neg y,if_neg j,if_neg n,if_neg r,if_neg o,if_neg c,if_neg G,if_neg (by omega),if_neg (by omega),if_neg (by omega),if_pos N]at w;obtain⟨Z,Y,W⟩:=J (by omega);obtain⟨b1,b2,b3⟩:=at1 (by omega);obtain⟨I,M,c3⟩:=at2 (by omega);have F:∀t,(if l.getD 1 sE=sNil then l.getD 2 sE else l.getD 1 sE)=t ->
     (l.getD 0 sE=AR->CL d (l.getD 1 sE) (l.getD 2 sE)=true->X=Db true t)/\(l.getD 0 sE=AR->¬CL d (l.getD 1 sE) (l.getD 2 sE)=true->X=Db (CL d (l.getD 2 sE) (l.getD 1 sE)) t)/\(¬l.getD 0 sE=AR->X=Db false t):=λt ht=>by
    grind
   refine⟨b1,by omega,b2,_,b3,λP=>?_,λP=>?_⟩
   ·have Q:=F _ (if_pos P);refine⟨I,by omega,M,_,c3,Z,by omega,Y,_,W,λz=>⟨b1,by omega,b2,_,b3,I,by omega,M,_,c3,(u _ _).call ⟨_,rfl,λh=>c244.call ⟨_,_,rfl,key _ _ ?_⟩,λh=>⟨I,by omega,M,_,c3,b1,by omega,b2,_,b3,(u _ _).call ⟨_,rfl,c244.call ⟨_,_,rfl,key _ _ ?_⟩⟩⟩⟩⟩,λz=>c244.call ⟨_,_,rfl,key _ _ ?_⟩⟩;·exact Q.1 z h
    ·exact Q.2.1 z h
    ·exact Q.2.2 z
   ·have Q:=F _ (if_neg P);refine⟨Z,by omega,Y,_,W,λz=>⟨b1,by omega,b2,_,b3,I,by omega,M,_,c3,(u _ _).call ⟨_,rfl,λh=>c244.call ⟨_,_,rfl,key _ _ ?_⟩,λh=>⟨I,by omega,M,_,c3,b1,by omega,b2,_,b3,(u _ _).call ⟨_,rfl,c244.call ⟨_,_,rfl,key _ _ ?_⟩⟩⟩⟩⟩,λz=>c244.call ⟨_,_,rfl,key _ _ ?_⟩⟩;·exact Q.1 z h
    ·exact Q.2.1 z h
    ·exact Q.2.2 z
  ·rw[if_neg y,if_neg j,if_neg n,if_neg r,if_neg o,if_neg c,if_neg G,if_neg (by omega),if_neg (by omega),if_neg (by omega),if_neg N]at w;exact(i _).call ⟨_,rfl,c244.call ⟨_,_,rfl,key _ _ (by rw[<-w];rfl)⟩⟩
 ·simp only[ne_eq,z,not_false_eq_true,if_true];exact⟨rfl,H⟩
end
theorem one_fld{V:Mem}{b:Nat}{f:Fld}{t:Nat}(h:V b=some (.cells #[.string f.name,.string f.ty] t (0,0))):Ad V ⟨some ⟨b,0,none⟩,1,1⟩ 2 ([f].map Fld.row):=
 Ad.cells (xs:=[f]) (row:=Fld.row) h rfl (λ_=>rfl) rfl (by simp)
section
variable{V:Mem}{d:Ds}
theorem refInProc(x:Ds.Ok V d){p:Pr}(h:Pr.Ok V p)(i:d.globals.length<=1000)(l:p.params.length<=1000/\p.locals.length<=1000):
  Tri xE 213 #[d.v,p.v] V λr V'=>∃s':Sl,r=.returned (HE s' (Cm d p))/\V.sub V'/\Ad V' s' 2 ((Cm d p).vars.map Fld.row):=by
 refine x213 ?_;intro b j;have k:=Mem.sub_new j (.cells #[] 108 (0,0));refine EK (s:=⟨some ⟨b,0,none⟩,0,0⟩) (u:=p.ps) (xs:=[]) (ys:=p.params) rfl rfl (Own.empty k _ _ _) (h.params.sub k) (by grind) λg V1 f=>⟨g,rfl,?_⟩;refine EK (s:=g) (u:=p.ls) (xs:=p.params) (ys:=p.locals) rfl rfl f (h.locals.sub f.sub) (by omega) λt V2 w=>⟨t,rfl,?_⟩;refine EK (s:=t) (u:=d.gs) (xs:=p.params++p.locals) (ys:=d.globals) rfl rfl w (x.globals.sub w.sub) (by grind) λz n y=>⟨z,rfl,?_⟩;exact⟨z,rfl,y.sub,ownF y⟩
theorem refInBound(w:Ds.Ok V d){p:Pr}(z:Pr.Ok V p)(x:d.globals.length<=1000)(j:p.params.length<=1000/\p.locals.length<=1000):
  Tri xE 175 #[d.v,p.v] V λr V'=>∃s':Sl,r=.returned (HE s' (DP d p))/\V.sub V'/\Ad V' s' 2 ((DP d p).vars.map Fld.row):=by
 refine x175 ?_;intro b y;have h:=Mem.sub_new y (.cells #[] 108 (0,0));refine EK (s:=⟨some ⟨b,0,none⟩,0,0⟩) (u:=p.ps) (xs:=[]) (ys:=p.params) rfl rfl (Own.empty h _ _ _) (z.params.sub h) (by grind) λk V1 g=>⟨k,rfl,?_⟩;refine EK (s:=k) (u:=d.gs) (xs:=p.params) (ys:=d.globals) rfl rfl g (w.globals.sub g.sub) (by omega) λf i t=>⟨f,rfl,?_⟩;exact⟨f,rfl,t.sub,ownF t⟩
theorem Lu(f:Ds.Ok V d){t:KB}(j:d.globals.length<=1000):
  Tri xE 174 #[d.v,.string t] V λr V'=>∃s':Sl,r=.returned (HE s' (Bf d t))/\V.sub V'/\Ad V' s' 2 ((Bf d t).vars.map Fld.row):=by
 refine x174 ?_;refine⟨λg=>?_,λg=>?_⟩
 ·refine EK (s:=⟨none,0,0⟩) (u:=d.gs) (xs:=[]) (ys:=d.globals) rfl rfl (Own.nil (Mem.sub.refl V) _ _) f.globals (by grind) λh V1 k=>⟨h,rfl,?_⟩;refine⟨h,rfl,k.sub,?_⟩;unfold Bf sE;rw[if_pos g];exact ownF k
 ·intro b y;have x:=Mem.sub_new y (.cells #[.string (Ac [116,104,105,115]),.string t] 108 (0,0));refine EK (s:=⟨none,0,0⟩) (u:=⟨some ⟨b,0,none⟩,1,1⟩) (xs:=[]) (ys:=[⟨sThisF,t⟩]) rfl rfl (Own.nil x _ _) (one_fld As) (by simp) λh V1 k=>⟨h,rfl,?_⟩;refine EK (s:=h) (u:=d.gs) (xs:=[⟨sThisF,t⟩]) (ys:=d.globals) rfl rfl k (f.globals.sub k.sub) (by grind) λw V2 z=>⟨w,rfl,?_⟩;refine⟨w,rfl,z.sub,?_⟩;unfold Bf sE;rw[if_neg g];exact ownF z
theorem c172(hd:Ds.Ok V d){p:Pr}(hp:Pr.Ok V p)(h1:d.globals.length<=1000)(h2:p.params.length<=1000/\p.locals.length<=1000){x:S}(C:S.Ok V x)(hs:Dl x.op x.s x.es x.ls.length x.xs.length=true):
  PP 172 [d.v,p.v,x.v] V (.int .i64 (Es d (Cm d p) p.result x.op x.s x.es)):=by
 obtain⟨a6,a134,a2,a5,alen,Q⟩:=Ma hs;rw[S.v_eq];refine AP.mk (x172 ?_);refine Tri.mono (refInProc hd hp h1 h2) ?_;rintro _ V1 ⟨sv,rfl,w,o⟩;generalize P:Cm d p=sc at o;have K:sc.body=true:=by rw[<-P];rfl
 have a:=hd.sub w;have hf:=I2 (C.sub w);refine⟨sv,sc.body,rfl,λD=>?_,λD=>?_⟩
 ·obtain⟨O,e,-⟩:=a6 D;rcases hf with⟨h,-⟩|⟨e0',r,E,hn,A,T,j⟩;·simp_all
  ·rw[e]at E;cases E;have I:=Q O (by rw[e];simp);have M:=(C.sub w).eOk O (by rw[e];simp);have hk:∀y∈O.k,RefE V1 d sv sc y:=λy hy=>refExpr a o y (M.kids y hy) 2 (I3 I y hy);refine⟨A,by omega,by omega,_,_,_,_,j,Tri.mono (refParts O M (arity (HW I)).2.2.2 hk) ?_⟩;rintro _ V2 ⟨s',rfl,H,g⟩;unfold Es;rw[if_pos D,e];simp only;generalize hPT:partsT d sc [] O.k=pt at g;obtain⟨l,f⟩:=pt;have Z:=H.rowp j;refine⟨s',f,rfl,λq=>⟨A,by omega,by omega,T,_,_,_,_,Z,(c215 (a.sub H) g).call ⟨_,_,rfl,?_,w.trans H⟩⟩,λq=>?_⟩;·simp_all
   ·simp only[q,ne_eq,not_false_eq_true,if_true];exact⟨by trivial,w.trans H⟩
 ·unfold Es;rw[if_neg D];have hr:=(C.sub w).eRows;refine FR (mk:=.int .i64) (mc:=λs:Sl=>.slice s.p s.n s.c) 0 ⟨none,0,0⟩ AG x.es.length (λi s V2=>∃acc,Own V1 V2 9 1 s (acc.flatMap CD)/\partsT d sc [] x.es=partsT d sc acc (x.es.drop i)/\acc.length=i) ⟨[],Own.nil (Mem.sub.refl _) _ _,rfl,rfl⟩ ?_;rintro i b s V2 J hi ⟨acc,t,z,Y⟩ hJ;have G:=hr.sub t.sub;refine⟨λW=>?_,λF=>?_⟩
  ·obtain⟨y,hm,hxy,U,hl,hpp,hz,j⟩:=G.get W;rw[U,Hb]at z;refine⟨hpp,hz,W,_,_,_,_,j,(refExpr a o y ((C.sub w).eOk y hm) 1 (Q y hm) V2 t.sub).call ⟨_,_,rfl,λq=>?_,λq=>?_⟩⟩
   ·intro b1 hb1;rw[if_neg (λh=>h q)]at z;refine app229 (s:=s) (u:=⟨some ⟨b1,0,none⟩,1,1⟩) (xs:=acc) (ys:=[(CX d sc y).1]) rfl rfl (t.new hb1 _) (HX As) (by grind) λs' V' ho=>⟨s',rfl,G.succ W,hJ hl _ _ _ ⟨_,ho,z,by simp[Y]⟩⟩
   ·rw[if_pos q]at z;rw[z];simp only[q,ne_eq,not_false_eq_true,if_true];exact⟨by trivial,w.trans t.sub⟩
  ·have hge':=(G.done F).2;rw[(G.done F).1,HV]at z;rw[z];simp only[ne_eq,not_true_eq_false,if_false];have g:=ownS t;have hal:acc.length=x.es.length:=by omega
   have hsub:=w.trans t.sub;have N:=a.sub t.sub;have L:=o.sub t.sub;have sln:=g.n_eq;have R:=λh:0<acc.length=>Eu g h;have at1:=λh:1<acc.length=>Eu g h;have key:∀X n:Int,X=n->(xI (.int .i64 n)=xI (.int .i64 X)/\V.sub V2):=λX n h=>by simp_all
   refine⟨λo1=>(c217 L).call ⟨_,rfl,λhl=>key _ _ ?_,λhl=>?_⟩,λo1=>⟨λo2=>?_,λo2=>⟨λo3=>?_,λo3=>⟨λo4=>?_,λo4=>⟨λo5=>?_,λo5=>key _ _ ?_⟩⟩⟩⟩⟩;·grind[CG,sE]
   ·obtain⟨b1,b2,b3⟩:=R (by omega);refine⟨b1,by omega,b2,_,b3,(c218 N).call ⟨_,rfl,λB=>key _ _ ?_,λB=>key _ _ ?_⟩⟩;·grind[CG,sE]
    grind[CG,sE]
   ·obtain⟨b1,b2,b3⟩:=R (by omega);obtain⟨c1,c2,c3⟩:=at1 (by omega);rw[if_neg o1,if_pos o2];refine⟨b1,by omega,b2,_,b3,(c219 N).call ⟨_,_,rfl,λB=>⟨c1,by omega,c2,_,c3,(c218 N).call ⟨_,rfl,λhc=>key _ _ ?_,λhc=>key _ _ ?_⟩⟩,λB=>key _ _ ?_⟩⟩;·simp_all
    ·simp_all
    omega
   ·grind[AR]
   ·grind[AR]
   ·have h5:=a5 o5;rw[if_neg o1,if_neg o2,if_neg (by omega),if_pos o5];have rest:¬(acc.length=0)->((s.n:Int)=1)/\¬(s.p=none)/\(0:Int)<(s.n:Int)/\V2.rowp s.p 0 1=some [.string (acc.getD 0 sE)]:=λh=>by
     grind
    refine⟨λhn=>?_,λhn=>?_⟩;·grind[sE,absurd]
    ·have q:¬acc.length=0:=by omega
     obtain⟨r1,r2,r3,r4⟩:=rest q;rw[if_neg q];refine⟨λ_=>⟨λE=>key _ _ (by grind[sE]),λE=>⟨r2,by omega,r3,_,r4,(c218 N).call ⟨_,rfl,λB=>key _ _ ?_,λB=>key _ _ ?_⟩⟩⟩,λh=>absurd r1 h⟩;·grind[sE]
     simp_all
   omega
end
section
variable{V:Mem}{d:Ds}
def RefS(V:Mem)(d:Ds)(p:Pr)(l:List S):Prop:=∀(sl:Sl)(n h:Int),Ad V sl 5 (l.map S.row)->(∀x∈l,S.Ok V x)->CW h l=true->0<=n->n+Cj l<=1000->
 PP 135 [d.v,p.v,sl.v,.int .i64 n] V (.tuple #[.int .i64 (Az d (Cm d p) p.result n l).1,.int .i64 (Az d (Cm d p) p.result n l).2])
theorem refStep(F:Ds.Ok V d){p:Pr}(L:Pr.Ok V p)(R:d.globals.length<=1000)(X:p.params.length<=1000/\p.locals.length<=1000){l:List S}(Q:∀x∈l,RefS V d p x.ls/\RefS V d p x.xs):RefS V d p l:=by
 intro sl n P j r z q o;refine x135 ?_;generalize u:Cm d p=sc;refine loop4s (mk:=.int .i64) (mc:=.int .i64) (md:=.int .i64) 0 0 n Ax l.length (λi at_ V1=>V=V1/\0<=at_/\at_+Cj (l.drop i)<=1000/\Az d sc p.result n l=Az d sc p.result at_ (l.drop i)) ⟨rfl,q,o,rfl⟩ ?_;rintro i b c a V1 J U ⟨rfl,B,e,w⟩ C;refine⟨λg=>?_,λv=>?_⟩
 ·obtain⟨x,hm,hx,y,D,f,H,k⟩:=j.get g;have k:=S.row_get k;have t:=r x hm;obtain⟨G,N,Z⟩:=okS_shape (Kt z x hm);rw[y,Ku,szS_eq]at e;rw[y,Ks,stT_eq]at w;have O:=c172 F L R X t G;rw[u,S.v_eq]at O;refine⟨f,H,g,_,_,_,_,_,k,O.call ⟨_,rfl,λA=>?_,λA=>?_⟩⟩
  ·have E:¬(Es d sc p.result x.op x.s x.es≠0):=λh=>h A;rw[if_neg E]at w;have I:=(Q x hm).1 x.ll (a+1) (P+1) t.lRows t.lOk N (by omega) (by omega);rw[u]at I;refine⟨f,H,g,Ak f,_,_,_,_,_,k,⟨by omega,by omega⟩,I.call ⟨_,_,rfl,λY=>?_,λY=>?_⟩⟩
   ·have K:¬((Az d sc p.result (a+1) x.ls).2≠0):=λh=>h Y;rw[if_neg K]at w;have hn:=Gz d sc p.result (a+1) x.ls Y;have M:=(Q x hm).2 x.xl (Az d sc p.result (a+1) x.ls).1 (P+1) t.xRows t.xOk Z (by omega) (by omega);rw[u]at M;refine⟨f,H,g,Ak f,_,_,_,_,_,k,M.call ⟨_,_,rfl,λW=>?_,λW=>?_⟩⟩
    ·rw[if_neg (λh=>h W)]at w;have T:=Gz d sc p.result _ x.xs W;exact⟨j.succ g,C D _ _ _ _ ⟨rfl,by omega,by omega,w⟩⟩
    simp_all
   simp_all
  simp_all
 ·rw[(j.done v).1,stsT_nil]at w;simp_all
theorem refStmts(k:Ds.Ok V d){p:Pr}(g:Pr.Ok V p)(f:d.globals.length<=1000)(t:p.params.length<=1000/\p.locals.length<=1000)(l:List S):RefS V d p l:=by
 have u:∀s:S,RefS V d p s.ls/\RefS V d p s.xs:=by
  intro s;induction s using S.ind with
  |h s w z=>grind[refStep]
 grind[refStep]
theorem c167(e:Ds.Ok V d){l:Sl}{xs:List Fld}(r:Ad V l 2 (xs.map Fld.row)){i:Nat}{f:Fld}(p:xs[i]?=some f):PP 167 [d.v,l.v,.int .i64 i] V (.int .i64 (BY d xs i f)):=by
 refine x167 ?_;have O:=r.n_eq;have s:=(yv.1 p).1;have w:(i:Int)<(l.n:Int):=by omega
 obtain⟨A,hm,c,H,-,t,a,u⟩:=r.get w;rw[p]at c;cases c;refine Av i (λk V1=>V=V1/\∀j g,j<k->xs[j]?=some g->¬(g.name=f.name)) ⟨rfl,λ_ _ h=>absurd h (wa _)⟩ ?_;rintro k b V1 J I ⟨rfl,M⟩ G;refine⟨λN=>?_,λN=>?_⟩
 ·obtain⟨g,Z,Y,W,Q,x,q,z⟩:=r.get (i:=k) (by omega);refine⟨x,q,by omega,Ak x,_,_,z,t,a,w,Ak t,_,_,u,λo=>?_,λo=>⟨r.succ (by omega),G (by omega) _ _ ⟨rfl,λj y F L=>?_⟩⟩⟩
  ·have:(xs.take i).any (λg=>decide (g.name=f.name))=true:=uw.2 ⟨g,by
    grind[vf,yv],decide_eq_true o⟩
   unfold BY;rw[if_pos this];exact⟨rfl,rfl⟩
  grind
 ·have:¬(xs.take i).any (λg=>decide (g.name=f.name))=true:=λh=>by
   obtain⟨g,P,o⟩:=uw.1 h;rw[vf]at P;grind
  unfold BY;rw[if_neg this];refine⟨t,a,w,Ak t,_,_,u,(c169 e).call ⟨_,rfl,λh=>?_,λh=>?_⟩⟩;·simp_all
  simp_all
theorem c166(n:Ds.Ok V d){l:Sl}{xs:List Fld}(u:Ad V l 2 (xs.map Fld.row)):PP 166 [d.v,l.v] V (.int .i64 (CH d xs)):=by
 refine x166 ?_;unfold CH;generalize c:(λi f=>if BY d xs i f≠0 then some (BY d xs i f)else none)=fn;refine Av xs.length (λk V1=>V=V1/\Aj fn 0 xs=Aj fn k (xs.drop k)) ⟨rfl,rfl⟩ ?_;rintro k b V1 J a ⟨rfl,t⟩ r;refine⟨λw=>?_,λw=>?_⟩
 ·obtain⟨g,q,z,y,x,o,p,j⟩:=u.get w;rw[y]at t;refine(c167 n u z).call ⟨_,rfl,λh=>?_,λh=>?_⟩
  ·rw[Bm (by grind)]at t;exact⟨u.succ w,r x _ _ ⟨rfl,t⟩⟩
  ·rw[A7 (b:=BY d xs k g) (by grind)]at t;simp_all
 ·rw[(u.done w).1,Aj]at t;simp_all
theorem c173(f:Ds.Ok V d){sl:Sl}{sc:Sc}(k:Ad V sl 2 (sc.vars.map Fld.row)){e:E}(u:E.Ok V e)(g:CA 1 e=true){t:KB}:PP 173 [d.v,HE sl sc,e.v,.string t] V (.int .i64 (Ba d sc e t)):=by
 refine x173 ?_;unfold Ba;refine(refExpr f k e u 1 g V (Mem.sub.refl _)).call ⟨_,_,rfl,λh=>⟨λw=>?_,λw=>?_⟩,λh=>?_⟩;·simp_all
 ·simp_all
 simp_all
end
theorem idx_lt{α:Type}{p:α->Bool}{xs:List α}{i:Nat}{x:α}(f:xs[i]?=some x)(t:p x=true):(CY p xs<(i:Int)↔(xs.take i).any p=true)/\0<=CY p xs:=by
 rcases Dn p xs with⟨h,k,g⟩|⟨j,y,h,k,g,u,w,z,l,n⟩;·grind
 grind[uw,vf,yv,Nat.lt_or_ge,List.any_eq_false]
section
variable{V:Mem}{d:Ds}
def f2(o:Option Flt):Value:=.tuple #[.string (fltR o).1,.int .i64 (fltR o).2.2]
theorem c132(y:Ds.Ok V d):PP 132 [d.v] V (f2 (Gw d)):=by
 refine x132 ?_;unfold Gw;have key:∀{X:Option Flt}(s:KB)(n:Int),X=some (s,-1,n)->(xI (.tuple #[.string s,.int .i64 n])=xI (f2 X)/\V=V):=λs n h=>by rw[h];exact⟨rfl,rfl⟩
 unfold types1;generalize e:(λi (t:Ty)=>if(d.types.take i).any (λg=>decide (g.name=t.name))=true then some ((t.name,-1,10):Flt)else none)=F1;refine Da d.types.length (λk V1=>V=V1/\Aj F1 0 d.types=Aj F1 k (d.types.drop k)) ⟨rfl,rfl⟩ ?_;rintro k b c V1 J a ⟨rfl,z⟩ r;refine⟨λw=>?_,λw=>?_⟩
 ·obtain⟨g,hm,o,j,q,x,l,u⟩:=y.types.get w;have H:=(idx_lt (p:=λt:Ty=>decide (t.name=g.name)) o (by simp)).1;rw[j]at z;refine⟨x,l,w,Ak x,_,_,u,(HD y).call ⟨_,rfl,λh=>⟨x,l,w,Ak x,_,_,u,key _ _ ?_⟩,λh=>⟨y.types.succ w,r q _ _ _ ⟨rfl,?_⟩⟩⟩⟩;·rw[z,A7 (b:=(g.name,-1,10)) (by grind)];rfl
  ·rw[z,Bm (by grind)]
 rw[(y.types.done w).1,Aj]at z;rw[z,xz];unfold types2;generalize G:(λ(_:Nat) (t:Ty)=>if CH d t.fields≠0 then some ((t.name,-1,CH d t.fields):Flt)else none)=F2;refine Da d.types.length (λk V1=>V=V1/\Aj F2 0 d.types=Aj F2 k (d.types.drop k)) ⟨rfl,rfl⟩ ?_;rintro k b c V1 J a ⟨rfl,z⟩ r;refine⟨λw=>?_,λw=>?_⟩
 ·obtain⟨g,hm,o,j,q,x,l,u⟩:=y.types.get w;rw[j]at z;refine⟨x,l,w,Ak x,_,_,u,(c166 y (y.typesOk g hm).fields).call ⟨_,rfl,λh=>⟨y.types.succ w,r q _ _ _ ⟨rfl,?_⟩⟩,λh=>⟨x,l,w,Ak x,_,_,u,key _ _ ?_⟩⟩⟩;·rw[z,Bm (by grind)]
  ·rw[z,A7 (b:=(g.name,-1,CH d g.fields)) (by grind)];rfl
 rw[(y.types.done w).1,Aj]at z;rw[z,xz];unfold types3;generalize N:(λi (f:Fld)=>if BY d d.globals i f≠0 then some ((f.name,-1,BY d d.globals i f):Flt)else none)=F3;refine Da d.globals.length (λk V1=>V=V1/\Aj F3 0 d.globals=Aj F3 k (d.globals.drop k)) ⟨rfl,rfl⟩ ?_;rintro k b c V1 J a ⟨rfl,z⟩ r;refine⟨λw=>?_,λw=>?_⟩
 ·obtain⟨g,hm,o,j,q,x,l,u⟩:=y.globals.get w;rw[j]at z;refine(c167 y y.globals o).call ⟨_,rfl,λh=>⟨y.globals.succ w,r q _ _ _ ⟨rfl,?_⟩⟩,λh=>⟨x,l,w,Ak x,_,_,u,key _ _ ?_⟩⟩;·rw[z,Bm (by grind)]
  ·rw[z,A7 (b:=(g.name,-1,BY d d.globals k g)) (by grind)]
 rw[(y.globals.done w).1,Aj]at z;rw[z];exact⟨rfl,rfl⟩
theorem c133(L:Ds.Ok V d)(a:Small d):PP 133 [d.v] V (f2 (FW d)):=by
 refine AP.mk (x133 ?_);unfold FW;generalize x:(λi (p:Pr)=>if(d.procs.take i).any (λg=>decide (g.name=p.name))=true then some ((p.name,-1,10):Flt)else if CH d (p.params++p.locals)≠0 then some (p.name,-1,CH d (p.params++p.locals))else if p.result≠sE/\Cd d p.result=false then some (p.name,-1,9)else none)=F1;refine Da d.procs.length (λk V1=>V.sub V1/\Aj F1 0 d.procs=Aj F1 k (d.procs.drop k)) ⟨Mem.sub.refl _,rfl⟩ ?_;rintro k b c V1 J E ⟨q,z⟩ W;have f:=L.sub q;have key:∀{X:Option Flt}(V2:Mem)(s:KB)(n:Int),V.sub V2->X=some (s,-1,n)->(xI (.tuple #[.string s,.int .i64 n])=xI (f2 X)/\V.sub V2):=λV2 s n o h=>by rw[h];exact⟨rfl,o⟩
 refine⟨λy=>?_,λy=>?_⟩
 ·obtain⟨g,hm,R,H,Q,B,C,j⟩:=f.procs.get y;have G:=(idx_lt (p:=λt:Pr=>decide (t.name=g.name)) R (by simp)).1;have P:=f.procsOk g hm;have K:=a.2 g hm;rw[H]at z;refine⟨B,C,y,_,_,_,_,_,j,(c168 f).call ⟨_,rfl,λh=>key _ _ _ q ?_,λh=>?_⟩⟩;·rw[z,A7 (b:=(g.name,-1,10)) (by grind)]
  intro b1 N;have l:=Mem.sub_new N (.cells #[] 108 (0,0));refine EK (s:=⟨some ⟨b1,0,none⟩,0,0⟩) (u:=g.ps) (xs:=[]) (ys:=g.params) rfl rfl (Own.empty l _ _ _) (P.params.sub l) (by simp;omega) λO S A=>⟨O,rfl,?_⟩;refine EK (s:=O) (u:=g.ls) (xs:=g.params) (ys:=g.locals) rfl rfl A (P.locals.sub A.sub) (by omega) λD T Z=>⟨D,rfl,?_⟩;have r:=f.sub Z.sub;have w:=q.trans Z.sub;have I:¬(d.procs.take k).any (λt=>decide (t.name=g.name))=true:=λe=>h (G.2 e);refine(c166 r (ownF Z)).call ⟨_,rfl,λo=>?_,λo=>key _ _ _ w ?_⟩
  ·have M:¬(CH d (g.params++g.locals)≠0):=λe=>e o;refine⟨λY=>⟨f.procs.succ y,W Q _ _ _ ⟨w,?_⟩⟩,λY=>(c169 r).call ⟨_,rfl,λF=>⟨f.procs.succ y,W Q _ _ _ ⟨w,?_⟩⟩,λF=>key _ _ _ w ?_⟩⟩;·rw[z,Bm (by rw[<-x];exact(if_neg I).trans ((if_neg M).trans (if_neg λe=>e.1 Y)))]
   ·rw[z,Bm (by grind)]
   ·rw[z,A7 (b:=(g.name,-1,9)) (by rw[<-x];exact(if_neg I).trans ((if_neg M).trans (if_pos ⟨Y,eq_false_of_ne_true F⟩)))]
  ·rw[z,A7 (b:=(g.name,-1,CH d (g.params++g.locals))) (by grind)]
 ·rw[(f.procs.done y).1,Aj]at z;rw[z];exact⟨rfl,q⟩
end
theorem MN{α:Type}{p:α->Bool}{xs:List α}{i k:Nat}{g:α}(f:xs[k]?=some g)(t:k<i)(h:p g=true):(xs.take i).any p=true:=
 uw.2 ⟨g,by grind[vf,yv],h⟩
theorem MO{α:Type}{p:α->Bool}{xs:List α}{i:Nat}(h:∀j g,j<i->xs[j]?=some g->¬p g=true):¬(xs.take i).any p=true:=λf=>by
 obtain⟨g,k,t⟩:=uw.1 f;rw[vf]at k;obtain⟨j,u,e⟩:=k;exact h j g (by omega) (by grind) t
section
variable{V:Mem}{d:Ds}
theorem c134(z:Ds.Ok V d):PP 134 [d.v] V (f2 (DE d)):=by
 refine x134 ?_;unfold DE;have key:∀{X:Option Flt}(s:KB)(n:Int),X=some (s,-1,n)->(xI (.tuple #[.string s,.int .i64 n])=xI (f2 X)/\V=V):=λs n h=>by rw[h];exact⟨rfl,rfl⟩
 unfold form1;generalize hf1:(λi (m:Ms)=>if(d.measures.take i).any (λg=>decide (g.name=m.name))=true then some ((m.name,-1,10):Flt)else if Ck d m.ty=false then some (m.name,-1,9)else none)=F1;refine Da d.measures.length (λk V1=>V=V1/\Aj F1 0 d.measures=Aj F1 k (d.measures.drop k)) ⟨rfl,rfl⟩ ?_;rintro k b c V1 J M ⟨rfl,w⟩ Z;refine⟨λu=>?_,λu=>?_⟩
 ·obtain⟨g,hm,B,o,Y,l,r,f⟩:=z.measures.get u;have hlt:=(idx_lt (p:=λt:Ms=>decide (t.name=g.name)) B (by simp)).1;rw[o]at w;have q:=Ak (n:=k*7) l;refine⟨l,r,u,q,_,_,_,_,_,_,_,f,(c170 z).call ⟨_,rfl,λh=>⟨l,r,u,q,_,_,_,_,_,_,_,f,key _ _ ?_⟩,λh=>⟨l,r,u,q,_,_,_,_,_,_,_,f,(c171 z).call ⟨_,rfl,λW=>⟨z.measures.succ u,Z Y _ _ _ ⟨rfl,?_⟩⟩,λW=>⟨l,r,u,q,_,_,_,_,_,_,_,f,key _ _ ?_⟩⟩⟩⟩⟩;·rw[w,A7 (b:=(g.name,-1,10)) (by grind)];rfl
  ·rw[w,Bm (by grind)]
  ·rw[w,A7 (b:=(g.name,-1,9)) (by grind)];rfl
 rw[(z.measures.done u).1,Aj]at w;rw[w,xz];unfold form2;generalize Q:(λi (m:Iv)=>if(d.invs.take i).any (λg=>decide (g.name=m.name))=true then some ((m.name,-1,10):Flt)else if m.ty≠sE/\Ck d m.ty=false then some (m.name,-1,9)else none)=F2;refine Da d.invs.length (λk V1=>V=V1/\Aj F2 0 d.invs=Aj F2 k (d.invs.drop k)) ⟨rfl,rfl⟩ ?_;rintro k b c V1 J M ⟨rfl,w⟩ Z;refine⟨λu=>?_,λu=>?_⟩
 ·obtain⟨g,hm,B,o,Y,l,r,f⟩:=z.invs.get u;rw[o]at w;have q:=Ak (n:=k*6) l;refine Da k (λj V1=>V=V1/\∀H G,H<j->d.invs[H]?=some G->¬decide (G.name=g.name)=true) ⟨rfl,λ_ _ h=>absurd h (wa _)⟩ ?_;rintro j b c V1 J1 M ⟨rfl,C⟩ P;refine⟨λD=>?_,λD=>?_⟩
  ·obtain⟨G,E,O,F,K,N,A,a⟩:=z.invs.get (i:=j) (by omega);refine⟨N,A,by omega,Ak N,_,_,_,_,_,_,a,l,r,u,q,_,_,_,_,_,_,f,λL=>⟨l,r,u,q,_,_,_,_,_,_,f,key _ _ ?_⟩,λL=>⟨z.invs.succ (by omega),P (by omega) _ _ _ ⟨rfl,λH y S hy=>?_⟩⟩⟩;·rw[w,A7 (b:=(g.name,-1,10)) (by rw[<-Q];exact if_pos (MN O (by omega) (decide_eq_true L)))];rfl
   grind
  ·have T:=MO (i:=k) (λH G h'=>C H G (by omega));refine⟨l,r,u,q,_,_,_,_,_,_,f,λI=>⟨z.invs.succ u,Z Y _ _ _ ⟨rfl,?_⟩⟩,λI=>⟨l,r,u,q,_,_,_,_,_,_,f,(c171 z).call ⟨_,rfl,λW=>⟨z.invs.succ u,Z Y _ _ _ ⟨rfl,?_⟩⟩,λW=>⟨l,r,u,q,_,_,_,_,_,_,f,key _ _ ?_⟩⟩⟩⟩;·rw[w,Bm (by rw[<-Q];exact(if_neg T).trans (if_neg λe=>e.1 I))]
   ·rw[w,Bm (by grind)]
   ·rw[w,A7 (b:=(g.name,-1,9)) (by rw[<-Q];exact(if_neg T).trans (if_pos ⟨I,eq_false_of_ne_true W⟩))];rfl
 rw[(z.invs.done u).1,Aj]at w;rw[w,xz];unfold form3;generalize R:(λ(_:Nat) (m:Po)=>if m.ty≠sE/\Ck d m.ty=false then some ((sPot,-1,9):Flt)else none)=F3;refine Da d.pots.length (λk V1=>V=V1/\Aj F3 0 d.pots=Aj F3 k (d.pots.drop k)) ⟨rfl,rfl⟩ ?_;rintro k b c V1 J M ⟨rfl,w⟩ Z;refine⟨λu=>?_,λu=>?_⟩
 ·obtain⟨g,hm,B,o,Y,l,r,f⟩:=z.pots.get u;rw[o]at w;have q:=Ak (n:=k*5) l;refine⟨l,r,u,q,_,_,_,_,_,f,λI=>⟨z.pots.succ u,Z Y _ _ _ ⟨rfl,?_⟩⟩,λI=>⟨l,r,u,q,_,_,_,_,_,f,(c171 z).call ⟨_,rfl,λW=>⟨z.pots.succ u,Z Y _ _ _ ⟨rfl,?_⟩⟩,λW=>key _ _ ?_⟩⟩⟩;·rw[w,Bm (by rw[<-R];exact if_neg λe=>e.1 I)]
  ·rw[w,Bm (by grind)]
  ·rw[w,A7 (b:=(sPot,-1,9)) (by rw[<-R];exact if_pos ⟨I,eq_false_of_ne_true W⟩)];rfl
 rw[(z.pots.done u).1,Aj]at w;rw[w,xz];unfold form4;generalize U:(λi (b:Bd)=>if(BI d b.proc).isNone=true then some ((b.proc,-1,9):Flt)else if(d.bounds.take i).any (λg=>decide (g.proc=b.proc))=true then some (b.proc,-1,10)else none)=F4;refine Da d.bounds.length (λk V1=>V=V1/\Aj F4 0 d.bounds=Aj F4 k (d.bounds.drop k)) ⟨rfl,rfl⟩ ?_;rintro k b c V1 J M ⟨rfl,w⟩ Z;refine⟨λu=>?_,λu=>?_⟩
 ·obtain⟨g,hm,B,o,Y,l,r,f⟩:=z.bounds.get u;rw[o]at w;have q:=Ak (n:=k*5) l;refine⟨l,r,u,q,_,_,_,_,_,f,(c168 z).call ⟨_,rfl,?_⟩⟩;rcases Dn (λt:Pr=>decide (t.name=g.proc)) d.procs with⟨i1,i2,i3⟩|⟨i,x,i1,i2,i3,i4,i5,i6,i7,_⟩
  ·rw[i1];refine⟨λ_=>⟨l,r,u,q,_,_,_,_,_,f,key _ _ ?_⟩,λh=>absurd h (by decide)⟩;rw[w,A7 (b:=(g.proc,-1,9)) (by grind[BI])]
  ·rw[i1];have n0:¬(BI d g.proc).isNone=true:=by grind[BI]
   refine⟨λh=>absurd h (by omega),λ_=>?_⟩;refine Da k (λj V1=>V=V1/\∀H G,H<j->d.bounds[H]?=some G->¬decide (G.proc=g.proc)=true) ⟨rfl,λ_ _ h=>absurd h (wa _)⟩ ?_;rintro j b c V1 J1 M ⟨rfl,C⟩ P;refine⟨λD=>?_,λD=>?_⟩
   ·obtain⟨G,E,O,F,K,N,A,a⟩:=z.bounds.get (i:=j) (by omega);refine⟨N,A,by omega,Ak N,_,_,_,_,_,a,l,r,u,q,_,_,_,_,_,f,λL=>⟨l,r,u,q,_,_,_,_,_,f,key _ _ ?_⟩,λL=>⟨z.bounds.succ (by omega),P (by omega) _ _ _ ⟨rfl,λH y S hy=>?_⟩⟩⟩;·rw[w,A7 (b:=(g.proc,-1,10)) (by rw[<-U];exact(if_neg n0).trans (if_pos (MN O (by omega) (decide_eq_true L))))]
    grind
   ·have T:=MO (i:=k) (λH G h'=>C H G (by omega));exact⟨z.bounds.succ u,Z Y _ _ _ ⟨rfl,by rw[w,Bm (by grind)]⟩⟩
 rw[(z.bounds.done u).1,Aj]at w;rw[w];exact⟨rfl,rfl⟩
end
theorem JR{V:Mem}{p:Option Addr}{off n j m:Nat}{vs:List Value}(h:V.rowp p off n=some vs)(t:0<j)(u:j+m<=n):V.rowp (Aa (Aa p off) j) 0 m=some ((vs.drop j).take m):=by
 cases p with
 |none=>cases h
 |some a=>
  have e:((a.add off).add j).add 0=⟨a.block,a.off+off+j,none⟩:=by
   grind[Addr.add]
  have k:(a.add off).off=a.off+off/\(a.add off).block=a.block:=by
   grind[Addr.add]
  show V.row (((a.add off).add j).add 0) m=_;have h:V.row (a.add off) n=some vs:=h;rw[e];unfold Mem.row at h⊢;rw[k.2]at h;split at h
  ·rename_i c x y g;simp only[g];split at h
   ·rename_i f;rw[k.1]at f h;cases h;rw[if_pos ⟨rfl,by omega⟩,List.drop_take,List.take_take,List.drop_drop,Nat.min_eq_left (by omega)]
   ·cases h
  ·cases h
section
variable{V:Mem}{d:Ds}
theorem c136(B:Ds.Ok V d)(A:Hf d)(W:DE d=none):PP 136 [d.v] V (f2 (EJ d)):=by
 refine AP.mk (x136 ?_);unfold EJ;have C:=A.small.1;have key:∀{X:Option Flt}(V2:Mem)(s:KB)(n:Int),V.sub V2->X=some (s,-1,n)->(xI (.tuple #[.string s,.int .i64 n])=xI (f2 X)/\V.sub V2):=λV2 s n h2 h=>by rw[h];exact⟨rfl,h2⟩
 unfold exp1;generalize I:(λ(_:Nat) (m:Ms)=>if Ba d (Bf d m.ty) m.x AD≠0 then some ((m.name,-1,Ba d (Bf d m.ty) m.x AD):Flt)else none)=F1;refine Da d.measures.length (λk V1=>V.sub V1/\Aj F1 0 d.measures=Aj F1 k (d.measures.drop k)) ⟨Mem.sub.refl _,rfl⟩ ?_;rintro k b c V1 J D ⟨o,r⟩ Q;have f:=B.sub o;refine⟨λl=>?_,λl=>?_⟩
 ·obtain⟨g,hm,E,G,P,q,a,u⟩:=f.measures.get l;rw[G]at r;have H:=Ak (n:=k*7) q;refine⟨q,a,l,H,_,_,_,_,_,_,_,u,q,a,l,H,_,_,_,_,_,_,_,u,Tri.mono (Lu f C) ?_⟩;rintro _ V2 ⟨s',rfl,w,N⟩;have z:=w.rowp u;refine⟨s',false,rfl,JR (j:=3) (m:=4) z (by decide) (by decide),H,q,a,l,(c173 (sc:=Bf d g.ty) (e:=g.x) (f.sub w) N ((f.sub w).measuresOk g hm).x (A.ms g hm)).call ⟨_,rfl,λh=>⟨f.measures.succ l,Q P _ _ _ ⟨o.trans w,?_⟩⟩,λh=>⟨q,a,l,H,_,_,_,_,_,_,_,z,key _ _ _ (o.trans w) ?_⟩⟩⟩;·rw[r,Bm (by rw[<-I];exact if_neg λe=>e h)]
  ·rw[r,A7 (b:=(g.name,-1,Ba d (Bf d g.ty) g.x AD)) (by rw[<-I];exact if_pos h)];rfl
 rw[(f.measures.done l).1,Aj]at r;rw[r,xz];unfold exp2;generalize M:(λ(_:Nat) (m:Iv)=>if Ba d (Bf d m.ty) m.x AR≠0 then some ((m.name,-1,Ba d (Bf d m.ty) m.x AR):Flt)else none)=F2;refine Da d.invs.length (λk V1=>V.sub V1/\Aj F2 0 d.invs=Aj F2 k (d.invs.drop k)) ⟨o,rfl⟩ ?_;rintro k b c V1 J D ⟨o,r⟩ Q;have f:=B.sub o;refine⟨λl=>?_,λl=>?_⟩
 ·obtain⟨g,hm,E,G,P,q,a,u⟩:=f.invs.get l;rw[G]at r;have H:=Ak (n:=k*6) q;refine⟨q,a,l,H,_,_,_,_,_,_,u,q,a,l,H,_,_,_,_,_,_,u,Tri.mono (Lu f C) ?_⟩;rintro _ V2 ⟨s',rfl,w,N⟩;have z:=w.rowp u;refine⟨s',false,rfl,JR (j:=2) (m:=4) z (by decide) (by decide),H,q,a,l,(c173 (sc:=Bf d g.ty) (e:=g.x) (f.sub w) N ((f.sub w).invsOk g hm) (A.is g hm)).call ⟨_,rfl,λh=>⟨f.invs.succ l,Q P _ _ _ ⟨o.trans w,?_⟩⟩,λh=>⟨q,a,l,H,_,_,_,_,_,_,z,key _ _ _ (o.trans w) ?_⟩⟩⟩;·rw[r,Bm (by rw[<-M];exact if_neg λe=>e h)]
  ·rw[r,A7 (b:=(g.name,-1,Ba d (Bf d g.ty) g.x AR)) (by rw[<-M];exact if_pos h)];rfl
 rw[(f.invs.done l).1,Aj]at r;rw[r,xz];unfold exp3;generalize F:(λ(_:Nat) (m:Po)=>if Ba d (Bf d m.ty) m.x AD≠0 then some ((sPot,-1,Ba d (Bf d m.ty) m.x AD):Flt)else none)=F3;refine Da d.pots.length (λk V1=>V.sub V1/\Aj F3 0 d.pots=Aj F3 k (d.pots.drop k)) ⟨o,rfl⟩ ?_;rintro k b c V1 J D ⟨o,r⟩ Q;have f:=B.sub o;refine⟨λl=>?_,λl=>?_⟩
 ·obtain⟨g,hm,E,G,P,q,a,u⟩:=f.pots.get l;rw[G]at r;have H:=Ak (n:=k*5) q;refine⟨q,a,l,H,_,_,_,_,_,u,q,a,l,H,_,_,_,_,_,u,Tri.mono (Lu f C) ?_⟩;rintro _ V2 ⟨s',rfl,w,N⟩;have z:=w.rowp u;refine⟨s',false,rfl,JR (j:=1) (m:=4) z (by decide) (by decide),H,q,a,l,(c173 (sc:=Bf d g.ty) (e:=g.x) (f.sub w) N ((f.sub w).potsOk g hm) (A.qs g hm)).call ⟨_,rfl,λh=>⟨f.pots.succ l,Q P _ _ _ ⟨o.trans w,?_⟩⟩,λh=>key _ _ _ (o.trans w) ?_⟩⟩;·rw[r,Bm (by rw[<-F];exact if_neg λe=>e h)]
  ·rw[r,A7 (b:=(sPot,-1,Ba d (Bf d g.ty) g.x AD)) (by rw[<-F];exact if_pos h)];rfl
 rw[(f.pots.done l).1,Aj]at r;rw[r,xz];have K:=Mb W;unfold exp4;generalize L:(λ(_:Nat) (m:Bd)=>if Ba d (DP d ((BI d m.proc).getD Gy)) m.x AD≠0 then some ((m.proc,-1,Ba d (DP d ((BI d m.proc).getD Gy)) m.x AD):Flt)else none)=F4;refine Da d.bounds.length (λk V1=>V.sub V1/\Aj F4 0 d.bounds=Aj F4 k (d.bounds.drop k)) ⟨o,rfl⟩ ?_;rintro k b c V1 J D ⟨o,r⟩ Q;have f:=B.sub o;refine⟨λl=>?_,λl=>?_⟩
 ·obtain⟨g,hm,E,G,P,q,a,u⟩:=f.bounds.get l;rw[G]at r;have H:=Ak (n:=k*5) q;obtain⟨p,hpp⟩:=K g hm;rcases Dn (λt:Pr=>decide (t.name=g.proc)) d.procs with⟨i1,i2,i3⟩|⟨i,x,i1,i2,i3,i4,i5,i6,i7,_⟩;·grind[BI]
  have S:BI d g.proc=some x:=i3;refine⟨q,a,l,H,_,_,_,_,_,u,(c168 f).call ⟨_,rfl,?_⟩⟩;rw[i1];have hpn:=f.procs.n_eq;have Y:(i:Int)<(d.ps.n:Int):=by omega
  obtain⟨y,hmy,R,hdy,hly,T,U,O⟩:=f.procs.get Y;rw[i2]at R;cases R;refine⟨T,U,Y,_,_,_,_,_,O,q,a,l,H,_,_,_,_,_,u,Tri.mono (refInBound f (f.procsOk x i6) C (A.small.2 x i6)) ?_⟩;rintro _ V2 ⟨s',rfl,w,N⟩;have z:=w.rowp u;have Z:(BI d g.proc).getD Gy=x:=by rw[S];rfl
  refine⟨s',false,rfl,JR (j:=1) (m:=4) z (by decide) (by decide),H,q,a,l,(c173 (sc:=DP d x) (e:=g.x) (f.sub w) N ((f.sub w).boundsOk g hm) (A.bs g hm)).call ⟨_,rfl,λh=>⟨f.bounds.succ l,Q P _ _ _ ⟨o.trans w,?_⟩⟩,λh=>⟨q,a,l,H,_,_,_,_,_,z,key _ _ _ (o.trans w) ?_⟩⟩⟩;·rw[r,Bm (by rw[<-L];exact if_neg λe=>e (by rw[Z];exact h))]
  ·rw[r,A7 (b:=(g.proc,-1,Ba d (DP d x) g.x AD)) (by rw[<-L];exact(if_pos (by rw[Z];exact h)).trans (by rw[Z]))];try rfl
 rw[(f.bounds.done l).1,Aj]at r;rw[r];exact⟨rfl,o⟩
theorem O5(u:Ds.Ok V d)(y:Hf d):PP 91 [d.v] V (f3 (Dc d)):=by
 refine OY ?_;unfold Dc;have bad:∀{a b:Option Flt},(∀r,a=some r->Hh r)->¬((fltR a).2.2=0)->(xI (.tuple #[.string (fltR a).1,.int .i64 (-1),.int .i64 (fltR a).2.2])=xI (f3 (a.or b))/\V=V):=λ{a b} i h=>by
  cases a with
  |none=>exact absurd rfl h
  |some r=>
   have:=i r rfl;unfold f3 fltR;simp only[Option.some_or,Option.getD_some];rw[this.2];simp_all
 have good:∀{a:Option Flt},(∀r,a=some r->Hh r)->(fltR a).2.2=0->a=none:=λ{a} i h=>by
  cases a with
  |none=>rfl
  |some r=>exact absurd h (i r rfl).1
 refine(c132 u).call ⟨_,_,rfl,λh=>?_,λh=>bad (Kv d) h⟩;rw[good (Kv d) h,xz];refine(c133 u y.small).call ⟨_,_,rfl,λh=>?_,λh=>bad (Kw d) h⟩;rw[good (Kw d) h,xz];refine(c134 u).call ⟨_,_,rfl,λh=>?_,λh=>bad (Kx d) h⟩;have f:=good (Kx d) h;rw[f,xz];unfold Ft;generalize s:(λ(_:Nat) (p:Pr)=>if(Az d (Cm d p) p.result 0 p.body).2≠0 then some ((p.name,(Az d (Cm d p) p.result 0 p.body).1,(Az d (Cm d p) p.result 0 p.body).2):Flt)else none)=F1;refine loop4s (mk:=.string) (mc:=.int .i64) (md:=.int .i64) (Ac []) 0 0 Ax d.procs.length (λk _ V1=>V=V1/\Aj F1 0 d.procs=Aj F1 k (d.procs.drop k)) ⟨rfl,rfl⟩ ?_;rintro k b c Z V1 J Y ⟨rfl,x⟩ H;refine⟨λw=>?_,λw=>?_⟩
 ·obtain⟨g,hm,W,l,G,j,q,t⟩:=u.procs.get w;rw[l]at x;have e:=Ak (n:=k*5) j;have z:=u.procsOk g hm;obtain⟨o,N⟩:=y.ps g hm;refine⟨j,q,w,_,_,_,_,_,t,j,q,w,e,_,_,_,_,_,t,(refStmts u z y.small.1 (y.small.2 g hm) g.body g.bs 0 1 z.body z.stmts o (by omega) (by omega)).call ⟨_,_,rfl,λh=>⟨u.procs.succ w,H G _ _ _ _ ⟨rfl,?_⟩⟩,λh=>⟨j,q,w,e,_,_,_,_,_,t,?_⟩⟩⟩;·rw[x,Bm (by grind)]
  ·rw[x,A7 (b:=(g.name,(Az d (Cm d g) g.result 0 g.body).1,(Az d (Cm d g) g.result 0 g.body).2)) (by grind)];exact⟨rfl,rfl⟩
 rw[(u.procs.done w).1,Aj]at x;rw[x,xz];refine(c136 u y f).call ⟨_,_,rfl,λh=>?_,λh=>?_⟩;·rw[good (Ky d) h];exact⟨rfl,rfl⟩
 ·have:=bad (b:=none) (Ky d) h;grind
def wellT(d:Ds):Bool:=BX d&&decide ((fltR (Dc d)).2.2=0)
theorem O6(k:Ds.Ok V d):PP 62 [d.v] V (.bool (wellT d)):=by
 refine OM ?_;unfold wellT;refine(Lt k).call ⟨_,rfl,λh=>(O5 k (vparts h)).call ⟨_,_,_,rfl,?_⟩,λh=>?_⟩;·simp_all
 simp_all
end
section
variable{V:Mem}{d:Ds}{m:Mm}
theorem MP(h:Ds.Ok V d){l:Sl}{xs:List Fld}(w:Ad V l 2 (xs.map Fld.row)):PP 92 [d.v,l.v] V (.bool (Ei d xs)):=by
 refine OZ ?_;refine Av (mk:=.bool) (b0:=false) xs.length (λi V1=>V=V1/\AN (λf=>Cd d f.ty) xs i) ⟨rfl,AN.zero _ _⟩ ?_;rintro i b V1 J N ⟨rfl,q⟩ o;refine⟨λg=>?_,λz=>?_⟩
 ·obtain⟨x,hm,p,c,a,u,y,t⟩:=w.get g;have j:=Ak (n:=i*2) u;have r:Cd d x.ty=true->IR ((i:Int)+1)/\J [.bool b,.int .i64 ((i:Int)+1)] V:=λe=>⟨w.succ g,o a _ _ ⟨rfl,q.succ p e⟩⟩;refine⟨u,y,g,j,_,_,t,λs=>r (by grind[Cd,AD]),λs=>⟨u,y,g,j,_,_,t,λH=>r (by grind[Cd,AR]),λH=>⟨u,y,g,j,_,_,t,(HD h).call ⟨_,rfl,λG=>?_,λG=>r ?_⟩⟩⟩⟩
  ·rcases KE d x.ty with⟨-,k⟩|⟨k,-⟩
   ·have:Cd d x.ty=false:=by grind[Cd,AD,AR]
    unfold Ei;grind
   grind[absurd,BZ]
  ·rcases KE d x.ty with⟨k,-⟩|⟨-,k⟩;·grind[absurd,BZ]
   grind[Cd]
 ·unfold Ei;rw[q.all (w.done z).2];simp_all
theorem O7(h:Ds.Ok V d):PP 63 [d.v] V (.bool (hasT d)):=by
 refine ON ?_;unfold hasT;refine(Lt h).call ⟨_,rfl,λy=>(MP h h.globals).call ⟨_,rfl,λj=>?_,λj=>?_⟩,λy=>?_⟩
 ·rw[y,j,u7,u7];refine Av (mk:=.bool) (b0:=false) d.types.length (λi V1=>V=V1/\AllI (λi t=>decide (BZ d t.name=(i:Int))&&Ei d t.fields) d.types i) ⟨rfl,AllI.zero⟩ ?_;rintro i b V1 J s ⟨rfl,l⟩ p;refine⟨λg=>?_,λu=>?_⟩
  ·obtain⟨x,hm,w,c,a,z,r,f⟩:=h.types.get g;have q:=Ak (n:=i*2) z;refine⟨z,r,g,q,_,_,f,(HD h).call ⟨_,rfl,λo=>⟨z,r,g,q,_,_,f,(MP h (h.typesOk x hm).fields).call ⟨_,rfl,λe=>⟨h.types.succ g,p a _ _ ⟨rfl,l.succ w ?_⟩⟩,λe=>?_⟩⟩,λo=>?_⟩⟩;·grind[BZ]
   ·rw[KD w (by simp_all)];simp_all
   ·rw[KD w (by rw[zC,decide_eq_true_eq];exact λk=>o k.1)];simp_all
  ·rw[l.all (h.types.done u).2];simp_all
 ·simp_all
 simp_all
theorem MQ(h:Ds.Ok V d)(hm:Mm.Ok V m){s:KB}{v:Int}:PP 64 [d.v,m.v,.string s,.int .i64 v] V (.bool (Ce d m s v)):=by
 refine OO ?_;unfold Ce;have c:=hm.nodes.n_eq;have g:∀{a b:Bool},a=b->(xI (.bool a)=xI (.bool b)/\V=V):=λe=>⟨by rw[e],rfl⟩;refine⟨λu=>?_,λu=>⟨λw=>?_,λw=>?_⟩⟩;·grind[AD]
 ·grind[AD,AR,inr]
 ·rw[if_neg (show ¬s=AD from u),if_neg (show ¬s=AR from w)];refine⟨λz=>g (decide_eq_true (.inl z)).symm,λz=>⟨λy=>⟨λr=>?_,λr=>g ?_⟩,λy=>g ?_⟩⟩
  ·obtain⟨i,rfl⟩:∃i:Nat,v=(i:Int)+1:=⟨(v-1).toNat,by omega⟩;have e:((i:Int)+1-1)=(i:Int):=by omega
   have q:(i:Int)+1<=9223372036854775807:=by have:=(hm.nodes.succ (i:=i) (by omega)).2;omega
   rw[e];obtain⟨x,o,j,p,H,t,J,f⟩:=hm.nodes.get (i:=i) (by omega);have l:=Ak (n:=i*2) t;refine⟨⟨by omega,by omega⟩,t,by omega,by omega,l,_,_,f,(HD h).call ⟨_,rfl,?_,l,t,by omega,by omega,⟨by omega,by omega⟩,g ?_⟩⟩;·exact Mg (k:=1) f (by decide)
   ·refine decide_eq_decide.2 ⟨λk=>.inr ⟨y,by omega,?_⟩,λk=>?_⟩
    ·show Option.map (·.ty) (m.nodes[((i:Int)).toNat]?)=_;rw[Int.toNat_natCast,j];exact congrArg some k
    ·rcases k with k|⟨-,-,k⟩;·omega
     ·rw[show((i:Int)).toNat=i from rfl,j]at k;exact Option.some.inj k
  ·grind
  grind
theorem JS(h:Ds.Ok V d)(hm:Mm.Ok V m):PP 40 [d.v,m.v] V (.bool (AB d m)):=by
 refine OH ?_;have hn:=hm.nodes.n_eq;have hg:=hm.globals.n_eq;have hdg:=h.globals.n_eq;have hdt:=h.types.n_eq;have Y:∀{V1:Mem},V=V1->¬AB d m=true->(xI (.bool false)=xI (.bool (AB d m))/\V1=V):=λe k=>⟨by simp_all,e.symm⟩;have parts:AB d m=true↔hasT d=true/\m.nodes.length<=4096/\(∀n∈m.nodes,DR d n=true)/\Bb d m d.globals m.globals=true/\∀n∈m.nodes,Bb d m (Bg d n.ty) n.f=true:=by
  grind[AB]
 refine(O7 h).call ⟨_,rfl,λT=>⟨λhl=>⟨λM=>Y rfl λk=>?_,λM=>?_⟩,λhl=>Y rfl λk=>?_⟩,λT=>Y rfl λk=>T (parts.1 k).1⟩;·grind
 ·let PA:Nd->Bool:=λn=>DR d n&&decide ((Bg d n.ty).length=n.f.length);refine Av (mk:=.bool) (b0:=false) m.nodes.length (λi V1=>V=V1/\AN PA m.nodes i) ⟨rfl,AN.zero _ _⟩ ?_;rintro i b V1 J S ⟨rfl,H⟩ W;refine⟨λg=>?_,λl=>?_⟩
  ·obtain⟨x,w,F,L,p,G,Q,u⟩:=hm.nodes.get g;have R:=Ak (n:=i*2) G;have hnx:=(hm.nodesOk x w).rows.n_eq;refine⟨G,Q,g,R,_,_,u,λI=>Y rfl λk=>?_,λI=>⟨λh2=>Y rfl λk=>?_,λh2=>?_⟩⟩
   ·have:=(parts.1 k).2.2.1 x w;exact absurd (of_decide_eq_true this).1 (by omega)
   ·have:=(parts.1 k).2.2.1 x w;exact absurd (of_decide_eq_true this).2 (by omega)
   ·obtain⟨t,r⟩:∃t:Nat,x.ty=(t:Int):=⟨x.ty.toNat,by omega⟩;obtain⟨y,P,U,-,-,c,hyz,q⟩:=h.types.get (i:=t) (by omega);have hfn:=(h.typesOk y P).fields.n_eq;have N:=Fv U r;have h1':(0:Int)<=x.ty:=by omega
    rw[r]at I h2⊢;refine⟨G,Q,g,R,_,_,u,c,by omega,by omega,Ak c,_,_,q,λh3=>⟨hm.nodes.succ g,W p _ _ ⟨rfl,H.succ F ?_⟩⟩,λh3=>Y rfl λk=>?_⟩;·grind[DR,Bg]
    grind[Bb]
  have hA:=H.all (hm.nodes.done l).2;rw[z6]at hA;clear W H l S;refine Av (mk:=.bool) (b0:=b) m.globals.length (λi V1=>V=V1/\AllI (λi v=>Ce d m (tyAt d.globals i) v) m.globals i) ⟨rfl,AllI.zero⟩ ?_;rintro i b1 V1 J S ⟨rfl,H⟩ W;refine⟨λg=>?_,λl=>?_⟩
  ·obtain⟨x,w,F,L,p,G,Q,u⟩:=hm.globals.get g;obtain⟨f,hfm,hf,-,-,a,O,o⟩:=h.globals.get (i:=i) (by omega);have hty:tyAt d.globals i=f.ty:=by grind[tyAt]
   refine⟨a,O,by omega,Ak a,_,_,o,G,Q,g,_,u,(MQ h hm).call ⟨_,rfl,λI=>⟨hm.globals.succ g,W p _ _ ⟨rfl,H.succ F (by grind)⟩⟩,λI=>Y rfl λk=>?_⟩⟩;have:=(parts.1 k).2.2.2.1;unfold Bb at this;rw[zC]at this;grind[Fu]
  have hG:=H.all (hm.globals.done l).2;clear W H l S;refine Av (mk:=.bool) (b0:=b1) m.nodes.length (λi V1=>V=V1/\AN (λn=>Bb d m (Bg d n.ty) n.f) m.nodes i) ⟨rfl,AN.zero _ _⟩ ?_;rintro i b2 V1 J S ⟨rfl,H⟩ W;refine⟨λg=>?_,λl=>?_⟩
  ·obtain⟨x,w,F,L,p,G,Q,u⟩:=hm.nodes.get g;have R:=Ak (n:=i*2) G;have X:=hm.nodesOk x w;have B:=hA x w;rw[zC,decide_eq_true_eq]at B;obtain⟨C,D⟩:=B;have C:=of_decide_eq_true C;obtain⟨t,r⟩:∃t:Nat,x.ty=(t:Int):=⟨x.ty.toNat,by omega⟩;obtain⟨y,P,U,-,-,c,hyz,q⟩:=h.types.get (i:=t) (by omega);have Z:=(h.typesOk y P).fields;have N:=Fv U r;refine⟨G,Q,g,R,_,_,u,c,by rw[r];omega,by rw[r];omega,Ak c,_,_,by rw[r];exact q,?_⟩;rw[N]at D;have hxn:=X.rows.n_eq;have hyn:=Z.n_eq;refine Av (mk:=.bool) (b0:=b2) y.fields.length (λj V1=>V=V1/\AllI (λi v=>Ce d m (tyAt y.fields i) v) x.f j) ⟨rfl,AllI.zero⟩ ?_;rintro j b3 V1 J1 hj ⟨rfl,E⟩ hJ1;refine⟨λs=>?_,λK=>⟨hm.nodes.succ g,W p _ _ ⟨rfl,H.succ F ?_⟩⟩⟩
   ·obtain⟨f,hfm,hf,-,hfl,a,O,o⟩:=Z.get s;obtain⟨z,hzm,hzx,-,-,hzp,hzz,A⟩:=X.rows.get (i:=j) (by omega);have hty:tyAt y.fields j=f.ty:=by grind[tyAt]
    refine⟨a,O,s,Ak a,_,_,o,G,Q,g,R,_,_,u,hzp,hzz,by omega,_,A,(MQ h hm).call ⟨_,rfl,λI=>⟨Z.succ s,hJ1 hfl _ _ ⟨rfl,E.succ hzx (by grind)⟩⟩,λI=>Y rfl λk=>?_⟩⟩;have:=(parts.1 k).2.2.2.2 x w;unfold Bb at this;rw[zC,N]at this;grind[Fu]
   ·have:=(Z.done K).2;unfold Bb;rw[N,E.all (by omega),decide_eq_true D];rfl
  ·have hN:=H.all (hm.nodes.done l).2;rw[z6]at hN;have:AB d m=true:=parts.2 ⟨T,by omega,λn hn'=>(zC _ _▸hA n hn').1,by grind[Bb],hN⟩;simp_all
 grind[Bb]
end
end Go.Proofs
