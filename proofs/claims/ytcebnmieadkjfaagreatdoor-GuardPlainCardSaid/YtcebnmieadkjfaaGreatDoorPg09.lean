/- Part 9: no statement of the seat is proved here. -/
import Derived.Test.YtcebnmieadkjfaaGreatDoorPg08
set_option linter.unusedVariables false
set_option linter.unusedSimpArgs false
open Go.Proofs.Tryz renaming prog->xG
open Go.Ending renaming returned->xJ
open List renaming any_eq_not_all_not->xW,mem_iff_getElem->yc,getElem?_eq_getElem->yu,length_cons->zy,getElem?_eq_some_iff->yv,findIdx?_eq_some_iff_getElem->yf,getElem_mem->yn,any_eq_true->xZ,any_eq_false->xz,not_mem_nil->xD,mem_take_iff_getElem->xw
open Bool renaming false_and->xX,and_eq_true->zC
open Nat renaming not_lt_zero->xY
open Option renaming none_or->xv
namespace Go.Proofs
open Go Go.Sx
attribute [local irreducible] Go.Sx.Tri
theorem c273{V:Mem}[Tab V]{e:E}(h:E.Ok V e):PP 273 [e.v] V (.bool (!Bf e)):=by
 refine x273 ?_;exact(G7 h).call ⟨_,rfl,rfl,rfl⟩
theorem vSl_bound{left d:Int}{l:List S}(g:0<=left)(h:(Dp left d l).1=true):0<=(Dp left d l).2/\(Dp left d l).2<=left:=by
 unfold Dp gd at h⊢;split at h;·cases h
 ·rename_i k;rw[if_neg k];grind[vSs_ok]
theorem vSl_eq{left d:Int}{l:List S}(h:¬(60<d/\l≠[])):Dp left d l=CH left d l:=by grind[Dp,gd]
section
variable{V0:Mem}{b t:Nat}
def G9(V0:Mem)(b t:Nat)(l:List S):Prop:=∀(sl:Sl)(d left:Int)(V:Mem),Ad V0 sl 5 (l.map S.row)->(∀x∈l,S.Ok V0 x)->V0.sub V->V b=some (cell (.int .i64 left) t)->0<=left->left<=200->0<=d->d<=61->
 Tri xG 227 #[sl.v,.int .i64 d,pv b] V λr V'=>r=.returned (.bool (Dp left d l).1)/\V'=V.set b (cell (.int .i64 (Dp left d l).2) t)
theorem stP_step[O:Tab V0](I:V0 b=none){l:List S}(A:∀x∈l,G9 V0 b t x.ls/\G9 V0 b t x.xs):G9 V0 b t l:=by
 intro sl d left V p v M f H G F E;have K:=p.n_eq;refine x227 ?_;have w:∀k,V0.sub (V.set b (cell (.int .i64 k) t)):=λk=>M.set I _;refine⟨λN=>⟨λm=>?_,λm=>?_⟩,λN=>?_⟩
 ·have:Dp left d l=(false,left):=by
   grind[Dp,gd]
  rw[this];exact⟨rfl,(Mem.set_eq f).symm⟩
 all_goals
  have Z:¬(60<d/\l≠[]):=by
   first
   |exact λh=>m h.1
   |simp_all
  rw[vSl_eq Z];refine AK l.length (λi V1=>∃k,V1=V.set b (cell (.int .i64 k) t)/\0<=k/\k<=200/\CH left d l=CH k d (l.drop i)) ⟨left,(Mem.set_eq f).symm,H,G,rfl⟩ ?_;rintro i c _ J T ⟨k,rfl,L,R,z⟩ X;refine⟨λy=>?_,λY=>?_⟩
  ·obtain⟨x,hm,U,W,B,C,D,u⟩:=(p.sub (w k)).get y;have u:=S.row_get u;have g:=v x hm;rw[W,vSs_cons]at z;have hv:=vS_eq k d x;have cs:=λV (N:V0.sub V) (h:S.Ok V x)=>(haveI:Tab V:=Tab.sub O N;c272 h);rw[S.v_eq]at cs;have r:∀n,vStm k d x=(false,n)->(xJ (.bool false)=xJ (.bool (CH left d l).1)/\V.set b (cell (.int .i64 n) t)=V.set b (cell (.int .i64 (CH left d l).2) t)):=λn h=>by
    rw[h]at z;rw[z];exact⟨rfl,rfl⟩
   refine⟨C,D,y,_,_,_,_,_,u,Tri.mono (c145 Ao (by omega) (by omega)) ?_⟩;rintro _ _ ⟨rfl,rfl⟩;rw[Mem.set_set];refine⟨_,rfl,λh8=>(cs _ (w _) (g.sub (w _))).call ⟨_,rfl,λQ=>?_,λQ=>?_⟩,λh8=>?_⟩
   ·have h8:0<=k-1:=of_decide_eq_true h8;refine(c147 (first:=[]) (caps:=[]) (l:=x.el) (g.eRows.sub (w _)) Tryz.call273 (λe=>!Bf e) (λe hm=>haveI:Tab (V.set b (cell (.int .i64 (k-1)) t)):=Tab.sub O (w (k-1));c273 ((g.eOk e hm).sub (w _)))).call ⟨_,rfl,λq=>?_,λq=>?_⟩
    ·have j:x.es.all Bf=false:=by
      rw[xW]at q;simpa using q
     rw[if_neg (λh=>by have:=h.2;unfold CS at this;rw[j,Bool.and_false]at this;cases this)]at hv;exact r _ hv
    ·have j:x.es.all Bf=true:=by
      rw[xW]at q;simpa using q
     have P:CS x.op x.s x.es x.ls.length x.xs.length=true:=by unfold CS;rw[Q,j];rfl
     rw[if_pos ⟨h8,P⟩]at hv;refine⟨⟨by omega,by omega⟩,Tri.mono ((A x hm).1 x.ll (d+1) (k-1) _ g.lRows g.lOk (w _) Ao h8 (by omega) (by omega) (by omega)) ?_⟩;rintro _ _ ⟨rfl,rfl⟩;rw[Mem.set_set];refine⟨_,rfl,λa=>⟨⟨by omega,by omega⟩,?_⟩,λa=>?_⟩
     ·rw[if_pos a]at hv;have b1:=vSl_bound h8 a;refine Tri.mono ((A x hm).2 x.xl (d+1) _ _ g.xRows g.xOk (w _) Ao b1.1 (by omega) (by omega) (by omega)) ?_;rintro _ _ ⟨rfl,rfl⟩;rw[Mem.set_set];refine⟨_,rfl,λo=>?_,λo=>?_⟩
      ·have b2:=vSl_bound b1.1 o;rw[hv,if_pos o]at z;exact⟨(p.sub (w k)).succ y,X B _ _ ⟨_,rfl,b2.1,by omega,z⟩⟩
      ·rw[<-hv]at o⊢;exact r _ (Prod.ext (eq_false_of_ne_true o) rfl)
     ·rw[if_neg a]at hv;exact r _ hv
   ·rw[if_neg (λh=>by have:=h.2;unfold CS at this;rw[eq_false_of_ne_true Q,xX]at this;cases this)]at hv;exact r _ hv
   ·rw[if_neg (λh=>h8 (decide_eq_true h.1))]at hv;exact r _ hv
  ·rw[((p.sub (w k)).done Y).1,vSs_nil]at z;rw[z];exact⟨rfl,rfl⟩
theorem stP_S[k:Tab V0](g:V0 b=none):∀s:S,G9 V0 b t s.ls/\G9 V0 b t s.xs:=by
 intro s;induction s using S.ind with
 |h s f u=>grind[stP_step]
theorem c227[k:Tab V0](h:V0 b=none)(l:List S):G9 V0 b t l:=stP_step h λx _=>stP_S h x
end
def AW{α:Type}(p:α->Bool)(xs:List α)(i:Nat):Prop:=∀j x,j<i->xs[j]?=some x->p x=true
theorem AW.zero{α:Type}(p:α->Bool)(xs:List α):AW p xs 0:=λ_ _ h=>absurd h (xY _)
theorem AW.succ{α:Type}{p:α->Bool}{xs:List α}{i:Nat}{x:α}(h:AW p xs i)(u:xs[i]?=some x)(w:p x=true):AW p xs (i+1):=λj y k g=>by
 rcases Nat.lt_succ_iff_lt_or_eq.1 k with f|rfl;·exact h j y f g
 simp_all
theorem AW.all{α:Type}{p:α->Bool}{xs:List α}{i:Nat}(h:AW p xs i)(hi:xs.length<=i):xs.all p=true:=
 List.all_eq_true.2 λx k=>by
  obtain⟨j,g,rfl⟩:=yc.1 k;exact h j _ (by omega) (yu g)
theorem all_false{α:Type}{p:α->Bool}{xs:List α}{x:α}(h:x∈xs)(k:¬p x=true):xs.all p=false:=by
 grind
def Ai:KB:=Ab [105,110,116]
def Ar:KB:=Ab [98,111,111,108]
def typB(s:KB):Bool:=decide (s=Ai)||decide (s=Ar)||A6 s
def openB(s:KB):Bool:=decide (s=Ab [])||A6 s
def fldB(f:Fld):Bool:=A6 f.name&&typB f.ty
def CT(l:List Fld)(h:Int):Bool:=decide ((l.length:Int)<=h)&&l.all fldB
def Ei(t:Ty):Bool:=A6 t.name&&CT t.fields 12
def DC(p:Pr):Bool:=A6 p.name&&CT p.params 6&&CT p.locals 12&&(decide (p.result=Ab [])||typB p.result)&&Gq p.body
def Dh(m:Ms):Bool:=A6 m.name&&A6 m.ty&&decide (-1099511627776<=m.nil/\m.nil<=1099511627776)&&Bf m.x
def EC(m:Iv):Bool:=A6 m.name&&openB m.ty&&Bf m.x
def FS(m:Po):Bool:=openB m.ty&&Bf m.x
def FT(m:Bd):Bool:=A6 m.proc&&Bf m.x
def E5(d:Ds):Bool:=d.measures.all Dh&&d.invs.all EC&&d.pots.all FS&&d.bounds.all FT
def lensB(d:Ds):Bool:=decide ((d.measures.length:Int)<=12/\(d.invs.length:Int)<=12/\(d.pots.length:Int)<=12/\(d.bounds.length:Int)<=12)
def A7(d:Ds):Bool:=A6 d.name&&decide ((d.types.length:Int)<=12)&&CT d.globals 8&&decide ((d.procs.length:Int)<=40)&&lensB d&&d.types.all Ei&&d.procs.all DC&&E5 d
theorem c109{V:Mem}{s:KB}:PP 109 [.string s] V (.bool (typB s)):=by
 refine x109 ?_;refine⟨λh=>?_,λh=>⟨λk=>?_,λk=>DZ.call ⟨_,rfl,?_⟩⟩⟩<;>simp[typB,Ai,Ar, *]
theorem c222{V:Mem}[Tab V]{s:KB}:PP 222 [.string s] V (.bool (typB s)):=by
 refine x222 ?_;refine⟨λh=>?_,λh=>⟨λk=>?_,λk=>DL.call ⟨_,rfl,?_⟩⟩⟩<;>simp[typB,Ai,Ar, *]
theorem c112{V:Mem}{s:KB}:PP 112 [.string s] V (.bool (openB s)):=by
 refine x112 ?_;refine⟨λh=>?_,λh=>DZ.call ⟨_,rfl,?_⟩⟩<;>simp[openB, *]
theorem c223{V:Mem}[Tab V]{s:KB}:PP 223 [.string s] V (.bool (openB s)):=by
 refine x223 ?_;refine⟨λh=>?_,λh=>DL.call ⟨_,rfl,?_⟩⟩<;>simp[openB, *]
theorem IL{V:Mem}{l:Sl}{xs:List Fld}{n:Int}(f:Ad V l 2 (xs.map Fld.row)):PP 61 [l.v,.int .i64 n] V (.bool (CT xs n)):=by
 refine N6 ?_;have e:=f.n_eq;refine⟨λh=>?_,λh=>?_⟩;·grind[CT]
 ·have w:(xs.length:Int)<=n:=by omega
  refine AK xs.length (λi V1=>V1=V/\AW fldB xs i) ⟨rfl,AW.zero _ _⟩ ?_;rintro i b V1 J s ⟨rfl,y⟩ r;refine⟨λk=>?_,λz=>?_⟩
  ·obtain⟨x,hm,q,o,p,u,j,g⟩:=f.get k;have m:fldB x=false->(xJ (.bool false)=xJ (.bool (CT xs n))/\V1=V1):=λh=>by
    unfold CT;grind
   refine⟨u,j,k,Ah u,_,_,g,DZ.call ⟨_,rfl,λc=>⟨u,j,k,Ah u,_,_,g,c109.call ⟨_,rfl,λa=>⟨f.succ k,r p _ _ ⟨rfl,y.succ q (by simp[fldB, *])⟩⟩,λa=>m (by simp[fldB, *])⟩⟩,λc=>m (by simp[fldB, *])⟩⟩
  ·have:=y.all (f.done z).2;simp[CT,this,w]
theorem c221{V:Mem}[Tab V]{f:Fld}:PP 221 [f.v] V (.bool (!fldB f)):=by
 refine x221 ?_;refine DL.call ⟨_,rfl,λh=>c222.call ⟨_,rfl,?_⟩,λh=>?_⟩<;>simp[fldB, *]
theorem c173{V:Mem}[Tab V]{l:Sl}{xs:List Fld}{n:Int}(k:Ad V l 2 (xs.map Fld.row)):PP 173 [l.v,.int .i64 n] V (.bool (CT xs n)):=by
 refine x173 ?_;have g:=k.n_eq;refine⟨λh=>(HR (first:=[]) (caps:=[]) k Tryz.call221 (λf=>!fldB f) λf _=>c221).call ⟨_,rfl,?_⟩,λh=>?_⟩;·grind[CT]
 grind[CT]
theorem OZ{V:Mem}{p:Pr}(h:Pr.Ok V p):PP 62 [p.v] V (.bool (DC p)):=by
 refine N7 ?_;have cs:=c110 (d:=1) h.body h.stmts (by omega) (by omega);refine DZ.call ⟨_,rfl,λk=>(IL h.params).call ⟨_,rfl,λg=>(IL h.locals).call ⟨_,rfl,λf=>⟨λu=>cs.call ⟨_,rfl,?_⟩,λu=>c109.call ⟨_,rfl,λw=>cs.call ⟨_,rfl,?_⟩,λw=>?_⟩⟩,λf=>?_⟩,λg=>?_⟩,λk=>?_⟩;all_goals simp[DC,<-validSs_cnt, *]
theorem c178{V:Mem}[Tab V]{p:Pr}(h:Pr.Ok V p):PP 178 [p.v] V (.bool (DC p)):=by
  refine A1.mk (x178 ?_);have cs:(Gq p.body=DC p)->Af [(.int .i64 200)] 170 V fun f u =>
       Tri xG 227 #[(.slice p.bs.p p.bs.n p.bs.c),(.int .i64 1),(.pointer (Aa f 0))] u λe w=>∃k:Bool,e=.returned (.bool k)/\(xJ (.bool k)=xJ (.bool (DC p))/\V.sub w):=λe b g=>by
    refine Tri.mono (c227 g p.body p.bs 1 200 _ h.body h.stmts (Mem.sub_new g _) Ao (by omega) (by omega) (by omega) (by omega)) ?_;rintro _ _ ⟨rfl,rfl⟩;rw[validSs_v,Mem.set_set,e];exact⟨_,rfl,rfl,Mem.sub_new g _⟩
  refine DL.call ⟨_,rfl,λz=>(c173 h.params).call ⟨_,rfl,λy=>(c173 h.locals).call ⟨_,rfl,λx=>⟨λj=>cs ?_,λj=>c222.call ⟨_,rfl,λi=>cs ?_,λi=>⟨?_,Mem.sub.refl _⟩⟩⟩,λx=>⟨?_,Mem.sub.refl _⟩⟩,λy=>⟨?_,Mem.sub.refl _⟩⟩,λz=>⟨?_,Mem.sub.refl _⟩⟩;all_goals simp[DC, *]
theorem c225{V:Mem}[Tab V]{b:Bd}(h:E.Ok V b.x):PP 225 [b.v] V (.bool (!FT b)):=by
 refine x225 ?_;refine DL.call ⟨_,rfl,λk=>(G7 h).call ⟨_,rfl,?_⟩,λk=>?_⟩<;>simp[FT, *]
theorem c176{V:Mem}[Tab V]{t:Ty}(h:Ty.Ok V t):PP 176 [t.v] V (.bool (!Ei t)):=by
 refine x176 ?_;refine DL.call ⟨_,rfl,λk=>(c173 h.fields).call ⟨_,rfl,?_⟩,λk=>?_⟩<;>simp[Ei, *]
theorem c177{V:Mem}[Tab V]{t:Pr}(h:Pr.Ok V t):PP 177 [t.v] V (.bool (!DC t)):=by
 refine x177 ?_;exact(c178 h).call ⟨_,rfl,rfl,rfl⟩
theorem GenK.max4{P:Program}{V:Mem}{a b c d:Operand}{ty:Nat}{ts:Array TypeId}{vals:Operand->Value}{n1 n2 n3 n4:Int}(h:vals a=.int .i64 n1)(k:vals b=.int .i64 n2)(g:vals c=.int .i64 n3)(f:vals d=.int .i64 n4){q:Value->Mem->Prop}
  (u:∀m:Int,n1<=m->n2<=m->n3<=m->n4<=m->(m=n1∨m=n2∨m=n3∨m=n4)->q (.int .i64 m) V):GenK P (.call {callee:=.builtin .max,args:=#[a,b,c,d],argTypes:=ts}) ty vals V q:=by
 intro w hw;refine⟨_,w,V,?_,Aq.refl hw,u (max (max (max n1 n2) n3) n4) (by omega) (by omega) (by omega) (by omega) (by omega)⟩;unfold execOp;have e:∀x y:Int,(if y>x then y else x)=max x y:=λx y=>by split<;>omega
 simp only[resolve,invoke,builtin,Sem.run_bind,Sem.run_pure,Result.andThen_ok,List.map_toArray,List.map_cons,List.map_nil,h,k,g,f];simp[Builtin.max_,Builtin.max2,e]
theorem O1{V:Mem}{d:Ds}(h:Ds.Ok V d):PP 63 [d.v] V (.bool (E5 d)):=by
 refine N8 ?_;generalize a:E5 d=X;have key:∀b:Bool,X=b->(xJ (.bool b)=xJ (.bool X)/\V=V):=λn h=>by simp_all
 unfold E5 at a;refine AK d.measures.length (λi V1=>V=V1/\AW Dh d.measures i) ⟨rfl,AW.zero _ _⟩ ?_;rintro i b V1 J p ⟨rfl,z⟩ j;refine⟨λk=>?_,λu=>?_⟩
 ·obtain⟨x,hm,l,m,r,f,y,g⟩:=h.measures.get k;have w:Dh x=false->X=false:=λh=>by grind
  refine⟨f,y,k,_,_,_,_,_,_,_,g,DZ.call ⟨_,rfl,λc=>DZ.call ⟨_,rfl,λq=>⟨λe=>key _ (w ?_),λe=>⟨λs=>key _ (w ?_),λs=>(c111 (h.measuresOk x hm).x).call ⟨_,rfl,λo=>⟨h.measures.succ k,j r _ _ ⟨rfl,z.succ l ?_⟩⟩,λo=>key _ (w ?_)⟩⟩⟩,λq=>key _ (w ?_)⟩,λc=>key _ (w ?_)⟩⟩
  ·have:¬(-1099511627776<=x.nil/\x.nil<=1099511627776):=by omega
   simp[Dh, *]
  ·have:¬(-1099511627776<=x.nil/\x.nil<=1099511627776):=by omega
   simp[Dh, *]
  ·have:(-1099511627776<=x.nil/\x.nil<=1099511627776):=by omega
   simp[Dh, *]
  all_goals simp[Dh, *]
 have a1:=z.all (h.measures.done u).2;refine AK d.invs.length (λi V1=>V=V1/\AW EC d.invs i) ⟨rfl,AW.zero _ _⟩ ?_;rintro i b V1 J p ⟨rfl,z⟩ j;refine⟨λk=>?_,λu=>?_⟩
 ·obtain⟨x,hm,l,m,r,f,y,g⟩:=h.invs.get k;have w:EC x=false->X=false:=λh=>by rw[<-a,all_false hm (by rw[h];simp)];simp
  refine⟨f,y,k,Ah f,_,_,_,_,_,_,g,DZ.call ⟨_,rfl,λc=>⟨f,y,k,Ah f,_,_,_,_,_,_,g,c112.call ⟨_,rfl,λq=>⟨f,y,k,Ah f,_,_,_,_,_,_,g,(c111 (h.invsOk x hm)).call ⟨_,rfl,λo=>⟨h.invs.succ k,j r _ _ ⟨rfl,z.succ l ?_⟩⟩,λo=>key _ (w ?_)⟩⟩,λq=>key _ (w ?_)⟩⟩,λc=>key _ (w ?_)⟩⟩;all_goals simp[EC, *]
 have a2:=z.all (h.invs.done u).2;refine AK d.pots.length (λi V1=>V=V1/\AW FS d.pots i) ⟨rfl,AW.zero _ _⟩ ?_;rintro i b V1 J p ⟨rfl,z⟩ j;refine⟨λk=>?_,λu=>?_⟩
 ·obtain⟨x,hm,l,m,r,f,y,g⟩:=h.pots.get k;have w:FS x=false->X=false:=λh=>by grind
  refine⟨f,y,k,Ah f,_,_,_,_,_,g,c112.call ⟨_,rfl,λq=>⟨f,y,k,Ah f,_,_,_,_,_,g,(c111 (h.potsOk x hm)).call ⟨_,rfl,λo=>⟨h.pots.succ k,j r _ _ ⟨rfl,z.succ l ?_⟩⟩,λo=>key _ (w ?_)⟩⟩,λq=>key _ (w ?_)⟩⟩;all_goals simp[FS, *]
 have a3:=z.all (h.pots.done u).2;refine AK d.bounds.length (λi V1=>V=V1/\AW FT d.bounds i) ⟨rfl,AW.zero _ _⟩ ?_;rintro i b V1 J p ⟨rfl,z⟩ j;refine⟨λk=>?_,λu=>?_⟩
 ·obtain⟨x,hm,l,m,r,f,y,g⟩:=h.bounds.get k;have w:FT x=false->X=false:=λh=>by grind
  refine⟨f,y,k,Ah f,_,_,_,_,_,g,DZ.call ⟨_,rfl,λq=>⟨f,y,k,Ah f,_,_,_,_,_,g,(c111 (h.boundsOk x hm)).call ⟨_,rfl,λo=>⟨h.bounds.succ k,j r _ _ ⟨rfl,z.succ l ?_⟩⟩,λo=>key _ (w ?_)⟩⟩,λq=>key _ (w ?_)⟩⟩;all_goals simp[FT, *]
 have H:=z.all (h.bounds.done u).2;simp_all
theorem c174{V:Mem}[Tab V]{d:Ds}(h:Ds.Ok V d):PP 174 [d.v] V (.bool (lensB d&&E5 d)):=by
 refine x174 ?_;have s:=h.measures.n_eq;have H:=h.invs.n_eq;have G:=h.pots.n_eq;have N:=h.bounds.n_eq;generalize c:(lensB d&&E5 d)=X;have key:∀b:Bool,X=b->(xJ (.bool b)=xJ (.bool X)/\V=V):=λn h=>by simp_all
 unfold E5 lensB at c;refine GenK.max4 (n1:=d.ms.n) (n2:=d.is.n) (n3:=d.qs.n) (n4:=d.bs.n) rfl rfl rfl rfl λQ P O A I le=>⟨_,rfl,λZ=>key _ ?_,λZ=>?_⟩;·rw[<-c,decide_eq_false (by omega)];rfl
 rw[decide_eq_true (by omega),Bool.true_and]at c;refine AK d.measures.length (λi V1=>V=V1/\AW Dh d.measures i) ⟨rfl,AW.zero _ _⟩ ?_;rintro i b V1 J e ⟨rfl,z⟩ y;refine⟨λk=>?_,λw=>?_⟩
 ·obtain⟨x,hm,j,l,m,r,q,g⟩:=h.measures.get k;have u:Dh x=false->X=false:=λh=>by grind
  refine⟨r,q,k,_,_,_,_,_,_,_,g,DL.call ⟨_,rfl,λa=>DL.call ⟨_,rfl,λo=>⟨λY=>key _ (u ?_),λY=>⟨λW=>key _ (u ?_),λW=>(G7 (h.measuresOk x hm).x).call ⟨_,rfl,λp=>⟨h.measures.succ k,y m _ _ ⟨rfl,z.succ j ?_⟩⟩,λp=>key _ (u ?_)⟩⟩⟩,λo=>key _ (u ?_)⟩,λa=>key _ (u ?_)⟩⟩
  ·have:¬(-1099511627776<=x.nil/\x.nil<=1099511627776):=by omega
   simp[Dh, *]
  ·have:¬(-1099511627776<=x.nil/\x.nil<=1099511627776):=by omega
   simp[Dh, *]
  ·have:(-1099511627776<=x.nil/\x.nil<=1099511627776):=by omega
   simp[Dh, *]
  all_goals simp[Dh, *]
 have a1:=z.all (h.measures.done w).2;refine AK d.invs.length (λi V1=>V=V1/\AW EC d.invs i) ⟨rfl,AW.zero _ _⟩ ?_;rintro i b V1 J e ⟨rfl,z⟩ y;refine⟨λk=>?_,λw=>?_⟩
 ·obtain⟨x,hm,j,l,m,r,q,g⟩:=h.invs.get k;have u:EC x=false->X=false:=λh=>by rw[<-c,all_false hm (by rw[h];simp)];simp
  refine⟨r,q,k,_,_,_,_,_,_,g,DL.call ⟨_,rfl,λa=>c223.call ⟨_,rfl,λo=>(G7 (h.invsOk x hm)).call ⟨_,rfl,λp=>⟨h.invs.succ k,y m _ _ ⟨rfl,z.succ j ?_⟩⟩,λp=>key _ (u ?_)⟩,λo=>key _ (u ?_)⟩,λa=>key _ (u ?_)⟩⟩;all_goals simp[EC, *]
 have a2:=z.all (h.invs.done w).2;refine AK d.pots.length (λi V1=>V=V1/\AW FS d.pots i) ⟨rfl,AW.zero _ _⟩ ?_;rintro i b V1 J e ⟨rfl,z⟩ y;refine⟨λk=>?_,λw=>?_⟩
 ·obtain⟨x,hm,j,l,m,r,q,g⟩:=h.pots.get k;have u:FS x=false->X=false:=λh=>by grind
  refine⟨r,q,k,_,_,_,_,_,g,c223.call ⟨_,rfl,λo=>(G7 (h.potsOk x hm)).call ⟨_,rfl,λp=>⟨h.pots.succ k,y m _ _ ⟨rfl,z.succ j ?_⟩⟩,λp=>key _ (u ?_)⟩,λo=>key _ (u ?_)⟩⟩;all_goals simp[FS, *]
 have a3:=z.all (h.pots.done w).2;refine(c224 (first:=[]) (caps:=[]) h.bounds Tryz.call225 (λf=>!FT f) λf hm=>c225 (h.boundsOk f hm)).call ⟨_,rfl,key _ ?_⟩;simp_all[xW]
theorem JV{V:Mem}{d:Ds}(h:Ds.Ok V d):PP 25 [d.v] V (.bool (A7 d)):=by
 refine Ny ?_;have N:=h.measures.n_eq;have Z:=h.invs.n_eq;have Y:=h.pots.n_eq;have W:=h.bounds.n_eq;have Q:=h.types.n_eq;have n6:=h.procs.n_eq;generalize q:A7 d=X;have key:∀b:Bool,X=b->(xJ (.bool b)=xJ (.bool X)/\V=V):=λn h=>by simp_all
 unfold A7 at q;have f:lensB d=false->X=false:=λh=>by simp_all
 refine DZ.call ⟨_,rfl,λl=>⟨λs=>key _ ?_,λs=>(IL h.globals).call ⟨_,rfl,λe=>⟨λH=>key _ ?_,λH=>⟨λu=>key _ (f ?_),λu=>⟨λh6=>key _ (f ?_),λh6=>⟨λh7=>key _ (f ?_),λh7=>⟨λh8=>key _ (f ?_),λh8=>?_⟩⟩⟩⟩⟩,λe=>key _ ?_⟩⟩,λl=>key _ ?_⟩;·grind
 ·grind
 ·exact decide_eq_false (by omega)
 ·exact decide_eq_false (by omega)
 ·exact decide_eq_false (by omega)
 ·exact decide_eq_false (by omega)
 ·have y:lensB d=true:=decide_eq_true (by omega);rw[l,decide_eq_true (p:=(d.types.length:Int)<=12) (by omega),e,decide_eq_true (p:=(d.procs.length:Int)<=40) (by omega),y]at q;simp only[Bool.true_and]at q;refine AK d.types.length (λi V1=>V=V1/\AW Ei d.types i) ⟨rfl,AW.zero _ _⟩ ?_;rintro i b V1 J G ⟨rfl,j⟩ o;refine⟨λk=>?_,λw=>?_⟩
  ·obtain⟨x,hm,c,a,y,z,m,g⟩:=h.types.get k;have r:Ei x=false->X=false:=λh=>by grind
   refine⟨z,m,k,Ah z,_,_,g,DZ.call ⟨_,rfl,λl=>⟨z,m,k,Ah z,_,_,g,(IL (h.typesOk x hm).fields).call ⟨_,rfl,λu=>⟨h.types.succ k,o y _ _ ⟨rfl,j.succ c ?_⟩⟩,λu=>key _ (r ?_)⟩⟩,λl=>key _ (r ?_)⟩⟩;all_goals simp[Ei, *]
  have a1:=j.all (h.types.done w).2;refine AK d.procs.length (λi V1=>V=V1/\AW DC d.procs i) ⟨rfl,AW.zero _ _⟩ ?_;rintro i b V1 J G ⟨rfl,j⟩ o;refine⟨λk=>?_,λw=>?_⟩
  ·obtain⟨x,hm,c,a,y,z,m,g⟩:=h.procs.get k;have r:DC x=false->X=false:=λh=>by grind
   exact⟨z,m,k,_,_,_,_,_,g,(OZ (h.procsOk x hm)).call ⟨_,rfl,λu=>⟨h.procs.succ k,o y _ _ ⟨rfl,j.succ c u⟩⟩,λu=>key _ (r (eq_false_of_ne_true u))⟩⟩
  have a2:=j.all (h.procs.done w).2;refine(O1 h).call ⟨_,rfl,key _ ?_⟩;simp_all
 ·simp_all
 simp_all
theorem c127{V:Mem}[Tab V]{d:Ds}(h:Ds.Ok V d):PP 127 [d.v] V (.bool (A7 d)):=by
 refine x127 ?_;have x:=h.types.n_eq;have n6:=h.procs.n_eq;generalize k:A7 d=X;have key:∀b:Bool,X=b->(xJ (.bool b)=xJ (.bool X)/\V=V):=λn h=>by simp_all
 unfold A7 at k;refine DL.call ⟨_,rfl,λg=>⟨λu=>key _ ?_,λu=>(c173 h.globals).call ⟨_,rfl,λw=>⟨λz=>key _ ?_,λz=>(c174 h).call ⟨_,rfl,λy=>(c175 (first:=[]) (caps:=[]) h.types Tryz.call176 (λf=>!Ei f) λf hm=>c176 (h.typesOk f hm)).call ⟨_,rfl,λh6=>key _ ?_,λh6=>
   (HS (first:=[]) (caps:=[]) h.procs Tryz.call177 (λf=>!DC f) λf hm=>c177 (h.procsOk f hm)).call ⟨_,rfl,key _ ?_⟩⟩,λy=>key _ ?_⟩⟩,λw=>key _ ?_⟩⟩,λg=>key _ ?_⟩
 ·grind
 ·grind
 ·grind[xW,Ei]
 ·grind
 ·grind
 ·simp_all
 simp_all
end Go.Proofs
namespace Go.Proofs
open Go Go.Sx
def C1:KB:=Ab [110,105,108]
def sE:KB:=Ab []
def BE(d:Ds)(s:KB):Bool:=d.types.any λt=>decide (t.name=s)
def known(d:Ds)(s:KB):Bool:=decide (s=Ai)||decide (s=Ar)||BE d s
def Bi(d:Ds)(a b:KB):Bool:=decide (a=b)||(decide (a=C1)&&BE d b)
def Bn:List Fld->KB->KB
 |[],_=>sE
 |f::l,s=>if f.name=s then f.ty else Bn l s
def tyOf(d:Ds)(s:KB):Option Ty:=d.types.find? λt=>decide (t.name=s)
def BU(d:Ds)(s:KB):Option Pr:=d.procs.find? λt=>decide (t.name=s)
def meOf(d:Ds)(s:KB):Option Ms:=d.measures.find? λt=>decide (t.name=s)
def C2(d:Ds)(t name:KB):KB×Int:=
 match tyOf d t with
 |none=>(sE,11)
 |some ty=>if Bn ty.fields name=sE then(sE,9)else(Bn ty.fields name,0)
def D3(d:Ds):List KB->List Fld->Bool
 |a::l,f::fs=>Bi d a f.ty&&D3 d l fs
 |_,_=>true
def D4(d:Ds)(name:KB)(l:List KB):KB×Int:=
 match BU d name with
 |none=>(sE,9)
 |some p=>if l.length≠p.params.length then(sE,3)else if D3 d l p.params=true then(p.result,0)else(sE,11)
def CP(ok:Bool)(t:KB):KB×Int:=if ok=true then(t,0)else(sE,11)
structure Sc where
 vars:List Fld
 body:Bool
def E6(d:Ds)(name:KB)(l:List KB):KB×Int:=
 match meOf d name with
 |none=>(sE,9)
 |some m=>if l.length≠1 then(sE,3)else CP (Bi d (l.getD 0 sE) m.ty) Ai
def ED(d:Ds)(sc:Sc)(name:KB)(l:List KB):KB×Int:=
 if sc.body=true then(if(D4 d name l).2=0/\(D4 d name l).1=sE then(sE,11)else D4 d name l)else E6 d name l
def allT(l:List KB)(t:KB):Bool:=l.all λx=>decide (x=t)
def Ej(d:Ds)(sc:Sc)(op:Int)(s:KB)(l:List KB):KB×Int:=
 if op=1 then(Ai,0)else if op=2 then(Ar,0)else if op=3 then(C1,0)
 else if op=4 then(if Bn sc.vars s=sE then(sE,9)else(Bn sc.vars s,0))
 else if op=5 then C2 d (l.getD 0 sE) s
 else if op=6 then(if sc.body=false then(sE,13)else if BE d s=false then(sE,9)else(s,0))
 else if op=7 then ED d sc s l
 else if op=14∨op=15 then CP (Bi d (l.getD 0 sE) (l.getD 1 sE)||Bi d (l.getD 1 sE) (l.getD 0 sE)) Ar
 else if op=16∨op=17 then CP (allT l Ai) Ar
 else if op=18∨op=19∨op=20 then CP (allT l Ar) Ar
 else if op=21 then CP (decide (l.getD 0 sE=Ar)&&(Bi d (l.getD 1 sE) (l.getD 2 sE)||Bi d (l.getD 2 sE) (l.getD 1 sE))) (if l.getD 1 sE=C1 then l.getD 2 sE else l.getD 1 sE)
 else CP (allT l Ai) Ai
mutual
def Al(d:Ds)(sc:Sc):E->KB×Int
 |.mk op _ s _ k=>if(partsT d sc [] k).2≠0 then(sE,(partsT d sc [] k).2)else Ej d sc op s (partsT d sc [] k).1
def partsT(d:Ds)(sc:Sc)(acc:List KB):List E->List KB×Int
 |[]=>(acc,0)
 |x::xs=>if(Al d sc x).2≠0 then([],(Al d sc x).2)else partsT d sc (acc++[(Al d sc x).1]) xs
end
theorem IM(d:Ds)(sc:Sc)(e:E):Al d sc e=if(partsT d sc [] e.k).2≠0 then(sE,(partsT d sc [] e.k).2)else Ej d sc e.op e.s (partsT d sc [] e.k).1:=by
 cases e;rfl
theorem Gs(d:Ds)(sc:Sc)(acc:List KB)(x:E)(xs:List E):partsT d sc acc (x::xs)=if(Al d sc x).2≠0 then([],(Al d sc x).2)else partsT d sc (acc++[(Al d sc x).1]) xs:=by rw[partsT]
theorem Ha(d:Ds)(sc:Sc)(acc:List KB):partsT d sc acc []=(acc,0):=by rw[partsT]
theorem JW(d:Ds)(sc:Sc):∀(k:List E)(acc:List KB),(partsT d sc acc k).2=0->(partsT d sc acc k).1.length=acc.length+k.length
 |[],acc,_=>by rfl
 |x::xs,acc,h=>by
  rw[Gs]at h⊢;split at h;·omega
  ·rename_i g;rw[if_neg g,JW d sc xs _ h,List.length_append,zy,zy,List.length_nil];omega
def AI(d:Ds)(p:Pr):Sc:=⟨p.params++p.locals++d.globals,true⟩
def CI:KB:=Ab [116,104,105,115]
def AQ(d:Ds)(t:KB):Sc:=⟨(if t=sE then[]else[⟨CI,t⟩])++d.globals,false⟩
def DD(d:Ds)(p:Pr):Sc:=⟨p.params++d.globals,false⟩
def DM(d:Ds)(sc:Sc)(result:KB)(op:Int)(s:KB)(es:List E):Int:=
 if op=6 then
  match es with
  |[]=>0
  |e::_=>if(partsT d sc [] e.k).2≠0 then(partsT d sc [] e.k).2 else(D4 d e.s (partsT d sc [] e.k).1).2
 else if(partsT d sc [] es).2≠0 then(partsT d sc [] es).2
 else if op=1 then(if Bn sc.vars s=sE then 9 else if Bi d ((partsT d sc [] es).1.getD 0 sE) (Bn sc.vars s)=true then 0 else 11)
 else if op=2 then(if(C2 d ((partsT d sc [] es).1.getD 0 sE) s).2≠0 then(C2 d ((partsT d sc [] es).1.getD 0 sE) s).2 else if Bi d ((partsT d sc [] es).1.getD 1 sE) (C2 d ((partsT d sc [] es).1.getD 0 sE) s).1=true then 0 else 11)
 else if op=3∨op=4 then(if(partsT d sc [] es).1.getD 0 sE=Ar then 0 else 11)
 else if op=5 then(if(partsT d sc [] es).1.length=0 then(if result=sE then 0 else 11)else if result≠sE/\Bi d ((partsT d sc [] es).1.getD 0 sE) result=true then 0 else 11)
 else 0
mutual
def DN(d:Ds)(sc:Sc)(result:KB)(n:Int):S->Int×Int
 |.mk op s _ es _ ls _ xs=>
  if DM d sc result op s es≠0 then(n,DM d sc result op s es)
  else if(AJ d sc result (n+1) ls).2≠0 then AJ d sc result (n+1) ls
  else AJ d sc result (AJ d sc result (n+1) ls).1 xs
def AJ(d:Ds)(sc:Sc)(result:KB)(n:Int):List S->Int×Int
 |[]=>(n,0)
 |x::xs=>if(DN d sc result n x).2≠0 then DN d sc result n x else AJ d sc result (DN d sc result n x).1 xs
end
theorem stT_eq(d:Ds)(sc:Sc)(result:KB)(n:Int)(x:S):DN d sc result n x=if DM d sc result x.op x.s x.es≠0 then(n,DM d sc result x.op x.s x.es)else if(AJ d sc result (n+1) x.ls).2≠0 then AJ d sc result (n+1) x.ls else AJ d sc result (AJ d sc result (n+1) x.ls).1 x.xs:=by
 cases x;unfold DN;rfl
theorem IN(d:Ds)(sc:Sc)(result:KB)(n:Int)(x:S)(xs:List S):AJ d sc result n (x::xs)=if(DN d sc result n x).2≠0 then DN d sc result n x else AJ d sc result (DN d sc result n x).1 xs:=by rw[AJ]
theorem stsT_nil(d:Ds)(sc:Sc)(result:KB)(n:Int):AJ d sc result n []=(n,0):=by rw[AJ]
def BF(d:Ds)(l:List Fld)(i:Nat)(f:Fld):Int:=if(l.take i).any (λg=>decide (g.name=f.name))=true then 10 else if known d f.ty=true then 0 else 9
def Ak{α β:Type}(f:Nat->α->Option β):Nat->List α->Option β
 |_,[]=>none
 |i,x::xs=>match f i x with|some b=>some b|none=>Ak f (i+1) xs
def Cp(d:Ds)(l:List Fld):Int:=(Ak (λi f=>if BF d l i f≠0 then some (BF d l i f)else none) 0 l).getD 0
abbrev Flt:=KB×Int×Int
def types1(d:Ds):Option Flt:=Ak (λi t=>if(d.types.take i).any (λg=>decide (g.name=t.name))=true then some (t.name,-1,10)else none) 0 d.types
def types2(d:Ds):Option Flt:=Ak (λ_ t=>if Cp d t.fields≠0 then some (t.name,-1,Cp d t.fields)else none) 0 d.types
def types3(d:Ds):Option Flt:=Ak (λi f=>if BF d d.globals i f≠0 then some (f.name,-1,BF d d.globals i f)else none) 0 d.globals
def Gt(d:Ds):Option Flt:=(types1 d).or ((types2 d).or (types3 d))
def Ft(d:Ds):Option Flt:=Ak (λi p=>if(d.procs.take i).any (λg=>decide (g.name=p.name))=true then some (p.name,-1,10)else if Cp d (p.params++p.locals)≠0 then some (p.name,-1,Cp d (p.params++p.locals))else if p.result≠sE/\known d p.result=false then some (p.name,-1,9)else none) 0 d.procs
def form1(d:Ds):Option Flt:=Ak (λi m=>if(d.measures.take i).any (λg=>decide (g.name=m.name))=true then some (m.name,-1,10)else if BE d m.ty=false then some (m.name,-1,9)else none) 0 d.measures
def form2(d:Ds):Option Flt:=Ak (λi m=>if(d.invs.take i).any (λg=>decide (g.name=m.name))=true then some (m.name,-1,10)else if m.ty≠sE/\BE d m.ty=false then some (m.name,-1,9)else none) 0 d.invs
def sPot:KB:=Ab [112,111,116,101,110,116,105,97,108]
def form3(d:Ds):Option Flt:=Ak (λ_ m=>if m.ty≠sE/\BE d m.ty=false then some (sPot,-1,9)else none) 0 d.pots
def form4(d:Ds):Option Flt:=Ak (λi b=>if(BU d b.proc).isNone=true then some (b.proc,-1,9)else if(d.bounds.take i).any (λg=>decide (g.proc=b.proc))=true then some (b.proc,-1,10)else none) 0 d.bounds
def C3(d:Ds):Option Flt:=(form1 d).or ((form2 d).or ((form3 d).or (form4 d)))
def D5(d:Ds):Option Flt:=Ak (λ_ p=>if(AJ d (AI d p) p.result 0 p.body).2≠0 then some (p.name,(AJ d (AI d p) p.result 0 p.body).1,(AJ d (AI d p) p.result 0 p.body).2)else none) 0 d.procs
def A2(d:Ds)(sc:Sc)(e:E)(t:KB):Int:=if(Al d sc e).2≠0 then(Al d sc e).2 else if(Al d sc e).1=t then 0 else 11
def exp1(d:Ds):Option Flt:=Ak (λ_ m=>if A2 d (AQ d m.ty) m.x Ai≠0 then some (m.name,-1,A2 d (AQ d m.ty) m.x Ai)else none) 0 d.measures
def exp2(d:Ds):Option Flt:=Ak (λ_ m=>if A2 d (AQ d m.ty) m.x Ar≠0 then some (m.name,-1,A2 d (AQ d m.ty) m.x Ar)else none) 0 d.invs
def exp3(d:Ds):Option Flt:=Ak (λ_ m=>if A2 d (AQ d m.ty) m.x Ai≠0 then some (sPot,-1,A2 d (AQ d m.ty) m.x Ai)else none) 0 d.pots
def Gu:Pr:=⟨sE,⟨none,0,0⟩,[],sE,⟨none,0,0⟩,[],⟨none,0,0⟩,[]⟩
def exp4(d:Ds):Option Flt:=Ak (λ_ m=>if A2 d (DD d ((BU d m.proc).getD Gu)) m.x Ai≠0 then some (m.proc,-1,A2 d (DD d ((BU d m.proc).getD Gu)) m.x Ai)else none) 0 d.bounds
def D6(d:Ds):Option Flt:=(exp1 d).or ((exp2 d).or ((exp3 d).or (exp4 d)))
def BJ(d:Ds):Option Flt:=(Gt d).or ((Ft d).or ((C3 d).or ((D5 d).or (D6 d))))
def fltR(o:Option Flt):Flt:=o.getD (sE,0,0)
end Go.Proofs
namespace Go.Proofs
open Go Go.Sx
attribute [local irreducible] Go.Sx.Tri
noncomputable def ti(t:Nat):TypeInfo:=(xG.info? t).getD default
section
variable{α:Type}
def AppP(t e sz:Nat)(row:α->List Value):Prop:=∀{V0 V:Mem}{ty:Nat}{x y:Operand}{vals:Operand->Value}{s u:Sl}{xs ys:List α}(g:vals x=.slice s.p s.n s.c)(f:vals y=.slice u.p u.n u.c)(own:Sx.Own V0 V e sz s (xs.flatMap row))(h:Ad V u sz (ys.map row))
 (k:xs.length+ys.length<=2147483648) {q:Value->Mem->Prop} (w:∀s' V',Sx.Own V0 V' e sz s' ((xs++ys).flatMap row)->q (.slice s'.p s'.n s'.c) V'),
 GenK xG (.call {callee:=.builtin .append,args:=#[x,y],argTypes:=#[t,t]}) ty vals V q
theorem appG{t e sz:Nat}{row:α->List Value}(g:xG.underlying t=some (.slice e))(hi:xG.info? e=some (ti e))(f:(ti e).zero=some ((ti e).zero.getD undef))(w:(ti e).size=sz)(z:((ti e).zero.getD undef).cells.size=sz)(j:decide ((ti e).bytes<=65536)=true)
  (i:0<sz) (l:∀x,(row x).length=sz) (hu:∀x,∀u∈row x,u.oneCell'=true):AppP t e sz row:=by
 intro V0 V ty x y vals s u xs o n m own h k q r;exact GenK.appendS g hi f w z i (of_decide_eq_true j) n m own l h hu k r
end
theorem app37:AppP 37 9 1 BD:=appG Tryz.underlying37 (by kernel_rfl) (by kernel_rfl) (by kernel_rfl) (by kernel_rfl) (by kernel_rfl) (by decide) (by intro _;rfl) λx u hu=>by simp[BD,vS]at hu;rw[hu];rfl
theorem Ek:AppP 23 110 2 Fld.row:=appG Tryz.underlying23 (by kernel_rfl) (by kernel_rfl) (by kernel_rfl) (by kernel_rfl) (by kernel_rfl) (by decide) (by intro _;rfl) λx u hu=>by simp[Fld.row,vS]at hu;rcases hu with rfl|rfl<;>rfl
def Ci{α:Type}(p:α->Bool)(xs:List α):Int:=match xs.findIdx? p with|some i=>(i:Int)|none=>-1
theorem Hb{α:Type}{p:α->Bool}{xs:List α}{i:Nat}{x:α}(h:AW (λy=>!p y) xs i)(k:xs[i]?=some x)(u:p x=true):Ci p xs=i:=by
 have g:=(yv.1 k).1;have w:=(yv.1 k).2;have:xs.findIdx? p=some i:=yf.2 ⟨g,by grind,λj f=>by
  have:=h j _ f (yu (Nat.lt_trans f g));simpa using this⟩
 unfold Ci;rw[this]
theorem Hc{α:Type}{p:α->Bool}{xs:List α}{i:Nat}(h:AW (λy=>!p y) xs i)(hi:xs.length<=i):Ci p xs=-1:=by
 have:xs.findIdx? p=none:=List.findIdx?_eq_none_iff.2 λx k=>by
  obtain⟨j,g,rfl⟩:=yc.1 k;have:=h j _ (by omega) (yu g);simpa using this
 unfold Ci;rw[this]
theorem Cw{α:Type}(p:α->Bool)(xs:List α):(Ci p xs=-1/\xs.find? p=none/\xs.any p=false)∨∃(i:Nat)(x:α),Ci p xs=i/\xs[i]?=some x/\xs.find? p=some x/\i<xs.length/\p x=true/\x∈xs/\xs.any p=true/\(xs.take i).any p=false:=by
 cases h:xs.findIdx? p with
 |none=>
  grind[Ci]
 |some i=>
  obtain⟨k,g,u⟩:=yf.1 h;refine .inr ⟨i,xs[i],by unfold Ci;rw[h],yu k,?_,k,g,yn _,xZ.2 ⟨_,yn _,g⟩,?_⟩
  ·rw[List.find?_eq_some_iff_getElem];grind
  ·rw[xz];intro x f;obtain⟨j,w,rfl⟩:=yc.1 f;grind
theorem Hd{α:Type}{p:α->Bool}{xs:List α}{i:Nat}{x:α}(h:AW (λy=>!p y) xs i)(k:xs[i]?=some x)(g:p x=false):AW (λy=>!p y) xs (i+1):=h.succ k (by simp[g])
theorem c119{V:Mem}{d:Ds}(h:Ds.Ok V d){s:KB}:PP 119 [d.v,.string s] V (.int .i64 (Ci (λt=>decide (t.name=s)) d.types)):=by
 refine x119 ?_;refine AK d.types.length (λi V1=>V=V1/\AW (λt=>!decide (t.name=s)) d.types i) ⟨rfl,AW.zero _ _⟩ ?_;rintro i b V1 J r ⟨rfl,f⟩ j;refine⟨λk=>?_,λu=>?_⟩
 ·obtain⟨x,hm,z,l,n,y,m,g⟩:=h.types.get k;refine⟨y,m,k,Ah y,_,_,g,λw=>?_,λw=>⟨h.types.succ k,j n _ _ ⟨rfl,Hd (p:=λt=>decide (t.name=s)) f z (decide_eq_false w)⟩⟩⟩;rw[Hb (p:=λt=>decide (t.name=s)) f z (decide_eq_true w)];simp_all
 ·rw[Hc (p:=λt=>decide (t.name=s)) f (h.types.done u).2];exact⟨rfl,rfl⟩
theorem c158{V:Mem}{d:Ds}(h:Ds.Ok V d){s:KB}:PP 158 [d.v,.string s] V (.int .i64 (Ci (λt=>decide (t.name=s)) d.procs)):=by
 refine x158 ?_;refine AK d.procs.length (λi V1=>V=V1/\AW (λt=>!decide (t.name=s)) d.procs i) ⟨rfl,AW.zero _ _⟩ ?_;rintro i b V1 J r ⟨rfl,f⟩ j;refine⟨λk=>?_,λu=>?_⟩
 ·obtain⟨x,hm,z,l,n,y,m,g⟩:=h.procs.get k;refine⟨y,m,k,Ah y,_,_,_,_,_,g,λw=>?_,λw=>⟨h.procs.succ k,j n _ _ ⟨rfl,Hd (p:=λt=>decide (t.name=s)) f z (decide_eq_false w)⟩⟩⟩;rw[Hb (p:=λt=>decide (t.name=s)) f z (decide_eq_true w)];simp_all
 ·rw[Hc (p:=λt=>decide (t.name=s)) f (h.procs.done u).2];exact⟨rfl,rfl⟩
theorem c160{V:Mem}{d:Ds}(h:Ds.Ok V d){s:KB}:PP 160 [d.v,.string s] V (.int .i64 (Ci (λt=>decide (t.name=s)) d.measures)):=by
 refine x160 ?_;refine AK d.measures.length (λi V1=>V=V1/\AW (λt=>!decide (t.name=s)) d.measures i) ⟨rfl,AW.zero _ _⟩ ?_;rintro i b V1 J r ⟨rfl,f⟩ j;refine⟨λk=>?_,λu=>?_⟩
 ·obtain⟨x,hm,z,l,n,y,m,g⟩:=h.measures.get k;refine⟨y,m,k,Ah y,_,_,_,_,_,_,_,g,λw=>?_,λw=>⟨h.measures.succ k,j n _ _ ⟨rfl,Hd (p:=λt=>decide (t.name=s)) f z (decide_eq_false w)⟩⟩⟩;rw[Hb (p:=λt=>decide (t.name=s)) f z (decide_eq_true w)];simp_all
 ·rw[Hc (p:=λt=>decide (t.name=s)) f (h.measures.done u).2];exact⟨rfl,rfl⟩
section
variable{V:Mem}{d:Ds}
theorem c161(h:Ds.Ok V d){s:KB}:PP 161 [d.v,.string s] V (.bool (BE d s)):=by
 refine x161 ?_;refine(c119 h).call ⟨_,rfl,?_⟩;rcases Cw (λt:Ty=>decide (t.name=s)) d.types with⟨k,f,g⟩|⟨i,x,k,f,g,u,w,h6,h7,_⟩;·rw[k,BE,g];exact⟨rfl,rfl⟩
 ·rw[k,BE,h7,decide_eq_true (by omega)];exact⟨rfl,rfl⟩
theorem c159(h:Ds.Ok V d){s:KB}:PP 159 [d.v,.string s] V (.bool (known d s)):=by
 refine x159 ?_;refine⟨λk=>?_,λk=>⟨λg=>?_,λg=>(c161 h).call ⟨_,rfl,?_⟩⟩⟩<;>simp[known,Ai,Ar, *]
theorem c216(h:Ds.Ok V d){s t:KB}:PP 216 [d.v,.string s,.string t] V (.bool (Bi d s t)):=by
 refine x216 ?_;unfold Bi C1;refine⟨λk=>?_,λk=>⟨λg=>(c161 h).call ⟨_,rfl,?_⟩,λg=>?_⟩⟩;·simp_all
 ·simp_all
 simp_all
theorem LG(fs:List Fld):D3 d [] fs=true:=by simp[D3]
theorem c215{l:Sl}{xs:List Fld}(h:Ad V l 2 (xs.map Fld.row)){s:KB}:PP 215 [l.v,.string s] V (.string (Bn xs s)):=by
 refine x215 ?_;refine AK xs.length (λi V1=>V=V1/\Bn xs s=Bn (xs.drop i) s) ⟨rfl,rfl⟩ ?_;rintro i b V1 J r ⟨rfl,z⟩ j;refine⟨λk=>?_,λu=>?_⟩
 ·obtain⟨x,hm,q,w,n,f,y,g⟩:=h.get k;rw[w,Bn]at z;refine⟨f,y,k,Ah f,_,_,g,λm=>⟨f,y,k,Ah f,_,_,g,?_⟩,λm=>⟨h.succ k,j n _ _ ⟨rfl,?_⟩⟩⟩;·simp_all
  simp_all
 ·rw[z,(h.done u).1];exact⟨rfl,rfl⟩
theorem c217(h:Ds.Ok V d){s t:KB}:PP 217 [d.v,.string s,.string t] V (.tuple #[.string (C2 d s t).1,.int .i64 (C2 d s t).2]):=by
 refine x217 ?_;refine(c119 h).call ⟨_,rfl,?_⟩;unfold C2 tyOf;rcases Cw (λt:Ty=>decide (t.name=s)) d.types with⟨f,u,w⟩|⟨i,x,f,u,w,q,o,h6,h7,_⟩;·rw[f,u];exact⟨λ_=>⟨rfl,rfl⟩,λh=>absurd h (by decide)⟩
 ·rw[f,w];have p:=h.types.n_eq;have k:(i:Int)<(d.ts.n:Int):=by omega
  obtain⟨y,hm,z,l,c,j,m,g⟩:=h.types.get k;rw[u]at z;cases z;refine⟨λh=>absurd h (by omega),λ_=>⟨j,m,k,Ah j,_,_,g,(c215 (h.typesOk x h6).fields).call ⟨_,rfl,λr=>?_,λr=>?_⟩⟩⟩;·grind[sE]
  grind[sE]
theorem c263{b:Bool}{s:KB}:PP 263 [.bool b,.string s] V (.tuple #[.string (CP b s).1,.int .i64 (CP b s).2]):=by
 refine x263 ?_;refine⟨λh=>?_,λh=>?_⟩;·unfold CP;rw[if_pos h];exact⟨rfl,rfl⟩
 ·unfold CP;rw[if_neg h];exact⟨rfl,rfl⟩
theorem c264{l:Sl}{xs:List KB}(h:Ad V l 1 (xs.map BD)){s:KB}:PP 264 [l.v,.string s] V (.bool (allT xs s)):=by
 refine x264 ?_;refine AK xs.length (λi V1=>V=V1/\AW (λx=>decide (x=s)) xs i) ⟨rfl,AW.zero _ _⟩ ?_;rintro i b V1 J q ⟨rfl,u⟩ z;refine⟨λk=>?_,λf=>?_⟩
 ·obtain⟨x,hm,y,j,n,m,r,g⟩:=h.get k;refine⟨m,r,k,_,g,λw=>⟨h.succ k,z n _ _ ⟨rfl,u.succ y (decide_eq_true w)⟩⟩,λw=>?_⟩;unfold allT;grind
 ·unfold allT;rw[u.all (h.done f).2];simp_all
theorem c213(h:Ds.Ok V d){s:KB}{l:Sl}{xs:List KB}(o:Ad V l 1 (xs.map BD)):PP 213 [d.v,.string s,l.v] V (.tuple #[.string (D4 d s xs).1,.int .i64 (D4 d s xs).2]):=by
 refine x213 ?_;refine(c158 h).call ⟨_,rfl,?_⟩;unfold D4 BU;rcases Cw (λt:Pr=>decide (t.name=s)) d.procs with⟨a,e,Q⟩|⟨i,x,a,e,Q,K,S,h6,h7,_⟩;·rw[a,e];exact⟨λ_=>⟨rfl,rfl⟩,λh=>absurd h (by decide)⟩
 ·rw[a,Q];have T:=h.procs.n_eq;have k:(i:Int)<(d.ps.n:Int):=by omega
  obtain⟨y,hm,P,A,I,M,F,z⟩:=h.procs.get k;rw[e]at P;cases P;have m:=h.procsOk x h6;have U:=o.n_eq;have e2:=m.params.n_eq;refine⟨λh=>absurd h (by omega),λ_=>⟨M,F,k,_,_,_,_,_,z,λL=>?_,λL=>?_⟩⟩
  ·have g:xs.length=x.params.length:=by omega
   simp only[g,ne_eq,not_true_eq_false,if_false];refine C0 xs.length (λi V1=>V=V1/\D3 d xs x.params=D3 d (xs.drop i) (x.params.drop i)) ⟨rfl,rfl⟩ ?_;rintro j b c V1 J hi ⟨rfl,p⟩ R;refine⟨λk=>?_,λH=>?_⟩
   ·obtain⟨y,X,B,r,G,N,Z,u⟩:=o.get k;obtain⟨f,C,D,Y,E,q,W,w⟩:=m.params.get (i:=j) (by omega);rw[r,Y,D3]at p;refine⟨N,Z,k,_,u,q,W,by omega,Ah q,_,_,w,(c216 h).call ⟨_,rfl,λO=>⟨o.succ k,R G _ _ _ ⟨rfl,?_⟩⟩,λO=>?_⟩⟩;·simp_all
    ·rw[eq_false_of_ne_true O,xX]at p;rw[p];exact⟨rfl,rfl⟩
   ·rw[(o.done H).1,LG]at p;simp_all
  ·have g:¬xs.length=x.params.length:=by omega
   simp only[ne_eq,g,not_false_eq_true,if_true];exact⟨by rfl,by simp_all⟩
theorem El{l:Sl}{xs:List KB}(u:Ad V l 1 (xs.map BD)){i:Nat}(hi:i<xs.length):¬(l.p=none)/\(i:Int)<(l.n:Int)/\V.rowp l.p i 1=some [.string (xs.getD i sE)]:=by
 have m:=u.n_eq;have k:(i:Int)<(l.n:Int):=by omega
 obtain⟨y,z,g,w,x,f,j,h⟩:=u.get k;rw[List.getD_eq_getElem?_getD,g];rw[Nat.mul_one]at h;exact⟨f,k,h⟩
theorem c262(h:Ds.Ok V d){sl:Sl}{sc:Sc}{s:KB}{l:Sl}{xs:List KB}(z:Ad V l 1 (xs.map BD)):
  PP 262 [d.v,.agg #[sl.v,.bool sc.body],.string s,l.v] V (.tuple #[.string (ED d sc s xs).1,.int .i64 (ED d sc s xs).2]):=by
 refine x262 ?_;refine⟨λf=>(c213 h z).call ⟨_,_,rfl,λj=>⟨λk=>?_,λk=>?_⟩,λj=>?_⟩,λf=>?_⟩;·unfold ED sE;rw[if_pos f,if_pos ⟨j,k⟩];exact⟨rfl,rfl⟩
 ·unfold ED sE;rw[if_pos f,if_neg (λh=>k h.2)];exact⟨rfl,rfl⟩
 ·unfold ED;rw[if_pos f,if_neg (λh=>j h.1)];exact⟨rfl,rfl⟩
 ·unfold ED;rw[if_neg f];refine(c160 h).call ⟨_,rfl,?_⟩;unfold E6 meOf;rcases Cw (λt:Ms=>decide (t.name=s)) d.measures with⟨k,m,r⟩|⟨i,x,k,m,r,H,J,h6,h7,_⟩;·rw[k,m];exact⟨λ_=>⟨rfl,rfl⟩,λh=>absurd h (by decide)⟩
  ·rw[k,r];have G:=h.measures.n_eq;have u:(i:Int)<(d.ms.n:Int):=by omega
   obtain⟨y,hm,q,p,c,o,a,w⟩:=h.measures.get u;rw[m]at q;cases q;have N:=z.n_eq;refine⟨λh=>absurd h (by omega),λ_=>⟨λe=>?_,λe=>?_⟩⟩
   ·have g:xs.length=1:=by omega
    obtain⟨a1,a2,a3⟩:=El z (i:=0) (by omega);simp only[g,ne_eq,not_true_eq_false,if_false];exact⟨a1,by omega,by omega,_,a3,o,a,u,Ah o,_,_,_,_,_,_,_,w,(c216 h).call ⟨_,rfl,c263.call ⟨_,_,rfl,rfl,rfl⟩⟩⟩
   ·have g:¬xs.length=1:=by omega
    simp only[ne_eq,g,not_false_eq_true,if_true];exact⟨by rfl,by simp_all⟩
end
theorem arity{op n:Int}{s:KB}{len:Int}(h:CF op n s len=true):(op=5->len=1)/\(op=14∨op=15->len=2)/\(op=21->len=3)/\len<=6:=by
 grind[CF,Bs]
theorem HU{d:Int}{e:E}(h:Bv d e=true):CF e.op e.n e.s e.k.length=true:=by
 cases e;unfold Bv at h;rw[zC,zC]at h;exact h.1.2
theorem okEs_mem{d:Int}:∀{l:List E},okEs d l=true->∀x∈l,Bv d x=true
 |[],_,x,k=>absurd k xD
 |y::l,h,x,k=>by
  unfold okEs at h;rw[zC]at h;rcases List.mem_cons.1 k with rfl|k;·exact h.1
  ·exact okEs_mem h.2 x k
theorem IP{d:Int}{e:E}(h:Bv d e=true):∀x∈e.k,Bv (d+1) x=true:=by
 cases e;unfold Bv at h;rw[zC]at h;exact okEs_mem h.2
theorem ownS{V0 V:Mem}{s:Sl}{l:List KB}(h:Own V0 V 9 1 s (l.flatMap BD)):Ad V s 1 (l.map BD):=h.rows (λ_=>rfl) (by decide)
theorem HV{V:Mem}{b:Nat}{s:KB}{t:Nat}(h:V b=some (.cells #[.string s] t (0,0))):Ad V ⟨some ⟨b,0,none⟩,1,1⟩ 1 ([s].map BD):=
 Ad.cells (xs:=[s]) (row:=BD) h rfl (λ_=>rfl) rfl (by simp)
def He(sl:Sl)(sc:Sc):Value:=.agg #[sl.v,.bool sc.body]
section
variable{V:Mem}{d:Ds}{sc:Sc}{sl:Sl}
def RefE(V:Mem)(d:Ds)(sl:Sl)(sc:Sc)(e:E):Prop:=∀V1,V.sub V1->PP 214 [d.v,He sl sc,e.v] V1 (.tuple #[.string (Al d sc e).1,.int .i64 (Al d sc e).2])
theorem refParts(e:E)(G:E.Ok V e)(H:(e.k.length:Int)<=6)(N:∀x∈e.k,RefE V d sl sc x):
  Tri xG 212 #[d.v,He sl sc,e.v] V λr V'=>∃s':Sl,r=.returned (.tuple #[.slice s'.p s'.n s'.c,.int .i64 (partsT d sc [] e.k).2])/\V.sub V'/\Ad V' s' 1 ((partsT d sc [] e.k).1.map BD):=by
 have Z:=G.rows;refine x212 ?_;refine loop4s (mk:=λs:Sl=>.slice s.p s.n s.c) (mc:=.int .i64) (md:=λs:Sl=>.slice s.p s.n s.c) ⟨none,0,0⟩ 0 ⟨none,0,0⟩ AT e.k.length (λi s V1=>∃acc,Own V V1 9 1 s (acc.flatMap BD)/\partsT d sc [] e.k=partsT d sc acc (e.k.drop i)/\acc.length=i) ⟨[],Own.nil (Mem.sub.refl _) _ _,rfl,rfl⟩ ?_;rintro i b c s V1 J O ⟨acc,g,f,w⟩ Y;have z:=Z.sub g.sub;refine⟨λy=>?_,λl=>?_⟩
 ·obtain⟨x,hm,A,m,W,q,Q,j⟩:=z.get y;rw[m,Gs]at f;refine⟨q,Q,y,_,_,_,_,j,(N x hm V1 g.sub).call ⟨_,_,rfl,λo=>?_,λo=>?_⟩⟩
  ·intro b1 a;rw[if_neg (λh=>h o)]at f;refine app37 (s:=s) (u:=⟨some ⟨b1,0,none⟩,1,1⟩) (xs:=acc) (ys:=[(Al d sc x).1]) rfl rfl (g.new a _) (HV Ao) (by simp;omega) λs' V' P=>⟨s',rfl,z.succ y,Y W _ _ _ _ ⟨_,P,f,by simp[w]⟩⟩
  ·rw[if_pos o]at f;exact⟨⟨none,0,0⟩,by rw[f],g.sub,by rw[f];exact Ad.nil⟩
 ·rw[(z.done l).1,Ha]at f;exact⟨s,by rw[f],g.sub,by grind[ownS]⟩
set_option maxRecDepth 4000 in
theorem refExpr(U:Ds.Ok V d)(A:Ad V sl 2 (sc.vars.map Fld.row)):∀(e:E),E.Ok V e->∀I,Bv I e=true->RefE V d sl sc e:=by
 intro e;induction e using E.ind with
 |h e ih=>
 intro T I Y V1 O;have c:=arity (HU Y);have hk:∀x∈e.k,RefE V1 d sl sc x:=λx M V2 h2=>ih x M (T.kids x M) (I+1) (IP Y x M) V2 (O.trans h2);refine A1.mk (x214 ?_);refine Tri.mono (refParts e (T.sub O) c.2.2.2 hk) ?_;rintro _ V2 ⟨s',rfl,v,g⟩;rw[IM];have o:=JW d sc e.k [];generalize hPT:partsT d sc [] e.k=pt at g o;obtain⟨l,f⟩:=pt;refine⟨s',f,rfl,λz=>?_,λz=>?_⟩
 ·subst z;have o:l.length=e.k.length:=by simp_all
  simp only[ne_eq,not_true_eq_false,if_false];have r:=U.sub (O.trans v);have W:=A.sub (O.trans v);generalize w:Ej d sc e.op e.s l=X;have key:∀a b,X=(a,b)->(xJ (.tuple #[.string a,.int .i64 b])=xJ (.tuple #[.string X.1,.int .i64 X.2])/\V1.sub V2):=λa b h=>by simp_all
  have i:=λt=>c264 g (s:=t);have u:=λa b=>c216 r (s:=a) (t:=b);have H:=λh:0<l.length=>El g h;have at1:=λh:1<l.length=>El g h;have at2:=λh:2<l.length=>El g h;unfold Ej at w;refine⟨λy=>key _ _ ?_,λy=>⟨λj=>key _ _ ?_,λj=>⟨λn=>key _ _ ?_,λn=>⟨λm=>?_,λm=>⟨λq=>?_,λq=>⟨λp=>?_,λp=>⟨λJ=>?_,λJ=>⟨λF=>?_,λF=>⟨λL=>?_,λL=>⟨λR=>?_,λR=>⟨λB=>?_,λB=>⟨λC=>?_,λC=>⟨λD=>?_,λD=>⟨λK=>?_,λK=>⟨λG=>?_,λG=>?_⟩⟩⟩⟩⟩⟩⟩⟩⟩⟩⟩⟩⟩⟩⟩;·rw[<-w,if_pos y];rfl
  ·rw[<-w,if_neg y,if_pos j];rfl
  ·rw[<-w,if_neg y,if_neg j,if_pos n];rfl
  ·rw[if_neg y,if_neg j,if_neg n,if_pos m]at w;refine(c215 W).call ⟨_,rfl,λh=>key _ _ ?_,λh=>key _ _ ?_⟩;·grind[Bn,sE]
   grind[Bn,sE]
  ·rw[if_neg y,if_neg j,if_neg n,if_neg m,if_pos q]at w;obtain⟨a1,a2,a3⟩:=H (by omega);exact⟨a1,by omega,a2,_,a3,(c217 r).call ⟨_,_,rfl,key _ _ (by rw[<-w])⟩⟩
  ·rw[if_neg y,if_neg j,if_neg n,if_neg m,if_neg q,if_pos p]at w;refine⟨λS=>(c161 r).call ⟨_,rfl,λZ=>key _ _ ?_,λZ=>key _ _ ?_⟩,λS=>key _ _ ?_⟩;·simp_all
   ·rw[<-w,if_neg (by rw[S];simp),if_pos (eq_false_of_ne_true Z)];rfl
   ·rw[<-w,if_pos (eq_false_of_ne_true S)];rfl
  ·rw[if_neg y,if_neg j,if_neg n,if_neg m,if_neg q,if_neg p,if_pos J]at w;exact(c262 r (sl:=sl) g).call ⟨_,_,rfl,key _ _ (by rw[<-w])⟩
  iterate 2
   ·rw[if_neg y,if_neg j,if_neg n,if_neg m,if_neg q,if_neg p,if_neg J,if_pos (by omega)]at w;obtain⟨a1,a2,a3⟩:=H (by have:=c.2.1 (by omega);omega);obtain⟨b1,b2,b3⟩:=at1 (by have:=c.2.1 (by omega);omega);refine⟨a1,by omega,a2,_,a3,b1,by omega,b2,_,b3,(u _ _).call ⟨_,rfl,λh=>c263.call ⟨_,_,rfl,key _ _ ?_⟩,λh=>⟨b1,by omega,b2,_,b3,a1,by omega,a2,_,a3,(u _ _).call ⟨_,rfl,c263.call ⟨_,_,rfl,key _ _ ?_⟩⟩⟩⟩⟩;·rw[<-w,h];rfl
    ·rw[<-w,eq_false_of_ne_true h];rfl
  iterate 2
   ·rw[if_neg y,if_neg j,if_neg n,if_neg m,if_neg q,if_neg p,if_neg J,if_neg (by omega),if_pos (by omega)]at w;exact(i _).call ⟨_,rfl,c263.call ⟨_,_,rfl,key _ _ (by rw[<-w];rfl)⟩⟩
  iterate 3
   ·rw[if_neg y,if_neg j,if_neg n,if_neg m,if_neg q,if_neg p,if_neg J,if_neg (by omega),if_neg (by omega),if_pos (by omega)]at w;exact(i _).call ⟨_,rfl,c263.call ⟨_,_,rfl,key _ _ (by rw[<-w];rfl)⟩⟩
  ·rw[if_neg y,if_neg j,if_neg n,if_neg m,if_neg q,if_neg p,if_neg J,if_neg (by omega),if_neg (by omega),if_neg (by omega),if_pos G]at w;obtain⟨a1,a2,a3⟩:=H (by omega);obtain⟨b1,b2,b3⟩:=at1 (by omega);obtain⟨Q,c2,c3⟩:=at2 (by omega);have P:∀t,(if l.getD 1 sE=C1 then l.getD 2 sE else l.getD 1 sE)=t ->
     (l.getD 0 sE=Ar->Bi d (l.getD 1 sE) (l.getD 2 sE)=true->X=CP true t)/\(l.getD 0 sE=Ar->¬Bi d (l.getD 1 sE) (l.getD 2 sE)=true->X=CP (Bi d (l.getD 2 sE) (l.getD 1 sE)) t)/\(¬l.getD 0 sE=Ar->X=CP false t):=λt ht=>by
    grind
   refine⟨b1,by omega,b2,_,b3,λZ=>?_,λZ=>?_⟩
   ·have N:=P _ (if_pos Z);refine⟨Q,by omega,c2,_,c3,a1,by omega,a2,_,a3,λz=>⟨b1,by omega,b2,_,b3,Q,by omega,c2,_,c3,(u _ _).call ⟨_,rfl,λh=>c263.call ⟨_,_,rfl,key _ _ ?_⟩,λh=>⟨Q,by omega,c2,_,c3,b1,by omega,b2,_,b3,(u _ _).call ⟨_,rfl,c263.call ⟨_,_,rfl,key _ _ ?_⟩⟩⟩⟩⟩,λz=>c263.call ⟨_,_,rfl,key _ _ ?_⟩⟩;·exact N.1 z h
    ·exact N.2.1 z h
    ·exact N.2.2 z
   ·have N:=P _ (if_neg Z);refine⟨a1,by omega,a2,_,a3,λz=>⟨b1,by omega,b2,_,b3,Q,by omega,c2,_,c3,(u _ _).call ⟨_,rfl,λh=>c263.call ⟨_,_,rfl,key _ _ ?_⟩,λh=>⟨Q,by omega,c2,_,c3,b1,by omega,b2,_,b3,(u _ _).call ⟨_,rfl,c263.call ⟨_,_,rfl,key _ _ ?_⟩⟩⟩⟩⟩,λz=>c263.call ⟨_,_,rfl,key _ _ ?_⟩⟩;·exact N.1 z h
    ·exact N.2.1 z h
    ·exact N.2.2 z
  ·rw[if_neg y,if_neg j,if_neg n,if_neg m,if_neg q,if_neg p,if_neg J,if_neg (by omega),if_neg (by omega),if_neg (by omega),if_neg G]at w;exact(i _).call ⟨_,rfl,c263.call ⟨_,_,rfl,key _ _ (by rw[<-w];rfl)⟩⟩
 ·simp only[ne_eq,z,not_false_eq_true,if_true];exact⟨rfl,v⟩
end
theorem ownF{V0 V:Mem}{s:Sl}{l:List Fld}(h:Own V0 V 110 2 s (l.flatMap Fld.row)):Ad V s 2 (l.map Fld.row):=h.rows (λ_=>rfl) (by decide)
theorem one_fld{V:Mem}{b:Nat}{f:Fld}{t:Nat}(h:V b=some (.cells #[.string f.name,.string f.ty] t (0,0))):Ad V ⟨some ⟨b,0,none⟩,1,1⟩ 2 ([f].map Fld.row):=
 Ad.cells (xs:=[f]) (row:=Fld.row) h rfl (λ_=>rfl) rfl (by simp)
section
variable{V:Mem}{d:Ds}
def Small(d:Ds):Prop:=d.globals.length<=1000/\∀p∈d.procs,p.params.length<=1000/\p.locals.length<=1000
theorem refInProc(j:Ds.Ok V d){p:Pr}(h:Pr.Ok V p)(l:d.globals.length<=1000)(n:p.params.length<=1000/\p.locals.length<=1000):
  Tri xG 211 #[d.v,p.v] V λr V'=>∃s':Sl,r=.returned (He s' (AI d p))/\V.sub V'/\Ad V' s' 2 ((AI d p).vars.map Fld.row):=by
 refine x211 ?_;intro b i;have k:=Mem.sub_new i (.cells #[] 110 (0,0));refine Ek (s:=⟨some ⟨b,0,none⟩,0,0⟩) (u:=p.ps) (xs:=[]) (ys:=p.params) rfl rfl (Own.empty k _ _ _) (h.params.sub k) (by grind) λg V1 f=>⟨g,rfl,?_⟩;refine Ek (s:=g) (u:=p.ls) (xs:=p.params) (ys:=p.locals) rfl rfl f (h.locals.sub f.sub) (by omega) λw V2 z=>⟨w,rfl,?_⟩;refine Ek (s:=w) (u:=d.gs) (xs:=p.params++p.locals) (ys:=d.globals) rfl rfl z (j.globals.sub z.sub) (by grind) λy m x=>⟨y,rfl,?_⟩;exact⟨y,rfl,x.sub,ownF x⟩
theorem refInBound(z:Ds.Ok V d){p:Pr}(y:Pr.Ok V p)(j:d.globals.length<=1000)(i:p.params.length<=1000/\p.locals.length<=1000):
  Tri xG 165 #[d.v,p.v] V λr V'=>∃s':Sl,r=.returned (He s' (DD d p))/\V.sub V'/\Ad V' s' 2 ((DD d p).vars.map Fld.row):=by
 refine x165 ?_;intro b x;have h:=Mem.sub_new x (.cells #[] 110 (0,0));refine Ek (s:=⟨some ⟨b,0,none⟩,0,0⟩) (u:=p.ps) (xs:=[]) (ys:=p.params) rfl rfl (Own.empty h _ _ _) (y.params.sub h) (by grind) λk V1 g=>⟨k,rfl,?_⟩;refine Ek (s:=k) (u:=d.gs) (xs:=p.params) (ys:=d.globals) rfl rfl g (z.globals.sub g.sub) (by omega) λf l w=>⟨f,rfl,?_⟩;exact⟨f,rfl,w.sub,ownF w⟩
theorem JX(f:Ds.Ok V d){t:KB}(j:d.globals.length<=1000):
  Tri xG 164 #[d.v,.string t] V λr V'=>∃s':Sl,r=.returned (He s' (AQ d t))/\V.sub V'/\Ad V' s' 2 ((AQ d t).vars.map Fld.row):=by
 refine x164 ?_;refine⟨λg=>?_,λg=>?_⟩
 ·refine Ek (s:=⟨none,0,0⟩) (u:=d.gs) (xs:=[]) (ys:=d.globals) rfl rfl (Own.nil (Mem.sub.refl V) _ _) f.globals (by grind) λh V1 k=>⟨h,rfl,?_⟩;refine⟨h,rfl,k.sub,?_⟩;unfold AQ sE;rw[if_pos g];exact ownF k
 ·intro b y;have x:=Mem.sub_new y (.cells #[.string (Ab [116,104,105,115]),.string t] 110 (0,0));refine Ek (s:=⟨none,0,0⟩) (u:=⟨some ⟨b,0,none⟩,1,1⟩) (xs:=[]) (ys:=[⟨CI,t⟩]) rfl rfl (Own.nil x _ _) (one_fld Ao) (by simp) λh V1 k=>⟨h,rfl,?_⟩;refine Ek (s:=h) (u:=d.gs) (xs:=[⟨CI,t⟩]) (ys:=d.globals) rfl rfl k (f.globals.sub k.sub) (by grind) λw V2 z=>⟨w,rfl,?_⟩;refine⟨w,rfl,z.sub,?_⟩;unfold AQ sE;rw[if_neg g];exact ownF z
theorem LH{op:Int}{s:KB}{es:List E}{f u:Int}(h:CS op s es f u=true):(op=6->∃k,es=[k]/\k.op=7)/\(op=1∨op=3∨op=4->es.length=1)/\(op=2->es.length=2)/\(op=5->es.length<=1)/\es.length<=2/\(∀x∈es,Bv 1 x=true):=by
 unfold CS at h;rw[zC]at h;obtain⟨h,hv⟩:=h;have g:∀x∈es,Bv 1 x=true:=λx w=>by
  grind[Bf]
 unfold FQ at h;have h6:op=6->∃k,es=[k]/\k.op=7:=λh6=>by
  subst h6;simp only[show ¬((6:Int)=1)by decide,show ¬((6:Int)=2)by decide,show ¬((6:Int)=3)by decide,show ¬((6:Int)=4)by decide,show ¬((6:Int)=5)by decide,if_false,if_true,decide_eq_true_eq]at h
  match es,h with
  |[k],h=>exact⟨k,rfl,h.2.2.1⟩
  |[],h=>simp at h
  |_::_::_,h=>simp at h;omega
 grind
theorem c162(hd:Ds.Ok V d){p:Pr}(hp:Pr.Ok V p)(h1:d.globals.length<=1000)(h2:p.params.length<=1000/\p.locals.length<=1000){x:S}(C:S.Ok V x)(hs:CS x.op x.s x.es x.ls.length x.xs.length=true):
  PP 162 [d.v,p.v,x.v] V (.int .i64 (DM d (AI d p) p.result x.op x.s x.es)):=by
 obtain⟨a6,a134,a2,a5,alen,Q⟩:=LH hs;rw[S.v_eq];refine A1.mk (x162 ?_);refine Tri.mono (refInProc hd hp h1 h2) ?_;rintro _ V1 ⟨sv,rfl,z,o⟩;generalize P:AI d p=sc at o;have K:sc.body=true:=by rw[<-P];rfl
 have a:=hd.sub z;have hf:=IK (C.sub z);refine⟨sv,sc.body,rfl,λD=>?_,λD=>?_⟩
 ·obtain⟨O,e,-⟩:=a6 D;rcases hf with⟨h,-⟩|⟨e0',r,E,hn,A,T,m⟩;·simp_all
  ·rw[e]at E;cases E;have I:=Q O (by rw[e];simp);have M:=(C.sub z).eOk O (by rw[e];simp);have hk:∀y∈O.k,RefE V1 d sv sc y:=λy hy=>refExpr a o y (M.kids y hy) 2 (IP I y hy);refine⟨A,by omega,by omega,_,_,_,_,m,Tri.mono (refParts O M (arity (HU I)).2.2.2 hk) ?_⟩;rintro _ V2 ⟨s',rfl,H,g⟩;unfold DM;rw[if_pos D,e];simp only;generalize hPT:partsT d sc [] O.k=pt at g;obtain⟨l,f⟩:=pt;have Z:=H.rowp m;refine⟨s',f,rfl,λq=>⟨A,by omega,by omega,T,_,_,_,_,Z,(c213 (a.sub H) g).call ⟨_,_,rfl,?_,z.trans H⟩⟩,λq=>?_⟩;·simp_all
   ·simp only[q,ne_eq,not_false_eq_true,if_true];exact⟨by trivial,z.trans H⟩
 ·unfold DM;rw[if_neg D];have hr:=(C.sub z).eRows;refine FO (mk:=.int .i64) (mc:=λs:Sl=>.slice s.p s.n s.c) 0 ⟨none,0,0⟩ AT x.es.length (λi s V2=>∃acc,Own V1 V2 9 1 s (acc.flatMap BD)/\partsT d sc [] x.es=partsT d sc acc (x.es.drop i)/\acc.length=i) ⟨[],Own.nil (Mem.sub.refl _) _ _,rfl,rfl⟩ ?_;rintro i b s V2 J hi ⟨acc,w,j,Y⟩ hJ;have G:=hr.sub w.sub;refine⟨λW=>?_,λF=>?_⟩
  ·obtain⟨y,hm,hxy,U,hl,hpp,hz,m⟩:=G.get W;rw[U,Gs]at j;refine⟨hpp,hz,W,_,_,_,_,m,(refExpr a o y ((C.sub z).eOk y hm) 1 (Q y hm) V2 w.sub).call ⟨_,_,rfl,λq=>?_,λq=>?_⟩⟩
   ·intro b1 hb1;rw[if_neg (λh=>h q)]at j;refine app37 (s:=s) (u:=⟨some ⟨b1,0,none⟩,1,1⟩) (xs:=acc) (ys:=[(Al d sc y).1]) rfl rfl (w.new hb1 _) (HV Ao) (by grind) λs' V' ho=>⟨s',rfl,G.succ W,hJ hl _ _ _ ⟨_,ho,j,by simp[Y]⟩⟩
   ·rw[if_pos q]at j;rw[j];simp only[q,ne_eq,not_false_eq_true,if_true];exact⟨by trivial,z.trans w.sub⟩
  ·have hge':=(G.done F).2;rw[(G.done F).1,Ha]at j;rw[j];simp only[ne_eq,not_true_eq_false,if_false];have g:=ownS w;have hal:acc.length=x.es.length:=by omega
   have hsub:=z.trans w.sub;have N:=a.sub w.sub;have L:=o.sub w.sub;have sln:=g.n_eq;have R:=λh:0<acc.length=>El g h;have at1:=λh:1<acc.length=>El g h;have key:∀X n:Int,X=n->(xJ (.int .i64 n)=xJ (.int .i64 X)/\V.sub V2):=λX n h=>by simp_all
   refine⟨λo1=>(c215 L).call ⟨_,rfl,λhl=>key _ _ ?_,λhl=>?_⟩,λo1=>⟨λo2=>?_,λo2=>⟨λo3=>?_,λo3=>⟨λo4=>?_,λo4=>⟨λo5=>?_,λo5=>key _ _ ?_⟩⟩⟩⟩⟩;·grind[Bn,sE]
   ·obtain⟨b1,b2,b3⟩:=R (by omega);refine⟨b1,by omega,b2,_,b3,(c216 N).call ⟨_,rfl,λB=>key _ _ ?_,λB=>key _ _ ?_⟩⟩;·grind[Bn,sE]
    grind[Bn,sE]
   ·obtain⟨b1,b2,b3⟩:=R (by omega);obtain⟨c1,c2,c3⟩:=at1 (by omega);rw[if_neg o1,if_pos o2];refine⟨b1,by omega,b2,_,b3,(c217 N).call ⟨_,_,rfl,λB=>⟨c1,by omega,c2,_,c3,(c216 N).call ⟨_,rfl,λhc=>key _ _ ?_,λhc=>key _ _ ?_⟩⟩,λB=>key _ _ ?_⟩⟩;·simp_all
    ·simp_all
    omega
   ·grind[Ar]
   ·grind[Ar]
   ·have h5:=a5 o5;rw[if_neg o1,if_neg o2,if_neg (by omega),if_pos o5];have rest:¬(acc.length=0)->((s.n:Int)=1)/\¬(s.p=none)/\(0:Int)<(s.n:Int)/\V2.rowp s.p 0 1=some [.string (acc.getD 0 sE)]:=λh=>by
     grind
    refine⟨λhn=>?_,λhn=>?_⟩;·grind[sE,absurd]
    ·have q:¬acc.length=0:=by omega
     obtain⟨r1,r2,r3,r4⟩:=rest q;rw[if_neg q];refine⟨λ_=>⟨λE=>key _ _ (by grind[sE]),λE=>⟨r2,by omega,r3,_,r4,(c216 N).call ⟨_,rfl,λB=>key _ _ ?_,λB=>key _ _ ?_⟩⟩⟩,λh=>absurd r1 h⟩;·grind[sE]
     simp_all
   omega
end
theorem okS_shape{d:Int}{x:S}(h:D1 d x=true):CS x.op x.s x.es x.ls.length x.xs.length=true/\Cv (d+1) x.ls=true/\Cv (d+1) x.xs=true:=by
 cases x;unfold D1 at h;rw[zC,zC,zC]at h;exact⟨h.1.1.2,h.1.2,h.2⟩
theorem JY{d:Int}:∀{l:List S},Cv d l=true->∀x∈l,D1 d x=true
 |[],_,x,k=>absurd k xD
 |y::l,h,x,k=>by
  unfold Cv at h;rw[zC]at h;rcases List.mem_cons.1 k with rfl|k;·exact h.1
  ·exact JY h.2 x k
theorem szS_eq(x:S):Eh x=1+Co x.ls+Co x.xs:=by cases x;unfold Eh;rfl
theorem JZ(x:S)(l:List S):Co (x::l)=Eh x+Co l:=by rw[Co]
mutual
theorem stT_n(d:Ds)(sc:Sc)(result:KB)(n:Int):∀x:S,(DN d sc result n x).2=0->(DN d sc result n x).1=n+Eh x
 |.mk op s _ es _ ls _ xs=>by
  have h:=Gv d sc result (n+1) ls;have k:=Gv d sc result (AJ d sc result (n+1) ls).1 xs;grind[DN,Eh,absurd]
theorem Gv(d:Ds)(sc:Sc)(result:KB)(n:Int):∀l:List S,(AJ d sc result n l).2=0->(AJ d sc result n l).1=n+Co l
 |[]=>by simp[AJ,Co]
 |x::xs=>by
  have h:=stT_n d sc result n x;have k:=Gv d sc result (DN d sc result n x).1 xs;rw[IN,JZ];grind
end
theorem A8{α β:Type}{f:Nat->α->Option β}{i:Nat}{x:α}{xs:List α}{b:β}(h:f i x=some b):Ak f i (x::xs)=some b:=by unfold Ak;rw[h]
theorem BA{α β:Type}{f:Nat->α->Option β}{i:Nat}{x:α}{xs:List α}(h:f i x=none):Ak f i (x::xs)=Ak f (i+1) xs:=by rw[Ak,h]
section
variable{V:Mem}{d:Ds}
def RefS(V:Mem)(d:Ds)(p:Pr)(l:List S):Prop:=∀(sl:Sl)(n h:Int),Ad V sl 5 (l.map S.row)->(∀x∈l,S.Ok V x)->Cv h l=true->0<=n->n+Co l<=1000->
 PP 116 [d.v,p.v,sl.v,.int .i64 n] V (.tuple #[.int .i64 (AJ d (AI d p) p.result n l).1,.int .i64 (AJ d (AI d p) p.result n l).2])
theorem refStep(M:Ds.Ok V d){p:Pr}(F:Pr.Ok V p)(L:d.globals.length<=1000)(R:p.params.length<=1000/\p.locals.length<=1000){l:List S}(Q:∀x∈l,RefS V d p x.ls/\RefS V d p x.xs):RefS V d p l:=by
 intro sl n P m r y q o;refine x116 ?_;generalize w:AI d p=sc;refine loop4s (mk:=.int .i64) (mc:=.int .i64) (md:=.int .i64) 0 0 n BG l.length (λi at_ V1=>V=V1/\0<=at_/\at_+Co (l.drop i)<=1000/\AJ d sc p.result n l=AJ d sc p.result at_ (l.drop i)) ⟨rfl,q,o,rfl⟩ ?_;rintro i b c a V1 J T ⟨rfl,X,e,z⟩ B;refine⟨λg=>?_,λv=>?_⟩
 ·obtain⟨x,hm,U,j,C,f,H,k⟩:=m.get g;have k:=S.row_get k;have u:=r x hm;obtain⟨G,N,Z⟩:=okS_shape (JY y x hm);rw[j,JZ,szS_eq]at e;rw[j,IN,stT_eq]at z;have cs:=c162 M F L R u G;rw[w,S.v_eq]at cs;refine⟨f,H,g,_,_,_,_,_,k,cs.call ⟨_,rfl,λO=>?_,λO=>?_⟩⟩
  ·have D:¬(DM d sc p.result x.op x.s x.es≠0):=λh=>h O;rw[if_neg D]at z;have A:=(Q x hm).1 x.ll (a+1) (P+1) u.lRows u.lOk N (by omega) (by omega);rw[w]at A;refine⟨f,H,g,Ah f,_,_,_,_,_,k,⟨by omega,by omega⟩,A.call ⟨_,_,rfl,λY=>?_,λY=>?_⟩⟩
   ·have E:¬((AJ d sc p.result (a+1) x.ls).2≠0):=λh=>h Y;rw[if_neg E]at z;have hn:=Gv d sc p.result (a+1) x.ls Y;have I:=(Q x hm).2 x.xl (AJ d sc p.result (a+1) x.ls).1 (P+1) u.xRows u.xOk Z (by omega) (by omega);rw[w]at I;refine⟨f,H,g,Ah f,_,_,_,_,_,k,I.call ⟨_,_,rfl,λW=>?_,λW=>?_⟩⟩
    ·rw[if_neg (λh=>h W)]at z;have K:=Gv d sc p.result _ x.xs W;exact⟨m.succ g,B C _ _ _ _ ⟨rfl,by omega,by omega,z⟩⟩
    simp_all
   simp_all
  simp_all
 ·rw[(m.done v).1,stsT_nil]at z;simp_all
theorem refStmts(k:Ds.Ok V d){p:Pr}(g:Pr.Ok V p)(f:d.globals.length<=1000)(u:p.params.length<=1000/\p.locals.length<=1000)(l:List S):RefS V d p l:=by
 have w:∀s:S,RefS V d p s.ls/\RefS V d p s.xs:=by
  intro s;induction s using S.ind with
  |h s z y=>grind[refStep]
 grind[refStep]
theorem c157(e:Ds.Ok V d){l:Sl}{xs:List Fld}(r:Ad V l 2 (xs.map Fld.row)){i:Nat}{f:Fld}(p:xs[i]?=some f):PP 157 [d.v,l.v,.int .i64 i] V (.int .i64 (BF d xs i f)):=by
 refine x157 ?_;have O:=r.n_eq;have s:=(yv.1 p).1;have z:(i:Int)<(l.n:Int):=by omega
 obtain⟨A,hm,c,H,-,u,a,w⟩:=r.get z;rw[p]at c;cases c;refine AK i (λk V1=>V=V1/\∀j g,j<k->xs[j]?=some g->¬(g.name=f.name)) ⟨rfl,λ_ _ h=>absurd h (xY _)⟩ ?_;rintro k b V1 J I ⟨rfl,M⟩ G;refine⟨λN=>?_,λN=>?_⟩
 ·obtain⟨g,Z,Y,W,Q,m,q,x⟩:=r.get (i:=k) (by omega);refine⟨m,q,by omega,Ah m,_,_,x,u,a,z,Ah u,_,_,w,λo=>?_,λo=>⟨r.succ (by omega),G (by omega) _ _ ⟨rfl,λj y F L=>?_⟩⟩⟩
  ·have:(xs.take i).any (λg=>decide (g.name=f.name))=true:=xZ.2 ⟨g,by
    grind[xw,yv],decide_eq_true o⟩
   unfold BF;rw[if_pos this];exact⟨rfl,rfl⟩
  grind
 ·have:¬(xs.take i).any (λg=>decide (g.name=f.name))=true:=λh=>by
   obtain⟨g,P,o⟩:=xZ.1 h;rw[xw]at P;grind
  unfold BF;rw[if_neg this];refine⟨u,a,z,Ah u,_,_,w,(c159 e).call ⟨_,rfl,λh=>?_,λh=>?_⟩⟩;·simp_all
  simp_all
theorem c156(m:Ds.Ok V d){l:Sl}{xs:List Fld}(w:Ad V l 2 (xs.map Fld.row)):PP 156 [d.v,l.v] V (.int .i64 (Cp d xs)):=by
 refine x156 ?_;unfold Cp;generalize c:(λi f=>if BF d xs i f≠0 then some (BF d xs i f)else none)=fn;refine AK xs.length (λk V1=>V=V1/\Ak fn 0 xs=Ak fn k (xs.drop k)) ⟨rfl,rfl⟩ ?_;rintro k b V1 J a ⟨rfl,u⟩ r;refine⟨λz=>?_,λz=>?_⟩
 ·obtain⟨g,q,y,x,j,o,p,n⟩:=w.get z;rw[x]at u;refine(c157 m w y).call ⟨_,rfl,λh=>?_,λh=>?_⟩
  ·rw[BA (by grind)]at u;exact⟨w.succ z,r j _ _ ⟨rfl,u⟩⟩
  ·rw[A8 (b:=BF d xs k g) (by grind)]at u;simp_all
 ·rw[(w.done z).1,Ak]at u;simp_all
theorem c163(f:Ds.Ok V d){sl:Sl}{sc:Sc}(k:Ad V sl 2 (sc.vars.map Fld.row)){e:E}(u:E.Ok V e)(g:Bv 1 e=true){t:KB}:PP 163 [d.v,He sl sc,e.v,.string t] V (.int .i64 (A2 d sc e t)):=by
 refine x163 ?_;unfold A2;refine(refExpr f k e u 1 g V (Mem.sub.refl _)).call ⟨_,_,rfl,λh=>⟨λw=>?_,λw=>?_⟩,λh=>?_⟩;·simp_all
 ·simp_all
 simp_all
def CQ(s:KB):Bool:=decide (s=Ai)||decide (s=Ar)
end
theorem idx_lt{α:Type}{p:α->Bool}{xs:List α}{i:Nat}{x:α}(f:xs[i]?=some x)(u:p x=true):(Ci p xs<(i:Int)↔(xs.take i).any p=true)/\0<=Ci p xs:=by
 rcases Cw p xs with⟨h,k,g⟩|⟨j,y,h,k,g,w,z,h6,h7,h8⟩;·grind
 grind[xZ,xw,yv,Nat.lt_or_ge,xz]
section
variable{V:Mem}{d:Ds}
def f2(o:Option Flt):Value:=.tuple #[.string (fltR o).1,.int .i64 (fltR o).2.2]
theorem c113(y:Ds.Ok V d):PP 113 [d.v] V (f2 (Gt d)):=by
 refine x113 ?_;unfold Gt;have key:∀{X:Option Flt}(s:KB)(n:Int),X=some (s,-1,n)->(xJ (.tuple #[.string s,.int .i64 n])=xJ (f2 X)/\V=V):=λs n h=>by rw[h];exact⟨rfl,rfl⟩
 unfold types1;generalize a:(λi (t:Ty)=>if(d.types.take i).any (λg=>decide (g.name=t.name))=true then some ((t.name,-1,10):Flt)else none)=F1;refine C0 d.types.length (λk V1=>V=V1/\Ak F1 0 d.types=Ak F1 k (d.types.drop k)) ⟨rfl,rfl⟩ ?_;rintro k b c V1 J o ⟨rfl,z⟩ m;refine⟨λw=>?_,λw=>?_⟩
 ·obtain⟨g,hm,q,j,r,x,l,u⟩:=y.types.get w;have e:=(idx_lt (p:=λt:Ty=>decide (t.name=g.name)) q (by simp)).1;rw[j]at z;refine⟨x,l,w,Ah x,_,_,u,(c119 y).call ⟨_,rfl,λh=>⟨x,l,w,Ah x,_,_,u,key _ _ ?_⟩,λh=>⟨y.types.succ w,m r _ _ _ ⟨rfl,?_⟩⟩⟩⟩;·rw[z,A8 (b:=(g.name,-1,10)) (by grind)];rfl
  ·rw[z,BA (by grind)]
 rw[(y.types.done w).1,Ak]at z;rw[z,xv];unfold types2;generalize H:(λ(_:Nat) (t:Ty)=>if Cp d t.fields≠0 then some ((t.name,-1,Cp d t.fields):Flt)else none)=F2;refine C0 d.types.length (λk V1=>V=V1/\Ak F2 0 d.types=Ak F2 k (d.types.drop k)) ⟨rfl,rfl⟩ ?_;rintro k b c V1 J o ⟨rfl,z⟩ m;refine⟨λw=>?_,λw=>?_⟩
 ·obtain⟨g,hm,q,j,r,x,l,u⟩:=y.types.get w;rw[j]at z;refine⟨x,l,w,Ah x,_,_,u,(c156 y (y.typesOk g hm).fields).call ⟨_,rfl,λh=>⟨y.types.succ w,m r _ _ _ ⟨rfl,?_⟩⟩,λh=>⟨x,l,w,Ah x,_,_,u,key _ _ ?_⟩⟩⟩;·rw[z,BA (by grind)]
  ·rw[z,A8 (b:=(g.name,-1,Cp d g.fields)) (by grind)];rfl
 rw[(y.types.done w).1,Ak]at z;rw[z,xv];unfold types3;generalize G:(λi (f:Fld)=>if BF d d.globals i f≠0 then some ((f.name,-1,BF d d.globals i f):Flt)else none)=F3;refine C0 d.globals.length (λk V1=>V=V1/\Ak F3 0 d.globals=Ak F3 k (d.globals.drop k)) ⟨rfl,rfl⟩ ?_;rintro k b c V1 J o ⟨rfl,z⟩ m;refine⟨λw=>?_,λw=>?_⟩
 ·obtain⟨g,hm,q,j,r,x,l,u⟩:=y.globals.get w;rw[j]at z;refine(c157 y y.globals q).call ⟨_,rfl,λh=>⟨y.globals.succ w,m r _ _ _ ⟨rfl,?_⟩⟩,λh=>⟨x,l,w,Ah x,_,_,u,key _ _ ?_⟩⟩;·rw[z,BA (by grind)]
  ·rw[z,A8 (b:=(g.name,-1,BF d d.globals k g)) (by grind)]
 rw[(y.globals.done w).1,Ak]at z;rw[z];exact⟨rfl,rfl⟩
theorem c114(F:Ds.Ok V d)(o:Small d):PP 114 [d.v] V (f2 (Ft d)):=by
 refine A1.mk (x114 ?_);unfold Ft;generalize x:(λi (p:Pr)=>if(d.procs.take i).any (λg=>decide (g.name=p.name))=true then some ((p.name,-1,10):Flt)else if Cp d (p.params++p.locals)≠0 then some (p.name,-1,Cp d (p.params++p.locals))else if p.result≠sE/\known d p.result=false then some (p.name,-1,9)else none)=F1;refine C0 d.procs.length (λk V1=>V.sub V1/\Ak F1 0 d.procs=Ak F1 k (d.procs.drop k)) ⟨Mem.sub.refl _,rfl⟩ ?_;rintro k b c V1 J D ⟨r,z⟩ Y;have f:=F.sub r;have key:∀{X:Option Flt}(V2:Mem)(s:KB)(n:Int),V.sub V2->X=some (s,-1,n)->(xJ (.tuple #[.string s,.int .i64 n])=xJ (f2 X)/\V.sub V2):=λV2 s n q h=>by rw[h];exact⟨rfl,q⟩
 refine⟨λy=>?_,λy=>?_⟩
 ·obtain⟨g,hm,L,a,W,R,B,j⟩:=f.procs.get y;have H:=(idx_lt (p:=λt:Pr=>decide (t.name=g.name)) L (by simp)).1;have Q:=f.procsOk g hm;have E:=o.2 g hm;rw[a]at z;refine⟨R,B,y,_,_,_,_,_,j,(c158 f).call ⟨_,rfl,λh=>key _ _ _ r ?_,λh=>?_⟩⟩;·rw[z,A8 (b:=(g.name,-1,10)) (by grind)]
  intro b1 G;have l:=Mem.sub_new G (.cells #[] 110 (0,0));refine Ek (s:=⟨some ⟨b1,0,none⟩,0,0⟩) (u:=g.ps) (xs:=[]) (ys:=g.params) rfl rfl (Own.empty l _ _ _) (Q.params.sub l) (by simp;omega) λP K O=>⟨P,rfl,?_⟩;refine Ek (s:=P) (u:=g.ls) (xs:=g.params) (ys:=g.locals) rfl rfl O (Q.locals.sub O.sub) (by omega) λC S N=>⟨C,rfl,?_⟩;have m:=f.sub N.sub;have w:=r.trans N.sub;have A:¬(d.procs.take k).any (λt=>decide (t.name=g.name))=true:=λe=>h (H.2 e);refine(c156 m (ownF N)).call ⟨_,rfl,λq=>?_,λq=>key _ _ _ w ?_⟩
  ·have I:¬(Cp d (g.params++g.locals)≠0):=λe=>e q;refine⟨λZ=>⟨f.procs.succ y,Y W _ _ _ ⟨w,?_⟩⟩,λZ=>(c159 m).call ⟨_,rfl,λM=>⟨f.procs.succ y,Y W _ _ _ ⟨w,?_⟩⟩,λM=>key _ _ _ w ?_⟩⟩;·rw[z,BA (by rw[<-x];exact(if_neg A).trans ((if_neg I).trans (if_neg λe=>e.1 Z)))]
   ·rw[z,BA (by grind)]
   ·rw[z,A8 (b:=(g.name,-1,9)) (by rw[<-x];exact(if_neg A).trans ((if_neg I).trans (if_pos ⟨Z,eq_false_of_ne_true M⟩)))]
  ·rw[z,A8 (b:=(g.name,-1,Cp d (g.params++g.locals))) (by grind)]
 ·rw[(f.procs.done y).1,Ak]at z;rw[z];exact⟨rfl,r⟩
end
theorem LJ{α:Type}{p:α->Bool}{xs:List α}{i k:Nat}{g:α}(f:xs[k]?=some g)(u:k<i)(h:p g=true):(xs.take i).any p=true:=
 xZ.2 ⟨g,by grind[xw,yv],h⟩
theorem LK{α:Type}{p:α->Bool}{xs:List α}{i:Nat}(h:∀j g,j<i->xs[j]?=some g->¬p g=true):¬(xs.take i).any p=true:=λf=>by
 obtain⟨g,k,u⟩:=xZ.1 f;rw[xw]at k;obtain⟨j,w,e⟩:=k;exact h j g (by omega) (by grind) u
section
variable{V:Mem}{d:Ds}
theorem c115(z:Ds.Ok V d):PP 115 [d.v] V (f2 (C3 d)):=by
 refine x115 ?_;unfold C3;have key:∀{X:Option Flt}(s:KB)(n:Int),X=some (s,-1,n)->(xJ (.tuple #[.string s,.int .i64 n])=xJ (f2 X)/\V=V):=λs n h=>by rw[h];exact⟨rfl,rfl⟩
 unfold form1;generalize hf1:(λi (m:Ms)=>if(d.measures.take i).any (λg=>decide (g.name=m.name))=true then some ((m.name,-1,10):Flt)else if BE d m.ty=false then some (m.name,-1,9)else none)=F1;refine C0 d.measures.length (λk V1=>V=V1/\Ak F1 0 d.measures=Ak F1 k (d.measures.drop k)) ⟨rfl,rfl⟩ ?_;rintro k b c V1 J M ⟨rfl,w⟩ Z;refine⟨λu=>?_,λu=>?_⟩
 ·obtain⟨g,hm,B,o,Y,l,r,f⟩:=z.measures.get u;have hlt:=(idx_lt (p:=λt:Ms=>decide (t.name=g.name)) B (by simp)).1;rw[o]at w;have q:=Ah (n:=k*7) l;refine⟨l,r,u,q,_,_,_,_,_,_,_,f,(c160 z).call ⟨_,rfl,λh=>⟨l,r,u,q,_,_,_,_,_,_,_,f,key _ _ ?_⟩,λh=>⟨l,r,u,q,_,_,_,_,_,_,_,f,(c161 z).call ⟨_,rfl,λW=>⟨z.measures.succ u,Z Y _ _ _ ⟨rfl,?_⟩⟩,λW=>⟨l,r,u,q,_,_,_,_,_,_,_,f,key _ _ ?_⟩⟩⟩⟩⟩;·rw[w,A8 (b:=(g.name,-1,10)) (by grind)];rfl
  ·rw[w,BA (by grind)]
  ·rw[w,A8 (b:=(g.name,-1,9)) (by grind)];rfl
 rw[(z.measures.done u).1,Ak]at w;rw[w,xv];unfold form2;generalize Q:(λi (m:Iv)=>if(d.invs.take i).any (λg=>decide (g.name=m.name))=true then some ((m.name,-1,10):Flt)else if m.ty≠sE/\BE d m.ty=false then some (m.name,-1,9)else none)=F2;refine C0 d.invs.length (λk V1=>V=V1/\Ak F2 0 d.invs=Ak F2 k (d.invs.drop k)) ⟨rfl,rfl⟩ ?_;rintro k b c V1 J M ⟨rfl,w⟩ Z;refine⟨λu=>?_,λu=>?_⟩
 ·obtain⟨g,hm,B,o,Y,l,r,f⟩:=z.invs.get u;rw[o]at w;have q:=Ah (n:=k*6) l;refine C0 k (λj V1=>V=V1/\∀H G,H<j->d.invs[H]?=some G->¬decide (G.name=g.name)=true) ⟨rfl,λ_ _ h=>absurd h (xY _)⟩ ?_;rintro j b c V1 J1 M ⟨rfl,C⟩ P;refine⟨λD=>?_,λD=>?_⟩
  ·obtain⟨G,E,O,F,K,N,A,a⟩:=z.invs.get (i:=j) (by omega);refine⟨N,A,by omega,Ah N,_,_,_,_,_,_,a,l,r,u,q,_,_,_,_,_,_,f,λL=>⟨l,r,u,q,_,_,_,_,_,_,f,key _ _ ?_⟩,λL=>⟨z.invs.succ (by omega),P (by omega) _ _ _ ⟨rfl,λH y S hy=>?_⟩⟩⟩;·rw[w,A8 (b:=(g.name,-1,10)) (by rw[<-Q];exact if_pos (LJ O (by omega) (decide_eq_true L)))];rfl
   grind
  ·have T:=LK (i:=k) (λH G h'=>C H G (by omega));refine⟨l,r,u,q,_,_,_,_,_,_,f,λI=>⟨z.invs.succ u,Z Y _ _ _ ⟨rfl,?_⟩⟩,λI=>⟨l,r,u,q,_,_,_,_,_,_,f,(c161 z).call ⟨_,rfl,λW=>⟨z.invs.succ u,Z Y _ _ _ ⟨rfl,?_⟩⟩,λW=>⟨l,r,u,q,_,_,_,_,_,_,f,key _ _ ?_⟩⟩⟩⟩;·rw[w,BA (by rw[<-Q];exact(if_neg T).trans (if_neg λe=>e.1 I))]
   ·rw[w,BA (by grind)]
   ·rw[w,A8 (b:=(g.name,-1,9)) (by rw[<-Q];exact(if_neg T).trans (if_pos ⟨I,eq_false_of_ne_true W⟩))];rfl
 rw[(z.invs.done u).1,Ak]at w;rw[w,xv];unfold form3;generalize R:(λ(_:Nat) (m:Po)=>if m.ty≠sE/\BE d m.ty=false then some ((sPot,-1,9):Flt)else none)=F3;refine C0 d.pots.length (λk V1=>V=V1/\Ak F3 0 d.pots=Ak F3 k (d.pots.drop k)) ⟨rfl,rfl⟩ ?_;rintro k b c V1 J M ⟨rfl,w⟩ Z;refine⟨λu=>?_,λu=>?_⟩
 ·obtain⟨g,hm,B,o,Y,l,r,f⟩:=z.pots.get u;rw[o]at w;have q:=Ah (n:=k*5) l;refine⟨l,r,u,q,_,_,_,_,_,f,λI=>⟨z.pots.succ u,Z Y _ _ _ ⟨rfl,?_⟩⟩,λI=>⟨l,r,u,q,_,_,_,_,_,f,(c161 z).call ⟨_,rfl,λW=>⟨z.pots.succ u,Z Y _ _ _ ⟨rfl,?_⟩⟩,λW=>key _ _ ?_⟩⟩⟩;·rw[w,BA (by rw[<-R];exact if_neg λe=>e.1 I)]
  ·rw[w,BA (by grind)]
  ·rw[w,A8 (b:=(sPot,-1,9)) (by rw[<-R];exact if_pos ⟨I,eq_false_of_ne_true W⟩)];rfl
 rw[(z.pots.done u).1,Ak]at w;rw[w,xv];unfold form4;generalize U:(λi (b:Bd)=>if(BU d b.proc).isNone=true then some ((b.proc,-1,9):Flt)else if(d.bounds.take i).any (λg=>decide (g.proc=b.proc))=true then some (b.proc,-1,10)else none)=F4;refine C0 d.bounds.length (λk V1=>V=V1/\Ak F4 0 d.bounds=Ak F4 k (d.bounds.drop k)) ⟨rfl,rfl⟩ ?_;rintro k b c V1 J M ⟨rfl,w⟩ Z;refine⟨λu=>?_,λu=>?_⟩
 ·obtain⟨g,hm,B,o,Y,l,r,f⟩:=z.bounds.get u;rw[o]at w;have q:=Ah (n:=k*5) l;refine⟨l,r,u,q,_,_,_,_,_,f,(c158 z).call ⟨_,rfl,?_⟩⟩;rcases Cw (λt:Pr=>decide (t.name=g.proc)) d.procs with⟨i1,i2,i3⟩|⟨i,x,i1,i2,i3,i4,i5,i6,i7,_⟩
  ·rw[i1];refine⟨λ_=>⟨l,r,u,q,_,_,_,_,_,f,key _ _ ?_⟩,λh=>absurd h (by decide)⟩;rw[w,A8 (b:=(g.proc,-1,9)) (by grind[BU])]
  ·rw[i1];have n0:¬(BU d g.proc).isNone=true:=by grind[BU]
   refine⟨λh=>absurd h (by omega),λ_=>?_⟩;refine C0 k (λj V1=>V=V1/\∀H G,H<j->d.bounds[H]?=some G->¬decide (G.proc=g.proc)=true) ⟨rfl,λ_ _ h=>absurd h (xY _)⟩ ?_;rintro j b c V1 J1 M ⟨rfl,C⟩ P;refine⟨λD=>?_,λD=>?_⟩
   ·obtain⟨G,E,O,F,K,N,A,a⟩:=z.bounds.get (i:=j) (by omega);refine⟨N,A,by omega,Ah N,_,_,_,_,_,a,l,r,u,q,_,_,_,_,_,f,λL=>⟨l,r,u,q,_,_,_,_,_,f,key _ _ ?_⟩,λL=>⟨z.bounds.succ (by omega),P (by omega) _ _ _ ⟨rfl,λH y S hy=>?_⟩⟩⟩;·rw[w,A8 (b:=(g.proc,-1,10)) (by rw[<-U];exact(if_neg n0).trans (if_pos (LJ O (by omega) (decide_eq_true L))))]
    grind
   ·have T:=LK (i:=k) (λH G h'=>C H G (by omega));exact⟨z.bounds.succ u,Z Y _ _ _ ⟨rfl,by rw[w,BA (by grind)]⟩⟩
 rw[(z.bounds.done u).1,Ak]at w;rw[w];exact⟨rfl,rfl⟩
end
end Go.Proofs
