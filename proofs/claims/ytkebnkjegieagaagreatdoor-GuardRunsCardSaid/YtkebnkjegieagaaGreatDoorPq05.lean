/- Part 5: no statement of the seat is proved here. -/
import Derived.Test.YtkebnkjegieagaaGreatDoorPq04
set_option linter.unusedVariables false
set_option linter.unusedSimpArgs false
open Go.Ending renaming returned->xY
open Go.Proofs.Tryz renaming prog->xV,underlying23->xh,underlying244->wA,underlying9->wB,underlying321->wC
open List renaming any_eq_not_all_not->xk,all_eq_true->yK,mem_iff_getElem->xE,getElem?_eq_getElem->yf,map_toArray->xP,length_append->zK,length_cons->zg,getElem?_eq_some_iff->yg,findIdx?_eq_some_iff_getElem->xB,getElem_mem->ya,any_eq_true->xg,any_eq_false->xf,not_mem_nil->xT,mem_cons->zJ,mem_take_iff_getElem->xe,mem_of_find?_eq_some->xa
open Bool renaming false_and->xj,and_eq_true->zD
open Nat renaming not_lt_zero->xi
open Go.Result renaming andThen_ok->zW
open Option renaming none_or->xd,getD_some->xb,getD_none->wD
open Go.Addr renaming add->zG
open Go.Value renaming map->zh
open ByteArray renaming empty->zA
open Go.Builtin renaming append_->xM,zeroCells->xQ
namespace Go.Proofs
open Go Go.Sx
attribute [local irreducible] Go.Sx.Tri
mutual
def Ep(d:Int):S->Bool|.mk op s _ es _ ls _ xs=>decide (d<=60)&&Db op s es ls.length xs.length&&CF (d+1) ls&&CF (d+1) xs
def CF(d:Int):XK->Bool|[]=>true|x::xs=>Ep d x&&CF d xs
end
mutual
def EK:S->Nat|.mk _ _ _ _ _ ls _ xs=>1+Ct ls+Ct xs
def Ct:XK->Nat|[]=>0|x::xs=>EK x+Ct xs
end
mutual
def cntS(d acc:Int):S->Int
 |.mk op s _ es _ ls _ xs=>
  if 60<d then 201 else if Db op s es ls.length xs.length=true then
    if acc+1<=200 then
      if acc+1+Cc (d+1) 0 ls<=200 then acc+1+Cc (d+1) 0 ls+Cc (d+1) 0 xs else acc+1+Cc (d+1) 0 ls
    else acc+1
  else 201
def Cc(d acc:Int):XK->Int|[]=>acc|x::xs=>if 200<cntS d acc x then cntS d acc x else Cc d (cntS d acc x) xs
end
def gd{α:Type}(d left:Int)(l:List α)(r:Bool×Int):Bool×Int:=if 60<d/\l≠[]then(false,left)else r
mutual
def vStm(left d:Int):S->Bool×Int
 |.mk op s _ es _ ls _ xs=>
  if 0<=left-1/\Db op s es ls.length xs.length=true then
    if(gd (d+1) (left-1) ls (CQ (left-1) (d+1) ls)).1=true then
      gd (d+1) (gd (d+1) (left-1) ls (CQ (left-1) (d+1) ls)).2 xs (CQ (gd (d+1) (left-1) ls (CQ (left-1) (d+1) ls)).2 (d+1) xs)
    else(false,(gd (d+1) (left-1) ls (CQ (left-1) (d+1) ls)).2)
  else(false,left-1)
def CQ(left d:Int):XK->Bool×Int|[]=>(true,left)|x::xs=>if(vStm left d x).1=true then CQ (vStm left d x).2 d xs else(false,(vStm left d x).2)
end
def DL(left d:Int)(l:XK):Bool×Int:=gd d left l (CQ left d l)
theorem vSs_cons(left d:Int)(x:S)(xs:XK):CQ left d (x::xs)=if(vStm left d x).1=true then CQ (vStm left d x).2 d xs else(false,(vStm left d x).2):=by rw[CQ]
theorem vSs_nil(left d:Int):CQ left d []=(true,left):=by rw[CQ]
theorem cntSs_cons(d acc:Int)(x:S)(xs:XK):Cc d acc (x::xs)=if 200<cntS d acc x then cntS d acc x else Cc d (cntS d acc x) xs:=by rw[Cc]
theorem cntSs_nil(d acc:Int):Cc d acc []=acc:=by rw[Cc]
theorem vS_eq(left d:Int)(x:S):vStm left d x=if 0<=left-1/\Db x.op x.s x.es x.ls.length x.xs.length=true then(if(DL (left-1) (d+1) x.ls).1=true then DL (DL (left-1) (d+1) x.ls).2 (d+1) x.xs else(false,(DL (left-1) (d+1) x.ls).2))else(false,left-1):=by
 cases x;unfold vStm;rfl
theorem cntS_eq(d acc:Int)(x:S):cntS d acc x=if 60<d then 201 else if Db x.op x.s x.es x.ls.length x.xs.length=true then
  if acc+1<=200 then
   if acc+1+Cc (d+1) 0 x.ls<=200 then acc+1+Cc (d+1) 0 x.ls+Cc (d+1) 0 x.xs else acc+1+Cc (d+1) 0 x.ls
  else acc+1
 else 201:=by
 cases x;unfold cntS;rfl
mutual
theorem cntS_ok:∀(d acc:Int)(e:S),0<=acc->acc<=200->acc+1<=cntS d acc e/\(cntS d acc e<=200↔Ep d e=true/\acc+EK e<=200)/\(cntS d acc e<=200->cntS d acc e=acc+EK e)/\cntS d acc e<=201+200*(61-d).toNat
 |d,acc,.mk op s _ es _ ls _ xs,h,g=>by
  have f:=HV (d+1) 0 ls (by omega) (by omega);have u:=HV (d+1) 0 xs (by omega) (by omega);unfold cntS Ep EK;grind
theorem HV:∀(d acc:Int)(k:XK),0<=acc->acc<=200->acc<=Cc d acc k/\(Cc d acc k<=200↔CF d k=true/\acc+Ct k<=200)/\(Cc d acc k<=200->Cc d acc k=acc+Ct k)/\Cc d acc k<=201+200*(61-d).toNat
 |d,acc,[],h,g=>by simp[Cc,CF,Ct];omega
 |d,acc,x::xs,h,g=>by
  have f:=cntS_ok d acc x h g;have u:=HV d (cntS d acc x) xs (by omega);grind[Cc,CF,Ct]
end
theorem okSs_deep{d:Int}(h:60<d):∀l:XK,l≠[]->CF d l=false
 |[],g=>absurd rfl g
 |.mk _ _ _ _ _ _ _ _::xs,_=>by
  grind[CF,Ep]
mutual
theorem vS_ok:∀(left d:Int)(e:S),d<=60->((vStm left d e).1=true↔Ep d e=true/\(EK e:Int)<=left)/\((vStm left d e).1=true->(vStm left d e).2=left-EK e)
 |left,d,.mk op s _ es _ ls _ xs,g=>by
  have f:=vSs_ok (left-1) (d+1) ls;have u:=λl=>vSs_ok l (d+1) xs;have w:=λh=>okSs_deep (d:=d+1) h ls;have z:=λh=>okSs_deep (d:=d+1) h xs;grind[vStm,Ep,EK,gd,Db,CQ,CF,Ct,absurd]
theorem vSs_ok:∀(left d:Int)(k:XK),0<=left->¬(60<d/\k≠[])->((CQ left d k).1=true↔CF d k=true/\(Ct k:Int)<=left)/\((CQ left d k).1=true->(CQ left d k).2=left-Ct k)
 |left,d,[],h,_=>by simp[CQ,CF,Ct,h]
 |left,d,x::xs,h,g=>by
  have f:=vS_ok left d x (by grind);have u:=vSs_ok (vStm left d x).2 d xs;grind[vSs_cons,CF,Ct]
end
def Hc(l:XK):Bool:=decide (CF 1 l=true/\Ct l<=200)
theorem validSs_cnt(l:XK):decide (Cc 1 0 l<=200)=Hc l:=by
 have:=HV 1 0 l (by omega) (by omega);unfold Hc;grind
theorem validSs_v(l:XK):(DL 200 1 l).1=Hc l:=by
 have:=(vSs_ok 200 1 l (by omega) (by omega)).1;grind[Hc,DL,gd]
theorem S.v_eq(s:S):s.v=.agg #[uI s.op,uS s.s,.slice s.el.p s.el.n s.el.c,.slice s.ll.p s.ll.n s.ll.c,.slice s.xl.p s.xl.n s.xl.c]:=by unfold S.v;rw[S.row_eq];rfl
theorem S.row_get{V:Mem}{p:XI}{i:Nat}{x:S}(h:V.rowp p i 5=some x.row):V.rowp p i 5=some [uI x.op,uS x.s,.slice x.el.p x.el.n x.el.c,.slice x.ll.p x.ll.n x.ll.c,.slice x.xl.p x.xl.n x.xl.c]:=by
 rw[h,S.row_eq];rfl
theorem Ai{p:XI}{n:Nat}(h:¬(p=none)):¬(Aa p n=none):=by
 cases p with
 |none=>grind
 |some a=>intro e;cases e
def CntP(V:Mem)(l:XK):Prop:=∀(sl:Sl)(d:Int),Ae V sl 5 (l.map S.row)->(∀x∈l,S.Ok V x)->0<=d->d<=61->PP 151 [sl.v,uI d] V (uI (Cc d 0 l))
theorem cntP_step{V:Mem}{l:XK}(H:∀x∈l,CntP V x.ls/\CntP V x.xs):CntP V l:=by
 intro sl d r q Q F;refine x151 ?_;refine loop3s BJ l.length (λi acc V1=>V1=V/\0<=acc/\acc<=200/\Cc d 0 l=Cc d acc (l.drop i)) ⟨rfl,by omega,by omega,rfl⟩ ?_;rintro i acc c V1 J L ⟨rfl,P,R,G⟩ X;refine⟨λu=>?_,λo=>?_⟩
 .obtain⟨x,hm,B,a,C,w,e,g⟩:=r.get u;have g:=S.row_get g;have f:=q x hm;have O:=f.lRows.n_eq;have A:=f.xRows.n_eq;rw[a,cntSs_cons]at G;have j:=cntS_eq d acc x;have cs:=c200 f;rw[S.v_eq]at cs;have bad:cntS d acc x=201->(xY (uI 201)=xY (uI (Cc d 0 l))/\V1=V1):=λh=>by
   grind
  have z:∀n,cntS d acc x=n->200<n->(xY (uI n)=xY (uI (Cc d 0 l))/\V1=V1):=λn h I=>by
   grind
  have M:∀n N,cntS d acc x=n->0<=n->¬200<n->J [uI n,uI N,uI ((i:Int)+1)] V1:=λn N h D I=>by
   grind
  refine⟨λy=>bad (by omega),λy=>⟨w,e,u,_,_,_,_,_,g,cs.call ⟨_,rfl,λZ=>⟨⟨by omega,by omega⟩,λY=>?_,λY=>?_⟩,λZ=>bad (by simp_all)⟩⟩⟩
  .rw[if_neg y,if_pos Z,if_pos Y]at j;have b1:=HV (d+1) 0 x.ls (by omega) (by omega);have b2:=HV (d+1) 0 x.xs (by omega) (by omega);refine⟨w,e,u,Ai w,_,_,_,_,_,g,⟨by omega,by omega⟩,((H x hm).1 x.ll (d+1) f.lRows f.lOk (by omega) (by omega)).call ⟨_,rfl,⟨by omega,by omega⟩,λW=>?_,λW=>?_⟩⟩
   .rw[if_pos W]at j;refine⟨w,e,u,Ai w,_,_,_,_,_,g,⟨by omega,by omega⟩,((H x hm).2 x.xl (d+1) f.xRows f.xOk (by omega) (by omega)).call ⟨_,rfl,⟨by omega,by omega⟩,λs=>z _ j s,λs=>⟨r.succ u,M _ _ j (by omega) s⟩⟩⟩
   grind
  grind
 .rw[(r.done o).1,cntSs_nil]at G;simp_all
theorem cntP_S(V:Mem):∀s:S,CntP V s.ls/\CntP V s.xs:=by
 intro s;induction s using S.ind with
 |h s g f=>grind[cntP_step]
theorem c151{V:Mem}{l:XK}{sl:Sl}{d:Int}(g:Ae V sl 5 (l.map S.row))(h:∀x∈l,S.Ok V x)(f:0<=d)(u:d<=61):PP 151 [sl.v,uI d] V (uI (Cc d 0 l)):=
 cntP_step (λx _=>cntP_S V x) sl d g h f u
set_option maxRecDepth 4000 in
theorem c287{V:Mem}[Tab V]{s:S}(h:S.Ok V s):PP 287 [s.v] V (uB (GA s.op s.s s.es s.ls.length s.xs.length)):=by
 have G:=JK h;have f:=h.lRows.n_eq;have u:=h.xRows.n_eq;have w:=h.eRows.n_eq;rw[S.v_eq];refine x287 ?_;rw[<-f,<-u];generalize y:GA s.op s.s s.es s.ll.n s.xl.n=X;have key:∀b:Bool,X=b->xY (.bool b)=xY (.bool X):=λn h=>by rw[h]
 unfold GA at y;rw[<-w]at y;have i:(0:Int)<=(s.el.n:Int):=by omega
 have l:(0:Int)<=(s.ll.n:Int):=by omega
 have q:(0:Int)<=(s.xl.n:Int):=by omega
 generalize J:(s.el.n:Int)=ne at y i;generalize(s.ll.n:Int)=nl at y l;generalize(s.xl.n:Int)=nx at y q;rcases G with⟨j,o⟩|⟨e0,r,j,o,a,z,g⟩
 .have:ne=0:=by omega
  subst this;clear f u w o
  repeat' (first|refine Eb.call ⟨_,rfl,?_⟩|apply And.intro|intro _)
  all_goals first|rfl|(refine key _ ?_;clear key h j;grind)|(exfalso;clear key h j;grind)
 .have e:Lm s.es=e0.op:=by rw[j];rfl
  rw[e]at y;have H:0<ne:=by omega
  clear f u w o
  repeat' (first|refine Eb.call ⟨_,rfl,?_⟩|refine⟨_,_,_,_,g,?_⟩|exact a|exact z|exact H|apply And.intro|intro _)
  all_goals first|rfl|(refine key _ ?_;clear key h j g a z;grind)|(exfalso;clear key h j g a z;grind)|omega
theorem c288{V:Mem}[Tab V]{e:E}(h:E.Ok V e):PP 288 [e.v] V (uB (!Bh e)):=by
 refine x288 ?_;exact(HU h).call ⟨_,rfl,rfl,rfl⟩
theorem vSl_bound{left d:Int}{l:XK}(f:0<=left)(h:(DL left d l).1=true):0<=(DL left d l).2/\(DL left d l).2<=left:=by
 unfold DL gd at h⊢;split at h;.cases h
 .rename_i g;rw[if_neg g];grind[vSs_ok]
theorem vSl_eq{left d:Int}{l:XK}(h:¬(60<d/\l≠[])):DL left d l=CQ left d l:=by grind[DL,gd]
section
variable{V0:Mem}{b t:Nat}
def HW(V0:Mem)(b t:Nat)(l:XK):Prop:=∀(sl:Sl)(d left:Int)(V:Mem),Ae V0 sl 5 (l.map S.row)->(∀x∈l,S.Ok V0 x)->V0.sub V->V b=some (cell (uI left) t)->0<=left->left<=200->0<=d->d<=61->
 Tri xV 221 #[sl.v,uI d,pv b] V λr V'=>r=.returned (uB (DL left d l).1)/\V'=V.set b (cell (uI (DL left d l).2) t)
theorem stP_step[F:Tab V0](R:V0 b=none){l:XK}(L:∀x∈l,HW V0 b t x.ls/\HW V0 b t x.xs):HW V0 b t l:=by
 intro sl d left V G Z X u Y W B hd;have hn:=G.n_eq;refine x221 ?_;have z:∀g,V0.sub (V.set b (cell (uI g) t)):=λg=>X.set R _;refine⟨λQ=>⟨λq=>?_,λq=>?_⟩,λQ=>?_⟩
 .have:DL left d l=(false,left):=by
   grind[DL,gd]
  rw[this];exact⟨rfl,(Mem.set_eq u).symm⟩
 all_goals
  have P:¬(60<d/\l≠[]):=by
   first
   |exact λh=>q h.1
   |simp_all
  rw[vSl_eq P];refine AG l.length (λi V1=>∃g,V1=V.set b (cell (uI g) t)/\0<=g/\g<=200/\CQ left d l=CQ g d (l.drop i)) ⟨left,(Mem.set_eq u).symm,Y,W,rfl⟩ ?_;rintro i c _ J hi ⟨g,rfl,C,D,y⟩ E;refine⟨λj=>?_,λO=>?_⟩
  .obtain⟨x,hm,hx,A,K,T,U,w⟩:=(G.sub (z g)).get j;have w:=S.row_get w;have f:=Z x hm;rw[A,vSs_cons]at y;have hv:=vS_eq g d x;have cs:=λV (Q:V0.sub V) (h:S.Ok V x)=>(haveI:Tab V:=Tab.sub F Q;c287 h);rw[S.v_eq]at cs;have o:∀n,vStm g d x=(false,n)->(xY (.bool false)=xY (.bool (CQ left d l).1)/\V.set b (cell (uI n) t)=V.set b (cell (uI (CQ left d l).2) t)):=λn h=>by
    rw[h]at y;rw[y];exact⟨rfl,rfl⟩
   refine⟨T,U,j,_,_,_,_,_,w,Tri.mono (c130 Av (by omega) (by omega)) ?_⟩;rintro _ _ ⟨rfl,rfl⟩;rw[Mem.set_set];refine⟨_,rfl,λh8=>(cs _ (z _) (f.sub (z _))).call ⟨_,rfl,λI=>?_,λI=>?_⟩,λh8=>?_⟩
   .have h8:0<=g-1:=of_decide_eq_true h8;refine(c132 (first:=[]) (caps:=[]) (l:=x.el) (f.eRows.sub (z _)) Tryz.call288 (λe=>!Bh e) (λe hm=>haveI:Tab (V.set b (cell (uI (g-1)) t)):=Tab.sub F (z (g-1));c288 ((f.eOk e hm).sub (z _)))).call ⟨_,rfl,λa=>?_,λa=>?_⟩
    .have r:x.es.all Bh=false:=by
      rw[xk]at a;simpa using a
     rw[if_neg (λh=>by have:=h.2;unfold Db at this;rw[r,Bool.and_false]at this;cases this)]at hv;exact o _ hv
    .have r:x.es.all Bh=true:=by
      rw[xk]at a;simpa using a
     have M:Db x.op x.s x.es x.ls.length x.xs.length=true:=by unfold Db;rw[I,r];rfl
     rw[if_pos ⟨h8,M⟩]at hv;refine⟨⟨by omega,by omega⟩,Tri.mono ((L x hm).1 x.ll (d+1) (g-1) _ f.lRows f.lOk (z _) Av h8 (by omega) (by omega) (by omega)) ?_⟩;rintro _ _ ⟨rfl,rfl⟩;rw[Mem.set_set];refine⟨_,rfl,λN=>⟨⟨by omega,by omega⟩,?_⟩,λN=>?_⟩
     .rw[if_pos N]at hv;have b1:=vSl_bound h8 N;refine Tri.mono ((L x hm).2 x.xl (d+1) _ _ f.xRows f.xOk (z _) Av b1.1 (by omega) (by omega) (by omega)) ?_;rintro _ _ ⟨rfl,rfl⟩;rw[Mem.set_set];refine⟨_,rfl,λH=>?_,λH=>?_⟩
      .have b2:=vSl_bound b1.1 H;rw[hv,if_pos H]at y;exact⟨(G.sub (z g)).succ j,E K _ _ ⟨_,rfl,b2.1,by omega,y⟩⟩
      .rw[<-hv]at H⊢;exact o _ (Prod.ext (eq_false_of_ne_true H) rfl)
     .rw[if_neg N]at hv;exact o _ hv
   .rw[if_neg (λh=>by have:=h.2;unfold Db at this;rw[eq_false_of_ne_true I,xj]at this;cases this)]at hv;exact o _ hv
   .rw[if_neg (λh=>h8 (decide_eq_true h.1))]at hv;exact o _ hv
  .rw[((G.sub (z g)).done O).1,vSs_nil]at y;rw[y];exact⟨rfl,rfl⟩
theorem stP_S[g:Tab V0](f:V0 b=none):∀s:S,HW V0 b t s.ls/\HW V0 b t s.xs:=by
 intro s;induction s using S.ind with
 |h s u w=>grind[stP_step]
theorem c221[g:Tab V0](h:V0 b=none)(l:XK):HW V0 b t l:=stP_step h λx _=>stP_S h x
end
def AQ{α:Type}(p:α->Bool)(xs:List α)(i:Nat):Prop:=∀j x,j<i->xs[j]?=some x->p x=true
theorem AQ.zero{α:Type}(p:α->Bool)(xs:List α):AQ p xs 0:=λ_ _ h=>absurd h (xi _)
theorem AQ.succ{α:Type}{p:α->Bool}{xs:List α}{i:Nat}{x:α}(h:AQ p xs i)(w:xs[i]?=some x)(z:p x=true):AQ p xs (i+1):=λj y g f=>by
 rcases Nat.lt_succ_iff_lt_or_eq.1 g with u|rfl;.exact h j y u f
 simp_all
theorem AQ.all{α:Type}{p:α->Bool}{xs:List α}{i:Nat}(h:AQ p xs i)(hi:xs.length<=i):xs.all p=true:=
 yK.2 λx g=>by
  obtain⟨j,f,rfl⟩:=xE.1 g;exact h j _ (by omega) (yf f)
theorem all_false{α:Type}{p:α->Bool}{xs:List α}{x:α}(h:x∈xs)(g:¬p x=true):xs.all p=false:=by
 grind
def Ak:KB:=Ab [105,110,116]
def Ay:KB:=Ab [98,111,111,108]
def typB(s:KB):Bool:=decide (s=Ak)||decide (s=Ay)||Bg s
def openB(s:KB):Bool:=decide (s=Ab [])||Bg s
def fldB(f:Fld):Bool:=Bg f.name&&typB f.ty
def Dc(l:XX)(h:Int):Bool:=decide ((l.length:Int)<=h)&&l.all fldB
def EL(t:Ty):Bool:=Bg t.name&&Dc t.fields 12
def DX(p:Pr):Bool:=Bg p.name&&Dc p.params 6&&Dc p.locals 12&&(decide (p.result=Ab [])||typB p.result)&&Hc p.body
def DE(m:Ms):Bool:=Bg m.name&&Bg m.ty&&decide (-1099511627776<=m.nil/\m.nil<=1099511627776)&&Bh m.x
def E5(m:Iv):Bool:=Bg m.name&&openB m.ty&&Bh m.x
def GB(m:Po):Bool:=openB m.ty&&Bh m.x
def GC(m:Bd):Bool:=Bg m.proc&&Bh m.x
def FB(d:Ds):Bool:=d.measures.all DE&&d.invs.all E5&&d.pots.all GB&&d.bounds.all GC
def F5(d:Ds):Bool:=decide ((d.measures.length:Int)<=12/\(d.invs.length:Int)<=12/\(d.pots.length:Int)<=12/\(d.bounds.length:Int)<=12)
def A8(d:Ds):Bool:=Bg d.name&&decide ((d.types.length:Int)<=12)&&Dc d.globals 8&&decide ((d.procs.length:Int)<=40)&&F5 d&&d.types.all EL&&d.procs.all DX&&FB d
theorem c150{V:Mem}{s:KB}:PP 150 [uS s] V (uB (typB s)):=by
 refine x150 ?_;refine⟨λh=>?_,λh=>⟨λg=>?_,λg=>c110.call ⟨_,rfl,?_⟩⟩⟩<;>simp[typB,Ak,Ay, *]
theorem c216{V:Mem}[Tab V]{s:KB}:PP 216 [uS s] V (uB (typB s)):=by
 refine x216 ?_;refine⟨λh=>?_,λh=>⟨λg=>?_,λg=>Eb.call ⟨_,rfl,?_⟩⟩⟩<;>simp[typB,Ak,Ay, *]
theorem c153{V:Mem}{s:KB}:PP 153 [uS s] V (uB (openB s)):=by
 refine x153 ?_;refine⟨λh=>?_,λh=>c110.call ⟨_,rfl,?_⟩⟩<;>simp[openB, *]
theorem c217{V:Mem}[Tab V]{s:KB}:PP 217 [uS s] V (uB (openB s)):=by
 refine x217 ?_;refine⟨λh=>?_,λh=>Eb.call ⟨_,rfl,?_⟩⟩<;>simp[openB, *]
theorem c111{V:Mem}{l:Sl}{xs:XX}{n:Int}(u:Ae V l 2 (xs.map Fld.row)):PP 111 [l.v,uI n] V (uB (Dc xs n)):=by
 refine x111 ?_;have N:=u.n_eq;refine⟨λh=>?_,λh=>?_⟩;.grind[Dc]
 .have z:(xs.length:Int)<=n:=by omega
  refine AG xs.length (λi V1=>V1=V/\AQ fldB xs i) ⟨rfl,AQ.zero _ _⟩ ?_;rintro i b V1 J Z ⟨rfl,j⟩ o;refine⟨λg=>?_,λy=>?_⟩
  .obtain⟨x,hm,a,e,s,w,r,f⟩:=u.get g;have q:fldB x=false->(xY (.bool false)=xY (.bool (Dc xs n))/\V1=V1):=λh=>by
    unfold Dc;grind
   refine⟨w,r,g,Ai w,_,_,f,c110.call ⟨_,rfl,λH=>⟨w,r,g,Ai w,_,_,f,c150.call ⟨_,rfl,λG=>⟨u.succ g,o s _ _ ⟨rfl,j.succ a (by simp[fldB, *])⟩⟩,λG=>q (by simp[fldB, *])⟩⟩,λH=>q (by simp[fldB, *])⟩⟩
  .have:=j.all (u.done y).2;simp[Dc,this,z]
theorem c215{V:Mem}[Tab V]{f:Fld}:PP 215 [f.v] V (uB (!fldB f)):=by
 refine x215 ?_;refine Eb.call ⟨_,rfl,λh=>c216.call ⟨_,rfl,?_⟩,λh=>?_⟩<;>simp[fldB, *]
theorem c163{V:Mem}[Tab V]{l:Sl}{xs:XX}{n:Int}(g:Ae V l 2 (xs.map Fld.row)):PP 163 [l.v,uI n] V (uB (Dc xs n)):=by
 refine x163 ?_;have u:=g.n_eq;refine⟨λh=>(IJ (first:=[]) (caps:=[]) g Tryz.call215 (λf=>!fldB f) λf _=>c215).call ⟨_,rfl,?_⟩,λh=>?_⟩;.grind[Dc]
 grind[Dc]
theorem c112{V:Mem}{p:Pr}(h:Pr.Ok V p):PP 112 [p.v] V (uB (DX p)):=by
 refine x112 ?_;have cs:=c151 (d:=1) h.body h.stmts (by omega) (by omega);refine c110.call ⟨_,rfl,λg=>(c111 h.params).call ⟨_,rfl,λf=>(c111 h.locals).call ⟨_,rfl,λu=>⟨λw=>cs.call ⟨_,rfl,?_⟩,λw=>c150.call ⟨_,rfl,λz=>cs.call ⟨_,rfl,?_⟩,λz=>?_⟩⟩,λu=>?_⟩,λf=>?_⟩,λg=>?_⟩;all_goals simp[DX,<-validSs_cnt, *]
theorem c168{V:Mem}[Tab V]{p:Pr}(h:Pr.Ok V p):PP 168 [p.v] V (uB (DX p)):=by
  refine A6.mk (x168 ?_);have cs:(Hc p.body=DX p)->Af [(uI 200)] 165 V fun u w =>
       Tri xV 221 #[(.slice p.bs.p p.bs.n p.bs.c),(uI 1),(.pointer (Aa u 0))] w λe z=>∃g:Bool,e=EQ g/\(xY (.bool g)=xY (.bool (DX p))/\V.sub z):=λe b f=>by
    refine Tri.mono (c221 f p.body p.bs 1 200 _ h.body h.stmts (Mem.sub_new f _) Av (by omega) (by omega) (by omega) (by omega)) ?_;rintro _ _ ⟨rfl,rfl⟩;rw[validSs_v,Mem.set_set,e];exact⟨_,rfl,rfl,Mem.sub_new f _⟩
  refine Eb.call ⟨_,rfl,λy=>(c163 h.params).call ⟨_,rfl,λj=>(c163 h.locals).call ⟨_,rfl,λi=>⟨λl=>cs ?_,λl=>c216.call ⟨_,rfl,λr=>cs ?_,λr=>⟨?_,Mem.sub.refl _⟩⟩⟩,λi=>⟨?_,Mem.sub.refl _⟩⟩,λj=>⟨?_,Mem.sub.refl _⟩⟩,λy=>⟨?_,Mem.sub.refl _⟩⟩;all_goals simp[DX, *]
theorem c219{V:Mem}[Tab V]{b:Bd}(h:E.Ok V b.x):PP 219 [b.v] V (uB (!GC b)):=by
 refine x219 ?_;refine Eb.call ⟨_,rfl,λg=>(HU h).call ⟨_,rfl,?_⟩,λg=>?_⟩<;>simp[GC, *]
theorem c166{V:Mem}[Tab V]{t:Ty}(h:Ty.Ok V t):PP 166 [t.v] V (uB (!EL t)):=by
 refine x166 ?_;refine Eb.call ⟨_,rfl,λg=>(c163 h.fields).call ⟨_,rfl,?_⟩,λg=>?_⟩<;>simp[EL, *]
theorem c167{V:Mem}[Tab V]{t:Pr}(h:Pr.Ok V t):PP 167 [t.v] V (uB (!DX t)):=by
 refine x167 ?_;exact(c168 h).call ⟨_,rfl,rfl,rfl⟩
theorem GenK.max4{P:Program}{V:Mem}{a b c d:Operand}{ty:Nat}{ts:Array TypeId}{vals:Operand->Value}{n1 n2 n3 n4:Int}(h:vals a=uI n1)(g:vals b=uI n2)(f:vals c=uI n3)(u:vals d=uI n4){q:Value->Mem->Prop}
  (z:∀m:Int,n1<=m->n2<=m->n3<=m->n4<=m->(m=n1∨m=n2∨m=n3∨m=n4)->q (uI m) V):GenK P (.call {callee:=.builtin .max,args:=#[a,b,c,d],argTypes:=ts}) ty vals V q:=by
 intro w hw;refine⟨_,w,V,?_,Ax.refl hw,z (max (max (max n1 n2) n3) n4) (by omega) (by omega) (by omega) (by omega) (by omega)⟩;unfold execOp;have e:∀x y:Int,(if y>x then y else x)=max x y:=λx y=>by split<;>omega
 simp only[resolve,invoke,builtin,Sem.run_bind,Sem.run_pure,zW,xP,List.map_cons,List.map_nil,h,g,f,u];simp[Builtin.max_,Builtin.max2,e]
theorem c113{V:Mem}{d:Ds}(h:Ds.Ok V d):PP 113 [d.v] V (uB (FB d)):=by
 refine x113 ?_;generalize G:FB d=X;have key:∀b:Bool,X=b->(xY (.bool b)=xY (.bool X)/\V=V):=λn h=>by simp_all
 unfold FB at G;refine AG d.measures.length (λi V1=>V=V1/\AQ DE d.measures i) ⟨rfl,AQ.zero _ _⟩ ?_;rintro i b V1 J s ⟨rfl,y⟩ l;refine⟨λg=>?_,λw=>?_⟩
 .obtain⟨x,hm,r,q,o,u,j,f⟩:=h.measures.get g;have z:DE x=false->X=false:=λh=>by grind
  refine⟨u,j,g,_,_,_,_,_,_,_,f,c110.call ⟨_,rfl,λH=>c110.call ⟨_,rfl,λa=>⟨λN=>key _ (z ?_),λN=>⟨λZ=>key _ (z ?_),λZ=>(c152 (h.measuresOk x hm).x).call ⟨_,rfl,λe=>⟨h.measures.succ g,l o _ _ ⟨rfl,y.succ r ?_⟩⟩,λe=>key _ (z ?_)⟩⟩⟩,λa=>key _ (z ?_)⟩,λH=>key _ (z ?_)⟩⟩
  .have:¬(-1099511627776<=x.nil/\x.nil<=1099511627776):=by omega
   simp[DE, *]
  .have:¬(-1099511627776<=x.nil/\x.nil<=1099511627776):=by omega
   simp[DE, *]
  .have:(-1099511627776<=x.nil/\x.nil<=1099511627776):=by omega
   simp[DE, *]
  all_goals simp[DE, *]
 have a1:=y.all (h.measures.done w).2;refine AG d.invs.length (λi V1=>V=V1/\AQ E5 d.invs i) ⟨rfl,AQ.zero _ _⟩ ?_;rintro i b V1 J s ⟨rfl,y⟩ l;refine⟨λg=>?_,λw=>?_⟩
 .obtain⟨x,hm,r,q,o,u,j,f⟩:=h.invs.get g;have z:E5 x=false->X=false:=λh=>by rw[<-G,all_false hm (by rw[h];simp)];simp
  refine⟨u,j,g,Ai u,_,_,_,_,_,_,f,c110.call ⟨_,rfl,λH=>⟨u,j,g,Ai u,_,_,_,_,_,_,f,c153.call ⟨_,rfl,λa=>⟨u,j,g,Ai u,_,_,_,_,_,_,f,(c152 (h.invsOk x hm)).call ⟨_,rfl,λe=>⟨h.invs.succ g,l o _ _ ⟨rfl,y.succ r ?_⟩⟩,λe=>key _ (z ?_)⟩⟩,λa=>key _ (z ?_)⟩⟩,λH=>key _ (z ?_)⟩⟩;all_goals simp[E5, *]
 have a2:=y.all (h.invs.done w).2;refine AG d.pots.length (λi V1=>V=V1/\AQ GB d.pots i) ⟨rfl,AQ.zero _ _⟩ ?_;rintro i b V1 J s ⟨rfl,y⟩ l;refine⟨λg=>?_,λw=>?_⟩
 .obtain⟨x,hm,r,q,o,u,j,f⟩:=h.pots.get g;have z:GB x=false->X=false:=λh=>by grind
  refine⟨u,j,g,Ai u,_,_,_,_,_,f,c153.call ⟨_,rfl,λa=>⟨u,j,g,Ai u,_,_,_,_,_,f,(c152 (h.potsOk x hm)).call ⟨_,rfl,λe=>⟨h.pots.succ g,l o _ _ ⟨rfl,y.succ r ?_⟩⟩,λe=>key _ (z ?_)⟩⟩,λa=>key _ (z ?_)⟩⟩;all_goals simp[GB, *]
 have a3:=y.all (h.pots.done w).2;refine AG d.bounds.length (λi V1=>V=V1/\AQ GC d.bounds i) ⟨rfl,AQ.zero _ _⟩ ?_;rintro i b V1 J s ⟨rfl,y⟩ l;refine⟨λg=>?_,λw=>?_⟩
 .obtain⟨x,hm,r,q,o,u,j,f⟩:=h.bounds.get g;have z:GC x=false->X=false:=λh=>by grind
  refine⟨u,j,g,Ai u,_,_,_,_,_,f,c110.call ⟨_,rfl,λa=>⟨u,j,g,Ai u,_,_,_,_,_,f,(c152 (h.boundsOk x hm)).call ⟨_,rfl,λe=>⟨h.bounds.succ g,l o _ _ ⟨rfl,y.succ r ?_⟩⟩,λe=>key _ (z ?_)⟩⟩,λa=>key _ (z ?_)⟩⟩;all_goals simp[GC, *]
 have Y:=y.all (h.bounds.done w).2;simp_all
theorem c164{V:Mem}[Tab V]{d:Ds}(h:Ds.Ok V d):PP 164 [d.v] V (uB (F5 d&&FB d)):=by
 refine x164 ?_;have Z:=h.measures.n_eq;have Y:=h.invs.n_eq;have W:=h.pots.n_eq;have Q:=h.bounds.n_eq;generalize H:(F5 d&&FB d)=X;have key:∀b:Bool,X=b->(xY (.bool b)=xY (.bool X)/\V=V):=λn h=>by simp_all
 unfold FB F5 at H;refine GenK.max4 (n1:=d.ms.n) (n2:=d.is.n) (n3:=d.qs.n) (n4:=d.bs.n) rfl rfl rfl rfl λI M F L R le=>⟨_,rfl,λP=>key _ ?_,λP=>?_⟩;.rw[<-H,decide_eq_false (by omega)];rfl
 rw[decide_eq_true (by omega),Bool.true_and]at H;refine AG d.measures.length (λi V1=>V=V1/\AQ DE d.measures i) ⟨rfl,AQ.zero _ _⟩ ?_;rintro i b V1 J N ⟨rfl,y⟩ j;refine⟨λg=>?_,λz=>?_⟩
 .obtain⟨x,hm,l,r,q,o,a,u⟩:=h.measures.get g;have w:DE x=false->X=false:=λh=>by grind
  refine⟨o,a,g,_,_,_,_,_,_,_,u,Eb.call ⟨_,rfl,λG=>Eb.call ⟨_,rfl,λe=>⟨λO=>key _ (w ?_),λO=>⟨λA=>key _ (w ?_),λA=>(HU (h.measuresOk x hm).x).call ⟨_,rfl,λs=>⟨h.measures.succ g,j q _ _ ⟨rfl,y.succ l ?_⟩⟩,λs=>key _ (w ?_)⟩⟩⟩,λe=>key _ (w ?_)⟩,λG=>key _ (w ?_)⟩⟩
  .have:¬(-1099511627776<=x.nil/\x.nil<=1099511627776):=by omega
   simp[DE, *]
  .have:¬(-1099511627776<=x.nil/\x.nil<=1099511627776):=by omega
   simp[DE, *]
  .have:(-1099511627776<=x.nil/\x.nil<=1099511627776):=by omega
   simp[DE, *]
  all_goals simp[DE, *]
 have a1:=y.all (h.measures.done z).2;refine AG d.invs.length (λi V1=>V=V1/\AQ E5 d.invs i) ⟨rfl,AQ.zero _ _⟩ ?_;rintro i b V1 J N ⟨rfl,y⟩ j;refine⟨λg=>?_,λz=>?_⟩
 .obtain⟨x,hm,l,r,q,o,a,u⟩:=h.invs.get g;have w:E5 x=false->X=false:=λh=>by rw[<-H,all_false hm (by rw[h];simp)];simp
  refine⟨o,a,g,_,_,_,_,_,_,u,Eb.call ⟨_,rfl,λG=>c217.call ⟨_,rfl,λe=>(HU (h.invsOk x hm)).call ⟨_,rfl,λs=>⟨h.invs.succ g,j q _ _ ⟨rfl,y.succ l ?_⟩⟩,λs=>key _ (w ?_)⟩,λe=>key _ (w ?_)⟩,λG=>key _ (w ?_)⟩⟩;all_goals simp[E5, *]
 have a2:=y.all (h.invs.done z).2;refine AG d.pots.length (λi V1=>V=V1/\AQ GB d.pots i) ⟨rfl,AQ.zero _ _⟩ ?_;rintro i b V1 J N ⟨rfl,y⟩ j;refine⟨λg=>?_,λz=>?_⟩
 .obtain⟨x,hm,l,r,q,o,a,u⟩:=h.pots.get g;have w:GB x=false->X=false:=λh=>by grind
  refine⟨o,a,g,_,_,_,_,_,u,c217.call ⟨_,rfl,λe=>(HU (h.potsOk x hm)).call ⟨_,rfl,λs=>⟨h.pots.succ g,j q _ _ ⟨rfl,y.succ l ?_⟩⟩,λs=>key _ (w ?_)⟩,λe=>key _ (w ?_)⟩⟩;all_goals simp[GB, *]
 have a3:=y.all (h.pots.done z).2;refine(c218 (first:=[]) (caps:=[]) h.bounds Tryz.call219 (λf=>!GC f) λf hm=>c219 (h.boundsOk f hm)).call ⟨_,rfl,key _ ?_⟩;simp_all[xk]
theorem JL{V:Mem}{d:Ds}(h:Ds.Ok V d):PP 63 [d.v] V (uB (A8 d)):=by
 refine Pp ?_;have W:=h.measures.n_eq;have Q:=h.invs.n_eq;have P:=h.pots.n_eq;have O:=h.bounds.n_eq;have A:=h.types.n_eq;have n6:=h.procs.n_eq;generalize a:A8 d=X;have key:∀b:Bool,X=b->(xY (.bool b)=xY (.bool X)/\V=V):=λn h=>by simp_all
 unfold A8 at a;have u:F5 d=false->X=false:=λh=>by simp_all
 refine c110.call ⟨_,rfl,λr=>⟨λN=>key _ ?_,λN=>(c111 h.globals).call ⟨_,rfl,λG=>⟨λZ=>key _ ?_,λZ=>⟨λw=>key _ (u ?_),λw=>⟨λh6=>key _ (u ?_),λh6=>⟨λh7=>key _ (u ?_),λh7=>⟨λh8=>key _ (u ?_),λh8=>?_⟩⟩⟩⟩⟩,λG=>key _ ?_⟩⟩,λr=>key _ ?_⟩;.grind
 .grind
 .exact decide_eq_false (by omega)
 .exact decide_eq_false (by omega)
 .exact decide_eq_false (by omega)
 .exact decide_eq_false (by omega)
 .have j:F5 d=true:=decide_eq_true (by omega);rw[r,decide_eq_true (p:=(d.types.length:Int)<=12) (by omega),G,decide_eq_true (p:=(d.procs.length:Int)<=40) (by omega),j]at a;simp only[Bool.true_and]at a;refine AG d.types.length (λi V1=>V=V1/\AQ EL d.types i) ⟨rfl,AQ.zero _ _⟩ ?_;rintro i b V1 J Y ⟨rfl,l⟩ e;refine⟨λg=>?_,λz=>?_⟩
  .obtain⟨x,hm,s,H,j,y,q,f⟩:=h.types.get g;have o:EL x=false->X=false:=λh=>by grind
   refine⟨y,q,g,Ai y,_,_,f,c110.call ⟨_,rfl,λr=>⟨y,q,g,Ai y,_,_,f,(c111 (h.typesOk x hm).fields).call ⟨_,rfl,λw=>⟨h.types.succ g,e j _ _ ⟨rfl,l.succ s ?_⟩⟩,λw=>key _ (o ?_)⟩⟩,λr=>key _ (o ?_)⟩⟩;all_goals simp[EL, *]
  have a1:=l.all (h.types.done z).2;refine AG d.procs.length (λi V1=>V=V1/\AQ DX d.procs i) ⟨rfl,AQ.zero _ _⟩ ?_;rintro i b V1 J Y ⟨rfl,l⟩ e;refine⟨λg=>?_,λz=>?_⟩
  .obtain⟨x,hm,s,H,j,y,q,f⟩:=h.procs.get g;have o:DX x=false->X=false:=λh=>by grind
   exact⟨y,q,g,_,_,_,_,_,f,(c112 (h.procsOk x hm)).call ⟨_,rfl,λw=>⟨h.procs.succ g,e j _ _ ⟨rfl,l.succ s w⟩⟩,λw=>key _ (o (eq_false_of_ne_true w))⟩⟩
  have a2:=l.all (h.procs.done z).2;refine(c113 h).call ⟨_,rfl,key _ ?_⟩;simp_all
 .simp_all
 simp_all
theorem c124{V:Mem}[Tab V]{d:Ds}(h:Ds.Ok V d):PP 124 [d.v] V (uB (A8 d)):=by
 refine x124 ?_;have i:=h.types.n_eq;have n6:=h.procs.n_eq;generalize g:A8 d=X;have key:∀b:Bool,X=b->(xY (.bool b)=xY (.bool X)/\V=V):=λn h=>by simp_all
 unfold A8 at g;refine Eb.call ⟨_,rfl,λu=>⟨λw=>key _ ?_,λw=>(c163 h.globals).call ⟨_,rfl,λz=>⟨λy=>key _ ?_,λy=>(c164 h).call ⟨_,rfl,λj=>(c165 (first:=[]) (caps:=[]) h.types Tryz.call166 (λf=>!EL f) λf hm=>c166 (h.typesOk f hm)).call ⟨_,rfl,λh6=>key _ ?_,λh6=>
   (IK (first:=[]) (caps:=[]) h.procs Tryz.call167 (λf=>!DX f) λf hm=>c167 (h.procsOk f hm)).call ⟨_,rfl,key _ ?_⟩⟩,λj=>key _ ?_⟩⟩,λz=>key _ ?_⟩⟩,λu=>key _ ?_⟩
 .grind
 .grind
 .grind[xk,EL]
 .grind
 .grind
 .simp_all
 simp_all
end Go.Proofs
namespace Go.Proofs
open Go Go.Sx
def Dm:KB:=Ab [110,105,108]
def sE:KB:=Ab []
def BK(d:Ds)(s:KB):Bool:=d.types.any λt=>decide (t.name=s)
def known(d:Ds)(s:KB):Bool:=decide (s=Ak)||decide (s=Ay)||BK d s
def Bt(d:Ds)(a b:KB):Bool:=decide (a=b)||(decide (a=Dm)&&BK d b)
def Bn:XX->KB->KB
 |[],_=>sE
 |f::l,s=>if f.name=s then f.ty else Bn l s
def tyOf(d:Ds)(s:KB):Option Ty:=d.types.find? λt=>decide (t.name=s)
def B6(d:Ds)(s:KB):Option Pr:=d.procs.find? λt=>decide (t.name=s)
def meOf(d:Ds)(s:KB):Option Ms:=d.measures.find? λt=>decide (t.name=s)
def Dd(d:Ds)(t name:KB):KB×Int:=
 match tyOf d t with
 |none=>(sE,11)
 |some ty=>if Bn ty.fields name=sE then(sE,9)else(Bn ty.fields name,0)
def Er(d:Ds):XN->XX->Bool
 |a::l,f::fs=>Bt d a f.ty&&Er d l fs
 |_,_=>true
def Es(d:Ds)(name:KB)(l:XN):KB×Int:=
 match B6 d name with
 |none=>(sE,9)
 |some p=>if l.length≠p.params.length then(sE,3)else if Er d l p.params=true then(p.result,0)else(sE,11)
def C2(ok:Bool)(t:KB):KB×Int:=if ok=true then(t,0)else(sE,11)
structure Sc where
 vars:XX
 body:Bool
def FC(d:Ds)(name:KB)(l:XN):KB×Int:=
 match meOf d name with
 |none=>(sE,9)
 |some m=>if l.length≠1 then(sE,3)else C2 (Bt d (l.getD 0 sE) m.ty) Ak
def E6(d:Ds)(sc:Sc)(name:KB)(l:XN):KB×Int:=
 if sc.body=true then(if(Es d name l).2=0/\(Es d name l).1=sE then(sE,11)else Es d name l)else FC d name l
def allT(l:XN)(t:KB):Bool:=l.all λx=>decide (x=t)
def EN(d:Ds)(sc:Sc)(op:Int)(s:KB)(l:XN):KB×Int:=
 if op=1 then(Ak,0)else if op=2 then(Ay,0)else if op=3 then(Dm,0)
 else if op=4 then(if Bn sc.vars s=sE then(sE,9)else(Bn sc.vars s,0))
 else if op=5 then Dd d (l.getD 0 sE) s
 else if op=6 then(if sc.body=false then(sE,13)else if BK d s=false then(sE,9)else(s,0))
 else if op=7 then E6 d sc s l
 else if op=14∨op=15 then C2 (Bt d (l.getD 0 sE) (l.getD 1 sE)||Bt d (l.getD 1 sE) (l.getD 0 sE)) Ay
 else if op=16∨op=17 then C2 (allT l Ak) Ay
 else if op=18∨op=19∨op=20 then C2 (allT l Ay) Ay
 else if op=21 then C2 (decide (l.getD 0 sE=Ay)&&(Bt d (l.getD 1 sE) (l.getD 2 sE)||Bt d (l.getD 2 sE) (l.getD 1 sE))) (if l.getD 1 sE=Dm then l.getD 2 sE else l.getD 1 sE)
 else C2 (allT l Ak) Ak
mutual
def Ao(d:Ds)(sc:Sc):E->KB×Int
 |.mk op _ s _ k=>if(partsT d sc [] k).2≠0 then(sE,(partsT d sc [] k).2)else EN d sc op s (partsT d sc [] k).1
def partsT(d:Ds)(sc:Sc)(acc:XN):XY->XN×Int
 |[]=>(acc,0)
 |x::xs=>if(Ao d sc x).2≠0 then([],(Ao d sc x).2)else partsT d sc (acc++[(Ao d sc x).1]) xs
end
theorem JM(d:Ds)(sc:Sc)(e:E):Ao d sc e=if(partsT d sc [] e.k).2≠0 then(sE,(partsT d sc [] e.k).2)else EN d sc e.op e.s (partsT d sc [] e.k).1:=by
 cases e;rfl
theorem Hd(d:Ds)(sc:Sc)(acc:XN)(x:E)(xs:XY):partsT d sc acc (x::xs)=if(Ao d sc x).2≠0 then([],(Ao d sc x).2)else partsT d sc (acc++[(Ao d sc x).1]) xs:=by rw[partsT]
theorem HX(d:Ds)(sc:Sc)(acc:XN):partsT d sc acc []=(acc,0):=by rw[partsT]
theorem Ln(d:Ds)(sc:Sc):∀(k:XY)(acc:XN),(partsT d sc acc k).2=0->(partsT d sc acc k).1.length=acc.length+k.length
 |[],acc,_=>by rfl
 |x::xs,acc,h=>by
  rw[Hd]at h⊢;split at h;.omega
  .rename_i g;rw[if_neg g,Ln d sc xs _ h,zK,zg,zg,List.length_nil];omega
def AA(d:Ds)(p:Pr):Sc:=⟨p.params++p.locals++d.globals,true⟩
def C3:KB:=Ab [116,104,105,115]
def AM(d:Ds)(t:KB):Sc:=⟨(if t=sE then[]else[⟨C3,t⟩])++d.globals,false⟩
def DY(d:Ds)(p:Pr):Sc:=⟨p.params++d.globals,false⟩
def Ec(d:Ds)(sc:Sc)(result:KB)(op:Int)(s:KB)(es:XY):Int:=
 if op=6 then
  match es with
  |[]=>0
  |e::_=>if(partsT d sc [] e.k).2≠0 then(partsT d sc [] e.k).2 else(Es d e.s (partsT d sc [] e.k).1).2
 else if(partsT d sc [] es).2≠0 then(partsT d sc [] es).2
 else if op=1 then(if Bn sc.vars s=sE then 9 else if Bt d ((partsT d sc [] es).1.getD 0 sE) (Bn sc.vars s)=true then 0 else 11)
 else if op=2 then(if(Dd d ((partsT d sc [] es).1.getD 0 sE) s).2≠0 then(Dd d ((partsT d sc [] es).1.getD 0 sE) s).2 else if Bt d ((partsT d sc [] es).1.getD 1 sE) (Dd d ((partsT d sc [] es).1.getD 0 sE) s).1=true then 0 else 11)
 else if op=3∨op=4 then(if(partsT d sc [] es).1.getD 0 sE=Ay then 0 else 11)
 else if op=5 then(if(partsT d sc [] es).1.length=0 then(if result=sE then 0 else 11)else if result≠sE/\Bt d ((partsT d sc [] es).1.getD 0 sE) result=true then 0 else 11)
 else 0
mutual
def Ed(d:Ds)(sc:Sc)(result:KB)(n:Int):S->Int×Int
 |.mk op s _ es _ ls _ xs=>
  if Ec d sc result op s es≠0 then(n,Ec d sc result op s es)
  else if(AN d sc result (n+1) ls).2≠0 then AN d sc result (n+1) ls
  else AN d sc result (AN d sc result (n+1) ls).1 xs
def AN(d:Ds)(sc:Sc)(result:KB)(n:Int):XK->Int×Int
 |[]=>(n,0)
 |x::xs=>if(Ed d sc result n x).2≠0 then Ed d sc result n x else AN d sc result (Ed d sc result n x).1 xs
end
theorem stT_eq(d:Ds)(sc:Sc)(result:KB)(n:Int)(x:S):Ed d sc result n x=if Ec d sc result x.op x.s x.es≠0 then(n,Ec d sc result x.op x.s x.es)else if(AN d sc result (n+1) x.ls).2≠0 then AN d sc result (n+1) x.ls else AN d sc result (AN d sc result (n+1) x.ls).1 x.xs:=by
 cases x;unfold Ed;rfl
theorem JN(d:Ds)(sc:Sc)(result:KB)(n:Int)(x:S)(xs:XK):AN d sc result n (x::xs)=if(Ed d sc result n x).2≠0 then Ed d sc result n x else AN d sc result (Ed d sc result n x).1 xs:=by rw[AN]
theorem stsT_nil(d:Ds)(sc:Sc)(result:KB)(n:Int):AN d sc result n []=(n,0):=by rw[AN]
def BO(d:Ds)(l:XX)(i:Nat)(f:Fld):Int:=if(l.take i).any (λg=>decide (g.name=f.name))=true then 10 else if known d f.ty=true then 0 else 9
def Aq{α β:Type}(f:Nat->α->Option β):Nat->List α->Option β
 |_,[]=>none
 |i,x::xs=>match f i x with|some b=>some b|none=>Aq f (i+1) xs
def Cu(d:Ds)(l:XX):Int:=(Aq (λi f=>if BO d l i f≠0 then some (BO d l i f)else none) 0 l).getD 0
abbrev Flt:=KB×Int×Int
abbrev _root_.Go.XT:=Option Flt
def types1(d:Ds):XT:=Aq (λi t=>if(d.types.take i).any (λg=>decide (g.name=t.name))=true then some (t.name,-1,10)else none) 0 d.types
def types2(d:Ds):XT:=Aq (λ_ t=>if Cu d t.fields≠0 then some (t.name,-1,Cu d t.fields)else none) 0 d.types
def types3(d:Ds):XT:=Aq (λi f=>if BO d d.globals i f≠0 then some (f.name,-1,BO d d.globals i f)else none) 0 d.globals
def He(d:Ds):XT:=(types1 d).or ((types2 d).or (types3 d))
def F6(d:Ds):XT:=Aq (λi p=>if(d.procs.take i).any (λg=>decide (g.name=p.name))=true then some (p.name,-1,10)else if Cu d (p.params++p.locals)≠0 then some (p.name,-1,Cu d (p.params++p.locals))else if p.result≠sE/\known d p.result=false then some (p.name,-1,9)else none) 0 d.procs
def form1(d:Ds):XT:=Aq (λi m=>if(d.measures.take i).any (λg=>decide (g.name=m.name))=true then some (m.name,-1,10)else if BK d m.ty=false then some (m.name,-1,9)else none) 0 d.measures
def form2(d:Ds):XT:=Aq (λi m=>if(d.invs.take i).any (λg=>decide (g.name=m.name))=true then some (m.name,-1,10)else if m.ty≠sE/\BK d m.ty=false then some (m.name,-1,9)else none) 0 d.invs
def sPot:KB:=Ab [112,111,116,101,110,116,105,97,108]
def form3(d:Ds):XT:=Aq (λ_ m=>if m.ty≠sE/\BK d m.ty=false then some (sPot,-1,9)else none) 0 d.pots
def form4(d:Ds):XT:=Aq (λi b=>if(B6 d b.proc).isNone=true then some (b.proc,-1,9)else if(d.bounds.take i).any (λg=>decide (g.proc=b.proc))=true then some (b.proc,-1,10)else none) 0 d.bounds
def Dn(d:Ds):XT:=(form1 d).or ((form2 d).or ((form3 d).or (form4 d)))
def Et(d:Ds):XT:=Aq (λ_ p=>if(AN d (AA d p) p.result 0 p.body).2≠0 then some (p.name,(AN d (AA d p) p.result 0 p.body).1,(AN d (AA d p) p.result 0 p.body).2)else none) 0 d.procs
def Ba(d:Ds)(sc:Sc)(e:E)(t:KB):Int:=if(Ao d sc e).2≠0 then(Ao d sc e).2 else if(Ao d sc e).1=t then 0 else 11
def exp1(d:Ds):XT:=Aq (λ_ m=>if Ba d (AM d m.ty) m.x Ak≠0 then some (m.name,-1,Ba d (AM d m.ty) m.x Ak)else none) 0 d.measures
def exp2(d:Ds):XT:=Aq (λ_ m=>if Ba d (AM d m.ty) m.x Ay≠0 then some (m.name,-1,Ba d (AM d m.ty) m.x Ay)else none) 0 d.invs
def exp3(d:Ds):XT:=Aq (λ_ m=>if Ba d (AM d m.ty) m.x Ak≠0 then some (sPot,-1,Ba d (AM d m.ty) m.x Ak)else none) 0 d.pots
def Hf:Pr:=⟨sE,⟨none,0,0⟩,[],sE,⟨none,0,0⟩,[],⟨none,0,0⟩,[]⟩
def exp4(d:Ds):XT:=Aq (λ_ m=>if Ba d (DY d ((B6 d m.proc).getD Hf)) m.x Ak≠0 then some (m.proc,-1,Ba d (DY d ((B6 d m.proc).getD Hf)) m.x Ak)else none) 0 d.bounds
def Eu(d:Ds):XT:=(exp1 d).or ((exp2 d).or ((exp3 d).or (exp4 d)))
def B0(d:Ds):XT:=(He d).or ((F6 d).or ((Dn d).or ((Et d).or (Eu d))))
def fltR(o:XT):Flt:=o.getD (sE,0,0)
attribute [local irreducible] Go.Sx.Tri
noncomputable def ti(t:Nat):TypeInfo:=(xV.info? t).getD default
section
variable{α:Type}
def AppP(t e sz:Nat)(row:α->XV):Prop:=∀{V0 V:Mem}{ty:Nat}{x y:Operand}{vals:Operand->Value}{s u:Sl}{xs ys:List α}(f:vals x=uL s)(w:vals y=uL u)(own:Sx.Own V0 V e sz s (xs.flatMap row))(h:Ae V u sz (ys.map row))
 (g:xs.length+ys.length<=2147483648) {q:Value->Mem->Prop} (z:∀s' V',Sx.Own V0 V' e sz s' ((xs++ys).flatMap row)->q (.slice s'.p s'.n s'.c) V'),
 GenK xV (.call {callee:=.builtin .append,args:=#[x,y],argTypes:=#[t,t]}) ty vals V q
theorem appG{t e sz:Nat}{row:α->XV}(f:xV.underlying t=some (.slice e))(hi:xV.info? e=some (ti e))(w:(ti e).zero=some ((ti e).zero.getD undef))(z:(ti e).size=sz)(j:((ti e).zero.getD undef).cells.size=sz)(i:decide ((ti e).bytes<=65536)=true)
  (l:0<sz) (n:∀x,(row x).length=sz) (hu:∀x,∀u∈row x,u.oneCell'=true):AppP t e sz row:=by
 intro V0 V ty x y vals s u xs H r o own h g q a;exact GenK.appendS f hi w z j l (of_decide_eq_true i) r o own n h hu g a
end
theorem app37:AppP 37 9 1 Bs:=appG Tryz.underlying37 (by kernel_rfl) (by kernel_rfl) (by kernel_rfl) (by kernel_rfl) (by kernel_rfl) (by decide) (by intro _;rfl) λx u hu=>by simp[Bs,vS]at hu;rw[hu];rfl
theorem Ee:AppP 23 97 2 Fld.row:=appG xh (by kernel_rfl) (by kernel_rfl) (by kernel_rfl) (by kernel_rfl) (by kernel_rfl) (by decide) (by intro _;rfl) λx u hu=>by simp[Fld.row,vS]at hu;rcases hu with rfl|rfl<;>rfl
def B1{α:Type}(p:α->Bool)(xs:List α):Int:=match xs.findIdx? p with|some i=>(i:Int)|none=>-1
theorem E7{α:Type}{p:α->Bool}{xs:List α}{i:Nat}{x:α}(h:AQ (λy=>!p y) xs i)(g:xs[i]?=some x)(w:p x=true):B1 p xs=i:=by
 have f:=(yg.1 g).1;have z:=(yg.1 g).2;have:xs.findIdx? p=some i:=xB.2 ⟨f,by grind,λj u=>by
  have:=h j _ u (yf (Nat.lt_trans u f));simpa using this⟩
 unfold B1;rw[this]
theorem E8{α:Type}{p:α->Bool}{xs:List α}{i:Nat}(h:AQ (λy=>!p y) xs i)(hi:xs.length<=i):B1 p xs=-1:=by
 have:xs.findIdx? p=none:=List.findIdx?_eq_none_iff.2 λx g=>by
  obtain⟨j,f,rfl⟩:=xE.1 g;have:=h j _ (by omega) (yf f);simpa using this
 unfold B1;rw[this]
theorem Cv{α:Type}(p:α->Bool)(xs:List α):(B1 p xs=-1/\xs.find? p=none/\xs.any p=false)∨∃(i:Nat)(x:α),B1 p xs=i/\xs[i]?=some x/\xs.find? p=some x/\i<xs.length/\p x=true/\x∈xs/\xs.any p=true/\(xs.take i).any p=false:=by
 cases h:xs.findIdx? p with
 |none=>
  grind[B1]
 |some i=>
  obtain⟨g,f,w⟩:=xB.1 h;refine .inr ⟨i,xs[i],by unfold B1;rw[h],yf g,?_,g,f,ya _,xg.2 ⟨_,ya _,f⟩,?_⟩
  .rw[List.find?_eq_some_iff_getElem];grind
  .rw[xf];intro x u;obtain⟨j,z,rfl⟩:=xE.1 u;grind
theorem E9{α:Type}{p:α->Bool}{xs:List α}{i:Nat}{x:α}(h:AQ (λy=>!p y) xs i)(g:xs[i]?=some x)(f:p x=false):AQ (λy=>!p y) xs (i+1):=h.succ g (by simp[f])
theorem c120{V:Mem}{d:Ds}(h:Ds.Ok V d){s:KB}:PP 120 [d.v,uS s] V (uI (B1 (λt=>decide (t.name=s)) d.types)):=by
 refine x120 ?_;refine AG d.types.length (λi V1=>V=V1/\AQ (λt=>!decide (t.name=s)) d.types i) ⟨rfl,AQ.zero _ _⟩ ?_;rintro i b V1 J o ⟨rfl,u⟩ l;refine⟨λg=>?_,λw=>?_⟩
 .obtain⟨x,hm,y,n,r,j,q,f⟩:=h.types.get g;refine⟨j,q,g,Ai j,_,_,f,λz=>?_,λz=>⟨h.types.succ g,l r _ _ ⟨rfl,E9 (p:=λt=>decide (t.name=s)) u y (decide_eq_false z)⟩⟩⟩;rw[E7 (p:=λt=>decide (t.name=s)) u y (decide_eq_true z)];simp_all
 .rw[E8 (p:=λt=>decide (t.name=s)) u (h.types.done w).2];exact⟨rfl,rfl⟩
theorem c159{V:Mem}{d:Ds}(h:Ds.Ok V d){s:KB}:PP 159 [d.v,uS s] V (uI (B1 (λt=>decide (t.name=s)) d.procs)):=by
 refine x159 ?_;refine AG d.procs.length (λi V1=>V=V1/\AQ (λt=>!decide (t.name=s)) d.procs i) ⟨rfl,AQ.zero _ _⟩ ?_;rintro i b V1 J o ⟨rfl,u⟩ l;refine⟨λg=>?_,λw=>?_⟩
 .obtain⟨x,hm,y,n,r,j,q,f⟩:=h.procs.get g;refine⟨j,q,g,Ai j,_,_,_,_,_,f,λz=>?_,λz=>⟨h.procs.succ g,l r _ _ ⟨rfl,E9 (p:=λt=>decide (t.name=s)) u y (decide_eq_false z)⟩⟩⟩;rw[E7 (p:=λt=>decide (t.name=s)) u y (decide_eq_true z)];simp_all
 .rw[E8 (p:=λt=>decide (t.name=s)) u (h.procs.done w).2];exact⟨rfl,rfl⟩
theorem c205{V:Mem}{d:Ds}(h:Ds.Ok V d){s:KB}:PP 205 [d.v,uS s] V (uI (B1 (λt=>decide (t.name=s)) d.measures)):=by
 refine x205 ?_;refine AG d.measures.length (λi V1=>V=V1/\AQ (λt=>!decide (t.name=s)) d.measures i) ⟨rfl,AQ.zero _ _⟩ ?_;rintro i b V1 J o ⟨rfl,u⟩ l;refine⟨λg=>?_,λw=>?_⟩
 .obtain⟨x,hm,y,n,r,j,q,f⟩:=h.measures.get g;refine⟨j,q,g,Ai j,_,_,_,_,_,_,_,f,λz=>?_,λz=>⟨h.measures.succ g,l r _ _ ⟨rfl,E9 (p:=λt=>decide (t.name=s)) u y (decide_eq_false z)⟩⟩⟩;rw[E7 (p:=λt=>decide (t.name=s)) u y (decide_eq_true z)];simp_all
 .rw[E8 (p:=λt=>decide (t.name=s)) u (h.measures.done w).2];exact⟨rfl,rfl⟩
section
variable{V:Mem}{d:Ds}
theorem c206(h:Ds.Ok V d){s:KB}:PP 206 [d.v,uS s] V (uB (BK d s)):=by
 refine x206 ?_;refine(c120 h).call ⟨_,rfl,?_⟩;rcases Cv (λt:Ty=>decide (t.name=s)) d.types with⟨g,u,f⟩|⟨i,x,g,u,f,w,z,h6,h7,_⟩;.rw[g,BK,f];exact⟨rfl,rfl⟩
 .rw[g,BK,h7,decide_eq_true (by omega)];exact⟨rfl,rfl⟩
theorem c204(h:Ds.Ok V d){s:KB}:PP 204 [d.v,uS s] V (uB (known d s)):=by
 refine x204 ?_;refine⟨λg=>?_,λg=>⟨λf=>?_,λf=>(c206 h).call ⟨_,rfl,?_⟩⟩⟩<;>simp[known,Ak,Ay, *]
theorem c273(h:Ds.Ok V d){s t:KB}:PP 273 [d.v,uS s,uS t] V (uB (Bt d s t)):=by
 refine x273 ?_;unfold Bt Dm;refine⟨λg=>?_,λg=>⟨λf=>(c206 h).call ⟨_,rfl,?_⟩,λf=>?_⟩⟩;.simp_all
 .simp_all
 simp_all
theorem Nl(fs:XX):Er d [] fs=true:=by simp[Er]
theorem c272{l:Sl}{xs:XX}(h:Ae V l 2 (xs.map Fld.row)){s:KB}:PP 272 [l.v,uS s] V (uS (Bn xs s)):=by
 refine x272 ?_;refine AG xs.length (λi V1=>V=V1/\Bn xs s=Bn (xs.drop i) s) ⟨rfl,rfl⟩ ?_;rintro i b V1 J o ⟨rfl,y⟩ n;refine⟨λg=>?_,λw=>?_⟩
 .obtain⟨x,hm,a,z,r,u,j,f⟩:=h.get g;rw[z,Bn]at y;refine⟨u,j,g,Ai u,_,_,f,λq=>⟨u,j,g,Ai u,_,_,f,?_⟩,λq=>⟨h.succ g,n r _ _ ⟨rfl,?_⟩⟩⟩;.simp_all
  simp_all
 .rw[y,(h.done w).1];exact⟨rfl,rfl⟩
theorem c274(h:Ds.Ok V d){s t:KB}:PP 274 [d.v,uS s,uS t] V (.tuple #[uS (Dd d s t).1,uI (Dd d s t).2]):=by
 refine x274 ?_;refine(c120 h).call ⟨_,rfl,?_⟩;unfold Dd tyOf;rcases Cv (λt:Ty=>decide (t.name=s)) d.types with⟨u,w,z⟩|⟨i,x,u,w,z,a,e,h6,h7,_⟩;.rw[u,w];exact⟨λ_=>⟨rfl,rfl⟩,λh=>absurd h (by decide)⟩
 .rw[u,z];have H:=h.types.n_eq;have g:(i:Int)<(d.ts.n:Int):=by omega
  obtain⟨y,hm,j,r,J,l,q,f⟩:=h.types.get g;rw[w]at j;cases j;refine⟨λh=>absurd h (by omega),λ_=>⟨l,q,g,Ai l,_,_,f,(c272 (h.typesOk x h6).fields).call ⟨_,rfl,λo=>?_,λo=>?_⟩⟩⟩;.grind[sE]
  grind[sE]
theorem c320{b:Bool}{s:KB}:PP 320 [.bool b,uS s] V (.tuple #[uS (C2 b s).1,uI (C2 b s).2]):=by
 refine x320 ?_;refine⟨λh=>?_,λh=>?_⟩;.unfold C2;rw[if_pos h];exact⟨rfl,rfl⟩
 .unfold C2;rw[if_neg h];exact⟨rfl,rfl⟩
theorem c321{l:Sl}{xs:XN}(h:Ae V l 1 (xs.map Bs)){s:KB}:PP 321 [l.v,uS s] V (uB (allT xs s)):=by
 refine x321 ?_;refine AG xs.length (λi V1=>V=V1/\AQ (λx=>decide (x=s)) xs i) ⟨rfl,AQ.zero _ _⟩ ?_;rintro i b V1 J a ⟨rfl,w⟩ y;refine⟨λg=>?_,λu=>?_⟩
 .obtain⟨x,hm,j,n,r,q,o,f⟩:=h.get g;refine⟨q,o,g,_,f,λz=>⟨h.succ g,y r _ _ ⟨rfl,w.succ j (decide_eq_true z)⟩⟩,λz=>?_⟩;unfold allT;grind
 .unfold allT;rw[w.all (h.done u).2];simp_all
theorem c270(h:Ds.Ok V d){s:KB}{l:Sl}{xs:XN}(e:Ae V l 1 (xs.map Bs)):PP 270 [d.v,uS s,l.v] V (.tuple #[uS (Es d s xs).1,uI (Es d s xs).2]):=by
 refine x270 ?_;refine(c159 h).call ⟨_,rfl,?_⟩;unfold Es B6;rcases Cv (λt:Pr=>decide (t.name=s)) d.procs with⟨G,N,A⟩|⟨i,x,G,N,A,U,h5,h6,h7,_⟩;.rw[G,N];exact⟨λ_=>⟨rfl,rfl⟩,λh=>absurd h (by decide)⟩
 .rw[G,A];have hn:=h.procs.n_eq;have g:(i:Int)<(d.ps.n:Int):=by omega
  obtain⟨y,hm,I,F,L,R,X,r⟩:=h.procs.get g;rw[N]at I;cases I;have q:=h.procsOk x h6;have e1:=e.n_eq;have e2:=q.params.n_eq;refine⟨λh=>absurd h (by omega),λ_=>⟨R,X,g,_,_,_,_,_,r,λB=>?_,λB=>?_⟩⟩
  .have u:xs.length=x.params.length:=by omega
   simp only[u,ne_eq,not_true_eq_false,if_false];refine Dk xs.length (λi V1=>V=V1/\Er d xs x.params=Er d (xs.drop i) (x.params.drop i)) ⟨rfl,rfl⟩ ?_;rintro j b c V1 J hi ⟨rfl,H⟩ C;refine⟨λg=>?_,λZ=>?_⟩
   .obtain⟨y,D,E,o,Y,W,Q,w⟩:=e.get g;obtain⟨f,K,S,P,T,a,O,z⟩:=q.params.get (i:=j) (by omega);rw[o,P,Er]at H;refine⟨W,Q,g,_,w,a,O,by omega,Ai a,_,_,z,(c273 h).call ⟨_,rfl,λM=>⟨e.succ g,C Y _ _ _ ⟨rfl,?_⟩⟩,λM=>?_⟩⟩;.simp_all
    .rw[eq_false_of_ne_true M,xj]at H;rw[H];exact⟨rfl,rfl⟩
   .rw[(e.done Z).1,Nl]at H;simp_all
  .have u:¬xs.length=x.params.length:=by omega
   simp only[ne_eq,u,not_false_eq_true,if_true];exact⟨by rfl,by simp_all⟩
theorem EO{l:Sl}{xs:XN}(w:Ae V l 1 (xs.map Bs)){i:Nat}(hi:i<xs.length):¬(l.p=none)/\(i:Int)<(l.n:Int)/\V.rowp l.p i 1=some [uS (xs.getD i sE)]:=by
 have o:=w.n_eq;have g:(i:Int)<(l.n:Int):=by omega
 obtain⟨y,j,f,z,r,u,q,h⟩:=w.get g;rw[List.getD_eq_getElem?_getD,f];rw[Nat.mul_one]at h;exact⟨u,g,h⟩
theorem c319(h:Ds.Ok V d){sl:Sl}{sc:Sc}{s:KB}{l:Sl}{xs:XN}(j:Ae V l 1 (xs.map Bs)):
  PP 319 [d.v,.agg #[sl.v,.bool sc.body],uS s,l.v] V (.tuple #[uS (E6 d sc s xs).1,uI (E6 d sc s xs).2]):=by
 refine x319 ?_;refine⟨λu=>(c270 h j).call ⟨_,_,rfl,λr=>⟨λg=>?_,λg=>?_⟩,λr=>?_⟩,λu=>?_⟩;.unfold E6 sE;rw[if_pos u,if_pos ⟨r,g⟩];exact⟨rfl,rfl⟩
 .unfold E6 sE;rw[if_pos u,if_neg (λh=>g h.2)];exact⟨rfl,rfl⟩
 .unfold E6;rw[if_pos u,if_neg (λh=>r h.1)];exact⟨rfl,rfl⟩
 .unfold E6;rw[if_neg u];refine(c205 h).call ⟨_,rfl,?_⟩;unfold FC meOf;rcases Cv (λt:Ms=>decide (t.name=s)) d.measures with⟨g,q,o⟩|⟨i,x,g,q,o,Z,Y,h6,h7,_⟩;.rw[g,q];exact⟨λ_=>⟨rfl,rfl⟩,λh=>absurd h (by decide)⟩
  .rw[g,o];have W:=h.measures.n_eq;have w:(i:Int)<(d.ms.n:Int):=by omega
   obtain⟨y,hm,a,H,J,e,G,z⟩:=h.measures.get w;rw[q]at a;cases a;have Q:=j.n_eq;refine⟨λh=>absurd h (by omega),λ_=>⟨λN=>?_,λN=>?_⟩⟩
   .have f:xs.length=1:=by omega
    obtain⟨a1,a2,a3⟩:=EO j (i:=0) (by omega);simp only[f,ne_eq,not_true_eq_false,if_false];exact⟨a1,by omega,by omega,_,a3,e,G,w,Ai e,_,_,_,_,_,_,_,z,(c273 h).call ⟨_,rfl,c320.call ⟨_,_,rfl,rfl,rfl⟩⟩⟩
   .have f:¬xs.length=1:=by omega
    simp only[ne_eq,f,not_false_eq_true,if_true];exact⟨by rfl,by simp_all⟩
end
theorem arity{op n:Int}{s:KB}{len:Int}(h:CL op n s len=true):(op=5->len=1)/\(op=14∨op=15->len=2)/\(op=21->len=3)/\len<=6:=by
 grind[CL,BD]
theorem IM{d:Int}{e:E}(h:BF d e=true):CL e.op e.n e.s e.k.length=true:=by
 cases e;unfold BF at h;rw[zD,zD]at h;exact h.1.2
theorem okEs_mem{d:Int}:∀{l:XY},okEs d l=true->∀x∈l,BF d x=true
 |[],_,x,g=>absurd g xT
 |y::l,h,x,g=>by
  unfold okEs at h;rw[zD]at h;rcases zJ.1 g with rfl|g;.exact h.1
  .exact okEs_mem h.2 x g
theorem JO{d:Int}{e:E}(h:BF d e=true):∀x∈e.k,BF (d+1) x=true:=by
 cases e;unfold BF at h;rw[zD]at h;exact okEs_mem h.2
theorem ownS{V0 V:Mem}{s:Sl}{l:XN}(h:Own V0 V 9 1 s (l.flatMap Bs)):Ae V s 1 (l.map Bs):=h.rows (λ_=>rfl) (by decide)
theorem IN{V:Mem}{b:Nat}{s:KB}{t:Nat}(h:V b=some (.cells #[uS s] t (0,0))):Ae V ⟨some ⟨b,0,none⟩,1,1⟩ 1 ([s].map Bs):=
 Ae.cells (xs:=[s]) (row:=Bs) h rfl (λ_=>rfl) rfl (by simp)
def HY(sl:Sl)(sc:Sc):Value:=.agg #[sl.v,.bool sc.body]
section
variable{V:Mem}{d:Ds}{sc:Sc}{sl:Sl}
def RefE(V:Mem)(d:Ds)(sl:Sl)(sc:Sc)(e:E):Prop:=∀V1,V.sub V1->PP 271 [d.v,HY sl sc,e.v] V1 (.tuple #[uS (Ao d sc e).1,uI (Ao d sc e).2])
theorem refParts(e:E)(N:E.Ok V e)(G:(e.k.length:Int)<=6)(Z:∀x∈e.k,RefE V d sl sc x):
  Tri xV 269 #[d.v,HY sl sc,e.v] V λr V'=>∃s':Sl,r=rT #[.slice s'.p s'.n s'.c,uI (partsT d sc [] e.k).2]/\V.sub V'/\Ae V' s' 1 ((partsT d sc [] e.k).1.map Bs):=by
 have Y:=N.rows;refine x269 ?_;refine loop4s (mk:=uL) (mc:=.int .i64) (md:=uL) ⟨none,0,0⟩ 0 ⟨none,0,0⟩ AT e.k.length (λi s V1=>∃acc,Own V V1 9 1 s (acc.flatMap Bs)/\partsT d sc [] e.k=partsT d sc acc (e.k.drop i)/\acc.length=i) ⟨[],Own.nil (Mem.sub.refl _) _ _,rfl,rfl⟩ ?_;rintro i b c s V1 J A ⟨acc,g,f,w⟩ W;have z:=Y.sub g.sub;refine⟨λy=>?_,λl=>?_⟩
 .obtain⟨x,hm,I,q,Q,o,P,j⟩:=z.get y;rw[q,Hd]at f;refine⟨o,P,y,_,_,_,_,j,(Z x hm V1 g.sub).call ⟨_,_,rfl,λa=>?_,λa=>?_⟩⟩
  .intro b1 H;rw[if_neg (λh=>h a)]at f;refine app37 (s:=s) (u:=⟨some ⟨b1,0,none⟩,1,1⟩) (xs:=acc) (ys:=[(Ao d sc x).1]) rfl rfl (g.new H _) (IN Av) (by simp;omega) λs' V' O=>⟨s',rfl,z.succ y,W Q _ _ _ _ ⟨_,O,f,by simp[w]⟩⟩
  .rw[if_pos a]at f;exact⟨⟨none,0,0⟩,by rw[f],g.sub,by rw[f];exact Ae.nil⟩
 .rw[(z.done l).1,HX]at f;exact⟨s,by rw[f],g.sub,by grind[ownS]⟩
set_option maxRecDepth 4000 in
theorem JP(hd:Ds.Ok V d)(F:Ae V sl 2 (sc.vars.map Fld.row)):∀(e:E),E.Ok V e->∀L,BF L e=true->RefE V d sl sc e:=by
 intro e;induction e using E.ind with
 |h e ih=>
 intro he L O V1 M;have G:=arity (IM O);have hk:∀x∈e.k,RefE V1 d sl sc x:=λx R V2 h2=>ih x R (he.kids x R) (L+1) (JO O x R) V2 (M.trans h2);refine A6.mk (x271 ?_);refine Tri.mono (refParts e (he.sub M) G.2.2.2 hk) ?_;rintro _ V2 ⟨s',rfl,N,g⟩;rw[JM];have H:=Ln d sc e.k [];generalize hPT:partsT d sc [] e.k=pt at g H;obtain⟨l,f⟩:=pt;refine⟨s',f,rfl,λz=>?_,λz=>?_⟩
 .subst z;have H:l.length=e.k.length:=by simp_all
  simp only[ne_eq,not_true_eq_false,if_false];have q:=hd.sub (M.trans N);have A:=F.sub (M.trans N);generalize w:EN d sc e.op e.s l=X;have key:∀a b,X=(a,b)->(xY (.tuple #[uS a,uI b])=xY (.tuple #[uS X.1,uI X.2])/\V1.sub V2):=λa b h=>by simp_all
  have i:=λt=>c321 g (s:=t);have u:=λa b=>c273 q (s:=a) (t:=b);have Z:=λh:0<l.length=>EO g h;have at1:=λh:1<l.length=>EO g h;have at2:=λh:2<l.length=>EO g h;unfold EN at w;refine⟨λy=>key _ _ ?_,λy=>⟨λj=>key _ _ ?_,λj=>⟨λn=>key _ _ ?_,λn=>⟨λr=>?_,λr=>⟨λo=>?_,λo=>⟨λJ=>?_,λJ=>⟨λY=>?_,λY=>⟨λB=>?_,λB=>⟨λC=>?_,λC=>⟨λD=>?_,λD=>⟨λK=>?_,λK=>⟨λS=>?_,λS=>⟨λT=>?_,λT=>⟨λU=>?_,λU=>⟨λW=>?_,λW=>?_⟩⟩⟩⟩⟩⟩⟩⟩⟩⟩⟩⟩⟩⟩⟩;.rw[<-w,if_pos y];rfl
  .rw[<-w,if_neg y,if_pos j];rfl
  .rw[<-w,if_neg y,if_neg j,if_pos n];rfl
  .rw[if_neg y,if_neg j,if_neg n,if_pos r]at w;refine(c272 A).call ⟨_,rfl,λh=>key _ _ ?_,λh=>key _ _ ?_⟩;.grind[Bn,sE]
   grind[Bn,sE]
  .rw[if_neg y,if_neg j,if_neg n,if_neg r,if_pos o]at w;obtain⟨a1,a2,a3⟩:=Z (by omega);exact⟨a1,by omega,a2,_,a3,(c274 q).call ⟨_,_,rfl,key _ _ (by rw[<-w])⟩⟩
  .rw[if_neg y,if_neg j,if_neg n,if_neg r,if_neg o,if_pos J]at w;refine⟨λhb=>(c206 q).call ⟨_,rfl,λP=>key _ _ ?_,λP=>key _ _ ?_⟩,λhb=>key _ _ ?_⟩;.simp_all
   .rw[<-w,if_neg (by rw[hb];simp),if_pos (eq_false_of_ne_true P)];rfl
   .rw[<-w,if_pos (eq_false_of_ne_true hb)];rfl
  .rw[if_neg y,if_neg j,if_neg n,if_neg r,if_neg o,if_neg J,if_pos Y]at w;exact(c319 q (sl:=sl) g).call ⟨_,_,rfl,key _ _ (by rw[<-w])⟩
  iterate 2
   .rw[if_neg y,if_neg j,if_neg n,if_neg r,if_neg o,if_neg J,if_neg Y,if_pos (by omega)]at w;obtain⟨a1,a2,a3⟩:=Z (by have:=G.2.1 (by omega);omega);obtain⟨b1,b2,b3⟩:=at1 (by have:=G.2.1 (by omega);omega);refine⟨a1,by omega,a2,_,a3,b1,by omega,b2,_,b3,(u _ _).call ⟨_,rfl,λh=>c320.call ⟨_,_,rfl,key _ _ ?_⟩,λh=>⟨b1,by omega,b2,_,b3,a1,by omega,a2,_,a3,(u _ _).call ⟨_,rfl,c320.call ⟨_,_,rfl,key _ _ ?_⟩⟩⟩⟩⟩;.rw[<-w,h];rfl
    .rw[<-w,eq_false_of_ne_true h];rfl
  iterate 2
   .rw[if_neg y,if_neg j,if_neg n,if_neg r,if_neg o,if_neg J,if_neg Y,if_neg (by omega),if_pos (by omega)]at w;exact(i _).call ⟨_,rfl,c320.call ⟨_,_,rfl,key _ _ (by rw[<-w];rfl)⟩⟩
  iterate 3
   .rw[if_neg y,if_neg j,if_neg n,if_neg r,if_neg o,if_neg J,if_neg Y,if_neg (by omega),if_neg (by omega),if_pos (by omega)]at w;exact(i _).call ⟨_,rfl,c320.call ⟨_,_,rfl,key _ _ (by rw[<-w];rfl)⟩⟩
  .rw[if_neg y,if_neg j,if_neg n,if_neg r,if_neg o,if_neg J,if_neg Y,if_neg (by omega),if_neg (by omega),if_neg (by omega),if_pos W]at w;obtain⟨a1,a2,a3⟩:=Z (by omega);obtain⟨b1,b2,b3⟩:=at1 (by omega);obtain⟨I,c2,c3⟩:=at2 (by omega);have fin:∀t,(if l.getD 1 sE=Dm then l.getD 2 sE else l.getD 1 sE)=t ->
     (l.getD 0 sE=Ay->Bt d (l.getD 1 sE) (l.getD 2 sE)=true->X=C2 true t)/\(l.getD 0 sE=Ay->¬Bt d (l.getD 1 sE) (l.getD 2 sE)=true->X=C2 (Bt d (l.getD 2 sE) (l.getD 1 sE)) t)/\(¬l.getD 0 sE=Ay->X=C2 false t):=λt ht=>by
    grind
   refine⟨b1,by omega,b2,_,b3,λP=>?_,λP=>?_⟩
   .have Q:=fin _ (if_pos P);refine⟨I,by omega,c2,_,c3,a1,by omega,a2,_,a3,λz=>⟨b1,by omega,b2,_,b3,I,by omega,c2,_,c3,(u _ _).call ⟨_,rfl,λh=>c320.call ⟨_,_,rfl,key _ _ ?_⟩,λh=>⟨I,by omega,c2,_,c3,b1,by omega,b2,_,b3,(u _ _).call ⟨_,rfl,c320.call ⟨_,_,rfl,key _ _ ?_⟩⟩⟩⟩⟩,λz=>c320.call ⟨_,_,rfl,key _ _ ?_⟩⟩;.exact Q.1 z h
    .exact Q.2.1 z h
    .exact Q.2.2 z
   .have Q:=fin _ (if_neg P);refine⟨a1,by omega,a2,_,a3,λz=>⟨b1,by omega,b2,_,b3,I,by omega,c2,_,c3,(u _ _).call ⟨_,rfl,λh=>c320.call ⟨_,_,rfl,key _ _ ?_⟩,λh=>⟨I,by omega,c2,_,c3,b1,by omega,b2,_,b3,(u _ _).call ⟨_,rfl,c320.call ⟨_,_,rfl,key _ _ ?_⟩⟩⟩⟩⟩,λz=>c320.call ⟨_,_,rfl,key _ _ ?_⟩⟩;.exact Q.1 z h
    .exact Q.2.1 z h
    .exact Q.2.2 z
  .rw[if_neg y,if_neg j,if_neg n,if_neg r,if_neg o,if_neg J,if_neg Y,if_neg (by omega),if_neg (by omega),if_neg (by omega),if_neg W]at w;exact(i _).call ⟨_,rfl,c320.call ⟨_,_,rfl,key _ _ (by rw[<-w];rfl)⟩⟩
 .simp only[ne_eq,z,not_false_eq_true,if_true];exact⟨rfl,N⟩
end
theorem ownF{V0 V:Mem}{s:Sl}{l:XX}(h:Own V0 V 97 2 s (l.flatMap Fld.row)):Ae V s 2 (l.map Fld.row):=h.rows (λ_=>rfl) (by decide)
theorem one_fld{V:Mem}{b:Nat}{f:Fld}{t:Nat}(h:V b=some (.cells #[uS f.name,uS f.ty] t (0,0))):Ae V ⟨some ⟨b,0,none⟩,1,1⟩ 2 ([f].map Fld.row):=
 Ae.cells (xs:=[f]) (row:=Fld.row) h rfl (λ_=>rfl) rfl (by simp)
section
variable{V:Mem}{d:Ds}
def Small(d:Ds):Prop:=d.globals.length<=1000/\∀p∈d.procs,p.params.length<=1000/\p.locals.length<=1000
theorem refInProc(l:Ds.Ok V d){p:Pr}(h:Pr.Ok V p)(q:d.globals.length<=1000)(o:p.params.length<=1000/\p.locals.length<=1000):
  Tri xV 268 #[d.v,p.v] V λr V'=>∃s':Sl,r=.returned (HY s' (AA d p))/\V.sub V'/\Ae V' s' 2 ((AA d p).vars.map Fld.row):=by
 refine x268 ?_;intro b n;have g:=Mem.sub_new n (.cells #[] 97 (0,0));refine Ee (s:=⟨some ⟨b,0,none⟩,0,0⟩) (u:=p.ps) (xs:=[]) (ys:=p.params) rfl rfl (Own.empty g _ _ _) (h.params.sub g) (by grind) λf V1 w=>⟨f,rfl,?_⟩;refine Ee (s:=f) (u:=p.ls) (xs:=p.params) (ys:=p.locals) rfl rfl w (h.locals.sub w.sub) (by omega) λz V2 y=>⟨z,rfl,?_⟩;refine Ee (s:=z) (u:=d.gs) (xs:=p.params++p.locals) (ys:=d.globals) rfl rfl y (l.globals.sub y.sub) (by grind) λj a i=>⟨j,rfl,?_⟩;exact⟨j,rfl,i.sub,ownF i⟩
theorem refInBound(y:Ds.Ok V d){p:Pr}(j:Pr.Ok V p)(l:d.globals.length<=1000)(n:p.params.length<=1000/\p.locals.length<=1000):
  Tri xV 210 #[d.v,p.v] V λr V'=>∃s':Sl,r=.returned (HY s' (DY d p))/\V.sub V'/\Ae V' s' 2 ((DY d p).vars.map Fld.row):=by
 refine x210 ?_;intro b i;have h:=Mem.sub_new i (.cells #[] 97 (0,0));refine Ee (s:=⟨some ⟨b,0,none⟩,0,0⟩) (u:=p.ps) (xs:=[]) (ys:=p.params) rfl rfl (Own.empty h _ _ _) (j.params.sub h) (by grind) λg V1 f=>⟨g,rfl,?_⟩;refine Ee (s:=g) (u:=d.gs) (xs:=p.params) (ys:=d.globals) rfl rfl f (y.globals.sub f.sub) (by omega) λw q z=>⟨w,rfl,?_⟩;exact⟨w,rfl,z.sub,ownF z⟩
theorem Lo(w:Ds.Ok V d){t:KB}(l:d.globals.length<=1000):
  Tri xV 209 #[d.v,uS t] V λr V'=>∃s':Sl,r=.returned (HY s' (AM d t))/\V.sub V'/\Ae V' s' 2 ((AM d t).vars.map Fld.row):=by
 refine x209 ?_;refine⟨λf=>?_,λf=>?_⟩
 .refine Ee (s:=⟨none,0,0⟩) (u:=d.gs) (xs:=[]) (ys:=d.globals) rfl rfl (Own.nil (Mem.sub.refl V) _ _) w.globals (by grind) λh V1 g=>⟨h,rfl,?_⟩;refine⟨h,rfl,g.sub,?_⟩;unfold AM sE;rw[if_pos f];exact ownF g
 .intro b j;have i:=Mem.sub_new j (.cells #[uS (Ab [116,104,105,115]),uS t] 97 (0,0));refine Ee (s:=⟨none,0,0⟩) (u:=⟨some ⟨b,0,none⟩,1,1⟩) (xs:=[]) (ys:=[⟨C3,t⟩]) rfl rfl (Own.nil i _ _) (one_fld Av) (by simp) λh V1 g=>⟨h,rfl,?_⟩;refine Ee (s:=h) (u:=d.gs) (xs:=[⟨C3,t⟩]) (ys:=d.globals) rfl rfl g (w.globals.sub g.sub) (by grind) λz V2 y=>⟨z,rfl,?_⟩;refine⟨z,rfl,y.sub,?_⟩;unfold AM sE;rw[if_neg f];exact ownF y
theorem Nm{op:Int}{s:KB}{es:XY}{u w:Int}(h:Db op s es u w=true):(op=6->∃g,es=[g]/\g.op=7)/\(op=1∨op=3∨op=4->es.length=1)/\(op=2->es.length=2)/\(op=5->es.length<=1)/\es.length<=2/\(∀x∈es,BF 1 x=true):=by
 unfold Db at h;rw[zD]at h;obtain⟨h,hv⟩:=h;have f:∀x∈es,BF 1 x=true:=λx z=>by
  grind[Bh]
 unfold GA at h;have h6:op=6->∃g,es=[g]/\g.op=7:=λh6=>by
  subst h6;simp only[show ¬((6:Int)=1)by decide,show ¬((6:Int)=2)by decide,show ¬((6:Int)=3)by decide,show ¬((6:Int)=4)by decide,show ¬((6:Int)=5)by decide,if_false,if_true,decide_eq_true_eq]at h
  match es,h with
  |[g],h=>exact⟨g,rfl,h.2.2.1⟩
  |[],h=>simp at h
  |_::_::_,h=>simp at h;omega
 grind
theorem c207(hd:Ds.Ok V d){p:Pr}(hp:Pr.Ok V p)(h1:d.globals.length<=1000)(h2:p.params.length<=1000/\p.locals.length<=1000){x:S}(D:S.Ok V x)(hs:Db x.op x.s x.es x.ls.length x.xs.length=true):
  PP 207 [d.v,p.v,x.v] V (uI (Ec d (AA d p) p.result x.op x.s x.es)):=by
 obtain⟨a6,a134,a2,a5,alen,P⟩:=Nm hs;rw[S.v_eq];refine A6.mk (x207 ?_);refine Tri.mono (refInProc hd hp h1 h2) ?_;rintro _ V1 ⟨sv,rfl,z,a⟩;generalize O:AA d p=sc at a;have T:sc.body=true:=by rw[<-O];rfl
 have e:=hd.sub z;have hf:=JK (D.sub z);refine⟨sv,sc.body,rfl,λE=>?_,λE=>?_⟩
 .obtain⟨A,H,-⟩:=a6 E;rcases hf with⟨h,-⟩|⟨e0',r,K,hn,I,U,q⟩;.simp_all
  .rw[H]at K;cases K;have M:=P A (by rw[H];simp);have F:=(D.sub z).eOk A (by rw[H];simp);have hk:∀y∈A.k,RefE V1 d sv sc y:=λy hy=>JP e a y (F.kids y hy) 2 (JO M y hy);refine⟨I,by omega,by omega,_,_,_,_,q,Tri.mono (refParts A F (arity (IM M)).2.2.2 hk) ?_⟩;rintro _ V2 ⟨s',rfl,G,g⟩;unfold Ec;rw[if_pos E,H];simp only;generalize hPT:partsT d sc [] A.k=pt at g;obtain⟨l,f⟩:=pt;have Y:=G.rowp q;refine⟨s',f,rfl,λo=>⟨I,by omega,by omega,U,_,_,_,_,Y,(c270 (e.sub G) g).call ⟨_,_,rfl,?_,z.trans G⟩⟩,λo=>?_⟩;.simp_all
   .simp only[o,ne_eq,not_false_eq_true,if_true];exact⟨by trivial,z.trans G⟩
 .unfold Ec;rw[if_neg E];have hr:=(D.sub z).eRows;refine Gx (mk:=.int .i64) (mc:=uL) 0 ⟨none,0,0⟩ AT x.es.length (λi s V2=>∃acc,Own V1 V2 9 1 s (acc.flatMap Bs)/\partsT d sc [] x.es=partsT d sc acc (x.es.drop i)/\acc.length=i) ⟨[],Own.nil (Mem.sub.refl _) _ _,rfl,rfl⟩ ?_;rintro i b s V2 J hi ⟨acc,w,j,W⟩ hJ;have N:=hr.sub w.sub;refine⟨λQ=>?_,λL=>?_⟩
  .obtain⟨y,hm,hxy,hdr,hl,hpp,hz,q⟩:=N.get Q;rw[hdr,Hd]at j;refine⟨hpp,hz,Q,_,_,_,_,q,(JP e a y ((D.sub z).eOk y hm) 1 (P y hm) V2 w.sub).call ⟨_,_,rfl,λo=>?_,λo=>?_⟩⟩
   .intro b1 hb1;rw[if_neg (λh=>h o)]at j;refine app37 (s:=s) (u:=⟨some ⟨b1,0,none⟩,1,1⟩) (xs:=acc) (ys:=[(Ao d sc y).1]) rfl rfl (w.new hb1 _) (IN Av) (by grind) λs' V' ho=>⟨s',rfl,N.succ Q,hJ hl _ _ _ ⟨_,ho,j,by simp[W]⟩⟩
   .rw[if_pos o]at j;rw[j];simp only[o,ne_eq,not_false_eq_true,if_true];exact⟨by trivial,z.trans w.sub⟩
  .have hge':=(N.done L).2;rw[(N.done L).1,HX]at j;rw[j];simp only[ne_eq,not_true_eq_false,if_false];have g:=ownS w;have hal:acc.length=x.es.length:=by omega
   have hsub:=z.trans w.sub;have Z:=e.sub w.sub;have R:=a.sub w.sub;have sln:=g.n_eq;have B:=λh:0<acc.length=>EO g h;have at1:=λh:1<acc.length=>EO g h;have key:∀X n:Int,X=n->(xY (uI n)=xY (uI X)/\V.sub V2):=λX n h=>by simp_all
   refine⟨λo1=>(c272 R).call ⟨_,rfl,λhl=>key _ _ ?_,λhl=>?_⟩,λo1=>⟨λo2=>?_,λo2=>⟨λo3=>?_,λo3=>⟨λo4=>?_,λo4=>⟨λo5=>?_,λo5=>key _ _ ?_⟩⟩⟩⟩⟩;.grind[Bn,sE]
   .obtain⟨b1,b2,b3⟩:=B (by omega);refine⟨b1,by omega,b2,_,b3,(c273 Z).call ⟨_,rfl,λC=>key _ _ ?_,λC=>key _ _ ?_⟩⟩;.grind[Bn,sE]
    grind[Bn,sE]
   .obtain⟨b1,b2,b3⟩:=B (by omega);obtain⟨c1,c2,c3⟩:=at1 (by omega);rw[if_neg o1,if_pos o2];refine⟨b1,by omega,b2,_,b3,(c274 Z).call ⟨_,_,rfl,λC=>⟨c1,by omega,c2,_,c3,(c273 Z).call ⟨_,rfl,λhc=>key _ _ ?_,λhc=>key _ _ ?_⟩⟩,λC=>key _ _ ?_⟩⟩;.simp_all
    .simp_all
    omega
   .grind[Ay]
   .grind[Ay]
   .have h5:=a5 o5;rw[if_neg o1,if_neg o2,if_neg (by omega),if_pos o5];have rest:¬(acc.length=0)->((s.n:Int)=1)/\¬(s.p=none)/\(0:Int)<(s.n:Int)/\V2.rowp s.p 0 1=some [uS (acc.getD 0 sE)]:=λh=>by
     grind
    refine⟨λhn=>?_,λhn=>?_⟩;.grind[sE,absurd]
    .have o:¬acc.length=0:=by omega
     obtain⟨r1,r2,r3,r4⟩:=rest o;rw[if_neg o];refine⟨λ_=>⟨λK=>key _ _ (by grind[sE]),λK=>⟨r2,by omega,r3,_,r4,(c273 Z).call ⟨_,rfl,λC=>key _ _ ?_,λC=>key _ _ ?_⟩⟩⟩,λh=>absurd r1 h⟩;.grind[sE]
     simp_all
   omega
end
theorem okS_shape{d:Int}{x:S}(h:Ep d x=true):Db x.op x.s x.es x.ls.length x.xs.length=true/\CF (d+1) x.ls=true/\CF (d+1) x.xs=true:=by
 cases x;unfold Ep at h;rw[zD,zD,zD]at h;exact⟨h.1.1.2,h.1.2,h.2⟩
theorem Lq{d:Int}:∀{l:XK},CF d l=true->∀x∈l,Ep d x=true
 |[],_,x,g=>absurd g xT
 |y::l,h,x,g=>by
  unfold CF at h;rw[zD]at h;rcases zJ.1 g with rfl|g;.exact h.1
  .exact Lq h.2 x g
theorem szS_eq(x:S):EK x=1+Ct x.ls+Ct x.xs:=by cases x;unfold EK;rfl
theorem Lr(x:S)(l:XK):Ct (x::l)=EK x+Ct l:=by rw[Ct]
mutual
theorem stT_n(d:Ds)(sc:Sc)(result:KB)(n:Int):∀x:S,(Ed d sc result n x).2=0->(Ed d sc result n x).1=n+EK x
 |.mk op s _ es _ ls _ xs=>by
  have h:=Hg d sc result (n+1) ls;have g:=Hg d sc result (AN d sc result (n+1) ls).1 xs;grind[Ed,EK,absurd]
theorem Hg(d:Ds)(sc:Sc)(result:KB)(n:Int):∀l:XK,(AN d sc result n l).2=0->(AN d sc result n l).1=n+Ct l
 |[]=>by simp[AN,Ct]
 |x::xs=>by
  have h:=stT_n d sc result n x;have g:=Hg d sc result (Ed d sc result n x).1 xs;rw[JN,Lr];grind
end
theorem Bi{α β:Type}{f:Nat->α->Option β}{i:Nat}{x:α}{xs:List α}{b:β}(h:f i x=some b):Aq f i (x::xs)=some b:=by unfold Aq;rw[h]
theorem BH{α β:Type}{f:Nat->α->Option β}{i:Nat}{x:α}{xs:List α}(h:f i x=none):Aq f i (x::xs)=Aq f (i+1) xs:=by rw[Aq,h]
section
variable{V:Mem}{d:Ds}
def RefS(V:Mem)(d:Ds)(p:Pr)(l:XK):Prop:=∀(sl:Sl)(n h:Int),Ae V sl 5 (l.map S.row)->(∀x∈l,S.Ok V x)->CF h l=true->0<=n->n+Ct l<=1000->
 PP 157 [d.v,p.v,sl.v,uI n] V (.tuple #[uI (AN d (AA d p) p.result n l).1,uI (AN d (AA d p) p.result n l).2])
theorem refStep(R:Ds.Ok V d){p:Pr}(X:Pr.Ok V p)(B:d.globals.length<=1000)(C:p.params.length<=1000/\p.locals.length<=1000){l:XK}(A:∀x∈l,RefS V d p x.ls/\RefS V d p x.xs):RefS V d p l:=by
 intro sl n I q o j e H;refine x157 ?_;generalize z:AA d p=sc;refine loop4s (mk:=.int .i64) (mc:=.int .i64) (md:=.int .i64) 0 0 n BJ l.length (λi at_ V1=>V=V1/\0<=at_/\at_+Ct (l.drop i)<=1000/\AN d sc p.result n l=AN d sc p.result at_ (l.drop i)) ⟨rfl,e,H,rfl⟩ ?_;rintro i b c a V1 J hi ⟨rfl,D,G,y⟩ E;refine⟨λf=>?_,λN=>?_⟩
 .obtain⟨x,hm,hx,r,K,u,Z,g⟩:=q.get f;have g:=S.row_get g;have w:=o x hm;obtain⟨Y,W,Q⟩:=okS_shape (Lq j x hm);rw[r,Lr,szS_eq]at G;rw[r,JN,stT_eq]at y;have cs:=c207 R X B C w Y;rw[z,S.v_eq]at cs;refine⟨u,Z,f,_,_,_,_,_,g,cs.call ⟨_,rfl,λM=>?_,λM=>?_⟩⟩
  .have T:¬(Ec d sc p.result x.op x.s x.es≠0):=λh=>h M;rw[if_neg T]at y;have F:=(A x hm).1 x.ll (a+1) (I+1) w.lRows w.lOk W (by omega) (by omega);rw[z]at F;refine⟨u,Z,f,Ai u,_,_,_,_,_,g,⟨by omega,by omega⟩,F.call ⟨_,_,rfl,λP=>?_,λP=>?_⟩⟩
   .have U:¬((AN d sc p.result (a+1) x.ls).2≠0):=λh=>h P;rw[if_neg U]at y;have hn:=Hg d sc p.result (a+1) x.ls P;have L:=(A x hm).2 x.xl (AN d sc p.result (a+1) x.ls).1 (I+1) w.xRows w.xOk Q (by omega) (by omega);rw[z]at L;refine⟨u,Z,f,Ai u,_,_,_,_,_,g,L.call ⟨_,_,rfl,λO=>?_,λO=>?_⟩⟩
    .rw[if_neg (λh=>h O)]at y;have hn2:=Hg d sc p.result _ x.xs O;exact⟨q.succ f,E K _ _ _ _ ⟨rfl,by omega,by omega,y⟩⟩
    simp_all
   simp_all
  simp_all
 .rw[(q.done N).1,stsT_nil]at y;simp_all
theorem refStmts(g:Ds.Ok V d){p:Pr}(f:Pr.Ok V p)(u:d.globals.length<=1000)(w:p.params.length<=1000/\p.locals.length<=1000)(l:XK):RefS V d p l:=by
 have z:∀s:S,RefS V d p s.ls/\RefS V d p s.xs:=by
  intro s;induction s using S.ind with
  |h s y j=>grind[refStep]
 grind[refStep]
theorem c203(N:Ds.Ok V d){l:Sl}{xs:XX}(o:Ae V l 2 (xs.map Fld.row)){i:Nat}{f:Fld}(s:xs[i]?=some f):PP 203 [d.v,l.v,uI i] V (uI (BO d xs i f)):=by
 refine x203 ?_;have F:=o.n_eq;have Z:=(yg.1 s).1;have z:(i:Int)<(l.n:Int):=by omega
 obtain⟨L,hm,H,Y,-,u,G,w⟩:=o.get z;rw[s]at H;cases H;refine AG i (λk V1=>V=V1/\∀j g,j<k->xs[j]?=some g->¬(g.name=f.name)) ⟨rfl,λ_ _ h=>absurd h (xi _)⟩ ?_;rintro k b V1 J R ⟨rfl,X⟩ W;refine⟨λQ=>?_,λQ=>?_⟩
 .obtain⟨g,P,O,A,I,q,a,r⟩:=o.get (i:=k) (by omega);refine⟨q,a,by omega,Ai q,_,_,r,u,G,z,Ai u,_,_,w,λe=>?_,λe=>⟨o.succ (by omega),W (by omega) _ _ ⟨rfl,λj y B C=>?_⟩⟩⟩
  .have:(xs.take i).any (λg=>decide (g.name=f.name))=true:=xg.2 ⟨g,by
    grind[xe,yg],decide_eq_true e⟩
   unfold BO;rw[if_pos this];exact⟨rfl,rfl⟩
  grind
 .have:¬(xs.take i).any (λg=>decide (g.name=f.name))=true:=λh=>by
   obtain⟨g,M,e⟩:=xg.1 h;rw[xe]at M;grind
  unfold BO;rw[if_neg this];refine⟨u,G,z,Ai u,_,_,w,(c204 N).call ⟨_,rfl,λh=>?_,λh=>?_⟩⟩;.simp_all
  simp_all
theorem c202(q:Ds.Ok V d){l:Sl}{xs:XX}(w:Ae V l 2 (xs.map Fld.row)):PP 202 [d.v,l.v] V (uI (Cu d xs)):=by
 refine x202 ?_;unfold Cu;generalize H:(λi f=>if BO d xs i f≠0 then some (BO d xs i f)else none)=fn;refine AG xs.length (λk V1=>V=V1/\Aq fn 0 xs=Aq fn k (xs.drop k)) ⟨rfl,rfl⟩ ?_;rintro k b V1 J G ⟨rfl,u⟩ o;refine⟨λz=>?_,λz=>?_⟩
 .obtain⟨g,a,y,j,n,e,s,r⟩:=w.get z;rw[j]at u;refine(c203 q w y).call ⟨_,rfl,λh=>?_,λh=>?_⟩
  .rw[BH (by grind)]at u;exact⟨w.succ z,o n _ _ ⟨rfl,u⟩⟩
  .rw[Bi (b:=BO d xs k g) (by grind)]at u;simp_all
 .rw[(w.done z).1,Aq]at u;simp_all
theorem c208(u:Ds.Ok V d){sl:Sl}{sc:Sc}(g:Ae V sl 2 (sc.vars.map Fld.row)){e:E}(w:E.Ok V e)(f:BF 1 e=true){t:KB}:PP 208 [d.v,HY sl sc,e.v,uS t] V (uI (Ba d sc e t)):=by
 refine x208 ?_;unfold Ba;refine(JP u g e w 1 f V (Mem.sub.refl _)).call ⟨_,_,rfl,λh=>⟨λz=>?_,λz=>?_⟩,λh=>?_⟩;.simp_all
 .simp_all
 simp_all
def C4(s:KB):Bool:=decide (s=Ak)||decide (s=Ay)
end
theorem idx_lt{α:Type}{p:α->Bool}{xs:List α}{i:Nat}{x:α}(u:xs[i]?=some x)(w:p x=true):(B1 p xs<(i:Int)↔(xs.take i).any p=true)/\0<=B1 p xs:=by
 rcases Cv p xs with⟨h,g,f⟩|⟨j,y,h,g,f,z,l,h6,h7,h8⟩;.grind
 grind[xg,xe,yg,Nat.lt_or_ge,xf]
section
variable{V:Mem}{d:Ds}
def f2(o:XT):Value:=.tuple #[uS (fltR o).1,uI (fltR o).2.2]
theorem c154(y:Ds.Ok V d):PP 154 [d.v] V (f2 (He d)):=by
 refine x154 ?_;unfold He;have key:∀{X:XT}(s:KB)(n:Int),X=some (s,-1,n)->(xY (.tuple #[uS s,uI n])=xY (f2 X)/\V=V):=λs n h=>by rw[h];exact⟨rfl,rfl⟩
 unfold types1;generalize H:(λi (t:Ty)=>if(d.types.take i).any (λg=>decide (g.name=t.name))=true then some ((t.name,-1,10):Flt)else none)=F1;refine Dk d.types.length (λk V1=>V=V1/\Aq F1 0 d.types=Aq F1 k (d.types.drop k)) ⟨rfl,rfl⟩ ?_;rintro k b c V1 J e ⟨rfl,z⟩ q;refine⟨λw=>?_,λw=>?_⟩
 .obtain⟨g,hm,a,l,o,j,r,u⟩:=y.types.get w;have G:=(idx_lt (p:=λt:Ty=>decide (t.name=g.name)) a (by simp)).1;rw[l]at z;refine⟨j,r,w,Ai j,_,_,u,(c120 y).call ⟨_,rfl,λh=>⟨j,r,w,Ai j,_,_,u,key _ _ ?_⟩,λh=>⟨y.types.succ w,q o _ _ _ ⟨rfl,?_⟩⟩⟩⟩;.rw[z,Bi (b:=(g.name,-1,10)) (by grind)];rfl
  .rw[z,BH (by grind)]
 rw[(y.types.done w).1,Aq]at z;rw[z,xd];unfold types2;generalize N:(λ(_:Nat) (t:Ty)=>if Cu d t.fields≠0 then some ((t.name,-1,Cu d t.fields):Flt)else none)=F2;refine Dk d.types.length (λk V1=>V=V1/\Aq F2 0 d.types=Aq F2 k (d.types.drop k)) ⟨rfl,rfl⟩ ?_;rintro k b c V1 J e ⟨rfl,z⟩ q;refine⟨λw=>?_,λw=>?_⟩
 .obtain⟨g,hm,a,l,o,j,r,u⟩:=y.types.get w;rw[l]at z;refine⟨j,r,w,Ai j,_,_,u,(c202 y (y.typesOk g hm).fields).call ⟨_,rfl,λh=>⟨y.types.succ w,q o _ _ _ ⟨rfl,?_⟩⟩,λh=>⟨j,r,w,Ai j,_,_,u,key _ _ ?_⟩⟩⟩;.rw[z,BH (by grind)]
  .rw[z,Bi (b:=(g.name,-1,Cu d g.fields)) (by grind)];rfl
 rw[(y.types.done w).1,Aq]at z;rw[z,xd];unfold types3;generalize Z:(λi (f:Fld)=>if BO d d.globals i f≠0 then some ((f.name,-1,BO d d.globals i f):Flt)else none)=F3;refine Dk d.globals.length (λk V1=>V=V1/\Aq F3 0 d.globals=Aq F3 k (d.globals.drop k)) ⟨rfl,rfl⟩ ?_;rintro k b c V1 J e ⟨rfl,z⟩ q;refine⟨λw=>?_,λw=>?_⟩
 .obtain⟨g,hm,a,l,o,j,r,u⟩:=y.globals.get w;rw[l]at z;refine(c203 y y.globals a).call ⟨_,rfl,λh=>⟨y.globals.succ w,q o _ _ _ ⟨rfl,?_⟩⟩,λh=>⟨j,r,w,Ai j,_,_,u,key _ _ ?_⟩⟩;.rw[z,BH (by grind)]
  .rw[z,Bi (b:=(g.name,-1,BO d d.globals k g)) (by grind)]
 rw[(y.globals.done w).1,Aq]at z;rw[z];exact⟨rfl,rfl⟩
theorem c155(R:Ds.Ok V d)(H:Small d):PP 155 [d.v] V (f2 (F6 d)):=by
 refine A6.mk (x155 ?_);unfold F6;generalize j:(λi (p:Pr)=>if(d.procs.take i).any (λg=>decide (g.name=p.name))=true then some ((p.name,-1,10):Flt)else if Cu d (p.params++p.locals)≠0 then some (p.name,-1,Cu d (p.params++p.locals))else if p.result≠sE/\known d p.result=false then some (p.name,-1,9)else none)=F1;refine Dk d.procs.length (λk V1=>V.sub V1/\Aq F1 0 d.procs=Aq F1 k (d.procs.drop k)) ⟨Mem.sub.refl _,rfl⟩ ?_;rintro k b c V1 J K ⟨o,z⟩ Q;have f:=R.sub o;have key:∀{X:XT}(V2:Mem)(s:KB)(n:Int),V.sub V2->X=some (s,-1,n)->(xY (.tuple #[uS s,uI n])=xY (f2 X)/\V.sub V2):=λV2 s n a h=>by rw[h];exact⟨rfl,a⟩
 refine⟨λy=>?_,λy=>?_⟩
 .obtain⟨g,hm,B,G,P,C,D,l⟩:=f.procs.get y;have N:=(idx_lt (p:=λt:Pr=>decide (t.name=g.name)) B (by simp)).1;have O:=f.procsOk g hm;have S:=H.2 g hm;rw[G]at z;refine⟨C,D,y,_,_,_,_,_,l,(c159 f).call ⟨_,rfl,λh=>key _ _ _ o ?_,λh=>?_⟩⟩;.rw[z,Bi (b:=(g.name,-1,10)) (by grind)]
  intro b1 Z;have r:=Mem.sub_new Z (.cells #[] 97 (0,0));refine Ee (s:=⟨some ⟨b1,0,none⟩,0,0⟩) (u:=g.ps) (xs:=[]) (ys:=g.params) rfl rfl (Own.empty r _ _ _) (O.params.sub r) (by simp;omega) λA T I=>⟨A,rfl,?_⟩;refine Ee (s:=A) (u:=g.ls) (xs:=g.params) (ys:=g.locals) rfl rfl I (O.locals.sub I.sub) (by omega) λE U Y=>⟨E,rfl,?_⟩;have q:=f.sub Y.sub;have w:=o.trans Y.sub;have M:¬(d.procs.take k).any (λt=>decide (t.name=g.name))=true:=λe=>h (N.2 e);refine(c202 q (ownF Y)).call ⟨_,rfl,λa=>?_,λa=>key _ _ _ w ?_⟩
  .have F:¬(Cu d (g.params++g.locals)≠0):=λe=>e a;refine⟨λW=>⟨f.procs.succ y,Q P _ _ _ ⟨w,?_⟩⟩,λW=>(c204 q).call ⟨_,rfl,λL=>⟨f.procs.succ y,Q P _ _ _ ⟨w,?_⟩⟩,λL=>key _ _ _ w ?_⟩⟩;.rw[z,BH (by rw[<-j];exact(if_neg M).trans ((if_neg F).trans (if_neg λe=>e.1 W)))]
   .rw[z,BH (by grind)]
   .rw[z,Bi (b:=(g.name,-1,9)) (by rw[<-j];exact(if_neg M).trans ((if_neg F).trans (if_pos ⟨W,eq_false_of_ne_true L⟩)))]
  .rw[z,Bi (b:=(g.name,-1,Cu d (g.params++g.locals))) (by grind)]
 .rw[(f.procs.done y).1,Aq]at z;rw[z];exact⟨rfl,o⟩
end
theorem Nn{α:Type}{p:α->Bool}{xs:List α}{i k:Nat}{g:α}(f:xs[k]?=some g)(u:k<i)(h:p g=true):(xs.take i).any p=true:=
 xg.2 ⟨g,by grind[xe,yg],h⟩
theorem No{α:Type}{p:α->Bool}{xs:List α}{i:Nat}(h:∀j g,j<i->xs[j]?=some g->¬p g=true):¬(xs.take i).any p=true:=λu=>by
 obtain⟨g,f,w⟩:=xg.1 u;rw[xe]at f;obtain⟨j,z,e⟩:=f;exact h j g (by omega) (by grind) w
section
variable{V:Mem}{d:Ds}
theorem c156(z:Ds.Ok V d):PP 156 [d.v] V (f2 (Dn d)):=by
 refine x156 ?_;unfold Dn;have key:∀{X:XT}(s:KB)(n:Int),X=some (s,-1,n)->(xY (.tuple #[uS s,uI n])=xY (f2 X)/\V=V):=λs n h=>by rw[h];exact⟨rfl,rfl⟩
 unfold form1;generalize hf1:(λi (m:Ms)=>if(d.measures.take i).any (λg=>decide (g.name=m.name))=true then some ((m.name,-1,10):Flt)else if BK d m.ty=false then some (m.name,-1,9)else none)=F1;refine Dk d.measures.length (λk V1=>V=V1/\Aq F1 0 d.measures=Aq F1 k (d.measures.drop k)) ⟨rfl,rfl⟩ ?_;rintro k b c V1 J M ⟨rfl,w⟩ Z;refine⟨λu=>?_,λu=>?_⟩
 .obtain⟨g,hm,B,o,Y,l,r,f⟩:=z.measures.get u;have hlt:=(idx_lt (p:=λt:Ms=>decide (t.name=g.name)) B (by simp)).1;rw[o]at w;have q:=Ai (n:=k*7) l;refine⟨l,r,u,q,_,_,_,_,_,_,_,f,(c205 z).call ⟨_,rfl,λh=>⟨l,r,u,q,_,_,_,_,_,_,_,f,key _ _ ?_⟩,λh=>⟨l,r,u,q,_,_,_,_,_,_,_,f,(c206 z).call ⟨_,rfl,λW=>⟨z.measures.succ u,Z Y _ _ _ ⟨rfl,?_⟩⟩,λW=>⟨l,r,u,q,_,_,_,_,_,_,_,f,key _ _ ?_⟩⟩⟩⟩⟩;.rw[w,Bi (b:=(g.name,-1,10)) (by grind)];rfl
  .rw[w,BH (by grind)]
  .rw[w,Bi (b:=(g.name,-1,9)) (by grind)];rfl
 rw[(z.measures.done u).1,Aq]at w;rw[w,xd];unfold form2;generalize Q:(λi (m:Iv)=>if(d.invs.take i).any (λg=>decide (g.name=m.name))=true then some ((m.name,-1,10):Flt)else if m.ty≠sE/\BK d m.ty=false then some (m.name,-1,9)else none)=F2;refine Dk d.invs.length (λk V1=>V=V1/\Aq F2 0 d.invs=Aq F2 k (d.invs.drop k)) ⟨rfl,rfl⟩ ?_;rintro k b c V1 J M ⟨rfl,w⟩ Z;refine⟨λu=>?_,λu=>?_⟩
 .obtain⟨g,hm,B,o,Y,l,r,f⟩:=z.invs.get u;rw[o]at w;have q:=Ai (n:=k*6) l;refine Dk k (λj V1=>V=V1/\∀H G,H<j->d.invs[H]?=some G->¬decide (G.name=g.name)=true) ⟨rfl,λ_ _ h=>absurd h (xi _)⟩ ?_;rintro j b c V1 J1 M ⟨rfl,C⟩ P;refine⟨λD=>?_,λD=>?_⟩
  .obtain⟨G,E,O,F,K,N,A,a⟩:=z.invs.get (i:=j) (by omega);refine⟨N,A,by omega,Ai N,_,_,_,_,_,_,a,l,r,u,q,_,_,_,_,_,_,f,λL=>⟨l,r,u,q,_,_,_,_,_,_,f,key _ _ ?_⟩,λL=>⟨z.invs.succ (by omega),P (by omega) _ _ _ ⟨rfl,λH y S hy=>?_⟩⟩⟩;.rw[w,Bi (b:=(g.name,-1,10)) (by rw[<-Q];exact if_pos (Nn O (by omega) (decide_eq_true L)))];rfl
   grind
  .have T:=No (i:=k) (λH G h'=>C H G (by omega));refine⟨l,r,u,q,_,_,_,_,_,_,f,λI=>⟨z.invs.succ u,Z Y _ _ _ ⟨rfl,?_⟩⟩,λI=>⟨l,r,u,q,_,_,_,_,_,_,f,(c206 z).call ⟨_,rfl,λW=>⟨z.invs.succ u,Z Y _ _ _ ⟨rfl,?_⟩⟩,λW=>⟨l,r,u,q,_,_,_,_,_,_,f,key _ _ ?_⟩⟩⟩⟩;.rw[w,BH (by rw[<-Q];exact(if_neg T).trans (if_neg λe=>e.1 I))]
   .rw[w,BH (by grind)]
   .rw[w,Bi (b:=(g.name,-1,9)) (by rw[<-Q];exact(if_neg T).trans (if_pos ⟨I,eq_false_of_ne_true W⟩))];rfl
 rw[(z.invs.done u).1,Aq]at w;rw[w,xd];unfold form3;generalize R:(λ(_:Nat) (m:Po)=>if m.ty≠sE/\BK d m.ty=false then some ((sPot,-1,9):Flt)else none)=F3;refine Dk d.pots.length (λk V1=>V=V1/\Aq F3 0 d.pots=Aq F3 k (d.pots.drop k)) ⟨rfl,rfl⟩ ?_;rintro k b c V1 J M ⟨rfl,w⟩ Z;refine⟨λu=>?_,λu=>?_⟩
 .obtain⟨g,hm,B,o,Y,l,r,f⟩:=z.pots.get u;rw[o]at w;have q:=Ai (n:=k*5) l;refine⟨l,r,u,q,_,_,_,_,_,f,λI=>⟨z.pots.succ u,Z Y _ _ _ ⟨rfl,?_⟩⟩,λI=>⟨l,r,u,q,_,_,_,_,_,f,(c206 z).call ⟨_,rfl,λW=>⟨z.pots.succ u,Z Y _ _ _ ⟨rfl,?_⟩⟩,λW=>key _ _ ?_⟩⟩⟩;.rw[w,BH (by rw[<-R];exact if_neg λe=>e.1 I)]
  .rw[w,BH (by grind)]
  .rw[w,Bi (b:=(sPot,-1,9)) (by rw[<-R];exact if_pos ⟨I,eq_false_of_ne_true W⟩)];rfl
 rw[(z.pots.done u).1,Aq]at w;rw[w,xd];unfold form4;generalize U:(λi (b:Bd)=>if(B6 d b.proc).isNone=true then some ((b.proc,-1,9):Flt)else if(d.bounds.take i).any (λg=>decide (g.proc=b.proc))=true then some (b.proc,-1,10)else none)=F4;refine Dk d.bounds.length (λk V1=>V=V1/\Aq F4 0 d.bounds=Aq F4 k (d.bounds.drop k)) ⟨rfl,rfl⟩ ?_;rintro k b c V1 J M ⟨rfl,w⟩ Z;refine⟨λu=>?_,λu=>?_⟩
 .obtain⟨g,hm,B,o,Y,l,r,f⟩:=z.bounds.get u;rw[o]at w;have q:=Ai (n:=k*5) l;refine⟨l,r,u,q,_,_,_,_,_,f,(c159 z).call ⟨_,rfl,?_⟩⟩;rcases Cv (λt:Pr=>decide (t.name=g.proc)) d.procs with⟨i1,i2,i3⟩|⟨i,x,i1,i2,i3,i4,i5,i6,i7,_⟩
  .rw[i1];refine⟨λ_=>⟨l,r,u,q,_,_,_,_,_,f,key _ _ ?_⟩,λh=>absurd h (by decide)⟩;rw[w,Bi (b:=(g.proc,-1,9)) (by grind[B6])]
  .rw[i1];have n0:¬(B6 d g.proc).isNone=true:=by grind[B6]
   refine⟨λh=>absurd h (by omega),λ_=>?_⟩;refine Dk k (λj V1=>V=V1/\∀H G,H<j->d.bounds[H]?=some G->¬decide (G.proc=g.proc)=true) ⟨rfl,λ_ _ h=>absurd h (xi _)⟩ ?_;rintro j b c V1 J1 M ⟨rfl,C⟩ P;refine⟨λD=>?_,λD=>?_⟩
   .obtain⟨G,E,O,F,K,N,A,a⟩:=z.bounds.get (i:=j) (by omega);refine⟨N,A,by omega,Ai N,_,_,_,_,_,a,l,r,u,q,_,_,_,_,_,f,λL=>⟨l,r,u,q,_,_,_,_,_,f,key _ _ ?_⟩,λL=>⟨z.bounds.succ (by omega),P (by omega) _ _ _ ⟨rfl,λH y S hy=>?_⟩⟩⟩;.rw[w,Bi (b:=(g.proc,-1,10)) (by rw[<-U];exact(if_neg n0).trans (if_pos (Nn O (by omega) (decide_eq_true L))))]
    grind
   .have T:=No (i:=k) (λH G h'=>C H G (by omega));exact⟨z.bounds.succ u,Z Y _ _ _ ⟨rfl,by rw[w,BH (by grind)]⟩⟩
 rw[(z.bounds.done u).1,Aq]at w;rw[w];exact⟨rfl,rfl⟩
end
structure HZ (d:Ds):Prop where
 small:Small d
 ms:∀m∈d.measures,BF 1 m.x=true
 is:∀m∈d.invs,BF 1 m.x=true
 qs:∀m∈d.pots,BF 1 m.x=true
 bs:∀m∈d.bounds,BF 1 m.x=true
 ps:∀p∈d.procs,CF 1 p.body=true/\Ct p.body<=200
theorem JQ{e:E}(h:Bh e=true):BF 1 e=true:=by
 grind[Bh]
theorem vparts{d:Ds}(h:A8 d=true):HZ d:=by
 unfold A8 FB at h;simp only[zD,decide_eq_true_eq,yK]at h;obtain⟨⟨⟨⟨⟨⟨⟨-,-⟩,u⟩,-⟩,-⟩,-⟩,w⟩,⟨⟨hm,z⟩,y⟩,j⟩:=h;have fl:∀{l:XX}{n:Int},Dc l n=true->n<=100->l.length<=1000:=λh i=>by
  grind[Dc]
 refine⟨⟨fl u (by omega),λp f=>?_⟩,λm g=>?_,λm g=>?_,λm g=>?_,λm g=>?_,λp f=>?_⟩;.grind[DX]
 .simp_all[DE,zD,JQ]
 .simp_all[E5,zD,JQ]
 .simp_all[GB,zD,JQ]
 .simp_all[GC,zD,JQ]
 grind[DX,Hc]
theorem Hh{α β:Type}{f:Nat->α->Option β}{b:β}:∀{i:Nat}{xs:List α},Aq f i xs=some b->∃j x,x∈xs/\f j x=some b
 |_,[],h=>by cases h
 |i,x::xs,h=>by
  cases g:f i x with
  |some c=>grind[Bi]
  |none=>
   rw[BH g]at h;obtain⟨j,y,u,e⟩:=Hh h;grind
def H0(r:Flt):Prop:=r.2.2≠0/\r.2.1=-1
theorem GD{P:Flt->Prop}{a b:XT}(g:∀r,a=some r->P r)(f:∀r,b=some r->P r):∀r,a.or b=some r->P r:=λr h=>by
 cases a with
 |none=>simp_all
 |some x=>simp_all
theorem JR(d:Ds):∀r,He d=some r->H0 r:=by
 refine GD (λr h=>?_) (GD (λr h=>?_) (λr h=>?_))<;>obtain⟨j,x,f,e⟩:=Hh h
 .split at e;.cases e;exact⟨by simp,rfl⟩
  .cases e
 .split at e;.rename_i g;cases e;exact⟨g,rfl⟩
  .cases e
 .split at e;.rename_i g;cases e;exact⟨g,rfl⟩
  .cases e
theorem JS(d:Ds):∀r,F6 d=some r->H0 r:=λr h=>by
 obtain⟨j,x,f,e⟩:=Hh h;split at e;.cases e;exact⟨by simp,rfl⟩
 .split at e;.rename_i g;cases e;exact⟨g,rfl⟩
  .split at e;.cases e;exact⟨by simp,rfl⟩
   .cases e
theorem JT(d:Ds):∀r,Dn d=some r->H0 r:=by
 refine GD (λr h=>?_) (GD (λr h=>?_) (GD (λr h=>?_) (λr h=>?_)))<;>obtain⟨j,x,g,e⟩:=Hh h
 .split at e;.cases e;exact⟨by simp,rfl⟩
  .split at e;.cases e;exact⟨by simp,rfl⟩
   .cases e
 .split at e;.cases e;exact⟨by simp,rfl⟩
  .split at e;.cases e;exact⟨by simp,rfl⟩
   .cases e
 .split at e;.cases e;exact⟨by simp,rfl⟩
  .cases e
 .split at e;.cases e;exact⟨by simp,rfl⟩
  .split at e;.cases e;exact⟨by simp,rfl⟩
   .cases e
theorem JU(d:Ds):∀r,Eu d=some r->H0 r:=by
 refine GD (λr h=>?_) (GD (λr h=>?_) (GD (λr h=>?_) (λr h=>?_)))<;>obtain⟨j,x,f,e⟩:=Hh h<;>split at e;all_goals first|(cases e;done)|(rename_i g;cases e;exact⟨g,rfl⟩)
theorem Np{d:Ds}(f:Dn d=none):∀g∈d.bounds,∃p,B6 d g.proc=some p:=by
 have z:form4 d=none:=by
  grind[Dn,form4]
 have u:∀(l:List Bd)(i:Nat),Aq (λi b=>if(B6 d b.proc).isNone=true then some ((b.proc,-1,9):Flt)else if(d.bounds.take i).any (λg=>decide (g.proc=b.proc))=true then some (b.proc,-1,10)else none) i l=none->∀g∈l,∃p,B6 d g.proc=some p:=by
  intro l;induction l with
  |nil=>simp_all
  |cons y l r=>
   intro i h g w;cases j:B6 d y.proc with
   |none=>simp_all[Bi,if_pos]
   |some p=>
    rcases zJ.1 w with rfl|w;.grind
    .by_cases n:(d.bounds.take i).any (λg=>decide (g.proc=y.proc))=true;.simp_all[Bi,if_neg,if_pos]
     .rw[BH ((if_neg (by rw[j];simp)).trans (if_neg n))]at h;grind
 exact u d.bounds 0 z
theorem H1{V:Mem}{p:XI}{off n j m:Nat}{vs:XV}(h:V.rowp p off n=some vs)(w:0<j)(z:j+m<=n):V.rowp (Aa (Aa p off) j) 0 m=some ((vs.drop j).take m):=by
 cases p with
 |none=>cases h
 |some a=>
  have e:((a.add off).add j).add 0=⟨a.block,a.off+off+j,none⟩:=by
   grind[zG]
  have g:(a.add off).off=a.off+off/\(a.add off).block=a.block:=by
   grind[zG]
  show V.row (((a.add off).add j).add 0) m=_;have h:V.row (a.add off) n=some vs:=h;rw[e];unfold Mem.row at h⊢;rw[g.2]at h;split at h
  .rename_i c x y f;simp only[f];split at h
   .rename_i u;rw[g.1]at u h;cases h;rw[if_pos ⟨rfl,by omega⟩,List.drop_take,List.take_take,List.drop_drop,Nat.min_eq_left (by omega)]
   .cases h
  .cases h
section
variable{V:Mem}{d:Ds}
theorem c158(R:Ds.Ok V d)(hv:HZ d)(W:Dn d=none):PP 158 [d.v] V (f2 (Eu d)):=by
 refine A6.mk (x158 ?_);unfold Eu;have B:=hv.small.1;have key:∀{X:XT}(V2:Mem)(s:KB)(n:Int),V.sub V2->X=some (s,-1,n)->(xY (.tuple #[uS s,uI n])=xY (f2 X)/\V.sub V2):=λV2 s n h2 h=>by rw[h];exact⟨rfl,h2⟩
 unfold exp1;generalize A:(λ(_:Nat) (m:Ms)=>if Ba d (AM d m.ty) m.x Ak≠0 then some ((m.name,-1,Ba d (AM d m.ty) m.x Ak):Flt)else none)=F1;refine Dk d.measures.length (λk V1=>V.sub V1/\Aq F1 0 d.measures=Aq F1 k (d.measures.drop k)) ⟨Mem.sub.refl _,rfl⟩ ?_;rintro k b c V1 J C ⟨o,r⟩ Q;have f:=R.sub o;refine⟨λl=>?_,λl=>?_⟩
 .obtain⟨g,hm,D,G,P,q,a,u⟩:=f.measures.get l;rw[G]at r;have H:=Ai (n:=k*7) q;refine⟨q,a,l,H,_,_,_,_,_,_,_,u,q,a,l,H,_,_,_,_,_,_,_,u,Tri.mono (Lo f B) ?_⟩;rintro _ V2 ⟨s',rfl,w,N⟩;have z:=w.rowp u;refine⟨s',false,rfl,H1 (j:=3) (m:=4) z (by decide) (by decide),H,q,a,l,(c208 (sc:=AM d g.ty) (e:=g.x) (f.sub w) N ((f.sub w).measuresOk g hm).x (hv.ms g hm)).call ⟨_,rfl,λh=>⟨f.measures.succ l,Q P _ _ _ ⟨o.trans w,?_⟩⟩,λh=>⟨q,a,l,H,_,_,_,_,_,_,_,z,key _ _ _ (o.trans w) ?_⟩⟩⟩;.rw[r,BH (by rw[<-A];exact if_neg λe=>e h)]
  .rw[r,Bi (b:=(g.name,-1,Ba d (AM d g.ty) g.x Ak)) (by rw[<-A];exact if_pos h)];rfl
 rw[(f.measures.done l).1,Aq]at r;rw[r,xd];unfold exp2;generalize I:(λ(_:Nat) (m:Iv)=>if Ba d (AM d m.ty) m.x Ay≠0 then some ((m.name,-1,Ba d (AM d m.ty) m.x Ay):Flt)else none)=F2;refine Dk d.invs.length (λk V1=>V.sub V1/\Aq F2 0 d.invs=Aq F2 k (d.invs.drop k)) ⟨o,rfl⟩ ?_;rintro k b c V1 J C ⟨o,r⟩ Q;have f:=R.sub o;refine⟨λl=>?_,λl=>?_⟩
 .obtain⟨g,hm,D,G,P,q,a,u⟩:=f.invs.get l;rw[G]at r;have H:=Ai (n:=k*6) q;refine⟨q,a,l,H,_,_,_,_,_,_,u,q,a,l,H,_,_,_,_,_,_,u,Tri.mono (Lo f B) ?_⟩;rintro _ V2 ⟨s',rfl,w,N⟩;have z:=w.rowp u;refine⟨s',false,rfl,H1 (j:=2) (m:=4) z (by decide) (by decide),H,q,a,l,(c208 (sc:=AM d g.ty) (e:=g.x) (f.sub w) N ((f.sub w).invsOk g hm) (hv.is g hm)).call ⟨_,rfl,λh=>⟨f.invs.succ l,Q P _ _ _ ⟨o.trans w,?_⟩⟩,λh=>⟨q,a,l,H,_,_,_,_,_,_,z,key _ _ _ (o.trans w) ?_⟩⟩⟩;.rw[r,BH (by rw[<-I];exact if_neg λe=>e h)]
  .rw[r,Bi (b:=(g.name,-1,Ba d (AM d g.ty) g.x Ay)) (by rw[<-I];exact if_pos h)];rfl
 rw[(f.invs.done l).1,Aq]at r;rw[r,xd];unfold exp3;generalize M:(λ(_:Nat) (m:Po)=>if Ba d (AM d m.ty) m.x Ak≠0 then some ((sPot,-1,Ba d (AM d m.ty) m.x Ak):Flt)else none)=F3;refine Dk d.pots.length (λk V1=>V.sub V1/\Aq F3 0 d.pots=Aq F3 k (d.pots.drop k)) ⟨o,rfl⟩ ?_;rintro k b c V1 J C ⟨o,r⟩ Q;have f:=R.sub o;refine⟨λl=>?_,λl=>?_⟩
 .obtain⟨g,hm,D,G,P,q,a,u⟩:=f.pots.get l;rw[G]at r;have H:=Ai (n:=k*5) q;refine⟨q,a,l,H,_,_,_,_,_,u,q,a,l,H,_,_,_,_,_,u,Tri.mono (Lo f B) ?_⟩;rintro _ V2 ⟨s',rfl,w,N⟩;have z:=w.rowp u;refine⟨s',false,rfl,H1 (j:=1) (m:=4) z (by decide) (by decide),H,q,a,l,(c208 (sc:=AM d g.ty) (e:=g.x) (f.sub w) N ((f.sub w).potsOk g hm) (hv.qs g hm)).call ⟨_,rfl,λh=>⟨f.pots.succ l,Q P _ _ _ ⟨o.trans w,?_⟩⟩,λh=>key _ _ _ (o.trans w) ?_⟩⟩;.rw[r,BH (by rw[<-M];exact if_neg λe=>e h)]
  .rw[r,Bi (b:=(sPot,-1,Ba d (AM d g.ty) g.x Ak)) (by rw[<-M];exact if_pos h)];rfl
 rw[(f.pots.done l).1,Aq]at r;rw[r,xd];have E:=Np W;unfold exp4;generalize F:(λ(_:Nat) (m:Bd)=>if Ba d (DY d ((B6 d m.proc).getD Hf)) m.x Ak≠0 then some ((m.proc,-1,Ba d (DY d ((B6 d m.proc).getD Hf)) m.x Ak):Flt)else none)=F4;refine Dk d.bounds.length (λk V1=>V.sub V1/\Aq F4 0 d.bounds=Aq F4 k (d.bounds.drop k)) ⟨o,rfl⟩ ?_;rintro k b c V1 J C ⟨o,r⟩ Q;have f:=R.sub o;refine⟨λl=>?_,λl=>?_⟩
 .obtain⟨g,hm,D,G,P,q,a,u⟩:=f.bounds.get l;rw[G]at r;have H:=Ai (n:=k*5) q;obtain⟨p,hpp⟩:=E g hm;rcases Cv (λt:Pr=>decide (t.name=g.proc)) d.procs with⟨U,i2,i3⟩|⟨i,x,U,i2,i3,i4,i5,i6,i7,_⟩;.grind[B6]
  have K:B6 d g.proc=some x:=i3;refine⟨q,a,l,H,_,_,_,_,_,u,(c159 f).call ⟨_,rfl,?_⟩⟩;rw[U];have hpn:=f.procs.n_eq;have Y:(i:Int)<(d.ps.n:Int):=by omega
  obtain⟨y,hmy,L,hdy,hly,S,T,O⟩:=f.procs.get Y;rw[i2]at L;cases L;refine⟨S,T,Y,_,_,_,_,_,O,q,a,l,H,_,_,_,_,_,u,Tri.mono (refInBound f (f.procsOk x i6) B (hv.small.2 x i6)) ?_⟩;rintro _ V2 ⟨s',rfl,w,N⟩;have z:=w.rowp u;have Z:(B6 d g.proc).getD Hf=x:=by rw[K];rfl
  refine⟨s',false,rfl,H1 (j:=1) (m:=4) z (by decide) (by decide),H,q,a,l,(c208 (sc:=DY d x) (e:=g.x) (f.sub w) N ((f.sub w).boundsOk g hm) (hv.bs g hm)).call ⟨_,rfl,λh=>⟨f.bounds.succ l,Q P _ _ _ ⟨o.trans w,?_⟩⟩,λh=>⟨q,a,l,H,_,_,_,_,_,z,key _ _ _ (o.trans w) ?_⟩⟩⟩;.rw[r,BH (by rw[<-F];exact if_neg λe=>e (by rw[Z];exact h))]
  .rw[r,Bi (b:=(g.proc,-1,Ba d (DY d x) g.x Ak)) (by rw[<-F];exact(if_pos (by rw[Z];exact h)).trans (by rw[Z]))];try rfl
 rw[(f.bounds.done l).1,Aq]at r;rw[r];exact⟨rfl,o⟩
def f3(o:XT):Value:=.tuple #[uS (fltR o).1,uI (fltR o).2.1,uI (fltR o).2.2]
theorem c114(w:Ds.Ok V d)(hv:HZ d):PP 114 [d.v] V (f3 (B0 d)):=by
 refine x114 ?_;unfold B0;have bad:∀{a b:XT},(∀r,a=some r->H0 r)->¬((fltR a).2.2=0)->(xY (.tuple #[uS (fltR a).1,uI (-1),uI (fltR a).2.2])=xY (f3 (a.or b))/\V=V):=λ{a b} l h=>by
  cases a with
  |none=>exact absurd rfl h
  |some r=>
   have:=l r rfl;unfold f3 fltR;simp only[Option.some_or,xb];rw[this.2];simp_all
 have good:∀{a:XT},(∀r,a=some r->H0 r)->(fltR a).2.2=0->a=none:=λ{a} l h=>by
  cases a with
  |none=>rfl
  |some r=>exact absurd h (l r rfl).1
 refine(c154 w).call ⟨_,_,rfl,λh=>?_,λh=>bad (JR d) h⟩;rw[good (JR d) h,xd];refine(c155 w hv.small).call ⟨_,_,rfl,λh=>?_,λh=>bad (JS d) h⟩;rw[good (JS d) h,xd];refine(c156 w).call ⟨_,_,rfl,λh=>?_,λh=>bad (JT d) h⟩;have f:=good (JT d) h;rw[f,xd];unfold Et;generalize H:(λ(_:Nat) (p:Pr)=>if(AN d (AA d p) p.result 0 p.body).2≠0 then some ((p.name,(AN d (AA d p) p.result 0 p.body).1,(AN d (AA d p) p.result 0 p.body).2):Flt)else none)=F1;refine loop4s (mk:=.string) (mc:=.int .i64) (md:=.int .i64) (Ab []) 0 0 BJ d.procs.length (λk _ V1=>V=V1/\Aq F1 0 d.procs=Aq F1 k (d.procs.drop k)) ⟨rfl,rfl⟩ ?_;rintro k b c Y V1 J W ⟨rfl,j⟩ G;refine⟨λz=>?_,λz=>?_⟩
 .obtain⟨g,hm,Q,q,N,i,o,u⟩:=w.procs.get z;rw[q]at j;have s:=Ai (n:=k*5) i;have y:=w.procsOk g hm;obtain⟨e,Z⟩:=hv.ps g hm;refine⟨i,o,z,_,_,_,_,_,u,i,o,z,s,_,_,_,_,_,u,(refStmts w y hv.small.1 (hv.small.2 g hm) g.body g.bs 0 1 y.body y.stmts e (by omega) (by omega)).call ⟨_,_,rfl,λh=>⟨w.procs.succ z,G N _ _ _ _ ⟨rfl,?_⟩⟩,λh=>⟨i,o,z,s,_,_,_,_,_,u,?_⟩⟩⟩;.rw[j,BH (by grind)]
  .rw[j,Bi (b:=(g.name,(AN d (AA d g) g.result 0 g.body).1,(AN d (AA d g) g.result 0 g.body).2)) (by grind)];exact⟨rfl,rfl⟩
 rw[(w.procs.done z).1,Aq]at j;rw[j,xd];refine(c158 w hv f).call ⟨_,_,rfl,λh=>?_,λh=>?_⟩;.rw[good (JU d) h];exact⟨rfl,rfl⟩
 .have:=bad (b:=none) (JU d) h;grind
def F7(d:Ds):Bool:=A8 d&&decide ((fltR (B0 d)).2.2=0)
theorem Nq(g:Ds.Ok V d):PP 64 [d.v] V (uB (F7 d)):=by
 refine Pq ?_;unfold F7;refine(JL g).call ⟨_,rfl,λh=>(c114 g (vparts h)).call ⟨_,_,_,rfl,?_⟩,λh=>?_⟩;.simp_all
 simp_all
end
structure BL (V:Mem)(c:XI)(d:Ds):Prop where
 at_:∃cb mt mp t,c=some ⟨cb,0,none⟩/\V cb=some (.cells (d.row++[zh (some mt),zh (some mp)]).toArray t (0,0))/\Bf V mt (λk=>(tyOf d k).map Ty.v)/\Bf V mp (λk=>(B6 d k).map Pr.v)
 ok:Ds.Ok V d
theorem BL.sub{V V':Mem}{c:XI}{d:Ds}(h:BL V c d)(g:V.sub V'):BL V' c d:=by
 obtain⟨cb,mt,mp,t,f,u,w,z⟩:=h.at_;exact⟨⟨cb,mt,mp,t,f,g _ _ u,w.sub g,z.sub g⟩,h.ok.sub g⟩
theorem BL.nn{V:Mem}{c:XI}{d:Ds}(h:BL V c d):¬(c=none):=by
 obtain⟨cb,mt,mp,t,g,f,u,w⟩:=h.at_;rw[g];simp
theorem BL.cell{V:Mem}{c:XI}{d:Ds}(h:BL V c d){i:Nat}{v:Value}(hv:(d.row)[i]?=some v):V.rowp c (i*1) 1=some [v]:=by
 obtain⟨cb,mt,mp,t,g,f,w,z⟩:=h.at_;rw[g,Nat.mul_one];have y:=(yg.1 hv).1;have h8:d.row.length=8:=rfl;rw[Aj f i 1 (by simp;omega)];have:(d.row++[zh (some mt),zh (some mp)])[i]?=some v:=by grind
 have u:i<(d.row++[zh (some mt),zh (some mp)]).length:=by rw[zK];omega
 show some (((d.row++[zh (some mt),zh (some mp)]).drop i).take 1)=_;rw[List.drop_eq_getElem_cons u,(yg.1 this).2];rfl
theorem BL.types{V:Mem}{c:XI}{d:Ds}(h:BL V c d):∃mt,V.rowp c 8 1=some [.map (some mt)]/\Bf V mt (λk=>(tyOf d k).map Ty.v):=by
 obtain⟨cb,mt,mp,t,g,f,u,w⟩:=h.at_;exact⟨mt,by rw[g,Aj f 8 1 (by simp[Ds.row])];rfl,u⟩
theorem BL.procs{V:Mem}{c:XI}{d:Ds}(h:BL V c d):∃mt,V.rowp c 9 1=some [.map (some mt)]/\Bf V mt (λk=>(B6 d k).map Pr.v):=by
 obtain⟨cb,mt,mp,t,g,f,w,u⟩:=h.at_;exact⟨mp,by rw[g,Aj f 9 1 (by simp[Ds.row])];rfl,u⟩
def BV(l:XX)(k:KB):Option KB:=(l.find? λf=>decide (f.name=k)).map (·.ty)
theorem Nr(l:XX)(k:KB):Bn l k=(BV l k).getD sE:=by
 induction l with
 |nil=>rfl
 |cons f l h=>
  grind[BV,Bn]
def NE(l:XX):Prop:=∀f∈l,f.ty≠sE
theorem NE.some{l:XX}(h:NE l){k t:KB}(hv:BV l k=some t):t≠sE:=by
 unfold BV at hv;obtain⟨f,g,rfl⟩:=Option.map_eq_some_iff.1 hv;exact h f (xa g)
structure EP (V:Mem)(m:XU)(sc:Sc):Prop where
 at_:∃mb,m=some mb/\Bf V mb (λk=>(BV sc.vars k).map Value.string)
 ne:NE sc.vars
theorem EP.sub{V V':Mem}{m:XU}{sc:Sc}(h:EP V m sc)(g:V.sub V'):EP V' m sc:=by
 obtain⟨mb,f,u⟩:=h.at_;exact⟨⟨mb,f,u.sub g⟩,h.ne⟩
def sV(c:XI)(m:XU)(sc:Sc):Value:=.agg #[.pointer c,.map m,.bool sc.body]
structure Ef (d:Ds):Prop where
 types:∀t∈d.types,NE t.fields
 globals:NE d.globals
 params:∀p∈d.procs,NE p.params/\NE p.locals
theorem typB_ne{s:KB}(h:typB s=true):s≠sE:=by
 intro e;subst e;have:typB sE=false:=by
  rfl
 simp_all
theorem flds_ne{l:XX}{n:Int}(h:Dc l n=true):NE l:=λf g=>by
 simp_all[Dc,zD,yK,fldB,typB_ne]
theorem Qq{d:Ds}(h:A8 d=true):Ef d:=by
 unfold A8 at h;simp only[zD,decide_eq_true_eq,yK]at h;obtain⟨⟨⟨⟨⟨⟨⟨-,-⟩,u⟩,-⟩,-⟩,w⟩,z⟩,-⟩:=h;refine⟨λt g=>?_,flds_ne u,λp f=>?_⟩
 .have:=w t g;unfold EL at this;rw[zD]at this;exact flds_ne this.2
 .have:=z p f;unfold DX at this;simp only[zD]at this;grind[flds_ne]
theorem zero99(w:World):(zeroValue 99).run xV w=.ok (.agg #[uS zA,z0]) w:=by kernel_rfl
theorem zero72(w:World):(zeroValue 72).run xV w=.ok (.agg #[uS zA,z0,uS zA,z0,z0]) w:=by kernel_rfl
theorem zero9(w:World):(zeroValue 9).run xV w=.ok (uS zA) w:=by kernel_rfl
theorem tyOf_node(d:Ds)(s:KB):(tyOf d s).isSome=BK d s:=by
 grind[tyOf,BK]
theorem tyOf_mem{d:Ds}{s:KB}{t:Ty}(h:tyOf d s=some t):t∈d.types:=xa h
theorem Ls{d:Ds}{s:KB}{t:Pr}(h:B6 d s=some t):t∈d.procs:=xa h
section
variable{V:Mem}{d:Ds}{c:XI}{m:XU}{sc:Sc}
theorem c234(h:BL V c d){s:KB}:PP 234 [.pointer c,uS s] V (uB (BK d s)):=by
 refine x234 ?_;obtain⟨mt,g,f⟩:=h.types;refine⟨h.nn,h.nn,_,g,BE.str wA wB zero99 f ?_⟩;rw[<-tyOf_node];cases u:tyOf d s with
 |none=>exact⟨_,⟨none,0,0⟩,_,rfl,rfl,rfl⟩
 |some t=>exact⟨_,t.fs,_,rfl,rfl,rfl⟩
theorem c229(h:BL V c d){s:KB}:PP 229 [.pointer c,uS s] V (uB (known d s)):=by
 refine x229 ?_;refine⟨λg=>?_,λg=>⟨λf=>?_,λf=>(c234 h).call ⟨_,rfl,?_⟩⟩⟩<;>simp[known,Ak,Ay, *]
theorem c331(h:BL V c d){s t:KB}:PP 331 [.pointer c,uS s,uS t] V (uB (Bt d s t)):=by
 refine x331 ?_;unfold Bt Dm;refine⟨λg=>?_,λg=>⟨λf=>(c234 h).call ⟨_,rfl,?_⟩,λf=>?_⟩⟩;.simp_all
 .simp_all
 simp_all
theorem c332(h:BL V c d)(hv:Ef d){s t:KB}:PP 332 [.pointer c,uS s,uS t] V (.tuple #[uS (Dd d s t).1,uI (Dd d s t).2]):=by
 refine x332 ?_;obtain⟨mt,r,q⟩:=h.types;refine⟨h.nn,h.nn,_,r,BE.str wA wB zero99 q ?_⟩;unfold Dd;cases l:tyOf d s with
 |none=>exact⟨_,⟨none,0,0⟩,_,rfl,λh=>absurd h (by simp),λ_=>⟨rfl,rfl⟩⟩
 |some ty=>
  refine⟨_,ty.fs,_,rfl,λ_=>?_,λh=>absurd rfl h⟩;have w:=(h.ok.typesOk ty (tyOf_mem l)).fields;have z:=hv.types ty (tyOf_mem l);simp only;refine Dk ty.fields.length (λi V1=>V=V1/\Bn ty.fields t=Bn (ty.fields.drop i) t) ⟨rfl,rfl⟩ ?_;rintro i b c V1 J G ⟨rfl,f⟩ o;refine⟨λg=>?_,λy=>?_⟩
  .obtain⟨x,hm,N,j,a,e,H,u⟩:=w.get g;rw[j,Bn]at f;refine⟨e,H,g,_,_,u,λn=>?_,λn=>⟨w.succ g,o a _ _ _ ⟨rfl,?_⟩⟩⟩
   .rw[if_pos n]at f;rw[f,if_neg (z x hm)];simp_all
   simp_all
  .rw[(w.done y).1,Bn]at f;rw[f,if_pos rfl];exact⟨rfl,rfl⟩
theorem c358{b:Nat}{s:KB}{t:Nat}(h:V b=some (cell (uS s) t)){x:Ms}:PP 358 [x.v,pv b] V (uB (decide (x.name=s))):=by
 refine x358 ?_;exact⟨_,AD h,rfl,rfl⟩
def H2{α:Type}(f:FuncId)(row:α->XV)(v:α->Value)(sz:Nat):Prop:=∀{V:Mem}{l:Sl}{xs:List α}{g:Nat}{first caps:XV}(h:Ae V l sz (xs.map row))(u:Gy g)(p:α->Bool) (w:∀x∈xs,PP g (first++[v x]++caps) V (uB (p x))),PP f [l.v,.func (.func g) first.toArray caps.toArray] V (uI (B1 p xs))
theorem IP{α:Type}{f:FuncId}{row:α->XV}{v:α->Value}{sz:Nat}(H:IdxP f row v sz):H2 f row v sz:=by
 intro V l xs g first j h n p r
 refine Tri.mono (H n (λi V1=>V=V1/\AQ (λy=>!p y) xs i) (λi V1=>V=V1/\∃x,xs[i]?=some x/\p x=true/\AQ (λy=>!p y) xs i) (λi V1 u=>u.1▸h) ⟨rfl,AQ.zero _ _⟩ ?_) ?_
 .rintro i x V1 w ⟨rfl,u⟩;have hm:x∈xs:=List.mem_of_getElem? w;exact(r x hm).callv ⟨_,rfl,λz=>⟨rfl,x,w,z,u⟩,λz=>⟨rfl,E9 u w z⟩⟩
 .rintro e V' (⟨i,rfl,rfl,x,w,z,u⟩|⟨rfl,rfl,u⟩);.rw[E7 u w z];simp_all
  .rw[E8 u (Nat.le_refl _)];simp_all
theorem idxMs:H2 311 Ms.row Ms.v 7:=IP g311
theorem c352(h:BL V c d){s:KB}{l:Sl}{xs:XN}(e:Ae V l 1 (xs.map Bs)):PP 352 [sV c m sc,uS s,l.v] V (.tuple #[uS (FC d s xs).1,uI (FC d s xs).2]):=by
 refine A6.mk (x352 ?_);refine⟨h.nn,h.nn,Ai h.nn,d.ms,h.cell (i:=4) rfl,λb H=>?_⟩;have j:=Mem.sub_new H (cell (uS s) 9);have g:=h.sub j;have f:=e.sub j;refine(idxMs (l:=d.ms) (first:=[]) (caps:=[pv b]) g.ok.measures Tryz.call358 (λt=>decide (t.name=s)) (λx _=>c358 Av)).call ⟨_,rfl,?_⟩;unfold FC meOf;have key:∀{X:KB×Int}(a:KB)(n:Int),X=(a,n)->(xY (.tuple #[uS a,uI n])=xY (.tuple #[uS X.1,uI X.2])/\V.sub (V.set b (cell (uS s) 9))):=λa n h=>by simp_all
 rcases Cv (λt:Ms=>decide (t.name=s)) d.measures with⟨g,J,W⟩|⟨i,x,i1,i2,i3,i4,i5,i6,i7,_⟩;.rw[g,J];exact⟨λ_=>key _ _ rfl,λh=>absurd h (by decide)⟩
 .rw[i1,i3];have Q:=g.ok.measures.n_eq;have u:(i:Int)<(d.ms.n:Int):=by omega
  obtain⟨y,hm,r,G,N,q,Z,w⟩:=g.ok.measures.get u;rw[i2]at r;cases r;have P:=f.n_eq;refine⟨λh=>absurd h (by omega),λ_=>⟨λY=>?_,λY=>key _ _ (if_pos (by omega))⟩⟩;obtain⟨a1,a2,a3⟩:=EO f (i:=0) (by omega);have o:¬(xs.length≠1):=by omega
  refine⟨a1,by omega,by omega,_,a3,h.nn,h.nn,Ai h.nn,d.ms,g.cell (i:=4) rfl,q,Z,u,Ai q,_,_,_,_,_,_,_,w,(c331 g).call ⟨_,rfl,λz=>key _ _ ?_,λz=>key _ _ ?_⟩⟩;.simp only[o,if_false];unfold C2;rw[if_pos z];rfl
  .simp only[o,if_false];unfold C2;rw[if_neg z];rfl
theorem c354{b:Nat}{s:KB}{t:Nat}(h:V b=some (cell (uS s) t)){x:KB}:PP 354 [strV x,pv b] V (uB (!decide (x=s))):=by
 refine x354 ?_;exact⟨_,AD h,rfl,rfl⟩
theorem c353{b t:Nat}{l:Sl}{xs:XN}(u:V b=some (cell (uL l) t))(w:Ae V l 1 (xs.map Bs)){s r:KB}:
  PP 353 [uS s,uS r,pv b] V (.tuple #[uS (C2 (allT xs s) r).1,uI (C2 (allT xs s) r).2]):=by
 refine A6.mk (x353 ?_);refine⟨l,AD u,λb1 g=>?_⟩;have f:=Mem.sub_new g (cell (uS s) 9);refine(Nj (l:=l) (first:=[]) (caps:=[pv b1]) (w.sub f) Tryz.call354 (λx=>!decide (x=s)) (λx _=>c354 Av)).call ⟨_,rfl,λh=>?_,λh=>?_⟩
 .rw[xk]at h;have:allT xs s=false:=by grind[allT]
  rw[this];exact⟨rfl,f⟩
 .rw[xk]at h;have:allT xs s=true:=by grind[allT]
  rw[this];exact⟨rfl,f⟩
end
theorem fits_first{d:Ds}{a b:KB}(h:Bt d a b=true):(if a=Dm then b else a)=b:=by
 grind[Bt]
theorem fits_second{d:Ds}{a b:KB}(h:¬Bt d a b=true)(g:Bt d b a=true):(if a=Dm then b else a)=a:=by
 grind[Bt,absurd]
def Hi(d:Ds)(sc:Sc)(s:KB)(l:XN):KB×Int:=if sc.body=true then Es d s l else FC d s l
theorem measT_ne{d:Ds}{s:KB}{l:XN}(h:(FC d s l).2=0):(FC d s l).1≠sE:=by
 unfold FC at h⊢;split at h;.omega
 .split at h;.omega
  .rename_i g;simp only[if_neg g];unfold C2 at h⊢;split at h;.rename_i f;rw[if_pos f];simp only;decide
   omega
theorem callE_raw(d:Ds)(sc:Sc)(s:KB)(l:XN):E6 d sc s l=if(Hi d sc s l).2=0/\(Hi d sc s l).1=sE then(sE,11)else Hi d sc s l:=by
 unfold E6 Hi;by_cases h:sc.body=true;.simp_all
 simp_all[if_neg,absurd,measT_ne]
section
variable{V:Mem}{d:Ds}{c:XI}{m:XU}{sc:Sc}
def ImpE(V:Mem)(d:Ds)(c:XI)(m:XU)(sc:Sc)(e:E):Prop:=∀V1,V.sub V1->PP 300 [sV c m sc,e.v] V1 (.tuple #[uS (Ao d sc e).1,uI (Ao d sc e).2])
def rawT(d:Ds)(sc:Sc)(e:E):KB×Int:=if(partsT d sc [] e.k).2≠0 then(sE,(partsT d sc [] e.k).2)else Hi d sc e.s (partsT d sc [] e.k).1
theorem impCall(h:BL V c d)(e:E)(I:E.Ok V e)(hlen:(e.k.length:Int)<=6)(hk:∀x∈e.k,ImpE V d c m sc x):
  PP 330 [sV c m sc,e.v] V (.tuple #[uS (rawT d sc e).1,uI (rawT d sc e).2]):=by
 have hr:=I.rows;refine A6.mk (x330 ?_);unfold rawT;refine loop4s (mk:=.string) (mc:=.int .i64) (md:=uL) (Ab []) 0 ⟨none,0,0⟩ AT e.k.length (λi s V1=>∃acc,Own V V1 9 1 s (acc.flatMap Bs)/\partsT d sc [] e.k=partsT d sc acc (e.k.drop i)/\acc.length=i) ⟨[],Own.nil (Mem.sub.refl _) _ _,rfl,rfl⟩ ?_;rintro i b b' s V1 J hi ⟨acc,g,l,r⟩ M;have q:=hr.sub g.sub;refine⟨λz=>?_,λo=>?_⟩
 .obtain⟨x,hm,hx,F,hl,L,hz,Z⟩:=q.get z;rw[F,Hd]at l;refine⟨L,hz,z,_,_,_,_,Z,(hk x hm V1 g.sub).call ⟨_,_,rfl,λP=>?_,λP=>?_⟩⟩
  .intro b1 R;rw[if_neg (λh=>h P)]at l;refine app37 (s:=s) (u:=⟨some ⟨b1,0,none⟩,1,1⟩) (xs:=acc) (ys:=[(Ao d sc x).1]) rfl rfl (g.new R _) (IN Av) (by simp;omega) λs' V' ho=>⟨s',rfl,q.succ z,M hl _ _ _ _ ⟨_,ho,l,by simp[r]⟩⟩
  .rw[if_pos P]at l;rw[l];simp only[ne_eq,P,not_false_eq_true,if_true];exact⟨by trivial,g.sub⟩
 .rw[(q.done o).1,HX]at l;rw[l];simp only[ne_eq,not_true_eq_false,if_false];have w:=ownS g;have O:=h.sub g.sub;have key:∀{X:KB×Int}(a:KB)(n:Int),X=(a,n)->(xY (.tuple #[uS a,uI n])=xY (.tuple #[uS X.1,uI X.2])/\V.sub V1):=λa n h=>by rw[h];exact⟨rfl,g.sub⟩
  unfold Hi;refine⟨λN=>?_,λN=>?_⟩
  .rw[if_pos N];obtain⟨mt,q1,q2⟩:=O.procs;refine⟨h.nn,h.nn,_,q1,BE.str Tryz.underlying245 wB zero72 q2 ?_⟩;unfold Es;cases B:B6 d e.s with
   |none=>exact⟨_,⟨none,0,0⟩,_,⟨none,0,0⟩,⟨none,0,0⟩,_,rfl,λh=>absurd h (by simp),λ_=>key _ _ rfl⟩
   |some p=>
    have Y:=O.ok.procsOk p (Ls B);have e1:=w.n_eq;have e2:=Y.params.n_eq;refine⟨_,p.ps,_,p.ls,p.bs,_,rfl,λ_=>⟨λI=>?_,λI=>key _ _ (if_pos (by omega))⟩,λh=>absurd rfl h⟩;have C:acc.length=p.params.length:=by omega
    simp only[C,ne_eq,not_true_eq_false,if_false];refine Dk acc.length (λi V2=>V1=V2/\Er d acc p.params=Er d (acc.drop i) (p.params.drop i)) ⟨rfl,rfl⟩ ?_;rintro j b c' V2 J hi ⟨rfl,A⟩ M;refine⟨λz=>?_,λo=>?_⟩
    .obtain⟨y,hm',hx',W,D,K,S,H⟩:=w.get z;obtain⟨f,hmf,hxf,T,hlf,Q,U,G⟩:=Y.params.get (i:=j) (by omega);rw[W,T,Er]at A;refine⟨K,S,z,_,H,Q,U,by omega,Ai Q,_,_,G,(c331 O).call ⟨_,rfl,λN=>⟨w.succ z,M D _ _ _ ⟨rfl,?_⟩⟩,λN=>key _ _ ?_⟩⟩;.simp_all
     .rw[eq_false_of_ne_true N,xj]at A;rw[A];rfl
    .rw[(w.done o).1,Nl]at A;simp_all
  .rw[if_neg N];exact(c352 O w).call ⟨_,_,rfl,key _ _ rfl⟩
theorem impNode(h:BL V c d)(hv:Ef d)(S:EP V m sc){e:E}{l:Sl}{xs:XN}(O:Ae V l 1 (xs.map Bs))(T:xs.length=e.k.length)(A:CL e.op e.n e.s e.k.length=true)(h7:e.op≠7):
  PP 333 [sV c m sc,e.v,l.v] V (.tuple #[uS (EN d sc e.op e.s xs).1,uI (EN d sc e.op e.s xs).2]):=by
 have Z:=arity A;refine A6.mk (x333 ?_);generalize g:EN d sc e.op e.s xs=X;have key:∀{V1:Mem}(a:KB)(n:Int),V.sub V1->X=(a,n)->(xY (.tuple #[uS a,uI n])=xY (.tuple #[uS X.1,uI X.2])/\V.sub V1):=λa n I h=>by simp_all
 have u:=Mem.sub.refl V;have f:=λa b=>c331 h (s:=a) (t:=b);have H:=λh:0<xs.length=>EO O h;have at1:=λh:1<xs.length=>EO O h;have at2:=λh:2<xs.length=>EO O h;have call:∀(s r:KB),X=C2 (allT xs s) r->Af [(uL l)] 37 V λv8 V1=>
   Tri xV 353 #[(uS s),(uS r),(.pointer (Aa v8 0))] V1 λz V2=>∃U:KB,∃Y:Int,z=rT #[(uS U),(uI Y)]/\(xY (.tuple #[(uS U),(uI Y)])=xY (.tuple #[uS X.1,uI X.2])/\V.sub V2):=λs r hx b W=>by
  have I:=Mem.sub_new W (cell (uL l) 37);exact(c353 (l:=l) Av (O.sub I)).call ⟨_,_,rfl,key _ _ I (by rw[hx])⟩
 unfold EN at g;refine⟨λw=>key _ _ u ?_,λw=>⟨λy=>key _ _ u ?_,λy=>⟨λj=>key _ _ u ?_,λj=>⟨λi=>?_,λi=>⟨λq=>?_,λq=>⟨λJ=>?_,λJ=>⟨λM=>?_,λM=>⟨λF=>?_,λF=>⟨λL=>call _ _ ?_,λL=>⟨λR=>call _ _ ?_,λR=>⟨λB=>call _ _ ?_,λB=>⟨λC=>call _ _ ?_,λC=>⟨λD=>call _ _ ?_,λD=>⟨λG=>?_,λG=>call _ _ ?_⟩⟩⟩⟩⟩⟩⟩⟩⟩⟩⟩⟩⟩⟩;.rw[<-g,if_pos w];rfl
 .rw[<-g,if_neg w,if_pos y];rfl
 .rw[<-g,if_neg w,if_neg y,if_pos j];rfl
 .rw[if_neg w,if_neg y,if_neg j,if_pos i,Nr]at g;obtain⟨mb,rfl,Q⟩:=S.at_;refine BE.str wC wB zero9 Q ?_;cases N:BV sc.vars e.s with
  |none=>
   rw[N,wD]at g;exact⟨_,_,rfl,λh=>absurd h (by simp),λ_=>key _ _ u (by rw[<-g,if_pos rfl];rfl)⟩
  |some t=>
   rw[N,xb]at g;exact⟨t,_,rfl,λ_=>key _ _ u (by rw[<-g,if_neg (S.ne.some N)]),λh=>absurd rfl h⟩
 .rw[if_neg w,if_neg y,if_neg j,if_neg i,if_pos q]at g;obtain⟨a1,a2,a3⟩:=H (by omega);exact⟨a1,by omega,a2,_,a3,(c332 h hv).call ⟨_,_,rfl,key _ _ u (by rw[<-g])⟩⟩
 .rw[if_neg w,if_neg y,if_neg j,if_neg i,if_neg q,if_pos J]at g;refine⟨λW=>(c234 h).call ⟨_,rfl,λhn=>key _ _ u ?_,λhn=>key _ _ u ?_⟩,λW=>key _ _ u ?_⟩;.simp_all
  .rw[<-g,if_neg (by rw[W];simp),if_pos (eq_false_of_ne_true hn)];rfl
  .rw[<-g,if_pos (eq_false_of_ne_true W)];rfl
 iterate 2
  .rw[if_neg w,if_neg y,if_neg j,if_neg i,if_neg q,if_neg J,if_neg h7,if_pos (by omega)]at g;obtain⟨a1,a2,a3⟩:=H (by have:=Z.2.1 (by omega);omega);obtain⟨b1,b2,b3⟩:=at1 (by have:=Z.2.1 (by omega);omega);refine⟨a1,by omega,a2,_,a3,b1,by omega,b2,_,b3,(f _ _).call ⟨_,rfl,λh=>key _ _ u ?_,λh=>⟨b1,by omega,b2,_,b3,a1,by omega,a2,_,a3,(f _ _).call ⟨_,rfl,λo=>key _ _ u ?_,λo=>key _ _ u ?_⟩⟩⟩⟩;.rw[<-g,h];rfl
   .rw[<-g,o,Bool.or_true];rfl
   .rw[<-g,eq_false_of_ne_true h,eq_false_of_ne_true o];rfl
 iterate 2
  .rw[if_neg w,if_neg y,if_neg j,if_neg i,if_neg q,if_neg J,if_neg h7,if_neg (by omega),if_pos (by omega)]at g;exact g.symm
 iterate 3
  .rw[if_neg w,if_neg y,if_neg j,if_neg i,if_neg q,if_neg J,if_neg h7,if_neg (by omega),if_neg (by omega),if_pos (by omega)]at g;exact g.symm
 .rw[if_neg w,if_neg y,if_neg j,if_neg i,if_neg q,if_neg J,if_neg h7,if_neg (by omega),if_neg (by omega),if_neg (by omega),if_pos G]at g;obtain⟨a1,a2,a3⟩:=H (by omega);obtain⟨b1,b2,b3⟩:=at1 (by omega);obtain⟨K,c2,c3⟩:=at2 (by omega);refine⟨a1,by omega,a2,_,a3,λP=>⟨b1,by omega,b2,_,b3,K,by omega,c2,_,c3,(f _ _).call ⟨_,rfl,λh=>⟨K,by omega,c2,_,c3,key _ _ u ?_⟩,λh=>⟨K,by omega,c2,_,c3,b1,by omega,b2,_,b3,(f _ _).call ⟨_,rfl,λo=>⟨b1,by omega,b2,_,b3,key _ _ u ?_⟩,λo=>key _ _ u ?_⟩⟩⟩⟩,λP=>key _ _ u ?_⟩;.rw[<-g,decide_eq_true (show xs.getD 0 sE=Ay from P),h,fits_first h];rfl
  .rw[<-g,decide_eq_true (show xs.getD 0 sE=Ay from P),o,Bool.or_true,fits_second h o];rfl
  .rw[<-g,decide_eq_true (show xs.getD 0 sE=Ay from P),eq_false_of_ne_true h,eq_false_of_ne_true o];rfl
  .rw[<-g,decide_eq_false (show ¬xs.getD 0 sE=Ay from P)];rfl
 .rw[if_neg w,if_neg y,if_neg j,if_neg i,if_neg q,if_neg J,if_neg h7,if_neg (by omega),if_neg (by omega),if_neg (by omega),if_neg G]at g;exact g.symm
theorem impExpr(h:BL V c d)(hv:Ef d)(L:EP V m sc):∀(e:E),E.Ok V e->∀G,BF G e=true->ImpE V d c m sc e:=by
 intro e;induction e using E.ind with
 |h e R=>
 intro N G z V1 r;have Z:=arity (IM z);have O:∀x∈e.k,ImpE V1 d c m sc x:=λx H V2 q=>R x H (N.kids x H) (G+1) (JO z x H) V2 (r.trans q);have A:=h.sub r;refine A6.mk (x300 ?_);have I:=Ln d sc e.k [];refine⟨λM=>(impCall A e (N.sub r) Z.2.2.2 O).call ⟨_,_,rfl,?_⟩,λM=>?_⟩
 .have Y:Ao d sc e=if(rawT d sc e).2=0/\(rawT d sc e).1=sE then(sE,11)else rawT d sc e:=by
   rw[JM];unfold rawT;by_cases f:(partsT d sc [] e.k).2≠0;.simp_all
   simp_all[if_neg,EN,if_pos,callE_raw]
  rw[Y];refine⟨λf=>⟨λq=>?_,λq=>?_⟩,λf=>?_⟩;.rw[if_pos ⟨f,q⟩];exact⟨rfl,Mem.sub.refl _⟩
  .rw[if_neg (λh=>q h.2)];exact⟨rfl,Mem.sub.refl _⟩
  .rw[if_neg (λh=>f h.1)];exact⟨rfl,Mem.sub.refl _⟩
 .rw[JM];have X:=(N.sub r).rows;refine loop4s (mk:=.string) (mc:=.int .i64) (md:=uL) (Ab []) 0 ⟨none,0,0⟩ AT e.k.length (λi s V2=>∃acc,Own V1 V2 9 1 s (acc.flatMap Bs)/\partsT d sc [] e.k=partsT d sc acc (e.k.drop i)/\acc.length=i) ⟨[],Own.nil (Mem.sub.refl _) _ _,rfl,rfl⟩ ?_;rintro i b S s V2 J T ⟨acc,g,y,j⟩ B;have w:=X.sub g.sub;refine⟨λl=>?_,λo=>?_⟩
  .obtain⟨x,hm,H,W,C,Q,D,a⟩:=w.get l;rw[W,Hd]at y;refine⟨Q,D,l,_,_,_,_,a,(O x hm V2 g.sub).call ⟨_,_,rfl,λf=>?_,λf=>?_⟩⟩
   .intro b1 P;rw[if_neg (λh=>h f)]at y;refine app37 (s:=s) (u:=⟨some ⟨b1,0,none⟩,1,1⟩) (xs:=acc) (ys:=[(Ao d sc x).1]) rfl rfl (g.new P _) (IN Av) (by simp;omega) λs' V' K=>⟨s',rfl,w.succ l,B C _ _ _ _ ⟨_,K,y,by simp[j]⟩⟩
   .rw[if_pos f]at y;rw[y];simp only[ne_eq,f,not_false_eq_true,if_true];exact⟨by trivial,g.sub⟩
  .have F:=(w.done o).2;rw[(w.done o).1,HX]at y;rw[y];simp only[ne_eq,not_true_eq_false,if_false];refine(impNode (A.sub g.sub) hv ((L.sub r).sub g.sub) (ownS g) (by omega) (IM z) M).call ⟨_,_,rfl,rfl,g.sub⟩
end
theorem F8{c k:Nat}{p:XI}:(if(c:Int)=(0:Int)then p else Aa p ((0:Int).toNat*k))=p:=by
 have:Aa p ((0:Int).toNat*k)=p:=by
  rw[show(0:Int).toNat*k=0 by simp];cases p with
  |none=>rfl
  |some a=>show some (a.add 0)=_;unfold zG;rw[if_pos rfl]
 split;.rfl
 .exact this
theorem sub0{n:Nat}:((n:Int)-(0:Int)).toNat=n:=by omega
theorem Ae.pre{α:Type}{V:Mem}{l:Sl}{sz:Nat}{row:α->XV}{xs:List α}(h:Ae V l sz (xs.map row)){i:Nat}(hi:i<=xs.length):Ae V ⟨l.p,i,l.c⟩ sz ((xs.take i).map row):=by
 have g:=h.n_eq;have f:=h.cap;refine⟨by simp[hi],by grind,h.fit,λr u=>h.size r ?_,λj r w=>h.at_ j r ?_⟩;.grind
 grind
theorem FD{V:Mem}{p:XI}{off n:Nat}{vs:XV}(h:V.rowp p off n=some vs):V.rowp (Aa p off) 0 n=some vs:=by
 cases p with
 |none=>cases h
 |some a=>
  have:(a.add off).add 0=a.add off:=by rfl
  show V.row ((a.add off).add 0) n=_;rw[this];exact h
theorem c225{V:Mem}{x:Ty}:PP 225 [x.v] V (uS x.name):=by
 refine x225 ?_;exact⟨rfl,rfl⟩
theorem c289{V:Mem}{b1 b2 b3 a t2 t3 i:Nat}{l:Sl}{xs:List Ty}{x y:Ty}(f:V b1=some (cell (.func (.func 225) #[] #[]) a))(u:V b2=some (cell (uL l) t2))(w:V b3=some (cell (uI i) t3))
  (z:Ae V l 2 (xs.map Ty.row)) (j:xs[i]?=some y):PP 289 [x.v,pv b1,pv b2,pv b3] V (uB (decide (x.name=y.name))):=by
 refine x289 ?_;have H:=z.n_eq;have e:=(yg.1 j).1;have g:(i:Int)<(l.n:Int):=by omega
 obtain⟨J,hm,r,s,G,q,o,h⟩:=z.get g;rw[j]at r;cases r;exact⟨.func (.func 225) #[] #[],rfl,AD f,.func (.func 225) #[] #[],rfl,AD f,l,AD u,_,AD w,q,o,g,_,_,h,_,_,_,rfl,Tryz.call225,(c225 (x:=x)).callv (first:=[]) (caps:=[]) ⟨_,rfl,FD h,q,o,g,AD w,AD u,AD f,_,_,_,rfl,Tryz.call225,(c225 (x:=y)).callv (first:=[]) (caps:=[]) ⟨_,rfl,rfl,rfl⟩⟩⟩
theorem c224{V:Mem}{l:Sl}{xs:List Ty}{i:Nat}{y:Ty}(u:Ae V l 2 (xs.map Ty.row))(z:xs[i]?=some y):PP 224 [l.v,uI i,.func (.func 225) #[] #[]] V (uB ((xs.take i).any λg=>decide (g.name=y.name))):=by
 refine A6.mk (x224 (a:=l) (c:=.func (.func 225) #[] #[]) ?_);have n:=u.n_eq;have r:=u.cap;have j:=(yg.1 z).1;refine⟨⟨by omega,by omega,by omega⟩,λb1 w b2 f b3 h=>?_⟩;have s:=(Mem.sub_new w _).trans ((Mem.sub_new f _).trans (Mem.sub_new h (cell (uI i) 3)));simp only[F8,sub0];refine(c165 (l:=⟨l.p,i,l.c⟩) (first:=[]) (caps:=[pv b1,pv b2,pv b3]) (Ae.pre (u.sub s) (by omega)) Tryz.call289 (λg=>decide (g.name=y.name)) (λx _=>c289 ((Mem.sub_new h _) _ _ ((Mem.sub_new f _) _ _ Av)) ((Mem.sub_new h _) _ _ Av) Av (u.sub s) z)).call ⟨_,rfl,rfl,s⟩
theorem c228{V:Mem}{x:Fld}:PP 228 [x.v] V (uS x.name):=by
 refine x228 ?_;exact⟨rfl,rfl⟩
theorem c291{V:Mem}{b1 b2 b3 a t2 t3 i:Nat}{l:Sl}{xs:XX}{x y:Fld}(f:V b1=some (cell (.func (.func 228) #[] #[]) a))(u:V b2=some (cell (uL l) t2))(w:V b3=some (cell (uI i) t3))
  (z:Ae V l 2 (xs.map Fld.row)) (j:xs[i]?=some y):PP 291 [x.v,pv b1,pv b2,pv b3] V (uB (decide (x.name=y.name))):=by
 refine x291 ?_;have H:=z.n_eq;have e:=(yg.1 j).1;have g:(i:Int)<(l.n:Int):=by omega
 obtain⟨J,hm,r,s,G,q,o,h⟩:=z.get g;rw[j]at r;cases r;exact⟨.func (.func 228) #[] #[],rfl,AD f,.func (.func 228) #[] #[],rfl,AD f,l,AD u,_,AD w,q,o,g,_,_,h,_,_,_,rfl,Tryz.call228,(c228 (x:=x)).callv (first:=[]) (caps:=[]) ⟨_,rfl,FD h,q,o,g,AD w,AD u,AD f,_,_,_,rfl,Tryz.call228,(c228 (x:=y)).callv (first:=[]) (caps:=[]) ⟨_,rfl,rfl,rfl⟩⟩⟩
theorem c227{V:Mem}{l:Sl}{xs:XX}{i:Nat}{y:Fld}(u:Ae V l 2 (xs.map Fld.row))(z:xs[i]?=some y):PP 227 [l.v,uI i,.func (.func 228) #[] #[]] V (uB ((xs.take i).any λg=>decide (g.name=y.name))):=by
 refine A6.mk (x227 (a:=l) (c:=.func (.func 228) #[] #[]) ?_);have n:=u.n_eq;have r:=u.cap;have j:=(yg.1 z).1;refine⟨⟨by omega,by omega,by omega⟩,λb1 w b2 f b3 h=>?_⟩;have s:=(Mem.sub_new w _).trans ((Mem.sub_new f _).trans (Mem.sub_new h (cell (uI i) 3)));simp only[F8,sub0];refine(IJ (l:=⟨l.p,i,l.c⟩) (first:=[]) (caps:=[pv b1,pv b2,pv b3]) (Ae.pre (u.sub s) (by omega)) Tryz.call291 (λg=>decide (g.name=y.name)) (λx _=>c291 ((Mem.sub_new h _) _ _ ((Mem.sub_new f _) _ _ Av)) ((Mem.sub_new h _) _ _ Av) Av (u.sub s) z)).call ⟨_,rfl,rfl,s⟩
theorem c231{V:Mem}{x:Pr}:PP 231 [x.v] V (uS x.name):=by
 refine x231 ?_;exact⟨rfl,rfl⟩
theorem c292{V:Mem}{b1 b2 b3 a t2 t3 i:Nat}{l:Sl}{xs:List Pr}{x y:Pr}(f:V b1=some (cell (.func (.func 231) #[] #[]) a))(u:V b2=some (cell (uL l) t2))(w:V b3=some (cell (uI i) t3))
  (z:Ae V l 5 (xs.map Pr.row)) (j:xs[i]?=some y):PP 292 [x.v,pv b1,pv b2,pv b3] V (uB (decide (x.name=y.name))):=by
 refine x292 ?_;have H:=z.n_eq;have e:=(yg.1 j).1;have g:(i:Int)<(l.n:Int):=by omega
 obtain⟨J,hm,r,s,G,q,o,h⟩:=z.get g;rw[j]at r;cases r;exact⟨.func (.func 231) #[] #[],rfl,AD f,.func (.func 231) #[] #[],rfl,AD f,l,AD u,_,AD w,q,o,g,_,_,_,_,_,h,_,_,_,rfl,Tryz.call231,(c231 (x:=x)).callv (first:=[]) (caps:=[]) ⟨_,rfl,FD h,q,o,g,AD w,AD u,AD f,_,_,_,rfl,Tryz.call231,(c231 (x:=y)).callv (first:=[]) (caps:=[]) ⟨_,rfl,rfl,rfl⟩⟩⟩
theorem c230{V:Mem}{l:Sl}{xs:List Pr}{i:Nat}{y:Pr}(u:Ae V l 5 (xs.map Pr.row))(z:xs[i]?=some y):PP 230 [l.v,uI i,.func (.func 231) #[] #[]] V (uB ((xs.take i).any λg=>decide (g.name=y.name))):=by
 refine A6.mk (x230 (a:=l) (c:=.func (.func 231) #[] #[]) ?_);have n:=u.n_eq;have r:=u.cap;have j:=(yg.1 z).1;refine⟨⟨by omega,by omega,by omega⟩,λb1 w b2 f b3 h=>?_⟩;have s:=(Mem.sub_new w _).trans ((Mem.sub_new f _).trans (Mem.sub_new h (cell (uI i) 3)));simp only[F8,sub0];refine(IK (l:=⟨l.p,i,l.c⟩) (first:=[]) (caps:=[pv b1,pv b2,pv b3]) (Ae.pre (u.sub s) (by omega)) Tryz.call292 (λg=>decide (g.name=y.name)) (λx _=>c292 ((Mem.sub_new h _) _ _ ((Mem.sub_new f _) _ _ Av)) ((Mem.sub_new h _) _ _ Av) Av (u.sub s) z)).call ⟨_,rfl,rfl,s⟩
theorem c233{V:Mem}{x:Ms}:PP 233 [x.v] V (uS x.name):=by
 refine x233 ?_;exact⟨rfl,rfl⟩
theorem c294{V:Mem}{b1 b2 b3 a t2 t3 i:Nat}{l:Sl}{xs:List Ms}{x y:Ms}(f:V b1=some (cell (.func (.func 233) #[] #[]) a))(u:V b2=some (cell (uL l) t2))(w:V b3=some (cell (uI i) t3))
  (z:Ae V l 7 (xs.map Ms.row)) (j:xs[i]?=some y):PP 294 [x.v,pv b1,pv b2,pv b3] V (uB (decide (x.name=y.name))):=by
 refine x294 ?_;have H:=z.n_eq;have e:=(yg.1 j).1;have g:(i:Int)<(l.n:Int):=by omega
 obtain⟨J,hm,r,s,G,q,o,h⟩:=z.get g;rw[j]at r;cases r;exact⟨.func (.func 233) #[] #[],rfl,AD f,.func (.func 233) #[] #[],rfl,AD f,l,AD u,_,AD w,q,o,g,_,_,_,_,_,_,_,h,_,_,_,rfl,Tryz.call233,(c233 (x:=x)).callv (first:=[]) (caps:=[]) ⟨_,rfl,FD h,q,o,g,AD w,AD u,AD f,_,_,_,rfl,Tryz.call233,(c233 (x:=y)).callv (first:=[]) (caps:=[]) ⟨_,rfl,rfl,rfl⟩⟩⟩
theorem c232{V:Mem}{l:Sl}{xs:List Ms}{i:Nat}{y:Ms}(u:Ae V l 7 (xs.map Ms.row))(z:xs[i]?=some y):PP 232 [l.v,uI i,.func (.func 233) #[] #[]] V (uB ((xs.take i).any λg=>decide (g.name=y.name))):=by
 refine A6.mk (x232 (a:=l) (c:=.func (.func 233) #[] #[]) ?_);have n:=u.n_eq;have r:=u.cap;have j:=(yg.1 z).1;refine⟨⟨by omega,by omega,by omega⟩,λb1 w b2 f b3 h=>?_⟩;have s:=(Mem.sub_new w _).trans ((Mem.sub_new f _).trans (Mem.sub_new h (cell (uI i) 3)));simp only[F8,sub0];refine(c293 (l:=⟨l.p,i,l.c⟩) (first:=[]) (caps:=[pv b1,pv b2,pv b3]) (Ae.pre (u.sub s) (by omega)) Tryz.call294 (λg=>decide (g.name=y.name)) (λx _=>c294 ((Mem.sub_new h _) _ _ ((Mem.sub_new f _) _ _ Av)) ((Mem.sub_new h _) _ _ Av) Av (u.sub s) z)).call ⟨_,rfl,rfl,s⟩
theorem c236{V:Mem}{x:Iv}:PP 236 [x.v] V (uS x.name):=by
 refine x236 ?_;exact⟨rfl,rfl⟩
theorem c296{V:Mem}{b1 b2 b3 a t2 t3 i:Nat}{l:Sl}{xs:List Iv}{x y:Iv}(f:V b1=some (cell (.func (.func 236) #[] #[]) a))(u:V b2=some (cell (uL l) t2))(w:V b3=some (cell (uI i) t3))
  (z:Ae V l 6 (xs.map Iv.row)) (j:xs[i]?=some y):PP 296 [x.v,pv b1,pv b2,pv b3] V (uB (decide (x.name=y.name))):=by
 refine x296 ?_;have H:=z.n_eq;have e:=(yg.1 j).1;have g:(i:Int)<(l.n:Int):=by omega
 obtain⟨J,hm,r,s,G,q,o,h⟩:=z.get g;rw[j]at r;cases r;exact⟨.func (.func 236) #[] #[],rfl,AD f,.func (.func 236) #[] #[],rfl,AD f,l,AD u,_,AD w,q,o,g,_,_,_,_,_,_,h,_,_,_,rfl,Tryz.call236,(c236 (x:=x)).callv (first:=[]) (caps:=[]) ⟨_,rfl,FD h,q,o,g,AD w,AD u,AD f,_,_,_,rfl,Tryz.call236,(c236 (x:=y)).callv (first:=[]) (caps:=[]) ⟨_,rfl,rfl,rfl⟩⟩⟩
theorem c235{V:Mem}{l:Sl}{xs:List Iv}{i:Nat}{y:Iv}(u:Ae V l 6 (xs.map Iv.row))(z:xs[i]?=some y):PP 235 [l.v,uI i,.func (.func 236) #[] #[]] V (uB ((xs.take i).any λg=>decide (g.name=y.name))):=by
 refine A6.mk (x235 (a:=l) (c:=.func (.func 236) #[] #[]) ?_);have n:=u.n_eq;have r:=u.cap;have j:=(yg.1 z).1;refine⟨⟨by omega,by omega,by omega⟩,λb1 w b2 f b3 h=>?_⟩;have s:=(Mem.sub_new w _).trans ((Mem.sub_new f _).trans (Mem.sub_new h (cell (uI i) 3)));simp only[F8,sub0];refine(c295 (l:=⟨l.p,i,l.c⟩) (first:=[]) (caps:=[pv b1,pv b2,pv b3]) (Ae.pre (u.sub s) (by omega)) Tryz.call296 (λg=>decide (g.name=y.name)) (λx _=>c296 ((Mem.sub_new h _) _ _ ((Mem.sub_new f _) _ _ Av)) ((Mem.sub_new h _) _ _ Av) Av (u.sub s) z)).call ⟨_,rfl,rfl,s⟩
theorem c238{V:Mem}{x:Bd}:PP 238 [x.v] V (uS x.proc):=by
 refine x238 ?_;exact⟨rfl,rfl⟩
theorem c297{V:Mem}{b1 b2 b3 a t2 t3 i:Nat}{l:Sl}{xs:List Bd}{x y:Bd}(f:V b1=some (cell (.func (.func 238) #[] #[]) a))(u:V b2=some (cell (uL l) t2))(w:V b3=some (cell (uI i) t3))
  (z:Ae V l 5 (xs.map Bd.row)) (j:xs[i]?=some y):PP 297 [x.v,pv b1,pv b2,pv b3] V (uB (decide (x.proc=y.proc))):=by
 refine x297 ?_;have H:=z.n_eq;have e:=(yg.1 j).1;have g:(i:Int)<(l.n:Int):=by omega
 obtain⟨J,hm,r,s,G,q,o,h⟩:=z.get g;rw[j]at r;cases r;exact⟨.func (.func 238) #[] #[],rfl,AD f,.func (.func 238) #[] #[],rfl,AD f,l,AD u,_,AD w,q,o,g,_,_,_,_,_,h,_,_,_,rfl,Tryz.call238,(c238 (x:=x)).callv (first:=[]) (caps:=[]) ⟨_,rfl,FD h,q,o,g,AD w,AD u,AD f,_,_,_,rfl,Tryz.call238,(c238 (x:=y)).callv (first:=[]) (caps:=[]) ⟨_,rfl,rfl,rfl⟩⟩⟩
theorem c237{V:Mem}{l:Sl}{xs:List Bd}{i:Nat}{y:Bd}(u:Ae V l 5 (xs.map Bd.row))(z:xs[i]?=some y):PP 237 [l.v,uI i,.func (.func 238) #[] #[]] V (uB ((xs.take i).any λg=>decide (g.proc=y.proc))):=by
 refine A6.mk (x237 (a:=l) (c:=.func (.func 238) #[] #[]) ?_);have n:=u.n_eq;have r:=u.cap;have j:=(yg.1 z).1;refine⟨⟨by omega,by omega,by omega⟩,λb1 w b2 f b3 h=>?_⟩;have s:=(Mem.sub_new w _).trans ((Mem.sub_new f _).trans (Mem.sub_new h (cell (uI i) 3)));simp only[F8,sub0];refine(c218 (l:=⟨l.p,i,l.c⟩) (first:=[]) (caps:=[pv b1,pv b2,pv b3]) (Ae.pre (u.sub s) (by omega)) Tryz.call297 (λg=>decide (g.proc=y.proc)) (λx _=>c297 ((Mem.sub_new h _) _ _ ((Mem.sub_new f _) _ _ Av)) ((Mem.sub_new h _) _ _ Av) Av (u.sub s) z)).call ⟨_,rfl,rfl,s⟩
end Go.Proofs
namespace Go.Proofs
open Go Go.Sx
theorem wrap_id{n:Nat}(h:n<=2147483648):IntKind.wrap .i64 (n:Int)=n:=EH ⟨by show(-9223372036854775808:Int)<=n;omega,by show(n:Int)<=9223372036854775807;omega⟩
theorem Qr{P:Program}(w:World)(t u ty e:TypeId)(i:TypeInfo)(z:Value)(q:P.underlying t=some (.slice e))(hu:P.underlying u=some (.int .i64))(hi:P.info? e=some i)(o:i.zero=some z)
  (n:Nat) (a:0<n) (r:n<=2147483648) (s:i.bytes<=65536) (J:0<i.size):
  (xM #[t,u] ty #[z0,uI n]).run P w=
   .ok (.slice (some ⟨w.heap.size,0,none⟩) n (grownCap w n 0 e)) (w.drew.alloc (.cells (xQ z.cells n++xQ z.cells (grownCap w n 0 e-n)) e)):=by
 have y:n≠0:=by omega
 have h:¬(9223372036854775807<(n:Int)):=by omega
 have H:n*i.bytes<=281474976710656:=Nat.le_trans (Nat.mul_le_mul r s) (by decide);have g:¬(281474976710656<Builtin.nextslicecap n 0*i.bytes):=by rw[nextslicecap_zero a];omega
 have f:¬(281474976710656<(n:Int)*(i.bytes:Int)):=by omega
 have j:¬((n:Int)<0):=by omega
 have l:i.size≠0:=by omega
 simp[xM,run_underlying q,run_underlying hu,sizeOf,typeInfo,zeroValue,hi,o,y,h,g,f,j,l,wrap_id r,asInt,asIntOf,Question.forced,run_firstCells_none,newRow,grownCap];simp_all[absurd,Nat.ne_of_gt,Nat.mul_pos]
theorem GenK.appendZ{P:Program}{V0 V:Mem}{t u e ty:TypeId}{i:TypeInfo}{z:Value}{sz:Nat}(H:P.underlying t=some (.slice e))(hu:P.underlying u=some (.int .i64))(hi:P.info? e=some i)(J:i.zero=some z)(f:i.size=sz)(j:z.cells.size=sz)(l:0<sz)(r:i.bytes<=65536)
  {x y:Operand} {vals:Operand->Value} {n:Nat} (G:vals x=z0) (N:vals y=uI n) (Z:0<n) (Y:n<=2147483648) (s:V0.sub V) {q:Value->Mem->Prop}
  (W:∀b c V',Own V0 V' e sz ⟨some ⟨b,0,none⟩,0,c⟩ []->n<=c->c<=9223372036854775807->q (.slice (sa b) n c) V'):
  GenK P (.call {callee:=.builtin .append,args:=#[x,y],argTypes:=#[t,u]}) ty vals V q:=by
 intro w hw;subst f;have Q:=Qr (P:=P) w t u ty e i z H hu hi J n Z Y r l;obtain⟨g,O⟩:=Ax.new hw (.cells (xQ z.cells n++xQ z.cells (grownCap w n 0 e-n)) e);have o:=grownCap_ge w n 0 e;have a:=grownCap_le_maxLen w n 0 e (by simp only[maxLen];omega);refine⟨_,_,_,?_,O,W w.heap.size (grownCap w n 0 e) _ ⟨Mem.sub.new s g _,by simp,.inr ⟨w.heap.size,_,rfl,?_,Mem.set_same _ _ _,Nat.zero_le _,a,?_,by simp⟩⟩ o (by grind[maxLen])⟩
 .unfold execOp;simp only[resolve,invoke,builtin,Sem.run_bind,Sem.run_pure,zW,xP,List.map_cons,List.map_nil,G,N,Q]
 .cases h:V0 w.heap.size with
  |none=>rfl
  |some x=>rw[s _ _ h]at g;cases g
 .simp only[Array.size_append,size_zeroCells,j,<-Nat.add_mul];simp_all
section
variable{V:Mem}
theorem growF{V0:Mem}(g:V0.sub V){n:Nat}(i:n<=1000000):Tri xV 191 #[z0,uI n] V λr V'=>∃s:Sl,r=.returned (uL s)/\Own V0 V' 97 2 s []:=by
 refine x191 (a:=⟨none,0,0⟩) ?_;refine⟨λh=>absurd h (by omega),λ_=>⟨⟨by simp,by simp⟩,⟨by simp<;>omega,by simp<;>omega⟩,λh=>⟨⟨by simp,by simp,by simp⟩,?_⟩,λh=>⟨⟨none,0,0⟩,rfl,Own.nil g _ _⟩⟩⟩;have f:xV.info? 97=some (ti 97):=by kernel_rfl
 have u:(ti 97).zero=some ((ti 97).zero.getD undef):=by kernel_rfl
 have w:(ti 97).size=2:=by kernel_rfl
 have z:((ti 97).zero.getD undef).cells.size=2:=by kernel_rfl
 have y:(ti 97).bytes<=65536:=by rw[show(ti 97).bytes=32 by kernel_rfl];omega
 refine GenK.appendZ (n:=n) xh Tryz.underlying3 f u w z (by decide) y rfl ?_ (by simp at h;omega) (by omega) g λb c V' l q j=>⟨⟨some ⟨b,0,none⟩,n,c⟩,rfl,⟨by simp,by simp,by simp⟩,?_⟩;.rfl
 .simp only[F8];grind
theorem concatF{l:Sl}{ls:List (Sl×XX)}(h:Ae V l 1 (ls.map λx=>[x.1.v]))(z:∀x∈ls,Ae V x.1 2 (x.2.map Fld.row))(Z:ls.length<=100)(y:∀x∈ls,x.2.length<=1000):
  Tri xV 141 #[uL l] V λr V'=>∃s:Sl,r=.returned (uL s)/\V.sub V'/\Ae V' s 2 ((ls.flatMap (·.2)).map Fld.row):=by
 refine x141 ?_;have I:=h.n_eq;refine DJ (mk:=.int .i64) BJ ls.length (λi n V1=>V=V1/\0<=n/\n<=1000*i) ⟨rfl,by omega,by omega⟩ ?_;rintro i n V1 J Y ⟨rfl,W,Q⟩ o;refine⟨λg=>?_,λj=>?_⟩
 .obtain⟨x,hm,P,a,e,H,G,f⟩:=h.get g;have M:=(z x hm).n_eq;have O:=y x hm;exact⟨H,G,g,x.1,f,⟨by omega,by omega⟩,λq=>absurd q (by omega),λ_=>⟨h.succ g,o e _ _ ⟨rfl,by omega,by omega⟩⟩⟩
 .obtain⟨k,rfl⟩:=Int.eq_ofNat_of_zero_le W;refine Tri.mono (growF (Mem.sub.refl V) (n:=k) (by omega)) ?_;rintro _ V1 ⟨s,rfl,w⟩;refine⟨s,rfl,?_⟩;refine DJ (mk:=uL) (b0:=s) AT ls.length (λi s V2=>Own V V2 97 2 s (((ls.take i).flatMap (·.2)).flatMap Fld.row)/\((ls.take i).flatMap (·.2)).length<=1000*i) ⟨w,by simp⟩ ?_;rintro i s V2 J Y ⟨w,Q⟩ o;have N:=h.sub w.sub;refine⟨λg=>?_,λj=>?_⟩
  .obtain⟨x,hm,P,a,e,H,G,f⟩:=N.get g;have O:=y x hm;refine⟨H,G,g,x.1,f,?_⟩;refine Ee (s:=s) (u:=x.1) (xs:=(ls.take i).flatMap (·.2)) (ys:=x.2) rfl rfl w ((z x hm).sub w.sub) (by omega) λs' V' A=>⟨s',rfl,N.succ g,o e _ _ ?_⟩;grind
  .have:=(N.done j).2;rw[List.take_of_length_le this]at w;exact⟨s,rfl,w.sub,ownF w⟩
end
attribute [local irreducible] Go.Sx.Tri
section
variable{V:Mem}{d:Ds}{c:XI}{m:XU}{sc:Sc}
theorem c299(h:BL V c d)(hv:Ef d)(N:EP V m sc)(q:sc.body=true){x:S}(A:S.Ok V x)(B:Db x.op x.s x.es x.ls.length x.xs.length=true){res:KB}:
  PP 299 [sV c m sc,x.v,uS res] V (uI (Ec d sc res x.op x.s x.es)):=by
 obtain⟨a6,a134,a2,a5,alen,Z⟩:=Nm B;rw[S.v_eq];refine A6.mk (x299 ?_);have hf:=JK A;refine⟨λI=>?_,λI=>?_⟩
 .obtain⟨M,j,-⟩:=a6 I;rcases hf with⟨h',-⟩|⟨e0',r,F,hn,C,hp2,z⟩;.simp_all
  .rw[j]at F;cases F;have Y:=Z M (by rw[j];simp);have W:=A.eOk M (by rw[j];simp);have hk:∀y∈M.k,ImpE V d c m sc y:=λy hy=>impExpr h hv N y (W.kids y hy) 2 (JO Y y hy);refine⟨C,by omega,by omega,_,_,_,_,z,(impCall h M W (arity (IM Y)).2.2.2 hk).call ⟨_,_,rfl,?_⟩⟩;unfold Ec rawT Hi;rw[if_pos I,j];simp only[if_pos q];split;.exact⟨rfl,Mem.sub.refl _⟩
   .exact⟨rfl,Mem.sub.refl _⟩
 .unfold Ec;rw[if_neg I];have hr:=A.eRows;refine Gx (mk:=.int .i64) (mc:=uL) 0 ⟨none,0,0⟩ AT x.es.length (λi s V2=>∃acc,Own V V2 9 1 s (acc.flatMap Bs)/\partsT d sc [] x.es=partsT d sc acc (x.es.drop i)/\acc.length=i) ⟨[],Own.nil (Mem.sub.refl _) _ _,rfl,rfl⟩ ?_;rintro i b s V2 J hi ⟨acc,g,f,o⟩ hJ;have l:=hr.sub g.sub;refine⟨λa=>?_,λQ=>?_⟩
  .obtain⟨y,hm,hxy,D,hl,E,hz,z⟩:=l.get a;rw[D,Hd]at f;refine⟨E,hz,a,_,_,_,_,z,(impExpr h hv N y (A.eOk y hm) 1 (Z y hm) V2 g.sub).call ⟨_,_,rfl,λG=>?_,λG=>?_⟩⟩
   .intro b1 K;rw[if_neg (λh=>h G)]at f;refine app37 (s:=s) (u:=⟨some ⟨b1,0,none⟩,1,1⟩) (xs:=acc) (ys:=[(Ao d sc y).1]) rfl rfl (g.new K _) (IN Av) (by grind) λs' V' ho=>⟨s',rfl,l.succ a,hJ hl _ _ _ ⟨_,ho,f,by simp[o]⟩⟩
   .rw[if_pos G]at f;rw[f];simp only[G,ne_eq,not_false_eq_true,if_true];exact⟨by trivial,g.sub⟩
  .have hge':=(l.done Q).2;rw[(l.done Q).1,HX]at f;rw[f];simp only[ne_eq,not_true_eq_false,if_false];have w:=ownS g;have hal:acc.length=x.es.length:=by omega
   have hsub:=g.sub;have L:=h.sub g.sub;have sln:=w.n_eq;have e:=λh:0<acc.length=>EO w h;have at1:=λh:1<acc.length=>EO w h;have key:∀X n:Int,X=n->(xY (uI n)=xY (uI X)/\V.sub V2):=λX n h=>by simp_all
   refine⟨λR=>?_,λR=>⟨λT=>?_,λT=>⟨λo3=>?_,λo3=>⟨λo4=>?_,λo4=>⟨λU=>?_,λU=>key _ _ ?_⟩⟩⟩⟩⟩
   .obtain⟨b1,b2,b3⟩:=e (by omega);obtain⟨mb,rfl,P⟩:=(N.sub g.sub).at_;rw[if_pos R,Nr];refine BE.str wC wB zero9 P ?_;cases O:BV sc.vars x.s with
    |none=>
     rw[wD];exact⟨_,_,rfl,λh=>absurd h (by simp),λ_=>key _ _ (if_pos rfl)⟩
    |some t=>
     rw[xb];refine⟨t,_,rfl,λ_=>⟨b1,by omega,b2,_,b3,(c331 L).call ⟨_,rfl,λH=>key _ _ ?_,λH=>key _ _ ?_⟩⟩,λh=>absurd rfl h⟩;.rw[if_neg (N.ne.some O),if_pos H]
     .rw[if_neg (N.ne.some O),if_neg H]
   .obtain⟨b1,b2,b3⟩:=e (by omega);obtain⟨c1,c2,c3⟩:=at1 (by omega);rw[if_neg R,if_pos T];refine⟨b1,by omega,b2,_,b3,(c332 L hv).call ⟨_,_,rfl,λH=>⟨c1,by omega,c2,_,c3,(c331 L).call ⟨_,rfl,λhc=>key _ _ ?_,λhc=>key _ _ ?_⟩⟩,λH=>key _ _ ?_⟩⟩;.simp_all
    .simp_all
    omega
   .grind[Ay]
   .grind[Ay]
   .have h5:=a5 U;rw[if_neg R,if_neg T,if_neg (by omega),if_pos U];refine⟨λhn=>?_,λhn=>?_⟩;.grind[sE]
    .have G:¬acc.length=0:=by omega
     obtain⟨b1,b2,b3⟩:=e (by omega);rw[if_neg G];refine⟨λF=>key _ _ (by grind[sE]),λF=>⟨b1,by omega,b2,_,b3,(c331 L).call ⟨_,rfl,λH=>key _ _ ?_,λH=>key _ _ ?_⟩⟩⟩;.grind[sE]
     simp_all
   omega
def placeT(r:Int×Int):Int:=if r.2=0 then 0 else r.1
def CR(V:Mem)(b t:Nat)(a:Int)(V1:Mem):Prop:=(V.set b (cell (uI a) t)).sub V1
theorem CR.st{b t:Nat}{a k:Int}{V1:Mem}(h:CR V b t a V1):CR V b t k (V1.set b (cell (uI k) t)):=λq o g=>by
 by_cases e:q=b;.grind[Mem.set_same]
 .rw[Mem.set_ne e]at g⊢;exact h q o (by rw[Mem.set_ne e];exact g)
theorem CR.call{b t:Nat}{a k:Int}{V1 V2:Mem}(h:CR V b t a V1)(g:CR V1 b t k V2):CR V b t k V2:=(CR.st h).trans g
theorem CR.cell{b t:Nat}{a:Int}{V1:Mem}(h:CR V b t a V1):V1 b=some (Sx.cell (uI a) t):=h _ _ Av
theorem CR.base{V0:Mem}{b t:Nat}{a:Int}{V1:Mem}(h:CR V b t a V1)(g:V0.sub V)(f:V0 b=none):V0.sub V1:=(g.set f _).trans h
theorem CR.other{b t q:Nat}{a:Int}{V1:Mem}{o:Obj}(h:CR V b t a V1)(g:V q=some o)(f:q≠b):V1 q=some o:=h _ _ (by rw[Mem.set_ne f];exact g)
def ImpS(V0:Mem)(d:Ds)(c:XI)(m:XU)(sc:Sc)(res:KB)(b t:Nat)(l:XK):Prop:=∀(V:Mem)(sl:Sl)(n g:Int),V0.sub V->V b=some (cell (uI n) t)->Ae V0 sl 5 (l.map S.row)->(∀x∈l,S.Ok V0 x)->CF g l=true->0<=n->n+Ct l<=1000->
 Tri xV 240 #[sV c m sc,uL sl,uS res,pv b] V λr V'=>r=rT #[uI (placeT (AN d sc res n l)),uI (AN d sc res n l).2]/\∃h,CR V b t h V'/\((AN d sc res n l).2=0->h=(AN d sc res n l).1)
theorem impStep{V0:Mem}{b t:Nat}{res:KB}(C:V0 b=none)(h:BL V0 c d)(hv:Ef d)(hs:EP V0 m sc)(Y:sc.body=true){l:XK}(hk:∀x∈l,ImpS V0 d c m sc res b t x.ls/\ImpS V0 d c m sc res b t x.xs):ImpS V0 d c m sc res b t l:=by
 intro V sl n dd D E K T A U hn1;refine x240 ?_;refine Dk l.length (λi V1=>∃a,CR V b t a V1/\0<=a/\a+Ct (l.drop i)<=1000/\AN d sc res n l=AN d sc res a (l.drop i)) ⟨n,by grind[CR,Mem.set_eq,Mem.sub.refl],U,hn1,rfl⟩ ?_;rintro i b' c' V1 J hi ⟨a,G,ha0,ha1,N⟩ hJ;have r:=G.base D C;have f:=G.cell;have bad:∀{V2:Mem}(p e k:Int),CR V b t k V2->e≠0->AN d sc res n l=(p,e)->(xY (.tuple #[uI p,uI e])=xY (.tuple #[uI (placeT (AN d sc res n l)),uI (AN d sc res n l).2])/\∃X,CR V b t X V2/\((AN d sc res n l).2=0->X=(AN d sc res n l).1)):=λ{V2} p e k h1 h2 q=>by
  rw[q];unfold placeT;grind
 refine⟨λW=>?_,λhge=>?_⟩
 .obtain⟨x,hm,hx,I,hl,hpp,hz,o⟩:=(K.sub r).get W;have o:=S.row_get o;have H:=T x hm;obtain⟨hsh,hk1,hk2⟩:=okS_shape (Lq A x hm);rw[I,Lr,szS_eq]at ha1;rw[I,JN,stT_eq]at N;have hC:=CR.st (k:=a+1) G;have Q:=hC.base D C;have cs:=c299 (h.sub Q) hv (hs.sub Q) Y (H.sub Q) hsh (res:=res);rw[S.v_eq]at cs;refine⟨hpp,hz,W,_,_,_,_,_,o,by simp,_,AD f,by simp,_,AD f,⟨by omega,by omega⟩,by simp,Am.cell f (cs.call ⟨_,rfl,λh0=>?_,λh0=>?_⟩)⟩
  .have e1:¬(Ec d sc res x.op x.s x.es≠0):=λh=>h h0;rw[if_neg e1]at N;intro b1 hb1;have M:b1≠b:=λe=>by grind[Mem.set_same]
   have hC2:CR V b t (a+1) _:=Mem.sub.new hC hb1 (.cells #[.slice x.ll.p x.ll.n x.ll.c,.slice x.xl.p x.xl.n x.xl.c] 70 (0,0));have w:=Hg d sc res (a+1) x.ls;refine Dk 2 (λj V2=>∃k,CR V b t k V2/\V2 b1=some (.cells #[.slice x.ll.p x.ll.n x.ll.c,.slice x.xl.p x.xl.n x.xl.c] 70 (0,0))/\((j=0/\k=a+1)∨(j=1/\(AN d sc res (a+1) x.ls).2=0/\k=(AN d sc res (a+1) x.ls).1)∨(j=2/\(AN d sc res (a+1) x.ls).2=0/\(AN d sc res (AN d sc res (a+1) x.ls).1 x.xs).2=0/\k=(AN d sc res (AN d sc res (a+1) x.ls).1 x.xs).1))) ⟨a+1,hC2,Mem.set_same _ _ _,.inl ⟨rfl,rfl⟩⟩ ?_;rintro j b'' c'' V2 J1 hj ⟨k,g,z,F⟩ L;have Z:=g.base D C;refine⟨λhj2=>?_,λhj2=>?_⟩
   .rcases F with⟨rfl,rfl⟩|⟨rfl,y,rfl⟩|⟨rfl,-⟩
    .refine⟨by simp[Aa],by omega,by omega,x.ll,Aj z 0 1 (by simp),Tri.mono ((hk x hm).1 V2 x.ll (a+1) (dd+1) Z g.cell H.lRows H.lOk hk1 (by omega) (by omega)) ?_⟩;rintro _ V3 ⟨rfl,X,u,P⟩;refine⟨_,_,rfl,λq=>?_,λq=>?_⟩
     .have:=P q;subst this;exact⟨⟨by omega,by omega⟩,L (by omega) _ _ _ ⟨_,g.call u,u.other z M,.inr (.inl ⟨rfl,q,rfl⟩)⟩⟩
     .have O:(AN d sc res (a+1) x.ls).2≠0:=q;rw[if_pos O,if_pos O]at N;refine bad _ _ _ (g.call u) O ?_;grind
    .have O:¬(AN d sc res (a+1) x.ls).2≠0:=λh=>h y;rw[if_neg O]at N;have w:=w y;refine⟨by simp[Aa],by omega,by omega,x.xl,Aj z 1 1 (by simp),Tri.mono ((hk x hm).2 V2 x.xl _ (dd+1) Z g.cell H.xRows H.xOk hk2 (by omega) (by omega)) ?_⟩;rintro _ V3 ⟨rfl,X,u,P⟩;refine⟨_,_,rfl,λq=>?_,λq=>?_⟩
     .have:=P q;subst this;exact⟨⟨by omega,by omega⟩,L (by omega) _ _ _ ⟨_,g.call u,u.other z M,.inr (.inr ⟨rfl,y,q,rfl⟩)⟩⟩
     .have B:(AN d sc res (AN d sc res (a+1) x.ls).1 x.xs).2≠0:=q;rw[if_pos B]at N;refine bad _ _ _ (g.call u) B ?_;grind
    .omega
   .rcases F with⟨rfl,-⟩|⟨rfl,-⟩|⟨rfl,y,R,rfl⟩;.omega
    .omega
    .have O:¬(AN d sc res (a+1) x.ls).2≠0:=λh=>h y;have B:¬(AN d sc res (AN d sc res (a+1) x.ls).1 x.xs).2≠0:=λh=>h R;rw[if_neg O,if_neg B]at N;have w:=w y;have hn2':=Hg d sc res _ x.xs R;exact⟨(K.sub r).succ W,hJ hl _ _ _ ⟨_,g,by omega,by omega,N⟩⟩
  grind
 .rw[((K.sub r).done hge).1,stsT_nil]at N;rw[N];exact⟨rfl,a,G,λ_=>rfl⟩
theorem impStmts{V0:Mem}{b t:Nat}{res:KB}(f:V0 b=none)(h:BL V0 c d)(hv:Ef d)(u:EP V0 m sc)(g:sc.body=true)(l:XK):ImpS V0 d c m sc res b t l:=by
 have w:∀s:S,ImpS V0 d c m sc res b t s.ls/\ImpS V0 d c m sc res b t s.xs:=by
  intro s;induction s using S.ind with
  |h s z y=>grind[impStep]
 grind[impStep]
theorem c290{b t:Nat}{f x:Fld}(h:V b=some (.cells #[uS f.name,uS f.ty] t (0,0))):PP 290 [x.v,pv b] V (uB (decide (x.name=f.name))):=by
 refine x290 ?_;exact⟨by simp,_,Aj h 0 1 (by simp),rfl,rfl⟩
theorem c226(h:BL V c d){l:Sl}{xs:XX}(H:Ae V l 2 (xs.map Fld.row)):PP 226 [.pointer c,l.v] V (uI (Cu d xs)):=by
 refine A6.mk (x226 ?_);unfold Cu;generalize O:(λi f=>if BO d xs i f≠0 then some (BO d xs i f)else none)=fn;refine AG xs.length (λk V1=>V.sub V1/\Aq fn 0 xs=Aq fn k (xs.drop k)) ⟨Mem.sub.refl _,rfl⟩ ?_;rintro k b V1 J A ⟨G,y⟩ N;have u:=H.sub G;refine⟨λj=>?_,λj=>?_⟩
 .obtain⟨g,Z,Y,r,q,o,a,w⟩:=u.get j;rw[r]at y;have I:=u.cap;refine⟨o,a,j,_,_,w,⟨by omega,by omega,by omega⟩,λb1 s=>?_⟩;have W:=Mem.sub_new s (.cells #[uS g.name,uS g.ty] 97 (0,0));have z:=G.trans W;simp only[F8,sub0];have key:∀X n:Int,X=n->(xY (uI n)=xY (uI X)/\V.sub (V1.set b1 (.cells #[uS g.name,uS g.ty] 97 (0,0)))):=λX n h=>by simp_all
  refine(IJ (l:=⟨l.p,k,l.c⟩) (first:=[]) (caps:=[pv b1]) (Ae.pre (H.sub z) (by omega)) Tryz.call290 (λx=>decide (x.name=g.name)) (λx _=>c290 (f:=g) Av)).call ⟨_,rfl,λQ=>?_,λQ=>⟨by simp[Aa],_,Aj Av 1 1 (by simp),(c229 (h.sub z)).call ⟨_,rfl,λP=>?_,λP=>?_⟩⟩⟩
  .have e:BO d xs k g=10:=by grind[BO]
   rw[y,Bi (b:=10) (by grind)];grind
  .have e:BO d xs k g=0:=by grind[BO]
   exact⟨u.succ j,N q _ _ ⟨z,by rw[y,BH (by grind)]⟩⟩
  .have e:BO d xs k g=9:=by grind[BO]
   rw[y,Bi (b:=9) (by grind)];grind
 .rw[(u.done j).1,Aq]at y;simp_all
def FltAt(V:Mem)(p:XI)(o:XT):Prop:=match o with
 |none=>p=none
 |some r=>∃b t,p=some ⟨b,0,none⟩/\V b=some (.cells #[uS r.1,uI r.2.1,uI r.2.2] t (0,0))
def FltC(f:FuncId)(args:XV)(V:Mem)(o:XT):Prop:=Tri xV f args.toArray V λr V'=>∃p,r=.returned (.pointer p)/\V.sub V'/\FltAt V' p o
theorem c242(h:BL V c d)(hv:Ef d)(z:EP V m sc){e:E}(y:E.Ok V e)(f:BF 1 e=true){s t:KB}:
  FltC 242 [sV c m sc,uS s,e.v,uS t] V (if Ba d sc e t≠0 then some (s,-1,Ba d sc e t)else none):=by
 refine x242 ?_;unfold Ba;refine(impExpr h hv z e y 1 f V (Mem.sub.refl _)).call ⟨_,_,rfl,λg=>⟨λu=>?_,λu=>λb w=>?_⟩,λg=>λb w=>?_⟩;.simp only[g,u,ne_eq,not_true_eq_false,if_false,if_true];exact⟨_,rfl,Mem.sub.refl _,rfl⟩
 .simp only[g,u,ne_eq,not_true_eq_false,if_false];exact⟨_,rfl,Mem.sub_new w _,b,_,rfl,Mem.set_same _ _ _⟩
 .simp only[g,ne_eq,not_false_eq_true,if_true];exact⟨_,rfl,Mem.sub_new w _,b,_,rfl,Mem.set_same _ _ _⟩
end
end Go.Proofs
