/- Part 7: no statement of the seat is proved here. -/
import Derived.Test.YtgdmkmfchcflpaaGreatDoorPe06
set_option linter.unusedVariables false
set_option linter.unusedSimpArgs false
open Go.Proofs.Tryz renaming prog->xE,underlying208->xV,underlying9->xW
open Go.Ending renaming returned->xI
open List renaming mem_of_getElem?->xQ,getElem?_eq_some_iff->yv,drop_eq_getElem_cons->xR,any_eq_not_all_not->xS,all_eq_true->z6,mem_iff_getElem->yd,getElem?_eq_getElem->yu,length_append->zw,length_cons->zy,findIdx?_eq_some_iff_getElem->yg,getElem_mem->yo,not_mem_nil->xC,mem_cons->yD,mem_of_find?_eq_some->xU
open Bool renaming false_and->xT,and_eq_true->zC
open Go.Value renaming map->zz
open ByteArray renaming empty->zA
namespace Go.Proofs
open Go Go.Sx
attribute [local irreducible] Go.Sx.Tri
mutual
def CA(d:Int):E->Bool|.mk op n s _ k=>decide (d<=60)&&Dx op n s k.length&&okEs (d+1) k
def okEs(d:Int):List E->Bool|[]=>true|x::xs=>CA d x&&okEs d xs
end
mutual
def FS:E->Nat|.mk _ _ _ _ k=>1+szEs k
def szEs:List E->Nat|[]=>0|x::xs=>FS x+szEs xs
end
mutual
def vE(left d:Int):E->Bool×Int|.mk op n s _ k=>if 0<=left-1/\d<=60/\Dx op n s k.length=true then DC (left-1) (d+1) k else(false,left-1)
def DC(left d:Int):List E->Bool×Int|[]=>(true,left)|x::xs=>if(vE left d x).1=true then DC (vE left d x).2 d xs else(false,(vE left d x).2)
end
def CE(e:E):Bool:=decide (CA 1 e=true/\FS e<=1000)
mutual
theorem vE_ok:∀(left d:Int)(e:E),((vE left d e).1=true↔CA d e=true/\(FS e:Int)<=left)/\((vE left d e).1=true->(vE left d e).2=left-FS e)
 |left,d,.mk op n s l k=>by
  have h:=vEs_ok (left-1) (d+1) k;grind[vE,CA,FS]
theorem vEs_ok:∀(left d:Int)(k:List E),0<=left->((DC left d k).1=true↔okEs d k=true/\(szEs k:Int)<=left)/\((DC left d k).1=true->(DC left d k).2=left-szEs k)
 |left,d,[],h=>by simp[DC,okEs,szEs,h]
 |left,d,x::xs,h=>by
  have g:=vE_ok left d x;have f:=vEs_ok (vE left d x).2 d xs;grind[DC,okEs,szEs]
end
theorem validE_v(e:E):(vE 1000 1 e).1=CE e:=by
 grind[vE_ok,CE]
theorem vE_bound{left d:Int}{e:E}(h:(vE left d e).1=true):0<=(vE left d e).2/\(vE left d e).2<=left:=by
 grind[vE_ok]
theorem vE_eq(left d:Int)(e:E):vE left d e=if 0<=left-1/\d<=60/\Dx e.op e.n e.s e.k.length=true then DC (left-1) (d+1) e.k else(false,left-1):=by
 cases e;unfold vE;rfl
theorem vEs_cons(left d:Int)(x:E)(xs:List E):DC left d (x::xs)=if(vE left d x).1=true then DC (vE left d x).2 d xs else(false,(vE left d x).2):=by rw[DC]
theorem vEs_nil(left d:Int):DC left d []=(true,left):=by rw[DC]
theorem c224{V:Mem}{b t:Nat}{n:Int}(h:V b=some (cell (.int .i64 n) t))(g:-1000<=n)(f:n<=100000):
  Tri xE 224 #[pv b] V λe V'=>e=.returned (.bool (decide (0<=n-1)))/\V'=V.set b (cell (.int .i64 (n-1)) t):=by
 refine x224 ?_;refine⟨by simp,by simp,_,Al h,⟨by omega,by omega⟩,by simp,by simp,AQ.cell h ⟨by simp,by simp,_,Al As,rfl,rfl⟩⟩
set_option maxRecDepth 10000 in
theorem c222{V0:Mem}[D:Tab V0]{b t:Nat}(w:V0 b=none):∀e:E,E.Ok V0 e->∀(V:Mem),V0.sub V->∀left d:Int,V b=some (cell (.int .i64 left) t)->0<=left->left<=1000->0<=d->d<=61 ->
    Tri xE 222 #[e.v,.int .i64 d,pv b] V λr V'=>r=.returned (.bool (vE left d e).1)/\V'=V.set b (cell (.int .i64 (vE left d e).2) t):=by
  intro e;induction e using E.ind with
  |h e K=>
  intro X V G left d S T U hd0 hd;have B:=X.rows;have hn:=B.n_eq;refine Tri.less (x222 ?_);refine c249.call ⟨_,_,rfl,Tri.mono (c224 S (by omega) (by omega)) ?_⟩;rintro _ _ ⟨rfl,rfl⟩;refine⟨_,rfl,?_⟩;have u:¬(0<=left-1/\d<=60/\Dx e.op e.n e.s e.k.length=true)->∃W,(xI (.bool false)=xI (.bool (vE left d e).1)/\W=V.set b (cell (.int .i64 (vE left d e).2) t))/\W.sub (V.set b (cell (.int .i64 (left-1)) t)):=by
    intro h;rw[vE_eq,if_neg h];exact⟨_,⟨rfl,rfl⟩,Mem.sub.refl _⟩
  have f:(0<=left-1/\d<=60/\Dx e.op e.n e.s e.k.length=true)->Af [(.int .i64 d)] 3 (V.set b (cell (.int .i64 (left-1)) t)) fun N V4 =>
        Af [(pv b)] 247 V4 λZ V5=>
        Tri xE 226 #[(.slice e.l.p e.l.n e.l.c),(.func (.func 251) #[] #[(.pointer (Aa N 0)),(.pointer (Aa Z 0))])] V5 λr V6=>∃o:Bool,r=.returned (.bool o)/\
        ∃W,(xI (.bool (!o))=xI (.bool (vE left d e).1)/\W=V.set b (cell (.int .i64 (vE left d e).2) t))/\W.sub V6:=by
    intro h b1 z b2 y;rw[vE_eq,if_pos h];have n1:b≠b1:=λe=>by grind[Mem.set_same]
    have n2:b1≠b2:=λe=>by grind[Mem.set_same]
    have n3:b≠b2:=λe=>by grind[Mem.set_ne,Mem.set_same]
    rw[Mem.set_ne (λe=>n1 e.symm)]at z;rw[Mem.set_ne (λe=>n2 e.symm),Mem.set_ne (λe=>n3 e.symm)]at y;have v1:V0 b1=none:=by cases Y:V0 b1 with
      |none=>rfl
      |some x=>rw[G _ _ Y]at z;cases z
    have v2:V0 b2=none:=by cases Y:V0 b2 with
      |none=>rfl
      |some x=>rw[G _ _ Y]at y;cases y
    let M:Int->Mem:=λg=>((V.set b (cell (.int .i64 g) t)).set b1 (cell (.int .i64 d) 3)).set b2 (cell (pv b) 247);have C:∀g,V0.sub (M g):=λg=>((G.set w _).set v1 _).set v2 _;have Q:∀g,M g b=some (cell (.int .i64 g) t):=λg=>by grind[Mem.set_ne,Mem.set_same]
    have P:∀g,M g b1=some (cell (.int .i64 d) 3):=λg=>by grind[Mem.set_ne,Mem.set_same]
    have O:∀g,M g b2=some (cell (pv b) 247):=λg=>by grind[Mem.set_same]
    have hMs:∀g j,(M g).set b (cell (.int .i64 j) t)=M j:=λg j=>by
      grind[Mem.set_comm,Mem.set_set]
    have hW:∀g,(V.set b (cell (.int .i64 g) t)).sub (M g):=λg=>by
      refine((Mem.sub.refl _).set ?_ _).set ?_ _;· grind[Mem.set_ne]
      grind[Mem.set_ne]
    refine Tri.mono (g226 (l:=e.l) (xs:=e.k) (first:=[]) (caps:=[pv b1,pv b2]) Tryz.call251
      (λi V1=>∃g,V1=M g/\0<=g/\g<=1000/\DC (left-1) (d+1) e.k=DC g (d+1) (e.k.drop i)) (λi V1=>∃g,V1=M g/\DC (left-1) (d+1) e.k=(false,g)) ?_ ⟨left-1,rfl,by omega,by omega,rfl⟩ ?_) ?_
    · rintro i _ ⟨g,rfl,-⟩;exact B.sub (C g)
    · rintro i x _ A ⟨g,rfl,a,H,q⟩;have hm:=xQ A;have I:=(yv.1 A).1;have F:e.k.drop i=x::e.k.drop (i+1):=by rw[xR I,(yv.1 A).2]
      rw[F,vEs_cons]at q;refine x251 ?_;refine⟨_,Al (P g),⟨by omega,by omega⟩,_,Al (O g),Tri.mono (K x hm (X.kids x hm) (M g) (C g) g (d+1) (Q g) a H (by omega) (by omega)) ?_⟩;rintro _ _ ⟨rfl,rfl⟩;refine⟨_,rfl,_,rfl,λw=>?_,λw=>?_⟩;· simp_all
      · have w:(vE g (d+1) x).1=true:=by simpa using w
        have:=vE_bound w;grind
    · rintro _ _ (⟨i,rfl,g,rfl,q⟩|⟨rfl,g,rfl,a,H,q⟩);· simp_all
      · rw[List.drop_length,vEs_nil]at q;exact⟨_,rfl,_,⟨by rw[q];rfl,rfl⟩,by rw[q];exact hW g⟩
  have key:Dx e.op e.n e.s e.k.length=(decide (Cc e.op≠-2/\(0<=Cc e.op->(e.k.length:Int)=Cc e.op)/\(Cc e.op=-1->(e.k.length:Int)<=6))&&(EH e.op e.s&&numB e.op e.n)):=by grind[Dx]
  have pr:-2<=Cc e.op:=by unfold Cc;grind
  rw[key]at u f;have L:(e.k.length:Int)=(e.l.n:Int):=by rw[hn]
  rw[L]at u f;generalize hkn:(e.l.n:Int)=kn at u f⊢;generalize hpn:Cc e.op=pn at u f pr⊢;generalize R:(EH e.op e.s&&numB e.op e.n)=nm at u f⊢;haveI:Tab (V.set b (cell (.int .i64 (left-1)) t)):=Tab.sub D (G.set w _);refine⟨λh8=>⟨λJ=>u λh=>absurd h.2.1 (Int.not_le.2 J),λJ=>⟨λh7=>(c250 (e:=e)).call ⟨nm,by rw[R],λh9=>?_,λh9=>u ?_⟩,λh7=>u ?_⟩⟩,λh8=>u ?_⟩;· grind
  · simp_all
  · simp_all
  grind
theorem c180{V:Mem}[Tab V]{e:E}(h:E.Ok V e):PP 180 [e.v] V (.bool (CE e)):=by
 refine AP.mk (x180 ?_);intro b g;refine Tri.mono (c222 g e h _ (Mem.sub_new g _) 1000 1 As (by omega) (by omega) (by omega) (by omega)) ?_;rintro _ _ ⟨rfl,rfl⟩;rw[validE_v,Mem.set_set];exact⟨_,rfl,rfl,Mem.sub_new g _⟩
def Kp:List E->Int|[]=>0|e::_=>e.op
def G9(op:Int)(s:KB)(es:List E)(g h:Int):Bool:=
 if op=1 then BW s&&decide ((es.length:Int)=1/\g=0/\h=0)else if op=2 then BW s&&decide ((es.length:Int)=2/\g=0/\h=0)else if op=3 then decide (s=Ac []/\(es.length:Int)=1)
 else if op=4 then decide (s=Ac []/\(es.length:Int)=1/\h=0)else if op=5 then decide (s=Ac []/\(es.length:Int)<=1/\g=0/\h=0)else if op=6 then decide (s=Ac []/\(es.length:Int)=1/\Kp es=7/\g=0/\h=0)else false
def Dl(op:Int)(s:KB)(es:List E)(h g:Int):Bool:=G9 op s es h g&&es.all CE
theorem I2{V:Mem}{s:S}(h:S.Ok V s):(s.es=[]/\s.el.n=0)∨∃g r,s.es=g::r/\0<s.el.n/\¬(s.el.p=none)/\¬(Aa s.el.p 0=none)/\V.rowp s.el.p 0 4=some [.int .i64 g.op,.int .i64 g.n,.string g.s,.slice g.l.p g.l.n g.l.c]:=by
 have w:=h.eRows;have o:=w.n_eq;cases f:s.es with
 |nil=>simp_all
 |cons g r=>
  have i:((0:Nat):Int)<(s.el.n:Int):=by simp_all
  obtain⟨x,hm,u,q,H,z,J,y⟩:=w.get i;rw[f]at u;simp only[List.getElem?_cons_zero,Option.some.injEq]at u;subst u;refine .inr ⟨g,r,rfl,by omega,z,λe=>?_,?_⟩
  ·cases j:s.el.p with
   |none=>exact z j
   |some a=>rw[j]at e;cases e
  grind[E.row,vI,vS,Sl.v]
mutual
def Fm(d:Int):S->Bool|.mk op s _ es _ ls _ xs=>decide (d<=60)&&Dl op s es ls.length xs.length&&CW (d+1) ls&&CW (d+1) xs
def CW(d:Int):List S->Bool|[]=>true|x::xs=>Fm d x&&CW d xs
end
mutual
def Er:S->Nat|.mk _ _ _ _ _ ls _ xs=>1+Cj ls+Cj xs
def Cj:List S->Nat|[]=>0|x::xs=>Er x+Cj xs
end
def gd{α:Type}(d left:Int)(l:List α)(r:Bool×Int):Bool×Int:=if 60<d/\l≠[]then(false,left)else r
mutual
def vStm(left d:Int):S->Bool×Int
 |.mk op s _ es _ ls _ xs=>
  if 0<=left-1/\Dl op s es ls.length xs.length=true then
    if(gd (d+1) (left-1) ls (CF (left-1) (d+1) ls)).1=true then
      gd (d+1) (gd (d+1) (left-1) ls (CF (left-1) (d+1) ls)).2 xs (CF (gd (d+1) (left-1) ls (CF (left-1) (d+1) ls)).2 (d+1) xs)
    else(false,(gd (d+1) (left-1) ls (CF (left-1) (d+1) ls)).2)
  else(false,left-1)
def CF(left d:Int):List S->Bool×Int|[]=>(true,left)|x::xs=>if(vStm left d x).1=true then CF (vStm left d x).2 d xs else(false,(vStm left d x).2)
end
def DD(left d:Int)(l:List S):Bool×Int:=gd d left l (CF left d l)
theorem vSs_cons(left d:Int)(x:S)(xs:List S):CF left d (x::xs)=if(vStm left d x).1=true then CF (vStm left d x).2 d xs else(false,(vStm left d x).2):=by rw[CF]
theorem vSs_nil(left d:Int):CF left d []=(true,left):=by rw[CF]
theorem vS_eq(left d:Int)(x:S):vStm left d x=if 0<=left-1/\Dl x.op x.s x.es x.ls.length x.xs.length=true then(if(DD (left-1) (d+1) x.ls).1=true then DD (DD (left-1) (d+1) x.ls).2 (d+1) x.xs else(false,(DD (left-1) (d+1) x.ls).2))else(false,left-1):=by
 cases x;unfold vStm;rfl
theorem okSs_deep{d:Int}(h:60<d):∀l:List S,l≠[]->CW d l=false
 |[],g=>absurd rfl g
 |.mk _ _ _ _ _ _ _ _::xs,_=>by
  grind[CW,Fm]
mutual
theorem vS_ok:∀(left d:Int)(e:S),d<=60->((vStm left d e).1=true↔Fm d e=true/\(Er e:Int)<=left)/\((vStm left d e).1=true->(vStm left d e).2=left-Er e)
 |left,d,.mk op s _ es _ ls _ xs,g=>by
  have f:=vSs_ok (left-1) (d+1) ls;have u:=λl=>vSs_ok l (d+1) xs;have w:=λh=>okSs_deep (d:=d+1) h ls;have z:=λh=>okSs_deep (d:=d+1) h xs;grind[vStm,Fm,Er,gd,Dl,CF,CW,Cj,absurd]
theorem vSs_ok:∀(left d:Int)(k:List S),0<=left->¬(60<d/\k≠[])->((CF left d k).1=true↔CW d k=true/\(Cj k:Int)<=left)/\((CF left d k).1=true->(CF left d k).2=left-Cj k)
 |left,d,[],h,_=>by simp[CF,CW,Cj,h]
 |left,d,x::xs,h,g=>by
  have f:=vS_ok left d x (by grind);have u:=vSs_ok (vStm left d x).2 d xs;grind[vSs_cons,CW,Cj]
end
def Gv(l:List S):Bool:=decide (CW 1 l=true/\Cj l<=200)
theorem validSs_v(l:List S):(DD 200 1 l).1=Gv l:=by
 have:=(vSs_ok 200 1 l (by omega) (by omega)).1;grind[Gv,DD,gd]
theorem S.v_eq(s:S):s.v=.agg #[.int .i64 s.op,.string s.s,.slice s.el.p s.el.n s.el.c,.slice s.ll.p s.ll.n s.ll.c,.slice s.xl.p s.xl.n s.xl.c]:=by unfold S.v;rw[S.row_eq];rfl
theorem S.row_get{V:Mem}{p:Option Addr}{i:Nat}{x:S}(h:V.rowp p i 5=some x.row):V.rowp p i 5=some [.int .i64 x.op,.string x.s,.slice x.el.p x.el.n x.el.c,.slice x.ll.p x.ll.n x.ll.c,.slice x.xl.p x.xl.n x.xl.c]:=by
 rw[h,S.row_eq];rfl
theorem Ak{p:Option Addr}{n:Nat}(h:¬(p=none)):¬(Aa p n=none):=by
 cases p with
 |none=>grind
 |some a=>intro e;cases e
set_option maxRecDepth 4000 in
theorem c225{V:Mem}[Tab V]{s:S}(h:S.Ok V s):PP 225 [s.v] V (.bool (G9 s.op s.s s.es s.ls.length s.xs.length)):=by
 have G:=I2 h;have f:=h.lRows.n_eq;have u:=h.xRows.n_eq;have w:=h.eRows.n_eq;rw[S.v_eq];refine x225 ?_;rw[<-f,<-u];generalize y:G9 s.op s.s s.es s.ll.n s.xl.n=X;have key:∀b:Bool,X=b->xI (.bool b)=xI (.bool X):=λn h=>by rw[h]
 unfold G9 at y;rw[<-w]at y;have i:(0:Int)<=(s.el.n:Int):=by omega
 have l:(0:Int)<=(s.ll.n:Int):=by omega
 have q:(0:Int)<=(s.xl.n:Int):=by omega
 generalize J:(s.el.n:Int)=ne at y i;generalize(s.ll.n:Int)=nl at y l;generalize(s.xl.n:Int)=nx at y q;rcases G with⟨j,o⟩|⟨e0,r,j,o,a,z,g⟩
 ·have:ne=0:=by omega
  subst this;clear f u w o
  repeat' (first|refine c140.call ⟨_,rfl,?_⟩|apply And.intro|intro _)
  all_goals first|rfl|(refine key _ ?_;clear key h j;grind)|(exfalso;clear key h j;grind)
 ·have e:Kp s.es=e0.op:=by rw[j];rfl
  rw[e]at y;have H:0<ne:=by omega
  clear f u w o
  repeat' (first|refine c140.call ⟨_,rfl,?_⟩|refine⟨_,_,_,_,g,?_⟩|exact a|exact z|exact H|apply And.intro|intro _)
  all_goals first|rfl|(refine key _ ?_;clear key h j g a z;grind)|(exfalso;clear key h j g a z;grind)|omega
theorem c227{V:Mem}[Tab V]{e:E}(h:E.Ok V e):PP 227 [e.v] V (.bool (!CE e)):=by
 refine x227 ?_;exact(c180 h).call ⟨_,rfl,rfl,rfl⟩
theorem vSl_bound{left d:Int}{l:List S}(f:0<=left)(h:(DD left d l).1=true):0<=(DD left d l).2/\(DD left d l).2<=left:=by
 unfold DD gd at h⊢;split at h;·cases h
 ·rename_i g;rw[if_neg g];grind[vSs_ok]
theorem vSl_eq{left d:Int}{l:List S}(h:¬(60<d/\l≠[])):DD left d l=CF left d l:=by grind[DD,gd]
section
variable{V0:Mem}{b t:Nat}
def Ha(V0:Mem)(b t:Nat)(l:List S):Prop:=∀(sl:Sl)(d left:Int)(V:Mem),Ad V0 sl 5 (l.map S.row)->(∀x∈l,S.Ok V0 x)->V0.sub V->V b=some (cell (.int .i64 left) t)->0<=left->left<=200->0<=d->d<=61->
 Tri xE 185 #[sl.v,.int .i64 d,pv b] V λr V'=>r=.returned (.bool (DD left d l).1)/\V'=V.set b (cell (.int .i64 (DD left d l).2) t)
theorem stP_step[R:Tab V0](C:V0 b=none){l:List S}(X:∀x∈l,Ha V0 b t x.ls/\Ha V0 b t x.xs):Ha V0 b t l:=by
 intro sl d left V Z W D w Q P E hd;have hn:=Z.n_eq;refine x185 ?_;have y:∀g,V0.sub (V.set b (cell (.int .i64 g) t)):=λg=>D.set C _;refine⟨λO=>⟨λa=>?_,λa=>?_⟩,λO=>?_⟩
 ·have:DD left d l=(false,left):=by
   grind[DD,gd]
  rw[this];exact⟨rfl,(Mem.set_eq w).symm⟩
 all_goals
  have A:¬(60<d/\l≠[]):=by
   first
   |exact λh=>a h.1
   |simp_all
  rw[vSl_eq A];refine Av l.length (λi V1=>∃g,V1=V.set b (cell (.int .i64 g) t)/\0<=g/\g<=200/\CF left d l=CF g d (l.drop i)) ⟨left,(Mem.set_eq w).symm,Q,P,rfl⟩ ?_;rintro i c _ J hi ⟨g,rfl,K,T,j⟩ U;refine⟨λr=>?_,λI=>?_⟩
  ·obtain⟨x,hm,hx,M,hl,hp,hz,z⟩:=(Z.sub (y g)).get r;have z:=S.row_get z;have f:=W x hm;rw[M,vSs_cons]at j;have u:=vS_eq g d x;have B:=λV (O:V0.sub V) (h:S.Ok V x)=>(haveI:Tab V:=Tab.sub R O;c225 h);rw[S.v_eq]at B;have H:∀n,vStm g d x=(false,n)->(xI (.bool false)=xI (.bool (CF left d l).1)/\V.set b (cell (.int .i64 n) t)=V.set b (cell (.int .i64 (CF left d l).2) t)):=λn h=>by
    rw[h]at j;rw[j];exact⟨rfl,rfl⟩
   refine⟨hp,hz,r,_,_,_,_,_,z,Tri.mono (c224 As (by omega) (by omega)) ?_⟩;rintro _ _ ⟨rfl,rfl⟩;rw[Mem.set_set];refine⟨_,rfl,λq=>(B _ (y _) (f.sub (y _))).call ⟨_,rfl,λF=>?_,λF=>?_⟩,λq=>?_⟩
   ·have q:0<=g-1:=of_decide_eq_true q;refine(c226 (first:=[]) (caps:=[]) (l:=x.el) (f.eRows.sub (y _)) Tryz.call227 (λe=>!CE e) (λe hm=>haveI:Tab (V.set b (cell (.int .i64 (g-1)) t)):=Tab.sub R (y (g-1));c227 ((f.eOk e hm).sub (y _)))).call ⟨_,rfl,λG=>?_,λG=>?_⟩
    ·have o:x.es.all CE=false:=by
      rw[xS]at G;simpa using G
     rw[if_neg (λh=>by have:=h.2;unfold Dl at this;rw[o,Bool.and_false]at this;cases this)]at u;exact H _ u
    ·have o:x.es.all CE=true:=by
      rw[xS]at G;simpa using G
     have L:Dl x.op x.s x.es x.ls.length x.xs.length=true:=by unfold Dl;rw[F,o];rfl
     rw[if_pos ⟨q,L⟩]at u;refine⟨⟨by omega,by omega⟩,Tri.mono ((X x hm).1 x.ll (d+1) (g-1) _ f.lRows f.lOk (y _) As q (by omega) (by omega) (by omega)) ?_⟩;rintro _ _ ⟨rfl,rfl⟩;rw[Mem.set_set];refine⟨_,rfl,λY=>⟨⟨by omega,by omega⟩,?_⟩,λY=>?_⟩
     ·rw[if_pos Y]at u;have b1:=vSl_bound q Y;refine Tri.mono ((X x hm).2 x.xl (d+1) _ _ f.xRows f.xOk (y _) As b1.1 (by omega) (by omega) (by omega)) ?_;rintro _ _ ⟨rfl,rfl⟩;rw[Mem.set_set];refine⟨_,rfl,λN=>?_,λN=>?_⟩
      ·have b2:=vSl_bound b1.1 N;rw[u,if_pos N]at j;exact⟨(Z.sub (y g)).succ r,U hl _ _ ⟨_,rfl,b2.1,by omega,j⟩⟩
      ·rw[<-u]at N⊢;exact H _ (Prod.ext (eq_false_of_ne_true N) rfl)
     ·rw[if_neg Y]at u;exact H _ u
   ·rw[if_neg (λh=>by have:=h.2;unfold Dl at this;rw[eq_false_of_ne_true F,xT]at this;cases this)]at u;exact H _ u
   ·rw[if_neg (λh=>q (decide_eq_true h.1))]at u;exact H _ u
  ·rw[((Z.sub (y g)).done I).1,vSs_nil]at j;rw[j];exact⟨rfl,rfl⟩
theorem stP_S[g:Tab V0](f:V0 b=none):∀s:S,Ha V0 b t s.ls/\Ha V0 b t s.xs:=by
 intro s;induction s using S.ind with
 |h s u w=>grind[stP_step]
theorem c185[g:Tab V0](h:V0 b=none)(l:List S):Ha V0 b t l:=stP_step h λx _=>stP_S h x
end
def AN{α:Type}(p:α->Bool)(xs:List α)(i:Nat):Prop:=∀j x,j<i->xs[j]?=some x->p x=true
theorem AN.zero{α:Type}(p:α->Bool)(xs:List α):AN p xs 0:=λ_ _ h=>absurd h (Nat.not_lt_zero _)
theorem AN.succ{α:Type}{p:α->Bool}{xs:List α}{i:Nat}{x:α}(h:AN p xs i)(w:xs[i]?=some x)(z:p x=true):AN p xs (i+1):=λj y g f=>by
 rcases Nat.lt_succ_iff_lt_or_eq.1 g with u|rfl;·exact h j y u f
 simp_all
theorem AN.all{α:Type}{p:α->Bool}{xs:List α}{i:Nat}(h:AN p xs i)(hi:xs.length<=i):xs.all p=true:=
 z6.2 λx g=>by
  obtain⟨j,f,rfl⟩:=yd.1 g;exact h j _ (by omega) (yu f)
theorem all_false{α:Type}{p:α->Bool}{xs:List α}{x:α}(h:x∈xs)(g:¬p x=true):xs.all p=false:=by
 grind
def AD:KB:=Ac [105,110,116]
def AR:KB:=Ac [98,111,111,108]
def typB(s:KB):Bool:=decide (s=AD)||decide (s=AR)||BW s
def openB(s:KB):Bool:=decide (s=Ac [])||BW s
def fldB(f:Fld):Bool:=BW f.name&&typB f.ty
def Dm(l:List Fld)(h:Int):Bool:=decide ((l.length:Int)<=h)&&l.all fldB
def EI(t:Ty):Bool:=BW t.name&&Dm t.fields 12
def D9(p:Pr):Bool:=BW p.name&&Dm p.params 6&&Dm p.locals 12&&(decide (p.result=Ac [])||typB p.result)&&Gv p.body
def Ea(m:Ms):Bool:=BW m.name&&BW m.ty&&decide (-1099511627776<=m.nil/\m.nil<=1099511627776)&&CE m.x
def FT(m:Iv):Bool:=BW m.name&&openB m.ty&&CE m.x
def FU(m:Po):Bool:=openB m.ty&&CE m.x
def FV(m:Bd):Bool:=BW m.proc&&CE m.x
def formB(d:Ds):Bool:=d.measures.all Ea&&d.invs.all FT&&d.pots.all FU&&d.bounds.all FV
def lensB(d:Ds):Bool:=decide ((d.measures.length:Int)<=12/\(d.invs.length:Int)<=12/\(d.pots.length:Int)<=12/\(d.bounds.length:Int)<=12)
def BX(d:Ds):Bool:=BW d.name&&decide ((d.types.length:Int)<=12)&&Dm d.globals 8&&decide ((d.procs.length:Int)<=40)&&lensB d&&d.types.all EI&&d.procs.all D9&&formB d
theorem c179{V:Mem}[Tab V]{s:KB}:PP 179 [.string s] V (.bool (typB s)):=by
 refine x179 ?_;refine⟨λh=>?_,λh=>⟨λg=>?_,λg=>c140.call ⟨_,rfl,?_⟩⟩⟩<;>simp[typB,AD,AR, *]
theorem c181{V:Mem}[Tab V]{s:KB}:PP 181 [.string s] V (.bool (openB s)):=by
 refine x181 ?_;refine⟨λh=>?_,λh=>c140.call ⟨_,rfl,?_⟩⟩<;>simp[openB, *]
theorem c178{V:Mem}[Tab V]{f:Fld}:PP 178 [f.v] V (.bool (!fldB f)):=by
 refine x178 ?_;refine c140.call ⟨_,rfl,λh=>c179.call ⟨_,rfl,?_⟩,λh=>?_⟩<;>simp[fldB, *]
theorem c141{V:Mem}[Tab V]{l:Sl}{xs:List Fld}{n:Int}(g:Ad V l 2 (xs.map Fld.row)):PP 141 [l.v,.int .i64 n] V (.bool (Dm xs n)):=by
 refine x141 ?_;have u:=g.n_eq;refine⟨λh=>(c107 (first:=[]) (caps:=[]) g Tryz.call178 (λf=>!fldB f) λf _=>c178).call ⟨_,rfl,?_⟩,λh=>?_⟩;·grind[Dm]
 grind[Dm]
theorem c146{V:Mem}[Tab V]{p:Pr}(h:Pr.Ok V p):PP 146 [p.v] V (.bool (D9 p)):=by
  refine AP.mk (x146 ?_);have u:(Gv p.body=D9 p)->Af [(.int .i64 200)] 249 V fun w z =>
       Tri xE 185 #[(.slice p.bs.p p.bs.n p.bs.c),(.int .i64 1),(.pointer (Aa w 0))] z λe y=>∃g:Bool,e=.returned (.bool g)/\(xI (.bool g)=xI (.bool (D9 p))/\V.sub y):=λe b f=>by
    refine Tri.mono (c185 f p.body p.bs 1 200 _ h.body h.stmts (Mem.sub_new f _) As (by omega) (by omega) (by omega) (by omega)) ?_;rintro _ _ ⟨rfl,rfl⟩;rw[validSs_v,Mem.set_set,e];exact⟨_,rfl,rfl,Mem.sub_new f _⟩
  refine c140.call ⟨_,rfl,λj=>(c141 h.params).call ⟨_,rfl,λi=>(c141 h.locals).call ⟨_,rfl,λl=>⟨λr=>u ?_,λr=>c179.call ⟨_,rfl,λq=>u ?_,λq=>⟨?_,Mem.sub.refl _⟩⟩⟩,λl=>⟨?_,Mem.sub.refl _⟩⟩,λi=>⟨?_,Mem.sub.refl _⟩⟩,λj=>⟨?_,Mem.sub.refl _⟩⟩;all_goals simp[D9, *]
theorem c183{V:Mem}[Tab V]{b:Bd}(h:E.Ok V b.x):PP 183 [b.v] V (.bool (!FV b)):=by
 refine x183 ?_;refine c140.call ⟨_,rfl,λg=>(c180 h).call ⟨_,rfl,?_⟩,λg=>?_⟩<;>simp[FV, *]
theorem c143{V:Mem}[Tab V]{t:Ty}(h:Ty.Ok V t):PP 143 [t.v] V (.bool (!EI t)):=by
 refine x143 ?_;refine c140.call ⟨_,rfl,λg=>(c141 h.fields).call ⟨_,rfl,?_⟩,λg=>?_⟩<;>simp[EI, *]
theorem c145{V:Mem}[Tab V]{t:Pr}(h:Pr.Ok V t):PP 145 [t.v] V (.bool (!D9 t)):=by
 refine x145 ?_;exact(c146 h).call ⟨_,rfl,rfl,rfl⟩
theorem GenK.max4{P:Program}{V:Mem}{a b c d:Operand}{ty:Nat}{ts:Array TypeId}{vals:Operand->Value}{n1 n2 n3 n4:Int}(h:vals a=.int .i64 n1)(g:vals b=.int .i64 n2)(f:vals c=.int .i64 n3)(u:vals d=.int .i64 n4){q:Value->Mem->Prop}
  (z:∀m:Int,n1<=m->n2<=m->n3<=m->n4<=m->(m=n1∨m=n2∨m=n3∨m=n4)->q (.int .i64 m) V):GenK P (.call {callee:=.builtin .max,args:=#[a,b,c,d],argTypes:=ts}) ty vals V q:=by
 intro w hw;refine⟨_,w,V,?_,Aq.refl hw,z (max (max (max n1 n2) n3) n4) (by omega) (by omega) (by omega) (by omega) (by omega)⟩;unfold execOp;have e:∀x y:Int,(if y>x then y else x)=max x y:=λx y=>by split<;>omega
 simp only[resolve,invoke,builtin,Sem.run_bind,Sem.run_pure,Result.andThen_ok,List.map_toArray,List.map_cons,List.map_nil,h,g,f,u];simp[Builtin.max_,Builtin.max2,e]
theorem c142{V:Mem}[Tab V]{d:Ds}(h:Ds.Ok V d):PP 142 [d.v] V (.bool (lensB d&&formB d)):=by
 refine x142 ?_;have Z:=h.measures.n_eq;have Y:=h.invs.n_eq;have W:=h.pots.n_eq;have Q:=h.bounds.n_eq;generalize H:(lensB d&&formB d)=X;have key:∀b:Bool,X=b->(xI (.bool b)=xI (.bool X)/\V=V):=λn h=>by simp_all
 unfold formB lensB at H;refine GenK.max4 (n1:=d.ms.n) (n2:=d.is.n) (n3:=d.qs.n) (n4:=d.bs.n) rfl rfl rfl rfl λI M F L R le=>⟨_,rfl,λP=>key _ ?_,λP=>?_⟩;·rw[<-H,decide_eq_false (by omega)];rfl
 rw[decide_eq_true (by omega),Bool.true_and]at H;refine Av d.measures.length (λi V1=>V=V1/\AN Ea d.measures i) ⟨rfl,AN.zero _ _⟩ ?_;rintro i b V1 J N ⟨rfl,y⟩ j;refine⟨λg=>?_,λz=>?_⟩
 ·obtain⟨x,hm,l,r,q,o,a,u⟩:=h.measures.get g;have w:Ea x=false->X=false:=λh=>by grind
  refine⟨o,a,g,_,_,_,_,_,_,_,u,c140.call ⟨_,rfl,λG=>c140.call ⟨_,rfl,λe=>⟨λO=>key _ (w ?_),λO=>⟨λA=>key _ (w ?_),λA=>(c180 (h.measuresOk x hm).x).call ⟨_,rfl,λs=>⟨h.measures.succ g,j q _ _ ⟨rfl,y.succ l ?_⟩⟩,λs=>key _ (w ?_)⟩⟩⟩,λe=>key _ (w ?_)⟩,λG=>key _ (w ?_)⟩⟩
  ·have:¬(-1099511627776<=x.nil/\x.nil<=1099511627776):=by omega
   simp[Ea, *]
  ·have:¬(-1099511627776<=x.nil/\x.nil<=1099511627776):=by omega
   simp[Ea, *]
  ·have:(-1099511627776<=x.nil/\x.nil<=1099511627776):=by omega
   simp[Ea, *]
  all_goals simp[Ea, *]
 have B:=y.all (h.measures.done z).2;refine Av d.invs.length (λi V1=>V=V1/\AN FT d.invs i) ⟨rfl,AN.zero _ _⟩ ?_;rintro i b V1 J N ⟨rfl,y⟩ j;refine⟨λg=>?_,λz=>?_⟩
 ·obtain⟨x,hm,l,r,q,o,a,u⟩:=h.invs.get g;have w:FT x=false->X=false:=λh=>by rw[<-H,all_false hm (by rw[h];simp)];simp
  refine⟨o,a,g,_,_,_,_,_,_,u,c140.call ⟨_,rfl,λG=>c181.call ⟨_,rfl,λe=>(c180 (h.invsOk x hm)).call ⟨_,rfl,λs=>⟨h.invs.succ g,j q _ _ ⟨rfl,y.succ l ?_⟩⟩,λs=>key _ (w ?_)⟩,λe=>key _ (w ?_)⟩,λG=>key _ (w ?_)⟩⟩;all_goals simp[FT, *]
 have C:=y.all (h.invs.done z).2;refine Av d.pots.length (λi V1=>V=V1/\AN FU d.pots i) ⟨rfl,AN.zero _ _⟩ ?_;rintro i b V1 J N ⟨rfl,y⟩ j;refine⟨λg=>?_,λz=>?_⟩
 ·obtain⟨x,hm,l,r,q,o,a,u⟩:=h.pots.get g;have w:FU x=false->X=false:=λh=>by grind
  refine⟨o,a,g,_,_,_,_,_,u,c181.call ⟨_,rfl,λe=>(c180 (h.potsOk x hm)).call ⟨_,rfl,λs=>⟨h.pots.succ g,j q _ _ ⟨rfl,y.succ l ?_⟩⟩,λs=>key _ (w ?_)⟩,λe=>key _ (w ?_)⟩⟩;all_goals simp[FU, *]
 have D:=y.all (h.pots.done z).2;refine(c182 (first:=[]) (caps:=[]) h.bounds Tryz.call183 (λf=>!FV f) λf hm=>c183 (h.boundsOk f hm)).call ⟨_,rfl,key _ ?_⟩;simp_all[xS]
theorem c103{V:Mem}[Tab V]{d:Ds}(h:Ds.Ok V d):PP 103 [d.v] V (.bool (BX d)):=by
 refine x103 ?_;have l:=h.types.n_eq;have n6:=h.procs.n_eq;generalize g:BX d=X;have key:∀b:Bool,X=b->(xI (.bool b)=xI (.bool X)/\V=V):=λn h=>by simp_all
 unfold BX at g;refine c140.call ⟨_,rfl,λu=>⟨λw=>key _ ?_,λw=>(c141 h.globals).call ⟨_,rfl,λz=>⟨λy=>key _ ?_,λy=>(c142 h).call ⟨_,rfl,λj=>(c111 (first:=[]) (caps:=[]) h.types Tryz.call143 (λf=>!EI f) λf hm=>c143 (h.typesOk f hm)).call ⟨_,rfl,λi=>key _ ?_,λi=>
   (c144 (first:=[]) (caps:=[]) h.procs Tryz.call145 (λf=>!D9 f) λf hm=>c145 (h.procsOk f hm)).call ⟨_,rfl,key _ ?_⟩⟩,λj=>key _ ?_⟩⟩,λz=>key _ ?_⟩⟩,λu=>key _ ?_⟩
 ·grind
 ·grind
 ·grind[xS,EI]
 ·grind
 ·grind
 ·simp_all
 simp_all
end Go.Proofs
namespace Go.Proofs
open Go Go.Sx
def sNil:KB:=Ac [110,105,108]
def sE:KB:=Ac []
def Ck(d:Ds)(s:KB):Bool:=d.types.any λt=>decide (t.name=s)
def Cd(d:Ds)(s:KB):Bool:=decide (s=AD)||decide (s=AR)||Ck d s
def CL(d:Ds)(a b:KB):Bool:=decide (a=b)||(decide (a=sNil)&&Ck d b)
def CG:List Fld->KB->KB
 |[],_=>sE
 |f::l,s=>if f.name=s then f.ty else CG l s
def tyOf(d:Ds)(s:KB):Option Ty:=d.types.find? λt=>decide (t.name=s)
def BI(d:Ds)(s:KB):Option Pr:=d.procs.find? λt=>decide (t.name=s)
def meOf(d:Ds)(s:KB):Option Ms:=d.measures.find? λt=>decide (t.name=s)
def E5(d:Ds)(t name:KB):KB×Int:=
 match tyOf d t with
 |none=>(sE,11)
 |some ty=>if CG ty.fields name=sE then(sE,9)else(CG ty.fields name,0)
def E6(d:Ds):List KB->List Fld->Bool
 |a::l,f::fs=>CL d a f.ty&&E6 d l fs
 |_,_=>true
def Fo(d:Ds)(name:KB)(l:List KB):KB×Int:=
 match BI d name with
 |none=>(sE,9)
 |some p=>if l.length≠p.params.length then(sE,3)else if E6 d l p.params=true then(p.result,0)else(sE,11)
def Db(ok:Bool)(t:KB):KB×Int:=if ok=true then(t,0)else(sE,11)
structure Sc where
 vars:List Fld
 body:Bool
def Fp(d:Ds)(name:KB)(l:List KB):KB×Int:=
 match meOf d name with
 |none=>(sE,9)
 |some m=>if l.length≠1 then(sE,3)else Db (CL d (l.getD 0 sE) m.ty) AD
def Fq(d:Ds)(sc:Sc)(name:KB)(l:List KB):KB×Int:=
 if sc.body=true then(if(Fo d name l).2=0/\(Fo d name l).1=sE then(sE,11)else Fo d name l)else Fp d name l
def allT(l:List KB)(t:KB):Bool:=l.all λx=>decide (x=t)
def Fs(d:Ds)(sc:Sc)(op:Int)(s:KB)(l:List KB):KB×Int:=
 if op=1 then(AD,0)else if op=2 then(AR,0)else if op=3 then(sNil,0)
 else if op=4 then(if CG sc.vars s=sE then(sE,9)else(CG sc.vars s,0))
 else if op=5 then E5 d (l.getD 0 sE) s
 else if op=6 then(if sc.body=false then(sE,13)else if Ck d s=false then(sE,9)else(s,0))
 else if op=7 then Fq d sc s l
 else if op=14∨op=15 then Db (CL d (l.getD 0 sE) (l.getD 1 sE)||CL d (l.getD 1 sE) (l.getD 0 sE)) AR
 else if op=16∨op=17 then Db (allT l AD) AR
 else if op=18∨op=19∨op=20 then Db (allT l AR) AR
 else if op=21 then Db (decide (l.getD 0 sE=AR)&&(CL d (l.getD 1 sE) (l.getD 2 sE)||CL d (l.getD 2 sE) (l.getD 1 sE))) (if l.getD 1 sE=sNil then l.getD 2 sE else l.getD 1 sE)
 else Db (allT l AD) AD
mutual
def CX(d:Ds)(sc:Sc):E->KB×Int
 |.mk op _ s _ k=>if(partsT d sc [] k).2≠0 then(sE,(partsT d sc [] k).2)else Fs d sc op s (partsT d sc [] k).1
def partsT(d:Ds)(sc:Sc)(acc:List KB):List E->List KB×Int
 |[]=>(acc,0)
 |x::xs=>if(CX d sc x).2≠0 then([],(CX d sc x).2)else partsT d sc (acc++[(CX d sc x).1]) xs
end
theorem Kq(d:Ds)(sc:Sc)(e:E):CX d sc e=if(partsT d sc [] e.k).2≠0 then(sE,(partsT d sc [] e.k).2)else Fs d sc e.op e.s (partsT d sc [] e.k).1:=by
 cases e;rfl
theorem Hb(d:Ds)(sc:Sc)(acc:List KB)(x:E)(xs:List E):partsT d sc acc (x::xs)=if(CX d sc x).2≠0 then([],(CX d sc x).2)else partsT d sc (acc++[(CX d sc x).1]) xs:=by rw[partsT]
theorem HV(d:Ds)(sc:Sc)(acc:List KB):partsT d sc acc []=(acc,0):=by rw[partsT]
theorem Kr(d:Ds)(sc:Sc):∀(k:List E)(acc:List KB),(partsT d sc acc k).2=0->(partsT d sc acc k).1.length=acc.length+k.length
 |[],acc,_=>by rfl
 |x::xs,acc,h=>by
  rw[Hb]at h⊢;split at h;·omega
  ·rename_i g;rw[if_neg g,Kr d sc xs _ h,zw,zy,zy,List.length_nil];omega
def Cm(d:Ds)(p:Pr):Sc:=⟨p.params++p.locals++d.globals,true⟩
def sThisF:KB:=Ac [116,104,105,115]
def Bf(d:Ds)(t:KB):Sc:=⟨(if t=sE then[]else[⟨sThisF,t⟩])++d.globals,false⟩
def DP(d:Ds)(p:Pr):Sc:=⟨p.params++d.globals,false⟩
def Es(d:Ds)(sc:Sc)(result:KB)(op:Int)(s:KB)(es:List E):Int:=
 if op=6 then
  match es with
  |[]=>0
  |e::_=>if(partsT d sc [] e.k).2≠0 then(partsT d sc [] e.k).2 else(Fo d e.s (partsT d sc [] e.k).1).2
 else if(partsT d sc [] es).2≠0 then(partsT d sc [] es).2
 else if op=1 then(if CG sc.vars s=sE then 9 else if CL d ((partsT d sc [] es).1.getD 0 sE) (CG sc.vars s)=true then 0 else 11)
 else if op=2 then(if(E5 d ((partsT d sc [] es).1.getD 0 sE) s).2≠0 then(E5 d ((partsT d sc [] es).1.getD 0 sE) s).2 else if CL d ((partsT d sc [] es).1.getD 1 sE) (E5 d ((partsT d sc [] es).1.getD 0 sE) s).1=true then 0 else 11)
 else if op=3∨op=4 then(if(partsT d sc [] es).1.getD 0 sE=AR then 0 else 11)
 else if op=5 then(if(partsT d sc [] es).1.length=0 then(if result=sE then 0 else 11)else if result≠sE/\CL d ((partsT d sc [] es).1.getD 0 sE) result=true then 0 else 11)
 else 0
mutual
def Et(d:Ds)(sc:Sc)(result:KB)(n:Int):S->Int×Int
 |.mk op s _ es _ ls _ xs=>
  if Es d sc result op s es≠0 then(n,Es d sc result op s es)
  else if(Az d sc result (n+1) ls).2≠0 then Az d sc result (n+1) ls
  else Az d sc result (Az d sc result (n+1) ls).1 xs
def Az(d:Ds)(sc:Sc)(result:KB)(n:Int):List S->Int×Int
 |[]=>(n,0)
 |x::xs=>if(Et d sc result n x).2≠0 then Et d sc result n x else Az d sc result (Et d sc result n x).1 xs
end
theorem stT_eq(d:Ds)(sc:Sc)(result:KB)(n:Int)(x:S):Et d sc result n x=if Es d sc result x.op x.s x.es≠0 then(n,Es d sc result x.op x.s x.es)else if(Az d sc result (n+1) x.ls).2≠0 then Az d sc result (n+1) x.ls else Az d sc result (Az d sc result (n+1) x.ls).1 x.xs:=by
 cases x;unfold Et;rfl
theorem Ks(d:Ds)(sc:Sc)(result:KB)(n:Int)(x:S)(xs:List S):Az d sc result n (x::xs)=if(Et d sc result n x).2≠0 then Et d sc result n x else Az d sc result (Et d sc result n x).1 xs:=by rw[Az]
theorem stsT_nil(d:Ds)(sc:Sc)(result:KB)(n:Int):Az d sc result n []=(n,0):=by rw[Az]
def BY(d:Ds)(l:List Fld)(i:Nat)(f:Fld):Int:=if(l.take i).any (λg=>decide (g.name=f.name))=true then 10 else if Cd d f.ty=true then 0 else 9
def Aj{α β:Type}(f:Nat->α->Option β):Nat->List α->Option β
 |_,[]=>none
 |i,x::xs=>match f i x with|some b=>some b|none=>Aj f (i+1) xs
def CH(d:Ds)(l:List Fld):Int:=(Aj (λi f=>if BY d l i f≠0 then some (BY d l i f)else none) 0 l).getD 0
abbrev Flt:=KB×Int×Int
def types1(d:Ds):Option Flt:=Aj (λi t=>if(d.types.take i).any (λg=>decide (g.name=t.name))=true then some (t.name,-1,10)else none) 0 d.types
def types2(d:Ds):Option Flt:=Aj (λ_ t=>if CH d t.fields≠0 then some (t.name,-1,CH d t.fields)else none) 0 d.types
def types3(d:Ds):Option Flt:=Aj (λi f=>if BY d d.globals i f≠0 then some (f.name,-1,BY d d.globals i f)else none) 0 d.globals
def Gw(d:Ds):Option Flt:=(types1 d).or ((types2 d).or (types3 d))
def FW(d:Ds):Option Flt:=Aj (λi p=>if(d.procs.take i).any (λg=>decide (g.name=p.name))=true then some (p.name,-1,10)else if CH d (p.params++p.locals)≠0 then some (p.name,-1,CH d (p.params++p.locals))else if p.result≠sE/\Cd d p.result=false then some (p.name,-1,9)else none) 0 d.procs
def form1(d:Ds):Option Flt:=Aj (λi m=>if(d.measures.take i).any (λg=>decide (g.name=m.name))=true then some (m.name,-1,10)else if Ck d m.ty=false then some (m.name,-1,9)else none) 0 d.measures
def form2(d:Ds):Option Flt:=Aj (λi m=>if(d.invs.take i).any (λg=>decide (g.name=m.name))=true then some (m.name,-1,10)else if m.ty≠sE/\Ck d m.ty=false then some (m.name,-1,9)else none) 0 d.invs
def sPot:KB:=Ac [112,111,116,101,110,116,105,97,108]
def form3(d:Ds):Option Flt:=Aj (λ_ m=>if m.ty≠sE/\Ck d m.ty=false then some (sPot,-1,9)else none) 0 d.pots
def form4(d:Ds):Option Flt:=Aj (λi b=>if(BI d b.proc).isNone=true then some (b.proc,-1,9)else if(d.bounds.take i).any (λg=>decide (g.proc=b.proc))=true then some (b.proc,-1,10)else none) 0 d.bounds
def DE(d:Ds):Option Flt:=(form1 d).or ((form2 d).or ((form3 d).or (form4 d)))
def Ft(d:Ds):Option Flt:=Aj (λ_ p=>if(Az d (Cm d p) p.result 0 p.body).2≠0 then some (p.name,(Az d (Cm d p) p.result 0 p.body).1,(Az d (Cm d p) p.result 0 p.body).2)else none) 0 d.procs
def Ba(d:Ds)(sc:Sc)(e:E)(t:KB):Int:=if(CX d sc e).2≠0 then(CX d sc e).2 else if(CX d sc e).1=t then 0 else 11
def exp1(d:Ds):Option Flt:=Aj (λ_ m=>if Ba d (Bf d m.ty) m.x AD≠0 then some (m.name,-1,Ba d (Bf d m.ty) m.x AD)else none) 0 d.measures
def exp2(d:Ds):Option Flt:=Aj (λ_ m=>if Ba d (Bf d m.ty) m.x AR≠0 then some (m.name,-1,Ba d (Bf d m.ty) m.x AR)else none) 0 d.invs
def exp3(d:Ds):Option Flt:=Aj (λ_ m=>if Ba d (Bf d m.ty) m.x AD≠0 then some (sPot,-1,Ba d (Bf d m.ty) m.x AD)else none) 0 d.pots
def Gy:Pr:=⟨sE,⟨none,0,0⟩,[],sE,⟨none,0,0⟩,[],⟨none,0,0⟩,[]⟩
def exp4(d:Ds):Option Flt:=Aj (λ_ m=>if Ba d (DP d ((BI d m.proc).getD Gy)) m.x AD≠0 then some (m.proc,-1,Ba d (DP d ((BI d m.proc).getD Gy)) m.x AD)else none) 0 d.bounds
def EJ(d:Ds):Option Flt:=(exp1 d).or ((exp2 d).or ((exp3 d).or (exp4 d)))
def Dc(d:Ds):Option Flt:=(Gw d).or ((FW d).or ((DE d).or ((Ft d).or (EJ d))))
def fltR(o:Option Flt):Flt:=o.getD (sE,0,0)
end Go.Proofs
namespace Go.Proofs
open Go Go.Sx
attribute [local irreducible] Go.Sx.Tri
noncomputable def ti(t:Nat):TypeInfo:=(xE.info? t).getD default
section
variable{α:Type}
def AppP(t e sz:Nat)(row:α->List Value):Prop:=∀{V0 V:Mem}{ty:Nat}{x y:Operand}{vals:Operand->Value}{s u:Sl}{xs ys:List α}(f:vals x=.slice s.p s.n s.c)(w:vals y=.slice u.p u.n u.c)(own:Sx.Own V0 V e sz s (xs.flatMap row))(h:Ad V u sz (ys.map row))
 (g:xs.length+ys.length<=2147483648) {q:Value->Mem->Prop} (z:∀s' V',Sx.Own V0 V' e sz s' ((xs++ys).flatMap row)->q (.slice s'.p s'.n s'.c) V'),
 GenK xE (.call {callee:=.builtin .append,args:=#[x,y],argTypes:=#[t,t]}) ty vals V q
theorem appG{t e sz:Nat}{row:α->List Value}(f:xE.underlying t=some (.slice e))(hi:xE.info? e=some (ti e))(w:(ti e).zero=some ((ti e).zero.getD undef))(z:(ti e).size=sz)(j:((ti e).zero.getD undef).cells.size=sz)(i:decide ((ti e).bytes<=65536)=true)
  (l:0<sz) (n:∀x,(row x).length=sz) (r:∀x,∀u∈row x,u.oneCell'=true):AppP t e sz row:=by
 intro V0 V ty x y vals s u xs J o a own h g q H;exact GenK.appendS f hi w z j l (of_decide_eq_true i) o a own n h r g H
end
theorem app229:AppP 229 9 1 CD:=appG Tryz.underlying229 (by kernel_rfl) (by kernel_rfl) (by kernel_rfl) (by kernel_rfl) (by kernel_rfl) (by decide) (by intro _;rfl) λx u h=>by simp[CD,vS]at h;rw[h];rfl
theorem EK:AppP 23 108 2 Fld.row:=appG Tryz.underlying23 (by kernel_rfl) (by kernel_rfl) (by kernel_rfl) (by kernel_rfl) (by kernel_rfl) (by decide) (by intro _;rfl) λx u h=>by simp[Fld.row,vS]at h;rcases h with rfl|rfl<;>rfl
def CY{α:Type}(p:α->Bool)(xs:List α):Int:=match xs.findIdx? p with|some i=>(i:Int)|none=>-1
theorem Hc{α:Type}{p:α->Bool}{xs:List α}{i:Nat}{x:α}(h:AN (λy=>!p y) xs i)(g:xs[i]?=some x)(w:p x=true):CY p xs=i:=by
 have f:=(yv.1 g).1;have z:=(yv.1 g).2;have:xs.findIdx? p=some i:=yg.2 ⟨f,by grind,λj u=>by
  have:=h j _ u (yu (Nat.lt_trans u f));simpa using this⟩
 unfold CY;rw[this]
theorem Hd{α:Type}{p:α->Bool}{xs:List α}{i:Nat}(h:AN (λy=>!p y) xs i)(hi:xs.length<=i):CY p xs=-1:=by
 have:xs.findIdx? p=none:=List.findIdx?_eq_none_iff.2 λx g=>by
  obtain⟨j,f,rfl⟩:=yd.1 g;have:=h j _ (by omega) (yu f);simpa using this
 unfold CY;rw[this]
theorem Dn{α:Type}(p:α->Bool)(xs:List α):(CY p xs=-1/\xs.find? p=none/\xs.any p=false)∨∃(i:Nat)(x:α),CY p xs=i/\xs[i]?=some x/\xs.find? p=some x/\i<xs.length/\p x=true/\x∈xs/\xs.any p=true/\(xs.take i).any p=false:=by
 cases h:xs.findIdx? p with
 |none=>
  grind[CY]
 |some i=>
  obtain⟨g,f,w⟩:=yg.1 h;refine .inr ⟨i,xs[i],by unfold CY;rw[h],yu g,?_,g,f,yo _,List.any_eq_true.2 ⟨_,yo _,f⟩,?_⟩
  ·rw[List.find?_eq_some_iff_getElem];grind
  ·rw[List.any_eq_false];intro x u;obtain⟨j,z,rfl⟩:=yd.1 u;grind
theorem He{α:Type}{p:α->Bool}{xs:List α}{i:Nat}{x:α}(h:AN (λy=>!p y) xs i)(g:xs[i]?=some x)(f:p x=false):AN (λy=>!p y) xs (i+1):=h.succ g (by simp[f])
section
variable{V:Mem}{d:Ds}
theorem L9(fs:List Fld):E6 d [] fs=true:=by simp[E6]
theorem Eu{l:Sl}{xs:List KB}(w:Ad V l 1 (xs.map CD)){i:Nat}(hi:i<xs.length):¬(l.p=none)/\(i:Int)<(l.n:Int)/\V.rowp l.p i 1=some [.string (xs.getD i sE)]:=by
 have o:=w.n_eq;have g:(i:Int)<(l.n:Int):=by omega
 obtain⟨y,j,f,z,r,u,q,h⟩:=w.get g;rw[List.getD_eq_getElem?_getD,f];rw[Nat.mul_one]at h;exact⟨u,g,h⟩
end
theorem arity{op n:Int}{s:KB}{len:Int}(h:Dx op n s len=true):(op=5->len=1)/\(op=14∨op=15->len=2)/\(op=21->len=3)/\len<=6:=by
 grind[Dx,Cc]
theorem HW{d:Int}{e:E}(h:CA d e=true):Dx e.op e.n e.s e.k.length=true:=by
 cases e;unfold CA at h;rw[zC,zC]at h;exact h.1.2
theorem okEs_mem{d:Int}:∀{l:List E},okEs d l=true->∀x∈l,CA d x=true
 |[],_,x,g=>absurd g xC
 |y::l,h,x,g=>by
  unfold okEs at h;rw[zC]at h;rcases yD.1 g with rfl|g;·exact h.1
  ·exact okEs_mem h.2 x g
theorem I3{d:Int}{e:E}(h:CA d e=true):∀x∈e.k,CA (d+1) x=true:=by
 cases e;unfold CA at h;rw[zC]at h;exact okEs_mem h.2
theorem ownS{V0 V:Mem}{s:Sl}{l:List KB}(h:Own V0 V 9 1 s (l.flatMap CD)):Ad V s 1 (l.map CD):=h.rows (λ_=>rfl) (by decide)
theorem HX{V:Mem}{b:Nat}{s:KB}{t:Nat}(h:V b=some (.cells #[.string s] t (0,0))):Ad V ⟨some ⟨b,0,none⟩,1,1⟩ 1 ([s].map CD):=
 Ad.cells (xs:=[s]) (row:=CD) h rfl (λ_=>rfl) rfl (by simp)
theorem ownF{V0 V:Mem}{s:Sl}{l:List Fld}(h:Own V0 V 108 2 s (l.flatMap Fld.row)):Ad V s 2 (l.map Fld.row):=h.rows (λ_=>rfl) (by decide)
section
variable{V:Mem}{d:Ds}
def Small(d:Ds):Prop:=d.globals.length<=1000/\∀p∈d.procs,p.params.length<=1000/\p.locals.length<=1000
theorem Ma{op:Int}{s:KB}{es:List E}{w z:Int}(h:Dl op s es w z=true):(op=6->∃g,es=[g]/\g.op=7)/\(op=1∨op=3∨op=4->es.length=1)/\(op=2->es.length=2)/\(op=5->es.length<=1)/\es.length<=2/\(∀x∈es,CA 1 x=true):=by
 unfold Dl at h;rw[zC]at h;obtain⟨h,y⟩:=h;have f:∀x∈es,CA 1 x=true:=λx j=>by
  grind[CE]
 unfold G9 at h;have u:op=6->∃g,es=[g]/\g.op=7:=λu=>by
  subst u;simp only[show ¬((6:Int)=1)by decide,show ¬((6:Int)=2)by decide,show ¬((6:Int)=3)by decide,show ¬((6:Int)=4)by decide,show ¬((6:Int)=5)by decide,if_false,if_true,decide_eq_true_eq]at h
  match es,h with
  |[g],h=>exact⟨g,rfl,h.2.2.1⟩
  |[],h=>simp at h
  |_::_::_,h=>simp at h;omega
 grind
end
theorem okS_shape{d:Int}{x:S}(h:Fm d x=true):Dl x.op x.s x.es x.ls.length x.xs.length=true/\CW (d+1) x.ls=true/\CW (d+1) x.xs=true:=by
 cases x;unfold Fm at h;rw[zC,zC,zC]at h;exact⟨h.1.1.2,h.1.2,h.2⟩
theorem Kt{d:Int}:∀{l:List S},CW d l=true->∀x∈l,Fm d x=true
 |[],_,x,g=>absurd g xC
 |y::l,h,x,g=>by
  unfold CW at h;rw[zC]at h;rcases yD.1 g with rfl|g;·exact h.1
  ·exact Kt h.2 x g
theorem szS_eq(x:S):Er x=1+Cj x.ls+Cj x.xs:=by cases x;unfold Er;rfl
theorem Ku(x:S)(l:List S):Cj (x::l)=Er x+Cj l:=by rw[Cj]
mutual
theorem stT_n(d:Ds)(sc:Sc)(result:KB)(n:Int):∀x:S,(Et d sc result n x).2=0->(Et d sc result n x).1=n+Er x
 |.mk op s _ es _ ls _ xs=>by
  have h:=Gz d sc result (n+1) ls;have g:=Gz d sc result (Az d sc result (n+1) ls).1 xs;grind[Et,Er,absurd]
theorem Gz(d:Ds)(sc:Sc)(result:KB)(n:Int):∀l:List S,(Az d sc result n l).2=0->(Az d sc result n l).1=n+Cj l
 |[]=>by simp[Az,Cj]
 |x::xs=>by
  have h:=stT_n d sc result n x;have g:=Gz d sc result (Et d sc result n x).1 xs;rw[Ks,Ku];grind
end
theorem A7{α β:Type}{f:Nat->α->Option β}{i:Nat}{x:α}{xs:List α}{b:β}(h:f i x=some b):Aj f i (x::xs)=some b:=by unfold Aj;rw[h]
theorem Bm{α β:Type}{f:Nat->α->Option β}{i:Nat}{x:α}{xs:List α}(h:f i x=none):Aj f i (x::xs)=Aj f (i+1) xs:=by rw[Aj,h]
section
variable{V:Mem}{d:Ds}
def Bo(s:KB):Bool:=decide (s=AD)||decide (s=AR)
end
structure Hf (d:Ds):Prop where
 small:Small d
 ms:∀m∈d.measures,CA 1 m.x=true
 is:∀m∈d.invs,CA 1 m.x=true
 qs:∀m∈d.pots,CA 1 m.x=true
 bs:∀m∈d.bounds,CA 1 m.x=true
 ps:∀p∈d.procs,CW 1 p.body=true/\Cj p.body<=200
theorem I4{e:E}(h:CE e=true):CA 1 e=true:=by
 grind[CE]
theorem vparts{d:Ds}(h:BX d=true):Hf d:=by
 unfold BX formB at h;simp only[zC,decide_eq_true_eq,z6]at h;obtain⟨⟨⟨⟨⟨⟨⟨-,-⟩,u⟩,-⟩,-⟩,-⟩,w⟩,⟨⟨hm,z⟩,y⟩,j⟩:=h;have fl:∀{l:List Fld}{n:Int},Dm l n=true->n<=100->l.length<=1000:=λh i=>by
  grind[Dm]
 refine⟨⟨fl u (by omega),λp f=>?_⟩,λm g=>?_,λm g=>?_,λm g=>?_,λm g=>?_,λp f=>?_⟩;·grind[D9]
 ·simp_all[Ea,zC,I4]
 ·simp_all[FT,zC,I4]
 ·simp_all[FU,zC,I4]
 ·simp_all[FV,zC,I4]
 grind[D9,Gv]
theorem Hg{α β:Type}{f:Nat->α->Option β}{b:β}:∀{i:Nat}{xs:List α},Aj f i xs=some b->∃j x,x∈xs/\f j x=some b
 |_,[],h=>by cases h
 |i,x::xs,h=>by
  cases g:f i x with
  |some c=>grind[A7]
  |none=>
   rw[Bm g]at h;obtain⟨j,y,u,e⟩:=Hg h;grind
def Hh(r:Flt):Prop:=r.2.2≠0/\r.2.1=-1
theorem FX{P:Flt->Prop}{a b:Option Flt}(g:∀r,a=some r->P r)(f:∀r,b=some r->P r):∀r,a.or b=some r->P r:=λr h=>by
 cases a with
 |none=>simp_all
 |some x=>simp_all
theorem Kv(d:Ds):∀r,Gw d=some r->Hh r:=by
 refine FX (λr h=>?_) (FX (λr h=>?_) (λr h=>?_))<;>obtain⟨j,x,f,e⟩:=Hg h
 ·split at e;·cases e;exact⟨by simp,rfl⟩
  ·cases e
 ·split at e;·rename_i g;cases e;exact⟨g,rfl⟩
  ·cases e
 ·split at e;·rename_i g;cases e;exact⟨g,rfl⟩
  ·cases e
theorem Kw(d:Ds):∀r,FW d=some r->Hh r:=λr h=>by
 obtain⟨j,x,f,e⟩:=Hg h;split at e;·cases e;exact⟨by simp,rfl⟩
 ·split at e;·rename_i g;cases e;exact⟨g,rfl⟩
  ·split at e;·cases e;exact⟨by simp,rfl⟩
   ·cases e
theorem Kx(d:Ds):∀r,DE d=some r->Hh r:=by
 refine FX (λr h=>?_) (FX (λr h=>?_) (FX (λr h=>?_) (λr h=>?_)))<;>obtain⟨j,x,g,e⟩:=Hg h
 ·split at e;·cases e;exact⟨by simp,rfl⟩
  ·split at e;·cases e;exact⟨by simp,rfl⟩
   ·cases e
 ·split at e;·cases e;exact⟨by simp,rfl⟩
  ·split at e;·cases e;exact⟨by simp,rfl⟩
   ·cases e
 ·split at e;·cases e;exact⟨by simp,rfl⟩
  ·cases e
 ·split at e;·cases e;exact⟨by simp,rfl⟩
  ·split at e;·cases e;exact⟨by simp,rfl⟩
   ·cases e
theorem Ky(d:Ds):∀r,EJ d=some r->Hh r:=by
 refine FX (λr h=>?_) (FX (λr h=>?_) (FX (λr h=>?_) (λr h=>?_)))<;>obtain⟨j,x,f,e⟩:=Hg h<;>split at e;all_goals first|(cases e;done)|(rename_i g;cases e;exact⟨g,rfl⟩)
theorem Mb{d:Ds}(f:DE d=none):∀g∈d.bounds,∃p,BI d g.proc=some p:=by
 have z:form4 d=none:=by
  grind[DE,form4]
 have u:∀(l:List Bd)(i:Nat),Aj (λi b=>if(BI d b.proc).isNone=true then some ((b.proc,-1,9):Flt)else if(d.bounds.take i).any (λg=>decide (g.proc=b.proc))=true then some (b.proc,-1,10)else none) i l=none->∀g∈l,∃p,BI d g.proc=some p:=by
  intro l;induction l with
  |nil=>simp_all
  |cons y l r=>
   intro i h g w;cases j:BI d y.proc with
   |none=>simp_all[A7,if_pos]
   |some p=>
    rcases yD.1 w with rfl|w;·grind
    ·by_cases n:(d.bounds.take i).any (λg=>decide (g.proc=y.proc))=true;·simp_all[A7,if_neg,if_pos]
     ·rw[Bm ((if_neg (by rw[j];simp)).trans (if_neg n))]at h;grind
 exact u d.bounds 0 z
section
variable{V:Mem}{d:Ds}
def f3(o:Option Flt):Value:=.tuple #[.string (fltR o).1,.int .i64 (fltR o).2.1,.int .i64 (fltR o).2.2]
end
structure Bs (V:Mem)(c:Option Addr)(d:Ds):Prop where
 at_:∃cb mt mp t,c=some ⟨cb,0,none⟩/\V cb=some (.cells (d.row++[zz (some mt),zz (some mp)]).toArray t (0,0))/\A6 V mt (λk=>(tyOf d k).map Ty.v)/\A6 V mp (λk=>(BI d k).map Pr.v)
 ok:Ds.Ok V d
theorem Bs.sub{V V':Mem}{c:Option Addr}{d:Ds}(h:Bs V c d)(g:V.sub V'):Bs V' c d:=by
 obtain⟨cb,mt,mp,t,f,u,w,z⟩:=h.at_;exact⟨⟨cb,mt,mp,t,f,g _ _ u,w.sub g,z.sub g⟩,h.ok.sub g⟩
theorem Bs.nn{V:Mem}{c:Option Addr}{d:Ds}(h:Bs V c d):¬(c=none):=by
 obtain⟨cb,mt,mp,t,g,f,u,w⟩:=h.at_;rw[g];simp
theorem Bs.cell{V:Mem}{c:Option Addr}{d:Ds}(h:Bs V c d){i:Nat}{v:Value}(g:(d.row)[i]?=some v):V.rowp c (i*1) 1=some [v]:=by
 obtain⟨cb,mt,mp,t,f,u,z,y⟩:=h.at_;rw[f,Nat.mul_one];have j:=(yv.1 g).1;have l:d.row.length=8:=rfl;rw[At u i 1 (by simp;omega)];have:(d.row++[zz (some mt),zz (some mp)])[i]?=some v:=by grind
 have w:i<(d.row++[zz (some mt),zz (some mp)]).length:=by rw[zw];omega
 show some (((d.row++[zz (some mt),zz (some mp)]).drop i).take 1)=_;rw[xR w,(yv.1 this).2];rfl
theorem Bs.types{V:Mem}{c:Option Addr}{d:Ds}(h:Bs V c d):∃mt,V.rowp c 8 1=some [.map (some mt)]/\A6 V mt (λk=>(tyOf d k).map Ty.v):=by
 obtain⟨cb,mt,mp,t,g,f,u,w⟩:=h.at_;exact⟨mt,by rw[g,At f 8 1 (by simp[Ds.row])];rfl,u⟩
theorem Bs.procs{V:Mem}{c:Option Addr}{d:Ds}(h:Bs V c d):∃mt,V.rowp c 9 1=some [.map (some mt)]/\A6 V mt (λk=>(BI d k).map Pr.v):=by
 obtain⟨cb,mt,mp,t,g,f,w,u⟩:=h.at_;exact⟨mp,by rw[g,At f 9 1 (by simp[Ds.row])];rfl,u⟩
def BB(l:List Fld)(k:KB):Option KB:=(l.find? λf=>decide (f.name=k)).map (·.ty)
theorem Mc(l:List Fld)(k:KB):CG l k=(BB l k).getD sE:=by
 induction l with
 |nil=>rfl
 |cons f l h=>
  grind[BB,CG]
def NE(l:List Fld):Prop:=∀f∈l,f.ty≠sE
theorem NE.some{l:List Fld}(h:NE l){k t:KB}(g:BB l k=some t):t≠sE:=by
 unfold BB at g;obtain⟨f,u,rfl⟩:=Option.map_eq_some_iff.1 g;exact h f (xU u)
structure Ev (V:Mem)(m:Option Nat)(sc:Sc):Prop where
 at_:∃mb,m=some mb/\A6 V mb (λk=>(BB sc.vars k).map Value.string)
 ne:NE sc.vars
theorem Ev.sub{V V':Mem}{m:Option Nat}{sc:Sc}(h:Ev V m sc)(g:V.sub V'):Ev V' m sc:=by
 obtain⟨mb,f,u⟩:=h.at_;exact⟨⟨mb,f,u.sub g⟩,h.ne⟩
def sV(c:Option Addr)(m:Option Nat)(sc:Sc):Value:=.agg #[.pointer c,.map m,.bool sc.body]
structure Eb (d:Ds):Prop where
 types:∀t∈d.types,NE t.fields
 globals:NE d.globals
 params:∀p∈d.procs,NE p.params/\NE p.locals
theorem typB_ne{s:KB}(h:typB s=true):s≠sE:=by
 intro e;subst e;have:typB sE=false:=by
  rfl
 simp_all
theorem flds_ne{l:List Fld}{n:Int}(h:Dm l n=true):NE l:=λf g=>by
 simp_all[Dm,zC,z6,fldB,typB_ne]
theorem N1{d:Ds}(h:BX d=true):Eb d:=by
 unfold BX at h;simp only[zC,decide_eq_true_eq,z6]at h;obtain⟨⟨⟨⟨⟨⟨⟨-,-⟩,u⟩,-⟩,-⟩,w⟩,z⟩,-⟩:=h;refine⟨λt g=>?_,flds_ne u,λp f=>?_⟩
 ·have:=w t g;unfold EI at this;rw[zC]at this;exact flds_ne this.2
 ·have:=z p f;unfold D9 at this;simp only[zC]at this;grind[flds_ne]
theorem zero92(w:World):(zeroValue 92).run xE w=.ok (.agg #[.string zA,.slice none 0 0]) w:=by kernel_rfl
theorem zero144(w:World):(zeroValue 144).run xE w=.ok (.agg #[.string zA,.slice none 0 0,.string zA,.slice none 0 0,.slice none 0 0]) w:=by kernel_rfl
theorem zero9(w:World):(zeroValue 9).run xE w=.ok (.string zA) w:=by kernel_rfl
theorem tyOf_node(d:Ds)(s:KB):(tyOf d s).isSome=Ck d s:=by
 grind[tyOf,Ck]
theorem tyOf_mem{d:Ds}{s:KB}{t:Ty}(h:tyOf d s=some t):t∈d.types:=xU h
theorem Kz{d:Ds}{s:KB}{t:Pr}(h:BI d s=some t):t∈d.procs:=xU h
section
variable{V:Mem}{d:Ds}{c:Option Addr}{m:Option Nat}{sc:Sc}
theorem c199(h:Bs V c d){s:KB}:PP 199 [.pointer c,.string s] V (.bool (Ck d s)):=by
 refine x199 ?_;obtain⟨mt,g,f⟩:=h.types;refine⟨h.nn,h.nn,_,g,Bl.str xV xW zero92 f ?_⟩;rw[<-tyOf_node];cases u:tyOf d s with
 |none=>exact⟨_,⟨none,0,0⟩,_,rfl,rfl,rfl⟩
 |some t=>exact⟨_,t.fs,_,rfl,rfl,rfl⟩
theorem c193(h:Bs V c d){s:KB}:PP 193 [.pointer c,.string s] V (.bool (Cd d s)):=by
 refine x193 ?_;refine⟨λg=>?_,λg=>⟨λf=>?_,λf=>(c199 h).call ⟨_,rfl,?_⟩⟩⟩<;>simp[Cd,AD,AR, *]
theorem c257(h:Bs V c d){s t:KB}:PP 257 [.pointer c,.string s,.string t] V (.bool (CL d s t)):=by
 refine x257 ?_;unfold CL sNil;refine⟨λg=>?_,λg=>⟨λf=>(c199 h).call ⟨_,rfl,?_⟩,λf=>?_⟩⟩;·simp_all
 ·simp_all
 simp_all
theorem c258(h:Bs V c d)(r:Eb d){s t:KB}:PP 258 [.pointer c,.string s,.string t] V (.tuple #[.string (E5 d s t).1,.int .i64 (E5 d s t).2]):=by
 refine x258 ?_;obtain⟨mt,q,o⟩:=h.types;refine⟨h.nn,h.nn,_,q,Bl.str xV xW zero92 o ?_⟩;unfold E5;cases l:tyOf d s with
 |none=>exact⟨_,⟨none,0,0⟩,_,rfl,λh=>absurd h (by simp),λ_=>⟨rfl,rfl⟩⟩
 |some ty=>
  refine⟨_,ty.fs,_,rfl,λ_=>?_,λh=>absurd rfl h⟩;have w:=(h.ok.typesOk ty (tyOf_mem l)).fields;have z:=r.types ty (tyOf_mem l);simp only;refine Da ty.fields.length (λi V1=>V=V1/\CG ty.fields t=CG (ty.fields.drop i) t) ⟨rfl,rfl⟩ ?_;rintro i b c V1 J N ⟨rfl,f⟩ a;refine⟨λg=>?_,λy=>?_⟩
  ·obtain⟨x,hm,Z,j,e,H,G,u⟩:=w.get g;rw[j,CG]at f;refine⟨H,G,g,_,_,u,λn=>?_,λn=>⟨w.succ g,a e _ _ _ ⟨rfl,?_⟩⟩⟩
   ·rw[if_pos n]at f;rw[f,if_neg (z x hm)];simp_all
   simp_all
  ·rw[(w.done y).1,CG]at f;rw[f,if_pos rfl];exact⟨rfl,rfl⟩
theorem c269{b:Nat}{s:KB}{t:Nat}(h:V b=some (cell (.string s) t)){x:Ms}:PP 269 [x.v,pv b] V (.bool (decide (x.name=s))):=by
 refine x269 ?_;exact⟨_,Al h,rfl,rfl⟩
def Md{α:Type}(f:FuncId)(row:α->List Value)(v:α->Value)(sz:Nat):Prop:=∀{V:Mem}{l:Sl}{xs:List α}{g:Nat}{first caps:List Value}(h:Ad V l sz (xs.map row))(u:Gt g)(p:α->Bool) (w:∀x∈xs,PP g (first++[v x]++caps) V (.bool (p x))),PP f [l.v,.func (.func g) first.toArray caps.toArray] V (.int .i64 (CY p xs))
theorem N3{α:Type}{f:FuncId}{row:α->List Value}{v:α->Value}{sz:Nat}(H:IdxP f row v sz):Md f row v sz:=by
 intro V l xs g first j h n p r
 refine Tri.mono (H n (λi V1=>V=V1/\AN (λy=>!p y) xs i) (λi V1=>V=V1/\∃x,xs[i]?=some x/\p x=true/\AN (λy=>!p y) xs i) (λi V1 u=>u.1▸h) ⟨rfl,AN.zero _ _⟩ ?_) ?_
 ·rintro i x V1 w ⟨rfl,u⟩;have hm:x∈xs:=xQ w;exact(r x hm).callv ⟨_,rfl,λz=>⟨rfl,x,w,z,u⟩,λz=>⟨rfl,He u w z⟩⟩
 ·rintro e V' (⟨i,rfl,rfl,x,w,z,u⟩|⟨rfl,rfl,u⟩);·rw[Hc u w z];simp_all
  ·rw[Hd u (Nat.le_refl _)];simp_all
theorem idxMs:Md 253 Ms.row Ms.v 7:=N3 g253
theorem c264(h:Bs V c d){s:KB}{l:Sl}{xs:List KB}(e:Ad V l 1 (xs.map CD)):PP 264 [sV c m sc,.string s,l.v] V (.tuple #[.string (Fp d s xs).1,.int .i64 (Fp d s xs).2]):=by
 refine AP.mk (x264 ?_);refine⟨h.nn,h.nn,Ak h.nn,d.ms,h.cell (i:=4) rfl,λb H=>?_⟩;have j:=Mem.sub_new H (cell (.string s) 9);have g:=h.sub j;have f:=e.sub j;refine(idxMs (l:=d.ms) (first:=[]) (caps:=[pv b]) g.ok.measures Tryz.call269 (λt=>decide (t.name=s)) (λx _=>c269 As)).call ⟨_,rfl,?_⟩;unfold Fp meOf;have key:∀{X:KB×Int}(a:KB)(n:Int),X=(a,n)->(xI (.tuple #[.string a,.int .i64 n])=xI (.tuple #[.string X.1,.int .i64 X.2])/\V.sub (V.set b (cell (.string s) 9))):=λa n h=>by simp_all
 rcases Dn (λt:Ms=>decide (t.name=s)) d.measures with⟨g,J,P⟩|⟨i,x,i1,i2,i3,i4,i5,i6,i7,_⟩;·rw[g,J];exact⟨λ_=>key _ _ rfl,λh=>absurd h (by decide)⟩
 ·rw[i1,i3];have O:=g.ok.measures.n_eq;have u:(i:Int)<(d.ms.n:Int):=by omega
  obtain⟨y,hm,r,G,N,q,Z,w⟩:=g.ok.measures.get u;rw[i2]at r;cases r;have A:=f.n_eq;refine⟨λh=>absurd h (by omega),λ_=>⟨λY=>?_,λY=>key _ _ (if_pos (by omega))⟩⟩;obtain⟨W,I,Q⟩:=Eu f (i:=0) (by omega);have o:¬(xs.length≠1):=by omega
  refine⟨W,by omega,by omega,_,Q,h.nn,h.nn,Ak h.nn,d.ms,g.cell (i:=4) rfl,q,Z,u,Ak q,_,_,_,_,_,_,_,w,(c257 g).call ⟨_,rfl,λz=>key _ _ ?_,λz=>key _ _ ?_⟩⟩;·simp only[o,if_false];unfold Db;rw[if_pos z];rfl
  ·simp only[o,if_false];unfold Db;rw[if_neg z];rfl
theorem c267{b:Nat}{s:KB}{t:Nat}(h:V b=some (cell (.string s) t)){x:KB}:PP 267 [strV x,pv b] V (.bool (!decide (x=s))):=by
 refine x267 ?_;exact⟨_,Al h,rfl,rfl⟩
theorem c265{b t:Nat}{l:Sl}{xs:List KB}(u:V b=some (cell (.slice l.p l.n l.c) t))(w:Ad V l 1 (xs.map CD)){s r:KB}:
  PP 265 [.string s,.string r,pv b] V (.tuple #[.string (Db (allT xs s) r).1,.int .i64 (Db (allT xs s) r).2]):=by
 refine AP.mk (x265 ?_);refine⟨l,Al u,λb1 g=>?_⟩;have f:=Mem.sub_new g (cell (.string s) 9);refine(c266 (l:=l) (first:=[]) (caps:=[pv b1]) (w.sub f) Tryz.call267 (λx=>!decide (x=s)) (λx _=>c267 As)).call ⟨_,rfl,λh=>?_,λh=>?_⟩
 ·rw[xS]at h;have:allT xs s=false:=by grind[allT]
  rw[this];exact⟨rfl,f⟩
 ·rw[xS]at h;have:allT xs s=true:=by grind[allT]
  rw[this];exact⟨rfl,f⟩
end
theorem fits_first{d:Ds}{a b:KB}(h:CL d a b=true):(if a=sNil then b else a)=b:=by
 grind[CL]
theorem fits_second{d:Ds}{a b:KB}(h:¬CL d a b=true)(g:CL d b a=true):(if a=sNil then b else a)=a:=by
 grind[CL,absurd]
def GA(d:Ds)(sc:Sc)(s:KB)(l:List KB):KB×Int:=if sc.body=true then Fo d s l else Fp d s l
theorem measT_ne{d:Ds}{s:KB}{l:List KB}(h:(Fp d s l).2=0):(Fp d s l).1≠sE:=by
 unfold Fp at h⊢;split at h;·omega
 ·split at h;·omega
  ·rename_i g;simp only[if_neg g];unfold Db at h⊢;split at h;·rename_i f;rw[if_pos f];simp only;decide
   omega
theorem callE_raw(d:Ds)(sc:Sc)(s:KB)(l:List KB):Fq d sc s l=if(GA d sc s l).2=0/\(GA d sc s l).1=sE then(sE,11)else GA d sc s l:=by
 unfold Fq GA;by_cases h:sc.body=true;·simp_all
 simp_all[if_neg,absurd,measT_ne]
section
variable{V:Mem}{d:Ds}{c:Option Addr}{m:Option Nat}{sc:Sc}
def ImpE(V:Mem)(d:Ds)(c:Option Addr)(m:Option Nat)(sc:Sc)(e:E):Prop:=∀V1,V.sub V1->PP 240 [sV c m sc,e.v] V1 (.tuple #[.string (CX d sc e).1,.int .i64 (CX d sc e).2])
def rawT(d:Ds)(sc:Sc)(e:E):KB×Int:=if(partsT d sc [] e.k).2≠0 then(sE,(partsT d sc [] e.k).2)else GA d sc e.s (partsT d sc [] e.k).1
theorem impCall(h:Bs V c d)(e:E)(I:E.Ok V e)(hlen:(e.k.length:Int)<=6)(hk:∀x∈e.k,ImpE V d c m sc x):
  PP 256 [sV c m sc,e.v] V (.tuple #[.string (rawT d sc e).1,.int .i64 (rawT d sc e).2]):=by
 have hr:=I.rows;refine AP.mk (x256 ?_);unfold rawT;refine loop4s (mk:=.string) (mc:=.int .i64) (md:=λs:Sl=>.slice s.p s.n s.c) (Ac []) 0 ⟨none,0,0⟩ AG e.k.length (λi s V1=>∃acc,Own V V1 9 1 s (acc.flatMap CD)/\partsT d sc [] e.k=partsT d sc acc (e.k.drop i)/\acc.length=i) ⟨[],Own.nil (Mem.sub.refl _) _ _,rfl,rfl⟩ ?_;rintro i b b' s V1 J hi ⟨acc,g,l,r⟩ M;have q:=hr.sub g.sub;refine⟨λz=>?_,λo=>?_⟩
 ·obtain⟨x,hm,hx,F,hl,L,hz,Z⟩:=q.get z;rw[F,Hb]at l;refine⟨L,hz,z,_,_,_,_,Z,(hk x hm V1 g.sub).call ⟨_,_,rfl,λP=>?_,λP=>?_⟩⟩
  ·intro b1 R;rw[if_neg (λh=>h P)]at l;refine app229 (s:=s) (u:=⟨some ⟨b1,0,none⟩,1,1⟩) (xs:=acc) (ys:=[(CX d sc x).1]) rfl rfl (g.new R _) (HX As) (by simp;omega) λs' V' ho=>⟨s',rfl,q.succ z,M hl _ _ _ _ ⟨_,ho,l,by simp[r]⟩⟩
  ·rw[if_pos P]at l;rw[l];simp only[ne_eq,P,not_false_eq_true,if_true];exact⟨by trivial,g.sub⟩
 ·rw[(q.done o).1,HV]at l;rw[l];simp only[ne_eq,not_true_eq_false,if_false];have w:=ownS g;have O:=h.sub g.sub;have key:∀{X:KB×Int}(a:KB)(n:Int),X=(a,n)->(xI (.tuple #[.string a,.int .i64 n])=xI (.tuple #[.string X.1,.int .i64 X.2])/\V.sub V1):=λa n h=>by rw[h];exact⟨rfl,g.sub⟩
  unfold GA;refine⟨λN=>?_,λN=>?_⟩
  ·rw[if_pos N];obtain⟨mt,q1,q2⟩:=O.procs;refine⟨h.nn,h.nn,_,q1,Bl.str Tryz.underlying209 xW zero144 q2 ?_⟩;unfold Fo;cases B:BI d e.s with
   |none=>exact⟨_,⟨none,0,0⟩,_,⟨none,0,0⟩,⟨none,0,0⟩,_,rfl,λh=>absurd h (by simp),λ_=>key _ _ rfl⟩
   |some p=>
    have Y:=O.ok.procsOk p (Kz B);have e1:=w.n_eq;have e2:=Y.params.n_eq;refine⟨_,p.ps,_,p.ls,p.bs,_,rfl,λ_=>⟨λI=>?_,λI=>key _ _ (if_pos (by omega))⟩,λh=>absurd rfl h⟩;have C:acc.length=p.params.length:=by omega
    simp only[C,ne_eq,not_true_eq_false,if_false];refine Da acc.length (λi V2=>V1=V2/\E6 d acc p.params=E6 d (acc.drop i) (p.params.drop i)) ⟨rfl,rfl⟩ ?_;rintro j b c' V2 J hi ⟨rfl,A⟩ M;refine⟨λz=>?_,λo=>?_⟩
    ·obtain⟨y,hm',hx',W,D,K,S,H⟩:=w.get z;obtain⟨f,hmf,hxf,T,hlf,Q,U,G⟩:=Y.params.get (i:=j) (by omega);rw[W,T,E6]at A;refine⟨K,S,z,_,H,Q,U,by omega,Ak Q,_,_,G,(c257 O).call ⟨_,rfl,λN=>⟨w.succ z,M D _ _ _ ⟨rfl,?_⟩⟩,λN=>key _ _ ?_⟩⟩;·simp_all
     ·rw[eq_false_of_ne_true N,xT]at A;rw[A];rfl
    ·rw[(w.done o).1,L9]at A;simp_all
  ·rw[if_neg N];exact(c264 O w).call ⟨_,_,rfl,key _ _ rfl⟩
theorem impNode(h:Bs V c d)(hv:Eb d)(hs:Ev V m sc){e:E}{l:Sl}{xs:List KB}(F:Ad V l 1 (xs.map CD))(hlen:xs.length=e.k.length)(L:Dx e.op e.n e.s e.k.length=true)(Q:e.op≠7):
  PP 259 [sV c m sc,e.v,l.v] V (.tuple #[.string (Fs d sc e.op e.s xs).1,.int .i64 (Fs d sc e.op e.s xs).2]):=by
 have P:=arity L;refine AP.mk (x259 ?_);generalize g:Fs d sc e.op e.s xs=X;have key:∀{V1:Mem}(a:KB)(n:Int),V.sub V1->X=(a,n)->(xI (.tuple #[.string a,.int .i64 n])=xI (.tuple #[.string X.1,.int .i64 X.2])/\V.sub V1):=λa n R h=>by simp_all
 have u:=Mem.sub.refl V;have f:=λa b=>c257 h (s:=a) (t:=b);have H:=λh:0<xs.length=>Eu F h;have at1:=λh:1<xs.length=>Eu F h;have at2:=λh:2<xs.length=>Eu F h;have call:∀(s r:KB),X=Db (allT xs s) r->Af [(.slice l.p l.n l.c)] 229 V λv8 V1=>
   Tri xE 265 #[(.string s),(.string r),(.pointer (Aa v8 0))] V1 λz V2=>∃v9:KB,∃O:Int,z=.returned (.tuple #[(.string v9),(.int .i64 O)])/\(xI (.tuple #[(.string v9),(.int .i64 O)])=xI (.tuple #[.string X.1,.int .i64 X.2])/\V.sub V2):=λs r hx b A=>by
  have R:=Mem.sub_new A (cell (.slice l.p l.n l.c) 229);exact(c265 (l:=l) As (F.sub R)).call ⟨_,_,rfl,key _ _ R (by rw[hx])⟩
 unfold Fs at g;refine⟨λw=>key _ _ u ?_,λw=>⟨λy=>key _ _ u ?_,λy=>⟨λj=>key _ _ u ?_,λj=>⟨λi=>?_,λi=>⟨λq=>?_,λq=>⟨λJ=>?_,λJ=>⟨λB=>?_,λB=>⟨λC=>?_,λC=>⟨λD=>call _ _ ?_,λD=>⟨λK=>call _ _ ?_,λK=>⟨λS=>call _ _ ?_,λS=>⟨λT=>call _ _ ?_,λT=>⟨λU=>call _ _ ?_,λU=>⟨λG=>?_,λG=>call _ _ ?_⟩⟩⟩⟩⟩⟩⟩⟩⟩⟩⟩⟩⟩⟩;·rw[<-g,if_pos w];rfl
 ·rw[<-g,if_neg w,if_pos y];rfl
 ·rw[<-g,if_neg w,if_neg y,if_pos j];rfl
 ·rw[if_neg w,if_neg y,if_neg j,if_pos i,Mc]at g;obtain⟨mb,rfl,I⟩:=hs.at_;refine Bl.str Tryz.underlying267 xW zero9 I ?_;cases N:BB sc.vars e.s with
  |none=>
   rw[N,Option.getD_none]at g;exact⟨_,_,rfl,λh=>absurd h (by simp),λ_=>key _ _ u (by rw[<-g,if_pos rfl];rfl)⟩
  |some t=>
   rw[N,Option.getD_some]at g;exact⟨t,_,rfl,λ_=>key _ _ u (by rw[<-g,if_neg (hs.ne.some N)]),λh=>absurd rfl h⟩
 ·rw[if_neg w,if_neg y,if_neg j,if_neg i,if_pos q]at g;obtain⟨Z,Y,W⟩:=H (by omega);exact⟨Z,by omega,Y,_,W,(c258 h hv).call ⟨_,_,rfl,key _ _ u (by rw[<-g])⟩⟩
 ·rw[if_neg w,if_neg y,if_neg j,if_neg i,if_neg q,if_pos J]at g;refine⟨λA=>(c199 h).call ⟨_,rfl,λhn=>key _ _ u ?_,λhn=>key _ _ u ?_⟩,λA=>key _ _ u ?_⟩;·simp_all
  ·rw[<-g,if_neg (by rw[A];simp),if_pos (eq_false_of_ne_true hn)];rfl
  ·rw[<-g,if_pos (eq_false_of_ne_true A)];rfl
 iterate 2
  ·rw[if_neg w,if_neg y,if_neg j,if_neg i,if_neg q,if_neg J,if_neg Q,if_pos (by omega)]at g;obtain⟨Z,Y,W⟩:=H (by have:=P.2.1 (by omega);omega);obtain⟨b1,b2,b3⟩:=at1 (by have:=P.2.1 (by omega);omega);refine⟨Z,by omega,Y,_,W,b1,by omega,b2,_,b3,(f _ _).call ⟨_,rfl,λh=>key _ _ u ?_,λh=>⟨b1,by omega,b2,_,b3,Z,by omega,Y,_,W,(f _ _).call ⟨_,rfl,λo=>key _ _ u ?_,λo=>key _ _ u ?_⟩⟩⟩⟩;·rw[<-g,h];rfl
   ·rw[<-g,o,Bool.or_true];rfl
   ·rw[<-g,eq_false_of_ne_true h,eq_false_of_ne_true o];rfl
 iterate 2
  ·rw[if_neg w,if_neg y,if_neg j,if_neg i,if_neg q,if_neg J,if_neg Q,if_neg (by omega),if_pos (by omega)]at g;exact g.symm
 iterate 3
  ·rw[if_neg w,if_neg y,if_neg j,if_neg i,if_neg q,if_neg J,if_neg Q,if_neg (by omega),if_neg (by omega),if_pos (by omega)]at g;exact g.symm
 ·rw[if_neg w,if_neg y,if_neg j,if_neg i,if_neg q,if_neg J,if_neg Q,if_neg (by omega),if_neg (by omega),if_neg (by omega),if_pos G]at g;obtain⟨Z,Y,W⟩:=H (by omega);obtain⟨b1,b2,b3⟩:=at1 (by omega);obtain⟨c1,c2,c3⟩:=at2 (by omega);refine⟨Z,by omega,Y,_,W,λM=>⟨b1,by omega,b2,_,b3,c1,by omega,c2,_,c3,(f _ _).call ⟨_,rfl,λh=>⟨c1,by omega,c2,_,c3,key _ _ u ?_⟩,λh=>⟨c1,by omega,c2,_,c3,b1,by omega,b2,_,b3,(f _ _).call ⟨_,rfl,λo=>⟨b1,by omega,b2,_,b3,key _ _ u ?_⟩,λo=>key _ _ u ?_⟩⟩⟩⟩,λM=>key _ _ u ?_⟩;·rw[<-g,decide_eq_true (show xs.getD 0 sE=AR from M),h,fits_first h];rfl
  ·rw[<-g,decide_eq_true (show xs.getD 0 sE=AR from M),o,Bool.or_true,fits_second h o];rfl
  ·rw[<-g,decide_eq_true (show xs.getD 0 sE=AR from M),eq_false_of_ne_true h,eq_false_of_ne_true o];rfl
  ·rw[<-g,decide_eq_false (show ¬xs.getD 0 sE=AR from M)];rfl
 ·rw[if_neg w,if_neg y,if_neg j,if_neg i,if_neg q,if_neg J,if_neg Q,if_neg (by omega),if_neg (by omega),if_neg (by omega),if_neg G]at g;exact g.symm
theorem impExpr(h:Bs V c d)(L:Eb d)(R:Ev V m sc):∀(e:E),E.Ok V e->∀G,CA G e=true->ImpE V d c m sc e:=by
 intro e;induction e using E.ind with
 |h e X=>
 intro N G z V1 r;have Z:=arity (HW z);have O:∀x∈e.k,ImpE V1 d c m sc x:=λx H V2 q=>X x H (N.kids x H) (G+1) (I3 z x H) V2 (r.trans q);have A:=h.sub r;refine AP.mk (x240 ?_);have I:=Kr d sc e.k [];refine⟨λM=>(impCall A e (N.sub r) Z.2.2.2 O).call ⟨_,_,rfl,?_⟩,λM=>?_⟩
 ·have Y:CX d sc e=if(rawT d sc e).2=0/\(rawT d sc e).1=sE then(sE,11)else rawT d sc e:=by
   rw[Kq];unfold rawT;by_cases f:(partsT d sc [] e.k).2≠0;·simp_all
   simp_all[if_neg,Fs,if_pos,callE_raw]
  rw[Y];refine⟨λf=>⟨λq=>?_,λq=>?_⟩,λf=>?_⟩;·rw[if_pos ⟨f,q⟩];exact⟨rfl,Mem.sub.refl _⟩
  ·rw[if_neg (λh=>q h.2)];exact⟨rfl,Mem.sub.refl _⟩
  ·rw[if_neg (λh=>f h.1)];exact⟨rfl,Mem.sub.refl _⟩
 ·rw[Kq];have B:=(N.sub r).rows;refine loop4s (mk:=.string) (mc:=.int .i64) (md:=λs:Sl=>.slice s.p s.n s.c) (Ac []) 0 ⟨none,0,0⟩ AG e.k.length (λi s V2=>∃acc,Own V1 V2 9 1 s (acc.flatMap CD)/\partsT d sc [] e.k=partsT d sc acc (e.k.drop i)/\acc.length=i) ⟨[],Own.nil (Mem.sub.refl _) _ _,rfl,rfl⟩ ?_;rintro i b T s V2 J U ⟨acc,g,y,j⟩ C;have w:=B.sub g.sub;refine⟨λl=>?_,λo=>?_⟩
  ·obtain⟨x,hm,H,W,D,Q,K,a⟩:=w.get l;rw[W,Hb]at y;refine⟨Q,K,l,_,_,_,_,a,(O x hm V2 g.sub).call ⟨_,_,rfl,λf=>?_,λf=>?_⟩⟩
   ·intro b1 P;rw[if_neg (λh=>h f)]at y;refine app229 (s:=s) (u:=⟨some ⟨b1,0,none⟩,1,1⟩) (xs:=acc) (ys:=[(CX d sc x).1]) rfl rfl (g.new P _) (HX As) (by simp;omega) λs' V' S=>⟨s',rfl,w.succ l,C D _ _ _ _ ⟨_,S,y,by simp[j]⟩⟩
   ·rw[if_pos f]at y;rw[y];simp only[ne_eq,f,not_false_eq_true,if_true];exact⟨by trivial,g.sub⟩
  ·have F:=(w.done o).2;rw[(w.done o).1,HV]at y;rw[y];simp only[ne_eq,not_true_eq_false,if_false];refine(impNode (A.sub g.sub) L ((R.sub r).sub g.sub) (ownS g) (by omega) (HW z) M).call ⟨_,_,rfl,rfl,g.sub⟩
end
end Go.Proofs
