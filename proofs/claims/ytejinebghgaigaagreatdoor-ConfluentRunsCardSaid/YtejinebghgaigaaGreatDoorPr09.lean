/- Part 9: no statement of the seat is proved here. -/
import Derived.Test.YtejinebghgaigaaGreatDoorPr08
set_option linter.unusedVariables false
set_option linter.unusedSimpArgs false
open Bool renaming true_and->xQ,false_and->xS,and_eq_true->zC
open Go.Ending renaming returned->xG
open And renaming intro->xH
open Go.Proofs.Tryz renaming prog->xE
open List renaming any_eq_not_all_not->xR,mem_iff_getElem->yd,getElem?_eq_getElem->yv,length_cons->zy,getElem?_eq_some_iff->yw,findIdx?_eq_some_iff_getElem->yg,getElem_mem->yo
namespace Go.Proofs
open Go Go.Sx
attribute [local irreducible] Go.Sx.Tri
def JF:List E->Int|[]=>0|e::_=>e.op
def GL(op:Int)(s:KB)(es:List E)(k h:Int):Bool:=
 if op=1 then BX s&&decide ((es.length:Int)=1/\k=0/\h=0)else if op=2 then BX s&&decide ((es.length:Int)=2/\k=0/\h=0)else if op=3 then decide (s=Ac []/\(es.length:Int)=1)
 else if op=4 then decide (s=Ac []/\(es.length:Int)=1/\h=0)else if op=5 then decide (s=Ac []/\(es.length:Int)<=1/\k=0/\h=0)else if op=6 then decide (s=Ac []/\(es.length:Int)=1/\JF es=7/\k=0/\h=0)else false
def Dc(op:Int)(s:KB)(es:List E)(h k:Int):Bool:=GL op s es h k&&es.all Bz
theorem c277{V:Mem}{s:S}(h:S.Ok V s){lo hi:Int}:PP 277 [s.v,.int .i64 lo,.int .i64 hi] V (.bool (decide (lo<=s.es.length/\(s.es.length:Int)<=hi)&&s.es.all Bz)):=by
 have f:=h.eRows;have q:=f.n_eq;rw[show s.v=.agg #[.int .i64 s.op,.string s.s,.slice s.el.p s.el.n s.el.c,.slice s.ll.p s.ll.n s.ll.c,.slice s.xl.p s.xl.n s.xl.c]by unfold S.v;rw[S.row_eq];rfl];refine x277 ?_;refine⟨λh1=>?_,λh1=>⟨λh2=>?_,λh2=>?_⟩⟩;·grind
 ·grind
 ·rw[decide_eq_true (by omega),xQ];refine AU s.es.length (λi V1=>V1=V/\s.es.all Bz=(s.es.drop i).all Bz) ⟨rfl,rfl⟩ ?_;rintro i b _ J hi ⟨rfl,w⟩ z;refine⟨λk=>?_,λy=>?_⟩
  ·obtain⟨x,hm,o,u,j,l,m,g⟩:=f.get k;rw[u,List.all_cons]at w;refine⟨l,m,k,_,_,_,_,g,(c203 (h.eOk x hm)).call ⟨_,rfl,λr=>⟨f.succ k,z j _ _ ⟨rfl,?_⟩⟩,λr=>?_⟩⟩;·simp_all
   simp_all
  grind
theorem KD{V:Mem}{s:S}(h:S.Ok V s):(s.es=[]/\s.el.n=0)∨∃k r,s.es=k::r/\0<s.el.n/\¬(s.el.p=none)/\¬(Aa s.el.p 0=none)/\V.rowp s.el.p 0 4=some [.int .i64 k.op,.int .i64 k.n,.string k.s,.slice k.l.p k.l.n k.l.c]:=by
 have u:=h.eRows;have m:=u.n_eq;cases g:s.es with
 |nil=>simp_all
 |cons k r=>
  have j:((0:Nat):Int)<(s.el.n:Int):=by simp_all
  obtain⟨x,hm,f,i,q,w,o,z⟩:=u.get j;rw[g]at f;simp only[List.getElem?_cons_zero,Option.some.injEq]at f;subst f;refine .inr ⟨k,r,rfl,by omega,w,λe=>?_,?_⟩
  ·cases y:s.el.p with
   |none=>exact w y
   |some a=>rw[y]at e;cases e
  grind[E.row,vI,vS,Sl.v]
set_option maxRecDepth 4000 in
theorem c246{V:Mem}{s:S}(h:S.Ok V s):PP 246 [s.v] V (.bool (Dc s.op s.s s.es s.ls.length s.xs.length)):=by
 have m:=KD h;have cx:=λlo hi=>c277 h (lo:=lo) (hi:=hi);have z:=h.lRows.n_eq;have y:=h.xRows.n_eq;rw[show s.v=.agg #[.int .i64 s.op,.string s.s,.slice s.el.p s.el.n s.el.c,.slice s.ll.p s.ll.n s.ll.c,.slice s.xl.p s.xl.n s.xl.c]by unfold S.v;rw[S.row_eq];rfl]at cx⊢;refine x246 ?_;rw[<-z,<-y];generalize x:Dc s.op s.s s.es s.ll.n s.xl.n=X;have key:∀b:Bool,X=b->xG (.bool b)=xG (.bool X):=λn h=>by rw[h]
 unfold Dc GL at x;generalize f:s.es.all Bz=va at cx;rcases m with⟨w,q⟩|⟨e0,r,w,q,o,j,u⟩
 ·have k:(s.es.length:Int)=0:=by rw[w];rfl
  have i:s.es.length=0:=by rw[w];rfl
  rw[k]at cx;rw[f,k]at x
  repeat' (first|refine c139.call ⟨_,rfl,?_⟩|refine(cx _ _).call ⟨_,rfl,?_⟩|apply xH|intro _)
  all_goals first|rfl|(refine key _ ?_;clear key cx;grind)|(exfalso;clear key cx;grind)
 ·have l:JF s.es=e0.op:=by rw[w];rfl
  generalize k:(s.es.length:Int)=len at cx;rw[f,k,l]at x;have a:0<len:=by grind
  have e:(s.el.n:Int)=len:=by rw[<-k,h.eRows.n_eq]
  have c11:=cx 1 1;have c22:=cx 2 2;have g:=cx 0 1;rw[show decide (1<=len/\len<=1)=decide (len=1)by grind]at c11;rw[show decide (2<=len/\len<=2)=decide (len=2)by grind]at c22;rw[show decide (0<=len/\len<=1)=decide (len<=1)by grind]at g
  repeat' (first|refine c139.call ⟨_,rfl,?_⟩|refine c11.call ⟨_,rfl,?_⟩|refine c22.call ⟨_,rfl,?_⟩|refine g.call ⟨_,rfl,?_⟩|refine⟨_,_,_,_,u,?_⟩|exact o|exact j|apply xH|intro _)
  all_goals first|rfl|(refine key _ ?_;clear key cx c11 c22 g;grind)|omega|(exfalso;clear key cx c11 c22 g;grind)
mutual
def Eo(d:Int):S->Bool|.mk op s _ es _ ls _ xs=>decide (d<=60)&&Dc op s es ls.length xs.length&&CI (d+1) ls&&CI (d+1) xs
def CI(d:Int):List S->Bool|[]=>true|x::xs=>Eo d x&&CI d xs
end
mutual
def EC:S->Nat|.mk _ _ _ _ _ ls _ xs=>1+CC ls+CC xs
def CC:List S->Nat|[]=>0|x::xs=>EC x+CC xs
end
mutual
def cntS(d acc:Int):S->Int
 |.mk op s _ es _ ls _ xs=>
  if 60<d then 201 else if Dc op s es ls.length xs.length=true then
    if acc+1<=200 then
      if acc+1+CJ (d+1) 0 ls<=200 then acc+1+CJ (d+1) 0 ls+CJ (d+1) 0 xs else acc+1+CJ (d+1) 0 ls
    else acc+1
  else 201
def CJ(d acc:Int):List S->Int|[]=>acc|x::xs=>if 200<cntS d acc x then cntS d acc x else CJ d (cntS d acc x) xs
end
def gd{α:Type}(d left:Int)(l:List α)(r:Bool×Int):Bool×Int:=if 60<d/\l≠[]then(false,left)else r
mutual
def vS(left d:Int):S->Bool×Int
 |.mk op s _ es _ ls _ xs=>
  if 0<=left-1/\Dc op s es ls.length xs.length=true then
    if(gd (d+1) (left-1) ls (Dk (left-1) (d+1) ls)).1=true then
      gd (d+1) (gd (d+1) (left-1) ls (Dk (left-1) (d+1) ls)).2 xs (Dk (gd (d+1) (left-1) ls (Dk (left-1) (d+1) ls)).2 (d+1) xs)
    else(false,(gd (d+1) (left-1) ls (Dk (left-1) (d+1) ls)).2)
  else(false,left-1)
def Dk(left d:Int):List S->Bool×Int|[]=>(true,left)|x::xs=>if(vS left d x).1=true then Dk (vS left d x).2 d xs else(false,(vS left d x).2)
end
def Ep(left d:Int)(l:List S):Bool×Int:=gd d left l (Dk left d l)
theorem vSs_cons(left d:Int)(x:S)(xs:List S):Dk left d (x::xs)=if(vS left d x).1=true then Dk (vS left d x).2 d xs else(false,(vS left d x).2):=by rw[Dk]
theorem vSs_nil(left d:Int):Dk left d []=(true,left):=by rw[Dk]
theorem cntSs_cons(d acc:Int)(x:S)(xs:List S):CJ d acc (x::xs)=if 200<cntS d acc x then cntS d acc x else CJ d (cntS d acc x) xs:=by rw[CJ]
theorem cntSs_nil(d acc:Int):CJ d acc []=acc:=by rw[CJ]
theorem vS_eq(left d:Int)(x:S):vS left d x=if 0<=left-1/\Dc x.op x.s x.es x.ls.length x.xs.length=true then(if(Ep (left-1) (d+1) x.ls).1=true then Ep (Ep (left-1) (d+1) x.ls).2 (d+1) x.xs else(false,(Ep (left-1) (d+1) x.ls).2))else(false,left-1):=by
 cases x;unfold vS;rfl
theorem cntS_eq(d acc:Int)(x:S):cntS d acc x=if 60<d then 201 else if Dc x.op x.s x.es x.ls.length x.xs.length=true then
  if acc+1<=200 then
   if acc+1+CJ (d+1) 0 x.ls<=200 then acc+1+CJ (d+1) 0 x.ls+CJ (d+1) 0 x.xs else acc+1+CJ (d+1) 0 x.ls
  else acc+1
 else 201:=by
 cases x;unfold cntS;rfl
mutual
theorem cntS_ok:∀(d acc:Int)(e:S),0<=acc->acc<=200->acc+1<=cntS d acc e/\(cntS d acc e<=200↔Eo d e=true/\acc+EC e<=200)/\(cntS d acc e<=200->cntS d acc e=acc+EC e)/\cntS d acc e<=201+200*(61-d).toNat
 |d,acc,.mk op s _ es _ ls _ xs,h,k=>by
  have g:=IN (d+1) 0 ls (by omega) (by omega);have f:=IN (d+1) 0 xs (by omega) (by omega);unfold cntS Eo EC;grind
theorem IN:∀(d acc:Int)(k:List S),0<=acc->acc<=200->acc<=CJ d acc k/\(CJ d acc k<=200↔CI d k=true/\acc+CC k<=200)/\(CJ d acc k<=200->CJ d acc k=acc+CC k)/\CJ d acc k<=201+200*(61-d).toNat
 |d,acc,[],h,g=>by simp[CJ,CI,CC];omega
 |d,acc,x::xs,h,g=>by
  have h1:=cntS_ok d acc x h g;have h2:=IN d (cntS d acc x) xs (by omega);grind[CJ,CI,CC]
end
theorem okSs_deep{d:Int}(h:60<d):∀l:List S,l≠[]->CI d l=false
 |[],k=>absurd rfl k
 |.mk _ _ _ _ _ _ _ _::xs,_=>by
  grind[CI,Eo]
mutual
theorem vS_ok:∀(left d:Int)(e:S),d<=60->((vS left d e).1=true↔Eo d e=true/\(EC e:Int)<=left)/\((vS left d e).1=true->(vS left d e).2=left-EC e)
 |left,d,.mk op s _ es _ ls _ xs,k=>by
  have g:=vSs_ok (left-1) (d+1) ls;have f:=λl=>vSs_ok l (d+1) xs;have u:=λh=>okSs_deep (d:=d+1) h ls;have w:=λh=>okSs_deep (d:=d+1) h xs;grind[vS,Eo,EC,gd,Dc,Dk,CI,CC,absurd]
theorem vSs_ok:∀(left d:Int)(k:List S),0<=left->¬(60<d/\k≠[])->((Dk left d k).1=true↔CI d k=true/\(CC k:Int)<=left)/\((Dk left d k).1=true->(Dk left d k).2=left-CC k)
 |left,d,[],h,_=>by simp[Dk,CI,CC,h]
 |left,d,x::xs,h,g=>by
  have h1:=vS_ok left d x (by grind);have h2:=vSs_ok (vS left d x).2 d xs;grind[vSs_cons,CI,CC]
end
def Hn(l:List S):Bool:=decide (CI 1 l=true/\CC l<=200)
theorem validSs_cnt(l:List S):decide (CJ 1 0 l<=200)=Hn l:=by
 have:=IN 1 0 l (by omega) (by omega);unfold Hn;grind
theorem validSs_v(l:List S):(Ep 200 1 l).1=Hn l:=by
 have:=(vSs_ok 200 1 l (by omega) (by omega)).1;grind[Hn,Ep,gd]
theorem S.v_eq(s:S):s.v=.agg #[.int .i64 s.op,.string s.s,.slice s.el.p s.el.n s.el.c,.slice s.ll.p s.ll.n s.ll.c,.slice s.xl.p s.xl.n s.xl.c]:=by unfold S.v;rw[S.row_eq];rfl
theorem S.row_get{V:Mem}{p:Option Addr}{i:Nat}{x:S}(h:V.rowp p i 5=some x.row):V.rowp p i 5=some [.int .i64 x.op,.string x.s,.slice x.el.p x.el.n x.el.c,.slice x.ll.p x.ll.n x.ll.c,.slice x.xl.p x.xl.n x.xl.c]:=by
 rw[h,S.row_eq];rfl
theorem Ak{p:Option Addr}{n:Nat}(h:¬(p=none)):¬(Aa p n=none):=by
 cases p with
 |none=>grind
 |some a=>intro e;cases e
def CntP(V:Mem)(l:List S):Prop:=∀(sl:Sl)(d:Int),Ad V sl 5 (l.map S.row)->(∀x∈l,S.Ok V x)->0<=d->d<=61->PP 202 [sl.v,.int .i64 d] V (.int .i64 (CJ d 0 l))
theorem cntP_step{V:Mem}{l:List S}(o:∀x∈l,CntP V x.ls/\CntP V x.xs):CntP V l:=by
 intro sl d y j s Y;refine x202 ?_;refine loop3s CY l.length (λi acc V1=>V1=V/\0<=acc/\acc<=200/\CJ d 0 l=CJ d acc (l.drop i)) ⟨rfl,by omega,by omega,rfl⟩ ?_;rintro i acc c V1 J hi ⟨rfl,v,W,p⟩ Q;refine⟨λf=>?_,λm=>?_⟩
 ·obtain⟨x,hm,P,r,O,u,q,k⟩:=y.get f;have k:=S.row_get k;have g:=j x hm;have H:=g.lRows.n_eq;have G:=g.xRows.n_eq;rw[r,cntSs_cons]at p;have z:=cntS_eq d acc x;have cs:=c246 g;rw[S.v_eq]at cs;have bad:cntS d acc x=201->(xG (.int .i64 201)=xG (.int .i64 (CJ d 0 l))/\V1=V1):=λh=>by
   grind
  have over:∀n,cntS d acc x=n->200<n->(xG (.int .i64 n)=xG (.int .i64 (CJ d 0 l))/\V1=V1):=λn h N=>by
   grind
  have Z:∀n a,cntS d acc x=n->0<=n->¬200<n->J [.int .i64 n,.int .i64 a,.int .i64 ((i:Int)+1)] V1:=λn a h A N=>by
   grind
  refine⟨λw=>bad (by omega),λw=>⟨u,q,f,_,_,_,_,_,k,cs.call ⟨_,rfl,λe=>⟨⟨by omega,by omega⟩,λh1=>?_,λh1=>?_⟩,λe=>bad (by simp_all)⟩⟩⟩
  ·rw[if_neg w,if_pos e,if_pos h1]at z;have b1:=IN (d+1) 0 x.ls (by omega) (by omega);have b2:=IN (d+1) 0 x.xs (by omega) (by omega);refine⟨u,q,f,Ak u,_,_,_,_,_,k,⟨by omega,by omega⟩,((o x hm).1 x.ll (d+1) g.lRows g.lOk (by omega) (by omega)).call ⟨_,rfl,⟨by omega,by omega⟩,λh2=>?_,λh2=>?_⟩⟩
   ·rw[if_pos h2]at z;refine⟨u,q,f,Ak u,_,_,_,_,_,k,⟨by omega,by omega⟩,((o x hm).2 x.xl (d+1) g.xRows g.xOk (by omega) (by omega)).call ⟨_,rfl,⟨by omega,by omega⟩,λh3=>over _ z h3,λh3=>⟨y.succ f,Z _ _ z (by omega) h3⟩⟩⟩
   grind
  grind
 ·rw[(y.done m).1,cntSs_nil]at p;simp_all
theorem cntP_S(V:Mem):∀s:S,CntP V s.ls/\CntP V s.xs:=by
 intro s;induction s using S.ind with
 |h s k g=>grind[cntP_step]
theorem c202{V:Mem}{l:List S}{sl:Sl}{d:Int}(k:Ad V sl 5 (l.map S.row))(h:∀x∈l,S.Ok V x)(g:0<=d)(h1:d<=61):PP 202 [sl.v,.int .i64 d] V (.int .i64 (CJ d 0 l)):=
 cntP_step (λx _=>cntP_S V x) sl d k h g h1
set_option maxRecDepth 4000 in
theorem c215{V:Mem}[Tab V]{s:S}(h:S.Ok V s):PP 215 [s.v] V (.bool (GL s.op s.s s.es s.ls.length s.xs.length)):=by
 have c:=KD h;have g:=h.lRows.n_eq;have f:=h.xRows.n_eq;have u:=h.eRows.n_eq;rw[S.v_eq];refine x215 ?_;rw[<-g,<-f];generalize z:GL s.op s.s s.es s.ll.n s.xl.n=X;have key:∀b:Bool,X=b->xG (.bool b)=xG (.bool X):=λn h=>by rw[h]
 unfold GL at z;rw[<-u]at z;have x:(0:Int)<=(s.el.n:Int):=by omega
 have j:(0:Int)<=(s.ll.n:Int):=by omega
 have i:(0:Int)<=(s.xl.n:Int):=by omega
 generalize p:(s.el.n:Int)=ne at z x;generalize(s.ll.n:Int)=nl at z j;generalize(s.xl.n:Int)=nx at z i;rcases c with⟨y,l⟩|⟨e0,r,y,l,m,w,k⟩
 ·have:ne=0:=by omega
  subst this;clear g f u l
  repeat' (first|refine c108.call ⟨_,rfl,?_⟩|apply xH|intro _)
  all_goals first|rfl|(refine key _ ?_;clear key h y;grind)|(exfalso;clear key h y;grind)
 ·have q:JF s.es=e0.op:=by rw[y];rfl
  rw[q]at z;have o:0<ne:=by omega
  clear g f u l
  repeat' (first|refine c108.call ⟨_,rfl,?_⟩|refine⟨_,_,_,_,k,?_⟩|exact m|exact w|exact o|apply xH|intro _)
  all_goals first|rfl|(refine key _ ?_;clear key h y k m w;grind)|(exfalso;clear key h y k m w;grind)|omega
theorem c217{V:Mem}[Tab V]{e:E}(h:E.Ok V e):PP 217 [e.v] V (.bool (!Bz e)):=by
 refine x217 ?_;exact(c160 h).call ⟨_,rfl,rfl,rfl⟩
theorem vSl_bound{left d:Int}{l:List S}(g:0<=left)(h:(Ep left d l).1=true):0<=(Ep left d l).2/\(Ep left d l).2<=left:=by
 unfold Ep gd at h⊢;split at h;·cases h
 ·rename_i k;rw[if_neg k];grind[vSs_ok]
theorem vSl_eq{left d:Int}{l:List S}(h:¬(60<d/\l≠[])):Ep left d l=Dk left d l:=by grind[Ep,gd]
section
variable{V0:Mem}{b t:Nat}
def IP(V0:Mem)(b t:Nat)(l:List S):Prop:=∀(sl:Sl)(d left:Int)(V:Mem),Ad V0 sl 5 (l.map S.row)->(∀x∈l,S.Ok V0 x)->V0.sub V->V b=some (cell (.int .i64 left) t)->0<=left->left<=200->0<=d->d<=61->
 Tri xE 165 #[sl.v,.int .i64 d,pv b] V λr V'=>r=.returned (.bool (Ep left d l).1)/\V'=V.set b (cell (.int .i64 (Ep left d l).2) t)
theorem stP_step[P:Tab V0](A:V0 b=none){l:List S}(O:∀x∈l,IP V0 b t x.ls/\IP V0 b t x.xs):IP V0 b t l:=by
 intro sl d left V p a I f v H M D;have E:=p.n_eq;refine x165 ?_;have w:∀k,V0.sub (V.set b (cell (.int .i64 k) t)):=λk=>I.set A _;refine⟨λG=>⟨λr=>?_,λr=>?_⟩,λG=>?_⟩
 ·have:Ep left d l=(false,left):=by
   grind[Ep,gd]
  rw[this];exact⟨rfl,(Mem.set_eq f).symm⟩
 all_goals
  have N:¬(60<d/\l≠[]):=by
   first
   |exact λh=>r h.1
   |simp_all
  rw[vSl_eq N];refine AU l.length (λi V1=>∃k,V1=V.set b (cell (.int .i64 k) t)/\0<=k/\k<=200/\Dk left d l=Dk k d (l.drop i)) ⟨left,(Mem.set_eq f).symm,v,H,rfl⟩ ?_;rintro i c _ J hi ⟨k,rfl,F,L,z⟩ R;refine⟨λy=>?_,λZ=>?_⟩
  ·obtain⟨x,hm,K,Y,X,B,C,u⟩:=(p.sub (w k)).get y;have u:=S.row_get u;have g:=a x hm;rw[Y,vSs_cons]at z;have hv:=vS_eq k d x;have cs:=λV (G:V0.sub V) (h:S.Ok V x)=>(haveI:Tab V:=Tab.sub P G;c215 h);rw[S.v_eq]at cs;have q:∀n,vS k d x=(false,n)->(xG (.bool false)=xG (.bool (Dk left d l).1)/\V.set b (cell (.int .i64 n) t)=V.set b (cell (.int .i64 (Dk left d l).2) t)):=λn h=>by
    rw[h]at z;rw[z];exact⟨rfl,rfl⟩
   refine⟨B,C,y,_,_,_,_,_,u,Tri.mono (c214 Az (by omega) (by omega)) ?_⟩;rintro _ _ ⟨rfl,rfl⟩;rw[Mem.set_set];refine⟨_,rfl,λj=>(cs _ (w _) (g.sub (w _))).call ⟨_,rfl,λW=>?_,λW=>?_⟩,λj=>?_⟩
   ·have j:0<=k-1:=of_decide_eq_true j;refine(c216 (first:=[]) (caps:=[]) (l:=x.el) (g.eRows.sub (w _)) Tryz.call217 (λe=>!Bz e) (λe hm=>haveI:Tab (V.set b (cell (.int .i64 (k-1)) t)):=Tab.sub P (w (k-1));c217 ((g.eOk e hm).sub (w _)))).call ⟨_,rfl,λo=>?_,λo=>?_⟩
    ·have m:x.es.all Bz=false:=by
      rw[xR]at o;simpa using o
     rw[if_neg (λh=>by have:=h.2;unfold Dc at this;rw[m,Bool.and_false]at this;cases this)]at hv;exact q _ hv
    ·have m:x.es.all Bz=true:=by
      rw[xR]at o;simpa using o
     have Q:Dc x.op x.s x.es x.ls.length x.xs.length=true:=by unfold Dc;rw[W,m];rfl
     rw[if_pos ⟨j,Q⟩]at hv;refine⟨⟨by omega,by omega⟩,Tri.mono ((O x hm).1 x.ll (d+1) (k-1) _ g.lRows g.lOk (w _) Az j (by omega) (by omega) (by omega)) ?_⟩;rintro _ _ ⟨rfl,rfl⟩;rw[Mem.set_set];refine⟨_,rfl,λh1=>⟨⟨by omega,by omega⟩,?_⟩,λh1=>?_⟩
     ·rw[if_pos h1]at hv;have b1:=vSl_bound j h1;refine Tri.mono ((O x hm).2 x.xl (d+1) _ _ g.xRows g.xOk (w _) Az b1.1 (by omega) (by omega) (by omega)) ?_;rintro _ _ ⟨rfl,rfl⟩;rw[Mem.set_set];refine⟨_,rfl,λh2=>?_,λh2=>?_⟩
      ·have b2:=vSl_bound b1.1 h2;rw[hv,if_pos h2]at z;exact⟨(p.sub (w k)).succ y,R X _ _ ⟨_,rfl,b2.1,by omega,z⟩⟩
      ·rw[<-hv]at h2⊢;exact q _ (Prod.ext (eq_false_of_ne_true h2) rfl)
     ·rw[if_neg h1]at hv;exact q _ hv
   ·rw[if_neg (λh=>by have:=h.2;unfold Dc at this;rw[eq_false_of_ne_true W,xS]at this;cases this)]at hv;exact q _ hv
   ·rw[if_neg (λh=>j (decide_eq_true h.1))]at hv;exact q _ hv
  ·rw[((p.sub (w k)).done Z).1,vSs_nil]at z;rw[z];exact⟨rfl,rfl⟩
theorem stP_S[k:Tab V0](g:V0 b=none):∀s:S,IP V0 b t s.ls/\IP V0 b t s.xs:=by
 intro s;induction s using S.ind with
 |h s f u=>grind[stP_step]
theorem c165[k:Tab V0](h:V0 b=none)(l:List S):IP V0 b t l:=stP_step h λx _=>stP_S h x
end
def Bf{α:Type}(p:α->Bool)(xs:List α)(i:Nat):Prop:=∀j x,j<i->xs[j]?=some x->p x=true
theorem Bf.zero{α:Type}(p:α->Bool)(xs:List α):Bf p xs 0:=λ_ _ h=>absurd h (Nat.not_lt_zero _)
theorem Bf.succ{α:Type}{p:α->Bool}{xs:List α}{i:Nat}{x:α}(h:Bf p xs i)(u:xs[i]?=some x)(w:p x=true):Bf p xs (i+1):=λj y k g=>by
 rcases Nat.lt_succ_iff_lt_or_eq.1 k with f|rfl;·exact h j y f g
 simp_all
theorem Bf.all{α:Type}{p:α->Bool}{xs:List α}{i:Nat}(h:Bf p xs i)(hi:xs.length<=i):xs.all p=true:=
 List.all_eq_true.2 λx k=>by
  obtain⟨j,g,rfl⟩:=yd.1 k;exact h j _ (by omega) (yv g)
theorem all_false{α:Type}{p:α->Bool}{xs:List α}{x:α}(h:x∈xs)(k:¬p x=true):xs.all p=false:=by
 grind
def Ai:KB:=Ac [105,110,116]
def Au:KB:=Ac [98,111,111,108]
def typB(s:KB):Bool:=decide (s=Ai)||decide (s=Au)||BX s
def openB(s:KB):Bool:=decide (s=Ac [])||BX s
def fldB(f:Fld):Bool:=BX f.name&&typB f.ty
def Dl(l:List Fld)(h:Int):Bool:=decide ((l.length:Int)<=h)&&l.all fldB
def ED(t:Ty):Bool:=BX t.name&&Dl t.fields 12
def DO(p:Pr):Bool:=BX p.name&&Dl p.params 6&&Dl p.locals 12&&(decide (p.result=Ac [])||typB p.result)&&Hn p.body
def EE(m:Ms):Bool:=BX m.name&&BX m.ty&&decide (-1099511627776<=m.nil/\m.nil<=1099511627776)&&Bz m.x
def GM(m:Iv):Bool:=BX m.name&&openB m.ty&&Bz m.x
def Ho(m:Po):Bool:=openB m.ty&&Bz m.x
def Hp(m:Bd):Bool:=BX m.proc&&Bz m.x
def FW(d:Ds):Bool:=d.measures.all EE&&d.invs.all GM&&d.pots.all Ho&&d.bounds.all Hp
def lensB(d:Ds):Bool:=decide ((d.measures.length:Int)<=12/\(d.invs.length:Int)<=12/\(d.pots.length:Int)<=12/\(d.bounds.length:Int)<=12)
def BC(d:Ds):Bool:=BX d.name&&decide ((d.types.length:Int)<=12)&&Dl d.globals 8&&decide ((d.procs.length:Int)<=40)&&lensB d&&d.types.all ED&&d.procs.all DO&&FW d
theorem c201{V:Mem}{s:KB}:PP 201 [.string s] V (.bool (typB s)):=by
 refine x201 ?_;refine⟨λh=>?_,λh=>⟨λh1=>?_,λh1=>c139.call ⟨_,rfl,?_⟩⟩⟩<;>simp[typB,Ai,Au, *]
theorem c159{V:Mem}[Tab V]{s:KB}:PP 159 [.string s] V (.bool (typB s)):=by
 refine x159 ?_;refine⟨λh=>?_,λh=>⟨λh1=>?_,λh1=>c108.call ⟨_,rfl,?_⟩⟩⟩<;>simp[typB,Ai,Au, *]
theorem c204{V:Mem}{s:KB}:PP 204 [.string s] V (.bool (openB s)):=by
 refine x204 ?_;refine⟨λh=>?_,λh=>c139.call ⟨_,rfl,?_⟩⟩<;>simp[openB, *]
theorem c161{V:Mem}[Tab V]{s:KB}:PP 161 [.string s] V (.bool (openB s)):=by
 refine x161 ?_;refine⟨λh=>?_,λh=>c108.call ⟨_,rfl,?_⟩⟩<;>simp[openB, *]
theorem c140{V:Mem}{l:Sl}{xs:List Fld}{n:Int}(f:Ad V l 2 (xs.map Fld.row)):PP 140 [l.v,.int .i64 n] V (.bool (Dl xs n)):=by
 refine x140 ?_;have c:=f.n_eq;refine⟨λh=>?_,λh=>?_⟩;·grind[Dl]
 ·have w:(xs.length:Int)<=n:=by omega
  refine AU xs.length (λi V1=>V1=V/\Bf fldB xs i) ⟨rfl,Bf.zero _ _⟩ ?_;rintro i b V1 J hi ⟨rfl,y⟩ r;refine⟨λk=>?_,λz=>?_⟩
  ·obtain⟨x,hm,q,o,p,u,j,g⟩:=f.get k;have m:fldB x=false->(xG (.bool false)=xG (.bool (Dl xs n))/\V1=V1):=λh=>by
    unfold Dl;grind
   refine⟨u,j,k,Ak u,_,_,g,c139.call ⟨_,rfl,λh1=>⟨u,j,k,Ak u,_,_,g,c201.call ⟨_,rfl,λh2=>⟨f.succ k,r p _ _ ⟨rfl,y.succ q (by simp[fldB, *])⟩⟩,λh2=>m (by simp[fldB, *])⟩⟩,λh1=>m (by simp[fldB, *])⟩⟩
  ·have:=y.all (f.done z).2;simp[Dl,this,w]
theorem c158{V:Mem}[Tab V]{f:Fld}:PP 158 [f.v] V (.bool (!fldB f)):=by
 refine x158 ?_;refine c108.call ⟨_,rfl,λh=>c159.call ⟨_,rfl,?_⟩,λh=>?_⟩<;>simp[fldB, *]
theorem c109{V:Mem}[Tab V]{l:Sl}{xs:List Fld}{n:Int}(k:Ad V l 2 (xs.map Fld.row)):PP 109 [l.v,.int .i64 n] V (.bool (Dl xs n)):=by
 refine x109 ?_;have g:=k.n_eq;refine⟨λh=>(JD (first:=[]) (caps:=[]) k Tryz.call158 (λf=>!fldB f) λf _=>c158).call ⟨_,rfl,?_⟩,λh=>?_⟩;·grind[Dl]
 grind[Dl]
theorem c141{V:Mem}{p:Pr}(h:Pr.Ok V p):PP 141 [p.v] V (.bool (DO p)):=by
 refine x141 ?_;have cs:=c202 (d:=1) h.body h.stmts (by omega) (by omega);refine c139.call ⟨_,rfl,λh1=>(c140 h.params).call ⟨_,rfl,λh2=>(c140 h.locals).call ⟨_,rfl,λh3=>⟨λh4=>cs.call ⟨_,rfl,?_⟩,λh4=>c201.call ⟨_,rfl,λk=>cs.call ⟨_,rfl,?_⟩,λk=>?_⟩⟩,λh3=>?_⟩,λh2=>?_⟩,λh1=>?_⟩;all_goals simp[DO,<-validSs_cnt, *]
theorem c114{V:Mem}[Tab V]{p:Pr}(h:Pr.Ok V p):PP 114 [p.v] V (.bool (DO p)):=by
  refine Bv.mk (x114 ?_);have cs:(Hn p.body=DO p)->Ag [(.int .i64 200)] 269 V fun f u =>
       Tri xE 165 #[(.slice p.bs.p p.bs.n p.bs.c),(.int .i64 1),(.pointer (Aa f 0))] u λe w=>∃k:Bool,e=.returned (.bool k)/\(xG (.bool k)=xG (.bool (DO p))/\V.sub w):=λe b g=>by
    refine Tri.mono (c165 g p.body p.bs 1 200 _ h.body h.stmts (Mem.sub_new g _) Az (by omega) (by omega) (by omega) (by omega)) ?_;rintro _ _ ⟨rfl,rfl⟩;rw[validSs_v,Mem.set_set,e];exact⟨_,rfl,rfl,Mem.sub_new g _⟩
  refine c108.call ⟨_,rfl,λh1=>(c109 h.params).call ⟨_,rfl,λh2=>(c109 h.locals).call ⟨_,rfl,λh3=>⟨λh4=>cs ?_,λh4=>c159.call ⟨_,rfl,λz=>cs ?_,λz=>⟨?_,Mem.sub.refl _⟩⟩⟩,λh3=>⟨?_,Mem.sub.refl _⟩⟩,λh2=>⟨?_,Mem.sub.refl _⟩⟩,λh1=>⟨?_,Mem.sub.refl _⟩⟩;all_goals simp[DO, *]
theorem c163{V:Mem}[Tab V]{b:Bd}(h:E.Ok V b.x):PP 163 [b.v] V (.bool (!Hp b)):=by
 refine x163 ?_;refine c108.call ⟨_,rfl,λh1=>(c160 h).call ⟨_,rfl,?_⟩,λh1=>?_⟩<;>simp[Hp, *]
theorem c112{V:Mem}[Tab V]{t:Ty}(h:Ty.Ok V t):PP 112 [t.v] V (.bool (!ED t)):=by
 refine x112 ?_;refine c108.call ⟨_,rfl,λh1=>(c109 h.fields).call ⟨_,rfl,?_⟩,λh1=>?_⟩<;>simp[ED, *]
theorem c113{V:Mem}[Tab V]{t:Pr}(h:Pr.Ok V t):PP 113 [t.v] V (.bool (!DO t)):=by
 refine x113 ?_;exact(c114 h).call ⟨_,rfl,rfl,rfl⟩
theorem GenK.max4{P:Program}{V:Mem}{a b c d:Operand}{ty:Nat}{ts:Array TypeId}{vals:Operand->Value}{n1 n2 n3 n4:Int}(h1:vals a=.int .i64 n1)(h2:vals b=.int .i64 n2)(h3:vals c=.int .i64 n3)(h4:vals d=.int .i64 n4){q:Value->Mem->Prop}
  (h:∀m:Int,n1<=m->n2<=m->n3<=m->n4<=m->(m=n1∨m=n2∨m=n3∨m=n4)->q (.int .i64 m) V):GenK P (.call {callee:=.builtin .max,args:=#[a,b,c,d],argTypes:=ts}) ty vals V q:=by
 intro w hw;refine⟨_,w,V,?_,Ax.refl hw,h (max (max (max n1 n2) n3) n4) (by omega) (by omega) (by omega) (by omega) (by omega)⟩;unfold execOp;have e:∀x y:Int,(if y>x then y else x)=max x y:=λx y=>by split<;>omega
 simp only[resolve,invoke,builtin,Sem.run_bind,Sem.run_pure,Result.andThen_ok,List.map_toArray,List.map_cons,List.map_nil,h1,h2,h3,h4];simp[Builtin.max_,Builtin.max2,e]
theorem c142{V:Mem}{d:Ds}(h:Ds.Ok V d):PP 142 [d.v] V (.bool (FW d)):=by
 refine x142 ?_;generalize o:FW d=X;have key:∀b:Bool,X=b->(xG (.bool b)=xG (.bool X)/\V=V):=λn h=>by simp_all
 unfold FW at o;refine AU d.measures.length (λi V1=>V=V1/\Bf EE d.measures i) ⟨rfl,Bf.zero _ _⟩ ?_;rintro i b V1 J hi ⟨rfl,z⟩ j;refine⟨λk=>?_,λu=>?_⟩
 ·obtain⟨x,hm,l,m,r,f,y,g⟩:=h.measures.get k;have w:EE x=false->X=false:=λh=>by grind
  refine⟨f,y,k,_,_,_,_,_,_,_,g,c139.call ⟨_,rfl,λh1=>c139.call ⟨_,rfl,λh2=>⟨λh3=>key _ (w ?_),λh3=>⟨λh4=>key _ (w ?_),λh4=>(c203 (h.measuresOk x hm).x).call ⟨_,rfl,λq=>⟨h.measures.succ k,j r _ _ ⟨rfl,z.succ l ?_⟩⟩,λq=>key _ (w ?_)⟩⟩⟩,λh2=>key _ (w ?_)⟩,λh1=>key _ (w ?_)⟩⟩
  ·have:¬(-1099511627776<=x.nil/\x.nil<=1099511627776):=by omega
   simp[EE, *]
  ·have:¬(-1099511627776<=x.nil/\x.nil<=1099511627776):=by omega
   simp[EE, *]
  ·have:(-1099511627776<=x.nil/\x.nil<=1099511627776):=by omega
   simp[EE, *]
  all_goals simp[EE, *]
 have a1:=z.all (h.measures.done u).2;refine AU d.invs.length (λi V1=>V=V1/\Bf GM d.invs i) ⟨rfl,Bf.zero _ _⟩ ?_;rintro i b V1 J hi ⟨rfl,z⟩ j;refine⟨λk=>?_,λu=>?_⟩
 ·obtain⟨x,hm,l,m,r,f,y,g⟩:=h.invs.get k;have w:GM x=false->X=false:=λh=>by rw[<-o,all_false hm (by rw[h];simp)];simp
  refine⟨f,y,k,Ak f,_,_,_,_,_,_,g,c139.call ⟨_,rfl,λh1=>⟨f,y,k,Ak f,_,_,_,_,_,_,g,c204.call ⟨_,rfl,λh2=>⟨f,y,k,Ak f,_,_,_,_,_,_,g,(c203 (h.invsOk x hm)).call ⟨_,rfl,λq=>⟨h.invs.succ k,j r _ _ ⟨rfl,z.succ l ?_⟩⟩,λq=>key _ (w ?_)⟩⟩,λh2=>key _ (w ?_)⟩⟩,λh1=>key _ (w ?_)⟩⟩;all_goals simp[GM, *]
 have a2:=z.all (h.invs.done u).2;refine AU d.pots.length (λi V1=>V=V1/\Bf Ho d.pots i) ⟨rfl,Bf.zero _ _⟩ ?_;rintro i b V1 J hi ⟨rfl,z⟩ j;refine⟨λk=>?_,λu=>?_⟩
 ·obtain⟨x,hm,l,m,r,f,y,g⟩:=h.pots.get k;have w:Ho x=false->X=false:=λh=>by grind
  refine⟨f,y,k,Ak f,_,_,_,_,_,g,c204.call ⟨_,rfl,λh2=>⟨f,y,k,Ak f,_,_,_,_,_,g,(c203 (h.potsOk x hm)).call ⟨_,rfl,λq=>⟨h.pots.succ k,j r _ _ ⟨rfl,z.succ l ?_⟩⟩,λq=>key _ (w ?_)⟩⟩,λh2=>key _ (w ?_)⟩⟩;all_goals simp[Ho, *]
 have a3:=z.all (h.pots.done u).2;refine AU d.bounds.length (λi V1=>V=V1/\Bf Hp d.bounds i) ⟨rfl,Bf.zero _ _⟩ ?_;rintro i b V1 J hi ⟨rfl,z⟩ j;refine⟨λk=>?_,λu=>?_⟩
 ·obtain⟨x,hm,l,m,r,f,y,g⟩:=h.bounds.get k;have w:Hp x=false->X=false:=λh=>by grind
  refine⟨f,y,k,Ak f,_,_,_,_,_,g,c139.call ⟨_,rfl,λh2=>⟨f,y,k,Ak f,_,_,_,_,_,g,(c203 (h.boundsOk x hm)).call ⟨_,rfl,λq=>⟨h.bounds.succ k,j r _ _ ⟨rfl,z.succ l ?_⟩⟩,λq=>key _ (w ?_)⟩⟩,λh2=>key _ (w ?_)⟩⟩;all_goals simp[Hp, *]
 have p:=z.all (h.bounds.done u).2;simp_all
theorem c110{V:Mem}[Tab V]{d:Ds}(h:Ds.Ok V d):PP 110 [d.v] V (.bool (lensB d&&FW d)):=by
 refine x110 ?_;have c:=h.measures.n_eq;have a:=h.invs.n_eq;have e:=h.pots.n_eq;have s:=h.bounds.n_eq;generalize p:(lensB d&&FW d)=X;have key:∀b:Bool,X=b->(xG (.bool b)=xG (.bool X)/\V=V):=λn h=>by simp_all
 unfold FW lensB at p;refine GenK.max4 (n1:=d.ms.n) (n2:=d.is.n) (n3:=d.qs.n) (n4:=d.bs.n) rfl rfl rfl rfl λG N Z Y W le=>⟨_,rfl,λH=>key _ ?_,λH=>?_⟩;·rw[<-p,decide_eq_false (by omega)];rfl
 rw[decide_eq_true (by omega),xQ]at p;refine AU d.measures.length (λi V1=>V=V1/\Bf EE d.measures i) ⟨rfl,Bf.zero _ _⟩ ?_;rintro i b V1 J hi ⟨rfl,z⟩ y;refine⟨λk=>?_,λw=>?_⟩
 ·obtain⟨x,hm,j,l,m,r,q,g⟩:=h.measures.get k;have u:EE x=false->X=false:=λh=>by grind
  refine⟨r,q,k,_,_,_,_,_,_,_,g,c108.call ⟨_,rfl,λh1=>c108.call ⟨_,rfl,λh2=>⟨λh3=>key _ (u ?_),λh3=>⟨λh4=>key _ (u ?_),λh4=>(c160 (h.measuresOk x hm).x).call ⟨_,rfl,λo=>⟨h.measures.succ k,y m _ _ ⟨rfl,z.succ j ?_⟩⟩,λo=>key _ (u ?_)⟩⟩⟩,λh2=>key _ (u ?_)⟩,λh1=>key _ (u ?_)⟩⟩
  ·have:¬(-1099511627776<=x.nil/\x.nil<=1099511627776):=by omega
   simp[EE, *]
  ·have:¬(-1099511627776<=x.nil/\x.nil<=1099511627776):=by omega
   simp[EE, *]
  ·have:(-1099511627776<=x.nil/\x.nil<=1099511627776):=by omega
   simp[EE, *]
  all_goals simp[EE, *]
 have a1:=z.all (h.measures.done w).2;refine AU d.invs.length (λi V1=>V=V1/\Bf GM d.invs i) ⟨rfl,Bf.zero _ _⟩ ?_;rintro i b V1 J hi ⟨rfl,z⟩ y;refine⟨λk=>?_,λw=>?_⟩
 ·obtain⟨x,hm,j,l,m,r,q,g⟩:=h.invs.get k;have u:GM x=false->X=false:=λh=>by rw[<-p,all_false hm (by rw[h];simp)];simp
  refine⟨r,q,k,_,_,_,_,_,_,g,c108.call ⟨_,rfl,λh1=>c161.call ⟨_,rfl,λh2=>(c160 (h.invsOk x hm)).call ⟨_,rfl,λo=>⟨h.invs.succ k,y m _ _ ⟨rfl,z.succ j ?_⟩⟩,λo=>key _ (u ?_)⟩,λh2=>key _ (u ?_)⟩,λh1=>key _ (u ?_)⟩⟩;all_goals simp[GM, *]
 have a2:=z.all (h.invs.done w).2;refine AU d.pots.length (λi V1=>V=V1/\Bf Ho d.pots i) ⟨rfl,Bf.zero _ _⟩ ?_;rintro i b V1 J hi ⟨rfl,z⟩ y;refine⟨λk=>?_,λw=>?_⟩
 ·obtain⟨x,hm,j,l,m,r,q,g⟩:=h.pots.get k;have u:Ho x=false->X=false:=λh=>by grind
  refine⟨r,q,k,_,_,_,_,_,g,c161.call ⟨_,rfl,λh2=>(c160 (h.potsOk x hm)).call ⟨_,rfl,λo=>⟨h.pots.succ k,y m _ _ ⟨rfl,z.succ j ?_⟩⟩,λo=>key _ (u ?_)⟩,λh2=>key _ (u ?_)⟩⟩;all_goals simp[Ho, *]
 have a3:=z.all (h.pots.done w).2;refine(c162 (first:=[]) (caps:=[]) h.bounds Tryz.call163 (λf=>!Hp f) λf hm=>c163 (h.boundsOk f hm)).call ⟨_,rfl,key _ ?_⟩;simp_all[xR]
theorem Ml{V:Mem}{d:Ds}(h:Ds.Ok V d):PP 91 [d.v] V (.bool (BC d)):=by
 refine Qq ?_;have H:=h.measures.n_eq;have G:=h.invs.n_eq;have N:=h.pots.n_eq;have Z:=h.bounds.n_eq;have Y:=h.types.n_eq;have n6:=h.procs.n_eq;generalize r:BC d=X;have key:∀b:Bool,X=b->(xG (.bool b)=xG (.bool X)/\V=V):=λn h=>by simp_all
 unfold BC at r;have f:lensB d=false->X=false:=λh=>by simp_all
 refine c139.call ⟨_,rfl,λh1=>⟨λh2=>key _ ?_,λh2=>(c140 h.globals).call ⟨_,rfl,λh3=>⟨λh4=>key _ ?_,λh4=>⟨λu=>key _ (f ?_),λu=>⟨λa=>key _ (f ?_),λa=>⟨λe=>key _ (f ?_),λe=>⟨λs=>key _ (f ?_),λs=>?_⟩⟩⟩⟩⟩,λh3=>key _ ?_⟩⟩,λh1=>key _ ?_⟩;·grind
 ·grind
 ·exact decide_eq_false (by omega)
 ·exact decide_eq_false (by omega)
 ·exact decide_eq_false (by omega)
 ·exact decide_eq_false (by omega)
 ·have y:lensB d=true:=decide_eq_true (by omega);rw[h1,decide_eq_true (p:=(d.types.length:Int)<=12) (by omega),h3,decide_eq_true (p:=(d.procs.length:Int)<=40) (by omega),y]at r;simp only[xQ]at r;refine AU d.types.length (λi V1=>V=V1/\Bf ED d.types i) ⟨rfl,Bf.zero _ _⟩ ?_;rintro i b V1 J hi ⟨rfl,j⟩ q;refine⟨λk=>?_,λw=>?_⟩
  ·obtain⟨x,hm,o,c,y,z,l,g⟩:=h.types.get k;have m:ED x=false->X=false:=λh=>by grind
   refine⟨z,l,k,Ak z,_,_,g,c139.call ⟨_,rfl,λh1=>⟨z,l,k,Ak z,_,_,g,(c140 (h.typesOk x hm).fields).call ⟨_,rfl,λu=>⟨h.types.succ k,q y _ _ ⟨rfl,j.succ o ?_⟩⟩,λu=>key _ (m ?_)⟩⟩,λh1=>key _ (m ?_)⟩⟩;all_goals simp[ED, *]
  have a1:=j.all (h.types.done w).2;refine AU d.procs.length (λi V1=>V=V1/\Bf DO d.procs i) ⟨rfl,Bf.zero _ _⟩ ?_;rintro i b V1 J hi ⟨rfl,j⟩ q;refine⟨λk=>?_,λw=>?_⟩
  ·obtain⟨x,hm,o,c,y,z,l,g⟩:=h.procs.get k;have m:DO x=false->X=false:=λh=>by grind
   exact⟨z,l,k,_,_,_,_,_,g,(c141 (h.procsOk x hm)).call ⟨_,rfl,λu=>⟨h.procs.succ k,q y _ _ ⟨rfl,j.succ o u⟩⟩,λu=>key _ (m (eq_false_of_ne_true u))⟩⟩
  have a2:=j.all (h.procs.done w).2;refine(c142 h).call ⟨_,rfl,key _ ?_⟩;simp_all
 ·simp_all
 simp_all
theorem Ob{V:Mem}[Tab V]{d:Ds}(h:Ds.Ok V d):PP 72 [d.v] V (.bool (BC d)):=by
 refine P9 ?_;have w:=h.types.n_eq;have n6:=h.procs.n_eq;generalize k:BC d=X;have key:∀b:Bool,X=b->(xG (.bool b)=xG (.bool X)/\V=V):=λn h=>by simp_all
 unfold BC at k;refine c108.call ⟨_,rfl,λh1=>⟨λh2=>key _ ?_,λh2=>(c109 h.globals).call ⟨_,rfl,λh3=>⟨λh4=>key _ ?_,λh4=>(c110 h).call ⟨_,rfl,λg=>(c111 (first:=[]) (caps:=[]) h.types Tryz.call112 (λf=>!ED f) λf hm=>c112 (h.typesOk f hm)).call ⟨_,rfl,λu=>key _ ?_,λu=>
   (N9 (first:=[]) (caps:=[]) h.procs Tryz.call113 (λf=>!DO f) λf hm=>c113 (h.procsOk f hm)).call ⟨_,rfl,key _ ?_⟩⟩,λg=>key _ ?_⟩⟩,λh3=>key _ ?_⟩⟩,λh1=>key _ ?_⟩
 ·grind
 ·grind
 ·grind[xR,ED]
 ·grind
 ·grind
 ·simp_all
 simp_all
end Go.Proofs
namespace Go.Proofs
open Go Go.Sx
def DP:KB:=Ac [110,105,108]
def sE:KB:=Ac []
def Ci(d:Ds)(s:KB):Bool:=d.types.any λt=>decide (t.name=s)
def Bq(d:Ds)(s:KB):Bool:=decide (s=Ai)||decide (s=Au)||Ci d s
def BA(d:Ds)(a b:KB):Bool:=decide (a=b)||(decide (a=DP)&&Ci d b)
def B0:List Fld->KB->KB
 |[],_=>sE
 |f::l,s=>if f.name=s then f.ty else B0 l s
def Dy(d:Ds)(s:KB):Option Ty:=d.types.find? λt=>decide (t.name=s)
def Cj(d:Ds)(s:KB):Option Pr:=d.procs.find? λt=>decide (t.name=s)
def meOf(d:Ds)(s:KB):Option Ms:=d.measures.find? λt=>decide (t.name=s)
def Dz(d:Ds)(t name:KB):KB×Int:=
 match Dy d t with
 |none=>(sE,11)
 |some ty=>if B0 ty.fields name=sE then(sE,9)else(B0 ty.fields name,0)
def DQ(d:Ds):List KB->List Fld->Bool
 |a::l,f::fs=>BA d a f.ty&&DQ d l fs
 |_,_=>true
def Er(d:Ds)(name:KB)(l:List KB):KB×Int:=
 match Cj d name with
 |none=>(sE,9)
 |some p=>if l.length≠p.params.length then(sE,3)else if DQ d l p.params=true then(p.result,0)else(sE,11)
def DA(ok:Bool)(t:KB):KB×Int:=if ok=true then(t,0)else(sE,11)
structure Sc where
 vars:List Fld
 body:Bool
def FX(d:Ds)(name:KB)(l:List KB):KB×Int:=
 match meOf d name with
 |none=>(sE,9)
 |some m=>if l.length≠1 then(sE,3)else DA (BA d (l.getD 0 sE) m.ty) Ai
def Fh(d:Ds)(sc:Sc)(name:KB)(l:List KB):KB×Int:=
 if sc.body=true then(if(Er d name l).2=0/\(Er d name l).1=sE then(sE,11)else Er d name l)else FX d name l
def allT(l:List KB)(t:KB):Bool:=l.all λx=>decide (x=t)
def EF(d:Ds)(sc:Sc)(op:Int)(s:KB)(l:List KB):KB×Int:=
 if op=1 then(Ai,0)else if op=2 then(Au,0)else if op=3 then(DP,0)
 else if op=4 then(if B0 sc.vars s=sE then(sE,9)else(B0 sc.vars s,0))
 else if op=5 then Dz d (l.getD 0 sE) s
 else if op=6 then(if sc.body=false then(sE,13)else if Ci d s=false then(sE,9)else(s,0))
 else if op=7 then Fh d sc s l
 else if op=14∨op=15 then DA (BA d (l.getD 0 sE) (l.getD 1 sE)||BA d (l.getD 1 sE) (l.getD 0 sE)) Au
 else if op=16∨op=17 then DA (allT l Ai) Au
 else if op=18∨op=19∨op=20 then DA (allT l Au) Au
 else if op=21 then DA (decide (l.getD 0 sE=Au)&&(BA d (l.getD 1 sE) (l.getD 2 sE)||BA d (l.getD 2 sE) (l.getD 1 sE))) (if l.getD 1 sE=DP then l.getD 2 sE else l.getD 1 sE)
 else DA (allT l Ai) Ai
mutual
def As(d:Ds)(sc:Sc):E->KB×Int
 |.mk op _ s _ k=>if(partsT d sc [] k).2≠0 then(sE,(partsT d sc [] k).2)else EF d sc op s (partsT d sc [] k).1
def partsT(d:Ds)(sc:Sc)(acc:List KB):List E->List KB×Int
 |[]=>(acc,0)
 |x::xs=>if(As d sc x).2≠0 then([],(As d sc x).2)else partsT d sc (acc++[(As d sc x).1]) xs
end
theorem KE(d:Ds)(sc:Sc)(e:E):As d sc e=if(partsT d sc [] e.k).2≠0 then(sE,(partsT d sc [] e.k).2)else EF d sc e.op e.s (partsT d sc [] e.k).1:=by
 cases e;rfl
theorem HV(d:Ds)(sc:Sc)(acc:List KB)(x:E)(xs:List E):partsT d sc acc (x::xs)=if(As d sc x).2≠0 then([],(As d sc x).2)else partsT d sc (acc++[(As d sc x).1]) xs:=by rw[partsT]
theorem IQ(d:Ds)(sc:Sc)(acc:List KB):partsT d sc acc []=(acc,0):=by rw[partsT]
theorem Mn(d:Ds)(sc:Sc):∀(k:List E)(acc:List KB),(partsT d sc acc k).2=0->(partsT d sc acc k).1.length=acc.length+k.length
 |[],acc,_=>by rfl
 |x::xs,acc,h=>by
  rw[HV]at h⊢;split at h;·omega
  ·rename_i g;rw[if_neg g,Mn d sc xs _ h,List.length_append,zy,zy,List.length_nil];omega
def Av(d:Ds)(p:Pr):Sc:=⟨p.params++p.locals++d.globals,true⟩
def sThisF:KB:=Ac [116,104,105,115]
def BK(d:Ds)(t:KB):Sc:=⟨(if t=sE then[]else[⟨sThisF,t⟩])++d.globals,false⟩
def EG(d:Ds)(p:Pr):Sc:=⟨p.params++d.globals,false⟩
def Ed(d:Ds)(sc:Sc)(result:KB)(op:Int)(s:KB)(es:List E):Int:=
 if op=6 then
  match es with
  |[]=>0
  |e::_=>if(partsT d sc [] e.k).2≠0 then(partsT d sc [] e.k).2 else(Er d e.s (partsT d sc [] e.k).1).2
 else if(partsT d sc [] es).2≠0 then(partsT d sc [] es).2
 else if op=1 then(if B0 sc.vars s=sE then 9 else if BA d ((partsT d sc [] es).1.getD 0 sE) (B0 sc.vars s)=true then 0 else 11)
 else if op=2 then(if(Dz d ((partsT d sc [] es).1.getD 0 sE) s).2≠0 then(Dz d ((partsT d sc [] es).1.getD 0 sE) s).2 else if BA d ((partsT d sc [] es).1.getD 1 sE) (Dz d ((partsT d sc [] es).1.getD 0 sE) s).1=true then 0 else 11)
 else if op=3∨op=4 then(if(partsT d sc [] es).1.getD 0 sE=Au then 0 else 11)
 else if op=5 then(if(partsT d sc [] es).1.length=0 then(if result=sE then 0 else 11)else if result≠sE/\BA d ((partsT d sc [] es).1.getD 0 sE) result=true then 0 else 11)
 else 0
mutual
def Ee(d:Ds)(sc:Sc)(result:KB)(n:Int):S->Int×Int
 |.mk op s _ es _ ls _ xs=>
  if Ed d sc result op s es≠0 then(n,Ed d sc result op s es)
  else if(AL d sc result (n+1) ls).2≠0 then AL d sc result (n+1) ls
  else AL d sc result (AL d sc result (n+1) ls).1 xs
def AL(d:Ds)(sc:Sc)(result:KB)(n:Int):List S->Int×Int
 |[]=>(n,0)
 |x::xs=>if(Ee d sc result n x).2≠0 then Ee d sc result n x else AL d sc result (Ee d sc result n x).1 xs
end
theorem stT_eq(d:Ds)(sc:Sc)(result:KB)(n:Int)(x:S):Ee d sc result n x=if Ed d sc result x.op x.s x.es≠0 then(n,Ed d sc result x.op x.s x.es)else if(AL d sc result (n+1) x.ls).2≠0 then AL d sc result (n+1) x.ls else AL d sc result (AL d sc result (n+1) x.ls).1 x.xs:=by
 cases x;unfold Ee;rfl
theorem KF(d:Ds)(sc:Sc)(result:KB)(n:Int)(x:S)(xs:List S):AL d sc result n (x::xs)=if(Ee d sc result n x).2≠0 then Ee d sc result n x else AL d sc result (Ee d sc result n x).1 xs:=by rw[AL]
theorem stsT_nil(d:Ds)(sc:Sc)(result:KB)(n:Int):AL d sc result n []=(n,0):=by rw[AL]
def BT(d:Ds)(l:List Fld)(i:Nat)(f:Fld):Int:=if(l.take i).any (λg=>decide (g.name=f.name))=true then 10 else if Bq d f.ty=true then 0 else 9
def Ar{α β:Type}(f:Nat->α->Option β):Nat->List α->Option β
 |_,[]=>none
 |i,x::xs=>match f i x with|some b=>some b|none=>Ar f (i+1) xs
def CD(d:Ds)(l:List Fld):Int:=(Ar (λi f=>if BT d l i f≠0 then some (BT d l i f)else none) 0 l).getD 0
abbrev Flt:=KB×Int×Int
def types1(d:Ds):Option Flt:=Ar (λi t=>if(d.types.take i).any (λg=>decide (g.name=t.name))=true then some (t.name,-1,10)else none) 0 d.types
def types2(d:Ds):Option Flt:=Ar (λ_ t=>if CD d t.fields≠0 then some (t.name,-1,CD d t.fields)else none) 0 d.types
def types3(d:Ds):Option Flt:=Ar (λi f=>if BT d d.globals i f≠0 then some (f.name,-1,BT d d.globals i f)else none) 0 d.globals
def FY(d:Ds):Option Flt:=(types1 d).or ((types2 d).or (types3 d))
def Fi(d:Ds):Option Flt:=Ar (λi p=>if(d.procs.take i).any (λg=>decide (g.name=p.name))=true then some (p.name,-1,10)else if CD d (p.params++p.locals)≠0 then some (p.name,-1,CD d (p.params++p.locals))else if p.result≠sE/\Bq d p.result=false then some (p.name,-1,9)else none) 0 d.procs
def form1(d:Ds):Option Flt:=Ar (λi m=>if(d.measures.take i).any (λg=>decide (g.name=m.name))=true then some (m.name,-1,10)else if Ci d m.ty=false then some (m.name,-1,9)else none) 0 d.measures
def form2(d:Ds):Option Flt:=Ar (λi m=>if(d.invs.take i).any (λg=>decide (g.name=m.name))=true then some (m.name,-1,10)else if m.ty≠sE/\Ci d m.ty=false then some (m.name,-1,9)else none) 0 d.invs
def sPot:KB:=Ac [112,111,116,101,110,116,105,97,108]
def form3(d:Ds):Option Flt:=Ar (λ_ m=>if m.ty≠sE/\Ci d m.ty=false then some (sPot,-1,9)else none) 0 d.pots
def form4(d:Ds):Option Flt:=Ar (λi b=>if(Cj d b.proc).isNone=true then some (b.proc,-1,9)else if(d.bounds.take i).any (λg=>decide (g.proc=b.proc))=true then some (b.proc,-1,10)else none) 0 d.bounds
def DW(d:Ds):Option Flt:=(form1 d).or ((form2 d).or ((form3 d).or (form4 d)))
def E4(d:Ds):Option Flt:=Ar (λ_ p=>if(AL d (Av d p) p.result 0 p.body).2≠0 then some (p.name,(AL d (Av d p) p.result 0 p.body).1,(AL d (Av d p) p.result 0 p.body).2)else none) 0 d.procs
def BF(d:Ds)(sc:Sc)(e:E)(t:KB):Int:=if(As d sc e).2≠0 then(As d sc e).2 else if(As d sc e).1=t then 0 else 11
def exp1(d:Ds):Option Flt:=Ar (λ_ m=>if BF d (BK d m.ty) m.x Ai≠0 then some (m.name,-1,BF d (BK d m.ty) m.x Ai)else none) 0 d.measures
def exp2(d:Ds):Option Flt:=Ar (λ_ m=>if BF d (BK d m.ty) m.x Au≠0 then some (m.name,-1,BF d (BK d m.ty) m.x Au)else none) 0 d.invs
def exp3(d:Ds):Option Flt:=Ar (λ_ m=>if BF d (BK d m.ty) m.x Ai≠0 then some (sPot,-1,BF d (BK d m.ty) m.x Ai)else none) 0 d.pots
def HW:Pr:=⟨sE,⟨none,0,0⟩,[],sE,⟨none,0,0⟩,[],⟨none,0,0⟩,[]⟩
def exp4(d:Ds):Option Flt:=Ar (λ_ m=>if BF d (EG d ((Cj d m.proc).getD HW)) m.x Ai≠0 then some (m.proc,-1,BF d (EG d ((Cj d m.proc).getD HW)) m.x Ai)else none) 0 d.bounds
def E5(d:Ds):Option Flt:=(exp1 d).or ((exp2 d).or ((exp3 d).or (exp4 d)))
def CS(d:Ds):Option Flt:=(FY d).or ((Fi d).or ((DW d).or ((E4 d).or (E5 d))))
def fltR(o:Option Flt):Flt:=o.getD (sE,0,0)
end Go.Proofs
namespace Go.Proofs
open Go Go.Sx
attribute [local irreducible] Go.Sx.Tri
noncomputable def ti(t:Nat):TypeInfo:=(xE.info? t).getD default
section
variable{α:Type}
def AppP(t e sz:Nat)(row:α->List Value):Prop:=∀{V0 V:Mem}{ty:Nat}{x y:Operand}{vals:Operand->Value}{s u:Sl}{xs ys:List α}(g:vals x=.slice s.p s.n s.c)(f:vals y=.slice u.p u.n u.c)(own:Sx.Own V0 V e sz s (xs.flatMap row))(h:Ad V u sz (ys.map row))
 (k:xs.length+ys.length<=2147483648) {q:Value->Mem->Prop} (w:∀s' V',Sx.Own V0 V' e sz s' ((xs++ys).flatMap row)->q (.slice s'.p s'.n s'.c) V'),
 GenK xE (.call {callee:=.builtin .append,args:=#[x,y],argTypes:=#[t,t]}) ty vals V q
theorem appG{t e sz:Nat}{row:α->List Value}(g:xE.underlying t=some (.slice e))(hi:xE.info? e=some (ti e))(f:(ti e).zero=some ((ti e).zero.getD undef))(h1:(ti e).size=sz)(h2:((ti e).zero.getD undef).cells.size=sz)(h3:decide ((ti e).bytes<=65536)=true)
  (w:0<sz) (z:∀x,(row x).length=sz) (hu:∀x,∀u∈row x,u.oneCell'=true):AppP t e sz row:=by
 intro V0 V ty x y vals s u xs n j i own h k q l;exact GenK.appendS g hi f h1 h2 w (of_decide_eq_true h3) j i own z h hu k l
end
theorem app194:AppP 194 9 1 Dj:=appG Tryz.underlying194 (by kernel_rfl) (by kernel_rfl) (by kernel_rfl) (by kernel_rfl) (by kernel_rfl) (by decide) (by intro _;rfl) λx u hu=>by simp[Dj,vS]at hu;rw[hu];rfl
theorem ET:AppP 28 112 2 Fld.row:=appG Tryz.underlying28 (by kernel_rfl) (by kernel_rfl) (by kernel_rfl) (by kernel_rfl) (by kernel_rfl) (by decide) (by intro _;rfl) λx u hu=>by simp[Fld.row,vS]at hu;rcases hu with rfl|rfl<;>rfl
def Ck{α:Type}(p:α->Bool)(xs:List α):Int:=match xs.findIdx? p with|some i=>(i:Int)|none=>-1
theorem HX{α:Type}{p:α->Bool}{xs:List α}{i:Nat}{x:α}(h:Bf (λy=>!p y) xs i)(k:xs[i]?=some x)(u:p x=true):Ck p xs=i:=by
 have g:=(yw.1 k).1;have w:=(yw.1 k).2;have:xs.findIdx? p=some i:=yg.2 ⟨g,by grind,λj f=>by
  have:=h j _ f (yv (Nat.lt_trans f g));simpa using this⟩
 unfold Ck;rw[this]
theorem HY{α:Type}{p:α->Bool}{xs:List α}{i:Nat}(h:Bf (λy=>!p y) xs i)(hi:xs.length<=i):Ck p xs=-1:=by
 have:xs.findIdx? p=none:=List.findIdx?_eq_none_iff.2 λx k=>by
  obtain⟨j,g,rfl⟩:=yd.1 k;have:=h j _ (by omega) (yv g);simpa using this
 unfold Ck;rw[this]
theorem CP{α:Type}(p:α->Bool)(xs:List α):(Ck p xs=-1/\xs.find? p=none/\xs.any p=false)∨∃(i:Nat)(x:α),Ck p xs=i/\xs[i]?=some x/\xs.find? p=some x/\i<xs.length/\p x=true/\x∈xs/\xs.any p=true/\(xs.take i).any p=false:=by
 cases h:xs.findIdx? p with
 |none=>
  grind[Ck]
 |some i=>
  obtain⟨k,g,u⟩:=yg.1 h;refine .inr ⟨i,xs[i],by unfold Ck;rw[h],yv k,?_,k,g,yo _,List.any_eq_true.2 ⟨_,yo _,g⟩,?_⟩
  ·rw[List.find?_eq_some_iff_getElem];grind
  ·rw[List.any_eq_false];intro x f;obtain⟨j,w,rfl⟩:=yd.1 f;grind
theorem HZ{α:Type}{p:α->Bool}{xs:List α}{i:Nat}{x:α}(h:Bf (λy=>!p y) xs i)(k:xs[i]?=some x)(g:p x=false):Bf (λy=>!p y) xs (i+1):=h.succ k (by simp[g])
theorem H0{V:Mem}{d:Ds}(h:Ds.Ok V d){s:KB}:PP 93 [d.v,.string s] V (.int .i64 (Ck (λt=>decide (t.name=s)) d.types)):=by
 refine Qs ?_;refine AU d.types.length (λi V1=>V=V1/\Bf (λt=>!decide (t.name=s)) d.types i) ⟨rfl,Bf.zero _ _⟩ ?_;rintro i b V1 J hi ⟨rfl,f⟩ j;refine⟨λk=>?_,λu=>?_⟩
 ·obtain⟨x,hm,z,l,n,y,m,g⟩:=h.types.get k;refine⟨y,m,k,Ak y,_,_,g,λw=>?_,λw=>⟨h.types.succ k,j n _ _ ⟨rfl,HZ (p:=λt=>decide (t.name=s)) f z (decide_eq_false w)⟩⟩⟩;rw[HX (p:=λt=>decide (t.name=s)) f z (decide_eq_true w)];simp_all
 ·rw[HY (p:=λt=>decide (t.name=s)) f (h.types.done u).2];exact⟨rfl,rfl⟩
theorem c136{V:Mem}{d:Ds}(h:Ds.Ok V d){s:KB}:PP 136 [d.v,.string s] V (.int .i64 (Ck (λt=>decide (t.name=s)) d.procs)):=by
 refine x136 ?_;refine AU d.procs.length (λi V1=>V=V1/\Bf (λt=>!decide (t.name=s)) d.procs i) ⟨rfl,Bf.zero _ _⟩ ?_;rintro i b V1 J hi ⟨rfl,f⟩ j;refine⟨λk=>?_,λu=>?_⟩
 ·obtain⟨x,hm,z,l,n,y,m,g⟩:=h.procs.get k;refine⟨y,m,k,Ak y,_,_,_,_,_,g,λw=>?_,λw=>⟨h.procs.succ k,j n _ _ ⟨rfl,HZ (p:=λt=>decide (t.name=s)) f z (decide_eq_false w)⟩⟩⟩;rw[HX (p:=λt=>decide (t.name=s)) f z (decide_eq_true w)];simp_all
 ·rw[HY (p:=λt=>decide (t.name=s)) f (h.procs.done u).2];exact⟨rfl,rfl⟩
theorem c269{V:Mem}{d:Ds}(h:Ds.Ok V d){s:KB}:PP 269 [d.v,.string s] V (.int .i64 (Ck (λt=>decide (t.name=s)) d.measures)):=by
 refine x269 ?_;refine AU d.measures.length (λi V1=>V=V1/\Bf (λt=>!decide (t.name=s)) d.measures i) ⟨rfl,Bf.zero _ _⟩ ?_;rintro i b V1 J hi ⟨rfl,f⟩ j;refine⟨λk=>?_,λu=>?_⟩
 ·obtain⟨x,hm,z,l,n,y,m,g⟩:=h.measures.get k;refine⟨y,m,k,Ak y,_,_,_,_,_,_,_,g,λw=>?_,λw=>⟨h.measures.succ k,j n _ _ ⟨rfl,HZ (p:=λt=>decide (t.name=s)) f z (decide_eq_false w)⟩⟩⟩;rw[HX (p:=λt=>decide (t.name=s)) f z (decide_eq_true w)];simp_all
 ·rw[HY (p:=λt=>decide (t.name=s)) f (h.measures.done u).2];exact⟨rfl,rfl⟩
section
variable{V:Mem}{d:Ds}
theorem c270(h:Ds.Ok V d){s:KB}:PP 270 [d.v,.string s] V (.bool (Ci d s)):=by
 refine x270 ?_;refine(H0 h).call ⟨_,rfl,?_⟩;rcases CP (λt:Ty=>decide (t.name=s)) d.types with⟨h1,h2,h3⟩|⟨i,x,h1,h2,h3,h4,g,f,k,_⟩;·rw[h1,Ci,h3];exact⟨rfl,rfl⟩
 ·rw[h1,Ci,k,decide_eq_true (by omega)];exact⟨rfl,rfl⟩
theorem c268(h:Ds.Ok V d){s:KB}:PP 268 [d.v,.string s] V (.bool (Bq d s)):=by
 refine x268 ?_;refine⟨λh1=>?_,λh1=>⟨λh2=>?_,λh2=>(c270 h).call ⟨_,rfl,?_⟩⟩⟩<;>simp[Bq,Ai,Au, *]
theorem c298(h:Ds.Ok V d){s t:KB}:PP 298 [d.v,.string s,.string t] V (.bool (BA d s t)):=by
 refine x298 ?_;unfold BA DP;refine⟨λh1=>?_,λh1=>⟨λh2=>(c270 h).call ⟨_,rfl,?_⟩,λh2=>?_⟩⟩;·simp_all
 ·simp_all
 simp_all
theorem Oc(fs:List Fld):DQ d [] fs=true:=by simp[DQ]
theorem c297{l:Sl}{xs:List Fld}(h:Ad V l 2 (xs.map Fld.row)){s:KB}:PP 297 [l.v,.string s] V (.string (B0 xs s)):=by
 refine x297 ?_;refine AU xs.length (λi V1=>V=V1/\B0 xs s=B0 (xs.drop i) s) ⟨rfl,rfl⟩ ?_;rintro i b V1 J hi ⟨rfl,z⟩ j;refine⟨λk=>?_,λu=>?_⟩
 ·obtain⟨x,hm,r,w,n,f,y,g⟩:=h.get k;rw[w,B0]at z;refine⟨f,y,k,Ak f,_,_,g,λm=>⟨f,y,k,Ak f,_,_,g,?_⟩,λm=>⟨h.succ k,j n _ _ ⟨rfl,?_⟩⟩⟩;·simp_all
  simp_all
 ·rw[z,(h.done u).1];exact⟨rfl,rfl⟩
theorem c299(h:Ds.Ok V d){s t:KB}:PP 299 [d.v,.string s,.string t] V (.tuple #[.string (Dz d s t).1,.int .i64 (Dz d s t).2]):=by
 refine x299 ?_;refine(H0 h).call ⟨_,rfl,?_⟩;unfold Dz Dy;rcases CP (λt:Ty=>decide (t.name=s)) d.types with⟨h1,h2,h3⟩|⟨i,x,h1,h2,h3,h4,m,w,r,_⟩;·rw[h1,h2];exact⟨λ_=>⟨rfl,rfl⟩,λh=>absurd h (by decide)⟩
 ·rw[h1,h3];have q:=h.types.n_eq;have k:(i:Int)<(d.ts.n:Int):=by omega
  obtain⟨y,hm,f,z,o,u,j,g⟩:=h.types.get k;rw[h2]at f;cases f;refine⟨λh=>absurd h (by omega),λ_=>⟨u,j,k,Ak u,_,_,g,(c297 (h.typesOk x w).fields).call ⟨_,rfl,λl=>?_,λl=>?_⟩⟩⟩;·grind[sE]
  grind[sE]
theorem c316{b:Bool}{s:KB}:PP 316 [.bool b,.string s] V (.tuple #[.string (DA b s).1,.int .i64 (DA b s).2]):=by
 refine x316 ?_;refine⟨λh=>?_,λh=>?_⟩;·unfold DA;rw[if_pos h];exact⟨rfl,rfl⟩
 ·unfold DA;rw[if_neg h];exact⟨rfl,rfl⟩
theorem c317{l:Sl}{xs:List KB}(h:Ad V l 1 (xs.map Dj)){s:KB}:PP 317 [l.v,.string s] V (.bool (allT xs s)):=by
 refine x317 ?_;refine AU xs.length (λi V1=>V=V1/\Bf (λx=>decide (x=s)) xs i) ⟨rfl,Bf.zero _ _⟩ ?_;rintro i b V1 J hi ⟨rfl,u⟩ z;refine⟨λk=>?_,λf=>?_⟩
 ·obtain⟨x,hm,y,j,n,m,r,g⟩:=h.get k;refine⟨m,r,k,_,g,λw=>⟨h.succ k,z n _ _ ⟨rfl,u.succ y (decide_eq_true w)⟩⟩,λw=>?_⟩;unfold allT;grind
 ·unfold allT;rw[u.all (h.done f).2];simp_all
theorem c295(h:Ds.Ok V d){s:KB}{l:Sl}{xs:List KB}(o:Ad V l 1 (xs.map Dj)):PP 295 [d.v,.string s,l.v] V (.tuple #[.string (Er d s xs).1,.int .i64 (Er d s xs).2]):=by
 refine x295 ?_;refine(c136 h).call ⟨_,rfl,?_⟩;unfold Er Cj;rcases CP (λt:Pr=>decide (t.name=s)) d.procs with⟨h1,h2,h3⟩|⟨i,x,h1,h2,h3,h4,D,Q,E,_⟩;·rw[h1,h2];exact⟨λ_=>⟨rfl,rfl⟩,λh=>absurd h (by decide)⟩
 ·rw[h1,h3];have K:=h.procs.n_eq;have k:(i:Int)<(d.ps.n:Int):=by omega
  obtain⟨y,hm,Y,P,O,A,I,z⟩:=h.procs.get k;rw[h2]at Y;cases Y;have m:=h.procsOk x Q;have S:=o.n_eq;have T:=m.params.n_eq;refine⟨λh=>absurd h (by omega),λ_=>⟨A,I,k,_,_,_,_,_,z,λM=>?_,λM=>?_⟩⟩
  ·have g:xs.length=x.params.length:=by omega
   simp only[g,ne_eq,not_true_eq_false,if_false];refine DN xs.length (λi V1=>V=V1/\DQ d xs x.params=DQ d (xs.drop i) (x.params.drop i)) ⟨rfl,rfl⟩ ?_;rintro j b c V1 J hi ⟨rfl,p⟩ F;refine⟨λk=>?_,λa=>?_⟩
   ·obtain⟨y,L,R,r,e,H,G,u⟩:=o.get k;obtain⟨f,X,B,N,C,q,Z,w⟩:=m.params.get (i:=j) (by omega);rw[r,N,DQ]at p;refine⟨H,G,k,_,u,q,Z,by omega,Ak q,_,_,w,(c298 h).call ⟨_,rfl,λW=>⟨o.succ k,F e _ _ _ ⟨rfl,?_⟩⟩,λW=>?_⟩⟩;·simp_all
    ·rw[eq_false_of_ne_true W,xS]at p;rw[p];exact⟨rfl,rfl⟩
   ·rw[(o.done a).1,Oc]at p;simp_all
  ·have g:¬xs.length=x.params.length:=by omega
   simp only[ne_eq,g,not_false_eq_true,if_true];exact⟨by rfl,by simp_all⟩
theorem Fj{l:Sl}{xs:List KB}(u:Ad V l 1 (xs.map Dj)){i:Nat}(hi:i<xs.length):¬(l.p=none)/\(i:Int)<(l.n:Int)/\V.rowp l.p i 1=some [.string (xs.getD i sE)]:=by
 have m:=u.n_eq;have k:(i:Int)<(l.n:Int):=by omega
 obtain⟨y,z,g,w,x,f,j,h⟩:=u.get k;rw[List.getD_eq_getElem?_getD,g];rw[Nat.mul_one]at h;exact⟨f,k,h⟩
theorem c315(h:Ds.Ok V d){sl:Sl}{sc:Sc}{s:KB}{l:Sl}{xs:List KB}(w:Ad V l 1 (xs.map Dj)):
  PP 315 [d.v,.agg #[sl.v,.bool sc.body],.string s,l.v] V (.tuple #[.string (Fh d sc s xs).1,.int .i64 (Fh d sc s xs).2]):=by
 refine x315 ?_;refine⟨λg=>(c295 h w).call ⟨_,_,rfl,λz=>⟨λh1=>?_,λh1=>?_⟩,λz=>?_⟩,λg=>?_⟩;·unfold Fh sE;rw[if_pos g,if_pos ⟨z,h1⟩];exact⟨rfl,rfl⟩
 ·unfold Fh sE;rw[if_pos g,if_neg (λh=>h1 h.2)];exact⟨rfl,rfl⟩
 ·unfold Fh;rw[if_pos g,if_neg (λh=>z h.1)];exact⟨rfl,rfl⟩
 ·unfold Fh;rw[if_neg g];refine(c269 h).call ⟨_,rfl,?_⟩;unfold FX meOf;rcases CP (λt:Ms=>decide (t.name=s)) d.measures with⟨h1,h2,h3⟩|⟨i,x,h1,h2,h3,h4,c,a,e,_⟩;·rw[h1,h2];exact⟨λ_=>⟨rfl,rfl⟩,λh=>absurd h (by decide)⟩
  ·rw[h1,h3];have H:=h.measures.n_eq;have f:(i:Int)<(d.ms.n:Int):=by omega
   obtain⟨y,hm,j,r,q,m,o,u⟩:=h.measures.get f;rw[h2]at j;cases j;have J:=w.n_eq;refine⟨λh=>absurd h (by omega),λ_=>⟨λp=>?_,λp=>?_⟩⟩
   ·have k:xs.length=1:=by omega
    obtain⟨a1,a2,a3⟩:=Fj w (i:=0) (by omega);simp only[k,ne_eq,not_true_eq_false,if_false];exact⟨a1,by omega,by omega,_,a3,m,o,f,Ak m,_,_,_,_,_,_,_,u,(c298 h).call ⟨_,rfl,c316.call ⟨_,_,rfl,rfl,rfl⟩⟩⟩
   ·have k:¬xs.length=1:=by omega
    simp only[ne_eq,k,not_false_eq_true,if_true];exact⟨by rfl,by simp_all⟩
end
theorem arity{op n:Int}{s:KB}{len:Int}(h:Dx op n s len=true):(op=5->len=1)/\(op=14∨op=15->len=2)/\(op=21->len=3)/\len<=6:=by
 grind[Dx,BS]
theorem JG{d:Int}{e:E}(h:Cz d e=true):Dx e.op e.n e.s e.k.length=true:=by
 cases e;unfold Cz at h;rw[zC,zC]at h;exact h.1.2
theorem okEs_mem{d:Int}:∀{l:List E},okEs d l=true->∀x∈l,Cz d x=true
 |[],_,x,k=>absurd k List.not_mem_nil
 |y::l,h,x,k=>by
  unfold okEs at h;rw[zC]at h;rcases List.mem_cons.1 k with rfl|k;·exact h.1
  ·exact okEs_mem h.2 x k
theorem KG{d:Int}{e:E}(h:Cz d e=true):∀x∈e.k,Cz (d+1) x=true:=by
 cases e;unfold Cz at h;rw[zC]at h;exact okEs_mem h.2
theorem ownS{V0 V:Mem}{s:Sl}{l:List KB}(h:Own V0 V 9 1 s (l.flatMap Dj)):Ad V s 1 (l.map Dj):=h.rows (λ_=>rfl) (by decide)
theorem JH{V:Mem}{b:Nat}{s:KB}{t:Nat}(h:V b=some (.cells #[.string s] t (0,0))):Ad V ⟨some ⟨b,0,none⟩,1,1⟩ 1 ([s].map Dj):=
 Ad.cells (xs:=[s]) (row:=Dj) h rfl (λ_=>rfl) rfl (by simp)
def IS(sl:Sl)(sc:Sc):Value:=.agg #[sl.v,.bool sc.body]
section
variable{V:Mem}{d:Ds}{sc:Sc}{sl:Sl}
def RefE(V:Mem)(d:Ds)(sl:Sl)(sc:Sc)(e:E):Prop:=∀V1,V.sub V1->PP 296 [d.v,IS sl sc,e.v] V1 (.tuple #[.string (As d sc e).1,.int .i64 (As d sc e).2])
theorem refParts(e:E)(G:E.Ok V e)(H:(e.k.length:Int)<=6)(N:∀x∈e.k,RefE V d sl sc x):
  Tri xE 294 #[d.v,IS sl sc,e.v] V λr V'=>∃s':Sl,r=.returned (.tuple #[.slice s'.p s'.n s'.c,.int .i64 (partsT d sc [] e.k).2])/\V.sub V'/\Ad V' s' 1 ((partsT d sc [] e.k).1.map Dj):=by
 have Z:=G.rows;refine x294 ?_;refine loop4s (mk:=λs:Sl=>.slice s.p s.n s.c) (mc:=.int .i64) (md:=λs:Sl=>.slice s.p s.n s.c) ⟨none,0,0⟩ 0 ⟨none,0,0⟩ Bw e.k.length (λi s V1=>∃acc,Own V V1 9 1 s (acc.flatMap Dj)/\partsT d sc [] e.k=partsT d sc acc (e.k.drop i)/\acc.length=i) ⟨[],Own.nil (Mem.sub.refl _) _ _,rfl,rfl⟩ ?_;rintro i b c s V1 J hi ⟨acc,g,f,w⟩ Y;have z:=Z.sub g.sub;refine⟨λy=>?_,λl=>?_⟩
 ·obtain⟨x,hm,O,m,W,q,Q,j⟩:=z.get y;rw[m,HV]at f;refine⟨q,Q,y,_,_,_,_,j,(N x hm V1 g.sub).call ⟨_,_,rfl,λo=>?_,λo=>?_⟩⟩
  ·intro b1 a;rw[if_neg (λh=>h o)]at f;refine app194 (s:=s) (u:=⟨some ⟨b1,0,none⟩,1,1⟩) (xs:=acc) (ys:=[(As d sc x).1]) rfl rfl (g.new a _) (JH Az) (by simp;omega) λs' V' P=>⟨s',rfl,z.succ y,Y W _ _ _ _ ⟨_,P,f,by simp[w]⟩⟩
  ·rw[if_pos o]at f;exact⟨⟨none,0,0⟩,by rw[f],g.sub,by rw[f];exact Ad.nil⟩
 ·rw[(z.done l).1,IQ]at f;exact⟨s,by rw[f],g.sub,by grind[ownS]⟩
set_option maxRecDepth 4000 in
theorem KH(hd:Ds.Ok V d)(I:Ad V sl 2 (sc.vars.map Fld.row)):∀(e:E),E.Ok V e->∀M,Cz M e=true->RefE V d sl sc e:=by
 intro e;induction e using E.ind with
 |h e ih=>
 intro U M Y V1 A;have c:=arity (JG Y);have hk:∀x∈e.k,RefE V1 d sl sc x:=λx F V2 h2=>ih x F (U.kids x F) (M+1) (KG Y x F) V2 (A.trans h2);refine Bv.mk (x296 ?_);refine Tri.mono (refParts e (U.sub A) c.2.2.2 hk) ?_;rintro _ V2 ⟨s',rfl,v,g⟩;rw[KE];have o:=Mn d sc e.k [];generalize hPT:partsT d sc [] e.k=pt at g o;obtain⟨l,f⟩:=pt;refine⟨s',f,rfl,λz=>?_,λz=>?_⟩
 ·subst z;have o:l.length=e.k.length:=by simp_all
  simp only[ne_eq,not_true_eq_false,if_false];have r:=hd.sub (A.trans v);have W:=I.sub (A.trans v);generalize w:EF d sc e.op e.s l=X;have key:∀a b,X=(a,b)->(xG (.tuple #[.string a,.int .i64 b])=xG (.tuple #[.string X.1,.int .i64 X.2])/\V1.sub V2):=λa b h=>by simp_all
  have i:=λt=>c317 g (s:=t);have u:=λa b=>c298 r (s:=a) (t:=b);have H:=λh:0<l.length=>Fj g h;have at1:=λh:1<l.length=>Fj g h;have at2:=λh:2<l.length=>Fj g h;unfold EF at w;refine⟨λy=>key _ _ ?_,λy=>⟨λj=>key _ _ ?_,λj=>⟨λn=>key _ _ ?_,λn=>⟨λm=>?_,λm=>⟨λq=>?_,λq=>⟨λp=>?_,λp=>⟨λJ=>?_,λJ=>⟨λL=>?_,λL=>⟨λR=>?_,λR=>⟨λB=>?_,λB=>⟨λC=>?_,λC=>⟨λD=>?_,λD=>⟨λK=>?_,λK=>⟨λS=>?_,λS=>⟨λG=>?_,λG=>?_⟩⟩⟩⟩⟩⟩⟩⟩⟩⟩⟩⟩⟩⟩⟩;·rw[<-w,if_pos y];rfl
  ·rw[<-w,if_neg y,if_pos j];rfl
  ·rw[<-w,if_neg y,if_neg j,if_pos n];rfl
  ·rw[if_neg y,if_neg j,if_neg n,if_pos m]at w;refine(c297 W).call ⟨_,rfl,λh=>key _ _ ?_,λh=>key _ _ ?_⟩;·grind[B0,sE]
   grind[B0,sE]
  ·rw[if_neg y,if_neg j,if_neg n,if_neg m,if_pos q]at w;obtain⟨a1,a2,a3⟩:=H (by omega);exact⟨a1,by omega,a2,_,a3,(c299 r).call ⟨_,_,rfl,key _ _ (by rw[<-w])⟩⟩
  ·rw[if_neg y,if_neg j,if_neg n,if_neg m,if_neg q,if_pos p]at w;refine⟨λT=>(c270 r).call ⟨_,rfl,λZ=>key _ _ ?_,λZ=>key _ _ ?_⟩,λT=>key _ _ ?_⟩;·simp_all
   ·rw[<-w,if_neg (by rw[T];simp),if_pos (eq_false_of_ne_true Z)];rfl
   ·rw[<-w,if_pos (eq_false_of_ne_true T)];rfl
  ·rw[if_neg y,if_neg j,if_neg n,if_neg m,if_neg q,if_neg p,if_pos J]at w;exact(c315 r (sl:=sl) g).call ⟨_,_,rfl,key _ _ (by rw[<-w])⟩
  iterate 2
   ·rw[if_neg y,if_neg j,if_neg n,if_neg m,if_neg q,if_neg p,if_neg J,if_pos (by omega)]at w;obtain⟨a1,a2,a3⟩:=H (by have:=c.2.1 (by omega);omega);obtain⟨b1,b2,b3⟩:=at1 (by have:=c.2.1 (by omega);omega);refine⟨a1,by omega,a2,_,a3,b1,by omega,b2,_,b3,(u _ _).call ⟨_,rfl,λh=>c316.call ⟨_,_,rfl,key _ _ ?_⟩,λh=>⟨b1,by omega,b2,_,b3,a1,by omega,a2,_,a3,(u _ _).call ⟨_,rfl,c316.call ⟨_,_,rfl,key _ _ ?_⟩⟩⟩⟩⟩;·rw[<-w,h];rfl
    ·rw[<-w,eq_false_of_ne_true h];rfl
  iterate 2
   ·rw[if_neg y,if_neg j,if_neg n,if_neg m,if_neg q,if_neg p,if_neg J,if_neg (by omega),if_pos (by omega)]at w;exact(i _).call ⟨_,rfl,c316.call ⟨_,_,rfl,key _ _ (by rw[<-w];rfl)⟩⟩
  iterate 3
   ·rw[if_neg y,if_neg j,if_neg n,if_neg m,if_neg q,if_neg p,if_neg J,if_neg (by omega),if_neg (by omega),if_pos (by omega)]at w;exact(i _).call ⟨_,rfl,c316.call ⟨_,_,rfl,key _ _ (by rw[<-w];rfl)⟩⟩
  ·rw[if_neg y,if_neg j,if_neg n,if_neg m,if_neg q,if_neg p,if_neg J,if_neg (by omega),if_neg (by omega),if_neg (by omega),if_pos G]at w;obtain⟨a1,a2,a3⟩:=H (by omega);obtain⟨b1,b2,b3⟩:=at1 (by omega);obtain⟨Q,P,c3⟩:=at2 (by omega);have O:∀t,(if l.getD 1 sE=DP then l.getD 2 sE else l.getD 1 sE)=t ->
     (l.getD 0 sE=Au->BA d (l.getD 1 sE) (l.getD 2 sE)=true->X=DA true t)/\(l.getD 0 sE=Au->¬BA d (l.getD 1 sE) (l.getD 2 sE)=true->X=DA (BA d (l.getD 2 sE) (l.getD 1 sE)) t)/\(¬l.getD 0 sE=Au->X=DA false t):=λt ht=>by
    grind
   refine⟨b1,by omega,b2,_,b3,λZ=>?_,λZ=>?_⟩
   ·have N:=O _ (if_pos Z);refine⟨Q,by omega,P,_,c3,a1,by omega,a2,_,a3,λz=>⟨b1,by omega,b2,_,b3,Q,by omega,P,_,c3,(u _ _).call ⟨_,rfl,λh=>c316.call ⟨_,_,rfl,key _ _ ?_⟩,λh=>⟨Q,by omega,P,_,c3,b1,by omega,b2,_,b3,(u _ _).call ⟨_,rfl,c316.call ⟨_,_,rfl,key _ _ ?_⟩⟩⟩⟩⟩,λz=>c316.call ⟨_,_,rfl,key _ _ ?_⟩⟩;·exact N.1 z h
    ·exact N.2.1 z h
    ·exact N.2.2 z
   ·have N:=O _ (if_neg Z);refine⟨a1,by omega,a2,_,a3,λz=>⟨b1,by omega,b2,_,b3,Q,by omega,P,_,c3,(u _ _).call ⟨_,rfl,λh=>c316.call ⟨_,_,rfl,key _ _ ?_⟩,λh=>⟨Q,by omega,P,_,c3,b1,by omega,b2,_,b3,(u _ _).call ⟨_,rfl,c316.call ⟨_,_,rfl,key _ _ ?_⟩⟩⟩⟩⟩,λz=>c316.call ⟨_,_,rfl,key _ _ ?_⟩⟩;·exact N.1 z h
    ·exact N.2.1 z h
    ·exact N.2.2 z
  ·rw[if_neg y,if_neg j,if_neg n,if_neg m,if_neg q,if_neg p,if_neg J,if_neg (by omega),if_neg (by omega),if_neg (by omega),if_neg G]at w;exact(i _).call ⟨_,rfl,c316.call ⟨_,_,rfl,key _ _ (by rw[<-w];rfl)⟩⟩
 ·simp only[ne_eq,z,not_false_eq_true,if_true];exact⟨rfl,v⟩
end
theorem ownF{V0 V:Mem}{s:Sl}{l:List Fld}(h:Own V0 V 112 2 s (l.flatMap Fld.row)):Ad V s 2 (l.map Fld.row):=h.rows (λ_=>rfl) (by decide)
theorem one_fld{V:Mem}{b:Nat}{f:Fld}{t:Nat}(h:V b=some (.cells #[.string f.name,.string f.ty] t (0,0))):Ad V ⟨some ⟨b,0,none⟩,1,1⟩ 2 ([f].map Fld.row):=
 Ad.cells (xs:=[f]) (row:=Fld.row) h rfl (λ_=>rfl) rfl (by simp)
section
variable{V:Mem}{d:Ds}
def Small(d:Ds):Prop:=d.globals.length<=1000/\∀p∈d.procs,p.params.length<=1000/\p.locals.length<=1000
theorem refInProc(j:Ds.Ok V d){p:Pr}(h:Pr.Ok V p)(h1:d.globals.length<=1000)(h2:p.params.length<=1000/\p.locals.length<=1000):
  Tri xE 293 #[d.v,p.v] V λr V'=>∃s':Sl,r=.returned (IS s' (Av d p))/\V.sub V'/\Ad V' s' 2 ((Av d p).vars.map Fld.row):=by
 refine x293 ?_;intro b i;have k:=Mem.sub_new i (.cells #[] 112 (0,0));refine ET (s:=⟨some ⟨b,0,none⟩,0,0⟩) (u:=p.ps) (xs:=[]) (ys:=p.params) rfl rfl (Own.empty k _ _ _) (h.params.sub k) (by grind) λg V1 f=>⟨g,rfl,?_⟩;refine ET (s:=g) (u:=p.ls) (xs:=p.params) (ys:=p.locals) rfl rfl f (h.locals.sub f.sub) (by omega) λw V2 z=>⟨w,rfl,?_⟩;refine ET (s:=w) (u:=d.gs) (xs:=p.params++p.locals) (ys:=d.globals) rfl rfl z (j.globals.sub z.sub) (by grind) λy l x=>⟨y,rfl,?_⟩;exact⟨y,rfl,x.sub,ownF x⟩
theorem refInBound(z:Ds.Ok V d){p:Pr}(y:Pr.Ok V p)(h1:d.globals.length<=1000)(h2:p.params.length<=1000/\p.locals.length<=1000):
  Tri xE 274 #[d.v,p.v] V λr V'=>∃s':Sl,r=.returned (IS s' (EG d p))/\V.sub V'/\Ad V' s' 2 ((EG d p).vars.map Fld.row):=by
 refine x274 ?_;intro b x;have h:=Mem.sub_new x (.cells #[] 112 (0,0));refine ET (s:=⟨some ⟨b,0,none⟩,0,0⟩) (u:=p.ps) (xs:=[]) (ys:=p.params) rfl rfl (Own.empty h _ _ _) (y.params.sub h) (by grind) λk V1 g=>⟨k,rfl,?_⟩;refine ET (s:=k) (u:=d.gs) (xs:=p.params) (ys:=d.globals) rfl rfl g (z.globals.sub g.sub) (by omega) λf j w=>⟨f,rfl,?_⟩;exact⟨f,rfl,w.sub,ownF w⟩
theorem Mo(f:Ds.Ok V d){t:KB}(h1:d.globals.length<=1000):
  Tri xE 273 #[d.v,.string t] V λr V'=>∃s':Sl,r=.returned (IS s' (BK d t))/\V.sub V'/\Ad V' s' 2 ((BK d t).vars.map Fld.row):=by
 refine x273 ?_;refine⟨λg=>?_,λg=>?_⟩
 ·refine ET (s:=⟨none,0,0⟩) (u:=d.gs) (xs:=[]) (ys:=d.globals) rfl rfl (Own.nil (Mem.sub.refl V) _ _) f.globals (by grind) λh V1 k=>⟨h,rfl,?_⟩;refine⟨h,rfl,k.sub,?_⟩;unfold BK sE;rw[if_pos g];exact ownF k
 ·intro b y;have x:=Mem.sub_new y (.cells #[.string (Ac [116,104,105,115]),.string t] 112 (0,0));refine ET (s:=⟨none,0,0⟩) (u:=⟨some ⟨b,0,none⟩,1,1⟩) (xs:=[]) (ys:=[⟨sThisF,t⟩]) rfl rfl (Own.nil x _ _) (one_fld Az) (by simp) λh V1 k=>⟨h,rfl,?_⟩;refine ET (s:=h) (u:=d.gs) (xs:=[⟨sThisF,t⟩]) (ys:=d.globals) rfl rfl k (f.globals.sub k.sub) (by grind) λw V2 z=>⟨w,rfl,?_⟩;refine⟨w,rfl,z.sub,?_⟩;unfold BK sE;rw[if_neg g];exact ownF z
theorem Od{op:Int}{s:KB}{es:List E}{u w:Int}(h:Dc op s es u w=true):(op=6->∃k,es=[k]/\k.op=7)/\(op=1∨op=3∨op=4->es.length=1)/\(op=2->es.length=2)/\(op=5->es.length<=1)/\es.length<=2/\(∀x∈es,Cz 1 x=true):=by
 unfold Dc at h;rw[zC]at h;obtain⟨h,hv⟩:=h;have g:∀x∈es,Cz 1 x=true:=λx z=>by
  grind[Bz]
 unfold GL at h;have f:op=6->∃k,es=[k]/\k.op=7:=λf=>by
  subst f;simp only[show ¬((6:Int)=1)by decide,show ¬((6:Int)=2)by decide,show ¬((6:Int)=3)by decide,show ¬((6:Int)=4)by decide,show ¬((6:Int)=5)by decide,if_false,if_true,decide_eq_true_eq]at h
  match es,h with
  |[k],h=>exact⟨k,rfl,h.2.2.1⟩
  |[],h=>simp at h
  |_::_::_,h=>simp at h;omega
 grind
theorem c271(hd:Ds.Ok V d){p:Pr}(hp:Pr.Ok V p)(h1:d.globals.length<=1000)(h2:p.params.length<=1000/\p.locals.length<=1000){x:S}(C:S.Ok V x)(hs:Dc x.op x.s x.es x.ls.length x.xs.length=true):
  PP 271 [d.v,p.v,x.v] V (.int .i64 (Ed d (Av d p) p.result x.op x.s x.es)):=by
 obtain⟨a6,a134,a2,a5,alen,Q⟩:=Od hs;rw[S.v_eq];refine Bv.mk (x271 ?_);refine Tri.mono (refInProc hd hp h1 h2) ?_;rintro _ V1 ⟨sv,rfl,z,o⟩;generalize P:Av d p=sc at o;have K:sc.body=true:=by rw[<-P];rfl
 have a:=hd.sub z;have hf:=KD (C.sub z);refine⟨sv,sc.body,rfl,λD=>?_,λD=>?_⟩
 ·obtain⟨O,e,-⟩:=a6 D;rcases hf with⟨h,-⟩|⟨e0',r,E,hn,A,T,m⟩;·simp_all
  ·rw[e]at E;cases E;have I:=Q O (by rw[e];simp);have M:=(C.sub z).eOk O (by rw[e];simp);have hk:∀y∈O.k,RefE V1 d sv sc y:=λy hy=>KH a o y (M.kids y hy) 2 (KG I y hy);refine⟨A,by omega,by omega,_,_,_,_,m,Tri.mono (refParts O M (arity (JG I)).2.2.2 hk) ?_⟩;rintro _ V2 ⟨s',rfl,H,g⟩;unfold Ed;rw[if_pos D,e];simp only;generalize hPT:partsT d sc [] O.k=pt at g;obtain⟨l,f⟩:=pt;have Z:=H.rowp m;refine⟨s',f,rfl,λq=>⟨A,by omega,by omega,T,_,_,_,_,Z,(c295 (a.sub H) g).call ⟨_,_,rfl,?_,z.trans H⟩⟩,λq=>?_⟩;·simp_all
   ·simp only[q,ne_eq,not_false_eq_true,if_true];exact⟨by trivial,z.trans H⟩
 ·unfold Ed;rw[if_neg D];have hr:=(C.sub z).eRows;refine Hl (mk:=.int .i64) (mc:=λs:Sl=>.slice s.p s.n s.c) 0 ⟨none,0,0⟩ Bw x.es.length (λi s V2=>∃acc,Own V1 V2 9 1 s (acc.flatMap Dj)/\partsT d sc [] x.es=partsT d sc acc (x.es.drop i)/\acc.length=i) ⟨[],Own.nil (Mem.sub.refl _) _ _,rfl,rfl⟩ ?_;rintro i b s V2 J hi ⟨acc,w,j,Y⟩ hJ;have G:=hr.sub w.sub;refine⟨λW=>?_,λF=>?_⟩
  ·obtain⟨y,hm,hxy,U,hl,hpp,hz,m⟩:=G.get W;rw[U,HV]at j;refine⟨hpp,hz,W,_,_,_,_,m,(KH a o y ((C.sub z).eOk y hm) 1 (Q y hm) V2 w.sub).call ⟨_,_,rfl,λq=>?_,λq=>?_⟩⟩
   ·intro b1 hb1;rw[if_neg (λh=>h q)]at j;refine app194 (s:=s) (u:=⟨some ⟨b1,0,none⟩,1,1⟩) (xs:=acc) (ys:=[(As d sc y).1]) rfl rfl (w.new hb1 _) (JH Az) (by grind) λs' V' ho=>⟨s',rfl,G.succ W,hJ hl _ _ _ ⟨_,ho,j,by simp[Y]⟩⟩
   ·rw[if_pos q]at j;rw[j];simp only[q,ne_eq,not_false_eq_true,if_true];exact⟨by trivial,z.trans w.sub⟩
  ·have hge':=(G.done F).2;rw[(G.done F).1,IQ]at j;rw[j];simp only[ne_eq,not_true_eq_false,if_false];have g:=ownS w;have hal:acc.length=x.es.length:=by omega
   have hsub:=z.trans w.sub;have N:=a.sub w.sub;have L:=o.sub w.sub;have sln:=g.n_eq;have R:=λh:0<acc.length=>Fj g h;have at1:=λh:1<acc.length=>Fj g h;have key:∀X n:Int,X=n->(xG (.int .i64 n)=xG (.int .i64 X)/\V.sub V2):=λX n h=>by simp_all
   refine⟨λo1=>(c297 L).call ⟨_,rfl,λhl=>key _ _ ?_,λhl=>?_⟩,λo1=>⟨λo2=>?_,λo2=>⟨λo3=>?_,λo3=>⟨λo4=>?_,λo4=>⟨λo5=>?_,λo5=>key _ _ ?_⟩⟩⟩⟩⟩;·grind[B0,sE]
   ·obtain⟨b1,b2,b3⟩:=R (by omega);refine⟨b1,by omega,b2,_,b3,(c298 N).call ⟨_,rfl,λB=>key _ _ ?_,λB=>key _ _ ?_⟩⟩;·grind[B0,sE]
    grind[B0,sE]
   ·obtain⟨b1,b2,b3⟩:=R (by omega);obtain⟨c1,c2,c3⟩:=at1 (by omega);rw[if_neg o1,if_pos o2];refine⟨b1,by omega,b2,_,b3,(c299 N).call ⟨_,_,rfl,λB=>⟨c1,by omega,c2,_,c3,(c298 N).call ⟨_,rfl,λhc=>key _ _ ?_,λhc=>key _ _ ?_⟩⟩,λB=>key _ _ ?_⟩⟩;·simp_all
    ·simp_all
    omega
   ·grind[Au]
   ·grind[Au]
   ·have h5:=a5 o5;rw[if_neg o1,if_neg o2,if_neg (by omega),if_pos o5];have rest:¬(acc.length=0)->((s.n:Int)=1)/\¬(s.p=none)/\(0:Int)<(s.n:Int)/\V2.rowp s.p 0 1=some [.string (acc.getD 0 sE)]:=λh=>by
     grind
    refine⟨λhn=>?_,λhn=>?_⟩;·grind[sE,absurd]
    ·have q:¬acc.length=0:=by omega
     obtain⟨r1,r2,r3,r4⟩:=rest q;rw[if_neg q];refine⟨λ_=>⟨λE=>key _ _ (by grind[sE]),λE=>⟨r2,by omega,r3,_,r4,(c298 N).call ⟨_,rfl,λB=>key _ _ ?_,λB=>key _ _ ?_⟩⟩⟩,λh=>absurd r1 h⟩;·grind[sE]
     simp_all
   omega
end
end Go.Proofs
