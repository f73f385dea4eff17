/- Part 9: no statement of the seat is proved here. -/
import Derived.Test.YtejinebghgaigaaGreatDoorPc08
set_option linter.unusedVariables false
set_option linter.unusedSimpArgs false
open Go.Proofs.Tryz renaming prog->xG
open Go.Ending renaming returned->xI
open List renaming getElem?_eq_some_iff->yu,any_eq_not_all_not->xS,mem_iff_getElem->ya,getElem?_eq_getElem->yr,length_cons->zy,findIdx?_eq_some_iff_getElem->ye,getElem_mem->ym
open Bool renaming true_and->xR,false_and->xT,and_eq_true->zC
open And renaming intro->xJ
namespace Go.Proofs
open Go Go.Sx
attribute [local irreducible] Go.Sx.Tri
mutual
def Cv(d:Int):E->Bool|.mk op n s _ k=>decide (d<=60)&&DB op n s k.length&&okEs (d+1) k
def okEs(d:Int):List E->Bool|[]=>true|x::xs=>Cv d x&&okEs d xs
end
mutual
def AB:E->Nat|.mk _ _ _ _ k=>1+szEs k
def szEs:List E->Nat|[]=>0|x::xs=>AB x+szEs xs
end
mutual
def cntE(d:Int):E->Int|.mk op n s _ k=>if 60<d then 1001 else if DB op n s k.length=true then Ec (d+1) 1 k else 1001
def Ec(d acc:Int):List E->Int|[]=>acc|x::xs=>if 1000<acc+cntE d x then acc+cntE d x else Ec d (acc+cntE d x) xs
end
mutual
def vE(left d:Int):E->Bool×Int|.mk op n s _ k=>if 0<=left-1/\d<=60/\DB op n s k.length=true then Ep (left-1) (d+1) k else(false,left-1)
def Ep(left d:Int):List E->Bool×Int|[]=>(true,left)|x::xs=>if(vE left d x).1=true then Ep (vE left d x).2 d xs else(false,(vE left d x).2)
end
def By(e:E):Bool:=decide (Cv 1 e=true/\AB e<=1000)
mutual
theorem vE_ok:∀(left d:Int)(e:E),((vE left d e).1=true↔Cv d e=true/\(AB e:Int)<=left)/\((vE left d e).1=true->(vE left d e).2=left-AB e)
 |left,d,.mk op n s l k=>by
  have h:=vEs_ok (left-1) (d+1) k;grind[vE,Cv,AB]
theorem vEs_ok:∀(left d:Int)(k:List E),0<=left->((Ep left d k).1=true↔okEs d k=true/\(szEs k:Int)<=left)/\((Ep left d k).1=true->(Ep left d k).2=left-szEs k)
 |left,d,[],h=>by simp[Ep,okEs,szEs,h]
 |left,d,x::xs,h=>by
  have h1:=vE_ok left d x;have h2:=vEs_ok (vE left d x).2 d xs;grind[Ep,okEs,szEs]
end
mutual
theorem cntE_ok:∀(d:Int)(e:E),1<=cntE d e/\(cntE d e<=1000↔Cv d e=true/\AB e<=1000)/\(cntE d e<=1000->cntE d e=AB e)/\cntE d e<=1001+1000*(61-d).toNat
 |d,.mk op n s l k=>by
  have h:=cntEs_ok (d+1) 1 k (by omega) (by omega);grind[cntE,Cv,AB]
theorem cntEs_ok:∀(d acc:Int)(k:List E),1<=acc->acc<=1000->acc<=Ec d acc k/\(Ec d acc k<=1000↔okEs d k=true/\acc+szEs k<=1000)/\(Ec d acc k<=1000->Ec d acc k=acc+szEs k)/\Ec d acc k<=2001+1000*(61-d).toNat
 |d,acc,[],h,g=>by simp[Ec,okEs,szEs];omega
 |d,acc,x::xs,h,g=>by
  have h1:=cntE_ok d x;have h2:=cntEs_ok d (acc+cntE d x) xs (by omega);grind[Ec,okEs,szEs]
end
theorem validE_cnt(e:E):decide (cntE 1 e<=1000)=By e:=by
 simp_all[cntE_ok,By]
theorem validE_v(e:E):(vE 1000 1 e).1=By e:=by
 grind[vE_ok,By]
theorem vE_bound{left d:Int}{e:E}(h:(vE left d e).1=true):0<=(vE left d e).2/\(vE left d e).2<=left:=by
 grind[vE_ok]
theorem cntE_eq(d:Int)(e:E):cntE d e=if 60<d then 1001 else if DB e.op e.n e.s e.k.length=true then Ec (d+1) 1 e.k else 1001:=by
 cases e;unfold cntE;rfl
theorem vE_eq(left d:Int)(e:E):vE left d e=if 0<=left-1/\d<=60/\DB e.op e.n e.s e.k.length=true then Ep (left-1) (d+1) e.k else(false,left-1):=by
 cases e;unfold vE;rfl
theorem cntEs_cons(d acc:Int)(x:E)(xs:List E):Ec d acc (x::xs)=if 1000<acc+cntE d x then acc+cntE d x else Ec d (acc+cntE d x) xs:=by rw[Ec]
theorem vEs_cons(left d:Int)(x:E)(xs:List E):Ep left d (x::xs)=if(vE left d x).1=true then Ep (vE left d x).2 d xs else(false,(vE left d x).2):=by rw[Ep]
theorem cntEs_nil(d acc:Int):Ec d acc []=acc:=by rw[Ec]
theorem vEs_nil(left d:Int):Ep left d []=(true,left):=by rw[Ep]
theorem c247{V:Mem}:∀e:E,E.Ok V e->∀d:Int,0<=d->d<=61->PP 247 [e.v,.int .i64 d] V (.int .i64 (cntE d e)):=by
 intro e;induction e using E.ind with
 |h e n=>
 intro j d m a;have f:=j.rows;refine x247 ?_;refine⟨λh=>?_,λh=>(c278 (e:=e) rfl).call ⟨_,rfl,λu=>?_,λu=>?_⟩⟩;·rw[cntE_eq,if_pos h];exact⟨rfl,rfl⟩
 ·rw[f.n_eq]at u;rw[cntE_eq,if_neg h,if_pos u];refine loop3s Cu e.k.length (λi acc V1=>V1=V/\1<=acc/\acc<=1000/\Ec (d+1) 1 e.k=Ec (d+1) acc (e.k.drop i)) ⟨rfl,by omega,by omega,rfl⟩ ?_;rintro i acc c _ J hi ⟨rfl,r,s,l⟩ H;refine⟨λg=>?_,λz=>?_⟩
  ·obtain⟨x,hm,G,y,N,q,o,w⟩:=f.get g;have Z:=cntE_ok (d+1) x;rw[y,cntEs_cons]at l;refine⟨q,o,g,_,_,_,_,w,⟨by omega,by omega⟩,(n x hm (j.kids x hm) (d+1) (by omega) (by omega)).call ⟨_,rfl,⟨by omega,by omega⟩,λp=>?_,λp=>⟨f.succ g,?_⟩⟩⟩;·simp_all
   grind
  ·rw[(f.done z).1,cntEs_nil]at l;simp_all
 ·rw[f.n_eq]at u;rw[cntE_eq,if_neg h,if_neg u];exact⟨rfl,rfl⟩
theorem c203{V:Mem}{e:E}(h:E.Ok V e):PP 203 [e.v] V (.bool (By e)):=by
 refine x203 ?_;refine(c247 e h 1 (by omega) (by omega)).call ⟨_,rfl,?_⟩;rw[validE_cnt];simp_all
theorem c214{V:Mem}{b t:Nat}{n:Int}(h:V b=some (cell (.int .i64 n) t))(k:-1000<=n)(h1:n<=100000):
  Tri xG 214 #[pv b] V λe V'=>e=.returned (.bool (decide (0<=n-1)))/\V'=V.set b (cell (.int .i64 (n-1)) t):=by
 refine x214 ?_;refine⟨by simp,by simp,_,AG h,⟨by omega,by omega⟩,by simp,by simp,An.cell h ⟨by simp,by simp,_,AG Az,rfl,rfl⟩⟩
set_option maxRecDepth 10000 in
theorem c212{V0:Mem}[C:Tab V0]{b t:Nat}(w:V0 b=none):∀e:E,E.Ok V0 e->∀(V:Mem),V0.sub V->∀left d:Int,V b=some (cell (.int .i64 left) t)->0<=left->left<=1000->0<=d->d<=61 ->
    Tri xG 212 #[e.v,.int .i64 d,pv b] V λr V'=>r=.returned (.bool (vE left d e).1)/\V'=V.set b (cell (.int .i64 (vE left d e).2) t):=by
  intro e;induction e using E.ind with
  |h e D=>
  intro R V J left d K S T U hd;have X:=R.rows;have hn:=X.n_eq;refine Tri.less (x212 ?_);refine c253.call ⟨_,_,rfl,Tri.mono (c214 K (by omega) (by omega)) ?_⟩;rintro _ _ ⟨rfl,rfl⟩;refine⟨_,rfl,?_⟩;have u:¬(0<=left-1/\d<=60/\DB e.op e.n e.s e.k.length=true)->∃W,(xI (.bool false)=xI (.bool (vE left d e).1)/\W=V.set b (cell (.int .i64 (vE left d e).2) t))/\W.sub (V.set b (cell (.int .i64 (left-1)) t)):=by
    intro h;rw[vE_eq,if_neg h];exact⟨_,⟨rfl,rfl⟩,Mem.sub.refl _⟩
  have f:(0<=left-1/\d<=60/\DB e.op e.n e.s e.k.length=true)->Ag [(.int .i64 d)] 3 (V.set b (cell (.int .i64 (left-1)) t)) fun G V4 =>
        Ag [(pv b)] 267 V4 λN V5=>
        Tri xG 216 #[(.slice e.l.p e.l.n e.l.c),(.func (.func 255) #[] #[(.pointer (Aa G 0)),(.pointer (Aa N 0))])] V5 λr V6=>∃q:Bool,r=.returned (.bool q)/\
        ∃W,(xI (.bool (!q))=xI (.bool (vE left d e).1)/\W=V.set b (cell (.int .i64 (vE left d e).2) t))/\W.sub V6:=by
    intro h b1 z b2 y;rw[vE_eq,if_pos h];have n1:b≠b1:=λe=>by grind[Mem.set_same]
    have n2:b1≠b2:=λe=>by grind[Mem.set_same]
    have n3:b≠b2:=λe=>by grind[Mem.set_ne,Mem.set_same]
    rw[Mem.set_ne (λe=>n1 e.symm)]at z;rw[Mem.set_ne (λe=>n2 e.symm),Mem.set_ne (λe=>n3 e.symm)]at y;have v1:V0 b1=none:=by cases Z:V0 b1 with
      |none=>rfl
      |some x=>rw[J _ _ Z]at z;cases z
    have v2:V0 b2=none:=by cases Z:V0 b2 with
      |none=>rfl
      |some x=>rw[J _ _ Z]at y;cases y
    let M:Int->Mem:=λg=>((V.set b (cell (.int .i64 g) t)).set b1 (cell (.int .i64 d) 3)).set b2 (cell (pv b) 267);have B:∀g,V0.sub (M g):=λg=>((J.set w _).set v1 _).set v2 _;have Y:∀g,M g b=some (cell (.int .i64 g) t):=λg=>by grind[Mem.set_ne,Mem.set_same]
    have Q:∀g,M g b1=some (cell (.int .i64 d) 3):=λg=>by grind[Mem.set_ne,Mem.set_same]
    have P:∀g,M g b2=some (cell (pv b) 267):=λg=>by grind[Mem.set_same]
    have hMs:∀g j,(M g).set b (cell (.int .i64 j) t)=M j:=λg j=>by
      grind[Mem.set_comm,Mem.set_set]
    have hW:∀g,(V.set b (cell (.int .i64 g) t)).sub (M g):=λg=>by
      refine((Mem.sub.refl _).set ?_ _).set ?_ _;· grind[Mem.set_ne]
      grind[Mem.set_ne]
    refine Tri.mono (g216 (l:=e.l) (xs:=e.k) (first:=[]) (caps:=[pv b1,pv b2]) Tryz.call255
      (λi V1=>∃g,V1=M g/\0<=g/\g<=1000/\Ep (left-1) (d+1) e.k=Ep g (d+1) (e.k.drop i)) (λi V1=>∃g,V1=M g/\Ep (left-1) (d+1) e.k=(false,g)) ?_ ⟨left-1,rfl,by omega,by omega,rfl⟩ ?_) ?_
    · rintro i _ ⟨g,rfl,-⟩;exact X.sub (B g)
    · rintro i x _ O ⟨g,rfl,o,a,m⟩;have hm:=List.mem_of_getElem? O;have A:=(yu.1 O).1;have I:e.k.drop i=x::e.k.drop (i+1):=by rw[List.drop_eq_getElem_cons A,(yu.1 O).2]
      rw[I,vEs_cons]at m;refine x255 ?_;refine⟨_,AG (Q g),⟨by omega,by omega⟩,_,AG (P g),Tri.mono (D x hm (R.kids x hm) (M g) (B g) g (d+1) (Y g) o a (by omega) (by omega)) ?_⟩;rintro _ _ ⟨rfl,rfl⟩;refine⟨_,rfl,_,rfl,λw=>?_,λw=>?_⟩;· simp_all
      · have w:(vE g (d+1) x).1=true:=by simpa using w
        have:=vE_bound w;grind
    · rintro _ _ (⟨i,rfl,g,rfl,m⟩|⟨rfl,g,rfl,o,a,m⟩);· simp_all
      · rw[List.drop_length,vEs_nil]at m;exact⟨_,rfl,_,⟨by rw[m];rfl,rfl⟩,by rw[m];exact hW g⟩
  have key:DB e.op e.n e.s e.k.length=(decide (BO e.op≠-2/\(0<=BO e.op->(e.k.length:Int)=BO e.op)/\(BO e.op=-1->(e.k.length:Int)<=6))&&(Fp e.op e.s&&numB e.op e.n)):=by grind[DB]
  have pr:-2<=BO e.op:=by unfold BO;grind
  rw[key]at u f;have F:(e.k.length:Int)=(e.l.n:Int):=by rw[hn]
  rw[F]at u f;generalize hkn:(e.l.n:Int)=kn at u f⊢;generalize hpn:BO e.op=pn at u f pr⊢;generalize L:(Fp e.op e.s&&numB e.op e.n)=nm at u f⊢;haveI:Tab (V.set b (cell (.int .i64 (left-1)) t)):=Tab.sub C (J.set w _);refine⟨λh8=>⟨λH=>u λh=>absurd h.2.1 (Int.not_le.2 H),λH=>⟨λh7=>(c254 (e:=e)).call ⟨nm,by rw[L],λh9=>?_,λh9=>u ?_⟩,λh7=>u ?_⟩⟩,λh8=>u ?_⟩;· grind
  · simp_all
  · simp_all
  grind
theorem c160{V:Mem}[Tab V]{e:E}(h:E.Ok V e):PP 160 [e.v] V (.bool (By e)):=by
 refine Bf.mk (x160 ?_);intro b k;refine Tri.mono (c212 k e h _ (Mem.sub_new k _) 1000 1 Az (by omega) (by omega) (by omega) (by omega)) ?_;rintro _ _ ⟨rfl,rfl⟩;rw[validE_v,Mem.set_set];exact⟨_,rfl,rfl,Mem.sub_new k _⟩
def JD:List E->Int|[]=>0|e::_=>e.op
def GR(op:Int)(s:KB)(es:List E)(k h:Int):Bool:=
 if op=1 then BT s&&decide ((es.length:Int)=1/\k=0/\h=0)else if op=2 then BT s&&decide ((es.length:Int)=2/\k=0/\h=0)else if op=3 then decide (s=Ac []/\(es.length:Int)=1)
 else if op=4 then decide (s=Ac []/\(es.length:Int)=1/\h=0)else if op=5 then decide (s=Ac []/\(es.length:Int)<=1/\k=0/\h=0)else if op=6 then decide (s=Ac []/\(es.length:Int)=1/\JD es=7/\k=0/\h=0)else false
def Dg(op:Int)(s:KB)(es:List E)(h k:Int):Bool:=GR op s es h k&&es.all By
theorem c277{V:Mem}{s:S}(h:S.Ok V s){lo hi:Int}:PP 277 [s.v,.int .i64 lo,.int .i64 hi] V (.bool (decide (lo<=s.es.length/\(s.es.length:Int)<=hi)&&s.es.all By)):=by
 have f:=h.eRows;have q:=f.n_eq;rw[show s.v=.agg #[.int .i64 s.op,.string s.s,.slice s.el.p s.el.n s.el.c,.slice s.ll.p s.ll.n s.ll.c,.slice s.xl.p s.xl.n s.xl.c]by unfold S.v;rw[S.row_eq];rfl];refine x277 ?_;refine⟨λh1=>?_,λh1=>⟨λh2=>?_,λh2=>?_⟩⟩;·grind
 ·grind
 ·rw[decide_eq_true (by omega),xR];refine AR s.es.length (λi V1=>V1=V/\s.es.all By=(s.es.drop i).all By) ⟨rfl,rfl⟩ ?_;rintro i b _ J hi ⟨rfl,w⟩ z;refine⟨λk=>?_,λy=>?_⟩
  ·obtain⟨x,hm,o,u,j,l,m,g⟩:=f.get k;rw[u,List.all_cons]at w;refine⟨l,m,k,_,_,_,_,g,(c203 (h.eOk x hm)).call ⟨_,rfl,λr=>⟨f.succ k,z j _ _ ⟨rfl,?_⟩⟩,λr=>?_⟩⟩;·simp_all
   simp_all
  grind
theorem Kz{V:Mem}{s:S}(h:S.Ok V s):(s.es=[]/\s.el.n=0)∨∃k r,s.es=k::r/\0<s.el.n/\¬(s.el.p=none)/\¬(Aa s.el.p 0=none)/\V.rowp s.el.p 0 4=some [.int .i64 k.op,.int .i64 k.n,.string k.s,.slice k.l.p k.l.n k.l.c]:=by
 have u:=h.eRows;have m:=u.n_eq;cases g:s.es with
 |nil=>simp_all
 |cons k r=>
  have j:((0:Nat):Int)<(s.el.n:Int):=by simp_all
  obtain⟨x,hm,f,i,q,w,o,z⟩:=u.get j;rw[g]at f;simp only[List.getElem?_cons_zero,Option.some.injEq]at f;subst f;refine .inr ⟨k,r,rfl,by omega,w,λe=>?_,?_⟩
  ·cases y:s.el.p with
   |none=>exact w y
   |some a=>rw[y]at e;cases e
  grind[E.row,vI,vS,Sl.v]
set_option maxRecDepth 4000 in
theorem c246{V:Mem}{s:S}(h:S.Ok V s):PP 246 [s.v] V (.bool (Dg s.op s.s s.es s.ls.length s.xs.length)):=by
 have m:=Kz h;have cx:=λlo hi=>c277 h (lo:=lo) (hi:=hi);have z:=h.lRows.n_eq;have y:=h.xRows.n_eq;rw[show s.v=.agg #[.int .i64 s.op,.string s.s,.slice s.el.p s.el.n s.el.c,.slice s.ll.p s.ll.n s.ll.c,.slice s.xl.p s.xl.n s.xl.c]by unfold S.v;rw[S.row_eq];rfl]at cx⊢;refine x246 ?_;rw[<-z,<-y];generalize x:Dg s.op s.s s.es s.ll.n s.xl.n=X;have key:∀b:Bool,X=b->xI (.bool b)=xI (.bool X):=λn h=>by rw[h]
 unfold Dg GR at x;generalize f:s.es.all By=va at cx;rcases m with⟨w,q⟩|⟨e0,r,w,q,o,j,u⟩
 ·have k:(s.es.length:Int)=0:=by rw[w];rfl
  have i:s.es.length=0:=by rw[w];rfl
  rw[k]at cx;rw[f,k]at x
  repeat' (first|refine c139.call ⟨_,rfl,?_⟩|refine(cx _ _).call ⟨_,rfl,?_⟩|apply xJ|intro _)
  all_goals first|rfl|(refine key _ ?_;clear key cx;grind)|(exfalso;clear key cx;grind)
 ·have l:JD s.es=e0.op:=by rw[w];rfl
  generalize k:(s.es.length:Int)=len at cx;rw[f,k,l]at x;have a:0<len:=by grind
  have e:(s.el.n:Int)=len:=by rw[<-k,h.eRows.n_eq]
  have c11:=cx 1 1;have c22:=cx 2 2;have g:=cx 0 1;rw[show decide (1<=len/\len<=1)=decide (len=1)by grind]at c11;rw[show decide (2<=len/\len<=2)=decide (len=2)by grind]at c22;rw[show decide (0<=len/\len<=1)=decide (len<=1)by grind]at g
  repeat' (first|refine c139.call ⟨_,rfl,?_⟩|refine c11.call ⟨_,rfl,?_⟩|refine c22.call ⟨_,rfl,?_⟩|refine g.call ⟨_,rfl,?_⟩|refine⟨_,_,_,_,u,?_⟩|exact o|exact j|apply xJ|intro _)
  all_goals first|rfl|(refine key _ ?_;clear key cx c11 c22 g;grind)|omega|(exfalso;clear key cx c11 c22 g;grind)
mutual
def Er(d:Int):S->Bool|.mk op s _ es _ ls _ xs=>decide (d<=60)&&Dg op s es ls.length xs.length&&CG (d+1) ls&&CG (d+1) xs
def CG(d:Int):List S->Bool|[]=>true|x::xs=>Er d x&&CG d xs
end
mutual
def EG:S->Nat|.mk _ _ _ _ _ ls _ xs=>1+CA ls+CA xs
def CA:List S->Nat|[]=>0|x::xs=>EG x+CA xs
end
mutual
def cntS(d acc:Int):S->Int
 |.mk op s _ es _ ls _ xs=>
  if 60<d then 201 else if Dg op s es ls.length xs.length=true then
    if acc+1<=200 then
      if acc+1+CH (d+1) 0 ls<=200 then acc+1+CH (d+1) 0 ls+CH (d+1) 0 xs else acc+1+CH (d+1) 0 ls
    else acc+1
  else 201
def CH(d acc:Int):List S->Int|[]=>acc|x::xs=>if 200<cntS d acc x then cntS d acc x else CH d (cntS d acc x) xs
end
def gd{α:Type}(d left:Int)(l:List α)(r:Bool×Int):Bool×Int:=if 60<d/\l≠[]then(false,left)else r
mutual
def vS(left d:Int):S->Bool×Int
 |.mk op s _ es _ ls _ xs=>
  if 0<=left-1/\Dg op s es ls.length xs.length=true then
    if(gd (d+1) (left-1) ls (Dn (left-1) (d+1) ls)).1=true then
      gd (d+1) (gd (d+1) (left-1) ls (Dn (left-1) (d+1) ls)).2 xs (Dn (gd (d+1) (left-1) ls (Dn (left-1) (d+1) ls)).2 (d+1) xs)
    else(false,(gd (d+1) (left-1) ls (Dn (left-1) (d+1) ls)).2)
  else(false,left-1)
def Dn(left d:Int):List S->Bool×Int|[]=>(true,left)|x::xs=>if(vS left d x).1=true then Dn (vS left d x).2 d xs else(false,(vS left d x).2)
end
def Es(left d:Int)(l:List S):Bool×Int:=gd d left l (Dn left d l)
theorem vSs_cons(left d:Int)(x:S)(xs:List S):Dn left d (x::xs)=if(vS left d x).1=true then Dn (vS left d x).2 d xs else(false,(vS left d x).2):=by rw[Dn]
theorem vSs_nil(left d:Int):Dn left d []=(true,left):=by rw[Dn]
theorem cntSs_cons(d acc:Int)(x:S)(xs:List S):CH d acc (x::xs)=if 200<cntS d acc x then cntS d acc x else CH d (cntS d acc x) xs:=by rw[CH]
theorem cntSs_nil(d acc:Int):CH d acc []=acc:=by rw[CH]
theorem vS_eq(left d:Int)(x:S):vS left d x=if 0<=left-1/\Dg x.op x.s x.es x.ls.length x.xs.length=true then(if(Es (left-1) (d+1) x.ls).1=true then Es (Es (left-1) (d+1) x.ls).2 (d+1) x.xs else(false,(Es (left-1) (d+1) x.ls).2))else(false,left-1):=by
 cases x;unfold vS;rfl
theorem cntS_eq(d acc:Int)(x:S):cntS d acc x=if 60<d then 201 else if Dg x.op x.s x.es x.ls.length x.xs.length=true then
  if acc+1<=200 then
   if acc+1+CH (d+1) 0 x.ls<=200 then acc+1+CH (d+1) 0 x.ls+CH (d+1) 0 x.xs else acc+1+CH (d+1) 0 x.ls
  else acc+1
 else 201:=by
 cases x;unfold cntS;rfl
mutual
theorem cntS_ok:∀(d acc:Int)(e:S),0<=acc->acc<=200->acc+1<=cntS d acc e/\(cntS d acc e<=200↔Er d e=true/\acc+EG e<=200)/\(cntS d acc e<=200->cntS d acc e=acc+EG e)/\cntS d acc e<=201+200*(61-d).toNat
 |d,acc,.mk op s _ es _ ls _ xs,h,k=>by
  have g:=II (d+1) 0 ls (by omega) (by omega);have f:=II (d+1) 0 xs (by omega) (by omega);unfold cntS Er EG;grind
theorem II:∀(d acc:Int)(k:List S),0<=acc->acc<=200->acc<=CH d acc k/\(CH d acc k<=200↔CG d k=true/\acc+CA k<=200)/\(CH d acc k<=200->CH d acc k=acc+CA k)/\CH d acc k<=201+200*(61-d).toNat
 |d,acc,[],h,g=>by simp[CH,CG,CA];omega
 |d,acc,x::xs,h,g=>by
  have h1:=cntS_ok d acc x h g;have h2:=II d (cntS d acc x) xs (by omega);grind[CH,CG,CA]
end
theorem okSs_deep{d:Int}(h:60<d):∀l:List S,l≠[]->CG d l=false
 |[],k=>absurd rfl k
 |.mk _ _ _ _ _ _ _ _::xs,_=>by
  grind[CG,Er]
mutual
theorem vS_ok:∀(left d:Int)(e:S),d<=60->((vS left d e).1=true↔Er d e=true/\(EG e:Int)<=left)/\((vS left d e).1=true->(vS left d e).2=left-EG e)
 |left,d,.mk op s _ es _ ls _ xs,k=>by
  have g:=vSs_ok (left-1) (d+1) ls;have f:=λl=>vSs_ok l (d+1) xs;have u:=λh=>okSs_deep (d:=d+1) h ls;have w:=λh=>okSs_deep (d:=d+1) h xs;grind[vS,Er,EG,gd,Dg,Dn,CG,CA,absurd]
theorem vSs_ok:∀(left d:Int)(k:List S),0<=left->¬(60<d/\k≠[])->((Dn left d k).1=true↔CG d k=true/\(CA k:Int)<=left)/\((Dn left d k).1=true->(Dn left d k).2=left-CA k)
 |left,d,[],h,_=>by simp[Dn,CG,CA,h]
 |left,d,x::xs,h,g=>by
  have h1:=vS_ok left d x (by grind);have h2:=vSs_ok (vS left d x).2 d xs;grind[vSs_cons,CG,CA]
end
def Hq(l:List S):Bool:=decide (CG 1 l=true/\CA l<=200)
theorem validSs_cnt(l:List S):decide (CH 1 0 l<=200)=Hq l:=by
 have:=II 1 0 l (by omega) (by omega);unfold Hq;grind
theorem validSs_v(l:List S):(Es 200 1 l).1=Hq l:=by
 have:=(vSs_ok 200 1 l (by omega) (by omega)).1;grind[Hq,Es,gd]
theorem S.v_eq(s:S):s.v=.agg #[.int .i64 s.op,.string s.s,.slice s.el.p s.el.n s.el.c,.slice s.ll.p s.ll.n s.ll.c,.slice s.xl.p s.xl.n s.xl.c]:=by unfold S.v;rw[S.row_eq];rfl
theorem S.row_get{V:Mem}{p:Option Addr}{i:Nat}{x:S}(h:V.rowp p i 5=some x.row):V.rowp p i 5=some [.int .i64 x.op,.string x.s,.slice x.el.p x.el.n x.el.c,.slice x.ll.p x.ll.n x.ll.c,.slice x.xl.p x.xl.n x.xl.c]:=by
 rw[h,S.row_eq];rfl
theorem Al{p:Option Addr}{n:Nat}(h:¬(p=none)):¬(Aa p n=none):=by
 cases p with
 |none=>grind
 |some a=>intro e;cases e
def CntP(V:Mem)(l:List S):Prop:=∀(sl:Sl)(d:Int),Ad V sl 5 (l.map S.row)->(∀x∈l,S.Ok V x)->0<=d->d<=61->PP 202 [sl.v,.int .i64 d] V (.int .i64 (CH d 0 l))
theorem cntP_step{V:Mem}{l:List S}(o:∀x∈l,CntP V x.ls/\CntP V x.xs):CntP V l:=by
 intro sl d y j s Y;refine x202 ?_;refine loop3s Cu l.length (λi acc V1=>V1=V/\0<=acc/\acc<=200/\CH d 0 l=CH d acc (l.drop i)) ⟨rfl,by omega,by omega,rfl⟩ ?_;rintro i acc c V1 J hi ⟨rfl,v,W,p⟩ Q;refine⟨λf=>?_,λm=>?_⟩
 ·obtain⟨x,hm,P,r,O,u,q,k⟩:=y.get f;have k:=S.row_get k;have g:=j x hm;have H:=g.lRows.n_eq;have G:=g.xRows.n_eq;rw[r,cntSs_cons]at p;have z:=cntS_eq d acc x;have cs:=c246 g;rw[S.v_eq]at cs;have bad:cntS d acc x=201->(xI (.int .i64 201)=xI (.int .i64 (CH d 0 l))/\V1=V1):=λh=>by
   grind
  have over:∀n,cntS d acc x=n->200<n->(xI (.int .i64 n)=xI (.int .i64 (CH d 0 l))/\V1=V1):=λn h N=>by
   grind
  have Z:∀n a,cntS d acc x=n->0<=n->¬200<n->J [.int .i64 n,.int .i64 a,.int .i64 ((i:Int)+1)] V1:=λn a h A N=>by
   grind
  refine⟨λw=>bad (by omega),λw=>⟨u,q,f,_,_,_,_,_,k,cs.call ⟨_,rfl,λe=>⟨⟨by omega,by omega⟩,λh1=>?_,λh1=>?_⟩,λe=>bad (by simp_all)⟩⟩⟩
  ·rw[if_neg w,if_pos e,if_pos h1]at z;have b1:=II (d+1) 0 x.ls (by omega) (by omega);have b2:=II (d+1) 0 x.xs (by omega) (by omega);refine⟨u,q,f,Al u,_,_,_,_,_,k,⟨by omega,by omega⟩,((o x hm).1 x.ll (d+1) g.lRows g.lOk (by omega) (by omega)).call ⟨_,rfl,⟨by omega,by omega⟩,λh2=>?_,λh2=>?_⟩⟩
   ·rw[if_pos h2]at z;refine⟨u,q,f,Al u,_,_,_,_,_,k,⟨by omega,by omega⟩,((o x hm).2 x.xl (d+1) g.xRows g.xOk (by omega) (by omega)).call ⟨_,rfl,⟨by omega,by omega⟩,λh3=>over _ z h3,λh3=>⟨y.succ f,Z _ _ z (by omega) h3⟩⟩⟩
   grind
  grind
 ·rw[(y.done m).1,cntSs_nil]at p;simp_all
theorem cntP_S(V:Mem):∀s:S,CntP V s.ls/\CntP V s.xs:=by
 intro s;induction s using S.ind with
 |h s k g=>grind[cntP_step]
theorem c202{V:Mem}{l:List S}{sl:Sl}{d:Int}(k:Ad V sl 5 (l.map S.row))(h:∀x∈l,S.Ok V x)(g:0<=d)(h1:d<=61):PP 202 [sl.v,.int .i64 d] V (.int .i64 (CH d 0 l)):=
 cntP_step (λx _=>cntP_S V x) sl d k h g h1
set_option maxRecDepth 4000 in
theorem c215{V:Mem}[Tab V]{s:S}(h:S.Ok V s):PP 215 [s.v] V (.bool (GR s.op s.s s.es s.ls.length s.xs.length)):=by
 have c:=Kz h;have g:=h.lRows.n_eq;have f:=h.xRows.n_eq;have u:=h.eRows.n_eq;rw[S.v_eq];refine x215 ?_;rw[<-g,<-f];generalize z:GR s.op s.s s.es s.ll.n s.xl.n=X;have key:∀b:Bool,X=b->xI (.bool b)=xI (.bool X):=λn h=>by rw[h]
 unfold GR at z;rw[<-u]at z;have x:(0:Int)<=(s.el.n:Int):=by omega
 have j:(0:Int)<=(s.ll.n:Int):=by omega
 have i:(0:Int)<=(s.xl.n:Int):=by omega
 generalize p:(s.el.n:Int)=ne at z x;generalize(s.ll.n:Int)=nl at z j;generalize(s.xl.n:Int)=nx at z i;rcases c with⟨y,l⟩|⟨e0,r,y,l,m,w,k⟩
 ·have:ne=0:=by omega
  subst this;clear g f u l
  repeat' (first|refine c108.call ⟨_,rfl,?_⟩|apply xJ|intro _)
  all_goals first|rfl|(refine key _ ?_;clear key h y;grind)|(exfalso;clear key h y;grind)
 ·have q:JD s.es=e0.op:=by rw[y];rfl
  rw[q]at z;have o:0<ne:=by omega
  clear g f u l
  repeat' (first|refine c108.call ⟨_,rfl,?_⟩|refine⟨_,_,_,_,k,?_⟩|exact m|exact w|exact o|apply xJ|intro _)
  all_goals first|rfl|(refine key _ ?_;clear key h y k m w;grind)|(exfalso;clear key h y k m w;grind)|omega
theorem c217{V:Mem}[Tab V]{e:E}(h:E.Ok V e):PP 217 [e.v] V (.bool (!By e)):=by
 refine x217 ?_;exact(c160 h).call ⟨_,rfl,rfl,rfl⟩
theorem vSl_bound{left d:Int}{l:List S}(g:0<=left)(h:(Es left d l).1=true):0<=(Es left d l).2/\(Es left d l).2<=left:=by
 unfold Es gd at h⊢;split at h;·cases h
 ·rename_i k;rw[if_neg k];grind[vSs_ok]
theorem vSl_eq{left d:Int}{l:List S}(h:¬(60<d/\l≠[])):Es left d l=Dn left d l:=by grind[Es,gd]
section
variable{V0:Mem}{b t:Nat}
def IJ(V0:Mem)(b t:Nat)(l:List S):Prop:=∀(sl:Sl)(d left:Int)(V:Mem),Ad V0 sl 5 (l.map S.row)->(∀x∈l,S.Ok V0 x)->V0.sub V->V b=some (cell (.int .i64 left) t)->0<=left->left<=200->0<=d->d<=61->
 Tri xG 165 #[sl.v,.int .i64 d,pv b] V λr V'=>r=.returned (.bool (Es left d l).1)/\V'=V.set b (cell (.int .i64 (Es left d l).2) t)
theorem stP_step[P:Tab V0](A:V0 b=none){l:List S}(O:∀x∈l,IJ V0 b t x.ls/\IJ V0 b t x.xs):IJ V0 b t l:=by
 intro sl d left V p a I f v H M D;have E:=p.n_eq;refine x165 ?_;have w:∀k,V0.sub (V.set b (cell (.int .i64 k) t)):=λk=>I.set A _;refine⟨λG=>⟨λr=>?_,λr=>?_⟩,λG=>?_⟩
 ·have:Es left d l=(false,left):=by
   grind[Es,gd]
  rw[this];exact⟨rfl,(Mem.set_eq f).symm⟩
 all_goals
  have N:¬(60<d/\l≠[]):=by
   first
   |exact λh=>r h.1
   |simp_all
  rw[vSl_eq N];refine AR l.length (λi V1=>∃k,V1=V.set b (cell (.int .i64 k) t)/\0<=k/\k<=200/\Dn left d l=Dn k d (l.drop i)) ⟨left,(Mem.set_eq f).symm,v,H,rfl⟩ ?_;rintro i c _ J hi ⟨k,rfl,F,L,z⟩ R;refine⟨λy=>?_,λZ=>?_⟩
  ·obtain⟨x,hm,K,Y,X,B,C,u⟩:=(p.sub (w k)).get y;have u:=S.row_get u;have g:=a x hm;rw[Y,vSs_cons]at z;have hv:=vS_eq k d x;have cs:=λV (G:V0.sub V) (h:S.Ok V x)=>(haveI:Tab V:=Tab.sub P G;c215 h);rw[S.v_eq]at cs;have q:∀n,vS k d x=(false,n)->(xI (.bool false)=xI (.bool (Dn left d l).1)/\V.set b (cell (.int .i64 n) t)=V.set b (cell (.int .i64 (Dn left d l).2) t)):=λn h=>by
    rw[h]at z;rw[z];exact⟨rfl,rfl⟩
   refine⟨B,C,y,_,_,_,_,_,u,Tri.mono (c214 Az (by omega) (by omega)) ?_⟩;rintro _ _ ⟨rfl,rfl⟩;rw[Mem.set_set];refine⟨_,rfl,λj=>(cs _ (w _) (g.sub (w _))).call ⟨_,rfl,λW=>?_,λW=>?_⟩,λj=>?_⟩
   ·have j:0<=k-1:=of_decide_eq_true j;refine(c216 (first:=[]) (caps:=[]) (l:=x.el) (g.eRows.sub (w _)) Tryz.call217 (λe=>!By e) (λe hm=>haveI:Tab (V.set b (cell (.int .i64 (k-1)) t)):=Tab.sub P (w (k-1));c217 ((g.eOk e hm).sub (w _)))).call ⟨_,rfl,λo=>?_,λo=>?_⟩
    ·have m:x.es.all By=false:=by
      rw[xS]at o;simpa using o
     rw[if_neg (λh=>by have:=h.2;unfold Dg at this;rw[m,Bool.and_false]at this;cases this)]at hv;exact q _ hv
    ·have m:x.es.all By=true:=by
      rw[xS]at o;simpa using o
     have Q:Dg x.op x.s x.es x.ls.length x.xs.length=true:=by unfold Dg;rw[W,m];rfl
     rw[if_pos ⟨j,Q⟩]at hv;refine⟨⟨by omega,by omega⟩,Tri.mono ((O x hm).1 x.ll (d+1) (k-1) _ g.lRows g.lOk (w _) Az j (by omega) (by omega) (by omega)) ?_⟩;rintro _ _ ⟨rfl,rfl⟩;rw[Mem.set_set];refine⟨_,rfl,λh1=>⟨⟨by omega,by omega⟩,?_⟩,λh1=>?_⟩
     ·rw[if_pos h1]at hv;have b1:=vSl_bound j h1;refine Tri.mono ((O x hm).2 x.xl (d+1) _ _ g.xRows g.xOk (w _) Az b1.1 (by omega) (by omega) (by omega)) ?_;rintro _ _ ⟨rfl,rfl⟩;rw[Mem.set_set];refine⟨_,rfl,λh2=>?_,λh2=>?_⟩
      ·have b2:=vSl_bound b1.1 h2;rw[hv,if_pos h2]at z;exact⟨(p.sub (w k)).succ y,R X _ _ ⟨_,rfl,b2.1,by omega,z⟩⟩
      ·rw[<-hv]at h2⊢;exact q _ (Prod.ext (eq_false_of_ne_true h2) rfl)
     ·rw[if_neg h1]at hv;exact q _ hv
   ·rw[if_neg (λh=>by have:=h.2;unfold Dg at this;rw[eq_false_of_ne_true W,xT]at this;cases this)]at hv;exact q _ hv
   ·rw[if_neg (λh=>j (decide_eq_true h.1))]at hv;exact q _ hv
  ·rw[((p.sub (w k)).done Z).1,vSs_nil]at z;rw[z];exact⟨rfl,rfl⟩
theorem stP_S[k:Tab V0](g:V0 b=none):∀s:S,IJ V0 b t s.ls/\IJ V0 b t s.xs:=by
 intro s;induction s using S.ind with
 |h s f u=>grind[stP_step]
theorem c165[k:Tab V0](h:V0 b=none)(l:List S):IJ V0 b t l:=stP_step h λx _=>stP_S h x
end
def Bb{α:Type}(p:α->Bool)(xs:List α)(i:Nat):Prop:=∀j x,j<i->xs[j]?=some x->p x=true
theorem Bb.zero{α:Type}(p:α->Bool)(xs:List α):Bb p xs 0:=λ_ _ h=>absurd h (Nat.not_lt_zero _)
theorem Bb.succ{α:Type}{p:α->Bool}{xs:List α}{i:Nat}{x:α}(h:Bb p xs i)(u:xs[i]?=some x)(w:p x=true):Bb p xs (i+1):=λj y k g=>by
 rcases Nat.lt_succ_iff_lt_or_eq.1 k with f|rfl;·exact h j y f g
 simp_all
theorem Bb.all{α:Type}{p:α->Bool}{xs:List α}{i:Nat}(h:Bb p xs i)(hi:xs.length<=i):xs.all p=true:=
 List.all_eq_true.2 λx k=>by
  obtain⟨j,g,rfl⟩:=ya.1 k;exact h j _ (by omega) (yr g)
theorem all_false{α:Type}{p:α->Bool}{xs:List α}{x:α}(h:x∈xs)(k:¬p x=true):xs.all p=false:=by
 grind
def Aj:KB:=Ac [105,110,116]
def Au:KB:=Ac [98,111,111,108]
def typB(s:KB):Bool:=decide (s=Aj)||decide (s=Au)||BT s
def openB(s:KB):Bool:=decide (s=Ac [])||BT s
def fldB(f:Fld):Bool:=BT f.name&&typB f.ty
def Do(l:List Fld)(h:Int):Bool:=decide ((l.length:Int)<=h)&&l.all fldB
def EH(t:Ty):Bool:=BT t.name&&Do t.fields 12
def DO(p:Pr):Bool:=BT p.name&&Do p.params 6&&Do p.locals 12&&(decide (p.result=Ac [])||typB p.result)&&Hq p.body
def EI(m:Ms):Bool:=BT m.name&&BT m.ty&&decide (-1099511627776<=m.nil/\m.nil<=1099511627776)&&By m.x
def GS(m:Iv):Bool:=BT m.name&&openB m.ty&&By m.x
def Hr(m:Po):Bool:=openB m.ty&&By m.x
def Hs(m:Bd):Bool:=BT m.proc&&By m.x
def Gd(d:Ds):Bool:=d.measures.all EI&&d.invs.all GS&&d.pots.all Hr&&d.bounds.all Hs
def lensB(d:Ds):Bool:=decide ((d.measures.length:Int)<=12/\(d.invs.length:Int)<=12/\(d.pots.length:Int)<=12/\(d.bounds.length:Int)<=12)
def BB(d:Ds):Bool:=BT d.name&&decide ((d.types.length:Int)<=12)&&Do d.globals 8&&decide ((d.procs.length:Int)<=40)&&lensB d&&d.types.all EH&&d.procs.all DO&&Gd d
theorem c201{V:Mem}{s:KB}:PP 201 [.string s] V (.bool (typB s)):=by
 refine x201 ?_;refine⟨λh=>?_,λh=>⟨λh1=>?_,λh1=>c139.call ⟨_,rfl,?_⟩⟩⟩<;>simp[typB,Aj,Au, *]
theorem c159{V:Mem}[Tab V]{s:KB}:PP 159 [.string s] V (.bool (typB s)):=by
 refine x159 ?_;refine⟨λh=>?_,λh=>⟨λh1=>?_,λh1=>c108.call ⟨_,rfl,?_⟩⟩⟩<;>simp[typB,Aj,Au, *]
theorem c204{V:Mem}{s:KB}:PP 204 [.string s] V (.bool (openB s)):=by
 refine x204 ?_;refine⟨λh=>?_,λh=>c139.call ⟨_,rfl,?_⟩⟩<;>simp[openB, *]
theorem c161{V:Mem}[Tab V]{s:KB}:PP 161 [.string s] V (.bool (openB s)):=by
 refine x161 ?_;refine⟨λh=>?_,λh=>c108.call ⟨_,rfl,?_⟩⟩<;>simp[openB, *]
theorem c140{V:Mem}{l:Sl}{xs:List Fld}{n:Int}(f:Ad V l 2 (xs.map Fld.row)):PP 140 [l.v,.int .i64 n] V (.bool (Do xs n)):=by
 refine x140 ?_;have c:=f.n_eq;refine⟨λh=>?_,λh=>?_⟩;·grind[Do]
 ·have w:(xs.length:Int)<=n:=by omega
  refine AR xs.length (λi V1=>V1=V/\Bb fldB xs i) ⟨rfl,Bb.zero _ _⟩ ?_;rintro i b V1 J hi ⟨rfl,y⟩ r;refine⟨λk=>?_,λz=>?_⟩
  ·obtain⟨x,hm,q,o,p,u,j,g⟩:=f.get k;have m:fldB x=false->(xI (.bool false)=xI (.bool (Do xs n))/\V1=V1):=λh=>by
    unfold Do;grind
   refine⟨u,j,k,Al u,_,_,g,c139.call ⟨_,rfl,λh1=>⟨u,j,k,Al u,_,_,g,c201.call ⟨_,rfl,λh2=>⟨f.succ k,r p _ _ ⟨rfl,y.succ q (by simp[fldB, *])⟩⟩,λh2=>m (by simp[fldB, *])⟩⟩,λh1=>m (by simp[fldB, *])⟩⟩
  ·have:=y.all (f.done z).2;simp[Do,this,w]
theorem c158{V:Mem}[Tab V]{f:Fld}:PP 158 [f.v] V (.bool (!fldB f)):=by
 refine x158 ?_;refine c108.call ⟨_,rfl,λh=>c159.call ⟨_,rfl,?_⟩,λh=>?_⟩<;>simp[fldB, *]
theorem c109{V:Mem}[Tab V]{l:Sl}{xs:List Fld}{n:Int}(k:Ad V l 2 (xs.map Fld.row)):PP 109 [l.v,.int .i64 n] V (.bool (Do xs n)):=by
 refine x109 ?_;have g:=k.n_eq;refine⟨λh=>(JB (first:=[]) (caps:=[]) k Tryz.call158 (λf=>!fldB f) λf _=>c158).call ⟨_,rfl,?_⟩,λh=>?_⟩;·grind[Do]
 grind[Do]
theorem c141{V:Mem}{p:Pr}(h:Pr.Ok V p):PP 141 [p.v] V (.bool (DO p)):=by
 refine x141 ?_;have cs:=c202 (d:=1) h.body h.stmts (by omega) (by omega);refine c139.call ⟨_,rfl,λh1=>(c140 h.params).call ⟨_,rfl,λh2=>(c140 h.locals).call ⟨_,rfl,λh3=>⟨λh4=>cs.call ⟨_,rfl,?_⟩,λh4=>c201.call ⟨_,rfl,λk=>cs.call ⟨_,rfl,?_⟩,λk=>?_⟩⟩,λh3=>?_⟩,λh2=>?_⟩,λh1=>?_⟩;all_goals simp[DO,<-validSs_cnt, *]
theorem c114{V:Mem}[Tab V]{p:Pr}(h:Pr.Ok V p):PP 114 [p.v] V (.bool (DO p)):=by
  refine Bf.mk (x114 ?_);have cs:(Hq p.body=DO p)->Ag [(.int .i64 200)] 269 V fun f u =>
       Tri xG 165 #[(.slice p.bs.p p.bs.n p.bs.c),(.int .i64 1),(.pointer (Aa f 0))] u λe w=>∃k:Bool,e=.returned (.bool k)/\(xI (.bool k)=xI (.bool (DO p))/\V.sub w):=λe b g=>by
    refine Tri.mono (c165 g p.body p.bs 1 200 _ h.body h.stmts (Mem.sub_new g _) Az (by omega) (by omega) (by omega) (by omega)) ?_;rintro _ _ ⟨rfl,rfl⟩;rw[validSs_v,Mem.set_set,e];exact⟨_,rfl,rfl,Mem.sub_new g _⟩
  refine c108.call ⟨_,rfl,λh1=>(c109 h.params).call ⟨_,rfl,λh2=>(c109 h.locals).call ⟨_,rfl,λh3=>⟨λh4=>cs ?_,λh4=>c159.call ⟨_,rfl,λz=>cs ?_,λz=>⟨?_,Mem.sub.refl _⟩⟩⟩,λh3=>⟨?_,Mem.sub.refl _⟩⟩,λh2=>⟨?_,Mem.sub.refl _⟩⟩,λh1=>⟨?_,Mem.sub.refl _⟩⟩;all_goals simp[DO, *]
theorem c163{V:Mem}[Tab V]{b:Bd}(h:E.Ok V b.x):PP 163 [b.v] V (.bool (!Hs b)):=by
 refine x163 ?_;refine c108.call ⟨_,rfl,λh1=>(c160 h).call ⟨_,rfl,?_⟩,λh1=>?_⟩<;>simp[Hs, *]
theorem c112{V:Mem}[Tab V]{t:Ty}(h:Ty.Ok V t):PP 112 [t.v] V (.bool (!EH t)):=by
 refine x112 ?_;refine c108.call ⟨_,rfl,λh1=>(c109 h.fields).call ⟨_,rfl,?_⟩,λh1=>?_⟩<;>simp[EH, *]
theorem c113{V:Mem}[Tab V]{t:Pr}(h:Pr.Ok V t):PP 113 [t.v] V (.bool (!DO t)):=by
 refine x113 ?_;exact(c114 h).call ⟨_,rfl,rfl,rfl⟩
theorem GenK.max4{P:Program}{V:Mem}{a b c d:Operand}{ty:Nat}{ts:Array TypeId}{vals:Operand->Value}{n1 n2 n3 n4:Int}(h1:vals a=.int .i64 n1)(h2:vals b=.int .i64 n2)(h3:vals c=.int .i64 n3)(h4:vals d=.int .i64 n4){q:Value->Mem->Prop}
  (h:∀m:Int,n1<=m->n2<=m->n3<=m->n4<=m->(m=n1∨m=n2∨m=n3∨m=n4)->q (.int .i64 m) V):GenK P (.call {callee:=.builtin .max,args:=#[a,b,c,d],argTypes:=ts}) ty vals V q:=by
 intro w hw;refine⟨_,w,V,?_,Aw.refl hw,h (max (max (max n1 n2) n3) n4) (by omega) (by omega) (by omega) (by omega) (by omega)⟩;unfold execOp;have e:∀x y:Int,(if y>x then y else x)=max x y:=λx y=>by split<;>omega
 simp only[resolve,invoke,builtin,Sem.run_bind,Sem.run_pure,Result.andThen_ok,List.map_toArray,List.map_cons,List.map_nil,h1,h2,h3,h4];simp[Builtin.max_,Builtin.max2,e]
theorem c142{V:Mem}{d:Ds}(h:Ds.Ok V d):PP 142 [d.v] V (.bool (Gd d)):=by
 refine x142 ?_;generalize o:Gd d=X;have key:∀b:Bool,X=b->(xI (.bool b)=xI (.bool X)/\V=V):=λn h=>by simp_all
 unfold Gd at o;refine AR d.measures.length (λi V1=>V=V1/\Bb EI d.measures i) ⟨rfl,Bb.zero _ _⟩ ?_;rintro i b V1 J hi ⟨rfl,z⟩ j;refine⟨λk=>?_,λu=>?_⟩
 ·obtain⟨x,hm,l,m,r,f,y,g⟩:=h.measures.get k;have w:EI x=false->X=false:=λh=>by grind
  refine⟨f,y,k,_,_,_,_,_,_,_,g,c139.call ⟨_,rfl,λh1=>c139.call ⟨_,rfl,λh2=>⟨λh3=>key _ (w ?_),λh3=>⟨λh4=>key _ (w ?_),λh4=>(c203 (h.measuresOk x hm).x).call ⟨_,rfl,λq=>⟨h.measures.succ k,j r _ _ ⟨rfl,z.succ l ?_⟩⟩,λq=>key _ (w ?_)⟩⟩⟩,λh2=>key _ (w ?_)⟩,λh1=>key _ (w ?_)⟩⟩
  ·have:¬(-1099511627776<=x.nil/\x.nil<=1099511627776):=by omega
   simp[EI, *]
  ·have:¬(-1099511627776<=x.nil/\x.nil<=1099511627776):=by omega
   simp[EI, *]
  ·have:(-1099511627776<=x.nil/\x.nil<=1099511627776):=by omega
   simp[EI, *]
  all_goals simp[EI, *]
 have a1:=z.all (h.measures.done u).2;refine AR d.invs.length (λi V1=>V=V1/\Bb GS d.invs i) ⟨rfl,Bb.zero _ _⟩ ?_;rintro i b V1 J hi ⟨rfl,z⟩ j;refine⟨λk=>?_,λu=>?_⟩
 ·obtain⟨x,hm,l,m,r,f,y,g⟩:=h.invs.get k;have w:GS x=false->X=false:=λh=>by rw[<-o,all_false hm (by rw[h];simp)];simp
  refine⟨f,y,k,Al f,_,_,_,_,_,_,g,c139.call ⟨_,rfl,λh1=>⟨f,y,k,Al f,_,_,_,_,_,_,g,c204.call ⟨_,rfl,λh2=>⟨f,y,k,Al f,_,_,_,_,_,_,g,(c203 (h.invsOk x hm)).call ⟨_,rfl,λq=>⟨h.invs.succ k,j r _ _ ⟨rfl,z.succ l ?_⟩⟩,λq=>key _ (w ?_)⟩⟩,λh2=>key _ (w ?_)⟩⟩,λh1=>key _ (w ?_)⟩⟩;all_goals simp[GS, *]
 have a2:=z.all (h.invs.done u).2;refine AR d.pots.length (λi V1=>V=V1/\Bb Hr d.pots i) ⟨rfl,Bb.zero _ _⟩ ?_;rintro i b V1 J hi ⟨rfl,z⟩ j;refine⟨λk=>?_,λu=>?_⟩
 ·obtain⟨x,hm,l,m,r,f,y,g⟩:=h.pots.get k;have w:Hr x=false->X=false:=λh=>by grind
  refine⟨f,y,k,Al f,_,_,_,_,_,g,c204.call ⟨_,rfl,λh2=>⟨f,y,k,Al f,_,_,_,_,_,g,(c203 (h.potsOk x hm)).call ⟨_,rfl,λq=>⟨h.pots.succ k,j r _ _ ⟨rfl,z.succ l ?_⟩⟩,λq=>key _ (w ?_)⟩⟩,λh2=>key _ (w ?_)⟩⟩;all_goals simp[Hr, *]
 have a3:=z.all (h.pots.done u).2;refine AR d.bounds.length (λi V1=>V=V1/\Bb Hs d.bounds i) ⟨rfl,Bb.zero _ _⟩ ?_;rintro i b V1 J hi ⟨rfl,z⟩ j;refine⟨λk=>?_,λu=>?_⟩
 ·obtain⟨x,hm,l,m,r,f,y,g⟩:=h.bounds.get k;have w:Hs x=false->X=false:=λh=>by grind
  refine⟨f,y,k,Al f,_,_,_,_,_,g,c139.call ⟨_,rfl,λh2=>⟨f,y,k,Al f,_,_,_,_,_,g,(c203 (h.boundsOk x hm)).call ⟨_,rfl,λq=>⟨h.bounds.succ k,j r _ _ ⟨rfl,z.succ l ?_⟩⟩,λq=>key _ (w ?_)⟩⟩,λh2=>key _ (w ?_)⟩⟩;all_goals simp[Hs, *]
 have p:=z.all (h.bounds.done u).2;simp_all
theorem c110{V:Mem}[Tab V]{d:Ds}(h:Ds.Ok V d):PP 110 [d.v] V (.bool (lensB d&&Gd d)):=by
 refine x110 ?_;have c:=h.measures.n_eq;have a:=h.invs.n_eq;have e:=h.pots.n_eq;have s:=h.bounds.n_eq;generalize p:(lensB d&&Gd d)=X;have key:∀b:Bool,X=b->(xI (.bool b)=xI (.bool X)/\V=V):=λn h=>by simp_all
 unfold Gd lensB at p;refine GenK.max4 (n1:=d.ms.n) (n2:=d.is.n) (n3:=d.qs.n) (n4:=d.bs.n) rfl rfl rfl rfl λG N Z Y W le=>⟨_,rfl,λH=>key _ ?_,λH=>?_⟩;·rw[<-p,decide_eq_false (by omega)];rfl
 rw[decide_eq_true (by omega),xR]at p;refine AR d.measures.length (λi V1=>V=V1/\Bb EI d.measures i) ⟨rfl,Bb.zero _ _⟩ ?_;rintro i b V1 J hi ⟨rfl,z⟩ y;refine⟨λk=>?_,λw=>?_⟩
 ·obtain⟨x,hm,j,l,m,r,q,g⟩:=h.measures.get k;have u:EI x=false->X=false:=λh=>by grind
  refine⟨r,q,k,_,_,_,_,_,_,_,g,c108.call ⟨_,rfl,λh1=>c108.call ⟨_,rfl,λh2=>⟨λh3=>key _ (u ?_),λh3=>⟨λh4=>key _ (u ?_),λh4=>(c160 (h.measuresOk x hm).x).call ⟨_,rfl,λo=>⟨h.measures.succ k,y m _ _ ⟨rfl,z.succ j ?_⟩⟩,λo=>key _ (u ?_)⟩⟩⟩,λh2=>key _ (u ?_)⟩,λh1=>key _ (u ?_)⟩⟩
  ·have:¬(-1099511627776<=x.nil/\x.nil<=1099511627776):=by omega
   simp[EI, *]
  ·have:¬(-1099511627776<=x.nil/\x.nil<=1099511627776):=by omega
   simp[EI, *]
  ·have:(-1099511627776<=x.nil/\x.nil<=1099511627776):=by omega
   simp[EI, *]
  all_goals simp[EI, *]
 have a1:=z.all (h.measures.done w).2;refine AR d.invs.length (λi V1=>V=V1/\Bb GS d.invs i) ⟨rfl,Bb.zero _ _⟩ ?_;rintro i b V1 J hi ⟨rfl,z⟩ y;refine⟨λk=>?_,λw=>?_⟩
 ·obtain⟨x,hm,j,l,m,r,q,g⟩:=h.invs.get k;have u:GS x=false->X=false:=λh=>by rw[<-p,all_false hm (by rw[h];simp)];simp
  refine⟨r,q,k,_,_,_,_,_,_,g,c108.call ⟨_,rfl,λh1=>c161.call ⟨_,rfl,λh2=>(c160 (h.invsOk x hm)).call ⟨_,rfl,λo=>⟨h.invs.succ k,y m _ _ ⟨rfl,z.succ j ?_⟩⟩,λo=>key _ (u ?_)⟩,λh2=>key _ (u ?_)⟩,λh1=>key _ (u ?_)⟩⟩;all_goals simp[GS, *]
 have a2:=z.all (h.invs.done w).2;refine AR d.pots.length (λi V1=>V=V1/\Bb Hr d.pots i) ⟨rfl,Bb.zero _ _⟩ ?_;rintro i b V1 J hi ⟨rfl,z⟩ y;refine⟨λk=>?_,λw=>?_⟩
 ·obtain⟨x,hm,j,l,m,r,q,g⟩:=h.pots.get k;have u:Hr x=false->X=false:=λh=>by grind
  refine⟨r,q,k,_,_,_,_,_,g,c161.call ⟨_,rfl,λh2=>(c160 (h.potsOk x hm)).call ⟨_,rfl,λo=>⟨h.pots.succ k,y m _ _ ⟨rfl,z.succ j ?_⟩⟩,λo=>key _ (u ?_)⟩,λh2=>key _ (u ?_)⟩⟩;all_goals simp[Hr, *]
 have a3:=z.all (h.pots.done w).2;refine(c162 (first:=[]) (caps:=[]) h.bounds Tryz.call163 (λf=>!Hs f) λf hm=>c163 (h.boundsOk f hm)).call ⟨_,rfl,key _ ?_⟩;simp_all[xS]
theorem Mh{V:Mem}{d:Ds}(h:Ds.Ok V d):PP 91 [d.v] V (.bool (BB d)):=by
 refine Qu ?_;have H:=h.measures.n_eq;have G:=h.invs.n_eq;have N:=h.pots.n_eq;have Z:=h.bounds.n_eq;have Y:=h.types.n_eq;have n6:=h.procs.n_eq;generalize r:BB d=X;have key:∀b:Bool,X=b->(xI (.bool b)=xI (.bool X)/\V=V):=λn h=>by simp_all
 unfold BB at r;have f:lensB d=false->X=false:=λh=>by simp_all
 refine c139.call ⟨_,rfl,λh1=>⟨λh2=>key _ ?_,λh2=>(c140 h.globals).call ⟨_,rfl,λh3=>⟨λh4=>key _ ?_,λh4=>⟨λu=>key _ (f ?_),λu=>⟨λa=>key _ (f ?_),λa=>⟨λe=>key _ (f ?_),λe=>⟨λs=>key _ (f ?_),λs=>?_⟩⟩⟩⟩⟩,λh3=>key _ ?_⟩⟩,λh1=>key _ ?_⟩;·grind
 ·grind
 ·exact decide_eq_false (by omega)
 ·exact decide_eq_false (by omega)
 ·exact decide_eq_false (by omega)
 ·exact decide_eq_false (by omega)
 ·have y:lensB d=true:=decide_eq_true (by omega);rw[h1,decide_eq_true (p:=(d.types.length:Int)<=12) (by omega),h3,decide_eq_true (p:=(d.procs.length:Int)<=40) (by omega),y]at r;simp only[xR]at r;refine AR d.types.length (λi V1=>V=V1/\Bb EH d.types i) ⟨rfl,Bb.zero _ _⟩ ?_;rintro i b V1 J hi ⟨rfl,j⟩ q;refine⟨λk=>?_,λw=>?_⟩
  ·obtain⟨x,hm,o,c,y,z,l,g⟩:=h.types.get k;have m:EH x=false->X=false:=λh=>by grind
   refine⟨z,l,k,Al z,_,_,g,c139.call ⟨_,rfl,λh1=>⟨z,l,k,Al z,_,_,g,(c140 (h.typesOk x hm).fields).call ⟨_,rfl,λu=>⟨h.types.succ k,q y _ _ ⟨rfl,j.succ o ?_⟩⟩,λu=>key _ (m ?_)⟩⟩,λh1=>key _ (m ?_)⟩⟩;all_goals simp[EH, *]
  have a1:=j.all (h.types.done w).2;refine AR d.procs.length (λi V1=>V=V1/\Bb DO d.procs i) ⟨rfl,Bb.zero _ _⟩ ?_;rintro i b V1 J hi ⟨rfl,j⟩ q;refine⟨λk=>?_,λw=>?_⟩
  ·obtain⟨x,hm,o,c,y,z,l,g⟩:=h.procs.get k;have m:DO x=false->X=false:=λh=>by grind
   exact⟨z,l,k,_,_,_,_,_,g,(c141 (h.procsOk x hm)).call ⟨_,rfl,λu=>⟨h.procs.succ k,q y _ _ ⟨rfl,j.succ o u⟩⟩,λu=>key _ (m (eq_false_of_ne_true u))⟩⟩
  have a2:=j.all (h.procs.done w).2;refine(c142 h).call ⟨_,rfl,key _ ?_⟩;simp_all
 ·simp_all
 simp_all
theorem Om{V:Mem}[Tab V]{d:Ds}(h:Ds.Ok V d):PP 72 [d.v] V (.bool (BB d)):=by
 refine Qd ?_;have w:=h.types.n_eq;have n6:=h.procs.n_eq;generalize k:BB d=X;have key:∀b:Bool,X=b->(xI (.bool b)=xI (.bool X)/\V=V):=λn h=>by simp_all
 unfold BB at k;refine c108.call ⟨_,rfl,λh1=>⟨λh2=>key _ ?_,λh2=>(c109 h.globals).call ⟨_,rfl,λh3=>⟨λh4=>key _ ?_,λh4=>(c110 h).call ⟨_,rfl,λg=>(c111 (first:=[]) (caps:=[]) h.types Tryz.call112 (λf=>!EH f) λf hm=>c112 (h.typesOk f hm)).call ⟨_,rfl,λu=>key _ ?_,λu=>
   (Oj (first:=[]) (caps:=[]) h.procs Tryz.call113 (λf=>!DO f) λf hm=>c113 (h.procsOk f hm)).call ⟨_,rfl,key _ ?_⟩⟩,λg=>key _ ?_⟩⟩,λh3=>key _ ?_⟩⟩,λh1=>key _ ?_⟩
 ·grind
 ·grind
 ·grind[xS,EH]
 ·grind
 ·grind
 ·simp_all
 simp_all
end Go.Proofs
namespace Go.Proofs
open Go Go.Sx
def DP:KB:=Ac [110,105,108]
def sE:KB:=Ac []
def Cd(d:Ds)(s:KB):Bool:=d.types.any λt=>decide (t.name=s)
def Bs(d:Ds)(s:KB):Bool:=decide (s=Aj)||decide (s=Au)||Cd d s
def Bz(d:Ds)(a b:KB):Bool:=decide (a=b)||(decide (a=DP)&&Cd d b)
def BZ:List Fld->KB->KB
 |[],_=>sE
 |f::l,s=>if f.name=s then f.ty else BZ l s
def DC(d:Ds)(s:KB):Option Ty:=d.types.find? λt=>decide (t.name=s)
def Ce(d:Ds)(s:KB):Option Pr:=d.procs.find? λt=>decide (t.name=s)
def meOf(d:Ds)(s:KB):Option Ms:=d.measures.find? λt=>decide (t.name=s)
def DD(d:Ds)(t name:KB):KB×Int:=
 match DC d t with
 |none=>(sE,11)
 |some ty=>if BZ ty.fields name=sE then(sE,9)else(BZ ty.fields name,0)
def DQ(d:Ds):List KB->List Fld->Bool
 |a::l,f::fs=>Bz d a f.ty&&DQ d l fs
 |_,_=>true
def Et(d:Ds)(name:KB)(l:List KB):KB×Int:=
 match Ce d name with
 |none=>(sE,9)
 |some p=>if l.length≠p.params.length then(sE,3)else if DQ d l p.params=true then(p.result,0)else(sE,11)
def DE(ok:Bool)(t:KB):KB×Int:=if ok=true then(t,0)else(sE,11)
structure Sc where
 vars:List Fld
 body:Bool
def Ge(d:Ds)(name:KB)(l:List KB):KB×Int:=
 match meOf d name with
 |none=>(sE,9)
 |some m=>if l.length≠1 then(sE,3)else DE (Bz d (l.getD 0 sE) m.ty) Aj
def Fq(d:Ds)(sc:Sc)(name:KB)(l:List KB):KB×Int:=
 if sc.body=true then(if(Et d name l).2=0/\(Et d name l).1=sE then(sE,11)else Et d name l)else Ge d name l
def allT(l:List KB)(t:KB):Bool:=l.all λx=>decide (x=t)
def EJ(d:Ds)(sc:Sc)(op:Int)(s:KB)(l:List KB):KB×Int:=
 if op=1 then(Aj,0)else if op=2 then(Au,0)else if op=3 then(DP,0)
 else if op=4 then(if BZ sc.vars s=sE then(sE,9)else(BZ sc.vars s,0))
 else if op=5 then DD d (l.getD 0 sE) s
 else if op=6 then(if sc.body=false then(sE,13)else if Cd d s=false then(sE,9)else(s,0))
 else if op=7 then Fq d sc s l
 else if op=14∨op=15 then DE (Bz d (l.getD 0 sE) (l.getD 1 sE)||Bz d (l.getD 1 sE) (l.getD 0 sE)) Au
 else if op=16∨op=17 then DE (allT l Aj) Au
 else if op=18∨op=19∨op=20 then DE (allT l Au) Au
 else if op=21 then DE (decide (l.getD 0 sE=Au)&&(Bz d (l.getD 1 sE) (l.getD 2 sE)||Bz d (l.getD 2 sE) (l.getD 1 sE))) (if l.getD 1 sE=DP then l.getD 2 sE else l.getD 1 sE)
 else DE (allT l Aj) Aj
mutual
def As(d:Ds)(sc:Sc):E->KB×Int
 |.mk op _ s _ k=>if(partsT d sc [] k).2≠0 then(sE,(partsT d sc [] k).2)else EJ d sc op s (partsT d sc [] k).1
def partsT(d:Ds)(sc:Sc)(acc:List KB):List E->List KB×Int
 |[]=>(acc,0)
 |x::xs=>if(As d sc x).2≠0 then([],(As d sc x).2)else partsT d sc (acc++[(As d sc x).1]) xs
end
theorem KA(d:Ds)(sc:Sc)(e:E):As d sc e=if(partsT d sc [] e.k).2≠0 then(sE,(partsT d sc [] e.k).2)else EJ d sc e.op e.s (partsT d sc [] e.k).1:=by
 cases e;rfl
theorem HW(d:Ds)(sc:Sc)(acc:List KB)(x:E)(xs:List E):partsT d sc acc (x::xs)=if(As d sc x).2≠0 then([],(As d sc x).2)else partsT d sc (acc++[(As d sc x).1]) xs:=by rw[partsT]
theorem IK(d:Ds)(sc:Sc)(acc:List KB):partsT d sc acc []=(acc,0):=by rw[partsT]
theorem Mi(d:Ds)(sc:Sc):∀(k:List E)(acc:List KB),(partsT d sc acc k).2=0->(partsT d sc acc k).1.length=acc.length+k.length
 |[],acc,_=>by rfl
 |x::xs,acc,h=>by
  rw[HW]at h⊢;split at h;·omega
  ·rename_i g;rw[if_neg g,Mi d sc xs _ h,List.length_append,zy,zy,List.length_nil];omega
def Av(d:Ds)(p:Pr):Sc:=⟨p.params++p.locals++d.globals,true⟩
def sThisF:KB:=Ac [116,104,105,115]
def BK(d:Ds)(t:KB):Sc:=⟨(if t=sE then[]else[⟨sThisF,t⟩])++d.globals,false⟩
def EK(d:Ds)(p:Pr):Sc:=⟨p.params++d.globals,false⟩
def Ed(d:Ds)(sc:Sc)(result:KB)(op:Int)(s:KB)(es:List E):Int:=
 if op=6 then
  match es with
  |[]=>0
  |e::_=>if(partsT d sc [] e.k).2≠0 then(partsT d sc [] e.k).2 else(Et d e.s (partsT d sc [] e.k).1).2
 else if(partsT d sc [] es).2≠0 then(partsT d sc [] es).2
 else if op=1 then(if BZ sc.vars s=sE then 9 else if Bz d ((partsT d sc [] es).1.getD 0 sE) (BZ sc.vars s)=true then 0 else 11)
 else if op=2 then(if(DD d ((partsT d sc [] es).1.getD 0 sE) s).2≠0 then(DD d ((partsT d sc [] es).1.getD 0 sE) s).2 else if Bz d ((partsT d sc [] es).1.getD 1 sE) (DD d ((partsT d sc [] es).1.getD 0 sE) s).1=true then 0 else 11)
 else if op=3∨op=4 then(if(partsT d sc [] es).1.getD 0 sE=Au then 0 else 11)
 else if op=5 then(if(partsT d sc [] es).1.length=0 then(if result=sE then 0 else 11)else if result≠sE/\Bz d ((partsT d sc [] es).1.getD 0 sE) result=true then 0 else 11)
 else 0
mutual
def Ee(d:Ds)(sc:Sc)(result:KB)(n:Int):S->Int×Int
 |.mk op s _ es _ ls _ xs=>
  if Ed d sc result op s es≠0 then(n,Ed d sc result op s es)
  else if(AK d sc result (n+1) ls).2≠0 then AK d sc result (n+1) ls
  else AK d sc result (AK d sc result (n+1) ls).1 xs
def AK(d:Ds)(sc:Sc)(result:KB)(n:Int):List S->Int×Int
 |[]=>(n,0)
 |x::xs=>if(Ee d sc result n x).2≠0 then Ee d sc result n x else AK d sc result (Ee d sc result n x).1 xs
end
theorem stT_eq(d:Ds)(sc:Sc)(result:KB)(n:Int)(x:S):Ee d sc result n x=if Ed d sc result x.op x.s x.es≠0 then(n,Ed d sc result x.op x.s x.es)else if(AK d sc result (n+1) x.ls).2≠0 then AK d sc result (n+1) x.ls else AK d sc result (AK d sc result (n+1) x.ls).1 x.xs:=by
 cases x;unfold Ee;rfl
theorem KC(d:Ds)(sc:Sc)(result:KB)(n:Int)(x:S)(xs:List S):AK d sc result n (x::xs)=if(Ee d sc result n x).2≠0 then Ee d sc result n x else AK d sc result (Ee d sc result n x).1 xs:=by rw[AK]
theorem stsT_nil(d:Ds)(sc:Sc)(result:KB)(n:Int):AK d sc result n []=(n,0):=by rw[AK]
def BP(d:Ds)(l:List Fld)(i:Nat)(f:Fld):Int:=if(l.take i).any (λg=>decide (g.name=f.name))=true then 10 else if Bs d f.ty=true then 0 else 9
def Ar{α β:Type}(f:Nat->α->Option β):Nat->List α->Option β
 |_,[]=>none
 |i,x::xs=>match f i x with|some b=>some b|none=>Ar f (i+1) xs
def CB(d:Ds)(l:List Fld):Int:=(Ar (λi f=>if BP d l i f≠0 then some (BP d l i f)else none) 0 l).getD 0
abbrev Flt:=KB×Int×Int
def types1(d:Ds):Option Flt:=Ar (λi t=>if(d.types.take i).any (λg=>decide (g.name=t.name))=true then some (t.name,-1,10)else none) 0 d.types
def types2(d:Ds):Option Flt:=Ar (λ_ t=>if CB d t.fields≠0 then some (t.name,-1,CB d t.fields)else none) 0 d.types
def types3(d:Ds):Option Flt:=Ar (λi f=>if BP d d.globals i f≠0 then some (f.name,-1,BP d d.globals i f)else none) 0 d.globals
def Gg(d:Ds):Option Flt:=(types1 d).or ((types2 d).or (types3 d))
def Fs(d:Ds):Option Flt:=Ar (λi p=>if(d.procs.take i).any (λg=>decide (g.name=p.name))=true then some (p.name,-1,10)else if CB d (p.params++p.locals)≠0 then some (p.name,-1,CB d (p.params++p.locals))else if p.result≠sE/\Bs d p.result=false then some (p.name,-1,9)else none) 0 d.procs
def form1(d:Ds):Option Flt:=Ar (λi m=>if(d.measures.take i).any (λg=>decide (g.name=m.name))=true then some (m.name,-1,10)else if Cd d m.ty=false then some (m.name,-1,9)else none) 0 d.measures
def form2(d:Ds):Option Flt:=Ar (λi m=>if(d.invs.take i).any (λg=>decide (g.name=m.name))=true then some (m.name,-1,10)else if m.ty≠sE/\Cd d m.ty=false then some (m.name,-1,9)else none) 0 d.invs
def sPot:KB:=Ac [112,111,116,101,110,116,105,97,108]
def form3(d:Ds):Option Flt:=Ar (λ_ m=>if m.ty≠sE/\Cd d m.ty=false then some (sPot,-1,9)else none) 0 d.pots
def form4(d:Ds):Option Flt:=Ar (λi b=>if(Ce d b.proc).isNone=true then some (b.proc,-1,9)else if(d.bounds.take i).any (λg=>decide (g.proc=b.proc))=true then some (b.proc,-1,10)else none) 0 d.bounds
def DY(d:Ds):Option Flt:=(form1 d).or ((form2 d).or ((form3 d).or (form4 d)))
def E9(d:Ds):Option Flt:=Ar (λ_ p=>if(AK d (Av d p) p.result 0 p.body).2≠0 then some (p.name,(AK d (Av d p) p.result 0 p.body).1,(AK d (Av d p) p.result 0 p.body).2)else none) 0 d.procs
def BE(d:Ds)(sc:Sc)(e:E)(t:KB):Int:=if(As d sc e).2≠0 then(As d sc e).2 else if(As d sc e).1=t then 0 else 11
def exp1(d:Ds):Option Flt:=Ar (λ_ m=>if BE d (BK d m.ty) m.x Aj≠0 then some (m.name,-1,BE d (BK d m.ty) m.x Aj)else none) 0 d.measures
def exp2(d:Ds):Option Flt:=Ar (λ_ m=>if BE d (BK d m.ty) m.x Au≠0 then some (m.name,-1,BE d (BK d m.ty) m.x Au)else none) 0 d.invs
def exp3(d:Ds):Option Flt:=Ar (λ_ m=>if BE d (BK d m.ty) m.x Aj≠0 then some (sPot,-1,BE d (BK d m.ty) m.x Aj)else none) 0 d.pots
def HX:Pr:=⟨sE,⟨none,0,0⟩,[],sE,⟨none,0,0⟩,[],⟨none,0,0⟩,[]⟩
def exp4(d:Ds):Option Flt:=Ar (λ_ m=>if BE d (EK d ((Ce d m.proc).getD HX)) m.x Aj≠0 then some (m.proc,-1,BE d (EK d ((Ce d m.proc).getD HX)) m.x Aj)else none) 0 d.bounds
def Fa(d:Ds):Option Flt:=(exp1 d).or ((exp2 d).or ((exp3 d).or (exp4 d)))
def CT(d:Ds):Option Flt:=(Gg d).or ((Fs d).or ((DY d).or ((E9 d).or (Fa d))))
def fltR(o:Option Flt):Flt:=o.getD (sE,0,0)
end Go.Proofs
namespace Go.Proofs
open Go Go.Sx
attribute [local irreducible] Go.Sx.Tri
noncomputable def ti(t:Nat):TypeInfo:=(xG.info? t).getD default
section
variable{α:Type}
def AppP(t e sz:Nat)(row:α->List Value):Prop:=∀{V0 V:Mem}{ty:Nat}{x y:Operand}{vals:Operand->Value}{s u:Sl}{xs ys:List α}(g:vals x=.slice s.p s.n s.c)(f:vals y=.slice u.p u.n u.c)(own:Sx.Own V0 V e sz s (xs.flatMap row))(h:Ad V u sz (ys.map row))
 (k:xs.length+ys.length<=2147483648) {q:Value->Mem->Prop} (w:∀s' V',Sx.Own V0 V' e sz s' ((xs++ys).flatMap row)->q (.slice s'.p s'.n s'.c) V'),
 GenK xG (.call {callee:=.builtin .append,args:=#[x,y],argTypes:=#[t,t]}) ty vals V q
theorem appG{t e sz:Nat}{row:α->List Value}(g:xG.underlying t=some (.slice e))(hi:xG.info? e=some (ti e))(f:(ti e).zero=some ((ti e).zero.getD undef))(h1:(ti e).size=sz)(h2:((ti e).zero.getD undef).cells.size=sz)(h3:decide ((ti e).bytes<=65536)=true)
  (w:0<sz) (z:∀x,(row x).length=sz) (hu:∀x,∀u∈row x,u.oneCell'=true):AppP t e sz row:=by
 intro V0 V ty x y vals s u xs n j i own h k q l;exact GenK.appendS g hi f h1 h2 w (of_decide_eq_true h3) j i own z h hu k l
end
theorem app194:AppP 194 9 1 Dm:=appG Tryz.underlying194 (by kernel_rfl) (by kernel_rfl) (by kernel_rfl) (by kernel_rfl) (by kernel_rfl) (by decide) (by intro _;rfl) λx u hu=>by simp[Dm,vS]at hu;rw[hu];rfl
theorem EX:AppP 28 112 2 Fld.row:=appG Tryz.underlying28 (by kernel_rfl) (by kernel_rfl) (by kernel_rfl) (by kernel_rfl) (by kernel_rfl) (by decide) (by intro _;rfl) λx u hu=>by simp[Fld.row,vS]at hu;rcases hu with rfl|rfl<;>rfl
def Ci{α:Type}(p:α->Bool)(xs:List α):Int:=match xs.findIdx? p with|some i=>(i:Int)|none=>-1
theorem HY{α:Type}{p:α->Bool}{xs:List α}{i:Nat}{x:α}(h:Bb (λy=>!p y) xs i)(k:xs[i]?=some x)(u:p x=true):Ci p xs=i:=by
 have g:=(yu.1 k).1;have w:=(yu.1 k).2;have:xs.findIdx? p=some i:=ye.2 ⟨g,by grind,λj f=>by
  have:=h j _ f (yr (Nat.lt_trans f g));simpa using this⟩
 unfold Ci;rw[this]
theorem HZ{α:Type}{p:α->Bool}{xs:List α}{i:Nat}(h:Bb (λy=>!p y) xs i)(hi:xs.length<=i):Ci p xs=-1:=by
 have:xs.findIdx? p=none:=List.findIdx?_eq_none_iff.2 λx k=>by
  obtain⟨j,g,rfl⟩:=ya.1 k;have:=h j _ (by omega) (yr g);simpa using this
 unfold Ci;rw[this]
theorem CP{α:Type}(p:α->Bool)(xs:List α):(Ci p xs=-1/\xs.find? p=none/\xs.any p=false)∨∃(i:Nat)(x:α),Ci p xs=i/\xs[i]?=some x/\xs.find? p=some x/\i<xs.length/\p x=true/\x∈xs/\xs.any p=true/\(xs.take i).any p=false:=by
 cases h:xs.findIdx? p with
 |none=>
  grind[Ci]
 |some i=>
  obtain⟨k,g,u⟩:=ye.1 h;refine .inr ⟨i,xs[i],by unfold Ci;rw[h],yr k,?_,k,g,ym _,List.any_eq_true.2 ⟨_,ym _,g⟩,?_⟩
  ·rw[List.find?_eq_some_iff_getElem];grind
  ·rw[List.any_eq_false];intro x f;obtain⟨j,w,rfl⟩:=ya.1 f;grind
theorem H0{α:Type}{p:α->Bool}{xs:List α}{i:Nat}{x:α}(h:Bb (λy=>!p y) xs i)(k:xs[i]?=some x)(g:p x=false):Bb (λy=>!p y) xs (i+1):=h.succ k (by simp[g])
theorem H3{V:Mem}{d:Ds}(h:Ds.Ok V d){s:KB}:PP 93 [d.v,.string s] V (.int .i64 (Ci (λt=>decide (t.name=s)) d.types)):=by
 refine Qw ?_;refine AR d.types.length (λi V1=>V=V1/\Bb (λt=>!decide (t.name=s)) d.types i) ⟨rfl,Bb.zero _ _⟩ ?_;rintro i b V1 J hi ⟨rfl,f⟩ j;refine⟨λk=>?_,λu=>?_⟩
 ·obtain⟨x,hm,z,l,n,y,m,g⟩:=h.types.get k;refine⟨y,m,k,Al y,_,_,g,λw=>?_,λw=>⟨h.types.succ k,j n _ _ ⟨rfl,H0 (p:=λt=>decide (t.name=s)) f z (decide_eq_false w)⟩⟩⟩;rw[HY (p:=λt=>decide (t.name=s)) f z (decide_eq_true w)];simp_all
 ·rw[HZ (p:=λt=>decide (t.name=s)) f (h.types.done u).2];exact⟨rfl,rfl⟩
theorem c136{V:Mem}{d:Ds}(h:Ds.Ok V d){s:KB}:PP 136 [d.v,.string s] V (.int .i64 (Ci (λt=>decide (t.name=s)) d.procs)):=by
 refine x136 ?_;refine AR d.procs.length (λi V1=>V=V1/\Bb (λt=>!decide (t.name=s)) d.procs i) ⟨rfl,Bb.zero _ _⟩ ?_;rintro i b V1 J hi ⟨rfl,f⟩ j;refine⟨λk=>?_,λu=>?_⟩
 ·obtain⟨x,hm,z,l,n,y,m,g⟩:=h.procs.get k;refine⟨y,m,k,Al y,_,_,_,_,_,g,λw=>?_,λw=>⟨h.procs.succ k,j n _ _ ⟨rfl,H0 (p:=λt=>decide (t.name=s)) f z (decide_eq_false w)⟩⟩⟩;rw[HY (p:=λt=>decide (t.name=s)) f z (decide_eq_true w)];simp_all
 ·rw[HZ (p:=λt=>decide (t.name=s)) f (h.procs.done u).2];exact⟨rfl,rfl⟩
theorem c269{V:Mem}{d:Ds}(h:Ds.Ok V d){s:KB}:PP 269 [d.v,.string s] V (.int .i64 (Ci (λt=>decide (t.name=s)) d.measures)):=by
 refine x269 ?_;refine AR d.measures.length (λi V1=>V=V1/\Bb (λt=>!decide (t.name=s)) d.measures i) ⟨rfl,Bb.zero _ _⟩ ?_;rintro i b V1 J hi ⟨rfl,f⟩ j;refine⟨λk=>?_,λu=>?_⟩
 ·obtain⟨x,hm,z,l,n,y,m,g⟩:=h.measures.get k;refine⟨y,m,k,Al y,_,_,_,_,_,_,_,g,λw=>?_,λw=>⟨h.measures.succ k,j n _ _ ⟨rfl,H0 (p:=λt=>decide (t.name=s)) f z (decide_eq_false w)⟩⟩⟩;rw[HY (p:=λt=>decide (t.name=s)) f z (decide_eq_true w)];simp_all
 ·rw[HZ (p:=λt=>decide (t.name=s)) f (h.measures.done u).2];exact⟨rfl,rfl⟩
section
variable{V:Mem}{d:Ds}
theorem c270(h:Ds.Ok V d){s:KB}:PP 270 [d.v,.string s] V (.bool (Cd d s)):=by
 refine x270 ?_;refine(H3 h).call ⟨_,rfl,?_⟩;rcases CP (λt:Ty=>decide (t.name=s)) d.types with⟨h1,h2,h3⟩|⟨i,x,h1,h2,h3,h4,g,f,k,_⟩;·rw[h1,Cd,h3];exact⟨rfl,rfl⟩
 ·rw[h1,Cd,k,decide_eq_true (by omega)];exact⟨rfl,rfl⟩
theorem c268(h:Ds.Ok V d){s:KB}:PP 268 [d.v,.string s] V (.bool (Bs d s)):=by
 refine x268 ?_;refine⟨λh1=>?_,λh1=>⟨λh2=>?_,λh2=>(c270 h).call ⟨_,rfl,?_⟩⟩⟩<;>simp[Bs,Aj,Au, *]
theorem c298(h:Ds.Ok V d){s t:KB}:PP 298 [d.v,.string s,.string t] V (.bool (Bz d s t)):=by
 refine x298 ?_;unfold Bz DP;refine⟨λh1=>?_,λh1=>⟨λh2=>(c270 h).call ⟨_,rfl,?_⟩,λh2=>?_⟩⟩;·simp_all
 ·simp_all
 simp_all
theorem On(fs:List Fld):DQ d [] fs=true:=by simp[DQ]
theorem c297{l:Sl}{xs:List Fld}(h:Ad V l 2 (xs.map Fld.row)){s:KB}:PP 297 [l.v,.string s] V (.string (BZ xs s)):=by
 refine x297 ?_;refine AR xs.length (λi V1=>V=V1/\BZ xs s=BZ (xs.drop i) s) ⟨rfl,rfl⟩ ?_;rintro i b V1 J hi ⟨rfl,z⟩ j;refine⟨λk=>?_,λu=>?_⟩
 ·obtain⟨x,hm,r,w,n,f,y,g⟩:=h.get k;rw[w,BZ]at z;refine⟨f,y,k,Al f,_,_,g,λm=>⟨f,y,k,Al f,_,_,g,?_⟩,λm=>⟨h.succ k,j n _ _ ⟨rfl,?_⟩⟩⟩;·simp_all
  simp_all
 ·rw[z,(h.done u).1];exact⟨rfl,rfl⟩
theorem c299(h:Ds.Ok V d){s t:KB}:PP 299 [d.v,.string s,.string t] V (.tuple #[.string (DD d s t).1,.int .i64 (DD d s t).2]):=by
 refine x299 ?_;refine(H3 h).call ⟨_,rfl,?_⟩;unfold DD DC;rcases CP (λt:Ty=>decide (t.name=s)) d.types with⟨h1,h2,h3⟩|⟨i,x,h1,h2,h3,h4,m,w,r,_⟩;·rw[h1,h2];exact⟨λ_=>⟨rfl,rfl⟩,λh=>absurd h (by decide)⟩
 ·rw[h1,h3];have q:=h.types.n_eq;have k:(i:Int)<(d.ts.n:Int):=by omega
  obtain⟨y,hm,f,z,o,u,j,g⟩:=h.types.get k;rw[h2]at f;cases f;refine⟨λh=>absurd h (by omega),λ_=>⟨u,j,k,Al u,_,_,g,(c297 (h.typesOk x w).fields).call ⟨_,rfl,λl=>?_,λl=>?_⟩⟩⟩;·grind[sE]
  grind[sE]
theorem c316{b:Bool}{s:KB}:PP 316 [.bool b,.string s] V (.tuple #[.string (DE b s).1,.int .i64 (DE b s).2]):=by
 refine x316 ?_;refine⟨λh=>?_,λh=>?_⟩;·unfold DE;rw[if_pos h];exact⟨rfl,rfl⟩
 ·unfold DE;rw[if_neg h];exact⟨rfl,rfl⟩
theorem c317{l:Sl}{xs:List KB}(h:Ad V l 1 (xs.map Dm)){s:KB}:PP 317 [l.v,.string s] V (.bool (allT xs s)):=by
 refine x317 ?_;refine AR xs.length (λi V1=>V=V1/\Bb (λx=>decide (x=s)) xs i) ⟨rfl,Bb.zero _ _⟩ ?_;rintro i b V1 J hi ⟨rfl,u⟩ z;refine⟨λk=>?_,λf=>?_⟩
 ·obtain⟨x,hm,y,j,n,m,r,g⟩:=h.get k;refine⟨m,r,k,_,g,λw=>⟨h.succ k,z n _ _ ⟨rfl,u.succ y (decide_eq_true w)⟩⟩,λw=>?_⟩;unfold allT;grind
 ·unfold allT;rw[u.all (h.done f).2];simp_all
theorem c295(h:Ds.Ok V d){s:KB}{l:Sl}{xs:List KB}(o:Ad V l 1 (xs.map Dm)):PP 295 [d.v,.string s,l.v] V (.tuple #[.string (Et d s xs).1,.int .i64 (Et d s xs).2]):=by
 refine x295 ?_;refine(c136 h).call ⟨_,rfl,?_⟩;unfold Et Ce;rcases CP (λt:Pr=>decide (t.name=s)) d.procs with⟨h1,h2,h3⟩|⟨i,x,h1,h2,h3,h4,D,Q,E,_⟩;·rw[h1,h2];exact⟨λ_=>⟨rfl,rfl⟩,λh=>absurd h (by decide)⟩
 ·rw[h1,h3];have K:=h.procs.n_eq;have k:(i:Int)<(d.ps.n:Int):=by omega
  obtain⟨y,hm,Y,P,O,A,I,z⟩:=h.procs.get k;rw[h2]at Y;cases Y;have m:=h.procsOk x Q;have S:=o.n_eq;have T:=m.params.n_eq;refine⟨λh=>absurd h (by omega),λ_=>⟨A,I,k,_,_,_,_,_,z,λM=>?_,λM=>?_⟩⟩
  ·have g:xs.length=x.params.length:=by omega
   simp only[g,ne_eq,not_true_eq_false,if_false];refine DN xs.length (λi V1=>V=V1/\DQ d xs x.params=DQ d (xs.drop i) (x.params.drop i)) ⟨rfl,rfl⟩ ?_;rintro j b c V1 J hi ⟨rfl,p⟩ F;refine⟨λk=>?_,λa=>?_⟩
   ·obtain⟨y,L,R,r,e,H,G,u⟩:=o.get k;obtain⟨f,X,B,N,C,q,Z,w⟩:=m.params.get (i:=j) (by omega);rw[r,N,DQ]at p;refine⟨H,G,k,_,u,q,Z,by omega,Al q,_,_,w,(c298 h).call ⟨_,rfl,λW=>⟨o.succ k,F e _ _ _ ⟨rfl,?_⟩⟩,λW=>?_⟩⟩;·simp_all
    ·rw[eq_false_of_ne_true W,xT]at p;rw[p];exact⟨rfl,rfl⟩
   ·rw[(o.done a).1,On]at p;simp_all
  ·have g:¬xs.length=x.params.length:=by omega
   simp only[ne_eq,g,not_false_eq_true,if_true];exact⟨by rfl,by simp_all⟩
theorem Ft{l:Sl}{xs:List KB}(u:Ad V l 1 (xs.map Dm)){i:Nat}(hi:i<xs.length):¬(l.p=none)/\(i:Int)<(l.n:Int)/\V.rowp l.p i 1=some [.string (xs.getD i sE)]:=by
 have m:=u.n_eq;have k:(i:Int)<(l.n:Int):=by omega
 obtain⟨y,z,g,w,x,f,j,h⟩:=u.get k;rw[List.getD_eq_getElem?_getD,g];rw[Nat.mul_one]at h;exact⟨f,k,h⟩
theorem c315(h:Ds.Ok V d){sl:Sl}{sc:Sc}{s:KB}{l:Sl}{xs:List KB}(w:Ad V l 1 (xs.map Dm)):
  PP 315 [d.v,.agg #[sl.v,.bool sc.body],.string s,l.v] V (.tuple #[.string (Fq d sc s xs).1,.int .i64 (Fq d sc s xs).2]):=by
 refine x315 ?_;refine⟨λg=>(c295 h w).call ⟨_,_,rfl,λz=>⟨λh1=>?_,λh1=>?_⟩,λz=>?_⟩,λg=>?_⟩;·unfold Fq sE;rw[if_pos g,if_pos ⟨z,h1⟩];exact⟨rfl,rfl⟩
 ·unfold Fq sE;rw[if_pos g,if_neg (λh=>h1 h.2)];exact⟨rfl,rfl⟩
 ·unfold Fq;rw[if_pos g,if_neg (λh=>z h.1)];exact⟨rfl,rfl⟩
 ·unfold Fq;rw[if_neg g];refine(c269 h).call ⟨_,rfl,?_⟩;unfold Ge meOf;rcases CP (λt:Ms=>decide (t.name=s)) d.measures with⟨h1,h2,h3⟩|⟨i,x,h1,h2,h3,h4,c,a,e,_⟩;·rw[h1,h2];exact⟨λ_=>⟨rfl,rfl⟩,λh=>absurd h (by decide)⟩
  ·rw[h1,h3];have H:=h.measures.n_eq;have f:(i:Int)<(d.ms.n:Int):=by omega
   obtain⟨y,hm,j,r,q,m,o,u⟩:=h.measures.get f;rw[h2]at j;cases j;have J:=w.n_eq;refine⟨λh=>absurd h (by omega),λ_=>⟨λp=>?_,λp=>?_⟩⟩
   ·have k:xs.length=1:=by omega
    obtain⟨a1,a2,a3⟩:=Ft w (i:=0) (by omega);simp only[k,ne_eq,not_true_eq_false,if_false];exact⟨a1,by omega,by omega,_,a3,m,o,f,Al m,_,_,_,_,_,_,_,u,(c298 h).call ⟨_,rfl,c316.call ⟨_,_,rfl,rfl,rfl⟩⟩⟩
   ·have k:¬xs.length=1:=by omega
    simp only[ne_eq,k,not_false_eq_true,if_true];exact⟨by rfl,by simp_all⟩
end
theorem arity{op n:Int}{s:KB}{len:Int}(h:DB op n s len=true):(op=5->len=1)/\(op=14∨op=15->len=2)/\(op=21->len=3)/\len<=6:=by
 grind[DB,BO]
theorem JE{d:Int}{e:E}(h:Cv d e=true):DB e.op e.n e.s e.k.length=true:=by
 cases e;unfold Cv at h;rw[zC,zC]at h;exact h.1.2
theorem okEs_mem{d:Int}:∀{l:List E},okEs d l=true->∀x∈l,Cv d x=true
 |[],_,x,k=>absurd k List.not_mem_nil
 |y::l,h,x,k=>by
  unfold okEs at h;rw[zC]at h;rcases List.mem_cons.1 k with rfl|k;·exact h.1
  ·exact okEs_mem h.2 x k
theorem KD{d:Int}{e:E}(h:Cv d e=true):∀x∈e.k,Cv (d+1) x=true:=by
 cases e;unfold Cv at h;rw[zC]at h;exact okEs_mem h.2
theorem ownS{V0 V:Mem}{s:Sl}{l:List KB}(h:Own V0 V 9 1 s (l.flatMap Dm)):Ad V s 1 (l.map Dm):=h.rows (λ_=>rfl) (by decide)
theorem JF{V:Mem}{b:Nat}{s:KB}{t:Nat}(h:V b=some (.cells #[.string s] t (0,0))):Ad V ⟨some ⟨b,0,none⟩,1,1⟩ 1 ([s].map Dm):=
 Ad.cells (xs:=[s]) (row:=Dm) h rfl (λ_=>rfl) rfl (by simp)
def IL(sl:Sl)(sc:Sc):Value:=.agg #[sl.v,.bool sc.body]
section
variable{V:Mem}{d:Ds}{sc:Sc}{sl:Sl}
def RefE(V:Mem)(d:Ds)(sl:Sl)(sc:Sc)(e:E):Prop:=∀V1,V.sub V1->PP 296 [d.v,IL sl sc,e.v] V1 (.tuple #[.string (As d sc e).1,.int .i64 (As d sc e).2])
theorem refParts(e:E)(G:E.Ok V e)(H:(e.k.length:Int)<=6)(N:∀x∈e.k,RefE V d sl sc x):
  Tri xG 294 #[d.v,IL sl sc,e.v] V λr V'=>∃s':Sl,r=.returned (.tuple #[.slice s'.p s'.n s'.c,.int .i64 (partsT d sc [] e.k).2])/\V.sub V'/\Ad V' s' 1 ((partsT d sc [] e.k).1.map Dm):=by
 have Z:=G.rows;refine x294 ?_;refine loop4s (mk:=λs:Sl=>.slice s.p s.n s.c) (mc:=.int .i64) (md:=λs:Sl=>.slice s.p s.n s.c) ⟨none,0,0⟩ 0 ⟨none,0,0⟩ Bv e.k.length (λi s V1=>∃acc,Own V V1 9 1 s (acc.flatMap Dm)/\partsT d sc [] e.k=partsT d sc acc (e.k.drop i)/\acc.length=i) ⟨[],Own.nil (Mem.sub.refl _) _ _,rfl,rfl⟩ ?_;rintro i b c s V1 J hi ⟨acc,g,f,w⟩ Y;have z:=Z.sub g.sub;refine⟨λy=>?_,λl=>?_⟩
 ·obtain⟨x,hm,O,m,W,q,Q,j⟩:=z.get y;rw[m,HW]at f;refine⟨q,Q,y,_,_,_,_,j,(N x hm V1 g.sub).call ⟨_,_,rfl,λo=>?_,λo=>?_⟩⟩
  ·intro b1 a;rw[if_neg (λh=>h o)]at f;refine app194 (s:=s) (u:=⟨some ⟨b1,0,none⟩,1,1⟩) (xs:=acc) (ys:=[(As d sc x).1]) rfl rfl (g.new a _) (JF Az) (by simp;omega) λs' V' P=>⟨s',rfl,z.succ y,Y W _ _ _ _ ⟨_,P,f,by simp[w]⟩⟩
  ·rw[if_pos o]at f;exact⟨⟨none,0,0⟩,by rw[f],g.sub,by rw[f];exact Ad.nil⟩
 ·rw[(z.done l).1,IK]at f;exact⟨s,by rw[f],g.sub,by grind[ownS]⟩
set_option maxRecDepth 4000 in
theorem KE(hd:Ds.Ok V d)(I:Ad V sl 2 (sc.vars.map Fld.row)):∀(e:E),E.Ok V e->∀M,Cv M e=true->RefE V d sl sc e:=by
 intro e;induction e using E.ind with
 |h e ih=>
 intro U M Y V1 A;have c:=arity (JE Y);have hk:∀x∈e.k,RefE V1 d sl sc x:=λx F V2 h2=>ih x F (U.kids x F) (M+1) (KD Y x F) V2 (A.trans h2);refine Bf.mk (x296 ?_);refine Tri.mono (refParts e (U.sub A) c.2.2.2 hk) ?_;rintro _ V2 ⟨s',rfl,v,g⟩;rw[KA];have o:=Mi d sc e.k [];generalize hPT:partsT d sc [] e.k=pt at g o;obtain⟨l,f⟩:=pt;refine⟨s',f,rfl,λz=>?_,λz=>?_⟩
 ·subst z;have o:l.length=e.k.length:=by simp_all
  simp only[ne_eq,not_true_eq_false,if_false];have r:=hd.sub (A.trans v);have W:=I.sub (A.trans v);generalize w:EJ d sc e.op e.s l=X;have key:∀a b,X=(a,b)->(xI (.tuple #[.string a,.int .i64 b])=xI (.tuple #[.string X.1,.int .i64 X.2])/\V1.sub V2):=λa b h=>by simp_all
  have i:=λt=>c317 g (s:=t);have u:=λa b=>c298 r (s:=a) (t:=b);have H:=λh:0<l.length=>Ft g h;have at1:=λh:1<l.length=>Ft g h;have at2:=λh:2<l.length=>Ft g h;unfold EJ at w;refine⟨λy=>key _ _ ?_,λy=>⟨λj=>key _ _ ?_,λj=>⟨λn=>key _ _ ?_,λn=>⟨λm=>?_,λm=>⟨λq=>?_,λq=>⟨λp=>?_,λp=>⟨λJ=>?_,λJ=>⟨λL=>?_,λL=>⟨λR=>?_,λR=>⟨λB=>?_,λB=>⟨λC=>?_,λC=>⟨λD=>?_,λD=>⟨λK=>?_,λK=>⟨λS=>?_,λS=>⟨λG=>?_,λG=>?_⟩⟩⟩⟩⟩⟩⟩⟩⟩⟩⟩⟩⟩⟩⟩;·rw[<-w,if_pos y];rfl
  ·rw[<-w,if_neg y,if_pos j];rfl
  ·rw[<-w,if_neg y,if_neg j,if_pos n];rfl
  ·rw[if_neg y,if_neg j,if_neg n,if_pos m]at w;refine(c297 W).call ⟨_,rfl,λh=>key _ _ ?_,λh=>key _ _ ?_⟩;·grind[BZ,sE]
   grind[BZ,sE]
  ·rw[if_neg y,if_neg j,if_neg n,if_neg m,if_pos q]at w;obtain⟨a1,a2,a3⟩:=H (by omega);exact⟨a1,by omega,a2,_,a3,(c299 r).call ⟨_,_,rfl,key _ _ (by rw[<-w])⟩⟩
  ·rw[if_neg y,if_neg j,if_neg n,if_neg m,if_neg q,if_pos p]at w;refine⟨λT=>(c270 r).call ⟨_,rfl,λZ=>key _ _ ?_,λZ=>key _ _ ?_⟩,λT=>key _ _ ?_⟩;·simp_all
   ·rw[<-w,if_neg (by rw[T];simp),if_pos (eq_false_of_ne_true Z)];rfl
   ·rw[<-w,if_pos (eq_false_of_ne_true T)];rfl
  ·rw[if_neg y,if_neg j,if_neg n,if_neg m,if_neg q,if_neg p,if_pos J]at w;exact(c315 r (sl:=sl) g).call ⟨_,_,rfl,key _ _ (by rw[<-w])⟩
  iterate 2
   ·rw[if_neg y,if_neg j,if_neg n,if_neg m,if_neg q,if_neg p,if_neg J,if_pos (by omega)]at w;obtain⟨a1,a2,a3⟩:=H (by have:=c.2.1 (by omega);omega);obtain⟨b1,b2,b3⟩:=at1 (by have:=c.2.1 (by omega);omega);refine⟨a1,by omega,a2,_,a3,b1,by omega,b2,_,b3,(u _ _).call ⟨_,rfl,λh=>c316.call ⟨_,_,rfl,key _ _ ?_⟩,λh=>⟨b1,by omega,b2,_,b3,a1,by omega,a2,_,a3,(u _ _).call ⟨_,rfl,c316.call ⟨_,_,rfl,key _ _ ?_⟩⟩⟩⟩⟩;·rw[<-w,h];rfl
    ·rw[<-w,eq_false_of_ne_true h];rfl
  iterate 2
   ·rw[if_neg y,if_neg j,if_neg n,if_neg m,if_neg q,if_neg p,if_neg J,if_neg (by omega),if_pos (by omega)]at w;exact(i _).call ⟨_,rfl,c316.call ⟨_,_,rfl,key _ _ (by rw[<-w];rfl)⟩⟩
  iterate 3
   ·rw[if_neg y,if_neg j,if_neg n,if_neg m,if_neg q,if_neg p,if_neg J,if_neg (by omega),if_neg (by omega),if_pos (by omega)]at w;exact(i _).call ⟨_,rfl,c316.call ⟨_,_,rfl,key _ _ (by rw[<-w];rfl)⟩⟩
  ·rw[if_neg y,if_neg j,if_neg n,if_neg m,if_neg q,if_neg p,if_neg J,if_neg (by omega),if_neg (by omega),if_neg (by omega),if_pos G]at w;obtain⟨a1,a2,a3⟩:=H (by omega);obtain⟨b1,b2,b3⟩:=at1 (by omega);obtain⟨Q,P,c3⟩:=at2 (by omega);have O:∀t,(if l.getD 1 sE=DP then l.getD 2 sE else l.getD 1 sE)=t ->
     (l.getD 0 sE=Au->Bz d (l.getD 1 sE) (l.getD 2 sE)=true->X=DE true t)/\(l.getD 0 sE=Au->¬Bz d (l.getD 1 sE) (l.getD 2 sE)=true->X=DE (Bz d (l.getD 2 sE) (l.getD 1 sE)) t)/\(¬l.getD 0 sE=Au->X=DE false t):=λt ht=>by
    grind
   refine⟨b1,by omega,b2,_,b3,λZ=>?_,λZ=>?_⟩
   ·have N:=O _ (if_pos Z);refine⟨Q,by omega,P,_,c3,a1,by omega,a2,_,a3,λz=>⟨b1,by omega,b2,_,b3,Q,by omega,P,_,c3,(u _ _).call ⟨_,rfl,λh=>c316.call ⟨_,_,rfl,key _ _ ?_⟩,λh=>⟨Q,by omega,P,_,c3,b1,by omega,b2,_,b3,(u _ _).call ⟨_,rfl,c316.call ⟨_,_,rfl,key _ _ ?_⟩⟩⟩⟩⟩,λz=>c316.call ⟨_,_,rfl,key _ _ ?_⟩⟩;·exact N.1 z h
    ·exact N.2.1 z h
    ·exact N.2.2 z
   ·have N:=O _ (if_neg Z);refine⟨a1,by omega,a2,_,a3,λz=>⟨b1,by omega,b2,_,b3,Q,by omega,P,_,c3,(u _ _).call ⟨_,rfl,λh=>c316.call ⟨_,_,rfl,key _ _ ?_⟩,λh=>⟨Q,by omega,P,_,c3,b1,by omega,b2,_,b3,(u _ _).call ⟨_,rfl,c316.call ⟨_,_,rfl,key _ _ ?_⟩⟩⟩⟩⟩,λz=>c316.call ⟨_,_,rfl,key _ _ ?_⟩⟩;·exact N.1 z h
    ·exact N.2.1 z h
    ·exact N.2.2 z
  ·rw[if_neg y,if_neg j,if_neg n,if_neg m,if_neg q,if_neg p,if_neg J,if_neg (by omega),if_neg (by omega),if_neg (by omega),if_neg G]at w;exact(i _).call ⟨_,rfl,c316.call ⟨_,_,rfl,key _ _ (by rw[<-w];rfl)⟩⟩
 ·simp only[ne_eq,z,not_false_eq_true,if_true];exact⟨rfl,v⟩
end
end Go.Proofs
