/- Part 7: no statement of the seat is proved here. -/
import Derived.Test.YtmdkfdmecbimcaaGreatDoorPd06
set_option linter.unusedVariables false
set_option linter.unusedSimpArgs false
open Nat renaming lt_succ_iff_lt_or_eq->xx,not_lt_zero->xq
open Go.Ending renaming returned->xV
open And renaming intro->xw
open Go.Proofs.Tryz renaming prog->xS
open List renaming getElem?_eq_some_iff->yj,any_eq_not_all_not->xu,mem_iff_getElem->xE,getElem?_eq_getElem->yi,length_cons->zo,findIdx?_eq_some_iff_getElem->xB,getElem_mem->yd,any_eq_true->xp,any_eq_false->xo,not_mem_nil->xQ,mem_take_iff_getElem->xn
open Bool renaming true_and->xv,false_and->xr,and_eq_true->zC
open Option renaming none_or->xm
namespace Go.Proofs
open Go Go.Sx
attribute [local irreducible] Go.Sx.Tri
theorem c110{V:Mem}[Tab V]{s:KB}:PP 110 [.string s] V (.bool (BR s)):=by
 refine x110 ?_;refine⟨λh=>?_,λh=>⟨λh1=>?_,λh1=>?_⟩⟩;·subst h;exact⟨rfl,rfl⟩
 ·grind[BR]
 ·have x:s.size≠0:=λe=>h (by
   have:s.data=#[]:=Array.eq_empty_of_size_eq_zero e;cases s;simp only at this;subst this;rfl)
  refine⟨by omega,c144.call ⟨_,rfl,λh2=>?_,λh2=>?_⟩⟩
  ·refine(c145 inferInstance).call ⟨_,rfl,λg=>?_,λg=>?_⟩;·simp[BR,g]
   ·refine AE s.size (λi V1=>V1=V/\∀j:Nat,j<i->FL (Bq s j)=true) ⟨rfl,by simp⟩ ?_;rintro i b _ J l ⟨rfl,f⟩ u;refine⟨λw=>⟨by omega,c144.call ⟨_,rfl,λhw=>?_,λhw=>⟨⟨by omega,by omega⟩,u (by omega) _ _ ⟨rfl,λj k=>?_⟩⟩⟩⟩,λz=>?_⟩
    ·rw[cls_word]at hw;grind[FL,Bq,BR]
    ·rcases xx.1 k with y|rfl;·exact f j y
     simp_all[cls_word]
    grind[Nat,FL,Bq,BR,isKw,decide_eq_true,cls_two]
  grind[cls_two,FK,Bq,BR]
/-! Nodes. -/
def Ce(op:Int):Int:=if(1<=op/\op<=4)∨op=6 then 0 else if op=5∨op=8∨op=18∨op=24 then 1 else if op=7 then -1 else if op=21 then 3 else if 9<=op/\op<=23 then 2 else -2
theorem c286{V:Mem}{op:Int}:PP 286 [.int .i64 op] V (.int .i64 (Ce op)):=by
 refine x286 ?_;have key:∀n:Int,Ce op=n->xV (.int .i64 n)=xV (.int .i64 (Ce op)):=λn h=>by rw[h]
 unfold Ce at key
 repeat' (first|intro _|apply xw)
 all_goals first|rfl|(refine key _ ?_;grind)
theorem c249{V:Mem}{op:Int}:PP 249 [.int .i64 op] V (.tuple #[.int .i64 (if Ce op=-2 then 2 else Ce op),.bool (decide (Ce op≠-2))]):=by
 refine x249 ?_;have key:∀(n:Int)(b:Bool),(if Ce op=-2 then 2 else Ce op)=n->decide (Ce op≠-2)=b->xV (.tuple #[.int .i64 n,.bool b])=xV (.tuple #[.int .i64 (if Ce op=-2 then 2 else Ce op),.bool (decide (Ce op≠-2))]):=λn b h k=>by rw[h,k]
 unfold Ce at key
 repeat' (first|intro _|apply xw)
 all_goals first|rfl|(refine key _ _ ?_ ?_<;>grind)
def sThis:KB:=Ad [116,104,105,115]
def Fl(op:Int)(s:KB):Bool:=if op=4 then decide (s=sThis)||BR s else if op=5∨op=6∨op=7 then BR s else decide (s=Ad [])
def numB(op n:Int):Bool:=if op=1 then decide (0<=n/\n<=1099511627776)else if op=2 then decide (n=0∨n=1)else decide (n=0)
def Dp(op n:Int)(s:KB)(len:Int):Bool:=decide (Ce op≠-2/\(0<=Ce op->len=Ce op)/\(Ce op=-1->len<=6))&&Fl op s&&numB op n
theorem c287{V:Mem}{e:E}:PP 287 [e.v] V (.bool (Fl e.op e.s)):=by
 refine x287 ?_;have key:∀b:Bool,Fl e.op e.s=b->xV (.bool b)=xV (.bool (Fl e.op e.s)):=λn h=>by rw[h]
 unfold Fl sThis at key
 repeat' (first|refine c129.call ⟨_,rfl,?_⟩|intro _|apply xw)
 all_goals first|rfl|(refine key _ ?_;grind)
theorem c250{V:Mem}[Tab V]{e:E}:PP 250 [e.v] V (.bool (Fl e.op e.s&&numB e.op e.n)):=by
 refine x250 ?_;have key:∀b:Bool,(Fl e.op e.s&&numB e.op e.n)=b->xV (.bool b)=xV (.bool (Fl e.op e.s&&numB e.op e.n)):=λn h=>by rw[h]
 unfold Fl numB sThis at key
 repeat' (first|refine c110.call ⟨_,rfl,?_⟩|intro _|apply xw)
 all_goals first|rfl|(refine key _ ?_;grind)
theorem c261{V:Mem}{e:E}{len:Int}(k:(e.l.n:Int)=len):PP 261 [e.v] V (.bool (Dp e.op e.n e.s len)):=by
 refine x261 ?_;rw[k];have key:∀b:Bool,Dp e.op e.n e.s len=b->xV (.bool b)=xV (.bool (Dp e.op e.n e.s len)):=λn h=>by rw[h]
 unfold Dp numB at key;refine c286.call ⟨_,rfl,?_⟩
 repeat' (first|refine(c287 (e:=e)).call ⟨_,rfl,?_⟩|intro _|apply xw)
 all_goals first|rfl|(refine key _ ?_;grind)
mutual
def Cs(d:Int):E->Bool|.mk op n s _ k=>decide (d<=60)&&Dp op n s k.length&&okEs (d+1) k
def okEs(d:Int):List E->Bool|[]=>true|x::xs=>Cs d x&&okEs d xs
end
mutual
def AB:E->Nat|.mk _ _ _ _ k=>1+szEs k
def szEs:List E->Nat|[]=>0|x::xs=>AB x+szEs xs
end
mutual
def cntE(d:Int):E->Int|.mk op n s _ k=>if 60<d then 1001 else if Dp op n s k.length=true then D0 (d+1) 1 k else 1001
def D0(d acc:Int):List E->Int|[]=>acc|x::xs=>if 1000<acc+cntE d x then acc+cntE d x else D0 d (acc+cntE d x) xs
end
mutual
def vE(left d:Int):E->Bool×Int|.mk op n s _ k=>if 0<=left-1/\d<=60/\Dp op n s k.length=true then Ek (left-1) (d+1) k else(false,left-1)
def Ek(left d:Int):List E->Bool×Int|[]=>(true,left)|x::xs=>if(vE left d x).1=true then Ek (vE left d x).2 d xs else(false,(vE left d x).2)
end
def Bz(e:E):Bool:=decide (Cs 1 e=true/\AB e<=1000)
mutual
theorem vE_ok:∀(left d:Int)(e:E),((vE left d e).1=true↔Cs d e=true/\(AB e:Int)<=left)/\((vE left d e).1=true->(vE left d e).2=left-AB e)
 |left,d,.mk op n s l k=>by
  have h:=vEs_ok (left-1) (d+1) k;grind[vE,Cs,AB]
theorem vEs_ok:∀(left d:Int)(k:List E),0<=left->((Ek left d k).1=true↔okEs d k=true/\(szEs k:Int)<=left)/\((Ek left d k).1=true->(Ek left d k).2=left-szEs k)
 |left,d,[],h=>by simp[Ek,okEs,szEs,h]
 |left,d,x::xs,h=>by
  have h1:=vE_ok left d x;have h2:=vEs_ok (vE left d x).2 d xs;grind[Ek,okEs,szEs]
end
mutual
theorem cntE_ok:∀(d:Int)(e:E),1<=cntE d e/\(cntE d e<=1000↔Cs d e=true/\AB e<=1000)/\(cntE d e<=1000->cntE d e=AB e)/\cntE d e<=1001+1000*(61-d).toNat
 |d,.mk op n s l k=>by
  have h:=cntEs_ok (d+1) 1 k (by omega) (by omega);grind[cntE,Cs,AB]
theorem cntEs_ok:∀(d acc:Int)(k:List E),1<=acc->acc<=1000->acc<=D0 d acc k/\(D0 d acc k<=1000↔okEs d k=true/\acc+szEs k<=1000)/\(D0 d acc k<=1000->D0 d acc k=acc+szEs k)/\D0 d acc k<=2001+1000*(61-d).toNat
 |d,acc,[],h,g=>by simp[D0,okEs,szEs];omega
 |d,acc,x::xs,h,g=>by
  have h1:=cntE_ok d x;have h2:=cntEs_ok d (acc+cntE d x) xs (by omega);grind[D0,okEs,szEs]
end
theorem validE_cnt(e:E):decide (cntE 1 e<=1000)=Bz e:=by
 simp_all[cntE_ok,Bz]
theorem validE_v(e:E):(vE 1000 1 e).1=Bz e:=by
 grind[vE_ok,Bz]
theorem vE_bound{left d:Int}{e:E}(h:(vE left d e).1=true):0<=(vE left d e).2/\(vE left d e).2<=left:=by
 grind[vE_ok]
theorem cntE_eq(d:Int)(e:E):cntE d e=if 60<d then 1001 else if Dp e.op e.n e.s e.k.length=true then D0 (d+1) 1 e.k else 1001:=by
 cases e;unfold cntE;rfl
theorem vE_eq(left d:Int)(e:E):vE left d e=if 0<=left-1/\d<=60/\Dp e.op e.n e.s e.k.length=true then Ek (left-1) (d+1) e.k else(false,left-1):=by
 cases e;unfold vE;rfl
theorem cntEs_cons(d acc:Int)(x:E)(xs:List E):D0 d acc (x::xs)=if 1000<acc+cntE d x then acc+cntE d x else D0 d (acc+cntE d x) xs:=by rw[D0]
theorem vEs_cons(left d:Int)(x:E)(xs:List E):Ek left d (x::xs)=if(vE left d x).1=true then Ek (vE left d x).2 d xs else(false,(vE left d x).2):=by rw[Ek]
theorem cntEs_nil(d acc:Int):D0 d acc []=acc:=by rw[D0]
theorem vEs_nil(left d:Int):Ek left d []=(true,left):=by rw[Ek]
theorem c221{V:Mem}:∀e:E,E.Ok V e->∀d:Int,0<=d->d<=61->PP 221 [e.v,.int .i64 d] V (.int .i64 (cntE d e)):=by
 intro e;induction e using E.ind with
 |h e n=>
 intro j d m a;have f:=j.rows;refine x221 ?_;refine⟨λh=>?_,λh=>(c261 (e:=e) rfl).call ⟨_,rfl,λu=>?_,λu=>?_⟩⟩;·rw[cntE_eq,if_pos h];exact⟨rfl,rfl⟩
 ·rw[f.n_eq]at u;rw[cntE_eq,if_neg h,if_pos u];refine loop3s BX e.k.length (λi acc V1=>V1=V/\1<=acc/\acc<=1000/\D0 (d+1) 1 e.k=D0 (d+1) acc (e.k.drop i)) ⟨rfl,by omega,by omega,rfl⟩ ?_;rintro i acc c _ J s ⟨rfl,r,H,l⟩ G;refine⟨λg=>?_,λz=>?_⟩
  ·obtain⟨x,hm,N,y,Z,q,o,w⟩:=f.get g;have Y:=cntE_ok (d+1) x;rw[y,cntEs_cons]at l;refine⟨q,o,g,_,_,_,_,w,⟨by omega,by omega⟩,(n x hm (j.kids x hm) (d+1) (by omega) (by omega)).call ⟨_,rfl,⟨by omega,by omega⟩,λp=>?_,λp=>⟨f.succ g,?_⟩⟩⟩;·simp_all
   grind
  ·rw[(f.done z).1,cntEs_nil]at l;simp_all
 ·rw[f.n_eq]at u;rw[cntE_eq,if_neg h,if_neg u];exact⟨rfl,rfl⟩
theorem c182{V:Mem}{e:E}(h:E.Ok V e):PP 182 [e.v] V (.bool (Bz e)):=by
 refine x182 ?_;refine(c221 e h 1 (by omega) (by omega)).call ⟨_,rfl,?_⟩;rw[validE_cnt];simp_all
theorem c200{V:Mem}{b t:Nat}{n:Int}(h:V b=some (cell (.int .i64 n) t))(k:-1000<=n)(h1:n<=100000):
  Tri xS 200 #[pv b] V λe V'=>e=.returned (.bool (decide (0<=n-1)))/\V'=V.set b (cell (.int .i64 (n-1)) t):=by
 refine x200 ?_;refine⟨by simp,by simp,_,An h,⟨by omega,by omega⟩,by simp,by simp,Ak.cell h ⟨by simp,by simp,_,An Au,rfl,rfl⟩⟩
set_option maxRecDepth 10000 in
theorem c198{V0:Mem}[C:Tab V0]{b t:Nat}(w:V0 b=none):∀e:E,E.Ok V0 e->∀(V:Mem),V0.sub V->∀left d:Int,V b=some (cell (.int .i64 left) t)->0<=left->left<=1000->0<=d->d<=61 ->
    Tri xS 198 #[e.v,.int .i64 d,pv b] V λr V'=>r=.returned (.bool (vE left d e).1)/\V'=V.set b (cell (.int .i64 (vE left d e).2) t):=by
  intro e;induction e using E.ind with
  |h e D=>
  intro R V J left d K S T U hd;have X:=R.rows;have hn:=X.n_eq;refine Tri.less (x198 ?_);refine c249.call ⟨_,_,rfl,Tri.mono (c200 K (by omega) (by omega)) ?_⟩;rintro _ _ ⟨rfl,rfl⟩;refine⟨_,rfl,?_⟩;have u:¬(0<=left-1/\d<=60/\Dp e.op e.n e.s e.k.length=true)->∃W,(xV (.bool false)=xV (.bool (vE left d e).1)/\W=V.set b (cell (.int .i64 (vE left d e).2) t))/\W.sub (V.set b (cell (.int .i64 (left-1)) t)):=by
    intro h;rw[vE_eq,if_neg h];exact⟨_,⟨rfl,rfl⟩,Mem.sub.refl _⟩
  have f:(0<=left-1/\d<=60/\Dp e.op e.n e.s e.k.length=true)->Ag [(.int .i64 d)] 3 (V.set b (cell (.int .i64 (left-1)) t)) fun G V4 =>
        Ag [(pv b)] 256 V4 λN V5=>
        Tri xS 202 #[(.slice e.l.p e.l.n e.l.c),(.func (.func 251) #[] #[(.pointer (Aa G 0)),(.pointer (Aa N 0))])] V5 λr V6=>∃q:Bool,r=.returned (.bool q)/\
        ∃W,(xV (.bool (!q))=xV (.bool (vE left d e).1)/\W=V.set b (cell (.int .i64 (vE left d e).2) t))/\W.sub V6:=by
    intro h b1 z b2 y;rw[vE_eq,if_pos h];have n1:b≠b1:=λe=>by grind[Mem.set_same]
    have n2:b1≠b2:=λe=>by grind[Mem.set_same]
    have n3:b≠b2:=λe=>by grind[Mem.set_ne,Mem.set_same]
    rw[Mem.set_ne (λe=>n1 e.symm)]at z;rw[Mem.set_ne (λe=>n2 e.symm),Mem.set_ne (λe=>n3 e.symm)]at y;have v1:V0 b1=none:=by cases Z:V0 b1 with
      |none=>rfl
      |some x=>rw[J _ _ Z]at z;cases z
    have v2:V0 b2=none:=by cases Z:V0 b2 with
      |none=>rfl
      |some x=>rw[J _ _ Z]at y;cases y
    let M:Int->Mem:=λg=>((V.set b (cell (.int .i64 g) t)).set b1 (cell (.int .i64 d) 3)).set b2 (cell (pv b) 256);have B:∀g,V0.sub (M g):=λg=>((J.set w _).set v1 _).set v2 _;have Y:∀g,M g b=some (cell (.int .i64 g) t):=λg=>by grind[Mem.set_ne,Mem.set_same]
    have Q:∀g,M g b1=some (cell (.int .i64 d) 3):=λg=>by grind[Mem.set_ne,Mem.set_same]
    have P:∀g,M g b2=some (cell (pv b) 256):=λg=>by grind[Mem.set_same]
    have hMs:∀g j,(M g).set b (cell (.int .i64 j) t)=M j:=λg j=>by
      grind[Mem.set_comm,Mem.set_set]
    have hW:∀g,(V.set b (cell (.int .i64 g) t)).sub (M g):=λg=>by
      refine((Mem.sub.refl _).set ?_ _).set ?_ _;· grind[Mem.set_ne]
      grind[Mem.set_ne]
    refine Tri.mono (g202 (l:=e.l) (xs:=e.k) (first:=[]) (caps:=[pv b1,pv b2]) Tryz.call251
      (λi V1=>∃g,V1=M g/\0<=g/\g<=1000/\Ek (left-1) (d+1) e.k=Ek g (d+1) (e.k.drop i)) (λi V1=>∃g,V1=M g/\Ek (left-1) (d+1) e.k=(false,g)) ?_ ⟨left-1,rfl,by omega,by omega,rfl⟩ ?_) ?_
    · rintro i _ ⟨g,rfl,-⟩;exact X.sub (B g)
    · rintro i x _ O ⟨g,rfl,o,a,m⟩;have hm:=List.mem_of_getElem? O;have A:=(yj.1 O).1;have I:e.k.drop i=x::e.k.drop (i+1):=by rw[List.drop_eq_getElem_cons A,(yj.1 O).2]
      rw[I,vEs_cons]at m;refine x251 ?_;refine⟨_,An (Q g),⟨by omega,by omega⟩,_,An (P g),Tri.mono (D x hm (R.kids x hm) (M g) (B g) g (d+1) (Y g) o a (by omega) (by omega)) ?_⟩;rintro _ _ ⟨rfl,rfl⟩;refine⟨_,rfl,_,rfl,λw=>?_,λw=>?_⟩;· simp_all
      · have w:(vE g (d+1) x).1=true:=by simpa using w
        have:=vE_bound w;grind
    · rintro _ _ (⟨i,rfl,g,rfl,m⟩|⟨rfl,g,rfl,o,a,m⟩);· simp_all
      · rw[List.drop_length,vEs_nil]at m;exact⟨_,rfl,_,⟨by rw[m];rfl,rfl⟩,by rw[m];exact hW g⟩
  have key:Dp e.op e.n e.s e.k.length=(decide (Ce e.op≠-2/\(0<=Ce e.op->(e.k.length:Int)=Ce e.op)/\(Ce e.op=-1->(e.k.length:Int)<=6))&&(Fl e.op e.s&&numB e.op e.n)):=by grind[Dp]
  have pr:-2<=Ce e.op:=by unfold Ce;grind
  rw[key]at u f;have F:(e.k.length:Int)=(e.l.n:Int):=by rw[hn]
  rw[F]at u f;generalize hkn:(e.l.n:Int)=kn at u f⊢;generalize hpn:Ce e.op=pn at u f pr⊢;generalize L:(Fl e.op e.s&&numB e.op e.n)=nm at u f⊢;haveI:Tab (V.set b (cell (.int .i64 (left-1)) t)):=Tab.sub C (J.set w _);refine⟨λh8=>⟨λH=>u λh=>absurd h.2.1 (Int.not_le.2 H),λH=>⟨λh7=>(c250 (e:=e)).call ⟨nm,by rw[L],λh9=>?_,λh9=>u ?_⟩,λh7=>u ?_⟩⟩,λh8=>u ?_⟩;· grind
  · simp_all
  · simp_all
  grind
theorem c148{V:Mem}[Tab V]{e:E}(h:E.Ok V e):PP 148 [e.v] V (.bool (Bz e)):=by
 refine Bn.mk (x148 ?_);intro b k;refine Tri.mono (c198 k e h _ (Mem.sub_new k _) 1000 1 Au (by omega) (by omega) (by omega) (by omega)) ?_;rintro _ _ ⟨rfl,rfl⟩;rw[validE_v,Mem.set_set];exact⟨_,rfl,rfl,Mem.sub_new k _⟩
def Jy:List E->Int|[]=>0|e::_=>e.op
def GM(op:Int)(s:KB)(es:List E)(nl h:Int):Bool:=
 if op=1 then BR s&&decide ((es.length:Int)=1/\nl=0/\h=0)else if op=2 then BR s&&decide ((es.length:Int)=2/\nl=0/\h=0)else if op=3 then decide (s=Ad []/\(es.length:Int)=1)
 else if op=4 then decide (s=Ad []/\(es.length:Int)=1/\h=0)else if op=5 then decide (s=Ad []/\(es.length:Int)<=1/\nl=0/\h=0)else if op=6 then decide (s=Ad []/\(es.length:Int)=1/\Jy es=7/\nl=0/\h=0)else false
def Db(op:Int)(s:KB)(es:List E)(nl h:Int):Bool:=GM op s es nl h&&es.all Bz
theorem c260{V:Mem}{s:S}(h:S.Ok V s){lo hi:Int}:PP 260 [s.v,.int .i64 lo,.int .i64 hi] V (.bool (decide (lo<=s.es.length/\(s.es.length:Int)<=hi)&&s.es.all Bz)):=by
 have f:=h.eRows;have q:=f.n_eq;rw[show s.v=.agg #[.int .i64 s.op,.string s.s,.slice s.el.p s.el.n s.el.c,.slice s.ll.p s.ll.n s.ll.c,.slice s.xl.p s.xl.n s.xl.c]by unfold S.v;rw[S.row_eq];rfl];refine x260 ?_;refine⟨λh1=>?_,λh1=>⟨λh2=>?_,λh2=>?_⟩⟩;·grind
 ·grind
 ·rw[decide_eq_true (by omega),xv];refine AE s.es.length (λi V1=>V1=V/\s.es.all Bz=(s.es.drop i).all Bz) ⟨rfl,rfl⟩ ?_;rintro i b _ J hi ⟨rfl,w⟩ z;refine⟨λk=>?_,λy=>?_⟩
  ·obtain⟨x,hm,o,u,j,l,m,g⟩:=f.get k;rw[u,List.all_cons]at w;refine⟨l,m,k,_,_,_,_,g,(c182 (h.eOk x hm)).call ⟨_,rfl,λr=>⟨f.succ k,z j _ _ ⟨rfl,?_⟩⟩,λr=>?_⟩⟩;·simp_all
   simp_all
  grind
theorem KD{V:Mem}{s:S}(h:S.Ok V s):(s.es=[]/\s.el.n=0)∨∃k r,s.es=k::r/\0<s.el.n/\¬(s.el.p=none)/\¬(Aa s.el.p 0=none)/\V.rowp s.el.p 0 4=some [.int .i64 k.op,.int .i64 k.n,.string k.s,.slice k.l.p k.l.n k.l.c]:=by
 have u:=h.eRows;have m:=u.n_eq;cases g:s.es with
 |nil=>simp_all
 |cons k r=>
  have j:((0:Nat):Int)<(s.el.n:Int):=by simp_all
  obtain⟨x,hm,f,i,q,w,o,z⟩:=u.get j;rw[g]at f;simp only[List.getElem?_cons_zero,Option.some.injEq]at f;subst f;refine .inr ⟨k,r,rfl,by omega,w,λe=>?_,?_⟩
  ·cases y:s.el.p with
   |none=>exact w y
   |some a=>rw[y]at e;cases e
  grind[E.row,vI,vS,Sl.v]
set_option maxRecDepth 4000 in
theorem c220{V:Mem}{s:S}(h:S.Ok V s):PP 220 [s.v] V (.bool (Db s.op s.s s.es s.ls.length s.xs.length)):=by
 have o:=KD h;have cx:=λm q=>c260 h (lo:=m) (hi:=q);have z:=h.lRows.n_eq;have y:=h.xRows.n_eq;rw[show s.v=.agg #[.int .i64 s.op,.string s.s,.slice s.el.p s.el.n s.el.c,.slice s.ll.p s.ll.n s.ll.c,.slice s.xl.p s.xl.n s.xl.c]by unfold S.v;rw[S.row_eq];rfl]at cx⊢;refine x220 ?_;rw[<-z,<-y];generalize x:Db s.op s.s s.es s.ll.n s.xl.n=X;have key:∀b:Bool,X=b->xV (.bool b)=xV (.bool X):=λn h=>by rw[h]
 unfold Db GM at x;generalize f:s.es.all Bz=va at cx;rcases o with⟨w,a⟩|⟨e0,r,w,a,e,j,u⟩
 ·have k:(s.es.length:Int)=0:=by rw[w];rfl
  have i:s.es.length=0:=by rw[w];rfl
  rw[k]at cx;rw[f,k]at x
  repeat' (first|refine c129.call ⟨_,rfl,?_⟩|refine(cx _ _).call ⟨_,rfl,?_⟩|apply xw|intro _)
  all_goals first|rfl|(refine key _ ?_;clear key cx;grind)|(exfalso;clear key cx;grind)
 ·have l:Jy s.es=e0.op:=by rw[w];rfl
  generalize k:(s.es.length:Int)=len at cx;rw[f,k,l]at x;have H:0<len:=by grind
  have J:(s.el.n:Int)=len:=by rw[<-k,h.eRows.n_eq]
  have c11:=cx 1 1;have c22:=cx 2 2;have g:=cx 0 1;rw[show decide (1<=len/\len<=1)=decide (len=1)by grind]at c11;rw[show decide (2<=len/\len<=2)=decide (len=2)by grind]at c22;rw[show decide (0<=len/\len<=1)=decide (len<=1)by grind]at g
  repeat' (first|refine c129.call ⟨_,rfl,?_⟩|refine c11.call ⟨_,rfl,?_⟩|refine c22.call ⟨_,rfl,?_⟩|refine g.call ⟨_,rfl,?_⟩|refine⟨_,_,_,_,u,?_⟩|exact e|exact j|apply xw|intro _)
  all_goals first|rfl|(refine key _ ?_;clear key cx c11 c22 g;grind)|omega|(exfalso;clear key cx c11 c22 g;grind)
mutual
def El(d:Int):S->Bool|.mk op s _ es _ ls _ xs=>decide (d<=60)&&Db op s es ls.length xs.length&&CD (d+1) ls&&CD (d+1) xs
def CD(d:Int):List S->Bool|[]=>true|x::xs=>El d x&&CD d xs
end
mutual
def EB:S->Nat|.mk _ _ _ _ _ ls _ xs=>1+Cv ls+Cv xs
def Cv:List S->Nat|[]=>0|x::xs=>EB x+Cv xs
end
mutual
def cntS(d acc:Int):S->Int
 |.mk op s _ es _ ls _ xs=>
  if 60<d then 201 else if Db op s es ls.length xs.length=true then
    if acc+1<=200 then
      if acc+1+CE (d+1) 0 ls<=200 then acc+1+CE (d+1) 0 ls+CE (d+1) 0 xs else acc+1+CE (d+1) 0 ls
    else acc+1
  else 201
def CE(d acc:Int):List S->Int|[]=>acc|x::xs=>if 200<cntS d acc x then cntS d acc x else CE d (cntS d acc x) xs
end
def gd{α:Type}(d left:Int)(l:List α)(r:Bool×Int):Bool×Int:=if 60<d/\l≠[]then(false,left)else r
mutual
def vS(left d:Int):S->Bool×Int
 |.mk op s _ es _ ls _ xs=>
  if 0<=left-1/\Db op s es ls.length xs.length=true then
    if(gd (d+1) (left-1) ls (De (left-1) (d+1) ls)).1=true then
      gd (d+1) (gd (d+1) (left-1) ls (De (left-1) (d+1) ls)).2 xs (De (gd (d+1) (left-1) ls (De (left-1) (d+1) ls)).2 (d+1) xs)
    else(false,(gd (d+1) (left-1) ls (De (left-1) (d+1) ls)).2)
  else(false,left-1)
def De(left d:Int):List S->Bool×Int|[]=>(true,left)|x::xs=>if(vS left d x).1=true then De (vS left d x).2 d xs else(false,(vS left d x).2)
end
def Em(left d:Int)(l:List S):Bool×Int:=gd d left l (De left d l)
theorem vSs_cons(left d:Int)(x:S)(xs:List S):De left d (x::xs)=if(vS left d x).1=true then De (vS left d x).2 d xs else(false,(vS left d x).2):=by rw[De]
theorem vSs_nil(left d:Int):De left d []=(true,left):=by rw[De]
theorem cntSs_cons(d acc:Int)(x:S)(xs:List S):CE d acc (x::xs)=if 200<cntS d acc x then cntS d acc x else CE d (cntS d acc x) xs:=by rw[CE]
theorem cntSs_nil(d acc:Int):CE d acc []=acc:=by rw[CE]
theorem vS_eq(left d:Int)(x:S):vS left d x=if 0<=left-1/\Db x.op x.s x.es x.ls.length x.xs.length=true then(if(Em (left-1) (d+1) x.ls).1=true then Em (Em (left-1) (d+1) x.ls).2 (d+1) x.xs else(false,(Em (left-1) (d+1) x.ls).2))else(false,left-1):=by
 cases x;unfold vS;rfl
theorem cntS_eq(d acc:Int)(x:S):cntS d acc x=if 60<d then 201 else if Db x.op x.s x.es x.ls.length x.xs.length=true then
  if acc+1<=200 then
   if acc+1+CE (d+1) 0 x.ls<=200 then acc+1+CE (d+1) 0 x.ls+CE (d+1) 0 x.xs else acc+1+CE (d+1) 0 x.ls
  else acc+1
 else 201:=by
 cases x;unfold cntS;rfl
mutual
theorem cntS_ok:∀(d acc:Int)(e:S),0<=acc->acc<=200->acc+1<=cntS d acc e/\(cntS d acc e<=200↔El d e=true/\acc+EB e<=200)/\(cntS d acc e<=200->cntS d acc e=acc+EB e)/\cntS d acc e<=201+200*(61-d).toNat
 |d,acc,.mk op s _ es _ ls _ xs,h,k=>by
  have g:=IB (d+1) 0 ls (by omega) (by omega);have f:=IB (d+1) 0 xs (by omega) (by omega);unfold cntS El EB;grind
theorem IB:∀(d acc:Int)(k:List S),0<=acc->acc<=200->acc<=CE d acc k/\(CE d acc k<=200↔CD d k=true/\acc+Cv k<=200)/\(CE d acc k<=200->CE d acc k=acc+Cv k)/\CE d acc k<=201+200*(61-d).toNat
 |d,acc,[],h,g=>by simp[CE,CD,Cv];omega
 |d,acc,x::xs,h,g=>by
  have h1:=cntS_ok d acc x h g;have h2:=IB d (cntS d acc x) xs (by omega);grind[CE,CD,Cv]
end
theorem okSs_deep{d:Int}(h:60<d):∀l:List S,l≠[]->CD d l=false
 |[],k=>absurd rfl k
 |.mk _ _ _ _ _ _ _ _::xs,_=>by
  grind[CD,El]
mutual
theorem vS_ok:∀(left d:Int)(e:S),d<=60->((vS left d e).1=true↔El d e=true/\(EB e:Int)<=left)/\((vS left d e).1=true->(vS left d e).2=left-EB e)
 |left,d,.mk op s _ es _ ls _ xs,k=>by
  have g:=vSs_ok (left-1) (d+1) ls;have f:=λl=>vSs_ok l (d+1) xs;have u:=λh=>okSs_deep (d:=d+1) h ls;have w:=λh=>okSs_deep (d:=d+1) h xs;grind[vS,El,EB,gd,Db,De,CD,Cv,absurd]
theorem vSs_ok:∀(left d:Int)(k:List S),0<=left->¬(60<d/\k≠[])->((De left d k).1=true↔CD d k=true/\(Cv k:Int)<=left)/\((De left d k).1=true->(De left d k).2=left-Cv k)
 |left,d,[],h,_=>by simp[De,CD,Cv,h]
 |left,d,x::xs,h,g=>by
  have h1:=vS_ok left d x (by grind);have h2:=vSs_ok (vS left d x).2 d xs;grind[vSs_cons,CD,Cv]
end
def Hi(l:List S):Bool:=decide (CD 1 l=true/\Cv l<=200)
theorem validSs_cnt(l:List S):decide (CE 1 0 l<=200)=Hi l:=by
 have:=IB 1 0 l (by omega) (by omega);unfold Hi;grind
theorem validSs_v(l:List S):(Em 200 1 l).1=Hi l:=by
 have:=(vSs_ok 200 1 l (by omega) (by omega)).1;grind[Hi,Em,gd]
theorem S.v_eq(s:S):s.v=.agg #[.int .i64 s.op,.string s.s,.slice s.el.p s.el.n s.el.c,.slice s.ll.p s.ll.n s.ll.c,.slice s.xl.p s.xl.n s.xl.c]:=by unfold S.v;rw[S.row_eq];rfl
theorem S.row_get{V:Mem}{p:Option Addr}{i:Nat}{x:S}(h:V.rowp p i 5=some x.row):V.rowp p i 5=some [.int .i64 x.op,.string x.s,.slice x.el.p x.el.n x.el.c,.slice x.ll.p x.ll.n x.ll.c,.slice x.xl.p x.xl.n x.xl.c]:=by
 rw[h,S.row_eq];rfl
theorem Al{p:Option Addr}{n:Nat}(h:¬(p=none)):¬(Aa p n=none):=by
 cases p with
 |none=>grind
 |some a=>intro e;cases e
def CntP(V:Mem)(l:List S):Prop:=∀(sl:Sl)(d:Int),Ab V sl 5 (l.map S.row)->(∀x∈l,S.Ok V x)->0<=d->d<=61->PP 181 [sl.v,.int .i64 d] V (.int .i64 (CE d 0 l))
theorem cntP_step{V:Mem}{l:List S}(o:∀x∈l,CntP V x.ls/\CntP V x.xs):CntP V l:=by
 intro sl d y j v W;refine x181 ?_;refine loop3s BX l.length (λi acc V1=>V1=V/\0<=acc/\acc<=200/\CE d 0 l=CE d acc (l.drop i)) ⟨rfl,by omega,by omega,rfl⟩ ?_;rintro i acc c V1 J Q ⟨rfl,H,P,p⟩ O;refine⟨λf=>?_,λm=>?_⟩
 ·obtain⟨x,hm,A,r,I,u,q,k⟩:=y.get f;have k:=S.row_get k;have g:=j x hm;have G:=g.lRows.n_eq;have N:=g.xRows.n_eq;rw[r,cntSs_cons]at p;have z:=cntS_eq d acc x;have a:=c220 g;rw[S.v_eq]at a;have bad:cntS d acc x=201->(xV (.int .i64 201)=xV (.int .i64 (CE d 0 l))/\V1=V1):=λh=>by
   grind
  have over:∀n,cntS d acc x=n->200<n->(xV (.int .i64 n)=xV (.int .i64 (CE d 0 l))/\V1=V1):=λn h Z=>by
   grind
  have Y:∀n e,cntS d acc x=n->0<=n->¬200<n->J [.int .i64 n,.int .i64 e,.int .i64 ((i:Int)+1)] V1:=λn e h M Z=>by
   grind
  refine⟨λw=>bad (by omega),λw=>⟨u,q,f,_,_,_,_,_,k,a.call ⟨_,rfl,λs=>⟨⟨by omega,by omega⟩,λh1=>?_,λh1=>?_⟩,λs=>bad (by simp_all)⟩⟩⟩
  ·rw[if_neg w,if_pos s,if_pos h1]at z;have b1:=IB (d+1) 0 x.ls (by omega) (by omega);have b2:=IB (d+1) 0 x.xs (by omega) (by omega);refine⟨u,q,f,Al u,_,_,_,_,_,k,⟨by omega,by omega⟩,((o x hm).1 x.ll (d+1) g.lRows g.lOk (by omega) (by omega)).call ⟨_,rfl,⟨by omega,by omega⟩,λh2=>?_,λh2=>?_⟩⟩
   ·rw[if_pos h2]at z;refine⟨u,q,f,Al u,_,_,_,_,_,k,⟨by omega,by omega⟩,((o x hm).2 x.xl (d+1) g.xRows g.xOk (by omega) (by omega)).call ⟨_,rfl,⟨by omega,by omega⟩,λh3=>over _ z h3,λh3=>⟨y.succ f,Y _ _ z (by omega) h3⟩⟩⟩
   grind
  grind
 ·rw[(y.done m).1,cntSs_nil]at p;simp_all
theorem cntP_S(V:Mem):∀s:S,CntP V s.ls/\CntP V s.xs:=by
 intro s;induction s using S.ind with
 |h s k g=>grind[cntP_step]
theorem c181{V:Mem}{l:List S}{sl:Sl}{d:Int}(k:Ab V sl 5 (l.map S.row))(h:∀x∈l,S.Ok V x)(g:0<=d)(h1:d<=61):PP 181 [sl.v,.int .i64 d] V (.int .i64 (CE d 0 l)):=
 cntP_step (λx _=>cntP_S V x) sl d k h g h1
set_option maxRecDepth 4000 in
theorem c201{V:Mem}[Tab V]{s:S}(h:S.Ok V s):PP 201 [s.v] V (.bool (GM s.op s.s s.es s.ls.length s.xs.length)):=by
 have c:=KD h;have g:=h.lRows.n_eq;have f:=h.xRows.n_eq;have u:=h.eRows.n_eq;rw[S.v_eq];refine x201 ?_;rw[<-g,<-f];generalize z:GM s.op s.s s.es s.ll.n s.xl.n=X;have key:∀b:Bool,X=b->xV (.bool b)=xV (.bool X):=λn h=>by rw[h]
 unfold GM at z;rw[<-u]at z;have x:(0:Int)<=(s.el.n:Int):=by omega
 have j:(0:Int)<=(s.ll.n:Int):=by omega
 have i:(0:Int)<=(s.xl.n:Int):=by omega
 generalize p:(s.el.n:Int)=ne at z x;generalize(s.ll.n:Int)=nl at z j;generalize(s.xl.n:Int)=nx at z i;rcases c with⟨y,l⟩|⟨e0,r,y,l,m,w,k⟩
 ·have:ne=0:=by omega
  subst this;clear g f u l
  repeat' (first|refine c110.call ⟨_,rfl,?_⟩|apply xw|intro _)
  all_goals first|rfl|(refine key _ ?_;clear key h y;grind)|(exfalso;clear key h y;grind)
 ·have q:Jy s.es=e0.op:=by rw[y];rfl
  rw[q]at z;have o:0<ne:=by omega
  clear g f u l
  repeat' (first|refine c110.call ⟨_,rfl,?_⟩|refine⟨_,_,_,_,k,?_⟩|exact m|exact w|exact o|apply xw|intro _)
  all_goals first|rfl|(refine key _ ?_;clear key h y k m w;grind)|(exfalso;clear key h y k m w;grind)|omega
theorem c203{V:Mem}[Tab V]{e:E}(h:E.Ok V e):PP 203 [e.v] V (.bool (!Bz e)):=by
 refine x203 ?_;exact(c148 h).call ⟨_,rfl,rfl,rfl⟩
theorem vSl_bound{left d:Int}{l:List S}(g:0<=left)(h:(Em left d l).1=true):0<=(Em left d l).2/\(Em left d l).2<=left:=by
 unfold Em gd at h⊢;split at h;·cases h
 ·rename_i k;rw[if_neg k];grind[vSs_ok]
theorem vSl_eq{left d:Int}{l:List S}(h:¬(60<d/\l≠[])):Em left d l=De left d l:=by grind[Em,gd]
section
variable{V0:Mem}{b t:Nat}
def IC(V0:Mem)(b t:Nat)(l:List S):Prop:=∀(sl:Sl)(d left:Int)(V:Mem),Ab V0 sl 5 (l.map S.row)->(∀x∈l,S.Ok V0 x)->V0.sub V->V b=some (cell (.int .i64 left) t)->0<=left->left<=200->0<=d->d<=61->
 Tri xS 153 #[sl.v,.int .i64 d,pv b] V λr V'=>r=.returned (.bool (Em left d l).1)/\V'=V.set b (cell (.int .i64 (Em left d l).2) t)
theorem stP_step[P:Tab V0](I:V0 b=none){l:List S}(O:∀x∈l,IC V0 b t x.ls/\IC V0 b t x.xs):IC V0 b t l:=by
 intro sl d left V p a M f v H F E;have K:=p.n_eq;refine x153 ?_;have w:∀k,V0.sub (V.set b (cell (.int .i64 k) t)):=λk=>M.set I _;refine⟨λG=>⟨λr=>?_,λr=>?_⟩,λG=>?_⟩
 ·have:Em left d l=(false,left):=by
   grind[Em,gd]
  rw[this];exact⟨rfl,(Mem.set_eq f).symm⟩
 all_goals
  have N:¬(60<d/\l≠[]):=by
   first
   |exact λh=>r h.1
   |simp_all
  rw[vSl_eq N];refine AE l.length (λi V1=>∃k,V1=V.set b (cell (.int .i64 k) t)/\0<=k/\k<=200/\De left d l=De k d (l.drop i)) ⟨left,(Mem.set_eq f).symm,v,H,rfl⟩ ?_;rintro i c _ J T ⟨k,rfl,L,R,z⟩ X;refine⟨λy=>?_,λZ=>?_⟩
  ·obtain⟨x,hm,U,Y,B,C,D,u⟩:=(p.sub (w k)).get y;have u:=S.row_get u;have g:=a x hm;rw[Y,vSs_cons]at z;have hv:=vS_eq k d x;have A:=λV (G:V0.sub V) (h:S.Ok V x)=>(haveI:Tab V:=Tab.sub P G;c201 h);rw[S.v_eq]at A;have q:∀n,vS k d x=(false,n)->(xV (.bool false)=xV (.bool (De left d l).1)/\V.set b (cell (.int .i64 n) t)=V.set b (cell (.int .i64 (De left d l).2) t)):=λn h=>by
    rw[h]at z;rw[z];exact⟨rfl,rfl⟩
   refine⟨C,D,y,_,_,_,_,_,u,Tri.mono (c200 Au (by omega) (by omega)) ?_⟩;rintro _ _ ⟨rfl,rfl⟩;rw[Mem.set_set];refine⟨_,rfl,λj=>(A _ (w _) (g.sub (w _))).call ⟨_,rfl,λW=>?_,λW=>?_⟩,λj=>?_⟩
   ·have j:0<=k-1:=of_decide_eq_true j;refine(c202 (first:=[]) (caps:=[]) (l:=x.el) (g.eRows.sub (w _)) Tryz.call203 (λe=>!Bz e) (λe hm=>haveI:Tab (V.set b (cell (.int .i64 (k-1)) t)):=Tab.sub P (w (k-1));c203 ((g.eOk e hm).sub (w _)))).call ⟨_,rfl,λo=>?_,λo=>?_⟩
    ·have m:x.es.all Bz=false:=by
      rw[xu]at o;simpa using o
     rw[if_neg (λh=>by have:=h.2;unfold Db at this;rw[m,Bool.and_false]at this;cases this)]at hv;exact q _ hv
    ·have m:x.es.all Bz=true:=by
      rw[xu]at o;simpa using o
     have Q:Db x.op x.s x.es x.ls.length x.xs.length=true:=by unfold Db;rw[W,m];rfl
     rw[if_pos ⟨j,Q⟩]at hv;refine⟨⟨by omega,by omega⟩,Tri.mono ((O x hm).1 x.ll (d+1) (k-1) _ g.lRows g.lOk (w _) Au j (by omega) (by omega) (by omega)) ?_⟩;rintro _ _ ⟨rfl,rfl⟩;rw[Mem.set_set];refine⟨_,rfl,λh1=>⟨⟨by omega,by omega⟩,?_⟩,λh1=>?_⟩
     ·rw[if_pos h1]at hv;have b1:=vSl_bound j h1;refine Tri.mono ((O x hm).2 x.xl (d+1) _ _ g.xRows g.xOk (w _) Au b1.1 (by omega) (by omega) (by omega)) ?_;rintro _ _ ⟨rfl,rfl⟩;rw[Mem.set_set];refine⟨_,rfl,λh2=>?_,λh2=>?_⟩
      ·have b2:=vSl_bound b1.1 h2;rw[hv,if_pos h2]at z;exact⟨(p.sub (w k)).succ y,X B _ _ ⟨_,rfl,b2.1,by omega,z⟩⟩
      ·rw[<-hv]at h2⊢;exact q _ (Prod.ext (eq_false_of_ne_true h2) rfl)
     ·rw[if_neg h1]at hv;exact q _ hv
   ·rw[if_neg (λh=>by have:=h.2;unfold Db at this;rw[eq_false_of_ne_true W,xr]at this;cases this)]at hv;exact q _ hv
   ·rw[if_neg (λh=>j (decide_eq_true h.1))]at hv;exact q _ hv
  ·rw[((p.sub (w k)).done Z).1,vSs_nil]at z;rw[z];exact⟨rfl,rfl⟩
theorem stP_S[k:Tab V0](g:V0 b=none):∀s:S,IC V0 b t s.ls/\IC V0 b t s.xs:=by
 intro s;induction s using S.ind with
 |h s f u=>grind[stP_step]
theorem c153[k:Tab V0](h:V0 b=none)(l:List S):IC V0 b t l:=stP_step h λx _=>stP_S h x
end
def A0{α:Type}(p:α->Bool)(xs:List α)(i:Nat):Prop:=∀j x,j<i->xs[j]?=some x->p x=true
theorem A0.zero{α:Type}(p:α->Bool)(xs:List α):A0 p xs 0:=λ_ _ h=>absurd h (xq _)
theorem A0.succ{α:Type}{p:α->Bool}{xs:List α}{i:Nat}{x:α}(h:A0 p xs i)(u:xs[i]?=some x)(w:p x=true):A0 p xs (i+1):=λj y k g=>by
 rcases xx.1 k with f|rfl;·exact h j y f g
 simp_all
theorem A0.all{α:Type}{p:α->Bool}{xs:List α}{i:Nat}(h:A0 p xs i)(hi:xs.length<=i):xs.all p=true:=
 List.all_eq_true.2 λx k=>by
  obtain⟨j,g,rfl⟩:=xE.1 k;exact h j _ (by omega) (yi g)
theorem all_false{α:Type}{p:α->Bool}{xs:List α}{x:α}(h:x∈xs)(k:¬p x=true):xs.all p=false:=by
 grind
def Am:KB:=Ad [105,110,116]
def AC:KB:=Ad [98,111,111,108]
def typB(s:KB):Bool:=decide (s=Am)||decide (s=AC)||BR s
def openB(s:KB):Bool:=decide (s=Ad [])||BR s
def fldB(f:Fld):Bool:=BR f.name&&typB f.ty
def Df(l:List Fld)(h:Int):Bool:=decide ((l.length:Int)<=h)&&l.all fldB
def EC(t:Ty):Bool:=BR t.name&&Df t.fields 12
def DK(p:Pr):Bool:=BR p.name&&Df p.params 6&&Df p.locals 12&&(decide (p.result=Ad [])||typB p.result)&&Hi p.body
def ED(m:Ms):Bool:=BR m.name&&BR m.ty&&decide (-1099511627776<=m.nil/\m.nil<=1099511627776)&&Bz m.x
def GN(m:Iv):Bool:=BR m.name&&openB m.ty&&Bz m.x
def Hj(m:Po):Bool:=openB m.ty&&Bz m.x
def Hk(m:Bd):Bool:=BR m.proc&&Bz m.x
def Gd(d:Ds):Bool:=d.measures.all ED&&d.invs.all GN&&d.pots.all Hj&&d.bounds.all Hk
def lensB(d:Ds):Bool:=decide ((d.measures.length:Int)<=12/\(d.invs.length:Int)<=12/\(d.pots.length:Int)<=12/\(d.bounds.length:Int)<=12)
def Bv(d:Ds):Bool:=BR d.name&&decide ((d.types.length:Int)<=12)&&Df d.globals 8&&decide ((d.procs.length:Int)<=40)&&lensB d&&d.types.all EC&&d.procs.all DK&&Gd d
theorem c180{V:Mem}{s:KB}:PP 180 [.string s] V (.bool (typB s)):=by
 refine x180 ?_;refine⟨λh=>?_,λh=>⟨λh1=>?_,λh1=>c129.call ⟨_,rfl,?_⟩⟩⟩<;>simp[typB,Am,AC, *]
theorem c147{V:Mem}[Tab V]{s:KB}:PP 147 [.string s] V (.bool (typB s)):=by
 refine x147 ?_;refine⟨λh=>?_,λh=>⟨λh1=>?_,λh1=>c110.call ⟨_,rfl,?_⟩⟩⟩<;>simp[typB,Am,AC, *]
theorem c183{V:Mem}{s:KB}:PP 183 [.string s] V (.bool (openB s)):=by
 refine x183 ?_;refine⟨λh=>?_,λh=>c129.call ⟨_,rfl,?_⟩⟩<;>simp[openB, *]
theorem c149{V:Mem}[Tab V]{s:KB}:PP 149 [.string s] V (.bool (openB s)):=by
 refine x149 ?_;refine⟨λh=>?_,λh=>c110.call ⟨_,rfl,?_⟩⟩<;>simp[openB, *]
theorem c130{V:Mem}{l:Sl}{xs:List Fld}{n:Int}(f:Ab V l 2 (xs.map Fld.row)):PP 130 [l.v,.int .i64 n] V (.bool (Df xs n)):=by
 refine x130 ?_;have c:=f.n_eq;refine⟨λh=>?_,λh=>?_⟩;·grind[Df]
 ·have w:(xs.length:Int)<=n:=by omega
  refine AE xs.length (λi V1=>V1=V/\A0 fldB xs i) ⟨rfl,A0.zero _ _⟩ ?_;rintro i b V1 J a ⟨rfl,y⟩ r;refine⟨λk=>?_,λz=>?_⟩
  ·obtain⟨x,hm,q,o,p,u,j,g⟩:=f.get k;have m:fldB x=false->(xV (.bool false)=xV (.bool (Df xs n))/\V1=V1):=λh=>by
    unfold Df;grind
   refine⟨u,j,k,Al u,_,_,g,c129.call ⟨_,rfl,λh1=>⟨u,j,k,Al u,_,_,g,c180.call ⟨_,rfl,λh2=>⟨f.succ k,r p _ _ ⟨rfl,y.succ q (by simp[fldB, *])⟩⟩,λh2=>m (by simp[fldB, *])⟩⟩,λh1=>m (by simp[fldB, *])⟩⟩
  ·have:=y.all (f.done z).2;simp[Df,this,w]
theorem c146{V:Mem}[Tab V]{f:Fld}:PP 146 [f.v] V (.bool (!fldB f)):=by
 refine x146 ?_;refine c110.call ⟨_,rfl,λh=>c147.call ⟨_,rfl,?_⟩,λh=>?_⟩<;>simp[fldB, *]
theorem c111{V:Mem}[Tab V]{l:Sl}{xs:List Fld}{n:Int}(k:Ab V l 2 (xs.map Fld.row)):PP 111 [l.v,.int .i64 n] V (.bool (Df xs n)):=by
 refine x111 ?_;have g:=k.n_eq;refine⟨λh=>(IA (first:=[]) (caps:=[]) k Tryz.call146 (λf=>!fldB f) λf _=>c146).call ⟨_,rfl,?_⟩,λh=>?_⟩;·grind[Df]
 grind[Df]
theorem c131{V:Mem}{p:Pr}(h:Pr.Ok V p):PP 131 [p.v] V (.bool (DK p)):=by
 refine x131 ?_;have k:=c181 (d:=1) h.body h.stmts (by omega) (by omega);refine c129.call ⟨_,rfl,λh1=>(c130 h.params).call ⟨_,rfl,λh2=>(c130 h.locals).call ⟨_,rfl,λh3=>⟨λh4=>k.call ⟨_,rfl,?_⟩,λh4=>c180.call ⟨_,rfl,λg=>k.call ⟨_,rfl,?_⟩,λg=>?_⟩⟩,λh3=>?_⟩,λh2=>?_⟩,λh1=>?_⟩;all_goals simp[DK,<-validSs_cnt, *]
theorem c116{V:Mem}[Tab V]{p:Pr}(h:Pr.Ok V p):PP 116 [p.v] V (.bool (DK p)):=by
  refine Bn.mk (x116 ?_);have f:(Hi p.body=DK p)->Ag [(.int .i64 200)] 258 V fun u w =>
       Tri xS 153 #[(.slice p.bs.p p.bs.n p.bs.c),(.int .i64 1),(.pointer (Aa u 0))] w λe z=>∃k:Bool,e=.returned (.bool k)/\(xV (.bool k)=xV (.bool (DK p))/\V.sub z):=λe b g=>by
    refine Tri.mono (c153 g p.body p.bs 1 200 _ h.body h.stmts (Mem.sub_new g _) Au (by omega) (by omega) (by omega) (by omega)) ?_;rintro _ _ ⟨rfl,rfl⟩;rw[validSs_v,Mem.set_set,e];exact⟨_,rfl,rfl,Mem.sub_new g _⟩
  refine c110.call ⟨_,rfl,λh1=>(c111 h.params).call ⟨_,rfl,λh2=>(c111 h.locals).call ⟨_,rfl,λh3=>⟨λh4=>f ?_,λh4=>c147.call ⟨_,rfl,λy=>f ?_,λy=>⟨?_,Mem.sub.refl _⟩⟩⟩,λh3=>⟨?_,Mem.sub.refl _⟩⟩,λh2=>⟨?_,Mem.sub.refl _⟩⟩,λh1=>⟨?_,Mem.sub.refl _⟩⟩;all_goals simp[DK, *]
theorem c151{V:Mem}[Tab V]{b:Bd}(h:E.Ok V b.x):PP 151 [b.v] V (.bool (!Hk b)):=by
 refine x151 ?_;refine c110.call ⟨_,rfl,λh1=>(c148 h).call ⟨_,rfl,?_⟩,λh1=>?_⟩<;>simp[Hk, *]
theorem c114{V:Mem}[Tab V]{t:Ty}(h:Ty.Ok V t):PP 114 [t.v] V (.bool (!EC t)):=by
 refine x114 ?_;refine c110.call ⟨_,rfl,λh1=>(c111 h.fields).call ⟨_,rfl,?_⟩,λh1=>?_⟩<;>simp[EC, *]
theorem c115{V:Mem}[Tab V]{t:Pr}(h:Pr.Ok V t):PP 115 [t.v] V (.bool (!DK t)):=by
 refine x115 ?_;exact(c116 h).call ⟨_,rfl,rfl,rfl⟩
theorem GenK.max4{P:Program}{V:Mem}{a b c d:Operand}{ty:Nat}{ts:Array TypeId}{vals:Operand->Value}{n1 n2 n3 n4:Int}(h1:vals a=.int .i64 n1)(h2:vals b=.int .i64 n2)(h3:vals c=.int .i64 n3)(h4:vals d=.int .i64 n4){q:Value->Mem->Prop}
  (h:∀m:Int,n1<=m->n2<=m->n3<=m->n4<=m->(m=n1∨m=n2∨m=n3∨m=n4)->q (.int .i64 m) V):GenK P (.call {callee:=.builtin .max,args:=#[a,b,c,d],argTypes:=ts}) ty vals V q:=by
 intro w hw;refine⟨_,w,V,?_,As.refl hw,h (max (max (max n1 n2) n3) n4) (by omega) (by omega) (by omega) (by omega) (by omega)⟩;unfold execOp;have e:∀x y:Int,(if y>x then y else x)=max x y:=λx y=>by split<;>omega
 simp only[resolve,invoke,builtin,Sem.run_bind,Sem.run_pure,Result.andThen_ok,List.map_toArray,List.map_cons,List.map_nil,h1,h2,h3,h4];simp[Builtin.max_,Builtin.max2,e]
theorem c132{V:Mem}{d:Ds}(h:Ds.Ok V d):PP 132 [d.v] V (.bool (Gd d)):=by
 refine x132 ?_;generalize p:Gd d=X;have key:∀b:Bool,X=b->(xV (.bool b)=xV (.bool X)/\V=V):=λn h=>by simp_all
 unfold Gd at p;refine AE d.measures.length (λi V1=>V=V1/\A0 ED d.measures i) ⟨rfl,A0.zero _ _⟩ ?_;rintro i b V1 J o ⟨rfl,z⟩ j;refine⟨λk=>?_,λu=>?_⟩
 ·obtain⟨x,hm,l,m,r,f,y,g⟩:=h.measures.get k;have w:ED x=false->X=false:=λh=>by grind
  refine⟨f,y,k,_,_,_,_,_,_,_,g,c129.call ⟨_,rfl,λh1=>c129.call ⟨_,rfl,λh2=>⟨λh3=>key _ (w ?_),λh3=>⟨λh4=>key _ (w ?_),λh4=>(c182 (h.measuresOk x hm).x).call ⟨_,rfl,λq=>⟨h.measures.succ k,j r _ _ ⟨rfl,z.succ l ?_⟩⟩,λq=>key _ (w ?_)⟩⟩⟩,λh2=>key _ (w ?_)⟩,λh1=>key _ (w ?_)⟩⟩
  ·have:¬(-1099511627776<=x.nil/\x.nil<=1099511627776):=by omega
   simp[ED, *]
  ·have:¬(-1099511627776<=x.nil/\x.nil<=1099511627776):=by omega
   simp[ED, *]
  ·have:(-1099511627776<=x.nil/\x.nil<=1099511627776):=by omega
   simp[ED, *]
  all_goals simp[ED, *]
 have a1:=z.all (h.measures.done u).2;refine AE d.invs.length (λi V1=>V=V1/\A0 GN d.invs i) ⟨rfl,A0.zero _ _⟩ ?_;rintro i b V1 J o ⟨rfl,z⟩ j;refine⟨λk=>?_,λu=>?_⟩
 ·obtain⟨x,hm,l,m,r,f,y,g⟩:=h.invs.get k;have w:GN x=false->X=false:=λh=>by rw[<-p,all_false hm (by rw[h];simp)];simp
  refine⟨f,y,k,Al f,_,_,_,_,_,_,g,c129.call ⟨_,rfl,λh1=>⟨f,y,k,Al f,_,_,_,_,_,_,g,c183.call ⟨_,rfl,λh2=>⟨f,y,k,Al f,_,_,_,_,_,_,g,(c182 (h.invsOk x hm)).call ⟨_,rfl,λq=>⟨h.invs.succ k,j r _ _ ⟨rfl,z.succ l ?_⟩⟩,λq=>key _ (w ?_)⟩⟩,λh2=>key _ (w ?_)⟩⟩,λh1=>key _ (w ?_)⟩⟩;all_goals simp[GN, *]
 have a2:=z.all (h.invs.done u).2;refine AE d.pots.length (λi V1=>V=V1/\A0 Hj d.pots i) ⟨rfl,A0.zero _ _⟩ ?_;rintro i b V1 J o ⟨rfl,z⟩ j;refine⟨λk=>?_,λu=>?_⟩
 ·obtain⟨x,hm,l,m,r,f,y,g⟩:=h.pots.get k;have w:Hj x=false->X=false:=λh=>by grind
  refine⟨f,y,k,Al f,_,_,_,_,_,g,c183.call ⟨_,rfl,λh2=>⟨f,y,k,Al f,_,_,_,_,_,g,(c182 (h.potsOk x hm)).call ⟨_,rfl,λq=>⟨h.pots.succ k,j r _ _ ⟨rfl,z.succ l ?_⟩⟩,λq=>key _ (w ?_)⟩⟩,λh2=>key _ (w ?_)⟩⟩;all_goals simp[Hj, *]
 have a3:=z.all (h.pots.done u).2;refine AE d.bounds.length (λi V1=>V=V1/\A0 Hk d.bounds i) ⟨rfl,A0.zero _ _⟩ ?_;rintro i b V1 J o ⟨rfl,z⟩ j;refine⟨λk=>?_,λu=>?_⟩
 ·obtain⟨x,hm,l,m,r,f,y,g⟩:=h.bounds.get k;have w:Hk x=false->X=false:=λh=>by grind
  refine⟨f,y,k,Al f,_,_,_,_,_,g,c129.call ⟨_,rfl,λh2=>⟨f,y,k,Al f,_,_,_,_,_,g,(c182 (h.boundsOk x hm)).call ⟨_,rfl,λq=>⟨h.bounds.succ k,j r _ _ ⟨rfl,z.succ l ?_⟩⟩,λq=>key _ (w ?_)⟩⟩,λh2=>key _ (w ?_)⟩⟩;all_goals simp[Hk, *]
 have c:=z.all (h.bounds.done u).2;simp_all
theorem c112{V:Mem}[Tab V]{d:Ds}(h:Ds.Ok V d):PP 112 [d.v] V (.bool (lensB d&&Gd d)):=by
 refine x112 ?_;have a:=h.measures.n_eq;have e:=h.invs.n_eq;have s:=h.pots.n_eq;have H:=h.bounds.n_eq;generalize p:(lensB d&&Gd d)=X;have key:∀b:Bool,X=b->(xV (.bool b)=xV (.bool X)/\V=V):=λn h=>by simp_all
 unfold Gd lensB at p;refine GenK.max4 (n1:=d.ms.n) (n2:=d.is.n) (n3:=d.qs.n) (n4:=d.bs.n) rfl rfl rfl rfl λN Z Y W Q le=>⟨_,rfl,λG=>key _ ?_,λG=>?_⟩;·rw[<-p,decide_eq_false (by omega)];rfl
 rw[decide_eq_true (by omega),xv]at p;refine AE d.measures.length (λi V1=>V=V1/\A0 ED d.measures i) ⟨rfl,A0.zero _ _⟩ ?_;rintro i b V1 J c ⟨rfl,z⟩ y;refine⟨λk=>?_,λw=>?_⟩
 ·obtain⟨x,hm,j,l,m,r,q,g⟩:=h.measures.get k;have u:ED x=false->X=false:=λh=>by grind
  refine⟨r,q,k,_,_,_,_,_,_,_,g,c110.call ⟨_,rfl,λh1=>c110.call ⟨_,rfl,λh2=>⟨λh3=>key _ (u ?_),λh3=>⟨λh4=>key _ (u ?_),λh4=>(c148 (h.measuresOk x hm).x).call ⟨_,rfl,λo=>⟨h.measures.succ k,y m _ _ ⟨rfl,z.succ j ?_⟩⟩,λo=>key _ (u ?_)⟩⟩⟩,λh2=>key _ (u ?_)⟩,λh1=>key _ (u ?_)⟩⟩
  ·have:¬(-1099511627776<=x.nil/\x.nil<=1099511627776):=by omega
   simp[ED, *]
  ·have:¬(-1099511627776<=x.nil/\x.nil<=1099511627776):=by omega
   simp[ED, *]
  ·have:(-1099511627776<=x.nil/\x.nil<=1099511627776):=by omega
   simp[ED, *]
  all_goals simp[ED, *]
 have a1:=z.all (h.measures.done w).2;refine AE d.invs.length (λi V1=>V=V1/\A0 GN d.invs i) ⟨rfl,A0.zero _ _⟩ ?_;rintro i b V1 J c ⟨rfl,z⟩ y;refine⟨λk=>?_,λw=>?_⟩
 ·obtain⟨x,hm,j,l,m,r,q,g⟩:=h.invs.get k;have u:GN x=false->X=false:=λh=>by rw[<-p,all_false hm (by rw[h];simp)];simp
  refine⟨r,q,k,_,_,_,_,_,_,g,c110.call ⟨_,rfl,λh1=>c149.call ⟨_,rfl,λh2=>(c148 (h.invsOk x hm)).call ⟨_,rfl,λo=>⟨h.invs.succ k,y m _ _ ⟨rfl,z.succ j ?_⟩⟩,λo=>key _ (u ?_)⟩,λh2=>key _ (u ?_)⟩,λh1=>key _ (u ?_)⟩⟩;all_goals simp[GN, *]
 have a2:=z.all (h.invs.done w).2;refine AE d.pots.length (λi V1=>V=V1/\A0 Hj d.pots i) ⟨rfl,A0.zero _ _⟩ ?_;rintro i b V1 J c ⟨rfl,z⟩ y;refine⟨λk=>?_,λw=>?_⟩
 ·obtain⟨x,hm,j,l,m,r,q,g⟩:=h.pots.get k;have u:Hj x=false->X=false:=λh=>by grind
  refine⟨r,q,k,_,_,_,_,_,g,c149.call ⟨_,rfl,λh2=>(c148 (h.potsOk x hm)).call ⟨_,rfl,λo=>⟨h.pots.succ k,y m _ _ ⟨rfl,z.succ j ?_⟩⟩,λo=>key _ (u ?_)⟩,λh2=>key _ (u ?_)⟩⟩;all_goals simp[Hj, *]
 have a3:=z.all (h.pots.done w).2;refine(c150 (first:=[]) (caps:=[]) h.bounds Tryz.call151 (λf=>!Hk f) λf hm=>c151 (h.boundsOk f hm)).call ⟨_,rfl,key _ ?_⟩;simp_all[xu]
theorem Mn{V:Mem}{d:Ds}(h:Ds.Ok V d):PP 86 [d.v] V (.bool (Bv d)):=by
 refine QK ?_;have G:=h.measures.n_eq;have N:=h.invs.n_eq;have Z:=h.pots.n_eq;have Y:=h.bounds.n_eq;have W:=h.types.n_eq;have n6:=h.procs.n_eq;generalize r:Bv d=X;have key:∀b:Bool,X=b->(xV (.bool b)=xV (.bool X)/\V=V):=λn h=>by simp_all
 unfold Bv at r;have f:lensB d=false->X=false:=λh=>by simp_all
 refine c129.call ⟨_,rfl,λh1=>⟨λh2=>key _ ?_,λh2=>(c130 h.globals).call ⟨_,rfl,λh3=>⟨λh4=>key _ ?_,λh4=>⟨λu=>key _ (f ?_),λu=>⟨λa=>key _ (f ?_),λa=>⟨λe=>key _ (f ?_),λe=>⟨λs=>key _ (f ?_),λs=>?_⟩⟩⟩⟩⟩,λh3=>key _ ?_⟩⟩,λh1=>key _ ?_⟩;·grind
 ·grind
 ·exact decide_eq_false (by omega)
 ·exact decide_eq_false (by omega)
 ·exact decide_eq_false (by omega)
 ·exact decide_eq_false (by omega)
 ·have y:lensB d=true:=decide_eq_true (by omega);rw[h1,decide_eq_true (p:=(d.types.length:Int)<=12) (by omega),h3,decide_eq_true (p:=(d.procs.length:Int)<=40) (by omega),y]at r;simp only[xv]at r;refine AE d.types.length (λi V1=>V=V1/\A0 EC d.types i) ⟨rfl,A0.zero _ _⟩ ?_;rintro i b V1 J H ⟨rfl,j⟩ q;refine⟨λk=>?_,λw=>?_⟩
  ·obtain⟨x,hm,o,c,y,z,l,g⟩:=h.types.get k;have m:EC x=false->X=false:=λh=>by grind
   refine⟨z,l,k,Al z,_,_,g,c129.call ⟨_,rfl,λh1=>⟨z,l,k,Al z,_,_,g,(c130 (h.typesOk x hm).fields).call ⟨_,rfl,λu=>⟨h.types.succ k,q y _ _ ⟨rfl,j.succ o ?_⟩⟩,λu=>key _ (m ?_)⟩⟩,λh1=>key _ (m ?_)⟩⟩;all_goals simp[EC, *]
  have a1:=j.all (h.types.done w).2;refine AE d.procs.length (λi V1=>V=V1/\A0 DK d.procs i) ⟨rfl,A0.zero _ _⟩ ?_;rintro i b V1 J H ⟨rfl,j⟩ q;refine⟨λk=>?_,λw=>?_⟩
  ·obtain⟨x,hm,o,c,y,z,l,g⟩:=h.procs.get k;have m:DK x=false->X=false:=λh=>by grind
   exact⟨z,l,k,_,_,_,_,_,g,(c131 (h.procsOk x hm)).call ⟨_,rfl,λu=>⟨h.procs.succ k,q y _ _ ⟨rfl,j.succ o u⟩⟩,λu=>key _ (m (eq_false_of_ne_true u))⟩⟩
  have a2:=j.all (h.procs.done w).2;refine(c132 h).call ⟨_,rfl,key _ ?_⟩;simp_all
 ·simp_all
 simp_all
theorem Mo{V:Mem}[Tab V]{d:Ds}(h:Ds.Ok V d):PP 79 [d.v] V (.bool (Bv d)):=by
 refine QH ?_;have w:=h.types.n_eq;have n6:=h.procs.n_eq;generalize k:Bv d=X;have key:∀b:Bool,X=b->(xV (.bool b)=xV (.bool X)/\V=V):=λn h=>by simp_all
 unfold Bv at k;refine c110.call ⟨_,rfl,λh1=>⟨λh2=>key _ ?_,λh2=>(c111 h.globals).call ⟨_,rfl,λh3=>⟨λh4=>key _ ?_,λh4=>(c112 h).call ⟨_,rfl,λg=>(c113 (first:=[]) (caps:=[]) h.types Tryz.call114 (λf=>!EC f) λf hm=>c114 (h.typesOk f hm)).call ⟨_,rfl,λu=>key _ ?_,λu=>
   (Mj (first:=[]) (caps:=[]) h.procs Tryz.call115 (λf=>!DK f) λf hm=>c115 (h.procsOk f hm)).call ⟨_,rfl,key _ ?_⟩⟩,λg=>key _ ?_⟩⟩,λh3=>key _ ?_⟩⟩,λh1=>key _ ?_⟩
 ·grind
 ·grind
 ·grind[xu,EC]
 ·grind
 ·grind
 ·simp_all
 simp_all
end Go.Proofs
namespace Go.Proofs
open Go Go.Sx
def sNil:KB:=Ad [110,105,108]
def sE:KB:=Ad []
def Cg(d:Ds)(s:KB):Bool:=d.types.any λt=>decide (t.name=s)
def Bt(d:Ds)(s:KB):Bool:=decide (s=Am)||decide (s=AC)||Cg d s
def BL(d:Ds)(a b:KB):Bool:=decide (a=b)||(decide (a=sNil)&&Cg d b)
def Ca:List Fld->KB->KB
 |[],_=>sE
 |f::l,s=>if f.name=s then f.ty else Ca l s
def Dq(d:Ds)(s:KB):Option Ty:=d.types.find? λt=>decide (t.name=s)
def Ch(d:Ds)(s:KB):Option Pr:=d.procs.find? λt=>decide (t.name=s)
def meOf(d:Ds)(s:KB):Option Ms:=d.measures.find? λt=>decide (t.name=s)
def DD(d:Ds)(t name:KB):KB×Int:=
 match Dq d t with
 |none=>(sE,11)
 |some ty=>if Ca ty.fields name=sE then(sE,9)else(Ca ty.fields name,0)
def DL(d:Ds):List KB->List Fld->Bool
 |a::l,f::fs=>BL d a f.ty&&DL d l fs
 |_,_=>true
def En(d:Ds)(name:KB)(l:List KB):KB×Int:=
 match Ch d name with
 |none=>(sE,9)
 |some p=>if l.length≠p.params.length then(sE,3)else if DL d l p.params=true then(p.result,0)else(sE,11)
def Dr(ok:Bool)(t:KB):KB×Int:=if ok=true then(t,0)else(sE,11)
structure Sc where
 vars:List Fld
 body:Bool
def GO(d:Ds)(name:KB)(l:List KB):KB×Int:=
 match meOf d name with
 |none=>(sE,9)
 |some m=>if l.length≠1 then(sE,3)else Dr (BL d (l.getD 0 sE) m.ty) Am
def FN(d:Ds)(sc:Sc)(name:KB)(l:List KB):KB×Int:=
 if sc.body=true then(if(En d name l).2=0/\(En d name l).1=sE then(sE,11)else En d name l)else GO d name l
def allT(l:List KB)(t:KB):Bool:=l.all λx=>decide (x=t)
def ET(d:Ds)(sc:Sc)(op:Int)(s:KB)(l:List KB):KB×Int:=
 if op=1 then(Am,0)else if op=2 then(AC,0)else if op=3 then(sNil,0)
 else if op=4 then(if Ca sc.vars s=sE then(sE,9)else(Ca sc.vars s,0))
 else if op=5 then DD d (l.getD 0 sE) s
 else if op=6 then(if sc.body=false then(sE,13)else if Cg d s=false then(sE,9)else(s,0))
 else if op=7 then FN d sc s l
 else if op=14∨op=15 then Dr (BL d (l.getD 0 sE) (l.getD 1 sE)||BL d (l.getD 1 sE) (l.getD 0 sE)) AC
 else if op=16∨op=17 then Dr (allT l Am) AC
 else if op=18∨op=19∨op=20 then Dr (allT l AC) AC
 else if op=21 then Dr (decide (l.getD 0 sE=AC)&&(BL d (l.getD 1 sE) (l.getD 2 sE)||BL d (l.getD 2 sE) (l.getD 1 sE))) (if l.getD 1 sE=sNil then l.getD 2 sE else l.getD 1 sE)
 else Dr (allT l Am) Am
mutual
def Aw(d:Ds)(sc:Sc):E->KB×Int
 |.mk op _ s _ k=>if(partsT d sc [] k).2≠0 then(sE,(partsT d sc [] k).2)else ET d sc op s (partsT d sc [] k).1
def partsT(d:Ds)(sc:Sc)(acc:List KB):List E->List KB×Int
 |[]=>(acc,0)
 |x::xs=>if(Aw d sc x).2≠0 then([],(Aw d sc x).2)else partsT d sc (acc++[(Aw d sc x).1]) xs
end
theorem KE(d:Ds)(sc:Sc)(e:E):Aw d sc e=if(partsT d sc [] e.k).2≠0 then(sE,(partsT d sc [] e.k).2)else ET d sc e.op e.s (partsT d sc [] e.k).1:=by
 cases e;rfl
theorem HV(d:Ds)(sc:Sc)(acc:List KB)(x:E)(xs:List E):partsT d sc acc (x::xs)=if(Aw d sc x).2≠0 then([],(Aw d sc x).2)else partsT d sc (acc++[(Aw d sc x).1]) xs:=by rw[partsT]
theorem ID(d:Ds)(sc:Sc)(acc:List KB):partsT d sc acc []=(acc,0):=by rw[partsT]
theorem Mp(d:Ds)(sc:Sc):∀(k:List E)(acc:List KB),(partsT d sc acc k).2=0->(partsT d sc acc k).1.length=acc.length+k.length
 |[],acc,_=>by rfl
 |x::xs,acc,h=>by
  rw[HV]at h⊢;split at h;·omega
  ·rename_i g;rw[if_neg g,Mp d sc xs _ h,List.length_append,zo,zo,List.length_nil];omega
def Av(d:Ds)(p:Pr):Sc:=⟨p.params++p.locals++d.globals,true⟩
def sThisF:KB:=Ad [116,104,105,115]
def BG(d:Ds)(t:KB):Sc:=⟨(if t=sE then[]else[⟨sThisF,t⟩])++d.globals,false⟩
def EE(d:Ds)(p:Pr):Sc:=⟨p.params++d.globals,false⟩
def D9(d:Ds)(sc:Sc)(result:KB)(op:Int)(s:KB)(es:List E):Int:=
 if op=6 then
  match es with
  |[]=>0
  |e::_=>if(partsT d sc [] e.k).2≠0 then(partsT d sc [] e.k).2 else(En d e.s (partsT d sc [] e.k).1).2
 else if(partsT d sc [] es).2≠0 then(partsT d sc [] es).2
 else if op=1 then(if Ca sc.vars s=sE then 9 else if BL d ((partsT d sc [] es).1.getD 0 sE) (Ca sc.vars s)=true then 0 else 11)
 else if op=2 then(if(DD d ((partsT d sc [] es).1.getD 0 sE) s).2≠0 then(DD d ((partsT d sc [] es).1.getD 0 sE) s).2 else if BL d ((partsT d sc [] es).1.getD 1 sE) (DD d ((partsT d sc [] es).1.getD 0 sE) s).1=true then 0 else 11)
 else if op=3∨op=4 then(if(partsT d sc [] es).1.getD 0 sE=AC then 0 else 11)
 else if op=5 then(if(partsT d sc [] es).1.length=0 then(if result=sE then 0 else 11)else if result≠sE/\BL d ((partsT d sc [] es).1.getD 0 sE) result=true then 0 else 11)
 else 0
mutual
def stT(d:Ds)(sc:Sc)(result:KB)(n:Int):S->Int×Int
 |.mk op s _ es _ ls _ xs=>
  if D9 d sc result op s es≠0 then(n,D9 d sc result op s es)
  else if(AF d sc result (n+1) ls).2≠0 then AF d sc result (n+1) ls
  else AF d sc result (AF d sc result (n+1) ls).1 xs
def AF(d:Ds)(sc:Sc)(result:KB)(n:Int):List S->Int×Int
 |[]=>(n,0)
 |x::xs=>if(stT d sc result n x).2≠0 then stT d sc result n x else AF d sc result (stT d sc result n x).1 xs
end
theorem stT_eq(d:Ds)(sc:Sc)(result:KB)(n:Int)(x:S):stT d sc result n x=if D9 d sc result x.op x.s x.es≠0 then(n,D9 d sc result x.op x.s x.es)else if(AF d sc result (n+1) x.ls).2≠0 then AF d sc result (n+1) x.ls else AF d sc result (AF d sc result (n+1) x.ls).1 x.xs:=by
 cases x;unfold stT;rfl
theorem KF(d:Ds)(sc:Sc)(result:KB)(n:Int)(x:S)(xs:List S):AF d sc result n (x::xs)=if(stT d sc result n x).2≠0 then stT d sc result n x else AF d sc result (stT d sc result n x).1 xs:=by rw[AF]
theorem stsT_nil(d:Ds)(sc:Sc)(result:KB)(n:Int):AF d sc result n []=(n,0):=by rw[AF]
def BN(d:Ds)(l:List Fld)(i:Nat)(f:Fld):Int:=if(l.take i).any (λg=>decide (g.name=f.name))=true then 10 else if Bt d f.ty=true then 0 else 9
def Ao{α β:Type}(f:Nat->α->Option β):Nat->List α->Option β
 |_,[]=>none
 |i,x::xs=>match f i x with|some b=>some b|none=>Ao f (i+1) xs
def Cw(d:Ds)(l:List Fld):Int:=(Ao (λi f=>if BN d l i f≠0 then some (BN d l i f)else none) 0 l).getD 0
abbrev Flt:=KB×Int×Int
def types1(d:Ds):Option Flt:=Ao (λi t=>if(d.types.take i).any (λg=>decide (g.name=t.name))=true then some (t.name,-1,10)else none) 0 d.types
def types2(d:Ds):Option Flt:=Ao (λ_ t=>if Cw d t.fields≠0 then some (t.name,-1,Cw d t.fields)else none) 0 d.types
def types3(d:Ds):Option Flt:=Ao (λi f=>if BN d d.globals i f≠0 then some (f.name,-1,BN d d.globals i f)else none) 0 d.globals
def Ge(d:Ds):Option Flt:=(types1 d).or ((types2 d).or (types3 d))
def E5(d:Ds):Option Flt:=Ao (λi p=>if(d.procs.take i).any (λg=>decide (g.name=p.name))=true then some (p.name,-1,10)else if Cw d (p.params++p.locals)≠0 then some (p.name,-1,Cw d (p.params++p.locals))else if p.result≠sE/\Bt d p.result=false then some (p.name,-1,9)else none) 0 d.procs
def form1(d:Ds):Option Flt:=Ao (λi m=>if(d.measures.take i).any (λg=>decide (g.name=m.name))=true then some (m.name,-1,10)else if Cg d m.ty=false then some (m.name,-1,9)else none) 0 d.measures
def form2(d:Ds):Option Flt:=Ao (λi m=>if(d.invs.take i).any (λg=>decide (g.name=m.name))=true then some (m.name,-1,10)else if m.ty≠sE/\Cg d m.ty=false then some (m.name,-1,9)else none) 0 d.invs
def sPot:KB:=Ad [112,111,116,101,110,116,105,97,108]
def form3(d:Ds):Option Flt:=Ao (λ_ m=>if m.ty≠sE/\Cg d m.ty=false then some (sPot,-1,9)else none) 0 d.pots
def form4(d:Ds):Option Flt:=Ao (λi b=>if(Ch d b.proc).isNone=true then some (b.proc,-1,9)else if(d.bounds.take i).any (λg=>decide (g.proc=b.proc))=true then some (b.proc,-1,10)else none) 0 d.bounds
def DS(d:Ds):Option Flt:=(form1 d).or ((form2 d).or ((form3 d).or (form4 d)))
def E6(d:Ds):Option Flt:=Ao (λ_ p=>if(AF d (Av d p) p.result 0 p.body).2≠0 then some (p.name,(AF d (Av d p) p.result 0 p.body).1,(AF d (Av d p) p.result 0 p.body).2)else none) 0 d.procs
def BB(d:Ds)(sc:Sc)(e:E)(t:KB):Int:=if(Aw d sc e).2≠0 then(Aw d sc e).2 else if(Aw d sc e).1=t then 0 else 11
def exp1(d:Ds):Option Flt:=Ao (λ_ m=>if BB d (BG d m.ty) m.x Am≠0 then some (m.name,-1,BB d (BG d m.ty) m.x Am)else none) 0 d.measures
def exp2(d:Ds):Option Flt:=Ao (λ_ m=>if BB d (BG d m.ty) m.x AC≠0 then some (m.name,-1,BB d (BG d m.ty) m.x AC)else none) 0 d.invs
def exp3(d:Ds):Option Flt:=Ao (λ_ m=>if BB d (BG d m.ty) m.x Am≠0 then some (sPot,-1,BB d (BG d m.ty) m.x Am)else none) 0 d.pots
def HW:Pr:=⟨sE,⟨none,0,0⟩,[],sE,⟨none,0,0⟩,[],⟨none,0,0⟩,[]⟩
def exp4(d:Ds):Option Flt:=Ao (λ_ m=>if BB d (EE d ((Ch d m.proc).getD HW)) m.x Am≠0 then some (m.proc,-1,BB d (EE d ((Ch d m.proc).getD HW)) m.x Am)else none) 0 d.bounds
def E7(d:Ds):Option Flt:=(exp1 d).or ((exp2 d).or ((exp3 d).or (exp4 d)))
def Ct(d:Ds):Option Flt:=(Ge d).or ((E5 d).or ((DS d).or ((E6 d).or (E7 d))))
def fltR(o:Option Flt):Flt:=o.getD (sE,0,0)
end Go.Proofs
namespace Go.Proofs
open Go Go.Sx
attribute [local irreducible] Go.Sx.Tri
noncomputable def ti(t:Nat):TypeInfo:=(xS.info? t).getD default
section
variable{α:Type}
def AppP(t e sz:Nat)(row:α->List Value):Prop:=∀{V0 V:Mem}{ty:Nat}{x y:Operand}{vals:Operand->Value}{s u:Sl}{xs ys:List α}(g:vals x=.slice s.p s.n s.c)(f:vals y=.slice u.p u.n u.c)(own:Sx.Own V0 V e sz s (xs.flatMap row))(h:Ab V u sz (ys.map row))
 (k:xs.length+ys.length<=2147483648) {q:Value->Mem->Prop} (w:∀s' V',Sx.Own V0 V' e sz s' ((xs++ys).flatMap row)->q (.slice s'.p s'.n s'.c) V'),
 GenK xS (.call {callee:=.builtin .append,args:=#[x,y],argTypes:=#[t,t]}) ty vals V q
theorem appG{t e sz:Nat}{row:α->List Value}(g:xS.underlying t=some (.slice e))(hi:xS.info? e=some (ti e))(f:(ti e).zero=some ((ti e).zero.getD undef))(h1:(ti e).size=sz)(h2:((ti e).zero.getD undef).cells.size=sz)(h3:decide ((ti e).bytes<=65536)=true)
  (w:0<sz) (z:∀x,(row x).length=sz) (hu:∀x,∀u∈row x,u.oneCell'=true):AppP t e sz row:=by
 intro V0 V ty x y vals s u xs n j i own h k q l;exact GenK.appendS g hi f h1 h2 w (of_decide_eq_true h3) j i own z h hu k l
end
theorem IE:AppP 159 9 1 CC:=appG Tryz.underlying159 (by kernel_rfl) (by kernel_rfl) (by kernel_rfl) (by kernel_rfl) (by kernel_rfl) (by decide) (by intro _;rfl) λx u hu=>by simp[CC,vS]at hu;rw[hu];rfl
theorem EU:AppP 23 138 2 Fld.row:=appG Tryz.underlying23 (by kernel_rfl) (by kernel_rfl) (by kernel_rfl) (by kernel_rfl) (by kernel_rfl) (by decide) (by intro _;rfl) λx u hu=>by simp[Fld.row,vS]at hu;rcases hu with rfl|rfl<;>rfl
def BH{α:Type}(p:α->Bool)(xs:List α):Int:=match xs.findIdx? p with|some i=>(i:Int)|none=>-1
theorem Hl{α:Type}{p:α->Bool}{xs:List α}{i:Nat}{x:α}(h:A0 (λy=>!p y) xs i)(k:xs[i]?=some x)(u:p x=true):BH p xs=i:=by
 have g:=(yj.1 k).1;have w:=(yj.1 k).2;have:xs.findIdx? p=some i:=xB.2 ⟨g,by grind,λj f=>by
  have:=h j _ f (yi (Nat.lt_trans f g));simpa using this⟩
 unfold BH;rw[this]
theorem Hm{α:Type}{p:α->Bool}{xs:List α}{i:Nat}(h:A0 (λy=>!p y) xs i)(hi:xs.length<=i):BH p xs=-1:=by
 have:xs.findIdx? p=none:=List.findIdx?_eq_none_iff.2 λx k=>by
  obtain⟨j,g,rfl⟩:=xE.1 k;have:=h j _ (by omega) (yi g);simpa using this
 unfold BH;rw[this]
theorem Cu{α:Type}(p:α->Bool)(xs:List α):(BH p xs=-1/\xs.find? p=none/\xs.any p=false)∨∃(i:Nat)(x:α),BH p xs=i/\xs[i]?=some x/\xs.find? p=some x/\i<xs.length/\p x=true/\x∈xs/\xs.any p=true/\(xs.take i).any p=false:=by
 cases h:xs.findIdx? p with
 |none=>
  grind[BH]
 |some i=>
  obtain⟨k,g,u⟩:=xB.1 h;refine .inr ⟨i,xs[i],by unfold BH;rw[h],yi k,?_,k,g,yd _,xp.2 ⟨_,yd _,g⟩,?_⟩
  ·rw[List.find?_eq_some_iff_getElem];grind
  ·rw[xo];intro x f;obtain⟨j,w,rfl⟩:=xE.1 f;grind
theorem Hn{α:Type}{p:α->Bool}{xs:List α}{i:Nat}{x:α}(h:A0 (λy=>!p y) xs i)(k:xs[i]?=some x)(g:p x=false):A0 (λy=>!p y) xs (i+1):=h.succ k (by simp[g])
theorem HX{V:Mem}{d:Ds}(h:Ds.Ok V d){s:KB}:PP 88 [d.v,.string s] V (.int .i64 (BH (λt=>decide (t.name=s)) d.types)):=by
 refine QN ?_;refine AE d.types.length (λi V1=>V=V1/\A0 (λt=>!decide (t.name=s)) d.types i) ⟨rfl,A0.zero _ _⟩ ?_;rintro i b V1 J r ⟨rfl,f⟩ j;refine⟨λk=>?_,λu=>?_⟩
 ·obtain⟨x,hm,z,l,n,y,m,g⟩:=h.types.get k;refine⟨y,m,k,Al y,_,_,g,λw=>?_,λw=>⟨h.types.succ k,j n _ _ ⟨rfl,Hn (p:=λt=>decide (t.name=s)) f z (decide_eq_false w)⟩⟩⟩;rw[Hl (p:=λt=>decide (t.name=s)) f z (decide_eq_true w)];simp_all
 ·rw[Hm (p:=λt=>decide (t.name=s)) f (h.types.done u).2];exact⟨rfl,rfl⟩
theorem Ho{V:Mem}{d:Ds}(h:Ds.Ok V d){s:KB}:PP 71 [d.v,.string s] V (.int .i64 (BH (λt=>decide (t.name=s)) d.procs)):=by
 refine Qz ?_;refine AE d.procs.length (λi V1=>V=V1/\A0 (λt=>!decide (t.name=s)) d.procs i) ⟨rfl,A0.zero _ _⟩ ?_;rintro i b V1 J r ⟨rfl,f⟩ j;refine⟨λk=>?_,λu=>?_⟩
 ·obtain⟨x,hm,z,l,n,y,m,g⟩:=h.procs.get k;refine⟨y,m,k,Al y,_,_,_,_,_,g,λw=>?_,λw=>⟨h.procs.succ k,j n _ _ ⟨rfl,Hn (p:=λt=>decide (t.name=s)) f z (decide_eq_false w)⟩⟩⟩;rw[Hl (p:=λt=>decide (t.name=s)) f z (decide_eq_true w)];simp_all
 ·rw[Hm (p:=λt=>decide (t.name=s)) f (h.procs.done u).2];exact⟨rfl,rfl⟩
theorem c225{V:Mem}{d:Ds}(h:Ds.Ok V d){s:KB}:PP 225 [d.v,.string s] V (.int .i64 (BH (λt=>decide (t.name=s)) d.measures)):=by
 refine x225 ?_;refine AE d.measures.length (λi V1=>V=V1/\A0 (λt=>!decide (t.name=s)) d.measures i) ⟨rfl,A0.zero _ _⟩ ?_;rintro i b V1 J r ⟨rfl,f⟩ j;refine⟨λk=>?_,λu=>?_⟩
 ·obtain⟨x,hm,z,l,n,y,m,g⟩:=h.measures.get k;refine⟨y,m,k,Al y,_,_,_,_,_,_,_,g,λw=>?_,λw=>⟨h.measures.succ k,j n _ _ ⟨rfl,Hn (p:=λt=>decide (t.name=s)) f z (decide_eq_false w)⟩⟩⟩;rw[Hl (p:=λt=>decide (t.name=s)) f z (decide_eq_true w)];simp_all
 ·rw[Hm (p:=λt=>decide (t.name=s)) f (h.measures.done u).2];exact⟨rfl,rfl⟩
section
variable{V:Mem}{d:Ds}
theorem c226(h:Ds.Ok V d){s:KB}:PP 226 [d.v,.string s] V (.bool (Cg d s)):=by
 refine x226 ?_;refine(HX h).call ⟨_,rfl,?_⟩;rcases Cu (λt:Ty=>decide (t.name=s)) d.types with⟨h1,h2,h3⟩|⟨i,x,h1,h2,h3,h4,g,f,k,_⟩;·rw[h1,Cg,h3];exact⟨rfl,rfl⟩
 ·rw[h1,Cg,k,decide_eq_true (by omega)];exact⟨rfl,rfl⟩
theorem c224(h:Ds.Ok V d){s:KB}:PP 224 [d.v,.string s] V (.bool (Bt d s)):=by
 refine x224 ?_;refine⟨λh1=>?_,λh1=>⟨λh2=>?_,λh2=>(c226 h).call ⟨_,rfl,?_⟩⟩⟩<;>simp[Bt,Am,AC, *]
theorem c267(h:Ds.Ok V d){s t:KB}:PP 267 [d.v,.string s,.string t] V (.bool (BL d s t)):=by
 refine x267 ?_;unfold BL sNil;refine⟨λh1=>?_,λh1=>⟨λh2=>(c226 h).call ⟨_,rfl,?_⟩,λh2=>?_⟩⟩;·simp_all
 ·simp_all
 simp_all
theorem Ov(fs:List Fld):DL d [] fs=true:=by simp[DL]
theorem c266{l:Sl}{xs:List Fld}(h:Ab V l 2 (xs.map Fld.row)){s:KB}:PP 266 [l.v,.string s] V (.string (Ca xs s)):=by
 refine x266 ?_;refine AE xs.length (λi V1=>V=V1/\Ca xs s=Ca (xs.drop i) s) ⟨rfl,rfl⟩ ?_;rintro i b V1 J r ⟨rfl,z⟩ j;refine⟨λk=>?_,λu=>?_⟩
 ·obtain⟨x,hm,q,w,n,f,y,g⟩:=h.get k;rw[w,Ca]at z;refine⟨f,y,k,Al f,_,_,g,λm=>⟨f,y,k,Al f,_,_,g,?_⟩,λm=>⟨h.succ k,j n _ _ ⟨rfl,?_⟩⟩⟩;·simp_all
  simp_all
 ·rw[z,(h.done u).1];exact⟨rfl,rfl⟩
theorem c268(h:Ds.Ok V d){s t:KB}:PP 268 [d.v,.string s,.string t] V (.tuple #[.string (DD d s t).1,.int .i64 (DD d s t).2]):=by
 refine x268 ?_;refine(HX h).call ⟨_,rfl,?_⟩;unfold DD Dq;rcases Cu (λt:Ty=>decide (t.name=s)) d.types with⟨h1,h2,h3⟩|⟨i,x,h1,h2,h3,h4,m,w,r,_⟩;·rw[h1,h2];exact⟨λ_=>⟨rfl,rfl⟩,λh=>absurd h (by decide)⟩
 ·rw[h1,h3];have q:=h.types.n_eq;have k:(i:Int)<(d.ts.n:Int):=by omega
  obtain⟨y,hm,f,z,o,u,j,g⟩:=h.types.get k;rw[h2]at f;cases f;refine⟨λh=>absurd h (by omega),λ_=>⟨u,j,k,Al u,_,_,g,(c266 (h.typesOk x w).fields).call ⟨_,rfl,λl=>?_,λl=>?_⟩⟩⟩;·grind[sE]
  grind[sE]
theorem c289{b:Bool}{s:KB}:PP 289 [.bool b,.string s] V (.tuple #[.string (Dr b s).1,.int .i64 (Dr b s).2]):=by
 refine x289 ?_;refine⟨λh=>?_,λh=>?_⟩;·unfold Dr;rw[if_pos h];exact⟨rfl,rfl⟩
 ·unfold Dr;rw[if_neg h];exact⟨rfl,rfl⟩
theorem c290{l:Sl}{xs:List KB}(h:Ab V l 1 (xs.map CC)){s:KB}:PP 290 [l.v,.string s] V (.bool (allT xs s)):=by
 refine x290 ?_;refine AE xs.length (λi V1=>V=V1/\A0 (λx=>decide (x=s)) xs i) ⟨rfl,A0.zero _ _⟩ ?_;rintro i b V1 J q ⟨rfl,u⟩ z;refine⟨λk=>?_,λf=>?_⟩
 ·obtain⟨x,hm,y,j,n,m,r,g⟩:=h.get k;refine⟨m,r,k,_,g,λw=>⟨h.succ k,z n _ _ ⟨rfl,u.succ y (decide_eq_true w)⟩⟩,λw=>?_⟩;unfold allT;grind
 ·unfold allT;rw[u.all (h.done f).2];simp_all
theorem c264(h:Ds.Ok V d){s:KB}{l:Sl}{xs:List KB}(o:Ab V l 1 (xs.map CC)):PP 264 [d.v,.string s,l.v] V (.tuple #[.string (En d s xs).1,.int .i64 (En d s xs).2]):=by
 refine x264 ?_;refine(Ho h).call ⟨_,rfl,?_⟩;unfold En Ch;rcases Cu (λt:Pr=>decide (t.name=s)) d.procs with⟨h1,h2,h3⟩|⟨i,x,h1,h2,h3,h4,D,Q,E,_⟩;·rw[h1,h2];exact⟨λ_=>⟨rfl,rfl⟩,λh=>absurd h (by decide)⟩
 ·rw[h1,h3];have K:=h.procs.n_eq;have k:(i:Int)<(d.ps.n:Int):=by omega
  obtain⟨y,hm,Y,P,O,A,I,z⟩:=h.procs.get k;rw[h2]at Y;cases Y;have m:=h.procsOk x Q;have S:=o.n_eq;have T:=m.params.n_eq;refine⟨λh=>absurd h (by omega),λ_=>⟨A,I,k,_,_,_,_,_,z,λM=>?_,λM=>?_⟩⟩
  ·have g:xs.length=x.params.length:=by omega
   simp only[g,ne_eq,not_true_eq_false,if_false];refine DJ xs.length (λi V1=>V=V1/\DL d xs x.params=DL d (xs.drop i) (x.params.drop i)) ⟨rfl,rfl⟩ ?_;rintro j b c V1 J U ⟨rfl,p⟩ F;refine⟨λk=>?_,λa=>?_⟩
   ·obtain⟨y,L,R,r,e,H,G,u⟩:=o.get k;obtain⟨f,X,B,N,C,q,Z,w⟩:=m.params.get (i:=j) (by omega);rw[r,N,DL]at p;refine⟨H,G,k,_,u,q,Z,by omega,Al q,_,_,w,(c267 h).call ⟨_,rfl,λW=>⟨o.succ k,F e _ _ _ ⟨rfl,?_⟩⟩,λW=>?_⟩⟩;·simp_all
    ·rw[eq_false_of_ne_true W,xr]at p;rw[p];exact⟨rfl,rfl⟩
   ·rw[(o.done a).1,Ov]at p;simp_all
  ·have g:¬xs.length=x.params.length:=by omega
   simp only[ne_eq,g,not_false_eq_true,if_true];exact⟨by rfl,by simp_all⟩
theorem Fm{l:Sl}{xs:List KB}(u:Ab V l 1 (xs.map CC)){i:Nat}(hi:i<xs.length):¬(l.p=none)/\(i:Int)<(l.n:Int)/\V.rowp l.p i 1=some [.string (xs.getD i sE)]:=by
 have m:=u.n_eq;have k:(i:Int)<(l.n:Int):=by omega
 obtain⟨y,z,g,w,x,f,j,h⟩:=u.get k;rw[List.getD_eq_getElem?_getD,g];rw[Nat.mul_one]at h;exact⟨f,k,h⟩
theorem c288(h:Ds.Ok V d){sl:Sl}{sc:Sc}{s:KB}{l:Sl}{xs:List KB}(w:Ab V l 1 (xs.map CC)):
  PP 288 [d.v,.agg #[sl.v,.bool sc.body],.string s,l.v] V (.tuple #[.string (FN d sc s xs).1,.int .i64 (FN d sc s xs).2]):=by
 refine x288 ?_;refine⟨λg=>(c264 h w).call ⟨_,_,rfl,λz=>⟨λh1=>?_,λh1=>?_⟩,λz=>?_⟩,λg=>?_⟩;·unfold FN sE;rw[if_pos g,if_pos ⟨z,h1⟩];exact⟨rfl,rfl⟩
 ·unfold FN sE;rw[if_pos g,if_neg (λh=>h1 h.2)];exact⟨rfl,rfl⟩
 ·unfold FN;rw[if_pos g,if_neg (λh=>z h.1)];exact⟨rfl,rfl⟩
 ·unfold FN;rw[if_neg g];refine(c225 h).call ⟨_,rfl,?_⟩;unfold GO meOf;rcases Cu (λt:Ms=>decide (t.name=s)) d.measures with⟨h1,h2,h3⟩|⟨i,x,h1,h2,h3,h4,c,a,e,_⟩;·rw[h1,h2];exact⟨λ_=>⟨rfl,rfl⟩,λh=>absurd h (by decide)⟩
  ·rw[h1,h3];have H:=h.measures.n_eq;have f:(i:Int)<(d.ms.n:Int):=by omega
   obtain⟨y,hm,j,r,q,m,o,u⟩:=h.measures.get f;rw[h2]at j;cases j;have J:=w.n_eq;refine⟨λh=>absurd h (by omega),λ_=>⟨λp=>?_,λp=>?_⟩⟩
   ·have k:xs.length=1:=by omega
    obtain⟨a1,a2,a3⟩:=Fm w (i:=0) (by omega);simp only[k,ne_eq,not_true_eq_false,if_false];exact⟨a1,by omega,by omega,_,a3,m,o,f,Al m,_,_,_,_,_,_,_,u,(c267 h).call ⟨_,rfl,c289.call ⟨_,_,rfl,rfl,rfl⟩⟩⟩
   ·have k:¬xs.length=1:=by omega
    simp only[ne_eq,k,not_false_eq_true,if_true];exact⟨by rfl,by simp_all⟩
end
theorem arity{op n:Int}{s:KB}{len:Int}(h:Dp op n s len=true):(op=5->len=1)/\(op=14∨op=15->len=2)/\(op=21->len=3)/\len<=6:=by
 grind[Dp,Ce]
theorem Jz{d:Int}{e:E}(h:Cs d e=true):Dp e.op e.n e.s e.k.length=true:=by
 cases e;unfold Cs at h;rw[zC,zC]at h;exact h.1.2
theorem okEs_mem{d:Int}:∀{l:List E},okEs d l=true->∀x∈l,Cs d x=true
 |[],_,x,k=>absurd k xQ
 |y::l,h,x,k=>by
  unfold okEs at h;rw[zC]at h;rcases List.mem_cons.1 k with rfl|k;·exact h.1
  ·exact okEs_mem h.2 x k
theorem KG{d:Int}{e:E}(h:Cs d e=true):∀x∈e.k,Cs (d+1) x=true:=by
 cases e;unfold Cs at h;rw[zC]at h;exact okEs_mem h.2
theorem ownS{V0 V:Mem}{s:Sl}{l:List KB}(h:Own V0 V 9 1 s (l.flatMap CC)):Ab V s 1 (l.map CC):=h.rows (λ_=>rfl) (by decide)
theorem IF{V:Mem}{b:Nat}{s:KB}{t:Nat}(h:V b=some (.cells #[.string s] t (0,0))):Ab V ⟨some ⟨b,0,none⟩,1,1⟩ 1 ([s].map CC):=
 Ab.cells (xs:=[s]) (row:=CC) h rfl (λ_=>rfl) rfl (by simp)
def IG(sl:Sl)(sc:Sc):Value:=.agg #[sl.v,.bool sc.body]
section
variable{V:Mem}{d:Ds}{sc:Sc}{sl:Sl}
def RefE(V:Mem)(d:Ds)(sl:Sl)(sc:Sc)(e:E):Prop:=∀V1,V.sub V1->PP 265 [d.v,IG sl sc,e.v] V1 (.tuple #[.string (Aw d sc e).1,.int .i64 (Aw d sc e).2])
theorem refParts(e:E)(G:E.Ok V e)(H:(e.k.length:Int)<=6)(N:∀x∈e.k,RefE V d sl sc x):
  Tri xS 263 #[d.v,IG sl sc,e.v] V λr V'=>∃s':Sl,r=.returned (.tuple #[.slice s'.p s'.n s'.c,.int .i64 (partsT d sc [] e.k).2])/\V.sub V'/\Ab V' s' 1 ((partsT d sc [] e.k).1.map CC):=by
 have Z:=G.rows;refine x263 ?_;refine loop4s (mk:=λs:Sl=>.slice s.p s.n s.c) (mc:=.int .i64) (md:=λs:Sl=>.slice s.p s.n s.c) ⟨none,0,0⟩ 0 ⟨none,0,0⟩ Bb e.k.length (λi s V1=>∃acc,Own V V1 9 1 s (acc.flatMap CC)/\partsT d sc [] e.k=partsT d sc acc (e.k.drop i)/\acc.length=i) ⟨[],Own.nil (Mem.sub.refl _) _ _,rfl,rfl⟩ ?_;rintro i b c s V1 J O ⟨acc,g,f,w⟩ Y;have z:=Z.sub g.sub;refine⟨λy=>?_,λl=>?_⟩
 ·obtain⟨x,hm,A,m,W,q,Q,j⟩:=z.get y;rw[m,HV]at f;refine⟨q,Q,y,_,_,_,_,j,(N x hm V1 g.sub).call ⟨_,_,rfl,λo=>?_,λo=>?_⟩⟩
  ·intro b1 a;rw[if_neg (λh=>h o)]at f;refine IE (s:=s) (u:=⟨some ⟨b1,0,none⟩,1,1⟩) (xs:=acc) (ys:=[(Aw d sc x).1]) rfl rfl (g.new a _) (IF Au) (by simp;omega) λs' V' P=>⟨s',rfl,z.succ y,Y W _ _ _ _ ⟨_,P,f,by simp[w]⟩⟩
  ·rw[if_pos o]at f;exact⟨⟨none,0,0⟩,by rw[f],g.sub,by rw[f];exact Ab.nil⟩
 ·rw[(z.done l).1,ID]at f;exact⟨s,by rw[f],g.sub,by grind[ownS]⟩
set_option maxRecDepth 4000 in
theorem KH(hd:Ds.Ok V d)(I:Ab V sl 2 (sc.vars.map Fld.row)):∀(e:E),E.Ok V e->∀M,Cs M e=true->RefE V d sl sc e:=by
 intro e;induction e using E.ind with
 |h e ih=>
 intro U M Y V1 A;have c:=arity (Jz Y);have hk:∀x∈e.k,RefE V1 d sl sc x:=λx F V2 h2=>ih x F (U.kids x F) (M+1) (KG Y x F) V2 (A.trans h2);refine Bn.mk (x265 ?_);refine Tri.mono (refParts e (U.sub A) c.2.2.2 hk) ?_;rintro _ V2 ⟨s',rfl,v,g⟩;rw[KE];have o:=Mp d sc e.k [];generalize hPT:partsT d sc [] e.k=pt at g o;obtain⟨l,f⟩:=pt;refine⟨s',f,rfl,λz=>?_,λz=>?_⟩
 ·subst z;have o:l.length=e.k.length:=by simp_all
  simp only[ne_eq,not_true_eq_false,if_false];have r:=hd.sub (A.trans v);have W:=I.sub (A.trans v);generalize w:ET d sc e.op e.s l=X;have key:∀a b,X=(a,b)->(xV (.tuple #[.string a,.int .i64 b])=xV (.tuple #[.string X.1,.int .i64 X.2])/\V1.sub V2):=λa b h=>by simp_all
  have i:=λt=>c290 g (s:=t);have u:=λa b=>c267 r (s:=a) (t:=b);have H:=λh:0<l.length=>Fm g h;have at1:=λh:1<l.length=>Fm g h;have at2:=λh:2<l.length=>Fm g h;unfold ET at w;refine⟨λy=>key _ _ ?_,λy=>⟨λj=>key _ _ ?_,λj=>⟨λn=>key _ _ ?_,λn=>⟨λm=>?_,λm=>⟨λq=>?_,λq=>⟨λp=>?_,λp=>⟨λJ=>?_,λJ=>⟨λL=>?_,λL=>⟨λR=>?_,λR=>⟨λB=>?_,λB=>⟨λC=>?_,λC=>⟨λD=>?_,λD=>⟨λK=>?_,λK=>⟨λS=>?_,λS=>⟨λG=>?_,λG=>?_⟩⟩⟩⟩⟩⟩⟩⟩⟩⟩⟩⟩⟩⟩⟩;·rw[<-w,if_pos y];rfl
  ·rw[<-w,if_neg y,if_pos j];rfl
  ·rw[<-w,if_neg y,if_neg j,if_pos n];rfl
  ·rw[if_neg y,if_neg j,if_neg n,if_pos m]at w;refine(c266 W).call ⟨_,rfl,λh=>key _ _ ?_,λh=>key _ _ ?_⟩;·grind[Ca,sE]
   grind[Ca,sE]
  ·rw[if_neg y,if_neg j,if_neg n,if_neg m,if_pos q]at w;obtain⟨a1,a2,a3⟩:=H (by omega);exact⟨a1,by omega,a2,_,a3,(c268 r).call ⟨_,_,rfl,key _ _ (by rw[<-w])⟩⟩
  ·rw[if_neg y,if_neg j,if_neg n,if_neg m,if_neg q,if_pos p]at w;refine⟨λT=>(c226 r).call ⟨_,rfl,λZ=>key _ _ ?_,λZ=>key _ _ ?_⟩,λT=>key _ _ ?_⟩;·simp_all
   ·rw[<-w,if_neg (by rw[T];simp),if_pos (eq_false_of_ne_true Z)];rfl
   ·rw[<-w,if_pos (eq_false_of_ne_true T)];rfl
  ·rw[if_neg y,if_neg j,if_neg n,if_neg m,if_neg q,if_neg p,if_pos J]at w;exact(c288 r (sl:=sl) g).call ⟨_,_,rfl,key _ _ (by rw[<-w])⟩
  iterate 2
   ·rw[if_neg y,if_neg j,if_neg n,if_neg m,if_neg q,if_neg p,if_neg J,if_pos (by omega)]at w;obtain⟨a1,a2,a3⟩:=H (by have:=c.2.1 (by omega);omega);obtain⟨b1,b2,b3⟩:=at1 (by have:=c.2.1 (by omega);omega);refine⟨a1,by omega,a2,_,a3,b1,by omega,b2,_,b3,(u _ _).call ⟨_,rfl,λh=>c289.call ⟨_,_,rfl,key _ _ ?_⟩,λh=>⟨b1,by omega,b2,_,b3,a1,by omega,a2,_,a3,(u _ _).call ⟨_,rfl,c289.call ⟨_,_,rfl,key _ _ ?_⟩⟩⟩⟩⟩;·rw[<-w,h];rfl
    ·rw[<-w,eq_false_of_ne_true h];rfl
  iterate 2
   ·rw[if_neg y,if_neg j,if_neg n,if_neg m,if_neg q,if_neg p,if_neg J,if_neg (by omega),if_pos (by omega)]at w;exact(i _).call ⟨_,rfl,c289.call ⟨_,_,rfl,key _ _ (by rw[<-w];rfl)⟩⟩
  iterate 3
   ·rw[if_neg y,if_neg j,if_neg n,if_neg m,if_neg q,if_neg p,if_neg J,if_neg (by omega),if_neg (by omega),if_pos (by omega)]at w;exact(i _).call ⟨_,rfl,c289.call ⟨_,_,rfl,key _ _ (by rw[<-w];rfl)⟩⟩
  ·rw[if_neg y,if_neg j,if_neg n,if_neg m,if_neg q,if_neg p,if_neg J,if_neg (by omega),if_neg (by omega),if_neg (by omega),if_pos G]at w;obtain⟨a1,a2,a3⟩:=H (by omega);obtain⟨b1,b2,b3⟩:=at1 (by omega);obtain⟨Q,P,c3⟩:=at2 (by omega);have O:∀t,(if l.getD 1 sE=sNil then l.getD 2 sE else l.getD 1 sE)=t ->
     (l.getD 0 sE=AC->BL d (l.getD 1 sE) (l.getD 2 sE)=true->X=Dr true t)/\(l.getD 0 sE=AC->¬BL d (l.getD 1 sE) (l.getD 2 sE)=true->X=Dr (BL d (l.getD 2 sE) (l.getD 1 sE)) t)/\(¬l.getD 0 sE=AC->X=Dr false t):=λt ht=>by
    grind
   refine⟨b1,by omega,b2,_,b3,λZ=>?_,λZ=>?_⟩
   ·have N:=O _ (if_pos Z);refine⟨Q,by omega,P,_,c3,a1,by omega,a2,_,a3,λz=>⟨b1,by omega,b2,_,b3,Q,by omega,P,_,c3,(u _ _).call ⟨_,rfl,λh=>c289.call ⟨_,_,rfl,key _ _ ?_⟩,λh=>⟨Q,by omega,P,_,c3,b1,by omega,b2,_,b3,(u _ _).call ⟨_,rfl,c289.call ⟨_,_,rfl,key _ _ ?_⟩⟩⟩⟩⟩,λz=>c289.call ⟨_,_,rfl,key _ _ ?_⟩⟩;·exact N.1 z h
    ·exact N.2.1 z h
    ·exact N.2.2 z
   ·have N:=O _ (if_neg Z);refine⟨a1,by omega,a2,_,a3,λz=>⟨b1,by omega,b2,_,b3,Q,by omega,P,_,c3,(u _ _).call ⟨_,rfl,λh=>c289.call ⟨_,_,rfl,key _ _ ?_⟩,λh=>⟨Q,by omega,P,_,c3,b1,by omega,b2,_,b3,(u _ _).call ⟨_,rfl,c289.call ⟨_,_,rfl,key _ _ ?_⟩⟩⟩⟩⟩,λz=>c289.call ⟨_,_,rfl,key _ _ ?_⟩⟩;·exact N.1 z h
    ·exact N.2.1 z h
    ·exact N.2.2 z
  ·rw[if_neg y,if_neg j,if_neg n,if_neg m,if_neg q,if_neg p,if_neg J,if_neg (by omega),if_neg (by omega),if_neg (by omega),if_neg G]at w;exact(i _).call ⟨_,rfl,c289.call ⟨_,_,rfl,key _ _ (by rw[<-w];rfl)⟩⟩
 ·simp only[ne_eq,z,not_false_eq_true,if_true];exact⟨rfl,v⟩
end
theorem ownF{V0 V:Mem}{s:Sl}{l:List Fld}(h:Own V0 V 138 2 s (l.flatMap Fld.row)):Ab V s 2 (l.map Fld.row):=h.rows (λ_=>rfl) (by decide)
theorem one_fld{V:Mem}{b:Nat}{f:Fld}{t:Nat}(h:V b=some (.cells #[.string f.name,.string f.ty] t (0,0))):Ab V ⟨some ⟨b,0,none⟩,1,1⟩ 2 ([f].map Fld.row):=
 Ab.cells (xs:=[f]) (row:=Fld.row) h rfl (λ_=>rfl) rfl (by simp)
section
variable{V:Mem}{d:Ds}
def Small(d:Ds):Prop:=d.globals.length<=1000/\∀p∈d.procs,p.params.length<=1000/\p.locals.length<=1000
theorem refInProc(j:Ds.Ok V d){p:Pr}(h:Pr.Ok V p)(h1:d.globals.length<=1000)(h2:p.params.length<=1000/\p.locals.length<=1000):
  Tri xS 262 #[d.v,p.v] V λr V'=>∃s':Sl,r=.returned (IG s' (Av d p))/\V.sub V'/\Ab V' s' 2 ((Av d p).vars.map Fld.row):=by
 refine x262 ?_;intro b i;have k:=Mem.sub_new i (.cells #[] 138 (0,0));refine EU (s:=⟨some ⟨b,0,none⟩,0,0⟩) (u:=p.ps) (xs:=[]) (ys:=p.params) rfl rfl (Own.empty k _ _ _) (h.params.sub k) (by grind) λg V1 f=>⟨g,rfl,?_⟩;refine EU (s:=g) (u:=p.ls) (xs:=p.params) (ys:=p.locals) rfl rfl f (h.locals.sub f.sub) (by omega) λw V2 z=>⟨w,rfl,?_⟩;refine EU (s:=w) (u:=d.gs) (xs:=p.params++p.locals) (ys:=d.globals) rfl rfl z (j.globals.sub z.sub) (by grind) λy l x=>⟨y,rfl,?_⟩;exact⟨y,rfl,x.sub,ownF x⟩
theorem refInBound(z:Ds.Ok V d){p:Pr}(y:Pr.Ok V p)(h1:d.globals.length<=1000)(h2:p.params.length<=1000/\p.locals.length<=1000):
  Tri xS 230 #[d.v,p.v] V λr V'=>∃s':Sl,r=.returned (IG s' (EE d p))/\V.sub V'/\Ab V' s' 2 ((EE d p).vars.map Fld.row):=by
 refine x230 ?_;intro b x;have h:=Mem.sub_new x (.cells #[] 138 (0,0));refine EU (s:=⟨some ⟨b,0,none⟩,0,0⟩) (u:=p.ps) (xs:=[]) (ys:=p.params) rfl rfl (Own.empty h _ _ _) (y.params.sub h) (by grind) λk V1 g=>⟨k,rfl,?_⟩;refine EU (s:=k) (u:=d.gs) (xs:=p.params) (ys:=d.globals) rfl rfl g (z.globals.sub g.sub) (by omega) λf j w=>⟨f,rfl,?_⟩;exact⟨f,rfl,w.sub,ownF w⟩
theorem Mq(f:Ds.Ok V d){t:KB}(h1:d.globals.length<=1000):
  Tri xS 229 #[d.v,.string t] V λr V'=>∃s':Sl,r=.returned (IG s' (BG d t))/\V.sub V'/\Ab V' s' 2 ((BG d t).vars.map Fld.row):=by
 refine x229 ?_;refine⟨λg=>?_,λg=>?_⟩
 ·refine EU (s:=⟨none,0,0⟩) (u:=d.gs) (xs:=[]) (ys:=d.globals) rfl rfl (Own.nil (Mem.sub.refl V) _ _) f.globals (by grind) λh V1 k=>⟨h,rfl,?_⟩;refine⟨h,rfl,k.sub,?_⟩;unfold BG sE;rw[if_pos g];exact ownF k
 ·intro b y;have x:=Mem.sub_new y (.cells #[.string (Ad [116,104,105,115]),.string t] 138 (0,0));refine EU (s:=⟨none,0,0⟩) (u:=⟨some ⟨b,0,none⟩,1,1⟩) (xs:=[]) (ys:=[⟨sThisF,t⟩]) rfl rfl (Own.nil x _ _) (one_fld Au) (by simp) λh V1 k=>⟨h,rfl,?_⟩;refine EU (s:=h) (u:=d.gs) (xs:=[⟨sThisF,t⟩]) (ys:=d.globals) rfl rfl k (f.globals.sub k.sub) (by grind) λw V2 z=>⟨w,rfl,?_⟩;refine⟨w,rfl,z.sub,?_⟩;unfold BG sE;rw[if_neg g];exact ownF z
theorem Ow{op:Int}{s:KB}{es:List E}{nl u:Int}(h:Db op s es nl u=true):(op=6->∃k,es=[k]/\k.op=7)/\(op=1∨op=3∨op=4->es.length=1)/\(op=2->es.length=2)/\(op=5->es.length<=1)/\es.length<=2/\(∀x∈es,Cs 1 x=true):=by
 unfold Db at h;rw[zC]at h;obtain⟨h,hv⟩:=h;have g:∀x∈es,Cs 1 x=true:=λx w=>by
  grind[Bz]
 unfold GM at h;have f:op=6->∃k,es=[k]/\k.op=7:=λf=>by
  subst f;simp only[show ¬((6:Int)=1)by decide,show ¬((6:Int)=2)by decide,show ¬((6:Int)=3)by decide,show ¬((6:Int)=4)by decide,show ¬((6:Int)=5)by decide,if_false,if_true,decide_eq_true_eq]at h
  match es,h with
  |[k],h=>exact⟨k,rfl,h.2.2.1⟩
  |[],h=>simp at h
  |_::_::_,h=>simp at h;omega
 grind
theorem c227(hd:Ds.Ok V d){p:Pr}(hp:Pr.Ok V p)(h1:d.globals.length<=1000)(h2:p.params.length<=1000/\p.locals.length<=1000){x:S}(C:S.Ok V x)(hs:Db x.op x.s x.es x.ls.length x.xs.length=true):
  PP 227 [d.v,p.v,x.v] V (.int .i64 (D9 d (Av d p) p.result x.op x.s x.es)):=by
 obtain⟨a6,a134,a2,a5,alen,Q⟩:=Ow hs;rw[S.v_eq];refine Bn.mk (x227 ?_);refine Tri.mono (refInProc hd hp h1 h2) ?_;rintro _ V1 ⟨sv,rfl,z,o⟩;generalize P:Av d p=sc at o;have K:sc.body=true:=by rw[<-P];rfl
 have a:=hd.sub z;have hf:=KD (C.sub z);refine⟨sv,sc.body,rfl,λD=>?_,λD=>?_⟩
 ·obtain⟨O,e,-⟩:=a6 D;rcases hf with⟨h,-⟩|⟨e0',r,E,hn,A,T,m⟩;·simp_all
  ·rw[e]at E;cases E;have I:=Q O (by rw[e];simp);have M:=(C.sub z).eOk O (by rw[e];simp);have hk:∀y∈O.k,RefE V1 d sv sc y:=λy hy=>KH a o y (M.kids y hy) 2 (KG I y hy);refine⟨A,by omega,by omega,_,_,_,_,m,Tri.mono (refParts O M (arity (Jz I)).2.2.2 hk) ?_⟩;rintro _ V2 ⟨s',rfl,H,g⟩;unfold D9;rw[if_pos D,e];simp only;generalize hPT:partsT d sc [] O.k=pt at g;obtain⟨l,f⟩:=pt;have Z:=H.rowp m;refine⟨s',f,rfl,λq=>⟨A,by omega,by omega,T,_,_,_,_,Z,(c264 (a.sub H) g).call ⟨_,_,rfl,?_,z.trans H⟩⟩,λq=>?_⟩;·simp_all
   ·simp only[q,ne_eq,not_false_eq_true,if_true];exact⟨by trivial,z.trans H⟩
 ·unfold D9;rw[if_neg D];have hr:=(C.sub z).eRows;refine Hg (mk:=.int .i64) (mc:=λs:Sl=>.slice s.p s.n s.c) 0 ⟨none,0,0⟩ Bb x.es.length (λi s V2=>∃acc,Own V1 V2 9 1 s (acc.flatMap CC)/\partsT d sc [] x.es=partsT d sc acc (x.es.drop i)/\acc.length=i) ⟨[],Own.nil (Mem.sub.refl _) _ _,rfl,rfl⟩ ?_;rintro i b s V2 J hi ⟨acc,w,j,Y⟩ hJ;have G:=hr.sub w.sub;refine⟨λW=>?_,λF=>?_⟩
  ·obtain⟨y,hm,hxy,U,hl,hpp,hz,m⟩:=G.get W;rw[U,HV]at j;refine⟨hpp,hz,W,_,_,_,_,m,(KH a o y ((C.sub z).eOk y hm) 1 (Q y hm) V2 w.sub).call ⟨_,_,rfl,λq=>?_,λq=>?_⟩⟩
   ·intro b1 hb1;rw[if_neg (λh=>h q)]at j;refine IE (s:=s) (u:=⟨some ⟨b1,0,none⟩,1,1⟩) (xs:=acc) (ys:=[(Aw d sc y).1]) rfl rfl (w.new hb1 _) (IF Au) (by grind) λs' V' ho=>⟨s',rfl,G.succ W,hJ hl _ _ _ ⟨_,ho,j,by simp[Y]⟩⟩
   ·rw[if_pos q]at j;rw[j];simp only[q,ne_eq,not_false_eq_true,if_true];exact⟨by trivial,z.trans w.sub⟩
  ·have hge':=(G.done F).2;rw[(G.done F).1,ID]at j;rw[j];simp only[ne_eq,not_true_eq_false,if_false];have g:=ownS w;have hal:acc.length=x.es.length:=by omega
   have hsub:=z.trans w.sub;have N:=a.sub w.sub;have L:=o.sub w.sub;have sln:=g.n_eq;have R:=λh:0<acc.length=>Fm g h;have at1:=λh:1<acc.length=>Fm g h;have key:∀X n:Int,X=n->(xV (.int .i64 n)=xV (.int .i64 X)/\V.sub V2):=λX n h=>by simp_all
   refine⟨λo1=>(c266 L).call ⟨_,rfl,λhl=>key _ _ ?_,λhl=>?_⟩,λo1=>⟨λo2=>?_,λo2=>⟨λo3=>?_,λo3=>⟨λo4=>?_,λo4=>⟨λo5=>?_,λo5=>key _ _ ?_⟩⟩⟩⟩⟩;·grind[Ca,sE]
   ·obtain⟨b1,b2,b3⟩:=R (by omega);refine⟨b1,by omega,b2,_,b3,(c267 N).call ⟨_,rfl,λB=>key _ _ ?_,λB=>key _ _ ?_⟩⟩;·grind[Ca,sE]
    grind[Ca,sE]
   ·obtain⟨b1,b2,b3⟩:=R (by omega);obtain⟨c1,c2,c3⟩:=at1 (by omega);rw[if_neg o1,if_pos o2];refine⟨b1,by omega,b2,_,b3,(c268 N).call ⟨_,_,rfl,λB=>⟨c1,by omega,c2,_,c3,(c267 N).call ⟨_,rfl,λhc=>key _ _ ?_,λhc=>key _ _ ?_⟩⟩,λB=>key _ _ ?_⟩⟩;·simp_all
    ·simp_all
    omega
   ·grind[AC]
   ·grind[AC]
   ·have h5:=a5 o5;rw[if_neg o1,if_neg o2,if_neg (by omega),if_pos o5];have rest:¬(acc.length=0)->((s.n:Int)=1)/\¬(s.p=none)/\(0:Int)<(s.n:Int)/\V2.rowp s.p 0 1=some [.string (acc.getD 0 sE)]:=λh=>by
     grind
    refine⟨λhn=>?_,λhn=>?_⟩;·grind[sE,absurd]
    ·have q:¬acc.length=0:=by omega
     obtain⟨r1,r2,r3,r4⟩:=rest q;rw[if_neg q];refine⟨λ_=>⟨λE=>key _ _ (by grind[sE]),λE=>⟨r2,by omega,r3,_,r4,(c267 N).call ⟨_,rfl,λB=>key _ _ ?_,λB=>key _ _ ?_⟩⟩⟩,λh=>absurd r1 h⟩;·grind[sE]
     simp_all
   omega
end
theorem okS_shape{d:Int}{x:S}(h:El d x=true):Db x.op x.s x.es x.ls.length x.xs.length=true/\CD (d+1) x.ls=true/\CD (d+1) x.xs=true:=by
 cases x;unfold El at h;rw[zC,zC,zC]at h;exact⟨h.1.1.2,h.1.2,h.2⟩
theorem Mr{d:Int}:∀{l:List S},CD d l=true->∀x∈l,El d x=true
 |[],_,x,k=>absurd k xQ
 |y::l,h,x,k=>by
  unfold CD at h;rw[zC]at h;rcases List.mem_cons.1 k with rfl|k;·exact h.1
  ·exact Mr h.2 x k
theorem szS_eq(x:S):EB x=1+Cv x.ls+Cv x.xs:=by cases x;unfold EB;rfl
theorem Mt(x:S)(l:List S):Cv (x::l)=EB x+Cv l:=by rw[Cv]
mutual
theorem stT_n(d:Ds)(sc:Sc)(result:KB)(n:Int):∀x:S,(stT d sc result n x).2=0->(stT d sc result n x).1=n+EB x
 |.mk op s _ es _ ls _ xs=>by
  have h1:=HY d sc result (n+1) ls;have h2:=HY d sc result (AF d sc result (n+1) ls).1 xs;grind[stT,EB,absurd]
theorem HY(d:Ds)(sc:Sc)(result:KB)(n:Int):∀l:List S,(AF d sc result n l).2=0->(AF d sc result n l).1=n+Cv l
 |[]=>by simp[AF,Cv]
 |x::xs=>by
  have h1:=stT_n d sc result n x;have h2:=HY d sc result (stT d sc result n x).1 xs;rw[KF,Mt];grind
end
theorem BA{α β:Type}{f:Nat->α->Option β}{i:Nat}{x:α}{xs:List α}{b:β}(h:f i x=some b):Ao f i (x::xs)=some b:=by unfold Ao;rw[h]
theorem BS{α β:Type}{f:Nat->α->Option β}{i:Nat}{x:α}{xs:List α}(h:f i x=none):Ao f i (x::xs)=Ao f (i+1) xs:=by rw[Ao,h]
section
variable{V:Mem}{d:Ds}
def RefS(V:Mem)(d:Ds)(p:Pr)(l:List S):Prop:=∀(sl:Sl)(n h:Int),Ab V sl 5 (l.map S.row)->(∀x∈l,S.Ok V x)->CD h l=true->0<=n->n+Cv l<=1000->
 PP 187 [d.v,p.v,sl.v,.int .i64 n] V (.tuple #[.int .i64 (AF d (Av d p) p.result n l).1,.int .i64 (AF d (Av d p) p.result n l).2])
theorem refStep(I:Ds.Ok V d){p:Pr}(M:Pr.Ok V p)(h1:d.globals.length<=1000)(h2:p.params.length<=1000/\p.locals.length<=1000){l:List S}(Y:∀x∈l,RefS V d p x.ls/\RefS V d p x.xs):RefS V d p l:=by
 intro sl n W m r y q o;refine x187 ?_;generalize w:Av d p=sc;refine loop4s (mk:=.int .i64) (mc:=.int .i64) (md:=.int .i64) 0 0 n BX l.length (λi at_ V1=>V=V1/\0<=at_/\at_+Cv (l.drop i)<=1000/\AF d sc p.result n l=AF d sc p.result at_ (l.drop i)) ⟨rfl,q,o,rfl⟩ ?_;rintro i b c a V1 J D ⟨rfl,F,e,z⟩ L;refine⟨λg=>?_,λv=>?_⟩
 ·obtain⟨x,hm,E,j,R,f,H,k⟩:=m.get g;have k:=S.row_get k;have u:=r x hm;obtain⟨G,N,Z⟩:=okS_shape (Mr y x hm);rw[j,Mt,szS_eq]at e;rw[j,KF,stT_eq]at z;have Q:=c227 I M h1 h2 u G;rw[w,S.v_eq]at Q;refine⟨f,H,g,_,_,_,_,_,k,Q.call ⟨_,rfl,λP=>?_,λP=>?_⟩⟩
  ·have X:¬(D9 d sc p.result x.op x.s x.es≠0):=λh=>h P;rw[if_neg X]at z;have O:=(Y x hm).1 x.ll (a+1) (W+1) u.lRows u.lOk N (by omega) (by omega);rw[w]at O;refine⟨f,H,g,Al f,_,_,_,_,_,k,⟨by omega,by omega⟩,O.call ⟨_,_,rfl,λh3=>?_,λh3=>?_⟩⟩
   ·have B:¬((AF d sc p.result (a+1) x.ls).2≠0):=λh=>h h3;rw[if_neg B]at z;have K:=HY d sc p.result (a+1) x.ls h3;have A:=(Y x hm).2 x.xl (AF d sc p.result (a+1) x.ls).1 (W+1) u.xRows u.xOk Z (by omega) (by omega);rw[w]at A;refine⟨f,H,g,Al f,_,_,_,_,_,k,A.call ⟨_,_,rfl,λh4=>?_,λh4=>?_⟩⟩
    ·rw[if_neg (λh=>h h4)]at z;have C:=HY d sc p.result _ x.xs h4;exact⟨m.succ g,L R _ _ _ _ ⟨rfl,by omega,by omega,z⟩⟩
    simp_all
   simp_all
  simp_all
 ·rw[(m.done v).1,stsT_nil]at z;simp_all
theorem refStmts(k:Ds.Ok V d){p:Pr}(g:Pr.Ok V p)(h1:d.globals.length<=1000)(h2:p.params.length<=1000/\p.locals.length<=1000)(l:List S):RefS V d p l:=by
 have f:∀s:S,RefS V d p s.ls/\RefS V d p s.xs:=by
  intro s;induction s using S.ind with
  |h s u w=>grind[refStep]
 grind[refStep]
theorem c223(e:Ds.Ok V d){l:Sl}{xs:List Fld}(r:Ab V l 2 (xs.map Fld.row)){i:Nat}{f:Fld}(p:xs[i]?=some f):PP 223 [d.v,l.v,.int .i64 i] V (.int .i64 (BN d xs i f)):=by
 refine x223 ?_;have O:=r.n_eq;have s:=(yj.1 p).1;have z:(i:Int)<(l.n:Int):=by omega
 obtain⟨A,hm,c,H,-,u,a,w⟩:=r.get z;rw[p]at c;cases c;refine AE i (λk V1=>V=V1/\∀j g,j<k->xs[j]?=some g->¬(g.name=f.name)) ⟨rfl,λ_ _ h=>absurd h (xq _)⟩ ?_;rintro k b V1 J I ⟨rfl,M⟩ G;refine⟨λN=>?_,λN=>?_⟩
 ·obtain⟨g,Z,Y,W,Q,m,q,x⟩:=r.get (i:=k) (by omega);refine⟨m,q,by omega,Al m,_,_,x,u,a,z,Al u,_,_,w,λo=>?_,λo=>⟨r.succ (by omega),G (by omega) _ _ ⟨rfl,λj y F L=>?_⟩⟩⟩
  ·have:(xs.take i).any (λg=>decide (g.name=f.name))=true:=xp.2 ⟨g,by
    grind[xn,yj],decide_eq_true o⟩
   unfold BN;rw[if_pos this];exact⟨rfl,rfl⟩
  grind
 ·have:¬(xs.take i).any (λg=>decide (g.name=f.name))=true:=λh=>by
   obtain⟨g,P,o⟩:=xp.1 h;rw[xn]at P;grind
  unfold BN;rw[if_neg this];refine⟨u,a,z,Al u,_,_,w,(c224 e).call ⟨_,rfl,λh=>?_,λh=>?_⟩⟩;·simp_all
  simp_all
theorem c222(m:Ds.Ok V d){l:Sl}{xs:List Fld}(w:Ab V l 2 (xs.map Fld.row)):PP 222 [d.v,l.v] V (.int .i64 (Cw d xs)):=by
 refine x222 ?_;unfold Cw;generalize c:(λi f=>if BN d xs i f≠0 then some (BN d xs i f)else none)=fn;refine AE xs.length (λk V1=>V=V1/\Ao fn 0 xs=Ao fn k (xs.drop k)) ⟨rfl,rfl⟩ ?_;rintro k b V1 J a ⟨rfl,u⟩ r;refine⟨λz=>?_,λz=>?_⟩
 ·obtain⟨g,q,y,x,j,o,p,n⟩:=w.get z;rw[x]at u;refine(c223 m w y).call ⟨_,rfl,λh=>?_,λh=>?_⟩
  ·rw[BS (by grind)]at u;exact⟨w.succ z,r j _ _ ⟨rfl,u⟩⟩
  ·rw[BA (b:=BN d xs k g) (by grind)]at u;simp_all
 ·rw[(w.done z).1,Ao]at u;simp_all
theorem c228(f:Ds.Ok V d){sl:Sl}{sc:Sc}(k:Ab V sl 2 (sc.vars.map Fld.row)){e:E}(u:E.Ok V e)(g:Cs 1 e=true){t:KB}:PP 228 [d.v,IG sl sc,e.v,.string t] V (.int .i64 (BB d sc e t)):=by
 refine x228 ?_;unfold BB;refine(KH f k e u 1 g V (Mem.sub.refl _)).call ⟨_,_,rfl,λh=>⟨λh1=>?_,λh1=>?_⟩,λh=>?_⟩;·simp_all
 ·simp_all
 simp_all
def AG(s:KB):Bool:=decide (s=Am)||decide (s=AC)
def EF(p:Pr):Bool:=p.params.all (λf=>AG f.ty)&&(decide (p.result=sE)||AG p.result)
end
theorem idx_lt{α:Type}{p:α->Bool}{xs:List α}{i:Nat}{x:α}(h:xs[i]?=some x)(k:p x=true):(BH p xs<(i:Int)↔(xs.take i).any p=true)/\0<=BH p xs:=by
 rcases Cu p xs with⟨h1,h2,h3⟩|⟨j,y,h1,h2,h3,h4,g,f,u,w⟩;·grind
 grind[xp,xn,yj,Nat.lt_or_ge,xo]
section
variable{V:Mem}{d:Ds}
def f2(o:Option Flt):Value:=.tuple #[.string (fltR o).1,.int .i64 (fltR o).2.2]
theorem c184(y:Ds.Ok V d):PP 184 [d.v] V (f2 (Ge d)):=by
 refine x184 ?_;unfold Ge;have key:∀{X:Option Flt}(s:KB)(n:Int),X=some (s,-1,n)->(xV (.tuple #[.string s,.int .i64 n])=xV (f2 X)/\V=V):=λs n h=>by rw[h];exact⟨rfl,rfl⟩
 unfold types1;generalize a:(λi (t:Ty)=>if(d.types.take i).any (λg=>decide (g.name=t.name))=true then some ((t.name,-1,10):Flt)else none)=F1;refine DJ d.types.length (λk V1=>V=V1/\Ao F1 0 d.types=Ao F1 k (d.types.drop k)) ⟨rfl,rfl⟩ ?_;rintro k b c V1 J o ⟨rfl,z⟩ m;refine⟨λw=>?_,λw=>?_⟩
 ·obtain⟨g,hm,q,j,r,x,l,u⟩:=y.types.get w;have e:=(idx_lt (p:=λt:Ty=>decide (t.name=g.name)) q (by simp)).1;rw[j]at z;refine⟨x,l,w,Al x,_,_,u,(HX y).call ⟨_,rfl,λh=>⟨x,l,w,Al x,_,_,u,key _ _ ?_⟩,λh=>⟨y.types.succ w,m r _ _ _ ⟨rfl,?_⟩⟩⟩⟩;·rw[z,BA (b:=(g.name,-1,10)) (by grind)];rfl
  ·rw[z,BS (by grind)]
 rw[(y.types.done w).1,Ao]at z;rw[z,xm];unfold types2;generalize H:(λ(_:Nat) (t:Ty)=>if Cw d t.fields≠0 then some ((t.name,-1,Cw d t.fields):Flt)else none)=F2;refine DJ d.types.length (λk V1=>V=V1/\Ao F2 0 d.types=Ao F2 k (d.types.drop k)) ⟨rfl,rfl⟩ ?_;rintro k b c V1 J o ⟨rfl,z⟩ m;refine⟨λw=>?_,λw=>?_⟩
 ·obtain⟨g,hm,q,j,r,x,l,u⟩:=y.types.get w;rw[j]at z;refine⟨x,l,w,Al x,_,_,u,(c222 y (y.typesOk g hm).fields).call ⟨_,rfl,λh=>⟨y.types.succ w,m r _ _ _ ⟨rfl,?_⟩⟩,λh=>⟨x,l,w,Al x,_,_,u,key _ _ ?_⟩⟩⟩;·rw[z,BS (by grind)]
  ·rw[z,BA (b:=(g.name,-1,Cw d g.fields)) (by grind)];rfl
 rw[(y.types.done w).1,Ao]at z;rw[z,xm];unfold types3;generalize G:(λi (f:Fld)=>if BN d d.globals i f≠0 then some ((f.name,-1,BN d d.globals i f):Flt)else none)=F3;refine DJ d.globals.length (λk V1=>V=V1/\Ao F3 0 d.globals=Ao F3 k (d.globals.drop k)) ⟨rfl,rfl⟩ ?_;rintro k b c V1 J o ⟨rfl,z⟩ m;refine⟨λw=>?_,λw=>?_⟩
 ·obtain⟨g,hm,q,j,r,x,l,u⟩:=y.globals.get w;rw[j]at z;refine(c223 y y.globals q).call ⟨_,rfl,λh=>⟨y.globals.succ w,m r _ _ _ ⟨rfl,?_⟩⟩,λh=>⟨x,l,w,Al x,_,_,u,key _ _ ?_⟩⟩;·rw[z,BS (by grind)]
  ·rw[z,BA (b:=(g.name,-1,BN d d.globals k g)) (by grind)]
 rw[(y.globals.done w).1,Ao]at z;rw[z];exact⟨rfl,rfl⟩
theorem c185(A:Ds.Ok V d)(q:Small d):PP 185 [d.v] V (f2 (E5 d)):=by
 refine Bn.mk (x185 ?_);unfold E5;generalize x:(λi (p:Pr)=>if(d.procs.take i).any (λg=>decide (g.name=p.name))=true then some ((p.name,-1,10):Flt)else if Cw d (p.params++p.locals)≠0 then some (p.name,-1,Cw d (p.params++p.locals))else if p.result≠sE/\Bt d p.result=false then some (p.name,-1,9)else none)=F1;refine DJ d.procs.length (λk V1=>V.sub V1/\Ao F1 0 d.procs=Ao F1 k (d.procs.drop k)) ⟨Mem.sub.refl _,rfl⟩ ?_;rintro k b c V1 J R ⟨r,z⟩ N;have f:=A.sub r;have key:∀{X:Option Flt}(V2:Mem)(s:KB)(n:Int),V.sub V2->X=some (s,-1,n)->(xV (.tuple #[.string s,.int .i64 n])=xV (f2 X)/\V.sub V2):=λV2 s n h2 h=>by rw[h];exact⟨rfl,h2⟩
 refine⟨λy=>?_,λy=>?_⟩
 ·obtain⟨g,hm,I,o,Z,M,F,j⟩:=f.procs.get y;have a:=(idx_lt (p:=λt:Pr=>decide (t.name=g.name)) I (by simp)).1;have Y:=f.procsOk g hm;have B:=q.2 g hm;rw[o]at z;refine⟨M,F,y,_,_,_,_,_,j,(Ho f).call ⟨_,rfl,λh=>key _ _ _ r ?_,λh=>?_⟩⟩;·rw[z,BA (b:=(g.name,-1,10)) (by grind)]
  intro b1 H;have l:=Mem.sub_new H (.cells #[] 138 (0,0));refine EU (s:=⟨some ⟨b1,0,none⟩,0,0⟩) (u:=g.ps) (xs:=[]) (ys:=g.params) rfl rfl (Own.empty l _ _ _) (Y.params.sub l) (by simp;omega) λW C Q=>⟨W,rfl,?_⟩;refine EU (s:=W) (u:=g.ls) (xs:=g.params) (ys:=g.locals) rfl rfl Q (Y.locals.sub Q.sub) (by omega) λL D G=>⟨L,rfl,?_⟩;have m:=f.sub G.sub;have w:=r.trans G.sub;have P:¬(d.procs.take k).any (λt=>decide (t.name=g.name))=true:=λe=>h (a.2 e);refine(c222 m (ownF G)).call ⟨_,rfl,λh2=>?_,λh2=>key _ _ _ w ?_⟩
  ·have O:¬(Cw d (g.params++g.locals)≠0):=λe=>e h2;refine⟨λh3=>⟨f.procs.succ y,N Z _ _ _ ⟨w,?_⟩⟩,λh3=>(c224 m).call ⟨_,rfl,λh4=>⟨f.procs.succ y,N Z _ _ _ ⟨w,?_⟩⟩,λh4=>key _ _ _ w ?_⟩⟩;·rw[z,BS (by rw[<-x];exact(if_neg P).trans ((if_neg O).trans (if_neg λe=>e.1 h3)))]
   ·rw[z,BS (by grind)]
   ·rw[z,BA (b:=(g.name,-1,9)) (by rw[<-x];exact(if_neg P).trans ((if_neg O).trans (if_pos ⟨h3,eq_false_of_ne_true h4⟩)))]
  ·rw[z,BA (b:=(g.name,-1,Cw d (g.params++g.locals))) (by grind)]
 ·rw[(f.procs.done y).1,Ao]at z;rw[z];exact⟨rfl,r⟩
end
theorem Ox{α:Type}{p:α->Bool}{xs:List α}{i k:Nat}{g:α}(f:xs[k]?=some g)(u:k<i)(h:p g=true):(xs.take i).any p=true:=
 xp.2 ⟨g,by grind[xn,yj],h⟩
theorem Oy{α:Type}{p:α->Bool}{xs:List α}{i:Nat}(h:∀j g,j<i->xs[j]?=some g->¬p g=true):¬(xs.take i).any p=true:=λf=>by
 obtain⟨g,k,u⟩:=xp.1 f;rw[xn]at k;obtain⟨j,w,e⟩:=k;exact h j g (by omega) (by grind) u
section
variable{V:Mem}{d:Ds}
theorem c186(z:Ds.Ok V d):PP 186 [d.v] V (f2 (DS d)):=by
 refine x186 ?_;unfold DS;have key:∀{X:Option Flt}(s:KB)(n:Int),X=some (s,-1,n)->(xV (.tuple #[.string s,.int .i64 n])=xV (f2 X)/\V=V):=λs n h=>by rw[h];exact⟨rfl,rfl⟩
 unfold form1;generalize U:(λi (m:Ms)=>if(d.measures.take i).any (λg=>decide (g.name=m.name))=true then some ((m.name,-1,10):Flt)else if Cg d m.ty=false then some (m.name,-1,9)else none)=F1;refine DJ d.measures.length (λk V1=>V=V1/\Ao F1 0 d.measures=Ao F1 k (d.measures.drop k)) ⟨rfl,rfl⟩ ?_;rintro k b c V1 J A ⟨rfl,w⟩ Z;refine⟨λu=>?_,λu=>?_⟩
 ·obtain⟨g,hm,L,o,Y,l,r,f⟩:=z.measures.get u;have hlt:=(idx_lt (p:=λt:Ms=>decide (t.name=g.name)) L (by simp)).1;rw[o]at w;have q:=Al (n:=k*7) l;refine⟨l,r,u,q,_,_,_,_,_,_,_,f,(c225 z).call ⟨_,rfl,λh=>⟨l,r,u,q,_,_,_,_,_,_,_,f,key _ _ ?_⟩,λh=>⟨l,r,u,q,_,_,_,_,_,_,_,f,(c226 z).call ⟨_,rfl,λh2=>⟨z.measures.succ u,Z Y _ _ _ ⟨rfl,?_⟩⟩,λh2=>⟨l,r,u,q,_,_,_,_,_,_,_,f,key _ _ ?_⟩⟩⟩⟩⟩;·rw[w,BA (b:=(g.name,-1,10)) (by grind)];rfl
  ·rw[w,BS (by grind)]
  ·rw[w,BA (b:=(g.name,-1,9)) (by grind)];rfl
 rw[(z.measures.done u).1,Ao]at w;rw[w,xm];unfold form2;generalize W:(λi (m:Iv)=>if(d.invs.take i).any (λg=>decide (g.name=m.name))=true then some ((m.name,-1,10):Flt)else if m.ty≠sE/\Cg d m.ty=false then some (m.name,-1,9)else none)=F2;refine DJ d.invs.length (λk V1=>V=V1/\Ao F2 0 d.invs=Ao F2 k (d.invs.drop k)) ⟨rfl,rfl⟩ ?_;rintro k b c V1 J A ⟨rfl,w⟩ Z;refine⟨λu=>?_,λu=>?_⟩
 ·obtain⟨g,hm,L,o,Y,l,r,f⟩:=z.invs.get u;rw[o]at w;have q:=Al (n:=k*6) l;refine DJ k (λj V1=>V=V1/\∀H G,H<j->d.invs[H]?=some G->¬decide (G.name=g.name)=true) ⟨rfl,λ_ _ h=>absurd h (xq _)⟩ ?_;rintro j b c V1 J1 A ⟨rfl,R⟩ Q;refine⟨λB=>?_,λB=>?_⟩
  ·obtain⟨G,C,P,I,D,N,O,a⟩:=z.invs.get (i:=j) (by omega);refine⟨N,O,by omega,Al N,_,_,_,_,_,_,a,l,r,u,q,_,_,_,_,_,_,f,λM=>⟨l,r,u,q,_,_,_,_,_,_,f,key _ _ ?_⟩,λM=>⟨z.invs.succ (by omega),Q (by omega) _ _ _ ⟨rfl,λH y E hy=>?_⟩⟩⟩;·rw[w,BA (b:=(g.name,-1,10)) (by rw[<-W];exact if_pos (Ox P (by omega) (decide_eq_true M)))];rfl
   grind
  ·have K:=Oy (i:=k) (λH G h'=>R H G (by omega));refine⟨l,r,u,q,_,_,_,_,_,_,f,λh3=>⟨z.invs.succ u,Z Y _ _ _ ⟨rfl,?_⟩⟩,λh3=>⟨l,r,u,q,_,_,_,_,_,_,f,(c226 z).call ⟨_,rfl,λh2=>⟨z.invs.succ u,Z Y _ _ _ ⟨rfl,?_⟩⟩,λh2=>⟨l,r,u,q,_,_,_,_,_,_,f,key _ _ ?_⟩⟩⟩⟩;·rw[w,BS (by rw[<-W];exact(if_neg K).trans (if_neg λe=>e.1 h3))]
   ·rw[w,BS (by grind)]
   ·rw[w,BA (b:=(g.name,-1,9)) (by rw[<-W];exact(if_neg K).trans (if_pos ⟨h3,eq_false_of_ne_true h2⟩))];rfl
 rw[(z.invs.done u).1,Ao]at w;rw[w,xm];unfold form3;generalize F:(λ(_:Nat) (m:Po)=>if m.ty≠sE/\Cg d m.ty=false then some ((sPot,-1,9):Flt)else none)=F3;refine DJ d.pots.length (λk V1=>V=V1/\Ao F3 0 d.pots=Ao F3 k (d.pots.drop k)) ⟨rfl,rfl⟩ ?_;rintro k b c V1 J A ⟨rfl,w⟩ Z;refine⟨λu=>?_,λu=>?_⟩
 ·obtain⟨g,hm,L,o,Y,l,r,f⟩:=z.pots.get u;rw[o]at w;have q:=Al (n:=k*5) l;refine⟨l,r,u,q,_,_,_,_,_,f,λh3=>⟨z.pots.succ u,Z Y _ _ _ ⟨rfl,?_⟩⟩,λh3=>⟨l,r,u,q,_,_,_,_,_,f,(c226 z).call ⟨_,rfl,λh2=>⟨z.pots.succ u,Z Y _ _ _ ⟨rfl,?_⟩⟩,λh2=>key _ _ ?_⟩⟩⟩;·rw[w,BS (by rw[<-F];exact if_neg λe=>e.1 h3)]
  ·rw[w,BS (by grind)]
  ·rw[w,BA (b:=(sPot,-1,9)) (by rw[<-F];exact if_pos ⟨h3,eq_false_of_ne_true h2⟩)];rfl
 rw[(z.pots.done u).1,Ao]at w;rw[w,xm];unfold form4;generalize S:(λi (b:Bd)=>if(Ch d b.proc).isNone=true then some ((b.proc,-1,9):Flt)else if(d.bounds.take i).any (λg=>decide (g.proc=b.proc))=true then some (b.proc,-1,10)else none)=F4;refine DJ d.bounds.length (λk V1=>V=V1/\Ao F4 0 d.bounds=Ao F4 k (d.bounds.drop k)) ⟨rfl,rfl⟩ ?_;rintro k b c V1 J A ⟨rfl,w⟩ Z;refine⟨λu=>?_,λu=>?_⟩
 ·obtain⟨g,hm,L,o,Y,l,r,f⟩:=z.bounds.get u;rw[o]at w;have q:=Al (n:=k*5) l;refine⟨l,r,u,q,_,_,_,_,_,f,(Ho z).call ⟨_,rfl,?_⟩⟩;rcases Cu (λt:Pr=>decide (t.name=g.proc)) d.procs with⟨T,i2,i3⟩|⟨i,x,T,i2,i3,i4,i5,i6,i7,_⟩
  ·rw[T];refine⟨λ_=>⟨l,r,u,q,_,_,_,_,_,f,key _ _ ?_⟩,λh=>absurd h (by decide)⟩;rw[w,BA (b:=(g.proc,-1,9)) (by grind[Ch])]
  ·rw[T];have n0:¬(Ch d g.proc).isNone=true:=by grind[Ch]
   refine⟨λh=>absurd h (by omega),λ_=>?_⟩;refine DJ k (λj V1=>V=V1/\∀H G,H<j->d.bounds[H]?=some G->¬decide (G.proc=g.proc)=true) ⟨rfl,λ_ _ h=>absurd h (xq _)⟩ ?_;rintro j b c V1 J1 A ⟨rfl,R⟩ Q;refine⟨λB=>?_,λB=>?_⟩
   ·obtain⟨G,C,P,I,D,N,O,a⟩:=z.bounds.get (i:=j) (by omega);refine⟨N,O,by omega,Al N,_,_,_,_,_,a,l,r,u,q,_,_,_,_,_,f,λM=>⟨l,r,u,q,_,_,_,_,_,f,key _ _ ?_⟩,λM=>⟨z.bounds.succ (by omega),Q (by omega) _ _ _ ⟨rfl,λH y E hy=>?_⟩⟩⟩;·rw[w,BA (b:=(g.proc,-1,10)) (by rw[<-S];exact(if_neg n0).trans (if_pos (Ox P (by omega) (decide_eq_true M))))]
    grind
   ·have K:=Oy (i:=k) (λH G h'=>R H G (by omega));exact⟨z.bounds.succ u,Z Y _ _ _ ⟨rfl,by rw[w,BS (by grind)]⟩⟩
 rw[(z.bounds.done u).1,Ao]at w;rw[w];exact⟨rfl,rfl⟩
end
end Go.Proofs
