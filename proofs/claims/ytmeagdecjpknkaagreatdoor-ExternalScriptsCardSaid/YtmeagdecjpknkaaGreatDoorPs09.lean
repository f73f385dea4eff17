/- Part 9: no statement of the seat is proved here. -/
import Derived.Test.YtmeagdecjpknkaaGreatDoorPs08
set_option linter.unusedVariables false
set_option linter.unusedSimpArgs false
open Nat renaming lt_succ_iff_lt_or_eq->xR
open Go.Ending renaming returned->xH
open And renaming intro->xS
open Go.Proofs.Tryz renaming prog->xE
open List renaming getElem?_eq_some_iff->yv,any_eq_not_all_not->xU,mem_iff_getElem->yd,getElem?_eq_getElem->yu,length_cons->zy,findIdx?_eq_some_iff_getElem->yg,getElem_mem->yo
open Bool renaming true_and->xT,false_and->xV,and_eq_true->zC
namespace Go.Proofs
open Go Go.Sx
attribute [local irreducible] Go.Sx.Tri
theorem c165{V:Mem}[Tab V]{s:KB}:PP 165 [.string s] V (.bool (qAX s)):=by
 refine x165 ?_;refine⟨λh=>?_,λh=>⟨λh1=>?_,λh1=>?_⟩⟩;·subst h;exact⟨rfl,rfl⟩
 ·grind[qAX]
 ·have h0:s.size≠0:=λe=>h (by
   have:s.data=#[]:=Array.eq_empty_of_size_eq_zero e;cases s;simp only at this;subst this;rfl)
  refine⟨by omega,c200.call ⟨_,rfl,λh2=>?_,λh2=>?_⟩⟩
  ·refine(c201 inferInstance).call ⟨_,rfl,λg=>?_,λg=>?_⟩;·simp[qAX,g]
   ·refine qAM s.size (λi V1=>V1=V/\∀j:Nat,j<i->qFn (qBj s j)=true) ⟨rfl,by simp⟩ ?_;rintro i b _ J x ⟨rfl,f⟩ u;refine⟨λw=>⟨by omega,c200.call ⟨_,rfl,λhw=>?_,λhw=>⟨⟨by omega,by omega⟩,u (by omega) _ _ ⟨rfl,λj k=>?_⟩⟩⟩⟩,λz=>?_⟩
    ·rw[cls_word]at hw;grind[qFn,qBj,qAX]
    ·rcases xR.1 k with y|rfl;·exact f j y
     simp_all[cls_word]
    grind[Nat,qFn,qBj,qAX,isKw,decide_eq_true,cls_two]
  grind[cls_two,qCx,qBj,qAX]
/-! Nodes. -/
def qAW(op:Int):Int:=if(1<=op/\op<=4)∨op=6 then 0 else if op=5∨op=8∨op=18∨op=24 then 1 else if op=7 then -1 else if op=21 then 3 else if 9<=op/\op<=23 then 2 else -2
theorem c213{V:Mem}{op:Int}:PP 213 [.int .i64 op] V (.int .i64 (qAW op)):=by
 refine x213 ?_;have key:∀n:Int,qAW op=n->xH (.int .i64 n)=xH (.int .i64 (qAW op)):=λn h=>by rw[h]
 unfold qAW at key
 repeat' (first|intro _|apply xS)
 all_goals first|rfl|(refine key _ ?_;grind)
theorem c280{V:Mem}{op:Int}:PP 280 [.int .i64 op] V (.tuple #[.int .i64 (if qAW op=-2 then 2 else qAW op),.bool (decide (qAW op≠-2))]):=by
 refine x280 ?_;have key:∀(n:Int)(b:Bool),(if qAW op=-2 then 2 else qAW op)=n->decide (qAW op≠-2)=b->xH (.tuple #[.int .i64 n,.bool b])=xH (.tuple #[.int .i64 (if qAW op=-2 then 2 else qAW op),.bool (decide (qAW op≠-2))]):=λn b h k=>by rw[h,k]
 unfold qAW at key
 repeat' (first|intro _|apply xS)
 all_goals first|rfl|(refine key _ _ ?_ ?_<;>grind)
def sThis:KB:=qAo [116,104,105,115]
def nmB(op:Int)(s:KB):Bool:=if op=4 then decide (s=sThis)||qAX s else if op=5∨op=6∨op=7 then qAX s else decide (s=qAo [])
def numB(op n:Int):Bool:=if op=1 then decide (0<=n/\n<=1099511627776)else if op=2 then decide (n=0∨n=1)else decide (n=0)
def qDR(op n:Int)(s:KB)(len:Int):Bool:=decide (qAW op≠-2/\(0<=qAW op->len=qAW op)/\(qAW op=-1->len<=6))&&nmB op s&&numB op n
theorem c214{V:Mem}{e:E}:PP 214 [e.v] V (.bool (nmB e.op e.s)):=by
 refine x214 ?_;have key:∀b:Bool,nmB e.op e.s=b->xH (.bool b)=xH (.bool (nmB e.op e.s)):=λn h=>by rw[h]
 unfold nmB sThis at key
 repeat' (first|refine c66.call ⟨_,rfl,?_⟩|intro _|apply xS)
 all_goals first|rfl|(refine key _ ?_;grind)
theorem c281{V:Mem}[Tab V]{e:E}:PP 281 [e.v] V (.bool (nmB e.op e.s&&numB e.op e.n)):=by
 refine x281 ?_;have key:∀b:Bool,(nmB e.op e.s&&numB e.op e.n)=b->xH (.bool b)=xH (.bool (nmB e.op e.s&&numB e.op e.n)):=λn h=>by rw[h]
 unfold nmB numB sThis at key
 repeat' (first|refine c165.call ⟨_,rfl,?_⟩|intro _|apply xS)
 all_goals first|rfl|(refine key _ ?_;grind)
theorem c181{V:Mem}{e:E}{len:Int}(k:(e.l.n:Int)=len):PP 181 [e.v] V (.bool (qDR e.op e.n e.s len)):=by
 refine x181 ?_;rw[k];have key:∀b:Bool,qDR e.op e.n e.s len=b->xH (.bool b)=xH (.bool (qDR e.op e.n e.s len)):=λn h=>by rw[h]
 unfold qDR numB at key;refine c213.call ⟨_,rfl,?_⟩
 repeat' (first|refine(c214 (e:=e)).call ⟨_,rfl,?_⟩|intro _|apply xS)
 all_goals first|rfl|(refine key _ ?_;grind)
mutual
def okE(d:Int):E->Bool|.mk op n s _ k=>decide (d<=60)&&qDR op n s k.length&&okEs (d+1) k
def okEs(d:Int):List E->Bool|[]=>true|x::xs=>okE d x&&okEs d xs
end
mutual
def szE:E->Nat|.mk _ _ _ _ k=>1+szEs k
def szEs:List E->Nat|[]=>0|x::xs=>szE x+szEs xs
end
mutual
def cntE(d:Int):E->Int|.mk op n s _ k=>if 60<d then 1001 else if qDR op n s k.length=true then qFr (d+1) 1 k else 1001
def qFr(d acc:Int):List E->Int|[]=>acc|x::xs=>if 1000<acc+cntE d x then acc+cntE d x else qFr d (acc+cntE d x) xs
end
mutual
def vE(left d:Int):E->Bool×Int|.mk op n s _ k=>if 0<=left-1/\d<=60/\qDR op n s k.length=true then vEs (left-1) (d+1) k else(false,left-1)
def vEs(left d:Int):List E->Bool×Int|[]=>(true,left)|x::xs=>if(vE left d x).1=true then vEs (vE left d x).2 d xs else(false,(vE left d x).2)
end
def qAQ(e:E):Bool:=decide (okE 1 e=true/\szE e<=1000)
mutual
theorem vE_ok:∀(left d:Int)(e:E),((vE left d e).1=true↔okE d e=true/\(szE e:Int)<=left)/\((vE left d e).1=true->(vE left d e).2=left-szE e)
 |left,d,.mk op n s l k=>by
  have h:=vEs_ok (left-1) (d+1) k;grind[vE,okE,szE]
theorem vEs_ok:∀(left d:Int)(k:List E),0<=left->((vEs left d k).1=true↔okEs d k=true/\(szEs k:Int)<=left)/\((vEs left d k).1=true->(vEs left d k).2=left-szEs k)
 |left,d,[],h=>by simp[vEs,okEs,szEs,h]
 |left,d,x::xs,h=>by
  have h1:=vE_ok left d x;have h2:=vEs_ok (vE left d x).2 d xs;grind[vEs,okEs,szEs]
end
mutual
theorem cntE_ok:∀(d:Int)(e:E),1<=cntE d e/\(cntE d e<=1000↔okE d e=true/\szE e<=1000)/\(cntE d e<=1000->cntE d e=szE e)/\cntE d e<=1001+1000*(61-d).toNat
 |d,.mk op n s l k=>by
  have h:=cntEs_ok (d+1) 1 k (by omega) (by omega);grind[cntE,okE,szE]
theorem cntEs_ok:∀(d acc:Int)(k:List E),1<=acc->acc<=1000->acc<=qFr d acc k/\(qFr d acc k<=1000↔okEs d k=true/\acc+szEs k<=1000)/\(qFr d acc k<=1000->qFr d acc k=acc+szEs k)/\qFr d acc k<=2001+1000*(61-d).toNat
 |d,acc,[],h,g=>by simp[qFr,okEs,szEs];omega
 |d,acc,x::xs,h,g=>by
  have h1:=cntE_ok d x;have h2:=cntEs_ok d (acc+cntE d x) xs (by omega);grind[qFr,okEs,szEs]
end
theorem validE_cnt(e:E):decide (cntE 1 e<=1000)=qAQ e:=by
 simp_all[cntE_ok,qAQ]
theorem validE_v(e:E):(vE 1000 1 e).1=qAQ e:=by
 grind[vE_ok,qAQ]
theorem vE_bound{left d:Int}{e:E}(h:(vE left d e).1=true):0<=(vE left d e).2/\(vE left d e).2<=left:=by
 grind[vE_ok]
theorem cntE_eq(d:Int)(e:E):cntE d e=if 60<d then 1001 else if qDR e.op e.n e.s e.k.length=true then qFr (d+1) 1 e.k else 1001:=by
 cases e;unfold cntE;rfl
theorem vE_eq(left d:Int)(e:E):vE left d e=if 0<=left-1/\d<=60/\qDR e.op e.n e.s e.k.length=true then vEs (left-1) (d+1) e.k else(false,left-1):=by
 cases e;unfold vE;rfl
theorem cntEs_cons(d acc:Int)(x:E)(xs:List E):qFr d acc (x::xs)=if 1000<acc+cntE d x then acc+cntE d x else qFr d (acc+cntE d x) xs:=by rw[qFr]
theorem vEs_cons(left d:Int)(x:E)(xs:List E):vEs left d (x::xs)=if(vE left d x).1=true then vEs (vE left d x).2 d xs else(false,(vE left d x).2):=by rw[vEs]
theorem cntEs_nil(d acc:Int):qFr d acc []=acc:=by rw[qFr]
theorem vEs_nil(left d:Int):vEs left d []=(true,left):=by rw[vEs]
theorem c148{V:Mem}:∀e:E,E.Ok V e->∀d:Int,0<=d->d<=61->PP 148 [e.v,.int .i64 d] V (.int .i64 (cntE d e)):=by
 intro e;induction e using E.ind with
 |h e n=>
 intro j d m a;have f:=j.rows;refine x148 ?_;refine⟨λh=>?_,λh=>(c181 (e:=e) rfl).call ⟨_,rfl,λu=>?_,λu=>?_⟩⟩;·rw[cntE_eq,if_pos h];exact⟨rfl,rfl⟩
 ·rw[f.n_eq]at u;rw[cntE_eq,if_neg h,if_pos u];refine loop3s qCZ e.k.length (λi acc V1=>V1=V/\1<=acc/\acc<=1000/\qFr (d+1) 1 e.k=qFr (d+1) acc (e.k.drop i)) ⟨rfl,by omega,by omega,rfl⟩ ?_;rintro i acc c _ J s ⟨rfl,r,H,l⟩ G;refine⟨λg=>?_,λz=>?_⟩
  ·obtain⟨x,hm,N,y,Z,q,o,w⟩:=f.get g;have Y:=cntE_ok (d+1) x;rw[y,cntEs_cons]at l;refine⟨q,o,g,_,_,_,_,w,⟨by omega,by omega⟩,(n x hm (j.kids x hm) (d+1) (by omega) (by omega)).call ⟨_,rfl,⟨by omega,by omega⟩,λp=>?_,λp=>⟨f.succ g,?_⟩⟩⟩;·simp_all
   grind
  ·rw[(f.done z).1,cntEs_nil]at l;simp_all
 ·rw[f.n_eq]at u;rw[cntE_eq,if_neg h,if_neg u];exact⟨rfl,rfl⟩
theorem c106{V:Mem}{e:E}(h:E.Ok V e):PP 106 [e.v] V (.bool (qAQ e)):=by
 refine x106 ?_;refine(c148 e h 1 (by omega) (by omega)).call ⟨_,rfl,?_⟩;rw[validE_cnt];simp_all
theorem c250{V:Mem}{b t:Nat}{n:Int}(h:V b=some (cell (.int .i64 n) t))(h0:-1000<=n)(h1:n<=100000):
  Tri xE 250 #[pv b] V λe V'=>e=.returned (.bool (decide (0<=n-1)))/\V'=V.set b (cell (.int .i64 (n-1)) t):=by
 refine x250 ?_;refine⟨by simp,by simp,_,qBR h,⟨by omega,by omega⟩,by simp,by simp,StT.cell h ⟨by simp,by simp,_,qBR mss,rfl,rfl⟩⟩
set_option maxRecDepth 10000 in
theorem c248{V0:Mem}[B:Tab V0]{b t:Nat}(u:V0 b=none):∀e:E,E.Ok V0 e->∀(V:Mem),V0.sub V->∀left d:Int,V b=some (cell (.int .i64 left) t)->0<=left->left<=1000->0<=d->d<=61 ->
    Tri xE 248 #[e.v,.int .i64 d,pv b] V λr V'=>r=.returned (.bool (vE left d e).1)/\V'=V.set b (cell (.int .i64 (vE left d e).2) t):=by
  intro e;induction e using E.ind with
  |h e C=>
  intro L V H left d D K S T hd;have R:=L.rows;have U:=R.n_eq;refine Tri.less (x248 ?_);refine c280.call ⟨_,_,rfl,Tri.mono (c250 D (by omega) (by omega)) ?_⟩;rintro _ _ ⟨rfl,rfl⟩;refine⟨_,rfl,?_⟩;have no:¬(0<=left-1/\d<=60/\qDR e.op e.n e.s e.k.length=true)->∃W,(xH (.bool false)=xH (.bool (vE left d e).1)/\W=V.set b (cell (.int .i64 (vE left d e).2) t))/\W.sub (V.set b (cell (.int .i64 (left-1)) t)):=by
    intro h;rw[vE_eq,if_neg h];exact⟨_,⟨rfl,rfl⟩,Mem.sub.refl _⟩
  have f:(0<=left-1/\d<=60/\qDR e.op e.n e.s e.k.length=true)->qAr [(.int .i64 d)] 3 (V.set b (cell (.int .i64 (left-1)) t)) fun J V4 =>
        qAr [(pv b)] 288 V4 λG V5=>
        Tri xE 252 #[(.slice e.l.p e.l.n e.l.c),(.func (.func 282) #[] #[(.pointer (qAa J 0)),(.pointer (qAa G 0))])] V5 λr V6=>∃m:Bool,r=.returned (.bool m)/\
        ∃W,(xH (.bool (!m))=xH (.bool (vE left d e).1)/\W=V.set b (cell (.int .i64 (vE left d e).2) t))/\W.sub V6:=by
    intro h b1 w b2 z;rw[vE_eq,if_pos h];have n1:b≠b1:=λe=>by grind[Mem.set_same]
    have n2:b1≠b2:=λe=>by grind[Mem.set_same]
    have n3:b≠b2:=λe=>by grind[Zm,Mem.set_same]
    rw[Zm (λe=>n1 e.symm)]at w;rw[Zm (λe=>n2 e.symm),Zm (λe=>n3 e.symm)]at z;have v1:V0 b1=none:=by cases N:V0 b1 with
      |none=>rfl
      |some x=>rw[H _ _ N]at w;cases w
    have v2:V0 b2=none:=by cases N:V0 b2 with
      |none=>rfl
      |some x=>rw[H _ _ N]at z;cases z
    let M:Int->Mem:=λg=>((V.set b (cell (.int .i64 g) t)).set b1 (cell (.int .i64 d) 3)).set b2 (cell (pv b) 288);have X:∀g,V0.sub (M g):=λg=>((H.set u _).set v1 _).set v2 _;have Z:∀g,M g b=some (cell (.int .i64 g) t):=λg=>by grind[Zm,Mem.set_same]
    have Y:∀g,M g b1=some (cell (.int .i64 d) 3):=λg=>by grind[Zm,Mem.set_same]
    have Q:∀g,M g b2=some (cell (pv b) 288):=λg=>by grind[Mem.set_same]
    have hMs:∀g y,(M g).set b (cell (.int .i64 y) t)=M y:=λg y=>by
      grind[Mem.set_comm,Mem.set_set]
    have hW:∀g,(V.set b (cell (.int .i64 g) t)).sub (M g):=λg=>by
      refine((Mem.sub.refl _).set ?_ _).set ?_ _;· grind[Zm]
      grind[Zm]
    refine Tri.mono (g252 (l:=e.l) (xs:=e.k) (first:=[]) (caps:=[pv b1,pv b2]) Tryz.call282
      (λi V1=>∃g,V1=M g/\0<=g/\g<=1000/\vEs (left-1) (d+1) e.k=vEs g (d+1) (e.k.drop i)) (λi V1=>∃g,V1=M g/\vEs (left-1) (d+1) e.k=(false,g)) ?_ ⟨left-1,rfl,by omega,by omega,rfl⟩ ?_) ?_
    · rintro i _ ⟨g,rfl,-⟩;exact R.sub (X g)
    · rintro i x _ P ⟨g,rfl,q,o,j⟩;have hm:=List.mem_of_getElem? P;have O:=(yv.1 P).1;have A:e.k.drop i=x::e.k.drop (i+1):=by rw[List.drop_eq_getElem_cons O,(yv.1 P).2]
      rw[A,vEs_cons]at j;refine x282 ?_;refine⟨_,qBR (Y g),⟨by omega,by omega⟩,_,qBR (Q g),Tri.mono (C x hm (L.kids x hm) (M g) (X g) g (d+1) (Z g) q o (by omega) (by omega)) ?_⟩;rintro _ _ ⟨rfl,rfl⟩;refine⟨_,rfl,_,rfl,λu=>?_,λu=>?_⟩;· simp_all
      · have u:(vE g (d+1) x).1=true:=by simpa using u
        have:=vE_bound u;grind
    · rintro _ _ (⟨i,rfl,g,rfl,j⟩|⟨rfl,g,rfl,q,o,j⟩);· simp_all
      · rw[List.drop_length,vEs_nil]at j;exact⟨_,rfl,_,⟨by rw[j];rfl,rfl⟩,by rw[j];exact hW g⟩
  have key:qDR e.op e.n e.s e.k.length=(decide (qAW e.op≠-2/\(0<=qAW e.op->(e.k.length:Int)=qAW e.op)/\(qAW e.op=-1->(e.k.length:Int)<=6))&&(nmB e.op e.s&&numB e.op e.n)):=by grind[qDR]
  have pr:-2<=qAW e.op:=by unfold qAW;grind
  rw[key]at no f;have I:(e.k.length:Int)=(e.l.n:Int):=by rw[U]
  rw[I]at no f;generalize hkn:(e.l.n:Int)=kn at no f⊢;generalize hpn:qAW e.op=pn at no f pr⊢;generalize F:(nmB e.op e.s&&numB e.op e.n)=nm at no f⊢;haveI:Tab (V.set b (cell (.int .i64 (left-1)) t)):=Tab.sub B (H.set u _);refine⟨λh8=>⟨λa=>no λh=>absurd h.2.1 (Int.not_le.2 a),λa=>⟨λh7=>(c281 (e:=e)).call ⟨nm,by rw[F],λh9=>?_,λh9=>no ?_⟩,λh7=>no ?_⟩⟩,λh8=>no ?_⟩;· grind
  · simp_all
  · simp_all
  grind
theorem c204{V:Mem}[Tab V]{e:E}(h:E.Ok V e):PP 204 [e.v] V (.bool (qAQ e)):=by
 refine Pur.mk (x204 ?_);intro b k;refine Tri.mono (c248 k e h _ (Zn k _) 1000 1 mss (by omega) (by omega) (by omega) (by omega)) ?_;rintro _ _ ⟨rfl,rfl⟩;rw[validE_v,Mem.set_set];exact⟨_,rfl,rfl,Zn k _⟩
def fop:List E->Int|[]=>0|e::_=>e.op
def qGG(op:Int)(s:KB)(es:List E)(nl h:Int):Bool:=
 if op=1 then qAX s&&decide ((es.length:Int)=1/\nl=0/\h=0)else if op=2 then qAX s&&decide ((es.length:Int)=2/\nl=0/\h=0)else if op=3 then decide (s=qAo []/\(es.length:Int)=1)
 else if op=4 then decide (s=qAo []/\(es.length:Int)=1/\h=0)else if op=5 then decide (s=qAo []/\(es.length:Int)<=1/\nl=0/\h=0)else if op=6 then decide (s=qAo []/\(es.length:Int)=1/\fop es=7/\nl=0/\h=0)else false
def qBQ(op:Int)(s:KB)(es:List E)(nl h:Int):Bool:=qGG op s es nl h&&es.all qAQ
theorem c180{V:Mem}{s:S}(h:S.Ok V s){lo hi:Int}:PP 180 [s.v,.int .i64 lo,.int .i64 hi] V (.bool (decide (lo<=s.es.length/\(s.es.length:Int)<=hi)&&s.es.all qAQ)):=by
 have f:=h.eRows;have q:=f.n_eq;rw[show s.v=.agg #[.int .i64 s.op,.string s.s,.slice s.el.p s.el.n s.el.c,.slice s.ll.p s.ll.n s.ll.c,.slice s.xl.p s.xl.n s.xl.c]by unfold S.v;rw[S.row_eq];rfl];refine x180 ?_;refine⟨λh1=>?_,λh1=>⟨λh2=>?_,λh2=>?_⟩⟩;·grind
 ·grind
 ·rw[decide_eq_true (by omega),xT];refine qAM s.es.length (λi V1=>V1=V/\s.es.all qAQ=(s.es.drop i).all qAQ) ⟨rfl,rfl⟩ ?_;rintro i b _ J hi ⟨rfl,w⟩ z;refine⟨λk=>?_,λy=>?_⟩
  ·obtain⟨x,hm,o,u,j,l,m,g⟩:=f.get k;rw[u,List.all_cons]at w;refine⟨l,m,k,_,_,_,_,g,(c106 (h.eOk x hm)).call ⟨_,rfl,λr=>⟨f.succ k,z j _ _ ⟨rfl,?_⟩⟩,λr=>?_⟩⟩;·simp_all
   simp_all
  grind
theorem qHa{V:Mem}{s:S}(h:S.Ok V s):(s.es=[]/\s.el.n=0)∨∃k r,s.es=k::r/\0<s.el.n/\¬(s.el.p=none)/\¬(qAa s.el.p 0=none)/\V.rowp s.el.p 0 4=some [.int .i64 k.op,.int .i64 k.n,.string k.s,.slice k.l.p k.l.n k.l.c]:=by
 have u:=h.eRows;have i:=u.n_eq;cases g:s.es with
 |nil=>simp_all
 |cons k r=>
  have h0:((0:Nat):Int)<(s.el.n:Int):=by simp_all
  obtain⟨x,hm,f,j,m,w,q,z⟩:=u.get h0;rw[g]at f;simp only[List.getElem?_cons_zero,Option.some.injEq]at f;subst f;refine .inr ⟨k,r,rfl,by omega,w,λe=>?_,?_⟩
  ·cases y:s.el.p with
   |none=>exact w y
   |some a=>rw[y]at e;cases e
  grind[E.row,vI,vS,Sl.v]
set_option maxRecDepth 4000 in
theorem c147{V:Mem}{s:S}(h:S.Ok V s):PP 147 [s.v] V (.bool (qBQ s.op s.s s.es s.ls.length s.xs.length)):=by
 have o:=qHa h;have cx:=λlo q=>c180 h (lo:=lo) (hi:=q);have y:=h.lRows.n_eq;have x:=h.xRows.n_eq;rw[show s.v=.agg #[.int .i64 s.op,.string s.s,.slice s.el.p s.el.n s.el.c,.slice s.ll.p s.ll.n s.ll.c,.slice s.xl.p s.xl.n s.xl.c]by unfold S.v;rw[S.row_eq];rfl]at cx⊢;refine x147 ?_;rw[<-y,<-x];generalize j:qBQ s.op s.s s.es s.ll.n s.xl.n=X;have key:∀b:Bool,X=b->xH (.bool b)=xH (.bool X):=λn h=>by rw[h]
 unfold qBQ qGG at j;generalize u:s.es.all qAQ=va at cx;rcases o with⟨z,a⟩|⟨e0,r,z,a,e,i,w⟩
 ·have k:(s.es.length:Int)=0:=by rw[z];rfl
  have l:s.es.length=0:=by rw[z];rfl
  rw[k]at cx;rw[u,k]at j
  repeat' (first|refine c66.call ⟨_,rfl,?_⟩|refine(cx _ _).call ⟨_,rfl,?_⟩|apply xS|intro _)
  all_goals first|rfl|(refine key _ ?_;clear key cx;grind)|(exfalso;clear key cx;grind)
 ·have m:fop s.es=e0.op:=by rw[z];rfl
  generalize k:(s.es.length:Int)=len at cx;rw[u,k,m]at j;have H:0<len:=by grind
  have J:(s.el.n:Int)=len:=by rw[<-k,h.eRows.n_eq]
  have g:=cx 1 1;have c22:=cx 2 2;have f:=cx 0 1;rw[show decide (1<=len/\len<=1)=decide (len=1)by grind]at g;rw[show decide (2<=len/\len<=2)=decide (len=2)by grind]at c22;rw[show decide (0<=len/\len<=1)=decide (len<=1)by grind]at f
  repeat' (first|refine c66.call ⟨_,rfl,?_⟩|refine g.call ⟨_,rfl,?_⟩|refine c22.call ⟨_,rfl,?_⟩|refine f.call ⟨_,rfl,?_⟩|refine⟨_,_,_,_,w,?_⟩|exact e|exact i|apply xS|intro _)
  all_goals first|rfl|(refine key _ ?_;clear key cx g c22 f;grind)|omega|(exfalso;clear key cx g c22 f;grind)
mutual
def okS(d:Int):S->Bool|.mk op s _ es _ ls _ xs=>decide (d<=60)&&qBQ op s es ls.length xs.length&&qHo (d+1) ls&&qHo (d+1) xs
def qHo(d:Int):List S->Bool|[]=>true|x::xs=>okS d x&&qHo d xs
end
mutual
def szS:S->Nat|.mk _ _ _ _ _ ls _ xs=>1+qGC ls+qGC xs
def qGC:List S->Nat|[]=>0|x::xs=>szS x+qGC xs
end
mutual
def cntS(d acc:Int):S->Int
 |.mk op s _ es _ ls _ xs=>
  if 60<d then 201 else if qBQ op s es ls.length xs.length=true then
    if acc+1<=200 then
      if acc+1+qCF (d+1) 0 ls<=200 then acc+1+qCF (d+1) 0 ls+qCF (d+1) 0 xs else acc+1+qCF (d+1) 0 ls
    else acc+1
  else 201
def qCF(d acc:Int):List S->Int|[]=>acc|x::xs=>if 200<cntS d acc x then cntS d acc x else qCF d (cntS d acc x) xs
end
def gd{α:Type}(d left:Int)(l:List α)(r:Bool×Int):Bool×Int:=if 60<d/\l≠[]then(false,left)else r
mutual
def vS(left d:Int):S->Bool×Int
 |.mk op s _ es _ ls _ xs=>
  if 0<=left-1/\qBQ op s es ls.length xs.length=true then
    if(gd (d+1) (left-1) ls (vSs (left-1) (d+1) ls)).1=true then
      gd (d+1) (gd (d+1) (left-1) ls (vSs (left-1) (d+1) ls)).2 xs (vSs (gd (d+1) (left-1) ls (vSs (left-1) (d+1) ls)).2 (d+1) xs)
    else(false,(gd (d+1) (left-1) ls (vSs (left-1) (d+1) ls)).2)
  else(false,left-1)
def vSs(left d:Int):List S->Bool×Int|[]=>(true,left)|x::xs=>if(vS left d x).1=true then vSs (vS left d x).2 d xs else(false,(vS left d x).2)
end
def vSl(left d:Int)(l:List S):Bool×Int:=gd d left l (vSs left d l)
theorem vSs_cons(left d:Int)(x:S)(xs:List S):vSs left d (x::xs)=if(vS left d x).1=true then vSs (vS left d x).2 d xs else(false,(vS left d x).2):=by rw[vSs]
theorem vSs_nil(left d:Int):vSs left d []=(true,left):=by rw[vSs]
theorem cntSs_cons(d acc:Int)(x:S)(xs:List S):qCF d acc (x::xs)=if 200<cntS d acc x then cntS d acc x else qCF d (cntS d acc x) xs:=by rw[qCF]
theorem cntSs_nil(d acc:Int):qCF d acc []=acc:=by rw[qCF]
theorem vS_eq(left d:Int)(x:S):vS left d x=if 0<=left-1/\qBQ x.op x.s x.es x.ls.length x.xs.length=true then(if(vSl (left-1) (d+1) x.ls).1=true then vSl (vSl (left-1) (d+1) x.ls).2 (d+1) x.xs else(false,(vSl (left-1) (d+1) x.ls).2))else(false,left-1):=by
 cases x;unfold vS;rfl
theorem cntS_eq(d acc:Int)(x:S):cntS d acc x=if 60<d then 201 else if qBQ x.op x.s x.es x.ls.length x.xs.length=true then
  if acc+1<=200 then
   if acc+1+qCF (d+1) 0 x.ls<=200 then acc+1+qCF (d+1) 0 x.ls+qCF (d+1) 0 x.xs else acc+1+qCF (d+1) 0 x.ls
  else acc+1
 else 201:=by
 cases x;unfold cntS;rfl
mutual
theorem cntS_ok:∀(d acc:Int)(e:S),0<=acc->acc<=200->acc+1<=cntS d acc e/\(cntS d acc e<=200↔okS d e=true/\acc+szS e<=200)/\(cntS d acc e<=200->cntS d acc e=acc+szS e)/\cntS d acc e<=201+200*(61-d).toNat
 |d,acc,.mk op s _ es _ ls _ xs,h,k=>by
  have g:=qFN (d+1) 0 ls (by omega) (by omega);have f:=qFN (d+1) 0 xs (by omega) (by omega);unfold cntS okS szS;grind
theorem qFN:∀(d acc:Int)(k:List S),0<=acc->acc<=200->acc<=qCF d acc k/\(qCF d acc k<=200↔qHo d k=true/\acc+qGC k<=200)/\(qCF d acc k<=200->qCF d acc k=acc+qGC k)/\qCF d acc k<=201+200*(61-d).toNat
 |d,acc,[],h,g=>by simp[qCF,qHo,qGC];omega
 |d,acc,x::xs,h,g=>by
  have h1:=cntS_ok d acc x h g;have h2:=qFN d (cntS d acc x) xs (by omega);grind[qCF,qHo,qGC]
end
theorem okSs_deep{d:Int}(h:60<d):∀l:List S,l≠[]->qHo d l=false
 |[],k=>absurd rfl k
 |.mk _ _ _ _ _ _ _ _::xs,_=>by
  grind[qHo,okS]
mutual
theorem vS_ok:∀(left d:Int)(e:S),d<=60->((vS left d e).1=true↔okS d e=true/\(szS e:Int)<=left)/\((vS left d e).1=true->(vS left d e).2=left-szS e)
 |left,d,.mk op s _ es _ ls _ xs,k=>by
  have g:=vSs_ok (left-1) (d+1) ls;have f:=λl=>vSs_ok l (d+1) xs;have d1:=λh=>okSs_deep (d:=d+1) h ls;have d2:=λh=>okSs_deep (d:=d+1) h xs;grind[vS,okS,szS,gd,qBQ,vSs,qHo,qGC,absurd]
theorem vSs_ok:∀(left d:Int)(k:List S),0<=left->¬(60<d/\k≠[])->((vSs left d k).1=true↔qHo d k=true/\(qGC k:Int)<=left)/\((vSs left d k).1=true->(vSs left d k).2=left-qGC k)
 |left,d,[],h,_=>by simp[vSs,qHo,qGC,h]
 |left,d,x::xs,h,g=>by
  have h1:=vS_ok left d x (by grind);have h2:=vSs_ok (vS left d x).2 d xs;grind[vSs_cons,qHo,qGC]
end
def qEX(l:List S):Bool:=decide (qHo 1 l=true/\qGC l<=200)
theorem validSs_cnt(l:List S):decide (qCF 1 0 l<=200)=qEX l:=by
 have:=qFN 1 0 l (by omega) (by omega);unfold qEX;grind
theorem validSs_v(l:List S):(vSl 200 1 l).1=qEX l:=by
 have:=(vSs_ok 200 1 l (by omega) (by omega)).1;grind[qEX,vSl,gd]
theorem S.v_eq(s:S):s.v=.agg #[.int .i64 s.op,.string s.s,.slice s.el.p s.el.n s.el.c,.slice s.ll.p s.ll.n s.ll.c,.slice s.xl.p s.xl.n s.xl.c]:=by unfold S.v;rw[S.row_eq];rfl
theorem S.row_get{V:Mem}{p:Option Addr}{i:Nat}{x:S}(h:V.rowp p i 5=some x.row):V.rowp p i 5=some [.int .i64 x.op,.string x.s,.slice x.el.p x.el.n x.el.c,.slice x.ll.p x.ll.n x.ll.c,.slice x.xl.p x.xl.n x.xl.c]:=by
 rw[h,S.row_eq];rfl
theorem qAf{p:Option Addr}{n:Nat}(h:¬(p=none)):¬(qAa p n=none):=by
 cases p with
 |none=>grind
 |some a=>intro e;cases e
def CntP(V:Mem)(l:List S):Prop:=∀(sl:Sl)(d:Int),qAc V sl 5 (l.map S.row)->(∀x∈l,S.Ok V x)->0<=d->d<=61->PP 105 [sl.v,.int .i64 d] V (.int .i64 (qCF d 0 l))
theorem cntP_step{V:Mem}{l:List S}(p:∀x∈l,CntP V x.ls/\CntP V x.xs):CntP V l:=by
 intro sl d j m v W;refine x105 ?_;refine loop3s qCZ l.length (λi acc V1=>V1=V/\0<=acc/\acc<=200/\qCF d 0 l=qCF d acc (l.drop i)) ⟨rfl,by omega,by omega,rfl⟩ ?_;rintro i acc c V1 J Q ⟨rfl,H,P,a⟩ O;refine⟨λf=>?_,λr=>?_⟩
 ·obtain⟨x,hm,A,q,I,u,o,k⟩:=j.get f;have k:=S.row_get k;have g:=m x hm;have G:=g.lRows.n_eq;have N:=g.xRows.n_eq;rw[q,cntSs_cons]at a;have y:=cntS_eq d acc x;have cs:=c147 g;rw[S.v_eq]at cs;have bad:cntS d acc x=201->(xH (.int .i64 201)=xH (.int .i64 (qCF d 0 l))/\V1=V1):=λh=>by
   grind
  have w:∀n,cntS d acc x=n->200<n->(xH (.int .i64 n)=xH (.int .i64 (qCF d 0 l))/\V1=V1):=λn h Z=>by
   grind
  have Y:∀n e,cntS d acc x=n->0<=n->¬200<n->J [.int .i64 n,.int .i64 e,.int .i64 ((i:Int)+1)] V1:=λn e h h0 Z=>by
   grind
  refine⟨λz=>bad (by omega),λz=>⟨u,o,f,_,_,_,_,_,k,cs.call ⟨_,rfl,λs=>⟨⟨by omega,by omega⟩,λh1=>?_,λh1=>?_⟩,λs=>bad (by simp_all)⟩⟩⟩
  ·rw[if_neg z,if_pos s,if_pos h1]at y;have b1:=qFN (d+1) 0 x.ls (by omega) (by omega);have b2:=qFN (d+1) 0 x.xs (by omega) (by omega);refine⟨u,o,f,qAf u,_,_,_,_,_,k,⟨by omega,by omega⟩,((p x hm).1 x.ll (d+1) g.lRows g.lOk (by omega) (by omega)).call ⟨_,rfl,⟨by omega,by omega⟩,λh2=>?_,λh2=>?_⟩⟩
   ·rw[if_pos h2]at y;refine⟨u,o,f,qAf u,_,_,_,_,_,k,⟨by omega,by omega⟩,((p x hm).2 x.xl (d+1) g.xRows g.xOk (by omega) (by omega)).call ⟨_,rfl,⟨by omega,by omega⟩,λh3=>w _ y h3,λh3=>⟨j.succ f,Y _ _ y (by omega) h3⟩⟩⟩
   grind
  grind
 ·rw[(j.done r).1,cntSs_nil]at a;simp_all
theorem cntP_S(V:Mem):∀s:S,CntP V s.ls/\CntP V s.xs:=by
 intro s;induction s using S.ind with
 |h s k g=>grind[cntP_step]
theorem c105{V:Mem}{l:List S}{sl:Sl}{d:Int}(k:qAc V sl 5 (l.map S.row))(h:∀x∈l,S.Ok V x)(h0:0<=d)(h1:d<=61):PP 105 [sl.v,.int .i64 d] V (.int .i64 (qCF d 0 l)):=
 cntP_step (λx _=>cntP_S V x) sl d k h h0 h1
set_option maxRecDepth 4000 in
theorem c251{V:Mem}[Tab V]{s:S}(h:S.Ok V s):PP 251 [s.v] V (.bool (qGG s.op s.s s.es s.ls.length s.xs.length)):=by
 have c:=qHa h;have g:=h.lRows.n_eq;have f:=h.xRows.n_eq;have u:=h.eRows.n_eq;rw[S.v_eq];refine x251 ?_;rw[<-g,<-f];generalize z:qGG s.op s.s s.es s.ll.n s.xl.n=X;have key:∀b:Bool,X=b->xH (.bool b)=xH (.bool X):=λn h=>by rw[h]
 unfold qGG at z;rw[<-u]at z;have x:(0:Int)<=(s.el.n:Int):=by omega
 have j:(0:Int)<=(s.ll.n:Int):=by omega
 have i:(0:Int)<=(s.xl.n:Int):=by omega
 generalize p:(s.el.n:Int)=ne at z x;generalize(s.ll.n:Int)=nl at z j;generalize(s.xl.n:Int)=nx at z i;rcases c with⟨y,l⟩|⟨e0,r,y,l,m,w,k⟩
 ·have:ne=0:=by omega
  subst this;clear g f u l
  repeat' (first|refine c165.call ⟨_,rfl,?_⟩|apply xS|intro _)
  all_goals first|rfl|(refine key _ ?_;clear key h y;grind)|(exfalso;clear key h y;grind)
 ·have q:fop s.es=e0.op:=by rw[y];rfl
  rw[q]at z;have o:0<ne:=by omega
  clear g f u l
  repeat' (first|refine c165.call ⟨_,rfl,?_⟩|refine⟨_,_,_,_,k,?_⟩|exact m|exact w|exact o|apply xS|intro _)
  all_goals first|rfl|(refine key _ ?_;clear key h y k m w;grind)|(exfalso;clear key h y k m w;grind)|omega
theorem c253{V:Mem}[Tab V]{e:E}(h:E.Ok V e):PP 253 [e.v] V (.bool (!qAQ e)):=by
 refine x253 ?_;exact(c204 h).call ⟨_,rfl,rfl,rfl⟩
theorem vSl_bound{left d:Int}{l:List S}(h0:0<=left)(h:(vSl left d l).1=true):0<=(vSl left d l).2/\(vSl left d l).2<=left:=by
 unfold vSl gd at h⊢;split at h;·cases h
 ·rename_i k;rw[if_neg k];grind[vSs_ok]
theorem vSl_eq{left d:Int}{l:List S}(h:¬(60<d/\l≠[])):vSl left d l=vSs left d l:=by grind[vSl,gd]
section
variable{V0:Mem}{b t:Nat}
def StP(V0:Mem)(b t:Nat)(l:List S):Prop:=∀(sl:Sl)(d left:Int)(V:Mem),qAc V0 sl 5 (l.map S.row)->(∀x∈l,S.Ok V0 x)->V0.sub V->V b=some (cell (.int .i64 left) t)->0<=left->left<=200->0<=d->d<=61->
 Tri xE 208 #[sl.v,.int .i64 d,pv b] V λr V'=>r=.returned (.bool (vSl left d l).1)/\V'=V.set b (cell (.int .i64 (vSl left d l).2) t)
theorem stP_step[W:Tab V0](P:V0 b=none){l:List S}(Q:∀x∈l,StP V0 b t x.ls/\StP V0 b t x.xs):StP V0 b t l:=by
 intro sl d left V o p O f a v A B;have C:=o.n_eq;refine x208 ?_;have w:∀k,V0.sub (V.set b (cell (.int .i64 k) t)):=λk=>O.set P _;refine⟨λh0=>⟨λr=>?_,λr=>?_⟩,λh0=>?_⟩
 ·have:vSl left d l=(false,left):=by
   grind[vSl,gd]
  rw[this];exact⟨rfl,(Mem.set_eq f).symm⟩
 all_goals
  have H:¬(60<d/\l≠[]):=by
   first
   |exact λh=>r h.1
   |simp_all
  rw[vSl_eq H];refine qAM l.length (λi V1=>∃k,V1=V.set b (cell (.int .i64 k) t)/\0<=k/\k<=200/\vSs left d l=vSs k d (l.drop i)) ⟨left,(Mem.set_eq f).symm,a,v,rfl⟩ ?_;rintro i c _ J D ⟨k,rfl,I,M,z⟩ F;refine⟨λy=>?_,λG=>?_⟩
  ·obtain⟨x,hm,E,N,L,R,X,u⟩:=(o.sub (w k)).get y;have u:=S.row_get u;have g:=p x hm;rw[N,vSs_cons]at z;have hv:=vS_eq k d x;have cs:=λV (h0:V0.sub V) (h:S.Ok V x)=>(haveI:Tab V:=Tab.sub W h0;c251 h);rw[S.v_eq]at cs;have no:∀n,vS k d x=(false,n)->(xH (.bool false)=xH (.bool (vSs left d l).1)/\V.set b (cell (.int .i64 n) t)=V.set b (cell (.int .i64 (vSs left d l).2) t)):=λn h=>by
    rw[h]at z;rw[z];exact⟨rfl,rfl⟩
   refine⟨R,X,y,_,_,_,_,_,u,Tri.mono (c250 mss (by omega) (by omega)) ?_⟩;rintro _ _ ⟨rfl,rfl⟩;rw[Mem.set_set];refine⟨_,rfl,λj=>(cs _ (w _) (g.sub (w _))).call ⟨_,rfl,λZ=>?_,λZ=>?_⟩,λj=>?_⟩
   ·have j:0<=k-1:=of_decide_eq_true j;refine(c252 (first:=[]) (caps:=[]) (l:=x.el) (g.eRows.sub (w _)) Tryz.call253 (λe=>!qAQ e) (λe hm=>haveI:Tab (V.set b (cell (.int .i64 (k-1)) t)):=Tab.sub W (w (k-1));c253 ((g.eOk e hm).sub (w _)))).call ⟨_,rfl,λq=>?_,λq=>?_⟩
    ·have m:x.es.all qAQ=false:=by
      rw[xU]at q;simpa using q
     rw[if_neg (λh=>by have:=h.2;unfold qBQ at this;rw[m,Bool.and_false]at this;cases this)]at hv;exact no _ hv
    ·have m:x.es.all qAQ=true:=by
      rw[xU]at q;simpa using q
     have Y:qBQ x.op x.s x.es x.ls.length x.xs.length=true:=by unfold qBQ;rw[Z,m];rfl
     rw[if_pos ⟨j,Y⟩]at hv;refine⟨⟨by omega,by omega⟩,Tri.mono ((Q x hm).1 x.ll (d+1) (k-1) _ g.lRows g.lOk (w _) mss j (by omega) (by omega) (by omega)) ?_⟩;rintro _ _ ⟨rfl,rfl⟩;rw[Mem.set_set];refine⟨_,rfl,λh1=>⟨⟨by omega,by omega⟩,?_⟩,λh1=>?_⟩
     ·rw[if_pos h1]at hv;have b1:=vSl_bound j h1;refine Tri.mono ((Q x hm).2 x.xl (d+1) _ _ g.xRows g.xOk (w _) mss b1.1 (by omega) (by omega) (by omega)) ?_;rintro _ _ ⟨rfl,rfl⟩;rw[Mem.set_set];refine⟨_,rfl,λh2=>?_,λh2=>?_⟩
      ·have b2:=vSl_bound b1.1 h2;rw[hv,if_pos h2]at z;exact⟨(o.sub (w k)).succ y,F L _ _ ⟨_,rfl,b2.1,by omega,z⟩⟩
      ·rw[<-hv]at h2⊢;exact no _ (Prod.ext (eq_false_of_ne_true h2) rfl)
     ·rw[if_neg h1]at hv;exact no _ hv
   ·rw[if_neg (λh=>by have:=h.2;unfold qBQ at this;rw[eq_false_of_ne_true Z,xV]at this;cases this)]at hv;exact no _ hv
   ·rw[if_neg (λh=>j (decide_eq_true h.1))]at hv;exact no _ hv
  ·rw[((o.sub (w k)).done G).1,vSs_nil]at z;rw[z];exact⟨rfl,rfl⟩
theorem stP_S[k:Tab V0](g:V0 b=none):∀s:S,StP V0 b t s.ls/\StP V0 b t s.xs:=by
 intro s;induction s using S.ind with
 |h s f u=>grind[stP_step]
theorem c208[k:Tab V0](h:V0 b=none)(l:List S):StP V0 b t l:=stP_step h λx _=>stP_S h x
end
def qAY{α:Type}(p:α->Bool)(xs:List α)(i:Nat):Prop:=∀j x,j<i->xs[j]?=some x->p x=true
theorem qAY.zero{α:Type}(p:α->Bool)(xs:List α):qAY p xs 0:=λ_ _ h=>absurd h (Nat.not_lt_zero _)
theorem qAY.succ{α:Type}{p:α->Bool}{xs:List α}{i:Nat}{x:α}(h:qAY p xs i)(u:xs[i]?=some x)(w:p x=true):qAY p xs (i+1):=λj y k g=>by
 rcases xR.1 k with f|rfl;·exact h j y f g
 simp_all
theorem qAY.all{α:Type}{p:α->Bool}{xs:List α}{i:Nat}(h:qAY p xs i)(hi:xs.length<=i):xs.all p=true:=
 List.all_eq_true.2 λx k=>by
  obtain⟨j,g,rfl⟩:=yd.1 k;exact h j _ (by omega) (yu g)
theorem all_false{α:Type}{p:α->Bool}{xs:List α}{x:α}(h:x∈xs)(k:¬p x=true):xs.all p=false:=by
 grind
def qAT:KB:=qAo [105,110,116]
def qAz:KB:=qAo [98,111,111,108]
def typB(s:KB):Bool:=decide (s=qAT)||decide (s=qAz)||qAX s
def openB(s:KB):Bool:=decide (s=qAo [])||qAX s
def fldB(f:Fld):Bool:=qAX f.name&&typB f.ty
def qDC(l:List Fld)(most:Int):Bool:=decide ((l.length:Int)<=most)&&l.all fldB
def tyB(t:Ty):Bool:=qAX t.name&&qDC t.fields 12
def prB(p:Pr):Bool:=qAX p.name&&qDC p.params 6&&qDC p.locals 12&&(decide (p.result=qAo [])||typB p.result)&&qEX p.body
def msB(m:Ms):Bool:=qAX m.name&&qAX m.ty&&decide (-1099511627776<=m.nil/\m.nil<=1099511627776)&&qAQ m.x
def ivB(m:Iv):Bool:=qAX m.name&&openB m.ty&&qAQ m.x
def poB(m:Po):Bool:=openB m.ty&&qAQ m.x
def bdB(m:Bd):Bool:=qAX m.proc&&qAQ m.x
def qKs(d:Ds):Bool:=d.measures.all msB&&d.invs.all ivB&&d.pots.all poB&&d.bounds.all bdB
def lensB(d:Ds):Bool:=decide ((d.measures.length:Int)<=12/\(d.invs.length:Int)<=12/\(d.pots.length:Int)<=12/\(d.bounds.length:Int)<=12)
def qAG(d:Ds):Bool:=qAX d.name&&decide ((d.types.length:Int)<=12)&&qDC d.globals 8&&decide ((d.procs.length:Int)<=40)&&lensB d&&d.types.all tyB&&d.procs.all prB&&qKs d
theorem c104{V:Mem}{s:KB}:PP 104 [.string s] V (.bool (typB s)):=by
 refine x104 ?_;refine⟨λh=>?_,λh=>⟨λh1=>?_,λh1=>c66.call ⟨_,rfl,?_⟩⟩⟩<;>simp[typB,qAT,qAz, *]
theorem c203{V:Mem}[Tab V]{s:KB}:PP 203 [.string s] V (.bool (typB s)):=by
 refine x203 ?_;refine⟨λh=>?_,λh=>⟨λh1=>?_,λh1=>c165.call ⟨_,rfl,?_⟩⟩⟩<;>simp[typB,qAT,qAz, *]
theorem c107{V:Mem}{s:KB}:PP 107 [.string s] V (.bool (openB s)):=by
 refine x107 ?_;refine⟨λh=>?_,λh=>c66.call ⟨_,rfl,?_⟩⟩<;>simp[openB, *]
theorem c205{V:Mem}[Tab V]{s:KB}:PP 205 [.string s] V (.bool (openB s)):=by
 refine x205 ?_;refine⟨λh=>?_,λh=>c165.call ⟨_,rfl,?_⟩⟩<;>simp[openB, *]
theorem c67{V:Mem}{l:Sl}{xs:List Fld}{n:Int}(f:qAc V l 2 (xs.map Fld.row)):PP 67 [l.v,.int .i64 n] V (.bool (qDC xs n)):=by
 refine x67 ?_;have p:=f.n_eq;refine⟨λh=>?_,λh=>?_⟩;·grind[qDC]
 ·have w:(xs.length:Int)<=n:=by omega
  refine qAM xs.length (λi V1=>V1=V/\qAY fldB xs i) ⟨rfl,qAY.zero _ _⟩ ?_;rintro i b V1 J c ⟨rfl,y⟩ m;refine⟨λk=>?_,λz=>?_⟩
  ·obtain⟨x,hm,r,q,o,u,j,g⟩:=f.get k;have no:fldB x=false->(xH (.bool false)=xH (.bool (qDC xs n))/\V1=V1):=λh=>by
    unfold qDC;grind
   refine⟨u,j,k,qAf u,_,_,g,c66.call ⟨_,rfl,λh1=>⟨u,j,k,qAf u,_,_,g,c104.call ⟨_,rfl,λh2=>⟨f.succ k,m o _ _ ⟨rfl,y.succ r (by simp[fldB, *])⟩⟩,λh2=>no (by simp[fldB, *])⟩⟩,λh1=>no (by simp[fldB, *])⟩⟩
  ·have:=y.all (f.done z).2;simp[qDC,this,w]
theorem c202{V:Mem}[Tab V]{f:Fld}:PP 202 [f.v] V (.bool (!fldB f)):=by
 refine x202 ?_;refine c165.call ⟨_,rfl,λh=>c203.call ⟨_,rfl,?_⟩,λh=>?_⟩<;>simp[fldB, *]
theorem c166{V:Mem}[Tab V]{l:Sl}{xs:List Fld}{n:Int}(k:qAc V l 2 (xs.map Fld.row)):PP 166 [l.v,.int .i64 n] V (.bool (qDC xs n)):=by
 refine x166 ?_;have g:=k.n_eq;refine⟨λh=>(c122 (first:=[]) (caps:=[]) k Tryz.call202 (λf=>!fldB f) λf _=>c202).call ⟨_,rfl,?_⟩,λh=>?_⟩;·grind[qDC]
 grind[qDC]
theorem c68{V:Mem}{p:Pr}(h:Pr.Ok V p):PP 68 [p.v] V (.bool (prB p)):=by
 refine x68 ?_;have cs:=c105 (d:=1) h.body h.stmts (by omega) (by omega);refine c66.call ⟨_,rfl,λh1=>(c67 h.params).call ⟨_,rfl,λh2=>(c67 h.locals).call ⟨_,rfl,λh3=>⟨λh4=>cs.call ⟨_,rfl,?_⟩,λh4=>c104.call ⟨_,rfl,λk=>cs.call ⟨_,rfl,?_⟩,λk=>?_⟩⟩,λh3=>?_⟩,λh2=>?_⟩,λh1=>?_⟩;all_goals simp[prB,<-validSs_cnt, *]
theorem c171{V:Mem}[Tab V]{p:Pr}(h:Pr.Ok V p):PP 171 [p.v] V (.bool (prB p)):=by
  refine Pur.mk (x171 ?_);have cs:(qEX p.body=prB p)->qAr [(.int .i64 200)] 290 V fun f u =>
       Tri xE 208 #[(.slice p.bs.p p.bs.n p.bs.c),(.int .i64 1),(.pointer (qAa f 0))] u λe w=>∃k:Bool,e=.returned (.bool k)/\(xH (.bool k)=xH (.bool (prB p))/\V.sub w):=λe b g=>by
    refine Tri.mono (c208 g p.body p.bs 1 200 _ h.body h.stmts (Zn g _) mss (by omega) (by omega) (by omega) (by omega)) ?_;rintro _ _ ⟨rfl,rfl⟩;rw[validSs_v,Mem.set_set,e];exact⟨_,rfl,rfl,Zn g _⟩
  refine c165.call ⟨_,rfl,λh1=>(c166 h.params).call ⟨_,rfl,λh2=>(c166 h.locals).call ⟨_,rfl,λh3=>⟨λh4=>cs ?_,λh4=>c203.call ⟨_,rfl,λz=>cs ?_,λz=>⟨?_,Mem.sub.refl _⟩⟩⟩,λh3=>⟨?_,Mem.sub.refl _⟩⟩,λh2=>⟨?_,Mem.sub.refl _⟩⟩,λh1=>⟨?_,Mem.sub.refl _⟩⟩;all_goals simp[prB, *]
theorem c207{V:Mem}[Tab V]{b:Bd}(h:E.Ok V b.x):PP 207 [b.v] V (.bool (!bdB b)):=by
 refine x207 ?_;refine c165.call ⟨_,rfl,λh1=>(c204 h).call ⟨_,rfl,?_⟩,λh1=>?_⟩<;>simp[bdB, *]
theorem c168{V:Mem}[Tab V]{t:Ty}(h:Ty.Ok V t):PP 168 [t.v] V (.bool (!tyB t)):=by
 refine x168 ?_;refine c165.call ⟨_,rfl,λh1=>(c166 h.fields).call ⟨_,rfl,?_⟩,λh1=>?_⟩<;>simp[tyB, *]
theorem c170{V:Mem}[Tab V]{t:Pr}(h:Pr.Ok V t):PP 170 [t.v] V (.bool (!prB t)):=by
 refine x170 ?_;exact(c171 h).call ⟨_,rfl,rfl,rfl⟩
theorem GenK.max4{P:Program}{V:Mem}{a b c d:Operand}{ty:Nat}{ts:Array TypeId}{vals:Operand->Value}{n1 n2 n3 n4:Int}(h1:vals a=.int .i64 n1)(h2:vals b=.int .i64 n2)(h3:vals c=.int .i64 n3)(h4:vals d=.int .i64 n4){q:Value->Mem->Prop}
  (h:∀m:Int,n1<=m->n2<=m->n3<=m->n4<=m->(m=n1∨m=n2∨m=n3∨m=n4)->q (.int .i64 m) V):GenK P (.call {callee:=.builtin .max,args:=#[a,b,c,d],argTypes:=ts}) ty vals V q:=by
 intro w hw;refine⟨_,w,V,?_,Frm.refl hw,h (max (max (max n1 n2) n3) n4) (by omega) (by omega) (by omega) (by omega) (by omega)⟩;unfold execOp;have e:∀x y:Int,(if y>x then y else x)=max x y:=λx y=>by split<;>omega
 simp only[resolve,invoke,builtin,Sem.run_bind,Sem.run_pure,Result.andThen_ok,List.map_toArray,List.map_cons,List.map_nil,h1,h2,h3,h4];simp[Builtin.max_,Builtin.max2,e]
theorem c69{V:Mem}{d:Ds}(h:Ds.Ok V d):PP 69 [d.v] V (.bool (qKs d)):=by
 refine x69 ?_;generalize o:qKs d=X;have key:∀b:Bool,X=b->(xH (.bool b)=xH (.bool X)/\V=V):=λn h=>by simp_all
 unfold qKs at o;refine qAM d.measures.length (λi V1=>V=V1/\qAY msB d.measures i) ⟨rfl,qAY.zero _ _⟩ ?_;rintro i b V1 J q ⟨rfl,w⟩ y;refine⟨λk=>?_,λu=>?_⟩
 ·obtain⟨x,hm,j,l,m,f,z,g⟩:=h.measures.get k;have no:msB x=false->X=false:=λh=>by grind
  refine⟨f,z,k,_,_,_,_,_,_,_,g,c66.call ⟨_,rfl,λh1=>c66.call ⟨_,rfl,λh2=>⟨λh3=>key _ (no ?_),λh3=>⟨λh4=>key _ (no ?_),λh4=>(c106 (h.measuresOk x hm).x).call ⟨_,rfl,λr=>⟨h.measures.succ k,y m _ _ ⟨rfl,w.succ j ?_⟩⟩,λr=>key _ (no ?_)⟩⟩⟩,λh2=>key _ (no ?_)⟩,λh1=>key _ (no ?_)⟩⟩
  ·have:¬(-1099511627776<=x.nil/\x.nil<=1099511627776):=by omega
   simp[msB, *]
  ·have:¬(-1099511627776<=x.nil/\x.nil<=1099511627776):=by omega
   simp[msB, *]
  ·have:(-1099511627776<=x.nil/\x.nil<=1099511627776):=by omega
   simp[msB, *]
  all_goals simp[msB, *]
 have a1:=w.all (h.measures.done u).2;refine qAM d.invs.length (λi V1=>V=V1/\qAY ivB d.invs i) ⟨rfl,qAY.zero _ _⟩ ?_;rintro i b V1 J q ⟨rfl,w⟩ y;refine⟨λk=>?_,λu=>?_⟩
 ·obtain⟨x,hm,j,l,m,f,z,g⟩:=h.invs.get k;have no:ivB x=false->X=false:=λh=>by rw[<-o,all_false hm (by rw[h];simp)];simp
  refine⟨f,z,k,qAf f,_,_,_,_,_,_,g,c66.call ⟨_,rfl,λh1=>⟨f,z,k,qAf f,_,_,_,_,_,_,g,c107.call ⟨_,rfl,λh2=>⟨f,z,k,qAf f,_,_,_,_,_,_,g,(c106 (h.invsOk x hm)).call ⟨_,rfl,λr=>⟨h.invs.succ k,y m _ _ ⟨rfl,w.succ j ?_⟩⟩,λr=>key _ (no ?_)⟩⟩,λh2=>key _ (no ?_)⟩⟩,λh1=>key _ (no ?_)⟩⟩;all_goals simp[ivB, *]
 have a2:=w.all (h.invs.done u).2;refine qAM d.pots.length (λi V1=>V=V1/\qAY poB d.pots i) ⟨rfl,qAY.zero _ _⟩ ?_;rintro i b V1 J q ⟨rfl,w⟩ y;refine⟨λk=>?_,λu=>?_⟩
 ·obtain⟨x,hm,j,l,m,f,z,g⟩:=h.pots.get k;have no:poB x=false->X=false:=λh=>by grind
  refine⟨f,z,k,qAf f,_,_,_,_,_,g,c107.call ⟨_,rfl,λh2=>⟨f,z,k,qAf f,_,_,_,_,_,g,(c106 (h.potsOk x hm)).call ⟨_,rfl,λr=>⟨h.pots.succ k,y m _ _ ⟨rfl,w.succ j ?_⟩⟩,λr=>key _ (no ?_)⟩⟩,λh2=>key _ (no ?_)⟩⟩;all_goals simp[poB, *]
 have a3:=w.all (h.pots.done u).2;refine qAM d.bounds.length (λi V1=>V=V1/\qAY bdB d.bounds i) ⟨rfl,qAY.zero _ _⟩ ?_;rintro i b V1 J q ⟨rfl,w⟩ y;refine⟨λk=>?_,λu=>?_⟩
 ·obtain⟨x,hm,j,l,m,f,z,g⟩:=h.bounds.get k;have no:bdB x=false->X=false:=λh=>by grind
  refine⟨f,z,k,qAf f,_,_,_,_,_,g,c66.call ⟨_,rfl,λh2=>⟨f,z,k,qAf f,_,_,_,_,_,g,(c106 (h.boundsOk x hm)).call ⟨_,rfl,λr=>⟨h.bounds.succ k,y m _ _ ⟨rfl,w.succ j ?_⟩⟩,λr=>key _ (no ?_)⟩⟩,λh2=>key _ (no ?_)⟩⟩;all_goals simp[bdB, *]
 have p:=w.all (h.bounds.done u).2;simp_all
theorem c167{V:Mem}[Tab V]{d:Ds}(h:Ds.Ok V d):PP 167 [d.v] V (.bool (lensB d&&qKs d)):=by
 refine x167 ?_;have c:=h.measures.n_eq;have a:=h.invs.n_eq;have e:=h.pots.n_eq;have s:=h.bounds.n_eq;generalize o:(lensB d&&qKs d)=X;have key:∀b:Bool,X=b->(xH (.bool b)=xH (.bool X)/\V=V):=λn h=>by simp_all
 unfold qKs lensB at o;refine GenK.max4 (n1:=d.ms.n) (n2:=d.is.n) (n3:=d.qs.n) (n4:=d.bs.n) rfl rfl rfl rfl λG N Z Y W le=>⟨_,rfl,λH=>key _ ?_,λH=>?_⟩;·rw[<-o,decide_eq_false (by omega)];rfl
 rw[decide_eq_true (by omega),xT]at o;refine qAM d.measures.length (λi V1=>V=V1/\qAY msB d.measures i) ⟨rfl,qAY.zero _ _⟩ ?_;rintro i b V1 J p ⟨rfl,w⟩ z;refine⟨λk=>?_,λu=>?_⟩
 ·obtain⟨x,hm,y,j,l,m,r,g⟩:=h.measures.get k;have no:msB x=false->X=false:=λh=>by grind
  refine⟨m,r,k,_,_,_,_,_,_,_,g,c165.call ⟨_,rfl,λh1=>c165.call ⟨_,rfl,λh2=>⟨λh3=>key _ (no ?_),λh3=>⟨λh4=>key _ (no ?_),λh4=>(c204 (h.measuresOk x hm).x).call ⟨_,rfl,λq=>⟨h.measures.succ k,z l _ _ ⟨rfl,w.succ y ?_⟩⟩,λq=>key _ (no ?_)⟩⟩⟩,λh2=>key _ (no ?_)⟩,λh1=>key _ (no ?_)⟩⟩
  ·have:¬(-1099511627776<=x.nil/\x.nil<=1099511627776):=by omega
   simp[msB, *]
  ·have:¬(-1099511627776<=x.nil/\x.nil<=1099511627776):=by omega
   simp[msB, *]
  ·have:(-1099511627776<=x.nil/\x.nil<=1099511627776):=by omega
   simp[msB, *]
  all_goals simp[msB, *]
 have a1:=w.all (h.measures.done u).2;refine qAM d.invs.length (λi V1=>V=V1/\qAY ivB d.invs i) ⟨rfl,qAY.zero _ _⟩ ?_;rintro i b V1 J p ⟨rfl,w⟩ z;refine⟨λk=>?_,λu=>?_⟩
 ·obtain⟨x,hm,y,j,l,m,r,g⟩:=h.invs.get k;have no:ivB x=false->X=false:=λh=>by rw[<-o,all_false hm (by rw[h];simp)];simp
  refine⟨m,r,k,_,_,_,_,_,_,g,c165.call ⟨_,rfl,λh1=>c205.call ⟨_,rfl,λh2=>(c204 (h.invsOk x hm)).call ⟨_,rfl,λq=>⟨h.invs.succ k,z l _ _ ⟨rfl,w.succ y ?_⟩⟩,λq=>key _ (no ?_)⟩,λh2=>key _ (no ?_)⟩,λh1=>key _ (no ?_)⟩⟩;all_goals simp[ivB, *]
 have a2:=w.all (h.invs.done u).2;refine qAM d.pots.length (λi V1=>V=V1/\qAY poB d.pots i) ⟨rfl,qAY.zero _ _⟩ ?_;rintro i b V1 J p ⟨rfl,w⟩ z;refine⟨λk=>?_,λu=>?_⟩
 ·obtain⟨x,hm,y,j,l,m,r,g⟩:=h.pots.get k;have no:poB x=false->X=false:=λh=>by grind
  refine⟨m,r,k,_,_,_,_,_,g,c205.call ⟨_,rfl,λh2=>(c204 (h.potsOk x hm)).call ⟨_,rfl,λq=>⟨h.pots.succ k,z l _ _ ⟨rfl,w.succ y ?_⟩⟩,λq=>key _ (no ?_)⟩,λh2=>key _ (no ?_)⟩⟩;all_goals simp[poB, *]
 have a3:=w.all (h.pots.done u).2;refine(c206 (first:=[]) (caps:=[]) h.bounds Tryz.call207 (λf=>!bdB f) λf hm=>c207 (h.boundsOk f hm)).call ⟨_,rfl,key _ ?_⟩;simp_all[xU]
theorem c31{V:Mem}{d:Ds}(h:Ds.Ok V d):PP 31 [d.v] V (.bool (qAG d)):=by
 refine x31 ?_;have H:=h.measures.n_eq;have G:=h.invs.n_eq;have N:=h.pots.n_eq;have Z:=h.bounds.n_eq;have Y:=h.types.n_eq;have n6:=h.procs.n_eq;generalize m:qAG d=X;have key:∀b:Bool,X=b->(xH (.bool b)=xH (.bool X)/\V=V):=λn h=>by simp_all
 unfold qAG at m;have f:lensB d=false->X=false:=λh=>by simp_all
 refine c66.call ⟨_,rfl,λh1=>⟨λh2=>key _ ?_,λh2=>(c67 h.globals).call ⟨_,rfl,λh3=>⟨λh4=>key _ ?_,λh4=>⟨λu=>key _ (f ?_),λu=>⟨λc=>key _ (f ?_),λc=>⟨λa=>key _ (f ?_),λa=>⟨λe=>key _ (f ?_),λe=>?_⟩⟩⟩⟩⟩,λh3=>key _ ?_⟩⟩,λh1=>key _ ?_⟩;·grind
 ·grind
 ·exact decide_eq_false (by omega)
 ·exact decide_eq_false (by omega)
 ·exact decide_eq_false (by omega)
 ·exact decide_eq_false (by omega)
 ·have y:lensB d=true:=decide_eq_true (by omega);rw[h1,decide_eq_true (p:=(d.types.length:Int)<=12) (by omega),h3,decide_eq_true (p:=(d.procs.length:Int)<=40) (by omega),y]at m;simp only[xT]at m;refine qAM d.types.length (λi V1=>V=V1/\qAY tyB d.types i) ⟨rfl,qAY.zero _ _⟩ ?_;rintro i b V1 J s ⟨rfl,j⟩ r;refine⟨λk=>?_,λw=>?_⟩
  ·obtain⟨x,hm,q,o,y,z,l,g⟩:=h.types.get k;have no:tyB x=false->X=false:=λh=>by grind
   refine⟨z,l,k,qAf z,_,_,g,c66.call ⟨_,rfl,λh1=>⟨z,l,k,qAf z,_,_,g,(c67 (h.typesOk x hm).fields).call ⟨_,rfl,λu=>⟨h.types.succ k,r y _ _ ⟨rfl,j.succ q ?_⟩⟩,λu=>key _ (no ?_)⟩⟩,λh1=>key _ (no ?_)⟩⟩;all_goals simp[tyB, *]
  have a1:=j.all (h.types.done w).2;refine qAM d.procs.length (λi V1=>V=V1/\qAY prB d.procs i) ⟨rfl,qAY.zero _ _⟩ ?_;rintro i b V1 J s ⟨rfl,j⟩ r;refine⟨λk=>?_,λw=>?_⟩
  ·obtain⟨x,hm,q,o,y,z,l,g⟩:=h.procs.get k;have no:prB x=false->X=false:=λh=>by grind
   exact⟨z,l,k,_,_,_,_,_,g,(c68 (h.procsOk x hm)).call ⟨_,rfl,λu=>⟨h.procs.succ k,r y _ _ ⟨rfl,j.succ q u⟩⟩,λu=>key _ (no (eq_false_of_ne_true u))⟩⟩
  have a2:=j.all (h.procs.done w).2;refine(c69 h).call ⟨_,rfl,key _ ?_⟩;simp_all
 ·simp_all
 simp_all
theorem c120{V:Mem}[Tab V]{d:Ds}(h:Ds.Ok V d):PP 120 [d.v] V (.bool (qAG d)):=by
 refine x120 ?_;have w:=h.types.n_eq;have n6:=h.procs.n_eq;generalize k:qAG d=X;have key:∀b:Bool,X=b->(xH (.bool b)=xH (.bool X)/\V=V):=λn h=>by simp_all
 unfold qAG at k;refine c165.call ⟨_,rfl,λh1=>⟨λh2=>key _ ?_,λh2=>(c166 h.globals).call ⟨_,rfl,λh3=>⟨λh4=>key _ ?_,λh4=>(c167 h).call ⟨_,rfl,λg=>(c126 (first:=[]) (caps:=[]) h.types Tryz.call168 (λf=>!tyB f) λf hm=>c168 (h.typesOk f hm)).call ⟨_,rfl,λu=>key _ ?_,λu=>
   (c169 (first:=[]) (caps:=[]) h.procs Tryz.call170 (λf=>!prB f) λf hm=>c170 (h.procsOk f hm)).call ⟨_,rfl,key _ ?_⟩⟩,λg=>key _ ?_⟩⟩,λh3=>key _ ?_⟩⟩,λh1=>key _ ?_⟩
 ·grind
 ·grind
 ·grind[xU,tyB]
 ·grind
 ·grind
 ·simp_all
 simp_all
end Go.Proofs
namespace Go.Proofs
open Go Go.Sx
def qLt:KB:=qAo [110,105,108]
def sE:KB:=qAo []
def qBd(d:Ds)(s:KB):Bool:=d.types.any λt=>decide (t.name=s)
def qBl(d:Ds)(s:KB):Bool:=decide (s=qAT)||decide (s=qAz)||qBd d s
def qDW(d:Ds)(a b:KB):Bool:=decide (a=b)||(decide (a=qLt)&&qBd d b)
def qBU:List Fld->KB->KB
 |[],_=>sE
 |f::l,s=>if f.name=s then f.ty else qBU l s
def qKj(d:Ds)(s:KB):Option Ty:=d.types.find? λt=>decide (t.name=s)
def qFP(d:Ds)(s:KB):Option Pr:=d.procs.find? λt=>decide (t.name=s)
def meOf(d:Ds)(s:KB):Option Ms:=d.measures.find? λt=>decide (t.name=s)
def qCi(d:Ds)(t name:KB):KB×Int:=
 match qKj d t with
 |none=>(sE,11)
 |some ty=>if qBU ty.fields name=sE then(sE,9)else(qBU ty.fields name,0)
def qCB(d:Ds):List KB->List Fld->Bool
 |a::l,f::fs=>qDW d a f.ty&&qCB d l fs
 |_,_=>true
def qFS(d:Ds)(name:KB)(l:List KB):KB×Int:=
 match qFP d name with
 |none=>(sE,9)
 |some p=>if l.length≠p.params.length then(sE,3)else if qCB d l p.params=true then(p.result,0)else(sE,11)
def qDS(ok:Bool)(t:KB):KB×Int:=if ok=true then(t,0)else(sE,11)
structure Sc where
 vars:List Fld
 body:Bool
def qKq(d:Ds)(name:KB)(l:List KB):KB×Int:=
 match meOf d name with
 |none=>(sE,9)
 |some m=>if l.length≠1 then(sE,3)else qDS (qDW d (l.getD 0 sE) m.ty) qAT
def qIt(d:Ds)(sc:Sc)(name:KB)(l:List KB):KB×Int:=
 if sc.body=true then(if(qFS d name l).2=0/\(qFS d name l).1=sE then(sE,11)else qFS d name l)else qKq d name l
def allT(l:List KB)(t:KB):Bool:=l.all λx=>decide (x=t)
def qGh(d:Ds)(sc:Sc)(op:Int)(s:KB)(l:List KB):KB×Int:=
 if op=1 then(qAT,0)else if op=2 then(qAz,0)else if op=3 then(qLt,0)
 else if op=4 then(if qBU sc.vars s=sE then(sE,9)else(qBU sc.vars s,0))
 else if op=5 then qCi d (l.getD 0 sE) s
 else if op=6 then(if sc.body=false then(sE,13)else if qBd d s=false then(sE,9)else(s,0))
 else if op=7 then qIt d sc s l
 else if op=14∨op=15 then qDS (qDW d (l.getD 0 sE) (l.getD 1 sE)||qDW d (l.getD 1 sE) (l.getD 0 sE)) qAz
 else if op=16∨op=17 then qDS (allT l qAT) qAz
 else if op=18∨op=19∨op=20 then qDS (allT l qAz) qAz
 else if op=21 then qDS (decide (l.getD 0 sE=qAz)&&(qDW d (l.getD 1 sE) (l.getD 2 sE)||qDW d (l.getD 2 sE) (l.getD 1 sE))) (if l.getD 1 sE=qLt then l.getD 2 sE else l.getD 1 sE)
 else qDS (allT l qAT) qAT
mutual
def qAq(d:Ds)(sc:Sc):E->KB×Int
 |.mk op _ s _ k=>if(partsT d sc [] k).2≠0 then(sE,(partsT d sc [] k).2)else qGh d sc op s (partsT d sc [] k).1
def partsT(d:Ds)(sc:Sc)(acc:List KB):List E->List KB×Int
 |[]=>(acc,0)
 |x::xs=>if(qAq d sc x).2≠0 then([],(qAq d sc x).2)else partsT d sc (acc++[(qAq d sc x).1]) xs
end
theorem qIM(d:Ds)(sc:Sc)(e:E):qAq d sc e=if(partsT d sc [] e.k).2≠0 then(sE,(partsT d sc [] e.k).2)else qGh d sc e.op e.s (partsT d sc [] e.k).1:=by
 cases e;rfl
theorem qCl(d:Ds)(sc:Sc)(acc:List KB)(x:E)(xs:List E):partsT d sc acc (x::xs)=if(qAq d sc x).2≠0 then([],(qAq d sc x).2)else partsT d sc (acc++[(qAq d sc x).1]) xs:=by rw[partsT]
theorem qDj(d:Ds)(sc:Sc)(acc:List KB):partsT d sc acc []=(acc,0):=by rw[partsT]
theorem qHC(d:Ds)(sc:Sc):∀(k:List E)(acc:List KB),(partsT d sc acc k).2=0->(partsT d sc acc k).1.length=acc.length+k.length
 |[],acc,_=>by rfl
 |x::xs,acc,h=>by
  rw[qCl]at h⊢;split at h;·omega
  ·rename_i g;rw[if_neg g,qHC d sc xs _ h,List.length_append,zy,zy,List.length_nil];omega
def qAg(d:Ds)(p:Pr):Sc:=⟨p.params++p.locals++d.globals,true⟩
def sThisF:KB:=qAo [116,104,105,115]
def qAC(d:Ds)(t:KB):Sc:=⟨(if t=sE then[]else[⟨sThisF,t⟩])++d.globals,false⟩
def qBD(d:Ds)(p:Pr):Sc:=⟨p.params++d.globals,false⟩
def qEZ(d:Ds)(sc:Sc)(result:KB)(op:Int)(s:KB)(es:List E):Int:=
 if op=6 then
  match es with
  |[]=>0
  |e::_=>if(partsT d sc [] e.k).2≠0 then(partsT d sc [] e.k).2 else(qFS d e.s (partsT d sc [] e.k).1).2
 else if(partsT d sc [] es).2≠0 then(partsT d sc [] es).2
 else if op=1 then(if qBU sc.vars s=sE then 9 else if qDW d ((partsT d sc [] es).1.getD 0 sE) (qBU sc.vars s)=true then 0 else 11)
 else if op=2 then(if(qCi d ((partsT d sc [] es).1.getD 0 sE) s).2≠0 then(qCi d ((partsT d sc [] es).1.getD 0 sE) s).2 else if qDW d ((partsT d sc [] es).1.getD 1 sE) (qCi d ((partsT d sc [] es).1.getD 0 sE) s).1=true then 0 else 11)
 else if op=3∨op=4 then(if(partsT d sc [] es).1.getD 0 sE=qAz then 0 else 11)
 else if op=5 then(if(partsT d sc [] es).1.length=0 then(if result=sE then 0 else 11)else if result≠sE/\qDW d ((partsT d sc [] es).1.getD 0 sE) result=true then 0 else 11)
 else 0
mutual
def stT(d:Ds)(sc:Sc)(result:KB)(n:Int):S->Int×Int
 |.mk op s _ es _ ls _ xs=>
  if qEZ d sc result op s es≠0 then(n,qEZ d sc result op s es)
  else if(qBO d sc result (n+1) ls).2≠0 then qBO d sc result (n+1) ls
  else qBO d sc result (qBO d sc result (n+1) ls).1 xs
def qBO(d:Ds)(sc:Sc)(result:KB)(n:Int):List S->Int×Int
 |[]=>(n,0)
 |x::xs=>if(stT d sc result n x).2≠0 then stT d sc result n x else qBO d sc result (stT d sc result n x).1 xs
end
theorem stT_eq(d:Ds)(sc:Sc)(result:KB)(n:Int)(x:S):stT d sc result n x=if qEZ d sc result x.op x.s x.es≠0 then(n,qEZ d sc result x.op x.s x.es)else if(qBO d sc result (n+1) x.ls).2≠0 then qBO d sc result (n+1) x.ls else qBO d sc result (qBO d sc result (n+1) x.ls).1 x.xs:=by
 cases x;unfold stT;rfl
theorem qGD(d:Ds)(sc:Sc)(result:KB)(n:Int)(x:S)(xs:List S):qBO d sc result n (x::xs)=if(stT d sc result n x).2≠0 then stT d sc result n x else qBO d sc result (stT d sc result n x).1 xs:=by rw[qBO]
theorem stsT_nil(d:Ds)(sc:Sc)(result:KB)(n:Int):qBO d sc result n []=(n,0):=by rw[qBO]
def qES(d:Ds)(l:List Fld)(i:Nat)(f:Fld):Int:=if(l.take i).any (λg=>decide (g.name=f.name))=true then 10 else if qBl d f.ty=true then 0 else 9
def qAk{α β:Type}(f:Nat->α->Option β):Nat->List α->Option β
 |_,[]=>none
 |i,x::xs=>match f i x with|some b=>some b|none=>qAk f (i+1) xs
def qCD(d:Ds)(l:List Fld):Int:=(qAk (λi f=>if qES d l i f≠0 then some (qES d l i f)else none) 0 l).getD 0
abbrev Flt:=KB×Int×Int
def types1(d:Ds):Option Flt:=qAk (λi t=>if(d.types.take i).any (λg=>decide (g.name=t.name))=true then some (t.name,-1,10)else none) 0 d.types
def types2(d:Ds):Option Flt:=qAk (λ_ t=>if qCD d t.fields≠0 then some (t.name,-1,qCD d t.fields)else none) 0 d.types
def types3(d:Ds):Option Flt:=qAk (λi f=>if qES d d.globals i f≠0 then some (f.name,-1,qES d d.globals i f)else none) 0 d.globals
def qFT(d:Ds):Option Flt:=(types1 d).or ((types2 d).or (types3 d))
def qEQ(d:Ds):Option Flt:=qAk (λi p=>if(d.procs.take i).any (λg=>decide (g.name=p.name))=true then some (p.name,-1,10)else if qCD d (p.params++p.locals)≠0 then some (p.name,-1,qCD d (p.params++p.locals))else if p.result≠sE/\qBl d p.result=false then some (p.name,-1,9)else none) 0 d.procs
def form1(d:Ds):Option Flt:=qAk (λi m=>if(d.measures.take i).any (λg=>decide (g.name=m.name))=true then some (m.name,-1,10)else if qBd d m.ty=false then some (m.name,-1,9)else none) 0 d.measures
def form2(d:Ds):Option Flt:=qAk (λi m=>if(d.invs.take i).any (λg=>decide (g.name=m.name))=true then some (m.name,-1,10)else if m.ty≠sE/\qBd d m.ty=false then some (m.name,-1,9)else none) 0 d.invs
def sPot:KB:=qAo [112,111,116,101,110,116,105,97,108]
def form3(d:Ds):Option Flt:=qAk (λ_ m=>if m.ty≠sE/\qBd d m.ty=false then some (sPot,-1,9)else none) 0 d.pots
def form4(d:Ds):Option Flt:=qAk (λi b=>if(qFP d b.proc).isNone=true then some (b.proc,-1,9)else if(d.bounds.take i).any (λg=>decide (g.proc=b.proc))=true then some (b.proc,-1,10)else none) 0 d.bounds
def qEV(d:Ds):Option Flt:=(form1 d).or ((form2 d).or ((form3 d).or (form4 d)))
def qCJ(d:Ds):Option Flt:=qAk (λ_ p=>if(qBO d (qAg d p) p.result 0 p.body).2≠0 then some (p.name,(qBO d (qAg d p) p.result 0 p.body).1,(qBO d (qAg d p) p.result 0 p.body).2)else none) 0 d.procs
def qBv(d:Ds)(sc:Sc)(e:E)(t:KB):Int:=if(qAq d sc e).2≠0 then(qAq d sc e).2 else if(qAq d sc e).1=t then 0 else 11
def exp1(d:Ds):Option Flt:=qAk (λ_ m=>if qBv d (qAC d m.ty) m.x qAT≠0 then some (m.name,-1,qBv d (qAC d m.ty) m.x qAT)else none) 0 d.measures
def exp2(d:Ds):Option Flt:=qAk (λ_ m=>if qBv d (qAC d m.ty) m.x qAz≠0 then some (m.name,-1,qBv d (qAC d m.ty) m.x qAz)else none) 0 d.invs
def exp3(d:Ds):Option Flt:=qAk (λ_ m=>if qBv d (qAC d m.ty) m.x qAT≠0 then some (sPot,-1,qBv d (qAC d m.ty) m.x qAT)else none) 0 d.pots
def prD:Pr:=⟨sE,⟨none,0,0⟩,[],sE,⟨none,0,0⟩,[],⟨none,0,0⟩,[]⟩
def exp4(d:Ds):Option Flt:=qAk (λ_ m=>if qBv d (qBD d ((qFP d m.proc).getD prD)) m.x qAT≠0 then some (m.proc,-1,qBv d (qBD d ((qFP d m.proc).getD prD)) m.x qAT)else none) 0 d.bounds
def qHH(d:Ds):Option Flt:=(exp1 d).or ((exp2 d).or ((exp3 d).or (exp4 d)))
def qIj(d:Ds):Option Flt:=(qFT d).or ((qEQ d).or ((qEV d).or ((qCJ d).or (qHH d))))
def fltR(o:Option Flt):Flt:=o.getD (sE,0,0)
end Go.Proofs
namespace Go.Proofs
open Go Go.Sx
attribute [local irreducible] Go.Sx.Tri
noncomputable def ti(t:Nat):TypeInfo:=(xE.info? t).getD default
section
variable{α:Type}
def AppP(t e sz:Nat)(row:α->List Value):Prop:=∀{V0 V:Mem}{ty:Nat}{x y:Operand}{vals:Operand->Value}{s u:Sl}{xs ys:List α}(g:vals x=.slice s.p s.n s.c)(f:vals y=.slice u.p u.n u.c)(own:Sx.Own V0 V e sz s (xs.flatMap row))(h:qAc V u sz (ys.map row))
 (k:xs.length+ys.length<=2147483648) {q:Value->Mem->Prop} (w:∀s' V',Sx.Own V0 V' e sz s' ((xs++ys).flatMap row)->q (.slice s'.p s'.n s'.c) V'),
 GenK xE (.call {callee:=.builtin .append,args:=#[x,y],argTypes:=#[t,t]}) ty vals V q
theorem appG{t e sz:Nat}{row:α->List Value}(g:xE.underlying t=some (.slice e))(hi:xE.info? e=some (ti e))(f:(ti e).zero=some ((ti e).zero.getD undef))(h1:(ti e).size=sz)(h2:((ti e).zero.getD undef).cells.size=sz)(h3:decide ((ti e).bytes<=65536)=true)
  (h0:0<sz) (w:∀x,(row x).length=sz) (hu:∀x,∀u∈row x,u.oneCell'=true):AppP t e sz row:=by
 intro V0 V ty x y vals s u xs ys z j own h k q i;exact GenK.appendS g hi f h1 h2 h0 (of_decide_eq_true h3) z j own w h hu k i
end
theorem app220:AppP 220 9 1 qBk:=appG Tryz.underlying220 (by kernel_rfl) (by kernel_rfl) (by kernel_rfl) (by kernel_rfl) (by kernel_rfl) (by decide) (by intro _;rfl) λx u hu=>by simp[qBk,vS]at hu;rw[hu];rfl
theorem qHg:AppP 23 101 2 Fld.row:=appG Tryz.underlying23 (by kernel_rfl) (by kernel_rfl) (by kernel_rfl) (by kernel_rfl) (by kernel_rfl) (by decide) (by intro _;rfl) λx u hu=>by simp[Fld.row,vS]at hu;rcases hu with rfl|rfl<;>rfl
def qHG{α:Type}(p:α->Bool)(xs:List α):Int:=match xs.findIdx? p with|some i=>(i:Int)|none=>-1
theorem qCH{α:Type}{p:α->Bool}{xs:List α}{i:Nat}{x:α}(h:qAY (λy=>!p y) xs i)(k:xs[i]?=some x)(u:p x=true):qHG p xs=i:=by
 have g:=(yv.1 k).1;have w:=(yv.1 k).2;have:xs.findIdx? p=some i:=yg.2 ⟨g,by grind,λj f=>by
  have:=h j _ f (yu (Nat.lt_trans f g));simpa using this⟩
 unfold qHG;rw[this]
theorem qDv{α:Type}{p:α->Bool}{xs:List α}{i:Nat}(h:qAY (λy=>!p y) xs i)(hi:xs.length<=i):qHG p xs=-1:=by
 have:xs.findIdx? p=none:=List.findIdx?_eq_none_iff.2 λx k=>by
  obtain⟨j,g,rfl⟩:=yd.1 k;have:=h j _ (by omega) (yu g);simpa using this
 unfold qHG;rw[this]
theorem qAL{α:Type}(p:α->Bool)(xs:List α):(qHG p xs=-1/\xs.find? p=none/\xs.any p=false)∨∃(i:Nat)(x:α),qHG p xs=i/\xs[i]?=some x/\xs.find? p=some x/\i<xs.length/\p x=true/\x∈xs/\xs.any p=true/\(xs.take i).any p=false:=by
 cases h:xs.findIdx? p with
 |none=>
  grind[qHG]
 |some i=>
  obtain⟨k,g,u⟩:=yg.1 h;refine .inr ⟨i,xs[i],by unfold qHG;rw[h],yu k,?_,k,g,yo _,List.any_eq_true.2 ⟨_,yo _,g⟩,?_⟩
  ·rw[List.find?_eq_some_iff_getElem];grind
  ·rw[List.any_eq_false];intro x f;obtain⟨j,w,rfl⟩:=yd.1 f;grind
theorem qCm{α:Type}{p:α->Bool}{xs:List α}{i:Nat}{x:α}(h:qAY (λy=>!p y) xs i)(k:xs[i]?=some x)(g:p x=false):qAY (λy=>!p y) xs (i+1):=h.succ k (by simp[g])
theorem c85{V:Mem}{d:Ds}(h:Ds.Ok V d){s:KB}:PP 85 [d.v,.string s] V (.int .i64 (qHG (λt=>decide (t.name=s)) d.types)):=by
 refine x85 ?_;refine qAM d.types.length (λi V1=>V=V1/\qAY (λt=>!decide (t.name=s)) d.types i) ⟨rfl,qAY.zero _ _⟩ ?_;rintro i b V1 J r ⟨rfl,f⟩ j;refine⟨λk=>?_,λu=>?_⟩
 ·obtain⟨x,hm,z,l,n,y,m,g⟩:=h.types.get k;refine⟨y,m,k,qAf y,_,_,g,λw=>?_,λw=>⟨h.types.succ k,j n _ _ ⟨rfl,qCm (p:=λt=>decide (t.name=s)) f z (decide_eq_false w)⟩⟩⟩;rw[qCH (p:=λt=>decide (t.name=s)) f z (decide_eq_true w)];simp_all
 ·rw[qDv (p:=λt=>decide (t.name=s)) f (h.types.done u).2];exact⟨rfl,rfl⟩
theorem c136{V:Mem}{d:Ds}(h:Ds.Ok V d){s:KB}:PP 136 [d.v,.string s] V (.int .i64 (qHG (λt=>decide (t.name=s)) d.procs)):=by
 refine x136 ?_;refine qAM d.procs.length (λi V1=>V=V1/\qAY (λt=>!decide (t.name=s)) d.procs i) ⟨rfl,qAY.zero _ _⟩ ?_;rintro i b V1 J r ⟨rfl,f⟩ j;refine⟨λk=>?_,λu=>?_⟩
 ·obtain⟨x,hm,z,l,n,y,m,g⟩:=h.procs.get k;refine⟨y,m,k,qAf y,_,_,_,_,_,g,λw=>?_,λw=>⟨h.procs.succ k,j n _ _ ⟨rfl,qCm (p:=λt=>decide (t.name=s)) f z (decide_eq_false w)⟩⟩⟩;rw[qCH (p:=λt=>decide (t.name=s)) f z (decide_eq_true w)];simp_all
 ·rw[qDv (p:=λt=>decide (t.name=s)) f (h.procs.done u).2];exact⟨rfl,rfl⟩
theorem c152{V:Mem}{d:Ds}(h:Ds.Ok V d){s:KB}:PP 152 [d.v,.string s] V (.int .i64 (qHG (λt=>decide (t.name=s)) d.measures)):=by
 refine x152 ?_;refine qAM d.measures.length (λi V1=>V=V1/\qAY (λt=>!decide (t.name=s)) d.measures i) ⟨rfl,qAY.zero _ _⟩ ?_;rintro i b V1 J r ⟨rfl,f⟩ j;refine⟨λk=>?_,λu=>?_⟩
 ·obtain⟨x,hm,z,l,n,y,m,g⟩:=h.measures.get k;refine⟨y,m,k,qAf y,_,_,_,_,_,_,_,g,λw=>?_,λw=>⟨h.measures.succ k,j n _ _ ⟨rfl,qCm (p:=λt=>decide (t.name=s)) f z (decide_eq_false w)⟩⟩⟩;rw[qCH (p:=λt=>decide (t.name=s)) f z (decide_eq_true w)];simp_all
 ·rw[qDv (p:=λt=>decide (t.name=s)) f (h.measures.done u).2];exact⟨rfl,rfl⟩
section
variable{V:Mem}{d:Ds}
theorem c153(h:Ds.Ok V d){s:KB}:PP 153 [d.v,.string s] V (.bool (qBd d s)):=by
 refine x153 ?_;refine(c85 h).call ⟨_,rfl,?_⟩;rcases qAL (λt:Ty=>decide (t.name=s)) d.types with⟨h1,h2,h3⟩|⟨i,x,h1,h2,h3,h4,g,f,k,_⟩;·rw[h1,qBd,h3];exact⟨rfl,rfl⟩
 ·rw[h1,qBd,k,decide_eq_true (by omega)];exact⟨rfl,rfl⟩
theorem c151(h:Ds.Ok V d){s:KB}:PP 151 [d.v,.string s] V (.bool (qBl d s)):=by
 refine x151 ?_;refine⟨λh1=>?_,λh1=>⟨λh2=>?_,λh2=>(c153 h).call ⟨_,rfl,?_⟩⟩⟩<;>simp[qBl,qAT,qAz, *]
theorem c187(h:Ds.Ok V d){s t:KB}:PP 187 [d.v,.string s,.string t] V (.bool (qDW d s t)):=by
 refine x187 ?_;unfold qDW qLt;refine⟨λh1=>?_,λh1=>⟨λh2=>(c153 h).call ⟨_,rfl,?_⟩,λh2=>?_⟩⟩;·simp_all
 ·simp_all
 simp_all
theorem qKW(fs:List Fld):qCB d [] fs=true:=by simp[qCB]
theorem c186{l:Sl}{xs:List Fld}(h:qAc V l 2 (xs.map Fld.row)){s:KB}:PP 186 [l.v,.string s] V (.string (qBU xs s)):=by
 refine x186 ?_;refine qAM xs.length (λi V1=>V=V1/\qBU xs s=qBU (xs.drop i) s) ⟨rfl,rfl⟩ ?_;rintro i b V1 J r ⟨rfl,z⟩ j;refine⟨λk=>?_,λu=>?_⟩
 ·obtain⟨x,hm,q,w,n,f,y,g⟩:=h.get k;rw[w,qBU]at z;refine⟨f,y,k,qAf f,_,_,g,λm=>⟨f,y,k,qAf f,_,_,g,?_⟩,λm=>⟨h.succ k,j n _ _ ⟨rfl,?_⟩⟩⟩;·simp_all
  simp_all
 ·rw[z,(h.done u).1];exact⟨rfl,rfl⟩
theorem c188(h:Ds.Ok V d){s t:KB}:PP 188 [d.v,.string s,.string t] V (.tuple #[.string (qCi d s t).1,.int .i64 (qCi d s t).2]):=by
 refine x188 ?_;refine(c85 h).call ⟨_,rfl,?_⟩;unfold qCi qKj;rcases qAL (λt:Ty=>decide (t.name=s)) d.types with⟨h1,h2,h3⟩|⟨i,x,h1,h2,h3,h4,m,w,r,_⟩;·rw[h1,h2];exact⟨λ_=>⟨rfl,rfl⟩,λh=>absurd h (by decide)⟩
 ·rw[h1,h3];have q:=h.types.n_eq;have k:(i:Int)<(d.ts.n:Int):=by omega
  obtain⟨y,hm,f,z,o,u,j,g⟩:=h.types.get k;rw[h2]at f;cases f;refine⟨λh=>absurd h (by omega),λ_=>⟨u,j,k,qAf u,_,_,g,(c186 (h.typesOk x w).fields).call ⟨_,rfl,λl=>?_,λl=>?_⟩⟩⟩;·grind[sE]
  grind[sE]
theorem c216{b:Bool}{s:KB}:PP 216 [.bool b,.string s] V (.tuple #[.string (qDS b s).1,.int .i64 (qDS b s).2]):=by
 refine x216 ?_;refine⟨λh=>?_,λh=>?_⟩;·unfold qDS;rw[if_pos h];exact⟨rfl,rfl⟩
 ·unfold qDS;rw[if_neg h];exact⟨rfl,rfl⟩
theorem c217{l:Sl}{xs:List KB}(h:qAc V l 1 (xs.map qBk)){s:KB}:PP 217 [l.v,.string s] V (.bool (allT xs s)):=by
 refine x217 ?_;refine qAM xs.length (λi V1=>V=V1/\qAY (λx=>decide (x=s)) xs i) ⟨rfl,qAY.zero _ _⟩ ?_;rintro i b V1 J q ⟨rfl,u⟩ z;refine⟨λk=>?_,λf=>?_⟩
 ·obtain⟨x,hm,y,j,n,m,r,g⟩:=h.get k;refine⟨m,r,k,_,g,λw=>⟨h.succ k,z n _ _ ⟨rfl,u.succ y (decide_eq_true w)⟩⟩,λw=>?_⟩;unfold allT;grind
 ·unfold allT;rw[u.all (h.done f).2];simp_all
theorem c184(h:Ds.Ok V d){s:KB}{l:Sl}{xs:List KB}(o:qAc V l 1 (xs.map qBk)):PP 184 [d.v,.string s,l.v] V (.tuple #[.string (qFS d s xs).1,.int .i64 (qFS d s xs).2]):=by
 refine x184 ?_;refine(c136 h).call ⟨_,rfl,?_⟩;unfold qFS qFP;rcases qAL (λt:Pr=>decide (t.name=s)) d.procs with⟨h1,h2,h3⟩|⟨i,x,h1,h2,h3,h4,D,Q,E,_⟩;·rw[h1,h2];exact⟨λ_=>⟨rfl,rfl⟩,λh=>absurd h (by decide)⟩
 ·rw[h1,h3];have K:=h.procs.n_eq;have k:(i:Int)<(d.ps.n:Int):=by omega
  obtain⟨y,hm,Y,P,O,A,I,z⟩:=h.procs.get k;rw[h2]at Y;cases Y;have m:=h.procsOk x Q;have S:=o.n_eq;have T:=m.params.n_eq;refine⟨λh=>absurd h (by omega),λ_=>⟨A,I,k,_,_,_,_,_,z,λM=>?_,λM=>?_⟩⟩
  ·have g:xs.length=x.params.length:=by omega
   simp only[g,ne_eq,not_true_eq_false,if_false];refine qEz xs.length (λi V1=>V=V1/\qCB d xs x.params=qCB d (xs.drop i) (x.params.drop i)) ⟨rfl,rfl⟩ ?_;rintro j b c V1 J U ⟨rfl,p⟩ F;refine⟨λk=>?_,λa=>?_⟩
   ·obtain⟨y,L,R,r,e,H,G,u⟩:=o.get k;obtain⟨f,X,B,N,C,q,Z,w⟩:=m.params.get (i:=j) (by omega);rw[r,N,qCB]at p;refine⟨H,G,k,_,u,q,Z,by omega,qAf q,_,_,w,(c187 h).call ⟨_,rfl,λW=>⟨o.succ k,F e _ _ _ ⟨rfl,?_⟩⟩,λW=>?_⟩⟩;·simp_all
    ·rw[eq_false_of_ne_true W,xV]at p;rw[p];exact⟨rfl,rfl⟩
   ·rw[(o.done a).1,qKW]at p;simp_all
  ·have g:¬xs.length=x.params.length:=by omega
   simp only[ne_eq,g,not_false_eq_true,if_true];exact⟨by rfl,by simp_all⟩
theorem qEN{l:Sl}{xs:List KB}(u:qAc V l 1 (xs.map qBk)){i:Nat}(hi:i<xs.length):¬(l.p=none)/\(i:Int)<(l.n:Int)/\V.rowp l.p i 1=some [.string (xs.getD i sE)]:=by
 have m:=u.n_eq;have k:(i:Int)<(l.n:Int):=by omega
 obtain⟨y,z,g,w,x,f,j,h⟩:=u.get k;rw[List.getD_eq_getElem?_getD,g];rw[Nat.mul_one]at h;exact⟨f,k,h⟩
theorem c215(h:Ds.Ok V d){sl:Sl}{sc:Sc}{s:KB}{l:Sl}{xs:List KB}(w:qAc V l 1 (xs.map qBk)):
  PP 215 [d.v,.agg #[sl.v,.bool sc.body],.string s,l.v] V (.tuple #[.string (qIt d sc s xs).1,.int .i64 (qIt d sc s xs).2]):=by
 refine x215 ?_;refine⟨λg=>(c184 h w).call ⟨_,_,rfl,λh0=>⟨λh1=>?_,λh1=>?_⟩,λh0=>?_⟩,λg=>?_⟩;·unfold qIt sE;rw[if_pos g,if_pos ⟨h0,h1⟩];exact⟨rfl,rfl⟩
 ·unfold qIt sE;rw[if_pos g,if_neg (λh=>h1 h.2)];exact⟨rfl,rfl⟩
 ·unfold qIt;rw[if_pos g,if_neg (λh=>h0 h.1)];exact⟨rfl,rfl⟩
 ·unfold qIt;rw[if_neg g];refine(c152 h).call ⟨_,rfl,?_⟩;unfold qKq meOf;rcases qAL (λt:Ms=>decide (t.name=s)) d.measures with⟨h1,h2,h3⟩|⟨i,x,h1,h2,h3,h4,p,c,a,_⟩;·rw[h1,h2];exact⟨λ_=>⟨rfl,rfl⟩,λh=>absurd h (by decide)⟩
  ·rw[h1,h3];have e:=h.measures.n_eq;have f:(i:Int)<(d.ms.n:Int):=by omega
   obtain⟨y,hm,z,m,r,j,q,u⟩:=h.measures.get f;rw[h2]at z;cases z;have H:=w.n_eq;refine⟨λh=>absurd h (by omega),λ_=>⟨λo=>?_,λo=>?_⟩⟩
   ·have k:xs.length=1:=by omega
    obtain⟨a1,a2,a3⟩:=qEN w (i:=0) (by omega);simp only[k,ne_eq,not_true_eq_false,if_false];exact⟨a1,by omega,by omega,_,a3,j,q,f,qAf j,_,_,_,_,_,_,_,u,(c187 h).call ⟨_,rfl,c216.call ⟨_,_,rfl,rfl,rfl⟩⟩⟩
   ·have k:¬xs.length=1:=by omega
    simp only[ne_eq,k,not_false_eq_true,if_true];exact⟨by rfl,by simp_all⟩
end
theorem arity{op n:Int}{s:KB}{len:Int}(h:qDR op n s len=true):(op=5->len=1)/\(op=14∨op=15->len=2)/\(op=21->len=3)/\len<=6:=by
 grind[qDR,qAW]
theorem qGO{d:Int}{e:E}(h:okE d e=true):qDR e.op e.n e.s e.k.length=true:=by
 cases e;unfold okE at h;rw[zC,zC]at h;exact h.1.2
theorem okEs_mem{d:Int}:∀{l:List E},okEs d l=true->∀x∈l,okE d x=true
 |[],_,x,k=>absurd k List.not_mem_nil
 |y::l,h,x,k=>by
  unfold okEs at h;rw[zC]at h;rcases List.mem_cons.1 k with rfl|k;·exact h.1
  ·exact okEs_mem h.2 x k
theorem qIF{d:Int}{e:E}(h:okE d e=true):∀x∈e.k,okE (d+1) x=true:=by
 cases e;unfold okE at h;rw[zC]at h;exact okEs_mem h.2
theorem ownS{V0 V:Mem}{s:Sl}{l:List KB}(h:Own V0 V 9 1 s (l.flatMap qBk)):qAc V s 1 (l.map qBk):=h.rows (λ_=>rfl) (by decide)
theorem qJn{V:Mem}{b:Nat}{s:KB}{t:Nat}(h:V b=some (.cells #[.string s] t (0,0))):qAc V ⟨some ⟨b,0,none⟩,1,1⟩ 1 ([s].map qBk):=
 qAc.cells (xs:=[s]) (row:=qBk) h rfl (λ_=>rfl) rfl (by simp)
def scV(sl:Sl)(sc:Sc):Value:=.agg #[sl.v,.bool sc.body]
section
variable{V:Mem}{d:Ds}{sc:Sc}{sl:Sl}
def RefE(V:Mem)(d:Ds)(sl:Sl)(sc:Sc)(e:E):Prop:=∀V1,V.sub V1->PP 185 [d.v,scV sl sc,e.v] V1 (.tuple #[.string (qAq d sc e).1,.int .i64 (qAq d sc e).2])
theorem refParts(e:E)(H:E.Ok V e)(a:(e.k.length:Int)<=6)(G:∀x∈e.k,RefE V d sl sc x):
  Tri xE 183 #[d.v,scV sl sc,e.v] V λr V'=>∃s':Sl,r=.returned (.tuple #[.slice s'.p s'.n s'.c,.int .i64 (partsT d sc [] e.k).2])/\V.sub V'/\qAc V' s' 1 ((partsT d sc [] e.k).1.map qBk):=by
 have N:=H.rows;refine x183 ?_;refine loop4s (mk:=λs:Sl=>.slice s.p s.n s.c) (mc:=.int .i64) (md:=λs:Sl=>.slice s.p s.n s.c) ⟨none,0,0⟩ 0 ⟨none,0,0⟩ qAH e.k.length (λi s V1=>∃acc,Own V V1 9 1 s (acc.flatMap qBk)/\partsT d sc [] e.k=partsT d sc acc (e.k.drop i)/\acc.length=i) ⟨[],Own.nil (Mem.sub.refl _) _ _,rfl,rfl⟩ ?_;rintro i b c s V1 J P ⟨acc,g,f,w⟩ Z;have z:=N.sub g.sub;refine⟨λy=>?_,λl=>?_⟩
 ·obtain⟨x,hm,O,m,Y,q,W,j⟩:=z.get y;rw[m,qCl]at f;refine⟨q,W,y,_,_,_,_,j,(G x hm V1 g.sub).call ⟨_,_,rfl,λh0=>?_,λh0=>?_⟩⟩
  ·intro b1 o;rw[if_neg (λh=>h h0)]at f;refine app220 (s:=s) (u:=⟨some ⟨b1,0,none⟩,1,1⟩) (xs:=acc) (ys:=[(qAq d sc x).1]) rfl rfl (g.new o _) (qJn mss) (by simp;omega) λs' V' Q=>⟨s',rfl,z.succ y,Z Y _ _ _ _ ⟨_,Q,f,by simp[w]⟩⟩
  ·rw[if_pos h0]at f;exact⟨⟨none,0,0⟩,by rw[f],g.sub,by rw[f];exact qAc.nil⟩
 ·rw[(z.done l).1,qDj]at f;exact⟨s,by rw[f],g.sub,by grind[ownS]⟩
set_option maxRecDepth 4000 in
theorem qLB(U:Ds.Ok V d)(A:qAc V sl 2 (sc.vars.map Fld.row)):∀(e:E),E.Ok V e->∀I,okE I e=true->RefE V d sl sc e:=by
 intro e;induction e using E.ind with
 |h e ih=>
 intro T I Z V1 O;have p:=arity (qGO Z);have hk:∀x∈e.k,RefE V1 d sl sc x:=λx M V2 h2=>ih x M (T.kids x M) (I+1) (qIF Z x M) V2 (O.trans h2);refine Pur.mk (x185 ?_);refine Tri.mono (refParts e (T.sub O) p.2.2.2 hk) ?_;rintro _ V2 ⟨s',rfl,c,g⟩;rw[qIM];have q:=qHC d sc e.k [];generalize hPT:partsT d sc [] e.k=pt at g q;obtain⟨l,f⟩:=pt;refine⟨s',f,rfl,λh0=>?_,λh0=>?_⟩
 ·subst h0;have q:l.length=e.k.length:=by simp_all
  simp only[ne_eq,not_true_eq_false,if_false];have m:=U.sub (O.trans c);have Y:=A.sub (O.trans c);generalize w:qGh d sc e.op e.s l=X;have key:∀a b,X=(a,b)->(xH (.tuple #[.string a,.int .i64 b])=xH (.tuple #[.string X.1,.int .i64 X.2])/\V1.sub V2):=λa b h=>by simp_all
  have j:=λt=>c217 g (s:=t);have u:=λa b=>c187 m (s:=a) (t:=b);have v:=λh:0<l.length=>qEN g h;have at1:=λh:1<l.length=>qEN g h;have at2:=λh:2<l.length=>qEN g h;unfold qGh at w;refine⟨λz=>key _ _ ?_,λz=>⟨λy=>key _ _ ?_,λy=>⟨λi=>key _ _ ?_,λi=>⟨λn=>?_,λn=>⟨λr=>?_,λr=>⟨λo=>?_,λo=>⟨λH=>?_,λH=>⟨λF=>?_,λF=>⟨λL=>?_,λL=>⟨λR=>?_,λR=>⟨λB=>?_,λB=>⟨λC=>?_,λC=>⟨λD=>?_,λD=>⟨λK=>?_,λK=>⟨λJ=>?_,λJ=>?_⟩⟩⟩⟩⟩⟩⟩⟩⟩⟩⟩⟩⟩⟩⟩;·rw[<-w,if_pos z];rfl
  ·rw[<-w,if_neg z,if_pos y];rfl
  ·rw[<-w,if_neg z,if_neg y,if_pos i];rfl
  ·rw[if_neg z,if_neg y,if_neg i,if_pos n]at w;refine(c186 Y).call ⟨_,rfl,λh=>key _ _ ?_,λh=>key _ _ ?_⟩;·grind[qBU,sE]
   grind[qBU,sE]
  ·rw[if_neg z,if_neg y,if_neg i,if_neg n,if_pos r]at w;obtain⟨a1,a2,a3⟩:=v (by omega);exact⟨a1,by omega,a2,_,a3,(c188 m).call ⟨_,_,rfl,key _ _ (by rw[<-w])⟩⟩
  ·rw[if_neg z,if_neg y,if_neg i,if_neg n,if_neg r,if_pos o]at w;refine⟨λS=>(c153 m).call ⟨_,rfl,λN=>key _ _ ?_,λN=>key _ _ ?_⟩,λS=>key _ _ ?_⟩;·simp_all
   ·rw[<-w,if_neg (by rw[S];simp),if_pos (eq_false_of_ne_true N)];rfl
   ·rw[<-w,if_pos (eq_false_of_ne_true S)];rfl
  ·rw[if_neg z,if_neg y,if_neg i,if_neg n,if_neg r,if_neg o,if_pos H]at w;exact(c215 m (sl:=sl) g).call ⟨_,_,rfl,key _ _ (by rw[<-w])⟩
  iterate 2
   ·rw[if_neg z,if_neg y,if_neg i,if_neg n,if_neg r,if_neg o,if_neg H,if_pos (by omega)]at w;obtain⟨a1,a2,a3⟩:=v (by have:=p.2.1 (by omega);omega);obtain⟨b1,b2,b3⟩:=at1 (by have:=p.2.1 (by omega);omega);refine⟨a1,by omega,a2,_,a3,b1,by omega,b2,_,b3,(u _ _).call ⟨_,rfl,λh=>c216.call ⟨_,_,rfl,key _ _ ?_⟩,λh=>⟨b1,by omega,b2,_,b3,a1,by omega,a2,_,a3,(u _ _).call ⟨_,rfl,c216.call ⟨_,_,rfl,key _ _ ?_⟩⟩⟩⟩⟩;·rw[<-w,h];rfl
    ·rw[<-w,eq_false_of_ne_true h];rfl
  iterate 2
   ·rw[if_neg z,if_neg y,if_neg i,if_neg n,if_neg r,if_neg o,if_neg H,if_neg (by omega),if_pos (by omega)]at w;exact(j _).call ⟨_,rfl,c216.call ⟨_,_,rfl,key _ _ (by rw[<-w];rfl)⟩⟩
  iterate 3
   ·rw[if_neg z,if_neg y,if_neg i,if_neg n,if_neg r,if_neg o,if_neg H,if_neg (by omega),if_neg (by omega),if_pos (by omega)]at w;exact(j _).call ⟨_,rfl,c216.call ⟨_,_,rfl,key _ _ (by rw[<-w];rfl)⟩⟩
  ·rw[if_neg z,if_neg y,if_neg i,if_neg n,if_neg r,if_neg o,if_neg H,if_neg (by omega),if_neg (by omega),if_neg (by omega),if_pos J]at w;obtain⟨a1,a2,a3⟩:=v (by omega);obtain⟨b1,b2,b3⟩:=at1 (by omega);obtain⟨W,Q,c3⟩:=at2 (by omega);have P:∀t,(if l.getD 1 sE=qLt then l.getD 2 sE else l.getD 1 sE)=t ->
     (l.getD 0 sE=qAz->qDW d (l.getD 1 sE) (l.getD 2 sE)=true->X=qDS true t)/\(l.getD 0 sE=qAz->¬qDW d (l.getD 1 sE) (l.getD 2 sE)=true->X=qDS (qDW d (l.getD 2 sE) (l.getD 1 sE)) t)/\(¬l.getD 0 sE=qAz->X=qDS false t):=λt ht=>by
    grind
   refine⟨b1,by omega,b2,_,b3,λN=>?_,λN=>?_⟩
   ·have G:=P _ (if_pos N);refine⟨W,by omega,Q,_,c3,a1,by omega,a2,_,a3,λh0=>⟨b1,by omega,b2,_,b3,W,by omega,Q,_,c3,(u _ _).call ⟨_,rfl,λh=>c216.call ⟨_,_,rfl,key _ _ ?_⟩,λh=>⟨W,by omega,Q,_,c3,b1,by omega,b2,_,b3,(u _ _).call ⟨_,rfl,c216.call ⟨_,_,rfl,key _ _ ?_⟩⟩⟩⟩⟩,λh0=>c216.call ⟨_,_,rfl,key _ _ ?_⟩⟩;·exact G.1 h0 h
    ·exact G.2.1 h0 h
    ·exact G.2.2 h0
   ·have G:=P _ (if_neg N);refine⟨a1,by omega,a2,_,a3,λh0=>⟨b1,by omega,b2,_,b3,W,by omega,Q,_,c3,(u _ _).call ⟨_,rfl,λh=>c216.call ⟨_,_,rfl,key _ _ ?_⟩,λh=>⟨W,by omega,Q,_,c3,b1,by omega,b2,_,b3,(u _ _).call ⟨_,rfl,c216.call ⟨_,_,rfl,key _ _ ?_⟩⟩⟩⟩⟩,λh0=>c216.call ⟨_,_,rfl,key _ _ ?_⟩⟩;·exact G.1 h0 h
    ·exact G.2.1 h0 h
    ·exact G.2.2 h0
  ·rw[if_neg z,if_neg y,if_neg i,if_neg n,if_neg r,if_neg o,if_neg H,if_neg (by omega),if_neg (by omega),if_neg (by omega),if_neg J]at w;exact(j _).call ⟨_,rfl,c216.call ⟨_,_,rfl,key _ _ (by rw[<-w];rfl)⟩⟩
 ·simp only[ne_eq,h0,not_false_eq_true,if_true];exact⟨rfl,c⟩
end
end Go.Proofs
