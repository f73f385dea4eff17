/- Part 9 of a proof of a law of this seat: no statement of the seat is proved here. -/
import Derived.Test.YtmeagdecjpknkaaGreatDoorPr08
set_option linter.unusedVariables false
set_option linter.unusedSimpArgs false
open Go.Proofs.Tryz renaming prog->xD
open Go.Ending renaming returned->xG
open List renaming getElem?_eq_some_iff->yw,any_eq_not_all_not->xQ,mem_iff_getElem->ye,getElem?_eq_getElem->yv,length_cons->zy,findIdx?_eq_some_iff_getElem->yh,getElem_mem->yp
open Bool renaming true_and->xP,false_and->xR,and_eq_true->zC
open And renaming intro->xH
namespace Go.Proofs
open Go Go.Sx
attribute [local irreducible] Go.Sx.Tri
mutual
def okE(d:Int):E->Bool|.mk op n s _ k=>decide (d<=60)&&qDC op n s k.length&&okEs (d+1) k
def okEs(d:Int):List E->Bool|[]=>true|x::xs=>okE d x&&okEs d xs
end
mutual
def szE:E->Nat|.mk _ _ _ _ k=>1+szEs k
def szEs:List E->Nat|[]=>0|x::xs=>szE x+szEs xs
end
mutual
def cntE(d:Int):E->Int|.mk op n s _ k=>if 60<d then 1001 else if qDC op n s k.length=true then qFd (d+1) 1 k else 1001
def qFd(d acc:Int):List E->Int|[]=>acc|x::xs=>if 1000<acc+cntE d x then acc+cntE d x else qFd d (acc+cntE d x) xs
end
mutual
def vE(left d:Int):E->Bool×Int|.mk op n s _ k=>if 0<=left-1/\d<=60/\qDC op n s k.length=true then vEs (left-1) (d+1) k else(false,left-1)
def vEs(left d:Int):List E->Bool×Int|[]=>(true,left)|x::xs=>if(vE left d x).1=true then vEs (vE left d x).2 d xs else(false,(vE left d x).2)
end
def qAM(e:E):Bool:=decide (okE 1 e=true/\szE e<=1000)
mutual
theorem vE_ok:∀(left d:Int)(e:E),((vE left d e).1=true↔okE d e=true/\(szE e:Int)<=left)/\((vE left d e).1=true->(vE left d e).2=left-szE e)
 |left,d,.mk op n s l k=>by
  have h:=vEs_ok (left-1) (d+1) k;grind[vE,okE,szE]
theorem vEs_ok:∀(left d:Int)(k:List E),0<=left->((vEs left d k).1=true↔okEs d k=true/\(szEs k:Int)<=left)/\((vEs left d k).1=true->(vEs left d k).2=left-szEs k)
 |left,d,[],h=>by simp[vEs,okEs,szEs,h]
 |left,d,x::xs,h=>by
  have h1:=vE_ok left d x;have h2:=vEs_ok (vE left d x).2 d xs;grind[vEs,okEs,szEs]
end
mutual
theorem cntE_ok:∀(d:Int)(e:E),1<=cntE d e/\(cntE d e<=1000↔okE d e=true/\szE e<=1000)/\(cntE d e<=1000->cntE d e=szE e)/\cntE d e<=1001+1000*(61-d).toNat
 |d,.mk op n s l k=>by
  have h:=cntEs_ok (d+1) 1 k (by omega) (by omega);grind[cntE,okE,szE]
theorem cntEs_ok:∀(d acc:Int)(k:List E),1<=acc->acc<=1000->acc<=qFd d acc k/\(qFd d acc k<=1000↔okEs d k=true/\acc+szEs k<=1000)/\(qFd d acc k<=1000->qFd d acc k=acc+szEs k)/\qFd d acc k<=2001+1000*(61-d).toNat
 |d,acc,[],h,g=>by simp[qFd,okEs,szEs];omega
 |d,acc,x::xs,h,g=>by
  have h1:=cntE_ok d x;have h2:=cntEs_ok d (acc+cntE d x) xs (by omega);grind[qFd,okEs,szEs]
end
theorem validE_cnt(e:E):decide (cntE 1 e<=1000)=qAM e:=by
 simp_all[cntE_ok,qAM]
theorem validE_v(e:E):(vE 1000 1 e).1=qAM e:=by
 grind[vE_ok,qAM]
theorem vE_bound{left d:Int}{e:E}(h:(vE left d e).1=true):0<=(vE left d e).2/\(vE left d e).2<=left:=by
 grind[vE_ok]
theorem cntE_eq(d:Int)(e:E):cntE d e=if 60<d then 1001 else if qDC e.op e.n e.s e.k.length=true then qFd (d+1) 1 e.k else 1001:=by
 cases e;unfold cntE;rfl
theorem vE_eq(left d:Int)(e:E):vE left d e=if 0<=left-1/\d<=60/\qDC e.op e.n e.s e.k.length=true then vEs (left-1) (d+1) e.k else(false,left-1):=by
 cases e;unfold vE;rfl
theorem cntEs_cons(d acc:Int)(x:E)(xs:List E):qFd d acc (x::xs)=if 1000<acc+cntE d x then acc+cntE d x else qFd d (acc+cntE d x) xs:=by rw[qFd]
theorem vEs_cons(left d:Int)(x:E)(xs:List E):vEs left d (x::xs)=if(vE left d x).1=true then vEs (vE left d x).2 d xs else(false,(vE left d x).2):=by rw[vEs]
theorem cntEs_nil(d acc:Int):qFd d acc []=acc:=by rw[qFd]
theorem vEs_nil(left d:Int):vEs left d []=(true,left):=by rw[vEs]
theorem c148{V:Mem}:∀e:E,E.Ok V e->∀d:Int,0<=d->d<=61->PP 148 [e.v,.int .i64 d] V (.int .i64 (cntE d e)):=by
 intro e;induction e using E.ind with
 |h e n=>
 intro j d m a;have f:=j.rows;refine x148 ?_;refine⟨λh=>?_,λh=>(c181 (e:=e) rfl).call ⟨_,rfl,λu=>?_,λu=>?_⟩⟩;·rw[cntE_eq,if_pos h];exact⟨rfl,rfl⟩
 ·rw[f.n_eq]at u;rw[cntE_eq,if_neg h,if_pos u];refine loop3s qDY e.k.length (λi acc V1=>V1=V/\1<=acc/\acc<=1000/\qFd (d+1) 1 e.k=qFd (d+1) acc (e.k.drop i)) ⟨rfl,by omega,by omega,rfl⟩ ?_;rintro i acc c _ J s ⟨rfl,r,H,l⟩ G;refine⟨λg=>?_,λz=>?_⟩
  ·obtain⟨x,hm,N,y,Z,q,o,w⟩:=f.get g;have Y:=cntE_ok (d+1) x;rw[y,cntEs_cons]at l;refine⟨q,o,g,_,_,_,_,w,⟨by omega,by omega⟩,(n x hm (j.kids x hm) (d+1) (by omega) (by omega)).call ⟨_,rfl,⟨by omega,by omega⟩,λp=>?_,λp=>⟨f.succ g,?_⟩⟩⟩;·simp_all
   grind
  ·rw[(f.done z).1,cntEs_nil]at l;simp_all
 ·rw[f.n_eq]at u;rw[cntE_eq,if_neg h,if_neg u];exact⟨rfl,rfl⟩
theorem c106{V:Mem}{e:E}(h:E.Ok V e):PP 106 [e.v] V (.bool (qAM e)):=by
 refine x106 ?_;refine(c148 e h 1 (by omega) (by omega)).call ⟨_,rfl,?_⟩;rw[validE_cnt];simp_all
theorem c250{V:Mem}{b t:Nat}{n:Int}(h:V b=some (cell (.int .i64 n) t))(h0:-1000<=n)(h1:n<=100000):
  Tri xD 250 #[pv b] V λe V'=>e=.returned (.bool (decide (0<=n-1)))/\V'=V.set b (cell (.int .i64 (n-1)) t):=by
 refine x250 ?_;refine⟨by simp,by simp,_,qBM h,⟨by omega,by omega⟩,by simp,by simp,StT.cell h ⟨by simp,by simp,_,qBM mss,rfl,rfl⟩⟩
set_option maxRecDepth 10000 in
theorem c248{V0:Mem}[B:Tab V0]{b t:Nat}(u:V0 b=none):∀e:E,E.Ok V0 e->∀(V:Mem),V0.sub V->∀left d:Int,V b=some (cell (.int .i64 left) t)->0<=left->left<=1000->0<=d->d<=61 ->
    Tri xD 248 #[e.v,.int .i64 d,pv b] V λr V'=>r=.returned (.bool (vE left d e).1)/\V'=V.set b (cell (.int .i64 (vE left d e).2) t):=by
  intro e;induction e using E.ind with
  |h e C=>
  intro L V H left d D K S T hd;have R:=L.rows;have U:=R.n_eq;refine Tri.less (x248 ?_);refine c280.call ⟨_,_,rfl,Tri.mono (c250 D (by omega) (by omega)) ?_⟩;rintro _ _ ⟨rfl,rfl⟩;refine⟨_,rfl,?_⟩;have no:¬(0<=left-1/\d<=60/\qDC e.op e.n e.s e.k.length=true)->∃W,(xG (.bool false)=xG (.bool (vE left d e).1)/\W=V.set b (cell (.int .i64 (vE left d e).2) t))/\W.sub (V.set b (cell (.int .i64 (left-1)) t)):=by
    intro h;rw[vE_eq,if_neg h];exact⟨_,⟨rfl,rfl⟩,Mem.sub.refl _⟩
  have f:(0<=left-1/\d<=60/\qDC e.op e.n e.s e.k.length=true)->qAt [(.int .i64 d)] 3 (V.set b (cell (.int .i64 (left-1)) t)) fun J V4 =>
        qAt [(pv b)] 288 V4 λG V5=>
        Tri xD 252 #[(.slice e.l.p e.l.n e.l.c),(.func (.func 282) #[] #[(.pointer (qAa J 0)),(.pointer (qAa G 0))])] V5 λr V6=>∃m:Bool,r=.returned (.bool m)/\
        ∃W,(xG (.bool (!m))=xG (.bool (vE left d e).1)/\W=V.set b (cell (.int .i64 (vE left d e).2) t))/\W.sub V6:=by
    intro h b1 w b2 z;rw[vE_eq,if_pos h];have n1:b≠b1:=λe=>by grind[Mem.set_same]
    have n2:b1≠b2:=λe=>by grind[Mem.set_same]
    have n3:b≠b2:=λe=>by grind[Mem.set_ne,Mem.set_same]
    rw[Mem.set_ne (λe=>n1 e.symm)]at w;rw[Mem.set_ne (λe=>n2 e.symm),Mem.set_ne (λe=>n3 e.symm)]at z;have v1:V0 b1=none:=by cases N:V0 b1 with
      |none=>rfl
      |some x=>rw[H _ _ N]at w;cases w
    have v2:V0 b2=none:=by cases N:V0 b2 with
      |none=>rfl
      |some x=>rw[H _ _ N]at z;cases z
    let M:Int->Mem:=λg=>((V.set b (cell (.int .i64 g) t)).set b1 (cell (.int .i64 d) 3)).set b2 (cell (pv b) 288);have X:∀g,V0.sub (M g):=λg=>((H.set u _).set v1 _).set v2 _;have Z:∀g,M g b=some (cell (.int .i64 g) t):=λg=>by grind[Mem.set_ne,Mem.set_same]
    have Y:∀g,M g b1=some (cell (.int .i64 d) 3):=λg=>by grind[Mem.set_ne,Mem.set_same]
    have Q:∀g,M g b2=some (cell (pv b) 288):=λg=>by grind[Mem.set_same]
    have hMs:∀g y,(M g).set b (cell (.int .i64 y) t)=M y:=λg y=>by
      grind[Mem.set_comm,Mem.set_set]
    have hW:∀g,(V.set b (cell (.int .i64 g) t)).sub (M g):=λg=>by
      refine((Mem.sub.refl _).set ?_ _).set ?_ _;· grind[Mem.set_ne]
      grind[Mem.set_ne]
    refine Tri.mono (g252 (l:=e.l) (xs:=e.k) (first:=[]) (caps:=[pv b1,pv b2]) Tryz.call282
      (λi V1=>∃g,V1=M g/\0<=g/\g<=1000/\vEs (left-1) (d+1) e.k=vEs g (d+1) (e.k.drop i)) (λi V1=>∃g,V1=M g/\vEs (left-1) (d+1) e.k=(false,g)) ?_ ⟨left-1,rfl,by omega,by omega,rfl⟩ ?_) ?_
    · rintro i _ ⟨g,rfl,-⟩;exact R.sub (X g)
    · rintro i x _ P ⟨g,rfl,q,o,j⟩;have hm:=List.mem_of_getElem? P;have O:=(yw.1 P).1;have A:e.k.drop i=x::e.k.drop (i+1):=by rw[List.drop_eq_getElem_cons O,(yw.1 P).2]
      rw[A,vEs_cons]at j;refine x282 ?_;refine⟨_,qBM (Y g),⟨by omega,by omega⟩,_,qBM (Q g),Tri.mono (C x hm (L.kids x hm) (M g) (X g) g (d+1) (Z g) q o (by omega) (by omega)) ?_⟩;rintro _ _ ⟨rfl,rfl⟩;refine⟨_,rfl,_,rfl,λu=>?_,λu=>?_⟩;· simp_all
      · have u:(vE g (d+1) x).1=true:=by simpa using u
        have:=vE_bound u;grind
    · rintro _ _ (⟨i,rfl,g,rfl,j⟩|⟨rfl,g,rfl,q,o,j⟩);· simp_all
      · rw[List.drop_length,vEs_nil]at j;exact⟨_,rfl,_,⟨by rw[j];rfl,rfl⟩,by rw[j];exact hW g⟩
  have key:qDC e.op e.n e.s e.k.length=(decide (qAT e.op≠-2/\(0<=qAT e.op->(e.k.length:Int)=qAT e.op)/\(qAT e.op=-1->(e.k.length:Int)<=6))&&(nmB e.op e.s&&numB e.op e.n)):=by grind[qDC]
  have pr:-2<=qAT e.op:=by unfold qAT;grind
  rw[key]at no f;have I:(e.k.length:Int)=(e.l.n:Int):=by rw[U]
  rw[I]at no f;generalize hkn:(e.l.n:Int)=kn at no f⊢;generalize hpn:qAT e.op=pn at no f pr⊢;generalize F:(nmB e.op e.s&&numB e.op e.n)=nm at no f⊢;haveI:Tab (V.set b (cell (.int .i64 (left-1)) t)):=Tab.sub B (H.set u _);refine⟨λh8=>⟨λa=>no λh=>absurd h.2.1 (Int.not_le.2 a),λa=>⟨λh7=>(c281 (e:=e)).call ⟨nm,by rw[F],λh9=>?_,λh9=>no ?_⟩,λh7=>no ?_⟩⟩,λh8=>no ?_⟩;· grind
  · simp_all
  · simp_all
  grind
theorem c204{V:Mem}[Tab V]{e:E}(h:E.Ok V e):PP 204 [e.v] V (.bool (qAM e)):=by
 refine Pur.mk (x204 ?_);intro b k;refine Tri.mono (c248 k e h _ (Mem.sub_new k _) 1000 1 mss (by omega) (by omega) (by omega) (by omega)) ?_;rintro _ _ ⟨rfl,rfl⟩;rw[validE_v,Mem.set_set];exact⟨_,rfl,rfl,Mem.sub_new k _⟩
def fop:List E->Int|[]=>0|e::_=>e.op
def qGu(op:Int)(s:ByteArray)(es:List E)(nl h:Int):Bool:=
 if op=1 then qAV s&&decide ((es.length:Int)=1/\nl=0/\h=0)else if op=2 then qAV s&&decide ((es.length:Int)=2/\nl=0/\h=0)else if op=3 then decide (s=qAo []/\(es.length:Int)=1)
 else if op=4 then decide (s=qAo []/\(es.length:Int)=1/\h=0)else if op=5 then decide (s=qAo []/\(es.length:Int)<=1/\nl=0/\h=0)else if op=6 then decide (s=qAo []/\(es.length:Int)=1/\fop es=7/\nl=0/\h=0)else false
def qBL(op:Int)(s:ByteArray)(es:List E)(nl h:Int):Bool:=qGu op s es nl h&&es.all qAM
theorem c180{V:Mem}{s:S}(h:S.Ok V s){lo hi:Int}:PP 180 [s.v,.int .i64 lo,.int .i64 hi] V (.bool (decide (lo<=s.es.length/\(s.es.length:Int)<=hi)&&s.es.all qAM)):=by
 have f:=h.eRows;have q:=f.n_eq;rw[show s.v=.agg #[.int .i64 s.op,.string s.s,.slice s.el.p s.el.n s.el.c,.slice s.ll.p s.ll.n s.ll.c,.slice s.xl.p s.xl.n s.xl.c]by unfold S.v;rw[S.row_eq];rfl];refine x180 ?_;refine⟨λh1=>?_,λh1=>⟨λh2=>?_,λh2=>?_⟩⟩;·grind
 ·grind
 ·rw[decide_eq_true (by omega),xP];refine qAI s.es.length (λi V1=>V1=V/\s.es.all qAM=(s.es.drop i).all qAM) ⟨rfl,rfl⟩ ?_;rintro i b _ J hi ⟨rfl,w⟩ z;refine⟨λk=>?_,λy=>?_⟩
  ·obtain⟨x,hm,o,u,j,l,m,g⟩:=f.get k;rw[u,List.all_cons]at w;refine⟨l,m,k,_,_,_,_,g,(c106 (h.eOk x hm)).call ⟨_,rfl,λr=>⟨f.succ k,z j _ _ ⟨rfl,?_⟩⟩,λr=>?_⟩⟩;·simp_all
   simp_all
  grind
theorem qGO{V:Mem}{s:S}(h:S.Ok V s):(s.es=[]/\s.el.n=0)∨∃k r,s.es=k::r/\0<s.el.n/\¬(s.el.p=none)/\¬(qAa s.el.p 0=none)/\V.rowp s.el.p 0 4=some [.int .i64 k.op,.int .i64 k.n,.string k.s,.slice k.l.p k.l.n k.l.c]:=by
 have u:=h.eRows;have i:=u.n_eq;cases g:s.es with
 |nil=>simp_all
 |cons k r=>
  have h0:((0:Nat):Int)<(s.el.n:Int):=by simp_all
  obtain⟨x,hm,f,j,m,w,q,z⟩:=u.get h0;rw[g]at f;simp only[List.getElem?_cons_zero,Option.some.injEq]at f;subst f;refine .inr ⟨k,r,rfl,by omega,w,λe=>?_,?_⟩
  ·cases y:s.el.p with
   |none=>exact w y
   |some a=>rw[y]at e;cases e
  grind[E.row,vI,vS,Sl.v]
set_option maxRecDepth 4000 in
theorem c147{V:Mem}{s:S}(h:S.Ok V s):PP 147 [s.v] V (.bool (qBL s.op s.s s.es s.ls.length s.xs.length)):=by
 have o:=qGO h;have cx:=λlo q=>c180 h (lo:=lo) (hi:=q);have y:=h.lRows.n_eq;have x:=h.xRows.n_eq;rw[show s.v=.agg #[.int .i64 s.op,.string s.s,.slice s.el.p s.el.n s.el.c,.slice s.ll.p s.ll.n s.ll.c,.slice s.xl.p s.xl.n s.xl.c]by unfold S.v;rw[S.row_eq];rfl]at cx⊢;refine x147 ?_;rw[<-y,<-x];generalize j:qBL s.op s.s s.es s.ll.n s.xl.n=X;have key:∀b:Bool,X=b->xG (.bool b)=xG (.bool X):=λn h=>by rw[h]
 unfold qBL qGu at j;generalize u:s.es.all qAM=va at cx;rcases o with⟨z,a⟩|⟨e0,r,z,a,e,i,w⟩
 ·have k:(s.es.length:Int)=0:=by rw[z];rfl
  have l:s.es.length=0:=by rw[z];rfl
  rw[k]at cx;rw[u,k]at j
  repeat' (first|refine c66.call ⟨_,rfl,?_⟩|refine(cx _ _).call ⟨_,rfl,?_⟩|apply xH|intro _)
  all_goals first|rfl|(refine key _ ?_;clear key cx;grind)|(exfalso;clear key cx;grind)
 ·have m:fop s.es=e0.op:=by rw[z];rfl
  generalize k:(s.es.length:Int)=len at cx;rw[u,k,m]at j;have H:0<len:=by grind
  have J:(s.el.n:Int)=len:=by rw[<-k,h.eRows.n_eq]
  have g:=cx 1 1;have c22:=cx 2 2;have f:=cx 0 1;rw[show decide (1<=len/\len<=1)=decide (len=1)by grind]at g;rw[show decide (2<=len/\len<=2)=decide (len=2)by grind]at c22;rw[show decide (0<=len/\len<=1)=decide (len<=1)by grind]at f
  repeat' (first|refine c66.call ⟨_,rfl,?_⟩|refine g.call ⟨_,rfl,?_⟩|refine c22.call ⟨_,rfl,?_⟩|refine f.call ⟨_,rfl,?_⟩|refine⟨_,_,_,_,w,?_⟩|exact e|exact i|apply xH|intro _)
  all_goals first|rfl|(refine key _ ?_;clear key cx g c22 f;grind)|omega|(exfalso;clear key cx g c22 f;grind)
mutual
def okS(d:Int):S->Bool|.mk op s _ es _ ls _ xs=>decide (d<=60)&&qBL op s es ls.length xs.length&&qHc (d+1) ls&&qHc (d+1) xs
def qHc(d:Int):List S->Bool|[]=>true|x::xs=>okS d x&&qHc d xs
end
mutual
def szS:S->Nat|.mk _ _ _ _ _ ls _ xs=>1+qGq ls+qGq xs
def qGq:List S->Nat|[]=>0|x::xs=>szS x+qGq xs
end
mutual
def cntS(d acc:Int):S->Int
 |.mk op s _ es _ ls _ xs=>
  if 60<d then 201 else if qBL op s es ls.length xs.length=true then
    if acc+1<=200 then
      if acc+1+qCr (d+1) 0 ls<=200 then acc+1+qCr (d+1) 0 ls+qCr (d+1) 0 xs else acc+1+qCr (d+1) 0 ls
    else acc+1
  else 201
def qCr(d acc:Int):List S->Int|[]=>acc|x::xs=>if 200<cntS d acc x then cntS d acc x else qCr d (cntS d acc x) xs
end
def gd{α:Type}(d left:Int)(l:List α)(r:Bool×Int):Bool×Int:=if 60<d/\l≠[]then(false,left)else r
mutual
def vS(left d:Int):S->Bool×Int
 |.mk op s _ es _ ls _ xs=>
  if 0<=left-1/\qBL op s es ls.length xs.length=true then
    if(gd (d+1) (left-1) ls (vSs (left-1) (d+1) ls)).1=true then
      gd (d+1) (gd (d+1) (left-1) ls (vSs (left-1) (d+1) ls)).2 xs (vSs (gd (d+1) (left-1) ls (vSs (left-1) (d+1) ls)).2 (d+1) xs)
    else(false,(gd (d+1) (left-1) ls (vSs (left-1) (d+1) ls)).2)
  else(false,left-1)
def vSs(left d:Int):List S->Bool×Int|[]=>(true,left)|x::xs=>if(vS left d x).1=true then vSs (vS left d x).2 d xs else(false,(vS left d x).2)
end
def vSl(left d:Int)(l:List S):Bool×Int:=gd d left l (vSs left d l)
theorem vSs_cons(left d:Int)(x:S)(xs:List S):vSs left d (x::xs)=if(vS left d x).1=true then vSs (vS left d x).2 d xs else(false,(vS left d x).2):=by rw[vSs]
theorem vSs_nil(left d:Int):vSs left d []=(true,left):=by rw[vSs]
theorem cntSs_cons(d acc:Int)(x:S)(xs:List S):qCr d acc (x::xs)=if 200<cntS d acc x then cntS d acc x else qCr d (cntS d acc x) xs:=by rw[qCr]
theorem cntSs_nil(d acc:Int):qCr d acc []=acc:=by rw[qCr]
theorem vS_eq(left d:Int)(x:S):vS left d x=if 0<=left-1/\qBL x.op x.s x.es x.ls.length x.xs.length=true then(if(vSl (left-1) (d+1) x.ls).1=true then vSl (vSl (left-1) (d+1) x.ls).2 (d+1) x.xs else(false,(vSl (left-1) (d+1) x.ls).2))else(false,left-1):=by
 cases x;unfold vS;rfl
theorem cntS_eq(d acc:Int)(x:S):cntS d acc x=if 60<d then 201 else if qBL x.op x.s x.es x.ls.length x.xs.length=true then
  if acc+1<=200 then
   if acc+1+qCr (d+1) 0 x.ls<=200 then acc+1+qCr (d+1) 0 x.ls+qCr (d+1) 0 x.xs else acc+1+qCr (d+1) 0 x.ls
  else acc+1
 else 201:=by
 cases x;unfold cntS;rfl
mutual
theorem cntS_ok:∀(d acc:Int)(e:S),0<=acc->acc<=200->acc+1<=cntS d acc e/\(cntS d acc e<=200↔okS d e=true/\acc+szS e<=200)/\(cntS d acc e<=200->cntS d acc e=acc+szS e)/\cntS d acc e<=201+200*(61-d).toNat
 |d,acc,.mk op s _ es _ ls _ xs,h,k=>by
  have g:=qFy (d+1) 0 ls (by omega) (by omega);have f:=qFy (d+1) 0 xs (by omega) (by omega);unfold cntS okS szS;grind
theorem qFy:∀(d acc:Int)(k:List S),0<=acc->acc<=200->acc<=qCr d acc k/\(qCr d acc k<=200↔qHc d k=true/\acc+qGq k<=200)/\(qCr d acc k<=200->qCr d acc k=acc+qGq k)/\qCr d acc k<=201+200*(61-d).toNat
 |d,acc,[],h,g=>by simp[qCr,qHc,qGq];omega
 |d,acc,x::xs,h,g=>by
  have h1:=cntS_ok d acc x h g;have h2:=qFy d (cntS d acc x) xs (by omega);grind[qCr,qHc,qGq]
end
theorem okSs_deep{d:Int}(h:60<d):∀l:List S,l≠[]->qHc d l=false
 |[],k=>absurd rfl k
 |.mk _ _ _ _ _ _ _ _::xs,_=>by
  grind[qHc,okS]
mutual
theorem vS_ok:∀(left d:Int)(e:S),d<=60->((vS left d e).1=true↔okS d e=true/\(szS e:Int)<=left)/\((vS left d e).1=true->(vS left d e).2=left-szS e)
 |left,d,.mk op s _ es _ ls _ xs,k=>by
  have g:=vSs_ok (left-1) (d+1) ls;have f:=λl=>vSs_ok l (d+1) xs;have d1:=λh=>okSs_deep (d:=d+1) h ls;have u:=λh=>okSs_deep (d:=d+1) h xs;grind[vS,okS,szS,gd,qBL,vSs,qHc,qGq,absurd]
theorem vSs_ok:∀(left d:Int)(k:List S),0<=left->¬(60<d/\k≠[])->((vSs left d k).1=true↔qHc d k=true/\(qGq k:Int)<=left)/\((vSs left d k).1=true->(vSs left d k).2=left-qGq k)
 |left,d,[],h,_=>by simp[vSs,qHc,qGq,h]
 |left,d,x::xs,h,g=>by
  have h1:=vS_ok left d x (by grind);have h2:=vSs_ok (vS left d x).2 d xs;grind[vSs_cons,qHc,qGq]
end
def qEJ(l:List S):Bool:=decide (qHc 1 l=true/\qGq l<=200)
theorem validSs_cnt(l:List S):decide (qCr 1 0 l<=200)=qEJ l:=by
 have:=qFy 1 0 l (by omega) (by omega);unfold qEJ;grind
theorem validSs_v(l:List S):(vSl 200 1 l).1=qEJ l:=by
 have:=(vSs_ok 200 1 l (by omega) (by omega)).1;grind[qEJ,vSl,gd]
theorem S.v_eq(s:S):s.v=.agg #[.int .i64 s.op,.string s.s,.slice s.el.p s.el.n s.el.c,.slice s.ll.p s.ll.n s.ll.c,.slice s.xl.p s.xl.n s.xl.c]:=by unfold S.v;rw[S.row_eq];rfl
theorem S.row_get{V:Mem}{p:Option Addr}{i:Nat}{x:S}(h:V.rowp p i 5=some x.row):V.rowp p i 5=some [.int .i64 x.op,.string x.s,.slice x.el.p x.el.n x.el.c,.slice x.ll.p x.ll.n x.ll.c,.slice x.xl.p x.xl.n x.xl.c]:=by
 rw[h,S.row_eq];rfl
theorem qAe{p:Option Addr}{n:Nat}(h:¬(p=none)):¬(qAa p n=none):=by
 cases p with
 |none=>grind
 |some a=>intro e;cases e
def CntP(V:Mem)(l:List S):Prop:=∀(sl:Sl)(d:Int),qAc V sl 5 (l.map S.row)->(∀x∈l,S.Ok V x)->0<=d->d<=61->PP 105 [sl.v,.int .i64 d] V (.int .i64 (qCr d 0 l))
theorem cntP_step{V:Mem}{l:List S}(p:∀x∈l,CntP V x.ls/\CntP V x.xs):CntP V l:=by
 intro sl d j m v W;refine x105 ?_;refine loop3s qDY l.length (λi acc V1=>V1=V/\0<=acc/\acc<=200/\qCr d 0 l=qCr d acc (l.drop i)) ⟨rfl,by omega,by omega,rfl⟩ ?_;rintro i acc c V1 J Q ⟨rfl,H,P,a⟩ O;refine⟨λf=>?_,λr=>?_⟩
 ·obtain⟨x,hm,A,q,I,u,o,k⟩:=j.get f;have k:=S.row_get k;have g:=m x hm;have G:=g.lRows.n_eq;have N:=g.xRows.n_eq;rw[q,cntSs_cons]at a;have y:=cntS_eq d acc x;have cs:=c147 g;rw[S.v_eq]at cs;have bad:cntS d acc x=201->(xG (.int .i64 201)=xG (.int .i64 (qCr d 0 l))/\V1=V1):=λh=>by
   grind
  have w:∀n,cntS d acc x=n->200<n->(xG (.int .i64 n)=xG (.int .i64 (qCr d 0 l))/\V1=V1):=λn h Z=>by
   grind
  have Y:∀n e,cntS d acc x=n->0<=n->¬200<n->J [.int .i64 n,.int .i64 e,.int .i64 ((i:Int)+1)] V1:=λn e h h0 Z=>by
   grind
  refine⟨λz=>bad (by omega),λz=>⟨u,o,f,_,_,_,_,_,k,cs.call ⟨_,rfl,λs=>⟨⟨by omega,by omega⟩,λh1=>?_,λh1=>?_⟩,λs=>bad (by simp_all)⟩⟩⟩
  ·rw[if_neg z,if_pos s,if_pos h1]at y;have b1:=qFy (d+1) 0 x.ls (by omega) (by omega);have b2:=qFy (d+1) 0 x.xs (by omega) (by omega);refine⟨u,o,f,qAe u,_,_,_,_,_,k,⟨by omega,by omega⟩,((p x hm).1 x.ll (d+1) g.lRows g.lOk (by omega) (by omega)).call ⟨_,rfl,⟨by omega,by omega⟩,λh2=>?_,λh2=>?_⟩⟩
   ·rw[if_pos h2]at y;refine⟨u,o,f,qAe u,_,_,_,_,_,k,⟨by omega,by omega⟩,((p x hm).2 x.xl (d+1) g.xRows g.xOk (by omega) (by omega)).call ⟨_,rfl,⟨by omega,by omega⟩,λh3=>w _ y h3,λh3=>⟨j.succ f,Y _ _ y (by omega) h3⟩⟩⟩
   grind
  grind
 ·rw[(j.done r).1,cntSs_nil]at a;simp_all
theorem cntP_S(V:Mem):∀s:S,CntP V s.ls/\CntP V s.xs:=by
 intro s;induction s using S.ind with
 |h s k g=>grind[cntP_step]
theorem c105{V:Mem}{l:List S}{sl:Sl}{d:Int}(k:qAc V sl 5 (l.map S.row))(h:∀x∈l,S.Ok V x)(h0:0<=d)(h1:d<=61):PP 105 [sl.v,.int .i64 d] V (.int .i64 (qCr d 0 l)):=
 cntP_step (λx _=>cntP_S V x) sl d k h h0 h1
set_option maxRecDepth 4000 in
theorem c251{V:Mem}[Tab V]{s:S}(h:S.Ok V s):PP 251 [s.v] V (.bool (qGu s.op s.s s.es s.ls.length s.xs.length)):=by
 have c:=qGO h;have g:=h.lRows.n_eq;have f:=h.xRows.n_eq;have u:=h.eRows.n_eq;rw[S.v_eq];refine x251 ?_;rw[<-g,<-f];generalize z:qGu s.op s.s s.es s.ll.n s.xl.n=X;have key:∀b:Bool,X=b->xG (.bool b)=xG (.bool X):=λn h=>by rw[h]
 unfold qGu at z;rw[<-u]at z;have x:(0:Int)<=(s.el.n:Int):=by omega
 have j:(0:Int)<=(s.ll.n:Int):=by omega
 have i:(0:Int)<=(s.xl.n:Int):=by omega
 generalize p:(s.el.n:Int)=ne at z x;generalize(s.ll.n:Int)=nl at z j;generalize(s.xl.n:Int)=nx at z i;rcases c with⟨y,l⟩|⟨e0,r,y,l,m,w,k⟩
 ·have:ne=0:=by omega
  subst this;clear g f u l
  repeat' (first|refine c165.call ⟨_,rfl,?_⟩|apply xH|intro _)
  all_goals first|rfl|(refine key _ ?_;clear key h y;grind)|(exfalso;clear key h y;grind)
 ·have q:fop s.es=e0.op:=by rw[y];rfl
  rw[q]at z;have o:0<ne:=by omega
  clear g f u l
  repeat' (first|refine c165.call ⟨_,rfl,?_⟩|refine⟨_,_,_,_,k,?_⟩|exact m|exact w|exact o|apply xH|intro _)
  all_goals first|rfl|(refine key _ ?_;clear key h y k m w;grind)|(exfalso;clear key h y k m w;grind)|omega
theorem c253{V:Mem}[Tab V]{e:E}(h:E.Ok V e):PP 253 [e.v] V (.bool (!qAM e)):=by
 refine x253 ?_;exact(c204 h).call ⟨_,rfl,rfl,rfl⟩
theorem vSl_bound{left d:Int}{l:List S}(h0:0<=left)(h:(vSl left d l).1=true):0<=(vSl left d l).2/\(vSl left d l).2<=left:=by
 unfold vSl gd at h⊢;split at h;·cases h
 ·rename_i k;rw[if_neg k];grind[vSs_ok]
theorem vSl_eq{left d:Int}{l:List S}(h:¬(60<d/\l≠[])):vSl left d l=vSs left d l:=by grind[vSl,gd]
section
variable{V0:Mem}{b t:Nat}
def StP(V0:Mem)(b t:Nat)(l:List S):Prop:=∀(sl:Sl)(d left:Int)(V:Mem),qAc V0 sl 5 (l.map S.row)->(∀x∈l,S.Ok V0 x)->V0.sub V->V b=some (cell (.int .i64 left) t)->0<=left->left<=200->0<=d->d<=61->
 Tri xD 208 #[sl.v,.int .i64 d,pv b] V λr V'=>r=.returned (.bool (vSl left d l).1)/\V'=V.set b (cell (.int .i64 (vSl left d l).2) t)
theorem stP_step[W:Tab V0](P:V0 b=none){l:List S}(Q:∀x∈l,StP V0 b t x.ls/\StP V0 b t x.xs):StP V0 b t l:=by
 intro sl d left V o p O f a v A B;have C:=o.n_eq;refine x208 ?_;have w:∀k,V0.sub (V.set b (cell (.int .i64 k) t)):=λk=>O.set P _;refine⟨λh0=>⟨λr=>?_,λr=>?_⟩,λh0=>?_⟩
 ·have:vSl left d l=(false,left):=by
   grind[vSl,gd]
  rw[this];exact⟨rfl,(Mem.set_eq f).symm⟩
 all_goals
  have H:¬(60<d/\l≠[]):=by
   first
   |exact λh=>r h.1
   |simp_all
  rw[vSl_eq H];refine qAI l.length (λi V1=>∃k,V1=V.set b (cell (.int .i64 k) t)/\0<=k/\k<=200/\vSs left d l=vSs k d (l.drop i)) ⟨left,(Mem.set_eq f).symm,a,v,rfl⟩ ?_;rintro i c _ J D ⟨k,rfl,I,M,z⟩ F;refine⟨λy=>?_,λG=>?_⟩
  ·obtain⟨x,hm,E,N,L,R,X,u⟩:=(o.sub (w k)).get y;have u:=S.row_get u;have g:=p x hm;rw[N,vSs_cons]at z;have hv:=vS_eq k d x;have cs:=λV (h0:V0.sub V) (h:S.Ok V x)=>(haveI:Tab V:=Tab.sub W h0;c251 h);rw[S.v_eq]at cs;have no:∀n,vS k d x=(false,n)->(xG (.bool false)=xG (.bool (vSs left d l).1)/\V.set b (cell (.int .i64 n) t)=V.set b (cell (.int .i64 (vSs left d l).2) t)):=λn h=>by
    rw[h]at z;rw[z];exact⟨rfl,rfl⟩
   refine⟨R,X,y,_,_,_,_,_,u,Tri.mono (c250 mss (by omega) (by omega)) ?_⟩;rintro _ _ ⟨rfl,rfl⟩;rw[Mem.set_set];refine⟨_,rfl,λj=>(cs _ (w _) (g.sub (w _))).call ⟨_,rfl,λZ=>?_,λZ=>?_⟩,λj=>?_⟩
   ·have j:0<=k-1:=of_decide_eq_true j;refine(c252 (first:=[]) (caps:=[]) (l:=x.el) (g.eRows.sub (w _)) Tryz.call253 (λe=>!qAM e) (λe hm=>haveI:Tab (V.set b (cell (.int .i64 (k-1)) t)):=Tab.sub W (w (k-1));c253 ((g.eOk e hm).sub (w _)))).call ⟨_,rfl,λq=>?_,λq=>?_⟩
    ·have m:x.es.all qAM=false:=by
      rw[xQ]at q;simpa using q
     rw[if_neg (λh=>by have:=h.2;unfold qBL at this;rw[m,Bool.and_false]at this;cases this)]at hv;exact no _ hv
    ·have m:x.es.all qAM=true:=by
      rw[xQ]at q;simpa using q
     have Y:qBL x.op x.s x.es x.ls.length x.xs.length=true:=by unfold qBL;rw[Z,m];rfl
     rw[if_pos ⟨j,Y⟩]at hv;refine⟨⟨by omega,by omega⟩,Tri.mono ((Q x hm).1 x.ll (d+1) (k-1) _ g.lRows g.lOk (w _) mss j (by omega) (by omega) (by omega)) ?_⟩;rintro _ _ ⟨rfl,rfl⟩;rw[Mem.set_set];refine⟨_,rfl,λh1=>⟨⟨by omega,by omega⟩,?_⟩,λh1=>?_⟩
     ·rw[if_pos h1]at hv;have b1:=vSl_bound j h1;refine Tri.mono ((Q x hm).2 x.xl (d+1) _ _ g.xRows g.xOk (w _) mss b1.1 (by omega) (by omega) (by omega)) ?_;rintro _ _ ⟨rfl,rfl⟩;rw[Mem.set_set];refine⟨_,rfl,λh2=>?_,λh2=>?_⟩
      ·have b2:=vSl_bound b1.1 h2;rw[hv,if_pos h2]at z;exact⟨(o.sub (w k)).succ y,F L _ _ ⟨_,rfl,b2.1,by omega,z⟩⟩
      ·rw[<-hv]at h2⊢;exact no _ (Prod.ext (eq_false_of_ne_true h2) rfl)
     ·rw[if_neg h1]at hv;exact no _ hv
   ·rw[if_neg (λh=>by have:=h.2;unfold qBL at this;rw[eq_false_of_ne_true Z,xR]at this;cases this)]at hv;exact no _ hv
   ·rw[if_neg (λh=>j (decide_eq_true h.1))]at hv;exact no _ hv
  ·rw[((o.sub (w k)).done G).1,vSs_nil]at z;rw[z];exact⟨rfl,rfl⟩
theorem stP_S[k:Tab V0](g:V0 b=none):∀s:S,StP V0 b t s.ls/\StP V0 b t s.xs:=by
 intro s;induction s using S.ind with
 |h s f u=>grind[stP_step]
theorem c208[k:Tab V0](h:V0 b=none)(l:List S):StP V0 b t l:=stP_step h λx _=>stP_S h x
end
def qAW{α:Type}(p:α->Bool)(xs:List α)(i:Nat):Prop:=∀j x,j<i->xs[j]?=some x->p x=true
theorem qAW.zero{α:Type}(p:α->Bool)(xs:List α):qAW p xs 0:=λ_ _ h=>absurd h (Nat.not_lt_zero _)
theorem qAW.succ{α:Type}{p:α->Bool}{xs:List α}{i:Nat}{x:α}(h:qAW p xs i)(u:xs[i]?=some x)(w:p x=true):qAW p xs (i+1):=λj y k g=>by
 rcases Nat.lt_succ_iff_lt_or_eq.1 k with f|rfl;·exact h j y f g
 simp_all
theorem qAW.all{α:Type}{p:α->Bool}{xs:List α}{i:Nat}(h:qAW p xs i)(hi:xs.length<=i):xs.all p=true:=
 List.all_eq_true.2 λx k=>by
  obtain⟨j,g,rfl⟩:=ye.1 k;exact h j _ (by omega) (yv g)
theorem all_false{α:Type}{p:α->Bool}{xs:List α}{x:α}(h:x∈xs)(k:¬p x=true):xs.all p=false:=by
 grind
def qAP:ByteArray:=qAo [105,110,116]
def qAw:ByteArray:=qAo [98,111,111,108]
def typB(s:ByteArray):Bool:=decide (s=qAP)||decide (s=qAw)||qAV s
def openB(s:ByteArray):Bool:=decide (s=qAo [])||qAV s
def fldB(f:Fld):Bool:=qAV f.name&&typB f.ty
def qDn(l:List Fld)(most:Int):Bool:=decide ((l.length:Int)<=most)&&l.all fldB
def tyB(t:Ty):Bool:=qAV t.name&&qDn t.fields 12
def prB(p:Pr):Bool:=qAV p.name&&qDn p.params 6&&qDn p.locals 12&&(decide (p.result=qAo [])||typB p.result)&&qEJ p.body
def msB(m:Ms):Bool:=qAV m.name&&qAV m.ty&&decide (-1099511627776<=m.nil/\m.nil<=1099511627776)&&qAM m.x
def ivB(m:Iv):Bool:=qAV m.name&&openB m.ty&&qAM m.x
def poB(m:Po):Bool:=openB m.ty&&qAM m.x
def bdB(m:Bd):Bool:=qAV m.proc&&qAM m.x
def qJT(d:Ds):Bool:=d.measures.all msB&&d.invs.all ivB&&d.pots.all poB&&d.bounds.all bdB
def lensB(d:Ds):Bool:=decide ((d.measures.length:Int)<=12/\(d.invs.length:Int)<=12/\(d.pots.length:Int)<=12/\(d.bounds.length:Int)<=12)
def qAJ(d:Ds):Bool:=qAV d.name&&decide ((d.types.length:Int)<=12)&&qDn d.globals 8&&decide ((d.procs.length:Int)<=40)&&lensB d&&d.types.all tyB&&d.procs.all prB&&qJT d
theorem c104{V:Mem}{s:ByteArray}:PP 104 [.string s] V (.bool (typB s)):=by
 refine x104 ?_;refine⟨λh=>?_,λh=>⟨λh1=>?_,λh1=>c66.call ⟨_,rfl,?_⟩⟩⟩<;>simp[typB,qAP,qAw, *]
theorem c203{V:Mem}[Tab V]{s:ByteArray}:PP 203 [.string s] V (.bool (typB s)):=by
 refine x203 ?_;refine⟨λh=>?_,λh=>⟨λh1=>?_,λh1=>c165.call ⟨_,rfl,?_⟩⟩⟩<;>simp[typB,qAP,qAw, *]
theorem c107{V:Mem}{s:ByteArray}:PP 107 [.string s] V (.bool (openB s)):=by
 refine x107 ?_;refine⟨λh=>?_,λh=>c66.call ⟨_,rfl,?_⟩⟩<;>simp[openB, *]
theorem c205{V:Mem}[Tab V]{s:ByteArray}:PP 205 [.string s] V (.bool (openB s)):=by
 refine x205 ?_;refine⟨λh=>?_,λh=>c165.call ⟨_,rfl,?_⟩⟩<;>simp[openB, *]
theorem c67{V:Mem}{l:Sl}{xs:List Fld}{n:Int}(f:qAc V l 2 (xs.map Fld.row)):PP 67 [l.v,.int .i64 n] V (.bool (qDn xs n)):=by
 refine x67 ?_;have p:=f.n_eq;refine⟨λh=>?_,λh=>?_⟩;·grind[qDn]
 ·have w:(xs.length:Int)<=n:=by omega
  refine qAI xs.length (λi V1=>V1=V/\qAW fldB xs i) ⟨rfl,qAW.zero _ _⟩ ?_;rintro i b V1 J c ⟨rfl,y⟩ m;refine⟨λk=>?_,λz=>?_⟩
  ·obtain⟨x,hm,r,q,o,u,j,g⟩:=f.get k;have no:fldB x=false->(xG (.bool false)=xG (.bool (qDn xs n))/\V1=V1):=λh=>by
    unfold qDn;grind
   refine⟨u,j,k,qAe u,_,_,g,c66.call ⟨_,rfl,λh1=>⟨u,j,k,qAe u,_,_,g,c104.call ⟨_,rfl,λh2=>⟨f.succ k,m o _ _ ⟨rfl,y.succ r (by simp[fldB, *])⟩⟩,λh2=>no (by simp[fldB, *])⟩⟩,λh1=>no (by simp[fldB, *])⟩⟩
  ·have:=y.all (f.done z).2;simp[qDn,this,w]
theorem c202{V:Mem}[Tab V]{f:Fld}:PP 202 [f.v] V (.bool (!fldB f)):=by
 refine x202 ?_;refine c165.call ⟨_,rfl,λh=>c203.call ⟨_,rfl,?_⟩,λh=>?_⟩<;>simp[fldB, *]
theorem c166{V:Mem}[Tab V]{l:Sl}{xs:List Fld}{n:Int}(k:qAc V l 2 (xs.map Fld.row)):PP 166 [l.v,.int .i64 n] V (.bool (qDn xs n)):=by
 refine x166 ?_;have g:=k.n_eq;refine⟨λh=>(c122 (first:=[]) (caps:=[]) k Tryz.call202 (λf=>!fldB f) λf _=>c202).call ⟨_,rfl,?_⟩,λh=>?_⟩;·grind[qDn]
 grind[qDn]
theorem c68{V:Mem}{p:Pr}(h:Pr.Ok V p):PP 68 [p.v] V (.bool (prB p)):=by
 refine x68 ?_;have cs:=c105 (d:=1) h.body h.stmts (by omega) (by omega);refine c66.call ⟨_,rfl,λh1=>(c67 h.params).call ⟨_,rfl,λh2=>(c67 h.locals).call ⟨_,rfl,λh3=>⟨λh4=>cs.call ⟨_,rfl,?_⟩,λh4=>c104.call ⟨_,rfl,λk=>cs.call ⟨_,rfl,?_⟩,λk=>?_⟩⟩,λh3=>?_⟩,λh2=>?_⟩,λh1=>?_⟩;all_goals simp[prB,<-validSs_cnt, *]
theorem c171{V:Mem}[Tab V]{p:Pr}(h:Pr.Ok V p):PP 171 [p.v] V (.bool (prB p)):=by
  refine Pur.mk (x171 ?_);have cs:(qEJ p.body=prB p)->qAt [(.int .i64 200)] 290 V fun f u =>
       Tri xD 208 #[(.slice p.bs.p p.bs.n p.bs.c),(.int .i64 1),(.pointer (qAa f 0))] u λe w=>∃k:Bool,e=.returned (.bool k)/\(xG (.bool k)=xG (.bool (prB p))/\V.sub w):=λe b g=>by
    refine Tri.mono (c208 g p.body p.bs 1 200 _ h.body h.stmts (Mem.sub_new g _) mss (by omega) (by omega) (by omega) (by omega)) ?_;rintro _ _ ⟨rfl,rfl⟩;rw[validSs_v,Mem.set_set,e];exact⟨_,rfl,rfl,Mem.sub_new g _⟩
  refine c165.call ⟨_,rfl,λh1=>(c166 h.params).call ⟨_,rfl,λh2=>(c166 h.locals).call ⟨_,rfl,λh3=>⟨λh4=>cs ?_,λh4=>c203.call ⟨_,rfl,λz=>cs ?_,λz=>⟨?_,Mem.sub.refl _⟩⟩⟩,λh3=>⟨?_,Mem.sub.refl _⟩⟩,λh2=>⟨?_,Mem.sub.refl _⟩⟩,λh1=>⟨?_,Mem.sub.refl _⟩⟩;all_goals simp[prB, *]
theorem c207{V:Mem}[Tab V]{b:Bd}(h:E.Ok V b.x):PP 207 [b.v] V (.bool (!bdB b)):=by
 refine x207 ?_;refine c165.call ⟨_,rfl,λh1=>(c204 h).call ⟨_,rfl,?_⟩,λh1=>?_⟩<;>simp[bdB, *]
theorem c168{V:Mem}[Tab V]{t:Ty}(h:Ty.Ok V t):PP 168 [t.v] V (.bool (!tyB t)):=by
 refine x168 ?_;refine c165.call ⟨_,rfl,λh1=>(c166 h.fields).call ⟨_,rfl,?_⟩,λh1=>?_⟩<;>simp[tyB, *]
theorem c170{V:Mem}[Tab V]{t:Pr}(h:Pr.Ok V t):PP 170 [t.v] V (.bool (!prB t)):=by
 refine x170 ?_;exact(c171 h).call ⟨_,rfl,rfl,rfl⟩
theorem GenK.max4{P:Program}{V:Mem}{a b c d:Operand}{ty:Nat}{ts:Array TypeId}{vals:Operand->Value}{n1 n2 n3 n4:Int}(h1:vals a=.int .i64 n1)(h2:vals b=.int .i64 n2)(h3:vals c=.int .i64 n3)(h4:vals d=.int .i64 n4){q:Value->Mem->Prop}
  (h:∀m:Int,n1<=m->n2<=m->n3<=m->n4<=m->(m=n1∨m=n2∨m=n3∨m=n4)->q (.int .i64 m) V):GenK P (.call {callee:=.builtin .max,args:=#[a,b,c,d],argTypes:=ts}) ty vals V q:=by
 intro w hw;refine⟨_,w,V,?_,Frm.refl hw,h (max (max (max n1 n2) n3) n4) (by omega) (by omega) (by omega) (by omega) (by omega)⟩;unfold execOp;have e:∀x y:Int,(if y>x then y else x)=max x y:=λx y=>by split<;>omega
 simp only[resolve,invoke,builtin,Sem.run_bind,Sem.run_pure,Result.andThen_ok,List.map_toArray,List.map_cons,List.map_nil,h1,h2,h3,h4];simp[Builtin.max_,Builtin.max2,e]
theorem c69{V:Mem}{d:Ds}(h:Ds.Ok V d):PP 69 [d.v] V (.bool (qJT d)):=by
 refine x69 ?_;generalize o:qJT d=X;have key:∀b:Bool,X=b->(xG (.bool b)=xG (.bool X)/\V=V):=λn h=>by simp_all
 unfold qJT at o;refine qAI d.measures.length (λi V1=>V=V1/\qAW msB d.measures i) ⟨rfl,qAW.zero _ _⟩ ?_;rintro i b V1 J q ⟨rfl,w⟩ y;refine⟨λk=>?_,λu=>?_⟩
 ·obtain⟨x,hm,j,l,m,f,z,g⟩:=h.measures.get k;have no:msB x=false->X=false:=λh=>by grind
  refine⟨f,z,k,_,_,_,_,_,_,_,g,c66.call ⟨_,rfl,λh1=>c66.call ⟨_,rfl,λh2=>⟨λh3=>key _ (no ?_),λh3=>⟨λh4=>key _ (no ?_),λh4=>(c106 (h.measuresOk x hm).x).call ⟨_,rfl,λr=>⟨h.measures.succ k,y m _ _ ⟨rfl,w.succ j ?_⟩⟩,λr=>key _ (no ?_)⟩⟩⟩,λh2=>key _ (no ?_)⟩,λh1=>key _ (no ?_)⟩⟩
  ·have:¬(-1099511627776<=x.nil/\x.nil<=1099511627776):=by omega
   simp[msB, *]
  ·have:¬(-1099511627776<=x.nil/\x.nil<=1099511627776):=by omega
   simp[msB, *]
  ·have:(-1099511627776<=x.nil/\x.nil<=1099511627776):=by omega
   simp[msB, *]
  all_goals simp[msB, *]
 have a1:=w.all (h.measures.done u).2;refine qAI d.invs.length (λi V1=>V=V1/\qAW ivB d.invs i) ⟨rfl,qAW.zero _ _⟩ ?_;rintro i b V1 J q ⟨rfl,w⟩ y;refine⟨λk=>?_,λu=>?_⟩
 ·obtain⟨x,hm,j,l,m,f,z,g⟩:=h.invs.get k;have no:ivB x=false->X=false:=λh=>by rw[<-o,all_false hm (by rw[h];simp)];simp
  refine⟨f,z,k,qAe f,_,_,_,_,_,_,g,c66.call ⟨_,rfl,λh1=>⟨f,z,k,qAe f,_,_,_,_,_,_,g,c107.call ⟨_,rfl,λh2=>⟨f,z,k,qAe f,_,_,_,_,_,_,g,(c106 (h.invsOk x hm)).call ⟨_,rfl,λr=>⟨h.invs.succ k,y m _ _ ⟨rfl,w.succ j ?_⟩⟩,λr=>key _ (no ?_)⟩⟩,λh2=>key _ (no ?_)⟩⟩,λh1=>key _ (no ?_)⟩⟩;all_goals simp[ivB, *]
 have a2:=w.all (h.invs.done u).2;refine qAI d.pots.length (λi V1=>V=V1/\qAW poB d.pots i) ⟨rfl,qAW.zero _ _⟩ ?_;rintro i b V1 J q ⟨rfl,w⟩ y;refine⟨λk=>?_,λu=>?_⟩
 ·obtain⟨x,hm,j,l,m,f,z,g⟩:=h.pots.get k;have no:poB x=false->X=false:=λh=>by grind
  refine⟨f,z,k,qAe f,_,_,_,_,_,g,c107.call ⟨_,rfl,λh2=>⟨f,z,k,qAe f,_,_,_,_,_,g,(c106 (h.potsOk x hm)).call ⟨_,rfl,λr=>⟨h.pots.succ k,y m _ _ ⟨rfl,w.succ j ?_⟩⟩,λr=>key _ (no ?_)⟩⟩,λh2=>key _ (no ?_)⟩⟩;all_goals simp[poB, *]
 have a3:=w.all (h.pots.done u).2;refine qAI d.bounds.length (λi V1=>V=V1/\qAW bdB d.bounds i) ⟨rfl,qAW.zero _ _⟩ ?_;rintro i b V1 J q ⟨rfl,w⟩ y;refine⟨λk=>?_,λu=>?_⟩
 ·obtain⟨x,hm,j,l,m,f,z,g⟩:=h.bounds.get k;have no:bdB x=false->X=false:=λh=>by grind
  refine⟨f,z,k,qAe f,_,_,_,_,_,g,c66.call ⟨_,rfl,λh2=>⟨f,z,k,qAe f,_,_,_,_,_,g,(c106 (h.boundsOk x hm)).call ⟨_,rfl,λr=>⟨h.bounds.succ k,y m _ _ ⟨rfl,w.succ j ?_⟩⟩,λr=>key _ (no ?_)⟩⟩,λh2=>key _ (no ?_)⟩⟩;all_goals simp[bdB, *]
 have p:=w.all (h.bounds.done u).2;simp_all
theorem c167{V:Mem}[Tab V]{d:Ds}(h:Ds.Ok V d):PP 167 [d.v] V (.bool (lensB d&&qJT d)):=by
 refine x167 ?_;have c:=h.measures.n_eq;have a:=h.invs.n_eq;have e:=h.pots.n_eq;have s:=h.bounds.n_eq;generalize o:(lensB d&&qJT d)=X;have key:∀b:Bool,X=b->(xG (.bool b)=xG (.bool X)/\V=V):=λn h=>by simp_all
 unfold qJT lensB at o;refine GenK.max4 (n1:=d.ms.n) (n2:=d.is.n) (n3:=d.qs.n) (n4:=d.bs.n) rfl rfl rfl rfl λG N Z Y W le=>⟨_,rfl,λH=>key _ ?_,λH=>?_⟩;·rw[<-o,decide_eq_false (by omega)];rfl
 rw[decide_eq_true (by omega),xP]at o;refine qAI d.measures.length (λi V1=>V=V1/\qAW msB d.measures i) ⟨rfl,qAW.zero _ _⟩ ?_;rintro i b V1 J p ⟨rfl,w⟩ z;refine⟨λk=>?_,λu=>?_⟩
 ·obtain⟨x,hm,y,j,l,m,r,g⟩:=h.measures.get k;have no:msB x=false->X=false:=λh=>by grind
  refine⟨m,r,k,_,_,_,_,_,_,_,g,c165.call ⟨_,rfl,λh1=>c165.call ⟨_,rfl,λh2=>⟨λh3=>key _ (no ?_),λh3=>⟨λh4=>key _ (no ?_),λh4=>(c204 (h.measuresOk x hm).x).call ⟨_,rfl,λq=>⟨h.measures.succ k,z l _ _ ⟨rfl,w.succ y ?_⟩⟩,λq=>key _ (no ?_)⟩⟩⟩,λh2=>key _ (no ?_)⟩,λh1=>key _ (no ?_)⟩⟩
  ·have:¬(-1099511627776<=x.nil/\x.nil<=1099511627776):=by omega
   simp[msB, *]
  ·have:¬(-1099511627776<=x.nil/\x.nil<=1099511627776):=by omega
   simp[msB, *]
  ·have:(-1099511627776<=x.nil/\x.nil<=1099511627776):=by omega
   simp[msB, *]
  all_goals simp[msB, *]
 have a1:=w.all (h.measures.done u).2;refine qAI d.invs.length (λi V1=>V=V1/\qAW ivB d.invs i) ⟨rfl,qAW.zero _ _⟩ ?_;rintro i b V1 J p ⟨rfl,w⟩ z;refine⟨λk=>?_,λu=>?_⟩
 ·obtain⟨x,hm,y,j,l,m,r,g⟩:=h.invs.get k;have no:ivB x=false->X=false:=λh=>by rw[<-o,all_false hm (by rw[h];simp)];simp
  refine⟨m,r,k,_,_,_,_,_,_,g,c165.call ⟨_,rfl,λh1=>c205.call ⟨_,rfl,λh2=>(c204 (h.invsOk x hm)).call ⟨_,rfl,λq=>⟨h.invs.succ k,z l _ _ ⟨rfl,w.succ y ?_⟩⟩,λq=>key _ (no ?_)⟩,λh2=>key _ (no ?_)⟩,λh1=>key _ (no ?_)⟩⟩;all_goals simp[ivB, *]
 have a2:=w.all (h.invs.done u).2;refine qAI d.pots.length (λi V1=>V=V1/\qAW poB d.pots i) ⟨rfl,qAW.zero _ _⟩ ?_;rintro i b V1 J p ⟨rfl,w⟩ z;refine⟨λk=>?_,λu=>?_⟩
 ·obtain⟨x,hm,y,j,l,m,r,g⟩:=h.pots.get k;have no:poB x=false->X=false:=λh=>by grind
  refine⟨m,r,k,_,_,_,_,_,g,c205.call ⟨_,rfl,λh2=>(c204 (h.potsOk x hm)).call ⟨_,rfl,λq=>⟨h.pots.succ k,z l _ _ ⟨rfl,w.succ y ?_⟩⟩,λq=>key _ (no ?_)⟩,λh2=>key _ (no ?_)⟩⟩;all_goals simp[poB, *]
 have a3:=w.all (h.pots.done u).2;refine(c206 (first:=[]) (caps:=[]) h.bounds Tryz.call207 (λf=>!bdB f) λf hm=>c207 (h.boundsOk f hm)).call ⟨_,rfl,key _ ?_⟩;simp_all[xQ]
theorem c31{V:Mem}{d:Ds}(h:Ds.Ok V d):PP 31 [d.v] V (.bool (qAJ d)):=by
 refine x31 ?_;have H:=h.measures.n_eq;have G:=h.invs.n_eq;have N:=h.pots.n_eq;have Z:=h.bounds.n_eq;have Y:=h.types.n_eq;have n6:=h.procs.n_eq;generalize m:qAJ d=X;have key:∀b:Bool,X=b->(xG (.bool b)=xG (.bool X)/\V=V):=λn h=>by simp_all
 unfold qAJ at m;have f:lensB d=false->X=false:=λh=>by simp_all
 refine c66.call ⟨_,rfl,λh1=>⟨λh2=>key _ ?_,λh2=>(c67 h.globals).call ⟨_,rfl,λh3=>⟨λh4=>key _ ?_,λh4=>⟨λu=>key _ (f ?_),λu=>⟨λc=>key _ (f ?_),λc=>⟨λa=>key _ (f ?_),λa=>⟨λe=>key _ (f ?_),λe=>?_⟩⟩⟩⟩⟩,λh3=>key _ ?_⟩⟩,λh1=>key _ ?_⟩;·grind
 ·grind
 ·exact decide_eq_false (by omega)
 ·exact decide_eq_false (by omega)
 ·exact decide_eq_false (by omega)
 ·exact decide_eq_false (by omega)
 ·have y:lensB d=true:=decide_eq_true (by omega);rw[h1,decide_eq_true (p:=(d.types.length:Int)<=12) (by omega),h3,decide_eq_true (p:=(d.procs.length:Int)<=40) (by omega),y]at m;simp only[xP]at m;refine qAI d.types.length (λi V1=>V=V1/\qAW tyB d.types i) ⟨rfl,qAW.zero _ _⟩ ?_;rintro i b V1 J s ⟨rfl,j⟩ r;refine⟨λk=>?_,λw=>?_⟩
  ·obtain⟨x,hm,q,o,y,z,l,g⟩:=h.types.get k;have no:tyB x=false->X=false:=λh=>by grind
   refine⟨z,l,k,qAe z,_,_,g,c66.call ⟨_,rfl,λh1=>⟨z,l,k,qAe z,_,_,g,(c67 (h.typesOk x hm).fields).call ⟨_,rfl,λu=>⟨h.types.succ k,r y _ _ ⟨rfl,j.succ q ?_⟩⟩,λu=>key _ (no ?_)⟩⟩,λh1=>key _ (no ?_)⟩⟩;all_goals simp[tyB, *]
  have a1:=j.all (h.types.done w).2;refine qAI d.procs.length (λi V1=>V=V1/\qAW prB d.procs i) ⟨rfl,qAW.zero _ _⟩ ?_;rintro i b V1 J s ⟨rfl,j⟩ r;refine⟨λk=>?_,λw=>?_⟩
  ·obtain⟨x,hm,q,o,y,z,l,g⟩:=h.procs.get k;have no:prB x=false->X=false:=λh=>by grind
   exact⟨z,l,k,_,_,_,_,_,g,(c68 (h.procsOk x hm)).call ⟨_,rfl,λu=>⟨h.procs.succ k,r y _ _ ⟨rfl,j.succ q u⟩⟩,λu=>key _ (no (eq_false_of_ne_true u))⟩⟩
  have a2:=j.all (h.procs.done w).2;refine(c69 h).call ⟨_,rfl,key _ ?_⟩;simp_all
 ·simp_all
 simp_all
theorem c120{V:Mem}[Tab V]{d:Ds}(h:Ds.Ok V d):PP 120 [d.v] V (.bool (qAJ d)):=by
 refine x120 ?_;have w:=h.types.n_eq;have n6:=h.procs.n_eq;generalize k:qAJ d=X;have key:∀b:Bool,X=b->(xG (.bool b)=xG (.bool X)/\V=V):=λn h=>by simp_all
 unfold qAJ at k;refine c165.call ⟨_,rfl,λh1=>⟨λh2=>key _ ?_,λh2=>(c166 h.globals).call ⟨_,rfl,λh3=>⟨λh4=>key _ ?_,λh4=>(c167 h).call ⟨_,rfl,λg=>(c126 (first:=[]) (caps:=[]) h.types Tryz.call168 (λf=>!tyB f) λf hm=>c168 (h.typesOk f hm)).call ⟨_,rfl,λu=>key _ ?_,λu=>
   (c169 (first:=[]) (caps:=[]) h.procs Tryz.call170 (λf=>!prB f) λf hm=>c170 (h.procsOk f hm)).call ⟨_,rfl,key _ ?_⟩⟩,λg=>key _ ?_⟩⟩,λh3=>key _ ?_⟩⟩,λh1=>key _ ?_⟩
 ·grind
 ·grind
 ·grind[xQ,tyB]
 ·grind
 ·grind
 ·simp_all
 simp_all
end Go.Proofs
namespace Go.Proofs
open Go Go.Sx
def qKT:ByteArray:=qAo [110,105,108]
def sE:ByteArray:=qAo []
def qBa(d:Ds)(s:ByteArray):Bool:=d.types.any λt=>decide (t.name=s)
def qBi(d:Ds)(s:ByteArray):Bool:=decide (s=qAP)||decide (s=qAw)||qBa d s
def qDH(d:Ds)(a b:ByteArray):Bool:=decide (a=b)||(decide (a=qKT)&&qBa d b)
def qBN:List Fld->ByteArray->ByteArray
 |[],_=>sE
 |f::l,s=>if f.name=s then f.ty else qBN l s
def qJL(d:Ds)(s:ByteArray):Option Ty:=d.types.find? λt=>decide (t.name=s)
def qFA(d:Ds)(s:ByteArray):Option Pr:=d.procs.find? λt=>decide (t.name=s)
def meOf(d:Ds)(s:ByteArray):Option Ms:=d.measures.find? λt=>decide (t.name=s)
def qBY(d:Ds)(t name:ByteArray):ByteArray×Int:=
 match qJL d t with
 |none=>(sE,11)
 |some ty=>if qBN ty.fields name=sE then(sE,9)else(qBN ty.fields name,0)
def qCn(d:Ds):List ByteArray->List Fld->Bool
 |a::l,f::fs=>qDH d a f.ty&&qCn d l fs
 |_,_=>true
def qFD(d:Ds)(name:ByteArray)(l:List ByteArray):ByteArray×Int:=
 match qFA d name with
 |none=>(sE,9)
 |some p=>if l.length≠p.params.length then(sE,3)else if qCn d l p.params=true then(p.result,0)else(sE,11)
def qDD(ok:Bool)(t:ByteArray):ByteArray×Int:=if ok=true then(t,0)else(sE,11)
structure Sc where
 vars:List Fld
 body:Bool
def qJR(d:Ds)(name:ByteArray)(l:List ByteArray):ByteArray×Int:=
 match meOf d name with
 |none=>(sE,9)
 |some m=>if l.length≠1 then(sE,3)else qDD (qDH d (l.getD 0 sE) m.ty) qAP
def qIg(d:Ds)(sc:Sc)(name:ByteArray)(l:List ByteArray):ByteArray×Int:=
 if sc.body=true then(if(qFD d name l).2=0/\(qFD d name l).1=sE then(sE,11)else qFD d name l)else qJR d name l
def allT(l:List ByteArray)(t:ByteArray):Bool:=l.all λx=>decide (x=t)
def qFU(d:Ds)(sc:Sc)(op:Int)(s:ByteArray)(l:List ByteArray):ByteArray×Int:=
 if op=1 then(qAP,0)else if op=2 then(qAw,0)else if op=3 then(qKT,0)
 else if op=4 then(if qBN sc.vars s=sE then(sE,9)else(qBN sc.vars s,0))
 else if op=5 then qBY d (l.getD 0 sE) s
 else if op=6 then(if sc.body=false then(sE,13)else if qBa d s=false then(sE,9)else(s,0))
 else if op=7 then qIg d sc s l
 else if op=14∨op=15 then qDD (qDH d (l.getD 0 sE) (l.getD 1 sE)||qDH d (l.getD 1 sE) (l.getD 0 sE)) qAw
 else if op=16∨op=17 then qDD (allT l qAP) qAw
 else if op=18∨op=19∨op=20 then qDD (allT l qAw) qAw
 else if op=21 then qDD (decide (l.getD 0 sE=qAw)&&(qDH d (l.getD 1 sE) (l.getD 2 sE)||qDH d (l.getD 2 sE) (l.getD 1 sE))) (if l.getD 1 sE=qKT then l.getD 2 sE else l.getD 1 sE)
 else qDD (allT l qAP) qAP
mutual
def qAq(d:Ds)(sc:Sc):E->ByteArray×Int
 |.mk op _ s _ k=>if(partsT d sc [] k).2≠0 then(sE,(partsT d sc [] k).2)else qFU d sc op s (partsT d sc [] k).1
def partsT(d:Ds)(sc:Sc)(acc:List ByteArray):List E->List ByteArray×Int
 |[]=>(acc,0)
 |x::xs=>if(qAq d sc x).2≠0 then([],(qAq d sc x).2)else partsT d sc (acc++[(qAq d sc x).1]) xs
end
theorem qIw(d:Ds)(sc:Sc)(e:E):qAq d sc e=if(partsT d sc [] e.k).2≠0 then(sE,(partsT d sc [] e.k).2)else qFU d sc e.op e.s (partsT d sc [] e.k).1:=by
 cases e;rfl
theorem qCb(d:Ds)(sc:Sc)(acc:List ByteArray)(x:E)(xs:List E):partsT d sc acc (x::xs)=if(qAq d sc x).2≠0 then([],(qAq d sc x).2)else partsT d sc (acc++[(qAq d sc x).1]) xs:=by rw[partsT]
theorem qCT(d:Ds)(sc:Sc)(acc:List ByteArray):partsT d sc acc []=(acc,0):=by rw[partsT]
theorem qHq(d:Ds)(sc:Sc):∀(k:List E)(acc:List ByteArray),(partsT d sc acc k).2=0->(partsT d sc acc k).1.length=acc.length+k.length
 |[],acc,_=>by rfl
 |x::xs,acc,h=>by
  rw[qCb]at h⊢;split at h;·omega
  ·rename_i g;rw[if_neg g,qHq d sc xs _ h,List.length_append,zy,zy,List.length_nil];omega
def qAg(d:Ds)(p:Pr):Sc:=⟨p.params++p.locals++d.globals,true⟩
def sThisF:ByteArray:=qAo [116,104,105,115]
def qAA(d:Ds)(t:ByteArray):Sc:=⟨(if t=sE then[]else[⟨sThisF,t⟩])++d.globals,false⟩
def qBy(d:Ds)(p:Pr):Sc:=⟨p.params++d.globals,false⟩
def qEL(d:Ds)(sc:Sc)(result:ByteArray)(op:Int)(s:ByteArray)(es:List E):Int:=
 if op=6 then
  match es with
  |[]=>0
  |e::_=>if(partsT d sc [] e.k).2≠0 then(partsT d sc [] e.k).2 else(qFD d e.s (partsT d sc [] e.k).1).2
 else if(partsT d sc [] es).2≠0 then(partsT d sc [] es).2
 else if op=1 then(if qBN sc.vars s=sE then 9 else if qDH d ((partsT d sc [] es).1.getD 0 sE) (qBN sc.vars s)=true then 0 else 11)
 else if op=2 then(if(qBY d ((partsT d sc [] es).1.getD 0 sE) s).2≠0 then(qBY d ((partsT d sc [] es).1.getD 0 sE) s).2 else if qDH d ((partsT d sc [] es).1.getD 1 sE) (qBY d ((partsT d sc [] es).1.getD 0 sE) s).1=true then 0 else 11)
 else if op=3∨op=4 then(if(partsT d sc [] es).1.getD 0 sE=qAw then 0 else 11)
 else if op=5 then(if(partsT d sc [] es).1.length=0 then(if result=sE then 0 else 11)else if result≠sE/\qDH d ((partsT d sc [] es).1.getD 0 sE) result=true then 0 else 11)
 else 0
mutual
def stT(d:Ds)(sc:Sc)(result:ByteArray)(n:Int):S->Int×Int
 |.mk op s _ es _ ls _ xs=>
  if qEL d sc result op s es≠0 then(n,qEL d sc result op s es)
  else if(qBK d sc result (n+1) ls).2≠0 then qBK d sc result (n+1) ls
  else qBK d sc result (qBK d sc result (n+1) ls).1 xs
def qBK(d:Ds)(sc:Sc)(result:ByteArray)(n:Int):List S->Int×Int
 |[]=>(n,0)
 |x::xs=>if(stT d sc result n x).2≠0 then stT d sc result n x else qBK d sc result (stT d sc result n x).1 xs
end
theorem stT_eq(d:Ds)(sc:Sc)(result:ByteArray)(n:Int)(x:S):stT d sc result n x=if qEL d sc result x.op x.s x.es≠0 then(n,qEL d sc result x.op x.s x.es)else if(qBK d sc result (n+1) x.ls).2≠0 then qBK d sc result (n+1) x.ls else qBK d sc result (qBK d sc result (n+1) x.ls).1 x.xs:=by
 cases x;unfold stT;rfl
theorem qGr(d:Ds)(sc:Sc)(result:ByteArray)(n:Int)(x:S)(xs:List S):qBK d sc result n (x::xs)=if(stT d sc result n x).2≠0 then stT d sc result n x else qBK d sc result (stT d sc result n x).1 xs:=by rw[qBK]
theorem stsT_nil(d:Ds)(sc:Sc)(result:ByteArray)(n:Int):qBK d sc result n []=(n,0):=by rw[qBK]
def qEE(d:Ds)(l:List Fld)(i:Nat)(f:Fld):Int:=if(l.take i).any (λg=>decide (g.name=f.name))=true then 10 else if qBi d f.ty=true then 0 else 9
def qAj{α β:Type}(f:Nat->α->Option β):Nat->List α->Option β
 |_,[]=>none
 |i,x::xs=>match f i x with|some b=>some b|none=>qAj f (i+1) xs
def qCp(d:Ds)(l:List Fld):Int:=(qAj (λi f=>if qEE d l i f≠0 then some (qEE d l i f)else none) 0 l).getD 0
abbrev Flt:=ByteArray×Int×Int
def types1(d:Ds):Option Flt:=qAj (λi t=>if(d.types.take i).any (λg=>decide (g.name=t.name))=true then some (t.name,-1,10)else none) 0 d.types
def types2(d:Ds):Option Flt:=qAj (λ_ t=>if qCp d t.fields≠0 then some (t.name,-1,qCp d t.fields)else none) 0 d.types
def types3(d:Ds):Option Flt:=qAj (λi f=>if qEE d d.globals i f≠0 then some (f.name,-1,qEE d d.globals i f)else none) 0 d.globals
def qFE(d:Ds):Option Flt:=(types1 d).or ((types2 d).or (types3 d))
def qEC(d:Ds):Option Flt:=qAj (λi p=>if(d.procs.take i).any (λg=>decide (g.name=p.name))=true then some (p.name,-1,10)else if qCp d (p.params++p.locals)≠0 then some (p.name,-1,qCp d (p.params++p.locals))else if p.result≠sE/\qBi d p.result=false then some (p.name,-1,9)else none) 0 d.procs
def form1(d:Ds):Option Flt:=qAj (λi m=>if(d.measures.take i).any (λg=>decide (g.name=m.name))=true then some (m.name,-1,10)else if qBa d m.ty=false then some (m.name,-1,9)else none) 0 d.measures
def form2(d:Ds):Option Flt:=qAj (λi m=>if(d.invs.take i).any (λg=>decide (g.name=m.name))=true then some (m.name,-1,10)else if m.ty≠sE/\qBa d m.ty=false then some (m.name,-1,9)else none) 0 d.invs
def sPot:ByteArray:=qAo [112,111,116,101,110,116,105,97,108]
def form3(d:Ds):Option Flt:=qAj (λ_ m=>if m.ty≠sE/\qBa d m.ty=false then some (sPot,-1,9)else none) 0 d.pots
def form4(d:Ds):Option Flt:=qAj (λi b=>if(qFA d b.proc).isNone=true then some (b.proc,-1,9)else if(d.bounds.take i).any (λg=>decide (g.proc=b.proc))=true then some (b.proc,-1,10)else none) 0 d.bounds
def qEH(d:Ds):Option Flt:=(form1 d).or ((form2 d).or ((form3 d).or (form4 d)))
def qCv(d:Ds):Option Flt:=qAj (λ_ p=>if(qBK d (qAg d p) p.result 0 p.body).2≠0 then some (p.name,(qBK d (qAg d p) p.result 0 p.body).1,(qBK d (qAg d p) p.result 0 p.body).2)else none) 0 d.procs
def qBs(d:Ds)(sc:Sc)(e:E)(t:ByteArray):Int:=if(qAq d sc e).2≠0 then(qAq d sc e).2 else if(qAq d sc e).1=t then 0 else 11
def exp1(d:Ds):Option Flt:=qAj (λ_ m=>if qBs d (qAA d m.ty) m.x qAP≠0 then some (m.name,-1,qBs d (qAA d m.ty) m.x qAP)else none) 0 d.measures
def exp2(d:Ds):Option Flt:=qAj (λ_ m=>if qBs d (qAA d m.ty) m.x qAw≠0 then some (m.name,-1,qBs d (qAA d m.ty) m.x qAw)else none) 0 d.invs
def exp3(d:Ds):Option Flt:=qAj (λ_ m=>if qBs d (qAA d m.ty) m.x qAP≠0 then some (sPot,-1,qBs d (qAA d m.ty) m.x qAP)else none) 0 d.pots
def prD:Pr:=⟨sE,⟨none,0,0⟩,[],sE,⟨none,0,0⟩,[],⟨none,0,0⟩,[]⟩
def exp4(d:Ds):Option Flt:=qAj (λ_ m=>if qBs d (qBy d ((qFA d m.proc).getD prD)) m.x qAP≠0 then some (m.proc,-1,qBs d (qBy d ((qFA d m.proc).getD prD)) m.x qAP)else none) 0 d.bounds
def qHv(d:Ds):Option Flt:=(exp1 d).or ((exp2 d).or ((exp3 d).or (exp4 d)))
def qHW(d:Ds):Option Flt:=(qFE d).or ((qEC d).or ((qEH d).or ((qCv d).or (qHv d))))
def fltR(o:Option Flt):Flt:=o.getD (sE,0,0)
end Go.Proofs
namespace Go.Proofs
open Go Go.Sx
attribute [local irreducible] Go.Sx.Tri
noncomputable def ti(t:Nat):TypeInfo:=(xD.info? t).getD default
section
variable{α:Type}
def AppP(t e sz:Nat)(row:α->List Value):Prop:=∀{V0 V:Mem}{ty:Nat}{x y:Operand}{vals:Operand->Value}{s u:Sl}{xs ys:List α}(g:vals x=.slice s.p s.n s.c)(f:vals y=.slice u.p u.n u.c)(own:Sx.Own V0 V e sz s (xs.flatMap row))(h:qAc V u sz (ys.map row))
 (k:xs.length+ys.length<=2147483648) {q:Value->Mem->Prop} (w:∀s' V',Sx.Own V0 V' e sz s' ((xs++ys).flatMap row)->q (.slice s'.p s'.n s'.c) V'),
 GenK xD (.call {callee:=.builtin .append,args:=#[x,y],argTypes:=#[t,t]}) ty vals V q
theorem appG{t e sz:Nat}{row:α->List Value}(g:xD.underlying t=some (.slice e))(hi:xD.info? e=some (ti e))(f:(ti e).zero=some ((ti e).zero.getD undef))(h1:(ti e).size=sz)(h2:((ti e).zero.getD undef).cells.size=sz)(h3:decide ((ti e).bytes<=65536)=true)
  (h0:0<sz) (w:∀x,(row x).length=sz) (hu:∀x,∀u∈row x,u.oneCell'=true):AppP t e sz row:=by
 intro V0 V ty x y vals s u xs ys z j own h k q i;exact GenK.appendS g hi f h1 h2 h0 (of_decide_eq_true h3) z j own w h hu k i
end
theorem app220:AppP 220 9 1 qBh:=appG Tryz.underlying220 (by kernel_rfl) (by kernel_rfl) (by kernel_rfl) (by kernel_rfl) (by kernel_rfl) (by decide) (by intro _;rfl) λx u hu=>by simp[qBh,vS]at hu;rw[hu];rfl
theorem qGU:AppP 23 101 2 Fld.row:=appG Tryz.underlying23 (by kernel_rfl) (by kernel_rfl) (by kernel_rfl) (by kernel_rfl) (by kernel_rfl) (by decide) (by intro _;rfl) λx u hu=>by simp[Fld.row,vS]at hu;rcases hu with rfl|rfl<;>rfl
def qHu{α:Type}(p:α->Bool)(xs:List α):Int:=match xs.findIdx? p with|some i=>(i:Int)|none=>-1
theorem qCt{α:Type}{p:α->Bool}{xs:List α}{i:Nat}{x:α}(h:qAW (λy=>!p y) xs i)(k:xs[i]?=some x)(u:p x=true):qHu p xs=i:=by
 have g:=(yw.1 k).1;have w:=(yw.1 k).2;have:xs.findIdx? p=some i:=yh.2 ⟨g,by grind,λj f=>by
  have:=h j _ f (yv (Nat.lt_trans f g));simpa using this⟩
 unfold qHu;rw[this]
theorem qDd{α:Type}{p:α->Bool}{xs:List α}{i:Nat}(h:qAW (λy=>!p y) xs i)(hi:xs.length<=i):qHu p xs=-1:=by
 have:xs.findIdx? p=none:=List.findIdx?_eq_none_iff.2 λx k=>by
  obtain⟨j,g,rfl⟩:=ye.1 k;have:=h j _ (by omega) (yv g);simpa using this
 unfold qHu;rw[this]
theorem qAG{α:Type}(p:α->Bool)(xs:List α):(qHu p xs=-1/\xs.find? p=none/\xs.any p=false)∨∃(i:Nat)(x:α),qHu p xs=i/\xs[i]?=some x/\xs.find? p=some x/\i<xs.length/\p x=true/\x∈xs/\xs.any p=true/\(xs.take i).any p=false:=by
 cases h:xs.findIdx? p with
 |none=>
  grind[qHu]
 |some i=>
  obtain⟨k,g,u⟩:=yh.1 h;refine .inr ⟨i,xs[i],by unfold qHu;rw[h],yv k,?_,k,g,yp _,List.any_eq_true.2 ⟨_,yp _,g⟩,?_⟩
  ·rw[List.find?_eq_some_iff_getElem];grind
  ·rw[List.any_eq_false];intro x f;obtain⟨j,w,rfl⟩:=ye.1 f;grind
theorem qCc{α:Type}{p:α->Bool}{xs:List α}{i:Nat}{x:α}(h:qAW (λy=>!p y) xs i)(k:xs[i]?=some x)(g:p x=false):qAW (λy=>!p y) xs (i+1):=h.succ k (by simp[g])
theorem c85{V:Mem}{d:Ds}(h:Ds.Ok V d){s:ByteArray}:PP 85 [d.v,.string s] V (.int .i64 (qHu (λt=>decide (t.name=s)) d.types)):=by
 refine x85 ?_;refine qAI d.types.length (λi V1=>V=V1/\qAW (λt=>!decide (t.name=s)) d.types i) ⟨rfl,qAW.zero _ _⟩ ?_;rintro i b V1 J r ⟨rfl,f⟩ j;refine⟨λk=>?_,λu=>?_⟩
 ·obtain⟨x,hm,z,l,n,y,m,g⟩:=h.types.get k;refine⟨y,m,k,qAe y,_,_,g,λw=>?_,λw=>⟨h.types.succ k,j n _ _ ⟨rfl,qCc (p:=λt=>decide (t.name=s)) f z (decide_eq_false w)⟩⟩⟩;rw[qCt (p:=λt=>decide (t.name=s)) f z (decide_eq_true w)];simp_all
 ·rw[qDd (p:=λt=>decide (t.name=s)) f (h.types.done u).2];exact⟨rfl,rfl⟩
theorem c136{V:Mem}{d:Ds}(h:Ds.Ok V d){s:ByteArray}:PP 136 [d.v,.string s] V (.int .i64 (qHu (λt=>decide (t.name=s)) d.procs)):=by
 refine x136 ?_;refine qAI d.procs.length (λi V1=>V=V1/\qAW (λt=>!decide (t.name=s)) d.procs i) ⟨rfl,qAW.zero _ _⟩ ?_;rintro i b V1 J r ⟨rfl,f⟩ j;refine⟨λk=>?_,λu=>?_⟩
 ·obtain⟨x,hm,z,l,n,y,m,g⟩:=h.procs.get k;refine⟨y,m,k,qAe y,_,_,_,_,_,g,λw=>?_,λw=>⟨h.procs.succ k,j n _ _ ⟨rfl,qCc (p:=λt=>decide (t.name=s)) f z (decide_eq_false w)⟩⟩⟩;rw[qCt (p:=λt=>decide (t.name=s)) f z (decide_eq_true w)];simp_all
 ·rw[qDd (p:=λt=>decide (t.name=s)) f (h.procs.done u).2];exact⟨rfl,rfl⟩
theorem c152{V:Mem}{d:Ds}(h:Ds.Ok V d){s:ByteArray}:PP 152 [d.v,.string s] V (.int .i64 (qHu (λt=>decide (t.name=s)) d.measures)):=by
 refine x152 ?_;refine qAI d.measures.length (λi V1=>V=V1/\qAW (λt=>!decide (t.name=s)) d.measures i) ⟨rfl,qAW.zero _ _⟩ ?_;rintro i b V1 J r ⟨rfl,f⟩ j;refine⟨λk=>?_,λu=>?_⟩
 ·obtain⟨x,hm,z,l,n,y,m,g⟩:=h.measures.get k;refine⟨y,m,k,qAe y,_,_,_,_,_,_,_,g,λw=>?_,λw=>⟨h.measures.succ k,j n _ _ ⟨rfl,qCc (p:=λt=>decide (t.name=s)) f z (decide_eq_false w)⟩⟩⟩;rw[qCt (p:=λt=>decide (t.name=s)) f z (decide_eq_true w)];simp_all
 ·rw[qDd (p:=λt=>decide (t.name=s)) f (h.measures.done u).2];exact⟨rfl,rfl⟩
section
variable{V:Mem}{d:Ds}
theorem c153(h:Ds.Ok V d){s:ByteArray}:PP 153 [d.v,.string s] V (.bool (qBa d s)):=by
 refine x153 ?_;refine(c85 h).call ⟨_,rfl,?_⟩;rcases qAG (λt:Ty=>decide (t.name=s)) d.types with⟨h1,h2,h3⟩|⟨i,x,h1,h2,h3,h4,g,f,k,_⟩;·rw[h1,qBa,h3];exact⟨rfl,rfl⟩
 ·rw[h1,qBa,k,decide_eq_true (by omega)];exact⟨rfl,rfl⟩
theorem c151(h:Ds.Ok V d){s:ByteArray}:PP 151 [d.v,.string s] V (.bool (qBi d s)):=by
 refine x151 ?_;refine⟨λh1=>?_,λh1=>⟨λh2=>?_,λh2=>(c153 h).call ⟨_,rfl,?_⟩⟩⟩<;>simp[qBi,qAP,qAw, *]
theorem c187(h:Ds.Ok V d){s t:ByteArray}:PP 187 [d.v,.string s,.string t] V (.bool (qDH d s t)):=by
 refine x187 ?_;unfold qDH qKT;refine⟨λh1=>?_,λh1=>⟨λh2=>(c153 h).call ⟨_,rfl,?_⟩,λh2=>?_⟩⟩;·simp_all
 ·simp_all
 simp_all
theorem qKu(fs:List Fld):qCn d [] fs=true:=by simp[qCn]
theorem c186{l:Sl}{xs:List Fld}(h:qAc V l 2 (xs.map Fld.row)){s:ByteArray}:PP 186 [l.v,.string s] V (.string (qBN xs s)):=by
 refine x186 ?_;refine qAI xs.length (λi V1=>V=V1/\qBN xs s=qBN (xs.drop i) s) ⟨rfl,rfl⟩ ?_;rintro i b V1 J r ⟨rfl,z⟩ j;refine⟨λk=>?_,λu=>?_⟩
 ·obtain⟨x,hm,q,w,n,f,y,g⟩:=h.get k;rw[w,qBN]at z;refine⟨f,y,k,qAe f,_,_,g,λm=>⟨f,y,k,qAe f,_,_,g,?_⟩,λm=>⟨h.succ k,j n _ _ ⟨rfl,?_⟩⟩⟩;·simp_all
  simp_all
 ·rw[z,(h.done u).1];exact⟨rfl,rfl⟩
theorem c188(h:Ds.Ok V d){s t:ByteArray}:PP 188 [d.v,.string s,.string t] V (.tuple #[.string (qBY d s t).1,.int .i64 (qBY d s t).2]):=by
 refine x188 ?_;refine(c85 h).call ⟨_,rfl,?_⟩;unfold qBY qJL;rcases qAG (λt:Ty=>decide (t.name=s)) d.types with⟨h1,h2,h3⟩|⟨i,x,h1,h2,h3,h4,m,w,r,_⟩;·rw[h1,h2];exact⟨λ_=>⟨rfl,rfl⟩,λh=>absurd h (by decide)⟩
 ·rw[h1,h3];have q:=h.types.n_eq;have k:(i:Int)<(d.ts.n:Int):=by omega
  obtain⟨y,hm,f,z,o,u,j,g⟩:=h.types.get k;rw[h2]at f;cases f;refine⟨λh=>absurd h (by omega),λ_=>⟨u,j,k,qAe u,_,_,g,(c186 (h.typesOk x w).fields).call ⟨_,rfl,λl=>?_,λl=>?_⟩⟩⟩;·grind[sE]
  grind[sE]
theorem c216{b:Bool}{s:ByteArray}:PP 216 [.bool b,.string s] V (.tuple #[.string (qDD b s).1,.int .i64 (qDD b s).2]):=by
 refine x216 ?_;refine⟨λh=>?_,λh=>?_⟩;·unfold qDD;rw[if_pos h];exact⟨rfl,rfl⟩
 ·unfold qDD;rw[if_neg h];exact⟨rfl,rfl⟩
theorem c217{l:Sl}{xs:List ByteArray}(h:qAc V l 1 (xs.map qBh)){s:ByteArray}:PP 217 [l.v,.string s] V (.bool (allT xs s)):=by
 refine x217 ?_;refine qAI xs.length (λi V1=>V=V1/\qAW (λx=>decide (x=s)) xs i) ⟨rfl,qAW.zero _ _⟩ ?_;rintro i b V1 J q ⟨rfl,u⟩ z;refine⟨λk=>?_,λf=>?_⟩
 ·obtain⟨x,hm,y,j,n,m,r,g⟩:=h.get k;refine⟨m,r,k,_,g,λw=>⟨h.succ k,z n _ _ ⟨rfl,u.succ y (decide_eq_true w)⟩⟩,λw=>?_⟩;unfold allT;grind
 ·unfold allT;rw[u.all (h.done f).2];simp_all
theorem c184(h:Ds.Ok V d){s:ByteArray}{l:Sl}{xs:List ByteArray}(o:qAc V l 1 (xs.map qBh)):PP 184 [d.v,.string s,l.v] V (.tuple #[.string (qFD d s xs).1,.int .i64 (qFD d s xs).2]):=by
 refine x184 ?_;refine(c136 h).call ⟨_,rfl,?_⟩;unfold qFD qFA;rcases qAG (λt:Pr=>decide (t.name=s)) d.procs with⟨h1,h2,h3⟩|⟨i,x,h1,h2,h3,h4,D,Q,E,_⟩;·rw[h1,h2];exact⟨λ_=>⟨rfl,rfl⟩,λh=>absurd h (by decide)⟩
 ·rw[h1,h3];have K:=h.procs.n_eq;have k:(i:Int)<(d.ps.n:Int):=by omega
  obtain⟨y,hm,Y,P,O,A,I,z⟩:=h.procs.get k;rw[h2]at Y;cases Y;have m:=h.procsOk x Q;have S:=o.n_eq;have T:=m.params.n_eq;refine⟨λh=>absurd h (by omega),λ_=>⟨A,I,k,_,_,_,_,_,z,λM=>?_,λM=>?_⟩⟩
  ·have g:xs.length=x.params.length:=by omega
   simp only[g,ne_eq,not_true_eq_false,if_false];refine qEo xs.length (λi V1=>V=V1/\qCn d xs x.params=qCn d (xs.drop i) (x.params.drop i)) ⟨rfl,rfl⟩ ?_;rintro j b c V1 J U ⟨rfl,p⟩ F;refine⟨λk=>?_,λa=>?_⟩
   ·obtain⟨y,L,R,r,e,H,G,u⟩:=o.get k;obtain⟨f,X,B,N,C,q,Z,w⟩:=m.params.get (i:=j) (by omega);rw[r,N,qCn]at p;refine⟨H,G,k,_,u,q,Z,by omega,qAe q,_,_,w,(c187 h).call ⟨_,rfl,λW=>⟨o.succ k,F e _ _ _ ⟨rfl,?_⟩⟩,λW=>?_⟩⟩;·simp_all
    ·rw[eq_false_of_ne_true W,xR]at p;rw[p];exact⟨rfl,rfl⟩
   ·rw[(o.done a).1,qKu]at p;simp_all
  ·have g:¬xs.length=x.params.length:=by omega
   simp only[ne_eq,g,not_false_eq_true,if_true];exact⟨by rfl,by simp_all⟩
theorem qEz{l:Sl}{xs:List ByteArray}(u:qAc V l 1 (xs.map qBh)){i:Nat}(hi:i<xs.length):¬(l.p=none)/\(i:Int)<(l.n:Int)/\V.rowp l.p i 1=some [.string (xs.getD i sE)]:=by
 have m:=u.n_eq;have k:(i:Int)<(l.n:Int):=by omega
 obtain⟨y,z,g,w,x,f,j,h⟩:=u.get k;rw[List.getD_eq_getElem?_getD,g];rw[Nat.mul_one]at h;exact⟨f,k,h⟩
theorem c215(h:Ds.Ok V d){sl:Sl}{sc:Sc}{s:ByteArray}{l:Sl}{xs:List ByteArray}(w:qAc V l 1 (xs.map qBh)):
  PP 215 [d.v,.agg #[sl.v,.bool sc.body],.string s,l.v] V (.tuple #[.string (qIg d sc s xs).1,.int .i64 (qIg d sc s xs).2]):=by
 refine x215 ?_;refine⟨λg=>(c184 h w).call ⟨_,_,rfl,λh0=>⟨λh1=>?_,λh1=>?_⟩,λh0=>?_⟩,λg=>?_⟩;·unfold qIg sE;rw[if_pos g,if_pos ⟨h0,h1⟩];exact⟨rfl,rfl⟩
 ·unfold qIg sE;rw[if_pos g,if_neg (λh=>h1 h.2)];exact⟨rfl,rfl⟩
 ·unfold qIg;rw[if_pos g,if_neg (λh=>h0 h.1)];exact⟨rfl,rfl⟩
 ·unfold qIg;rw[if_neg g];refine(c152 h).call ⟨_,rfl,?_⟩;unfold qJR meOf;rcases qAG (λt:Ms=>decide (t.name=s)) d.measures with⟨h1,h2,h3⟩|⟨i,x,h1,h2,h3,h4,p,c,a,_⟩;·rw[h1,h2];exact⟨λ_=>⟨rfl,rfl⟩,λh=>absurd h (by decide)⟩
  ·rw[h1,h3];have e:=h.measures.n_eq;have f:(i:Int)<(d.ms.n:Int):=by omega
   obtain⟨y,hm,z,m,r,j,q,u⟩:=h.measures.get f;rw[h2]at z;cases z;have H:=w.n_eq;refine⟨λh=>absurd h (by omega),λ_=>⟨λo=>?_,λo=>?_⟩⟩
   ·have k:xs.length=1:=by omega
    obtain⟨a1,a2,a3⟩:=qEz w (i:=0) (by omega);simp only[k,ne_eq,not_true_eq_false,if_false];exact⟨a1,by omega,by omega,_,a3,j,q,f,qAe j,_,_,_,_,_,_,_,u,(c187 h).call ⟨_,rfl,c216.call ⟨_,_,rfl,rfl,rfl⟩⟩⟩
   ·have k:¬xs.length=1:=by omega
    simp only[ne_eq,k,not_false_eq_true,if_true];exact⟨by rfl,by simp_all⟩
end
theorem arity{op n:Int}{s:ByteArray}{len:Int}(h:qDC op n s len=true):(op=5->len=1)/\(op=14∨op=15->len=2)/\(op=21->len=3)/\len<=6:=by
 grind[qDC,qAT]
theorem qGD{d:Int}{e:E}(h:okE d e=true):qDC e.op e.n e.s e.k.length=true:=by
 cases e;unfold okE at h;rw[zC,zC]at h;exact h.1.2
theorem okEs_mem{d:Int}:∀{l:List E},okEs d l=true->∀x∈l,okE d x=true
 |[],_,x,k=>absurd k List.not_mem_nil
 |y::l,h,x,k=>by
  unfold okEs at h;rw[zC]at h;rcases List.mem_cons.1 k with rfl|k;·exact h.1
  ·exact okEs_mem h.2 x k
theorem qIq{d:Int}{e:E}(h:okE d e=true):∀x∈e.k,okE (d+1) x=true:=by
 cases e;unfold okE at h;rw[zC]at h;exact okEs_mem h.2
theorem ownS{V0 V:Mem}{s:Sl}{l:List ByteArray}(h:Own V0 V 9 1 s (l.flatMap qBh)):qAc V s 1 (l.map qBh):=h.rows (λ_=>rfl) (by decide)
theorem qIX{V:Mem}{b:Nat}{s:ByteArray}{t:Nat}(h:V b=some (.cells #[.string s] t (0,0))):qAc V ⟨some ⟨b,0,none⟩,1,1⟩ 1 ([s].map qBh):=
 qAc.cells (xs:=[s]) (row:=qBh) h rfl (λ_=>rfl) rfl (by simp)
def scV(sl:Sl)(sc:Sc):Value:=.agg #[sl.v,.bool sc.body]
section
variable{V:Mem}{d:Ds}{sc:Sc}{sl:Sl}
def RefE(V:Mem)(d:Ds)(sl:Sl)(sc:Sc)(e:E):Prop:=∀V1,V.sub V1->PP 185 [d.v,scV sl sc,e.v] V1 (.tuple #[.string (qAq d sc e).1,.int .i64 (qAq d sc e).2])
theorem refParts(e:E)(H:E.Ok V e)(a:(e.k.length:Int)<=6)(G:∀x∈e.k,RefE V d sl sc x):
  Tri xD 183 #[d.v,scV sl sc,e.v] V λr V'=>∃s':Sl,r=.returned (.tuple #[.slice s'.p s'.n s'.c,.int .i64 (partsT d sc [] e.k).2])/\V.sub V'/\qAc V' s' 1 ((partsT d sc [] e.k).1.map qBh):=by
 have N:=H.rows;refine x183 ?_;refine loop4s (mk:=λs:Sl=>.slice s.p s.n s.c) (mc:=.int .i64) (md:=λs:Sl=>.slice s.p s.n s.c) ⟨none,0,0⟩ 0 ⟨none,0,0⟩ qBc e.k.length (λi s V1=>∃acc,Own V V1 9 1 s (acc.flatMap qBh)/\partsT d sc [] e.k=partsT d sc acc (e.k.drop i)/\acc.length=i) ⟨[],Own.nil (Mem.sub.refl _) _ _,rfl,rfl⟩ ?_;rintro i b c s V1 J P ⟨acc,g,f,w⟩ Z;have z:=N.sub g.sub;refine⟨λy=>?_,λl=>?_⟩
 ·obtain⟨x,hm,O,m,Y,q,W,j⟩:=z.get y;rw[m,qCb]at f;refine⟨q,W,y,_,_,_,_,j,(G x hm V1 g.sub).call ⟨_,_,rfl,λh0=>?_,λh0=>?_⟩⟩
  ·intro b1 o;rw[if_neg (λh=>h h0)]at f;refine app220 (s:=s) (u:=⟨some ⟨b1,0,none⟩,1,1⟩) (xs:=acc) (ys:=[(qAq d sc x).1]) rfl rfl (g.new o _) (qIX mss) (by simp;omega) λs' V' Q=>⟨s',rfl,z.succ y,Z Y _ _ _ _ ⟨_,Q,f,by simp[w]⟩⟩
  ·rw[if_pos h0]at f;exact⟨⟨none,0,0⟩,by rw[f],g.sub,by rw[f];exact qAc.nil⟩
 ·rw[(z.done l).1,qCT]at f;exact⟨s,by rw[f],g.sub,by grind[ownS]⟩
set_option maxRecDepth 4000 in
theorem qLa(U:Ds.Ok V d)(A:qAc V sl 2 (sc.vars.map Fld.row)):∀(e:E),E.Ok V e->∀I,okE I e=true->RefE V d sl sc e:=by
 intro e;induction e using E.ind with
 |h e ih=>
 intro T I Z V1 O;have p:=arity (qGD Z);have hk:∀x∈e.k,RefE V1 d sl sc x:=λx M V2 h2=>ih x M (T.kids x M) (I+1) (qIq Z x M) V2 (O.trans h2);refine Pur.mk (x185 ?_);refine Tri.mono (refParts e (T.sub O) p.2.2.2 hk) ?_;rintro _ V2 ⟨s',rfl,c,g⟩;rw[qIw];have q:=qHq d sc e.k [];generalize hPT:partsT d sc [] e.k=pt at g q;obtain⟨l,f⟩:=pt;refine⟨s',f,rfl,λh0=>?_,λh0=>?_⟩
 ·subst h0;have q:l.length=e.k.length:=by simp_all
  simp only[ne_eq,not_true_eq_false,if_false];have m:=U.sub (O.trans c);have Y:=A.sub (O.trans c);generalize w:qFU d sc e.op e.s l=X;have key:∀a b,X=(a,b)->(xG (.tuple #[.string a,.int .i64 b])=xG (.tuple #[.string X.1,.int .i64 X.2])/\V1.sub V2):=λa b h=>by simp_all
  have j:=λt=>c217 g (s:=t);have u:=λa b=>c187 m (s:=a) (t:=b);have v:=λh:0<l.length=>qEz g h;have at1:=λh:1<l.length=>qEz g h;have at2:=λh:2<l.length=>qEz g h;unfold qFU at w;refine⟨λz=>key _ _ ?_,λz=>⟨λy=>key _ _ ?_,λy=>⟨λi=>key _ _ ?_,λi=>⟨λn=>?_,λn=>⟨λr=>?_,λr=>⟨λo=>?_,λo=>⟨λH=>?_,λH=>⟨λF=>?_,λF=>⟨λL=>?_,λL=>⟨λR=>?_,λR=>⟨λB=>?_,λB=>⟨λC=>?_,λC=>⟨λD=>?_,λD=>⟨λK=>?_,λK=>⟨λJ=>?_,λJ=>?_⟩⟩⟩⟩⟩⟩⟩⟩⟩⟩⟩⟩⟩⟩⟩;·rw[<-w,if_pos z];rfl
  ·rw[<-w,if_neg z,if_pos y];rfl
  ·rw[<-w,if_neg z,if_neg y,if_pos i];rfl
  ·rw[if_neg z,if_neg y,if_neg i,if_pos n]at w;refine(c186 Y).call ⟨_,rfl,λh=>key _ _ ?_,λh=>key _ _ ?_⟩;·grind[qBN,sE]
   grind[qBN,sE]
  ·rw[if_neg z,if_neg y,if_neg i,if_neg n,if_pos r]at w;obtain⟨a1,a2,a3⟩:=v (by omega);exact⟨a1,by omega,a2,_,a3,(c188 m).call ⟨_,_,rfl,key _ _ (by rw[<-w])⟩⟩
  ·rw[if_neg z,if_neg y,if_neg i,if_neg n,if_neg r,if_pos o]at w;refine⟨λS=>(c153 m).call ⟨_,rfl,λN=>key _ _ ?_,λN=>key _ _ ?_⟩,λS=>key _ _ ?_⟩;·simp_all
   ·rw[<-w,if_neg (by rw[S];simp),if_pos (eq_false_of_ne_true N)];rfl
   ·rw[<-w,if_pos (eq_false_of_ne_true S)];rfl
  ·rw[if_neg z,if_neg y,if_neg i,if_neg n,if_neg r,if_neg o,if_pos H]at w;exact(c215 m (sl:=sl) g).call ⟨_,_,rfl,key _ _ (by rw[<-w])⟩
  iterate 2
   ·rw[if_neg z,if_neg y,if_neg i,if_neg n,if_neg r,if_neg o,if_neg H,if_pos (by omega)]at w;obtain⟨a1,a2,a3⟩:=v (by have:=p.2.1 (by omega);omega);obtain⟨b1,b2,b3⟩:=at1 (by have:=p.2.1 (by omega);omega);refine⟨a1,by omega,a2,_,a3,b1,by omega,b2,_,b3,(u _ _).call ⟨_,rfl,λh=>c216.call ⟨_,_,rfl,key _ _ ?_⟩,λh=>⟨b1,by omega,b2,_,b3,a1,by omega,a2,_,a3,(u _ _).call ⟨_,rfl,c216.call ⟨_,_,rfl,key _ _ ?_⟩⟩⟩⟩⟩;·rw[<-w,h];rfl
    ·rw[<-w,eq_false_of_ne_true h];rfl
  iterate 2
   ·rw[if_neg z,if_neg y,if_neg i,if_neg n,if_neg r,if_neg o,if_neg H,if_neg (by omega),if_pos (by omega)]at w;exact(j _).call ⟨_,rfl,c216.call ⟨_,_,rfl,key _ _ (by rw[<-w];rfl)⟩⟩
  iterate 3
   ·rw[if_neg z,if_neg y,if_neg i,if_neg n,if_neg r,if_neg o,if_neg H,if_neg (by omega),if_neg (by omega),if_pos (by omega)]at w;exact(j _).call ⟨_,rfl,c216.call ⟨_,_,rfl,key _ _ (by rw[<-w];rfl)⟩⟩
  ·rw[if_neg z,if_neg y,if_neg i,if_neg n,if_neg r,if_neg o,if_neg H,if_neg (by omega),if_neg (by omega),if_neg (by omega),if_pos J]at w;obtain⟨a1,a2,a3⟩:=v (by omega);obtain⟨b1,b2,b3⟩:=at1 (by omega);obtain⟨W,Q,c3⟩:=at2 (by omega);have P:∀t,(if l.getD 1 sE=qKT then l.getD 2 sE else l.getD 1 sE)=t ->
     (l.getD 0 sE=qAw->qDH d (l.getD 1 sE) (l.getD 2 sE)=true->X=qDD true t)/\(l.getD 0 sE=qAw->¬qDH d (l.getD 1 sE) (l.getD 2 sE)=true->X=qDD (qDH d (l.getD 2 sE) (l.getD 1 sE)) t)/\(¬l.getD 0 sE=qAw->X=qDD false t):=λt ht=>by
    grind
   refine⟨b1,by omega,b2,_,b3,λN=>?_,λN=>?_⟩
   ·have G:=P _ (if_pos N);refine⟨W,by omega,Q,_,c3,a1,by omega,a2,_,a3,λh0=>⟨b1,by omega,b2,_,b3,W,by omega,Q,_,c3,(u _ _).call ⟨_,rfl,λh=>c216.call ⟨_,_,rfl,key _ _ ?_⟩,λh=>⟨W,by omega,Q,_,c3,b1,by omega,b2,_,b3,(u _ _).call ⟨_,rfl,c216.call ⟨_,_,rfl,key _ _ ?_⟩⟩⟩⟩⟩,λh0=>c216.call ⟨_,_,rfl,key _ _ ?_⟩⟩;·exact G.1 h0 h
    ·exact G.2.1 h0 h
    ·exact G.2.2 h0
   ·have G:=P _ (if_neg N);refine⟨a1,by omega,a2,_,a3,λh0=>⟨b1,by omega,b2,_,b3,W,by omega,Q,_,c3,(u _ _).call ⟨_,rfl,λh=>c216.call ⟨_,_,rfl,key _ _ ?_⟩,λh=>⟨W,by omega,Q,_,c3,b1,by omega,b2,_,b3,(u _ _).call ⟨_,rfl,c216.call ⟨_,_,rfl,key _ _ ?_⟩⟩⟩⟩⟩,λh0=>c216.call ⟨_,_,rfl,key _ _ ?_⟩⟩;·exact G.1 h0 h
    ·exact G.2.1 h0 h
    ·exact G.2.2 h0
  ·rw[if_neg z,if_neg y,if_neg i,if_neg n,if_neg r,if_neg o,if_neg H,if_neg (by omega),if_neg (by omega),if_neg (by omega),if_neg J]at w;exact(j _).call ⟨_,rfl,c216.call ⟨_,_,rfl,key _ _ (by rw[<-w];rfl)⟩⟩
 ·simp only[ne_eq,h0,not_false_eq_true,if_true];exact⟨rfl,c⟩
end
end Go.Proofs
