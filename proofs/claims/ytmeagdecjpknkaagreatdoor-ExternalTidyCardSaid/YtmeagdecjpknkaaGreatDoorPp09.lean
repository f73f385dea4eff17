/- Part 9 of a proof of a law of this seat: no statement of the seat is proved here. -/
import Derived.Test.YtmeagdecjpknkaaGreatDoorPp08
set_option linter.unusedVariables false
set_option linter.unusedSimpArgs false
namespace Go.Proofs
open Go Go.Sx
attribute [local irreducible] Go.Sx.Tri
mutual
def okE(d:Int):E->Bool | .mk op n s _ k=>decide (d<=60)&&qDt op n s k.length&&okEs (d+1) k
def okEs(d:Int):List E->Bool | []=>true|x::xs=>okE d x&&okEs d xs
end
mutual
def szE:E->Nat | .mk _ _ _ _ k=>1+szEs k
def szEs:List E->Nat | []=>0|x::xs=>szE x+szEs xs
end
mutual
def cntE(d:Int):E->Int | .mk op n s _ k=>if 60<d then 1001 else if qDt op n s k.length=true then qEP (d+1) 1 k else 1001
def qEP(d acc:Int):List E->Int | []=>acc|x::xs=>if 1000<acc+cntE d x then acc+cntE d x else qEP d (acc+cntE d x) xs
end
mutual
def vE(left d:Int):E->Bool×Int | .mk op n s _ k=>if 0<=left-1/\d<=60/\qDt op n s k.length=true then vEs (left-1) (d+1) k else (false,left-1)
def vEs(left d:Int):List E->Bool×Int | []=>(true,left) | x::xs=>if (vE left d x).1=true then vEs (vE left d x).2 d xs else (false,(vE left d x).2)
end
def qAJ(e:E):Bool:=decide (okE 1 e=true/\szE e<=1000)
mutual
theorem vE_ok:∀(left d:Int) (e:E),((vE left d e).1=true↔okE d e=true/\(szE e:Int)<=left)/\((vE left d e).1=true->(vE left d e).2=left-szE e)
 | left,d,.mk op n s l k=>by
  have ih:=vEs_ok (left-1) (d+1) k
  grind [vE,okE,szE]
theorem vEs_ok:∀(left d:Int) (k:List E),0<=left->((vEs left d k).1=true↔okEs d k=true/\(szEs k:Int)<=left)/\((vEs left d k).1=true->(vEs left d k).2=left-szEs k)
 | left,d,[],h=>by simp[vEs,okEs,szEs,h]
 | left,d,x::xs,h=>by
  have h1:=vE_ok left d x
  have h2:=vEs_ok (vE left d x).2 d xs
  grind [vEs,okEs,szEs]
end
mutual
theorem cntE_ok:∀(d:Int) (e:E),1<=cntE d e/\(cntE d e<=1000↔okE d e=true/\szE e<=1000)/\(cntE d e<=1000->cntE d e=szE e)/\cntE d e<=1001+1000*(61-d).toNat
 | d,.mk op n s l k=>by
  have ih:=cntEs_ok (d+1) 1 k (by omega) (by omega)
  grind [cntE,okE,szE]
theorem cntEs_ok:∀(d acc:Int) (k:List E),1<=acc->acc<=1000->acc<=qEP d acc k/\(qEP d acc k<=1000↔okEs d k=true/\acc+szEs k<=1000)/\(qEP d acc k<=1000->qEP d acc k=acc+szEs k)/\qEP d acc k<=2001+1000*(61-d).toNat
 | d,acc,[],h,h'=>by simp[qEP,okEs,szEs];omega
 | d,acc,x::xs,h,h'=>by
  have h1:=cntE_ok d x
  have h2:=cntEs_ok d (acc+cntE d x) xs (by omega)
  grind [qEP,okEs,szEs]
end
theorem validE_cnt(e:E):decide (cntE 1 e<=1000)=qAJ e:=by
 simp_all [cntE_ok,qAJ]
theorem validE_v(e:E):(vE 1000 1 e).1=qAJ e:=by
 grind [vE_ok,qAJ]
theorem vE_bound{left d:Int}{e:E}(h:(vE left d e).1=true):0<=(vE left d e).2/\(vE left d e).2<=left:=by
 grind [vE_ok]
theorem cntE_eq(d:Int)(e:E):cntE d e=if 60<d then 1001 else if qDt e.op e.n e.s e.k.length=true then qEP (d+1) 1 e.k else 1001:=by
 cases e;unfold cntE;rfl
theorem vE_eq(left d:Int)(e:E):vE left d e=if 0<=left-1/\d<=60/\qDt e.op e.n e.s e.k.length=true then vEs (left-1) (d+1) e.k else (false,left-1):=by
 cases e;unfold vE;rfl
theorem cntEs_cons(d acc:Int)(x:E)(xs:List E):qEP d acc (x::xs)=if 1000<acc+cntE d x then acc+cntE d x else qEP d (acc+cntE d x) xs:=by rw[qEP]
theorem vEs_cons(left d:Int)(x:E)(xs:List E):vEs left d (x::xs)=if (vE left d x).1=true then vEs (vE left d x).2 d xs else (false,(vE left d x).2):=by rw[vEs]
theorem cntEs_nil(d acc:Int):qEP d acc []=acc:=by rw[qEP]
theorem vEs_nil(left d:Int):vEs left d []=(true,left):=by rw[vEs]
theorem c148{V:Mem}:∀e:E,E.Ok V e->∀d:Int,0<=d->d<=61->PP 148 [e.v,.int .i64 d] V (.int .i64 (cntE d e)):=by
 intro e
 induction e using E.ind with
 | h e ih =>
 intro ho d hd0 hd
 have hr:=ho.rows
 refine x148 ?_
 unfold w148
 refine⟨fun h=>?_,fun h=>(c181 (e:=e) rfl).call ⟨_,rfl,fun hn=>?_,fun hn=>?_⟩⟩
 ·rw[cntE_eq,if_pos h];exact⟨rfl,rfl⟩
 ·rw[hr.n_eq]at hn
  rw[cntE_eq,if_neg h,if_pos hn]
  refine loop3s qEf e.k.length (fun i acc V1=>V1=V/\1<=acc/\acc<=1000/\qEP (d+1) 1 e.k=qEP (d+1) acc (e.k.drop i)) ⟨rfl,by omega,by omega,rfl⟩ ?_
  rintro i acc c _ J hi ⟨rfl,ha0,ha,he⟩ hJ
  refine⟨fun hlt=>?_,fun hge=>?_⟩
  ·obtain⟨x,hm,hx,hdr,hl,hp,hz,hrow⟩:=hr.get hlt
   have hc:=cntE_ok (d+1) x
   rw[hdr,cntEs_cons]at he
   refine⟨hp,hz,hlt,_,_,_,_,hrow,⟨by omega,by omega⟩,(ih x hm (ho.kids x hm) (d+1) (by omega) (by omega)).call ⟨_,rfl,⟨by omega,by omega⟩,fun hb=>?_,fun hb=>⟨hr.succ hlt,?_⟩⟩⟩
   ·simp_all
   grind
  ·rw[(hr.done hge).1,cntEs_nil]at he;simp_all
 ·rw[hr.n_eq]at hn
  rw[cntE_eq,if_neg h,if_neg hn];exact⟨rfl,rfl⟩
theorem c106{V:Mem}{e:E}(h:E.Ok V e):PP 106 [e.v] V (.bool (qAJ e)):=by
 refine x106 ?_
 unfold w106
 refine(c148 e h 1 (by omega) (by omega)).call ⟨_,rfl,?_⟩
 rw[validE_cnt];simp_all
theorem c250{V:Mem}{b t:Nat}{n:Int}(h:V b=some (cell (.int .i64 n) t))(h0:-1000<=n)(h1:n<=100000) :
  Tri Tryz.prog 250 #[pv b] V fun e V'=>e=.returned (.bool (decide (0<=n-1)))/\V'=V.set b (cell (.int .i64 (n-1)) t):=by
 refine x250 ?_
 unfold w250
 refine⟨by simp,by simp,_,qBJ h,⟨by omega,by omega⟩,by simp,by simp,StT.cell h ⟨by simp,by simp,_,qBJ mss,rfl,rfl⟩⟩
set_option maxRecDepth 10000 in
theorem c248{V0:Mem}[hT:Tab V0]{b t:Nat}(hb:V0 b=none):∀e:E,E.Ok V0 e->∀(V:Mem),V0.sub V->∀left d:Int,V b=some (cell (.int .i64 left) t)->0<=left->left<=1000->0<=d->d<=61 ->
    Tri Tryz.prog 248 #[e.v,.int .i64 d,pv b] V fun r V'=>r=.returned (.bool (vE left d e).1)/\V'=V.set b (cell (.int .i64 (vE left d e).2) t):=by
  intro e
  induction e using E.ind with
  | h e ih =>
  intro ho V hV left d hl hl0 hl1 hd0 hd
  have hr:=ho.rows
  have hn:=hr.n_eq
  refine Tri.less (x248 ?_)
  unfold w248
  refine c280.call ⟨_,_,rfl,Tri.mono (c250 hl (by omega) (by omega)) ?_⟩
  rintro _ _ ⟨rfl,rfl⟩
  refine⟨_,rfl,?_⟩
  -- no
  have no:¬(0<=left-1/\d<=60/\qDt e.op e.n e.s e.k.length=true)->∃W,(Ending.returned (.bool false)=Ending.returned (.bool (vE left d e).1)/\W=V.set b (cell (.int .i64 (vE left d e).2) t))/\W.sub (V.set b (cell (.int .i64 (left-1)) t)):=by
    intro h
    rw[vE_eq,if_neg h]
    exact⟨_,⟨rfl,rfl⟩,Mem.sub.refl _⟩
  -- yes
  have yes:(0<=left-1/\d<=60/\qDt e.op e.n e.s e.k.length=true)->qAs [(.int .i64 d)] 3 (V.set b (cell (.int .i64 (left-1)) t)) fun v10 V4 =>
        qAs [(pv b)] 288 V4 fun v11 V5 =>
        Tri Tryz.prog 252 #[(.slice e.l.p e.l.n e.l.c),(.func (.func 282) #[] #[(.pointer (qAa v10 0)),(.pointer (qAa v11 0))])] V5 fun r V6=>∃v12:Bool,r=.returned (.bool v12) /\
        ∃W,(Ending.returned (.bool (!v12))=Ending.returned (.bool (vE left d e).1)/\W=V.set b (cell (.int .i64 (vE left d e).2) t))/\W.sub V6:=by
    intro h b1 hb1 b2 hb2
    rw[vE_eq,if_pos h]
    have n1:b≠b1:=fun e=>by grind [Mem.set_same]
    have n2:b1≠b2:=fun e=>by grind [Mem.set_same]
    have n3:b≠b2:=fun e=>by grind [Mem.set_ne,Mem.set_same]
    rw[Mem.set_ne (fun e=>n1 e.symm)]at hb1
    rw[Mem.set_ne (fun e=>n2 e.symm),Mem.set_ne (fun e=>n3 e.symm)]at hb2
    have v1:V0 b1=none:=by cases h':V0 b1 with
      | none=>rfl
      | some x=>rw[hV _ _ h']at hb1;cases hb1
    have v2:V0 b2=none:=by cases h':V0 b2 with
      | none=>rfl
      | some x=>rw[hV _ _ h']at hb2;cases hb2
    let M:Int->Mem:=fun lf=>((V.set b (cell (.int .i64 lf) t)).set b1 (cell (.int .i64 d) 3)).set b2 (cell (pv b) 288)
    have hM:∀lf,V0.sub (M lf):=fun lf=>((hV.set hb _).set v1 _).set v2 _
    have hMb:∀lf,M lf b=some (cell (.int .i64 lf) t):=fun lf=>by grind [Mem.set_ne,Mem.set_same]
    have hM1:∀lf,M lf b1=some (cell (.int .i64 d) 3):=fun lf=>by grind [Mem.set_ne,Mem.set_same]
    have hM2:∀lf,M lf b2=some (cell (pv b) 288):=fun lf=>by grind [Mem.set_same]
    have hMs:∀lf lf',(M lf).set b (cell (.int .i64 lf') t)=M lf':=fun lf lf'=>by
      grind [Mem.set_comm,Mem.set_set]
    have hW:∀lf,(V.set b (cell (.int .i64 lf) t)).sub (M lf):=fun lf=>by
      refine((Mem.sub.refl _).set ?_ _).set ?_ _
      · grind [Mem.set_ne]
      grind [Mem.set_ne]
    refine Tri.mono (g252 (l:=e.l) (xs:=e.k) (first:=[]) (caps:=[pv b1,pv b2]) Tryz.call282
      (fun i V1=>∃lf,V1=M lf/\0<=lf/\lf<=1000/\vEs (left-1) (d+1) e.k=vEs lf (d+1) (e.k.drop i)) (fun i V1=>∃lf,V1=M lf/\vEs (left-1) (d+1) e.k=(false,lf)) ?_ ⟨left-1,rfl,by omega,by omega,rfl⟩ ?_) ?_
    · rintro i _ ⟨lf,rfl,-⟩;exact hr.sub (hM lf)
    · rintro i x _ hx ⟨lf,rfl,hf0,hf1,he⟩
      have hm:=List.mem_of_getElem? hx
      have hil:=(List.getElem?_eq_some_iff.1 hx).1
      have hdr:e.k.drop i=x::e.k.drop (i+1):=by rw[List.drop_eq_getElem_cons hil,(List.getElem?_eq_some_iff.1 hx).2]
      rw[hdr,vEs_cons]at he
      refine x282 ?_
      unfold w282
      refine⟨_,qBJ (hM1 lf),⟨by omega,by omega⟩,_,qBJ (hM2 lf),Tri.mono (ih x hm (ho.kids x hm) (M lf) (hM lf) lf (d+1) (hMb lf) hf0 hf1 (by omega) (by omega)) ?_⟩
      rintro _ _ ⟨rfl,rfl⟩
      refine⟨_,rfl,_,rfl,fun hb=>?_,fun hb=>?_⟩
      · simp_all
      · have hb:(vE lf (d+1) x).1=true:=by simpa using hb
        have:=vE_bound hb
        grind
    · rintro _ _ (⟨i,rfl,lf,rfl,he⟩|⟨rfl,lf,rfl,hf0,hf1,he⟩)
      · simp_all
      · rw[List.drop_length,vEs_nil]at he
        exact⟨_,rfl,_,⟨by rw[he];rfl,rfl⟩,by rw[he];exact hW lf⟩
  have key:qDt e.op e.n e.s e.k.length=(decide (qAP e.op≠-2/\(0<=qAP e.op->(e.k.length:Int)=qAP e.op)/\(qAP e.op=-1->(e.k.length:Int)<=6))&&(nmB e.op e.s&&numB e.op e.n)):=by grind [qDt]
  have pr:-2<=qAP e.op:=by unfold qAP;grind
  rw[key]at no yes
  have hnI:(e.k.length:Int)=(e.l.n:Int):=by rw[hn]
  rw[hnI]at no yes
  generalize hkn:(e.l.n:Int)=kn at no yes ⊢
  generalize hpn:qAP e.op=pn at no yes pr ⊢
  generalize hnm:(nmB e.op e.s&&numB e.op e.n)=nm at no yes ⊢
  haveI:Tab (V.set b (cell (.int .i64 (left-1)) t)):=Tab.sub hT (hV.set hb _)
  refine⟨fun h8=>⟨fun h60=>no fun h=>absurd h.2.1 (Int.not_le.2 h60),fun h60=>⟨fun h7=>(c281 (e:=e)).call ⟨nm,by rw[hnm],fun h9=>?_,fun h9=>no ?_⟩,fun h7=>no ?_⟩⟩,fun h8=>no ?_⟩
  · grind
  · simp_all
  · simp_all
  grind
theorem c204{V:Mem}[Tab V]{e:E}(h:E.Ok V e):PP 204 [e.v] V (.bool (qAJ e)):=by
 refine Pur.mk (x204 ?_)
 unfold w204
 intro b hb
 refine Tri.mono (c248 hb e h _ (Mem.sub_new hb _) 1000 1 mss (by omega) (by omega) (by omega) (by omega)) ?_
 rintro _ _ ⟨rfl,rfl⟩
 rw[validE_v,Mem.set_set]
 exact⟨_,rfl,rfl,Mem.sub_new hb _⟩
def fop:List E->Int | []=>0|e::_=>e.op
def qGe(op:Int)(s:ByteArray)(es:List E)(nl nx:Int):Bool :=
 if op=1 then qAT s&&decide ((es.length:Int)=1/\nl=0/\nx=0) else if op=2 then qAT s&&decide ((es.length:Int)=2/\nl=0/\nx=0) else if op=3 then decide (s=qAm []/\(es.length:Int)=1)
 else if op=4 then decide (s=qAm []/\(es.length:Int)=1/\nx=0) else if op=5 then decide (s=qAm []/\(es.length:Int)<=1/\nl=0/\nx=0) else if op=6 then decide (s=qAm []/\(es.length:Int)=1/\fop es=7/\nl=0/\nx=0) else false
def qBI(op:Int)(s:ByteArray)(es:List E)(nl nx:Int):Bool:=qGe op s es nl nx&&es.all qAJ
theorem c180{V:Mem}{s:S}(h:S.Ok V s){lo hi:Int}:PP 180 [s.v,.int .i64 lo,.int .i64 hi] V (.bool (decide (lo<=s.es.length/\(s.es.length:Int)<=hi)&&s.es.all qAJ)):=by
 have hr:=h.eRows
 have hn:=hr.n_eq
 rw[show s.v=.agg #[.int .i64 s.op,.string s.s,.slice s.el.p s.el.n s.el.c,.slice s.ll.p s.ll.n s.ll.c,.slice s.xl.p s.xl.n s.xl.c] by unfold S.v;rw[S.row_eq];rfl]
 refine x180 ?_
 unfold w180
 refine⟨fun h1=>?_,fun h1=>⟨fun h2=>?_,fun h2=>?_⟩⟩
 ·grind
 ·grind
 ·rw[decide_eq_true (by omega),Bool.true_and]
  refine qAD s.es.length (fun i V1=>V1=V/\s.es.all qAJ=(s.es.drop i).all qAJ) ⟨rfl,rfl⟩ ?_
  rintro i b _ J hi ⟨rfl,he⟩ hJ
  refine⟨fun hlt=>?_,fun hge=>?_⟩
  ·obtain⟨x,hm,hx,hdr,hl,hp,hz,hrow⟩:=hr.get hlt
   rw[hdr,List.all_cons]at he
   refine⟨hp,hz,hlt,_,_,_,_,hrow,(c106 (h.eOk x hm)).call ⟨_,rfl,fun hb=>⟨hr.succ hlt,hJ hl _ _ ⟨rfl,?_⟩⟩,fun hb=>?_⟩⟩
   ·simp_all
   simp_all
  grind
theorem qGy{V:Mem}{s:S}(h:S.Ok V s):(s.es=[]/\s.el.n=0)∨∃e0 r,s.es=e0::r/\0<s.el.n/\¬(s.el.p=none)/\¬(qAa s.el.p 0=none)/\V.rowp s.el.p 0 4=some [.int .i64 e0.op,.int .i64 e0.n,.string e0.s,.slice e0.l.p e0.l.n e0.l.c]:=by
 have hr:=h.eRows
 have hn:=hr.n_eq
 cases hes:s.es with
 | nil=>simp_all
 | cons e0 r =>
  have h0:((0:Nat):Int)<(s.el.n:Int):=by simp_all
  obtain⟨x,hm,hx,hdr,hl,hp,hz,hrow⟩:=hr.get h0
  rw[hes]at hx
  simp only[List.getElem?_cons_zero,Option.some.injEq]at hx
  subst hx
  refine .inr ⟨e0,r,rfl,by omega,hp,fun e=>?_,?_⟩
  ·cases hq:s.el.p with
   | none=>exact hp hq
   | some a=>rw[hq]at e;cases e
  grind [E.row,vI,vS,Sl.v]
set_option maxRecDepth 4000 in
theorem c147{V:Mem}{s:S}(h:S.Ok V s):PP 147 [s.v] V (.bool (qBI s.op s.s s.es s.ls.length s.xs.length)):=by
 have hf:=qGy h
 have cx:=fun lo hi=>c180 h (lo:=lo) (hi:=hi)
 have hnl:=h.lRows.n_eq
 have hnx:=h.xRows.n_eq
 rw[show s.v=.agg #[.int .i64 s.op,.string s.s,.slice s.el.p s.el.n s.el.c,.slice s.ll.p s.ll.n s.ll.c,.slice s.xl.p s.xl.n s.xl.c] by unfold S.v;rw[S.row_eq];rfl]at cx ⊢
 refine x147 ?_
 unfold w147
 rw[<- hnl,<- hnx]
 generalize hX:qBI s.op s.s s.es s.ll.n s.xl.n=X
 have key:∀b:Bool,X=b->Ending.returned (.bool b)=Ending.returned (.bool X):=fun n h=>by rw[h]
 unfold qBI qGe at hX
 generalize hva:s.es.all qAJ=va at cx
 rcases hf with⟨he,hn⟩|⟨e0,r,he,hn,hp,hp2,hrow⟩
 ·have hlen:(s.es.length:Int)=0:=by rw[he];rfl
  have hlen':s.es.length=0:=by rw[he];rfl
  rw[hlen]at cx
  rw[hva,hlen]at hX
  repeat' (first|refine c66.call ⟨_,rfl,?_⟩|refine(cx _ _).call ⟨_,rfl,?_⟩|apply And.intro|intro _)
  all_goals first|rfl | (refine key _ ?_;clear key cx;grind) | (exfalso;clear key cx;grind)
 ·have hfo:fop s.es=e0.op:=by rw[he];rfl
  generalize hlen:(s.es.length:Int)=len at cx
  rw[hva,hlen,hfo]at hX
  have hl0:0<len:=by grind
  have hns:(s.el.n:Int)=len:=by rw[<- hlen,h.eRows.n_eq]
  have c11:=cx 1 1
  have c22:=cx 2 2
  have c01:=cx 0 1
  rw[show decide (1<=len/\len<=1)=decide (len=1) by grind]at c11
  rw[show decide (2<=len/\len<=2)=decide (len=2) by grind]at c22
  rw[show decide (0<=len/\len<=1)=decide (len<=1) by grind]at c01
  repeat' (first|refine c66.call ⟨_,rfl,?_⟩|refine c11.call ⟨_,rfl,?_⟩|refine c22.call ⟨_,rfl,?_⟩|refine c01.call ⟨_,rfl,?_⟩|refine⟨_,_,_,_,hrow,?_⟩|exact hp|exact hp2|apply And.intro|intro _)
  all_goals first|rfl | (refine key _ ?_;clear key cx c11 c22 c01;grind) | omega | (exfalso;clear key cx c11 c22 c01;grind)
mutual
def okS(d:Int):S->Bool | .mk op s _ es _ ls _ xs=>decide (d<=60)&&qBI op s es ls.length xs.length&&qGJ (d+1) ls&&qGJ (d+1) xs
def qGJ(d:Int):List S->Bool | []=>true|x::xs=>okS d x&&qGJ d xs
end
mutual
def szS:S->Nat | .mk _ _ _ _ _ ls _ xs=>1+qFZ ls+qFZ xs
def qFZ:List S->Nat | []=>0|x::xs=>szS x+qFZ xs
end
mutual
def cntS(d acc:Int):S->Int
 | .mk op s _ es _ ls _ xs =>
  if 60<d then 201 else if qBI op s es ls.length xs.length=true then
    if acc+1<=200 then
      if acc+1+qCp (d+1) 0 ls<=200 then acc+1+qCp (d+1) 0 ls+qCp (d+1) 0 xs else acc+1+qCp (d+1) 0 ls
    else acc+1
  else 201
def qCp(d acc:Int):List S->Int | []=>acc|x::xs=>if 200<cntS d acc x then cntS d acc x else qCp d (cntS d acc x) xs
end
def gd{α:Type}(d left:Int)(l:List α)(r:Bool×Int):Bool×Int:=if 60<d/\l≠[] then (false,left) else r
mutual
def vS(left d:Int):S->Bool×Int
 | .mk op s _ es _ ls _ xs =>
  if 0<=left-1/\qBI op s es ls.length xs.length=true then
    if (gd (d+1) (left-1) ls (vSs (left-1) (d+1) ls)).1=true then
      gd (d+1) (gd (d+1) (left-1) ls (vSs (left-1) (d+1) ls)).2 xs (vSs (gd (d+1) (left-1) ls (vSs (left-1) (d+1) ls)).2 (d+1) xs)
    else (false,(gd (d+1) (left-1) ls (vSs (left-1) (d+1) ls)).2)
  else (false,left-1)
def vSs(left d:Int):List S->Bool×Int | []=>(true,left) | x::xs=>if (vS left d x).1=true then vSs (vS left d x).2 d xs else (false,(vS left d x).2)
end
def vSl(left d:Int)(l:List S):Bool×Int:=gd d left l (vSs left d l)
theorem vSs_cons(left d:Int)(x:S)(xs:List S):vSs left d (x::xs)=if (vS left d x).1=true then vSs (vS left d x).2 d xs else (false,(vS left d x).2):=by rw[vSs]
theorem vSs_nil(left d:Int):vSs left d []=(true,left):=by rw[vSs]
theorem cntSs_cons(d acc:Int)(x:S)(xs:List S):qCp d acc (x::xs)=if 200<cntS d acc x then cntS d acc x else qCp d (cntS d acc x) xs:=by rw[qCp]
theorem cntSs_nil(d acc:Int):qCp d acc []=acc:=by rw[qCp]
theorem vS_eq(left d:Int)(x:S):vS left d x=if 0<=left-1/\qBI x.op x.s x.es x.ls.length x.xs.length=true then (if (vSl (left-1) (d+1) x.ls).1=true then vSl (vSl (left-1) (d+1) x.ls).2 (d+1) x.xs else (false,(vSl (left-1) (d+1) x.ls).2)) else (false,left-1):=by
 cases x;unfold vS;rfl
theorem cntS_eq(d acc:Int)(x:S):cntS d acc x=if 60<d then 201 else if qBI x.op x.s x.es x.ls.length x.xs.length=true then
  if acc+1<=200 then
   if acc+1+qCp (d+1) 0 x.ls<=200 then acc+1+qCp (d+1) 0 x.ls+qCp (d+1) 0 x.xs else acc+1+qCp (d+1) 0 x.ls
  else acc+1
 else 201:=by
 cases x;unfold cntS;rfl
mutual
theorem cntS_ok:∀(d acc:Int) (e:S),0<=acc->acc<=200->acc+1<=cntS d acc e/\(cntS d acc e<=200↔okS d e=true/\acc+szS e<=200)/\(cntS d acc e<=200->cntS d acc e=acc+szS e)/\cntS d acc e<=201+200*(61-d).toNat
 | d,acc,.mk op s _ es _ ls _ xs,h,h'=>by
  have i1:=qFj (d+1) 0 ls (by omega) (by omega)
  have i2:=qFj (d+1) 0 xs (by omega) (by omega)
  unfold cntS okS szS
  grind
theorem qFj:∀(d acc:Int) (k:List S),0<=acc->acc<=200->acc<=qCp d acc k/\(qCp d acc k<=200↔qGJ d k=true/\acc+qFZ k<=200)/\(qCp d acc k<=200->qCp d acc k=acc+qFZ k)/\qCp d acc k<=201+200*(61-d).toNat
 | d,acc,[],h,h'=>by simp[qCp,qGJ,qFZ];omega
 | d,acc,x::xs,h,h'=>by
  have h1:=cntS_ok d acc x h h'
  have h2:=qFj d (cntS d acc x) xs (by omega)
  grind [qCp,qGJ,qFZ]
end
theorem okSs_deep{d:Int}(h:60<d):∀l:List S,l≠[]->qGJ d l=false
 | [],hl=>absurd rfl hl
 | .mk _ _ _ _ _ _ _ _::xs,_=>by
  grind [qGJ,okS]
mutual
theorem vS_ok:∀(left d:Int) (e:S),d<=60->((vS left d e).1=true↔okS d e=true/\(szS e:Int)<=left)/\((vS left d e).1=true->(vS left d e).2=left-szS e)
 | left,d,.mk op s _ es _ ls _ xs,hd=>by
  have i1:=vSs_ok (left-1) (d+1) ls
  have i2:=fun l=>vSs_ok l (d+1) xs
  have d1:=fun h=>okSs_deep (d:=d+1) h ls
  have d2:=fun h=>okSs_deep (d:=d+1) h xs
  grind [vS,okS,szS,gd,qBI,vSs,qGJ,qFZ,absurd]
theorem vSs_ok:∀(left d:Int) (k:List S),0<=left->¬(60<d/\k≠[])->((vSs left d k).1=true↔qGJ d k=true/\(qFZ k:Int)<=left)/\((vSs left d k).1=true->(vSs left d k).2=left-qFZ k)
 | left,d,[],h,_=>by simp[vSs,qGJ,qFZ,h]
 | left,d,x::xs,h,hd=>by
  have h1:=vS_ok left d x (by grind)
  have h2:=vSs_ok (vS left d x).2 d xs
  grind [vSs_cons,qGJ,qFZ]
end
def qEu(l:List S):Bool:=decide (qGJ 1 l=true/\qFZ l<=200)
theorem validSs_cnt(l:List S):decide (qCp 1 0 l<=200)=qEu l:=by
 have:=qFj 1 0 l (by omega) (by omega)
 unfold qEu
 grind
theorem validSs_v(l:List S):(vSl 200 1 l).1=qEu l:=by
 have:=(vSs_ok 200 1 l (by omega) (by omega)).1
 grind [qEu,vSl,gd]
theorem S.v_eq(s:S):s.v=.agg #[.int .i64 s.op,.string s.s,.slice s.el.p s.el.n s.el.c,.slice s.ll.p s.ll.n s.ll.c,.slice s.xl.p s.xl.n s.xl.c]:=by unfold S.v;rw[S.row_eq];rfl
theorem S.row_get{V:Mem}{p:Option Addr}{i:Nat}{x:S}(h:V.rowp p i 5=some x.row):V.rowp p i 5=some [.int .i64 x.op,.string x.s,.slice x.el.p x.el.n x.el.c,.slice x.ll.p x.ll.n x.ll.c,.slice x.xl.p x.xl.n x.xl.c]:=by
 rw[h,S.row_eq];rfl
theorem qAd{p:Option Addr}{n:Nat}(h:¬(p=none)):¬(qAa p n=none):=by
 cases p with
 | none=>grind
 | some a=>intro e;cases e
def CntP(V:Mem)(l:List S):Prop:=∀(sl:Sl) (d:Int),qAc V sl 5 (l.map S.row)->(∀x∈l,S.Ok V x)->0<=d->d<=61->PP 105 [sl.v,.int .i64 d] V (.int .i64 (qCp d 0 l))
theorem cntP_step{V:Mem}{l:List S}(hk:∀x∈l,CntP V x.ls/\CntP V x.xs):CntP V l:=by
 intro sl d hr hok hd0 hd
 refine x105 ?_
 unfold w105
 refine loop3s qEf l.length (fun i acc V1=>V1=V/\0<=acc/\acc<=200/\qCp d 0 l=qCp d acc (l.drop i)) ⟨rfl,by omega,by omega,rfl⟩ ?_
 rintro i acc c V1 J hi ⟨rfl,ha0,ha,he⟩ hJ
 refine⟨fun hlt=>?_,fun hge=>?_⟩
 ·obtain⟨x,hm,hx,hdr,hl,hp,hz,hrow⟩:=hr.get hlt
  have hrow:=S.row_get hrow
  have hox:=hok x hm
  have hn1:=hox.lRows.n_eq
  have hn2:=hox.xRows.n_eq
  rw[hdr,cntSs_cons]at he
  have hc:=cntS_eq d acc x
  have cs:=c147 hox
  rw[S.v_eq]at cs
  have bad:cntS d acc x=201->(Ending.returned (.int .i64 201)=Ending.returned (.int .i64 (qCp d 0 l))/\V1=V1):=fun h=>by
   grind
  have over:∀n,cntS d acc x=n->200<n->(Ending.returned (.int .i64 n)=Ending.returned (.int .i64 (qCp d 0 l))/\V1=V1):=fun n h hn=>by
   grind
  have on:∀n c',cntS d acc x=n->0<=n->¬200<n->J [.int .i64 n,.int .i64 c',   .int .i64 ((i:Int)+1)] V1:=fun n c' h h0 hn=>by
   grind
  refine⟨fun h60=>bad (by omega),fun h60=>⟨hp,hz,hlt,_,_,_,_,_,hrow,cs.call ⟨_,rfl,fun hs=>⟨⟨by omega,by omega⟩,fun h1=>?_,fun h1=>?_⟩,fun hs=>bad (by simp_all)⟩⟩⟩
  ·rw[if_neg h60,if_pos hs,if_pos h1]at hc
   have b1:=qFj (d+1) 0 x.ls (by omega) (by omega)
   have b2:=qFj (d+1) 0 x.xs (by omega) (by omega)
   refine⟨hp,hz,hlt,qAd hp,_,_,_,_,_,hrow,⟨by omega,by omega⟩,((hk x hm).1 x.ll (d+1) hox.lRows hox.lOk (by omega) (by omega)).call ⟨_,rfl,⟨by omega,by omega⟩,fun h2=>?_,fun h2=>?_⟩⟩
   ·rw[if_pos h2]at hc
    refine⟨hp,hz,hlt,qAd hp,_,_,_,_,_,hrow,⟨by omega,by omega⟩,((hk x hm).2 x.xl (d+1) hox.xRows hox.xOk (by omega) (by omega)).call ⟨_,rfl,⟨by omega,by omega⟩,fun h3=>over _ hc h3,fun h3=>⟨hr.succ hlt,on _ _ hc (by omega) h3⟩⟩⟩
   grind
  grind
 ·rw[(hr.done hge).1,cntSs_nil]at he;simp_all
theorem cntP_S(V:Mem):∀s:S,CntP V s.ls/\CntP V s.xs:=by
 intro s
 induction s using S.ind with
 | h s i1 i2=>grind [cntP_step]
theorem c105{V:Mem}{l:List S}{sl:Sl}{d:Int}(hr:qAc V sl 5 (l.map S.row))(hok:∀x∈l,S.Ok V x)(h0:0<=d)(h1:d<=61):PP 105 [sl.v,.int .i64 d] V (.int .i64 (qCp d 0 l)) :=
 cntP_step (fun x _=>cntP_S V x) sl d hr hok h0 h1
set_option maxRecDepth 4000 in
theorem c251{V:Mem}[Tab V]{s:S}(h:S.Ok V s):PP 251 [s.v] V (.bool (qGe s.op s.s s.es s.ls.length s.xs.length)):=by
 have hf:=qGy h
 have hnl:=h.lRows.n_eq
 have hnx:=h.xRows.n_eq
 have hne:=h.eRows.n_eq
 rw[S.v_eq]
 refine x251 ?_
 unfold w251
 rw[<- hnl,<- hnx]
 generalize hX:qGe s.op s.s s.es s.ll.n s.xl.n=X
 have key:∀b:Bool,X=b->Ending.returned (.bool b)=Ending.returned (.bool X):=fun n h=>by rw[h]
 unfold qGe at hX
 rw[<- hne]at hX
 have hn0:(0:Int)<=(s.el.n:Int):=by omega
 have hn1:(0:Int)<=(s.ll.n:Int):=by omega
 have hn2:(0:Int)<=(s.xl.n:Int):=by omega
 generalize hne':(s.el.n:Int)=ne at hX hn0
 generalize (s.ll.n:Int)=nl at hX hn1
 generalize (s.xl.n:Int)=nx at hX hn2
 rcases hf with⟨he,hn⟩|⟨e0,r,he,hn,hp,hp2,hrow⟩
 ·have:ne=0:=by omega
  subst this
  clear hnl hnx hne hn
  repeat' (first|refine c165.call ⟨_,rfl,?_⟩|apply And.intro|intro _)
  all_goals first|rfl | (refine key _ ?_;clear key h he;grind) | (exfalso;clear key h he;grind)
 ·have hfo:fop s.es=e0.op:=by rw[he];rfl
  rw[hfo]at hX
  have hn':0<ne:=by omega
  clear hnl hnx hne hn
  repeat' (first|refine c165.call ⟨_,rfl,?_⟩|refine⟨_,_,_,_,hrow,?_⟩|exact hp|exact hp2|exact hn'|apply And.intro|intro _)
  all_goals first|rfl | (refine key _ ?_;clear key h he hrow hp hp2;grind) | (exfalso;clear key h he hrow hp hp2;grind) | omega
theorem c253{V:Mem}[Tab V]{e:E}(h:E.Ok V e):PP 253 [e.v] V (.bool (!qAJ e)):=by
 refine x253 ?_
 unfold w253
 exact(c204 h).call ⟨_,rfl,rfl,rfl⟩
theorem vSl_bound{left d:Int}{l:List S}(h0:0<=left)(h:(vSl left d l).1=true):0<=(vSl left d l).2/\(vSl left d l).2<=left:=by
 unfold vSl gd at h ⊢
 split at h
 ·cases h
 ·rename_i hn
  rw[if_neg hn]
  grind [vSs_ok]
theorem vSl_eq{left d:Int}{l:List S}(h:¬(60<d/\l≠[])):vSl left d l=vSs left d l:=by grind [vSl,gd]
section
variable{V0:Mem}{b t:Nat}
def StP(V0:Mem)(b t:Nat)(l:List S):Prop:=∀(sl:Sl) (d left:Int) (V:Mem),qAc V0 sl 5 (l.map S.row)->(∀x∈l,S.Ok V0 x)->V0.sub V->V b=some (cell (.int .i64 left) t)->0<=left->left<=200->0<=d->d<=61 ->
 Tri Tryz.prog 208 #[sl.v,.int .i64 d,pv b] V fun r V'=>r=.returned (.bool (vSl left d l).1)/\V'=V.set b (cell (.int .i64 (vSl left d l).2) t)
theorem stP_step[hT:Tab V0](hb:V0 b=none){l:List S}(hk:∀x∈l,StP V0 b t x.ls/\StP V0 b t x.xs):StP V0 b t l:=by
 intro sl d left V hr hok hV hcell hl0 hl1 hd0 hd
 have hn:=hr.n_eq
 refine x208 ?_
 unfold w208
 have hM:∀lf,V0.sub (V.set b (cell (.int .i64 lf) t)):=fun lf=>hV.set hb _
 refine⟨fun h0=>⟨fun h60=>?_,fun h60=>?_⟩,fun h0=>?_⟩
 ·have:vSl left d l=(false,left):=by
   grind [vSl,gd]
  rw[this]
  exact⟨rfl,(Mem.set_eq hcell).symm⟩
 all_goals
  have hnd:¬(60<d/\l≠[]):=by
   first
   | exact fun h=>h60 h.1
   | simp_all
  rw[vSl_eq hnd]
  refine qAD l.length (fun i V1=>∃lf,V1=V.set b (cell (.int .i64 lf) t)/\0<=lf/\lf<=200/\vSs left d l=vSs lf d (l.drop i)) ⟨left,(Mem.set_eq hcell).symm,hl0,hl1,rfl⟩ ?_
  rintro i c _ J hi ⟨lf,rfl,hf0,hf1,he⟩ hJ
  refine⟨fun hlt=>?_,fun hge=>?_⟩
  ·obtain⟨x,hm,hx,hdr,hl,hp,hz,hrow⟩:=(hr.sub (hM lf)).get hlt
   have hrow:=S.row_get hrow
   have hox:=hok x hm
   rw[hdr,vSs_cons]at he
   have hv:=vS_eq lf d x
   have cs:=fun V (h0:V0.sub V) (h:S.Ok V x)=>(haveI:Tab V:=Tab.sub hT h0;c251 h)
   rw[S.v_eq]at cs
   have no:∀n,vS lf d x=(false,n)->(Ending.returned (.bool false)=Ending.returned (.bool (vSs left d l).1)/\V.set b (cell (.int .i64 n) t)=V.set b (cell (.int .i64 (vSs left d l).2) t)):=fun n h=>by
    rw[h]at he
    rw[he];exact⟨rfl,rfl⟩
   refine⟨hp,hz,hlt,_,_,_,_,_,hrow,Tri.mono (c250 mss (by omega) (by omega)) ?_⟩
   rintro _ _ ⟨rfl,rfl⟩
   rw[Mem.set_set]
   refine⟨_,rfl,fun h8=>(cs _ (hM _) (hox.sub (hM _))).call ⟨_,rfl,fun hs=>?_,fun hs=>?_⟩,fun h8=>?_⟩
   ·have h8:0<=lf-1:=of_decide_eq_true h8
    refine(c252 (first:=[]) (caps:=[]) (l:=x.el) (hox.eRows.sub (hM _)) Tryz.call253 (fun e=>!qAJ e) (fun e hm=>haveI:Tab (V.set b (cell (.int .i64 (lf-1)) t)):=Tab.sub hT (hM (lf-1));c253 ((hox.eOk e hm).sub (hM _)))).call ⟨_,rfl,fun ha=>?_,fun ha=>?_⟩
    ·have hal:x.es.all qAJ=false:=by
      rw[List.any_eq_not_all_not]at ha
      simpa using ha
     rw[if_neg (fun h=>by have:=h.2;unfold qBI at this;rw[hal,Bool.and_false]at this;cases this)]at hv
     exact no _ hv
    ·have hal:x.es.all qAJ=true:=by
      rw[List.any_eq_not_all_not]at ha
      simpa using ha
     have hsr:qBI x.op x.s x.es x.ls.length x.xs.length=true:=by unfold qBI;rw[hs,hal];rfl
     rw[if_pos ⟨h8,hsr⟩]at hv
     refine⟨⟨by omega,by omega⟩,Tri.mono ((hk x hm).1 x.ll (d+1) (lf-1) _ hox.lRows hox.lOk (hM _) mss h8 (by omega) (by omega) (by omega)) ?_⟩
     rintro _ _ ⟨rfl,rfl⟩
     rw[Mem.set_set]
     refine⟨_,rfl,fun h1=>⟨⟨by omega,by omega⟩,?_⟩,fun h1=>?_⟩
     ·rw[if_pos h1]at hv
      have b1:=vSl_bound h8 h1
      refine Tri.mono ((hk x hm).2 x.xl (d+1) _ _ hox.xRows hox.xOk (hM _) mss b1.1 (by omega) (by omega) (by omega)) ?_
      rintro _ _ ⟨rfl,rfl⟩
      rw[Mem.set_set]
      refine⟨_,rfl,fun h2=>?_,fun h2=>?_⟩
      ·have b2:=vSl_bound b1.1 h2
       rw[hv,if_pos h2]at he
       exact⟨(hr.sub (hM lf)).succ hlt,hJ hl _ _ ⟨_,rfl,b2.1,by omega,he⟩⟩
      ·rw[<- hv]at h2 ⊢
       exact no _ (Prod.ext (eq_false_of_ne_true h2) rfl)
     ·rw[if_neg h1]at hv
      exact no _ hv
   ·rw[if_neg (fun h=>by have:=h.2;unfold qBI at this;rw[eq_false_of_ne_true hs,Bool.false_and]at this;cases this)]at hv
    exact no _ hv
   ·rw[if_neg (fun h=>h8 (decide_eq_true h.1))]at hv
    exact no _ hv
  ·rw[((hr.sub (hM lf)).done hge).1,vSs_nil]at he
   rw[he];exact⟨rfl,rfl⟩
theorem stP_S[hT:Tab V0](hb:V0 b=none):∀s:S,StP V0 b t s.ls/\StP V0 b t s.xs:=by
 intro s
 induction s using S.ind with
 | h s i1 i2=>grind [stP_step]
theorem c208[hT:Tab V0](hb:V0 b=none)(l:List S):StP V0 b t l:=stP_step hb fun x _=>stP_S hb x
end
def qAX{α:Type}(p:α->Bool)(xs:List α)(i:Nat):Prop:=∀j x,j<i->xs[j]?=some x->p x=true
theorem qAX.zero{α:Type}(p:α->Bool)(xs:List α):qAX p xs 0:=fun _ _ h=>absurd h (Nat.not_lt_zero _)
theorem qAX.succ{α:Type}{p:α->Bool}{xs:List α}{i:Nat}{x:α}(h:qAX p xs i)(hx:xs[i]?=some x)(hp:p x=true):qAX p xs (i+1):=fun j y hj hy=>by
 rcases Nat.lt_succ_iff_lt_or_eq.1 hj with h'|rfl
 ·exact h j y h' hy
 simp_all
theorem qAX.all{α:Type}{p:α->Bool}{xs:List α}{i:Nat}(h:qAX p xs i)(hi:xs.length<=i):xs.all p=true :=
 List.all_eq_true.2 fun x hx=>by
  obtain⟨j,hj,rfl⟩:=List.mem_iff_getElem.1 hx
  exact h j _ (by omega) (List.getElem?_eq_getElem hj)
theorem all_false{α:Type}{p:α->Bool}{xs:List α}{x:α}(h:x∈xs)(hp:¬p x=true):xs.all p=false:=by
 grind
def qAV:ByteArray:=qAm [105,110,116]
def qAt:ByteArray:=qAm [98,111,111,108]
def typB(s:ByteArray):Bool:=decide (s=qAV)||decide (s=qAt)||qAT s
def openB(s:ByteArray):Bool:=decide (s=qAm [])||qAT s
def fldB(f:Fld):Bool:=qAT f.name&&typB f.ty
def qDg(l:List Fld)(most:Int):Bool:=decide ((l.length:Int)<=most)&&l.all fldB
def tyB(t:Ty):Bool:=qAT t.name&&qDg t.fields 12
def prB(p:Pr):Bool:=qAT p.name&&qDg p.params 6&&qDg p.locals 12&&(decide (p.result=qAm [])||typB p.result)&&qEu p.body
def msB(m:Ms):Bool:=qAT m.name&&qAT m.ty&&decide (-1099511627776<=m.nil/\m.nil<=1099511627776)&&qAJ m.x
def ivB(m:Iv):Bool:=qAT m.name&&openB m.ty&&qAJ m.x
def poB(m:Po):Bool:=openB m.ty&&qAJ m.x
def bdB(m:Bd):Bool:=qAT m.proc&&qAJ m.x
def qJI(d:Ds):Bool:=d.measures.all msB&&d.invs.all ivB&&d.pots.all poB&&d.bounds.all bdB
def lensB(d:Ds):Bool:=decide ((d.measures.length:Int)<=12/\(d.invs.length:Int)<=12/\(d.pots.length:Int)<=12/\(d.bounds.length:Int)<=12)
def qAB(d:Ds):Bool:=qAT d.name&&decide ((d.types.length:Int)<=12)&&qDg d.globals 8&&decide ((d.procs.length:Int)<=40)&&lensB d&&d.types.all tyB&&d.procs.all prB&&qJI d
theorem c104{V:Mem}{s:ByteArray}:PP 104 [.string s] V (.bool (typB s)):=by
 refine x104 ?_
 unfold w104
 refine⟨fun h=>?_,fun h=>⟨fun h1=>?_,fun h1=>c66.call ⟨_,rfl,?_⟩⟩⟩ <;> simp[typB,qAV,qAt, *]
theorem c203{V:Mem}[Tab V]{s:ByteArray}:PP 203 [.string s] V (.bool (typB s)):=by
 refine x203 ?_
 unfold w203
 refine⟨fun h=>?_,fun h=>⟨fun h1=>?_,fun h1=>c165.call ⟨_,rfl,?_⟩⟩⟩ <;> simp[typB,qAV,qAt, *]
theorem c107{V:Mem}{s:ByteArray}:PP 107 [.string s] V (.bool (openB s)):=by
 refine x107 ?_
 unfold w107
 refine⟨fun h=>?_,fun h=>c66.call ⟨_,rfl,?_⟩⟩ <;> simp[openB, *]
theorem c205{V:Mem}[Tab V]{s:ByteArray}:PP 205 [.string s] V (.bool (openB s)):=by
 refine x205 ?_
 unfold w205
 refine⟨fun h=>?_,fun h=>c165.call ⟨_,rfl,?_⟩⟩ <;> simp[openB, *]
theorem c67{V:Mem}{l:Sl}{xs:List Fld}{n:Int}(hr:qAc V l 2 (xs.map Fld.row)):PP 67 [l.v,.int .i64 n] V (.bool (qDg xs n)):=by
 refine x67 ?_
 unfold w67
 have hn:=hr.n_eq
 refine⟨fun h=>?_,fun h=>?_⟩
 ·grind [qDg]
 ·have hle:(xs.length:Int)<=n:=by omega
  refine qAD xs.length (fun i V1=>V1=V/\qAX fldB xs i) ⟨rfl,qAX.zero _ _⟩ ?_
  rintro i b V1 J hi ⟨rfl,ha⟩ hJ
  refine⟨fun hlt=>?_,fun hge=>?_⟩
  ·obtain⟨x,hm,hx,hdr,hl,hp,hz,hrow⟩:=hr.get hlt
   have no:fldB x=false->(Ending.returned (.bool false)=Ending.returned (.bool (qDg xs n))/\V1=V1):=fun h=>by
    unfold qDg;grind
   refine⟨hp,hz,hlt,qAd hp,_,_,hrow,c66.call ⟨_,rfl,fun h1=>⟨hp,hz,hlt,qAd hp,_,_,hrow,c104.call ⟨_,rfl,fun h2=>⟨hr.succ hlt,hJ hl _ _ ⟨rfl,ha.succ hx (by simp[fldB, *])⟩⟩,fun h2=>no (by simp[fldB, *])⟩⟩,fun h1=>no (by simp[fldB, *])⟩⟩
  ·have:=ha.all (hr.done hge).2
   simp[qDg,this,hle]
theorem c202{V:Mem}[Tab V]{f:Fld}:PP 202 [f.v] V (.bool (!fldB f)):=by
 refine x202 ?_
 unfold w202
 refine c165.call ⟨_,rfl,fun h=>c203.call ⟨_,rfl,?_⟩,fun h=>?_⟩ <;> simp[fldB, *]
theorem c166{V:Mem}[Tab V]{l:Sl}{xs:List Fld}{n:Int}(hr:qAc V l 2 (xs.map Fld.row)):PP 166 [l.v,.int .i64 n] V (.bool (qDg xs n)):=by
 refine x166 ?_
 unfold w166
 have hn:=hr.n_eq
 refine⟨fun h=>(c122 (first:=[]) (caps:=[]) hr Tryz.call202 (fun f=>!fldB f) fun f _=>c202).call ⟨_,rfl,?_⟩,fun h=>?_⟩
 ·grind [qDg]
 grind [qDg]
theorem c68{V:Mem}{p:Pr}(h:Pr.Ok V p):PP 68 [p.v] V (.bool (prB p)):=by
 refine x68 ?_
 unfold w68
 have cs:=c105 (d:=1) h.body h.stmts (by omega) (by omega)
 refine c66.call ⟨_,rfl,fun h1=>(c67 h.params).call ⟨_,rfl,fun h2=>(c67 h.locals).call ⟨_,rfl,fun h3=>⟨fun h4=>cs.call ⟨_,rfl,?_⟩,fun h4=>c104.call ⟨_,rfl,fun h5=>cs.call ⟨_,rfl,?_⟩,fun h5=>?_⟩⟩,fun h3=>?_⟩,fun h2=>?_⟩,fun h1=>?_⟩
 all_goals simp[prB,<- validSs_cnt, *]
theorem c171{V:Mem}[Tab V]{p:Pr}(h:Pr.Ok V p):PP 171 [p.v] V (.bool (prB p)):=by
  refine Pur.mk (x171 ?_)
  unfold w171
  have cs:(qEu p.body=prB p)->qAs [(.int .i64 200)] 290 V fun v9 V5 =>
       Tri Tryz.prog 208 #[(.slice p.bs.p p.bs.n p.bs.c),(.int .i64 1),(.pointer (qAa v9 0))] V5 fun e V6=>∃v10:Bool,e=.returned (.bool v10)/\(Ending.returned (.bool v10)=Ending.returned (.bool (prB p))/\V.sub V6):=fun e b hb=>by
    refine Tri.mono (c208 hb p.body p.bs 1 200 _ h.body h.stmts (Mem.sub_new hb _) mss (by omega) (by omega) (by omega) (by omega)) ?_
    rintro _ _ ⟨rfl,rfl⟩
    rw[validSs_v,Mem.set_set,e]
    exact⟨_,rfl,rfl,Mem.sub_new hb _⟩
  refine c165.call ⟨_,rfl,fun h1=>(c166 h.params).call ⟨_,rfl,fun h2=>(c166 h.locals).call ⟨_,rfl,fun h3=>⟨fun h4=>cs ?_,fun h4=>c203.call ⟨_,rfl,fun h5=>cs ?_,fun h5=>⟨?_,Mem.sub.refl _⟩⟩⟩,fun h3=>⟨?_,Mem.sub.refl _⟩⟩,fun h2=>⟨?_,Mem.sub.refl _⟩⟩,fun h1=>⟨?_,Mem.sub.refl _⟩⟩
  all_goals simp[prB, *]
theorem c207{V:Mem}[Tab V]{b:Bd}(h:E.Ok V b.x):PP 207 [b.v] V (.bool (!bdB b)):=by
 refine x207 ?_
 unfold w207
 refine c165.call ⟨_,rfl,fun h1=>(c204 h).call ⟨_,rfl,?_⟩,fun h1=>?_⟩ <;> simp[bdB, *]
theorem c168{V:Mem}[Tab V]{t:Ty}(h:Ty.Ok V t):PP 168 [t.v] V (.bool (!tyB t)):=by
 refine x168 ?_
 unfold w168
 refine c165.call ⟨_,rfl,fun h1=>(c166 h.fields).call ⟨_,rfl,?_⟩,fun h1=>?_⟩ <;> simp[tyB, *]
theorem c170{V:Mem}[Tab V]{t:Pr}(h:Pr.Ok V t):PP 170 [t.v] V (.bool (!prB t)):=by
 refine x170 ?_
 unfold w170
 exact(c171 h).call ⟨_,rfl,rfl,rfl⟩
theorem GenK.max4{P:Program}{V:Mem}{a b c d:Operand}{ty:Nat}{ts:Array TypeId}{vals:Operand->Value}{n1 n2 n3 n4:Int}(h1:vals a=.int .i64 n1)(h2:vals b=.int .i64 n2)(h3:vals c=.int .i64 n3)(h4:vals d=.int .i64 n4){q:Value->Mem->Prop}
  (hq:∀m:Int,n1<=m->n2<=m->n3<=m->n4<=m->(m=n1∨m=n2∨m=n3∨m=n4)->q (.int .i64 m) V):GenK P (.call { callee:=.builtin .max,args:=#[a,b,c,d],argTypes:=ts }) ty vals V q:=by
 intro w hw
 refine⟨_,w,V,?_,Frm.refl hw,hq (max (max (max n1 n2) n3) n4) (by omega) (by omega) (by omega) (by omega) (by omega)⟩
 unfold execOp
 have e:∀x y:Int,(if y > x then y else x)=max x y:=fun x y=>by split <;> omega
 simp only[resolve,invoke,builtin,Sem.run_bind,Sem.run_pure,Result.andThen_ok,List.map_toArray,List.map_cons,List.map_nil,h1,h2,h3,h4]
 simp[Builtin.max_,Builtin.max2,e]
theorem c69{V:Mem}{d:Ds}(h:Ds.Ok V d):PP 69 [d.v] V (.bool (qJI d)):=by
 refine x69 ?_
 unfold w69
 generalize hX:qJI d=X
 have key:∀b:Bool,X=b->(Ending.returned (.bool b)=Ending.returned (.bool X)/\V=V):=fun n h=>by simp_all
 unfold qJI at hX
 refine qAD d.measures.length (fun i V1=>V=V1/\qAX msB d.measures i) ⟨rfl,qAX.zero _ _⟩ ?_
 rintro i b V1 J hi ⟨rfl,ha⟩ hJ
 refine⟨fun hlt=>?_,fun hge=>?_⟩
 ·obtain⟨x,hm,hx,hdr,hl,hp,hz,hrow⟩:=h.measures.get hlt
  have no:msB x=false->X=false:=fun h=>by grind
  refine⟨hp,hz,hlt,_,_,_,_,_,_,_,hrow,c66.call ⟨_,rfl,fun h1=>c66.call ⟨_,rfl,fun h2=>⟨fun h3=>key _ (no ?_),fun h3=>⟨fun h4=>key _ (no ?_),fun h4=>(c106 (h.measuresOk x hm).x).call ⟨_,rfl,fun h5=>⟨h.measures.succ hlt,hJ hl _ _ ⟨rfl,ha.succ hx ?_⟩⟩,fun h5=>key _ (no ?_)⟩⟩⟩,fun h2=>key _ (no ?_)⟩,fun h1=>key _ (no ?_)⟩⟩
  ·have:¬(-1099511627776<=x.nil/\x.nil<=1099511627776):=by omega
   simp[msB, *]
  ·have:¬(-1099511627776<=x.nil/\x.nil<=1099511627776):=by omega
   simp[msB, *]
  ·have:(-1099511627776<=x.nil/\x.nil<=1099511627776):=by omega
   simp[msB, *]
  all_goals simp[msB, *]
 have a1:=ha.all (h.measures.done hge).2
 refine qAD d.invs.length (fun i V1=>V=V1/\qAX ivB d.invs i) ⟨rfl,qAX.zero _ _⟩ ?_
 rintro i b V1 J hi ⟨rfl,ha⟩ hJ
 refine⟨fun hlt=>?_,fun hge=>?_⟩
 ·obtain⟨x,hm,hx,hdr,hl,hp,hz,hrow⟩:=h.invs.get hlt
  have no:ivB x=false->X=false:=fun h=>by rw[<- hX,all_false hm (by rw[h];simp)];simp
  refine⟨hp,hz,hlt,qAd hp,_,_,_,_,_,_,hrow,c66.call ⟨_,rfl,fun h1=>⟨hp,hz,hlt,qAd hp,_,_,_,_,_,_,hrow,c107.call ⟨_,rfl,fun h2=>⟨hp,hz,hlt,qAd hp,_,_,_,_,_,_,hrow,(c106 (h.invsOk x hm)).call ⟨_,rfl,fun h5=>⟨h.invs.succ hlt,hJ hl _ _ ⟨rfl,ha.succ hx ?_⟩⟩,fun h5=>key _ (no ?_)⟩⟩,fun h2=>key _ (no ?_)⟩⟩,fun h1=>key _ (no ?_)⟩⟩
  all_goals simp[ivB, *]
 have a2:=ha.all (h.invs.done hge).2
 refine qAD d.pots.length (fun i V1=>V=V1/\qAX poB d.pots i) ⟨rfl,qAX.zero _ _⟩ ?_
 rintro i b V1 J hi ⟨rfl,ha⟩ hJ
 refine⟨fun hlt=>?_,fun hge=>?_⟩
 ·obtain⟨x,hm,hx,hdr,hl,hp,hz,hrow⟩:=h.pots.get hlt
  have no:poB x=false->X=false:=fun h=>by grind
  refine⟨hp,hz,hlt,qAd hp,_,_,_,_,_,hrow,c107.call ⟨_,rfl,fun h2=>⟨hp,hz,hlt,qAd hp,_,_,_,_,_,hrow,(c106 (h.potsOk x hm)).call ⟨_,rfl,fun h5=>⟨h.pots.succ hlt,hJ hl _ _ ⟨rfl,ha.succ hx ?_⟩⟩,fun h5=>key _ (no ?_)⟩⟩,fun h2=>key _ (no ?_)⟩⟩
  all_goals simp[poB, *]
 have a3:=ha.all (h.pots.done hge).2
 refine qAD d.bounds.length (fun i V1=>V=V1/\qAX bdB d.bounds i) ⟨rfl,qAX.zero _ _⟩ ?_
 rintro i b V1 J hi ⟨rfl,ha⟩ hJ
 refine⟨fun hlt=>?_,fun hge=>?_⟩
 ·obtain⟨x,hm,hx,hdr,hl,hp,hz,hrow⟩:=h.bounds.get hlt
  have no:bdB x=false->X=false:=fun h=>by grind
  refine⟨hp,hz,hlt,qAd hp,_,_,_,_,_,hrow,c66.call ⟨_,rfl,fun h2=>⟨hp,hz,hlt,qAd hp,_,_,_,_,_,hrow,(c106 (h.boundsOk x hm)).call ⟨_,rfl,fun h5=>⟨h.bounds.succ hlt,hJ hl _ _ ⟨rfl,ha.succ hx ?_⟩⟩,fun h5=>key _ (no ?_)⟩⟩,fun h2=>key _ (no ?_)⟩⟩
  all_goals simp[bdB, *]
 have a4:=ha.all (h.bounds.done hge).2
 simp_all
theorem c167{V:Mem}[Tab V]{d:Ds}(h:Ds.Ok V d):PP 167 [d.v] V (.bool (lensB d&&qJI d)):=by
 refine x167 ?_
 unfold w167
 have n1:=h.measures.n_eq
 have n2:=h.invs.n_eq
 have n3:=h.pots.n_eq
 have n4:=h.bounds.n_eq
 generalize hX:(lensB d&&qJI d)=X
 have key:∀b:Bool,X=b->(Ending.returned (.bool b)=Ending.returned (.bool X)/\V=V):=fun n h=>by simp_all
 unfold qJI lensB at hX
 refine GenK.max4 (n1:=d.ms.n) (n2:=d.is.n) (n3:=d.qs.n) (n4:=d.bs.n) rfl rfl rfl rfl fun mx l1 l2 l3 l4 le=>⟨_,rfl,fun hb=>key _ ?_,fun hb=>?_⟩
 ·rw[<- hX,decide_eq_false (by omega)];rfl
 rw[decide_eq_true (by omega),Bool.true_and]at hX
 refine qAD d.measures.length (fun i V1=>V=V1/\qAX msB d.measures i) ⟨rfl,qAX.zero _ _⟩ ?_
 rintro i b V1 J hi ⟨rfl,ha⟩ hJ
 refine⟨fun hlt=>?_,fun hge=>?_⟩
 ·obtain⟨x,hm,hx,hdr,hl,hp,hz,hrow⟩:=h.measures.get hlt
  have no:msB x=false->X=false:=fun h=>by grind
  refine⟨hp,hz,hlt,_,_,_,_,_,_,_,hrow,c165.call ⟨_,rfl,fun h1=>c165.call ⟨_,rfl,fun h2=>⟨fun h3=>key _ (no ?_),fun h3=>⟨fun h4=>key _ (no ?_),fun h4=>(c204 (h.measuresOk x hm).x).call ⟨_,rfl,fun h5=>⟨h.measures.succ hlt,hJ hl _ _ ⟨rfl,ha.succ hx ?_⟩⟩,fun h5=>key _ (no ?_)⟩⟩⟩,fun h2=>key _ (no ?_)⟩,fun h1=>key _ (no ?_)⟩⟩
  ·have:¬(-1099511627776<=x.nil/\x.nil<=1099511627776):=by omega
   simp[msB, *]
  ·have:¬(-1099511627776<=x.nil/\x.nil<=1099511627776):=by omega
   simp[msB, *]
  ·have:(-1099511627776<=x.nil/\x.nil<=1099511627776):=by omega
   simp[msB, *]
  all_goals simp[msB, *]
 have a1:=ha.all (h.measures.done hge).2
 refine qAD d.invs.length (fun i V1=>V=V1/\qAX ivB d.invs i) ⟨rfl,qAX.zero _ _⟩ ?_
 rintro i b V1 J hi ⟨rfl,ha⟩ hJ
 refine⟨fun hlt=>?_,fun hge=>?_⟩
 ·obtain⟨x,hm,hx,hdr,hl,hp,hz,hrow⟩:=h.invs.get hlt
  have no:ivB x=false->X=false:=fun h=>by rw[<- hX,all_false hm (by rw[h];simp)];simp
  refine⟨hp,hz,hlt,_,_,_,_,_,_,hrow,c165.call ⟨_,rfl,fun h1=>c205.call ⟨_,rfl,fun h2=>(c204 (h.invsOk x hm)).call ⟨_,rfl,fun h5=>⟨h.invs.succ hlt,hJ hl _ _ ⟨rfl,ha.succ hx ?_⟩⟩,fun h5=>key _ (no ?_)⟩,fun h2=>key _ (no ?_)⟩,fun h1=>key _ (no ?_)⟩⟩
  all_goals simp[ivB, *]
 have a2:=ha.all (h.invs.done hge).2
 refine qAD d.pots.length (fun i V1=>V=V1/\qAX poB d.pots i) ⟨rfl,qAX.zero _ _⟩ ?_
 rintro i b V1 J hi ⟨rfl,ha⟩ hJ
 refine⟨fun hlt=>?_,fun hge=>?_⟩
 ·obtain⟨x,hm,hx,hdr,hl,hp,hz,hrow⟩:=h.pots.get hlt
  have no:poB x=false->X=false:=fun h=>by grind
  refine⟨hp,hz,hlt,_,_,_,_,_,hrow,c205.call ⟨_,rfl,fun h2=>(c204 (h.potsOk x hm)).call ⟨_,rfl,fun h5=>⟨h.pots.succ hlt,hJ hl _ _ ⟨rfl,ha.succ hx ?_⟩⟩,fun h5=>key _ (no ?_)⟩,fun h2=>key _ (no ?_)⟩⟩
  all_goals simp[poB, *]
 have a3:=ha.all (h.pots.done hge).2
 refine(c206 (first:=[]) (caps:=[]) h.bounds Tryz.call207 (fun f=>!bdB f) fun f hm=>c207 (h.boundsOk f hm)).call ⟨_,rfl,key _ ?_⟩
 simp_all [List.any_eq_not_all_not]
theorem c31{V:Mem}{d:Ds}(h:Ds.Ok V d):PP 31 [d.v] V (.bool (qAB d)):=by
 refine x31 ?_
 unfold w31
 have n1:=h.measures.n_eq
 have n2:=h.invs.n_eq
 have n3:=h.pots.n_eq
 have n4:=h.bounds.n_eq
 have n5:=h.types.n_eq
 have n6:=h.procs.n_eq
 generalize hX:qAB d=X
 have key:∀b:Bool,X=b->(Ending.returned (.bool b)=Ending.returned (.bool X)/\V=V):=fun n h=>by simp_all
 unfold qAB at hX
 have nol:lensB d=false->X=false:=fun h=>by simp_all
 refine c66.call ⟨_,rfl,fun h1=>⟨fun h2=>key _ ?_,fun h2=>(c67 h.globals).call ⟨_,rfl,fun h3=>⟨fun h4=>key _ ?_,fun h4=>⟨fun h5=>key _ (nol ?_),fun h5=>⟨fun h6=>key _ (nol ?_),fun h6=>⟨fun h7=>key _ (nol ?_),fun h7=>⟨fun h8=>key _ (nol ?_),fun h8=>?_⟩⟩⟩⟩⟩,fun h3=>key _ ?_⟩⟩,fun h1=>key _ ?_⟩
 ·grind
 ·grind
 ·exact decide_eq_false (by omega)
 ·exact decide_eq_false (by omega)
 ·exact decide_eq_false (by omega)
 ·exact decide_eq_false (by omega)
 ·have hl:lensB d=true:=decide_eq_true (by omega)
  rw[h1,decide_eq_true (p:=(d.types.length:Int)<=12) (by omega),h3,decide_eq_true (p:=(d.procs.length:Int)<=40) (by omega),hl]at hX
  simp only[Bool.true_and]at hX
  refine qAD d.types.length (fun i V1=>V=V1/\qAX tyB d.types i) ⟨rfl,qAX.zero _ _⟩ ?_
  rintro i b V1 J hi ⟨rfl,ha⟩ hJ
  refine⟨fun hlt=>?_,fun hge=>?_⟩
  ·obtain⟨x,hm,hx,hdr,hl,hp,hz,hrow⟩:=h.types.get hlt
   have no:tyB x=false->X=false:=fun h=>by grind
   refine⟨hp,hz,hlt,qAd hp,_,_,hrow,c66.call ⟨_,rfl,fun h1=>⟨hp,hz,hlt,qAd hp,_,_,hrow,(c67 (h.typesOk x hm).fields).call ⟨_,rfl,fun h5=>⟨h.types.succ hlt,hJ hl _ _ ⟨rfl,ha.succ hx ?_⟩⟩,fun h5=>key _ (no ?_)⟩⟩,fun h1=>key _ (no ?_)⟩⟩
   all_goals simp[tyB, *]
  have a1:=ha.all (h.types.done hge).2
  refine qAD d.procs.length (fun i V1=>V=V1/\qAX prB d.procs i) ⟨rfl,qAX.zero _ _⟩ ?_
  rintro i b V1 J hi ⟨rfl,ha⟩ hJ
  refine⟨fun hlt=>?_,fun hge=>?_⟩
  ·obtain⟨x,hm,hx,hdr,hl,hp,hz,hrow⟩:=h.procs.get hlt
   have no:prB x=false->X=false:=fun h=>by grind
   exact⟨hp,hz,hlt,_,_,_,_,_,hrow,(c68 (h.procsOk x hm)).call ⟨_,rfl,fun h5=>⟨h.procs.succ hlt,hJ hl _ _ ⟨rfl,ha.succ hx h5⟩⟩,fun h5=>key _ (no (eq_false_of_ne_true h5))⟩⟩
  have a2:=ha.all (h.procs.done hge).2
  refine(c69 h).call ⟨_,rfl,key _ ?_⟩
  simp_all
 ·simp_all
 simp_all
theorem c120{V:Mem}[Tab V]{d:Ds}(h:Ds.Ok V d):PP 120 [d.v] V (.bool (qAB d)):=by
 refine x120 ?_
 unfold w120
 have n5:=h.types.n_eq
 have n6:=h.procs.n_eq
 generalize hX:qAB d=X
 have key:∀b:Bool,X=b->(Ending.returned (.bool b)=Ending.returned (.bool X)/\V=V):=fun n h=>by simp_all
 unfold qAB at hX
 refine c165.call ⟨_,rfl,fun h1=>⟨fun h2=>key _ ?_,fun h2=>(c166 h.globals).call ⟨_,rfl,fun h3=>⟨fun h4=>key _ ?_,fun h4=>(c167 h).call ⟨_,rfl,fun h5=>(c126 (first:=[]) (caps:=[]) h.types Tryz.call168 (fun f=>!tyB f) fun f hm=>c168 (h.typesOk f hm)).call ⟨_,rfl,fun h6=>key _ ?_,fun h6 =>
   (c169 (first:=[]) (caps:=[]) h.procs Tryz.call170 (fun f=>!prB f) fun f hm=>c170 (h.procsOk f hm)).call ⟨_,rfl,key _ ?_⟩⟩,fun h5=>key _ ?_⟩⟩,fun h3=>key _ ?_⟩⟩,fun h1=>key _ ?_⟩
 ·grind
 ·grind
 ·grind [List.any_eq_not_all_not,tyB]
 ·grind
 ·grind
 ·simp_all
 simp_all
end Go.Proofs
namespace Go.Proofs
open Go Go.Sx
def qKJ:ByteArray:=qAm [110,105,108]
def sE:ByteArray:=qAm []
def qAZ(d:Ds)(s:ByteArray):Bool:=d.types.any fun t=>decide (t.name=s)
def qBf(d:Ds)(s:ByteArray):Bool:=decide (s=qAV)||decide (s=qAt)||qAZ d s
def qDy(d:Ds)(a b:ByteArray):Bool:=decide (a=b)||(decide (a=qKJ)&&qAZ d b)
def qBS:List Fld->ByteArray->ByteArray
 | [],_=>sE
 | f::l,s=>if f.name=s then f.ty else qBS l s
def qJC(d:Ds)(s:ByteArray):Option Ty:=d.types.find? fun t=>decide (t.name=s)
def qFm(d:Ds)(s:ByteArray):Option Pr:=d.procs.find? fun t=>decide (t.name=s)
def meOf(d:Ds)(s:ByteArray):Option Ms:=d.measures.find? fun t=>decide (t.name=s)
def qBX(d:Ds)(t name:ByteArray):ByteArray×Int :=
 match qJC d t with
 | none=>(sE,11)
 | some ty=>if qBS ty.fields name=sE then (sE,9) else (qBS ty.fields name,0)
def qCk(d:Ds):List ByteArray->List Fld->Bool
 | a::l,f::fs=>qDy d a f.ty&&qCk d l fs
 | _,_=>true
def qFp(d:Ds)(name:ByteArray)(l:List ByteArray):ByteArray×Int :=
 match qFm d name with
 | none=>(sE,9)
 | some p=>if l.length≠p.params.length then (sE,3) else if qCk d l p.params=true then (p.result,0) else (sE,11)
def qDu(ok:Bool)(t:ByteArray):ByteArray×Int:=if ok=true then (t,0) else (sE,11)
structure Sc where
 vars:List Fld
 body:Bool
def qJH(d:Ds)(name:ByteArray)(l:List ByteArray):ByteArray×Int :=
 match meOf d name with
 | none=>(sE,9)
 | some m=>if l.length≠1 then (sE,3) else qDu (qDy d (l.getD 0 sE) m.ty) qAV
def qHN(d:Ds)(sc:Sc)(name:ByteArray)(l:List ByteArray):ByteArray×Int :=
 if sc.body=true then (if (qFp d name l).2=0/\(qFp d name l).1=sE then (sE,11) else qFp d name l) else qJH d name l
def allT(l:List ByteArray)(t:ByteArray):Bool:=l.all fun x=>decide (x=t)
def qFD(d:Ds)(sc:Sc)(op:Int)(s:ByteArray)(l:List ByteArray):ByteArray×Int :=
 if op=1 then (qAV,0) else if op=2 then (qAt,0) else if op=3 then (qKJ,0)
 else if op=4 then (if qBS sc.vars s=sE then (sE,9) else (qBS sc.vars s,0))
 else if op=5 then qBX d (l.getD 0 sE) s
 else if op=6 then (if sc.body=false then (sE,13) else if qAZ d s=false then (sE,9) else (s,0))
 else if op=7 then qHN d sc s l
 else if op=14∨op=15 then qDu (qDy d (l.getD 0 sE) (l.getD 1 sE)||qDy d (l.getD 1 sE) (l.getD 0 sE)) qAt
 else if op=16∨op=17 then qDu (allT l qAV) qAt
 else if op=18∨op=19∨op=20 then qDu (allT l qAt) qAt
 else if op=21 then qDu (decide (l.getD 0 sE=qAt)&&(qDy d (l.getD 1 sE) (l.getD 2 sE)||qDy d (l.getD 2 sE) (l.getD 1 sE))) (if l.getD 1 sE=qKJ then l.getD 2 sE else l.getD 1 sE)
 else qDu (allT l qAV) qAV
mutual
def qAr(d:Ds)(sc:Sc):E->ByteArray×Int
 | .mk op _ s _ k=>if (partsT d sc [] k).2≠0 then (sE,(partsT d sc [] k).2) else qFD d sc op s (partsT d sc [] k).1
def partsT(d:Ds)(sc:Sc)(acc:List ByteArray):List E->List ByteArray×Int
 | []=>(acc,0)
 | x::xs=>if (qAr d sc x).2≠0 then ([],(qAr d sc x).2) else partsT d sc (acc++[(qAr d sc x).1]) xs
end
theorem qIg(d:Ds)(sc:Sc)(e:E):qAr d sc e=if (partsT d sc [] e.k).2≠0 then (sE,(partsT d sc [] e.k).2) else qFD d sc e.op e.s (partsT d sc [] e.k).1:=by
 cases e;rfl
theorem qCa(d:Ds)(sc:Sc)(acc:List ByteArray)(x:E)(xs:List E):partsT d sc acc (x::xs)=if (qAr d sc x).2≠0 then ([],(qAr d sc x).2) else partsT d sc (acc++[(qAr d sc x).1]) xs:=by rw[partsT]
theorem qCN(d:Ds)(sc:Sc)(acc:List ByteArray):partsT d sc acc []=(acc,0):=by rw[partsT]
theorem qGY(d:Ds)(sc:Sc):∀(k:List E) (acc:List ByteArray),(partsT d sc acc k).2=0->(partsT d sc acc k).1.length=acc.length+k.length
 | [],acc,_=>by rfl
 | x::xs,acc,h=>by
  rw[qCa]at h ⊢
  split at h
  ·omega
  ·rename_i h'
   rw[if_neg h',qGY d sc xs _ h,List.length_append,List.length_cons,List.length_cons,List.length_nil]
   omega
def qAn(d:Ds)(p:Pr):Sc:=⟨p.params++p.locals++d.globals,true⟩
def sThisF:ByteArray:=qAm [116,104,105,115]
def qAx(d:Ds)(t:ByteArray):Sc:=⟨(if t=sE then [] else [⟨sThisF,t⟩])++d.globals,false⟩
def qBw(d:Ds)(p:Pr):Sc:=⟨p.params++d.globals,false⟩
def qEw(d:Ds)(sc:Sc)(result:ByteArray)(op:Int)(s:ByteArray)(es:List E):Int :=
 if op=6 then
  match es with
  | []=>0
  | e::_=>if (partsT d sc [] e.k).2≠0 then (partsT d sc [] e.k).2 else (qFp d e.s (partsT d sc [] e.k).1).2
 else if (partsT d sc [] es).2≠0 then (partsT d sc [] es).2
 else if op=1 then (if qBS sc.vars s=sE then 9 else if qDy d ((partsT d sc [] es).1.getD 0 sE) (qBS sc.vars s)=true then 0 else 11)
 else if op=2 then (if (qBX d ((partsT d sc [] es).1.getD 0 sE) s).2≠0 then (qBX d ((partsT d sc [] es).1.getD 0 sE) s).2 else if qDy d ((partsT d sc [] es).1.getD 1 sE) (qBX d ((partsT d sc [] es).1.getD 0 sE) s).1=true then 0 else 11)
 else if op=3∨op=4 then (if (partsT d sc [] es).1.getD 0 sE=qAt then 0 else 11)
 else if op=5 then (if (partsT d sc [] es).1.length=0 then (if result=sE then 0 else 11) else if result≠sE/\qDy d ((partsT d sc [] es).1.getD 0 sE) result=true then 0 else 11)
 else 0
mutual
def stT(d:Ds)(sc:Sc)(result:ByteArray)(n:Int):S->Int×Int
 | .mk op s _ es _ ls _ xs =>
  if qEw d sc result op s es≠0 then (n,qEw d sc result op s es)
  else if (qBH d sc result (n+1) ls).2≠0 then qBH d sc result (n+1) ls
  else qBH d sc result (qBH d sc result (n+1) ls).1 xs
def qBH(d:Ds)(sc:Sc)(result:ByteArray)(n:Int):List S->Int×Int
 | []=>(n,0)
 | x::xs=>if (stT d sc result n x).2≠0 then stT d sc result n x else qBH d sc result (stT d sc result n x).1 xs
end
theorem stT_eq(d:Ds)(sc:Sc)(result:ByteArray)(n:Int)(x:S):stT d sc result n x=if qEw d sc result x.op x.s x.es≠0 then (n,qEw d sc result x.op x.s x.es) else if (qBH d sc result (n+1) x.ls).2≠0 then qBH d sc result (n+1) x.ls else qBH d sc result (qBH d sc result (n+1) x.ls).1 x.xs:=by
 cases x;unfold stT;rfl
theorem qGb(d:Ds)(sc:Sc)(result:ByteArray)(n:Int)(x:S)(xs:List S):qBH d sc result n (x::xs)=if (stT d sc result n x).2≠0 then stT d sc result n x else qBH d sc result (stT d sc result n x).1 xs:=by rw[qBH]
theorem stsT_nil(d:Ds)(sc:Sc)(result:ByteArray)(n:Int):qBH d sc result n []=(n,0):=by rw[qBH]
def qEq(d:Ds)(l:List Fld)(i:Nat)(f:Fld):Int:=if (l.take i).any (fun g=>decide (g.name=f.name))=true then 10 else if qBf d f.ty=true then 0 else 9
def qAh{α β:Type}(f:Nat->α->Option β):Nat->List α->Option β
 | _,[]=>none
 | i,x::xs=>match f i x with|some b=>some b|none=>qAh f (i+1) xs
def qCm(d:Ds)(l:List Fld):Int:=(qAh (fun i f=>if qEq d l i f≠0 then some (qEq d l i f) else none) 0 l).getD 0
abbrev Flt:=ByteArray×Int×Int
def types1(d:Ds):Option Flt:=qAh (fun i t=>if (d.types.take i).any (fun g=>decide (g.name=t.name))=true then some (t.name,-1,10) else none) 0 d.types
def types2(d:Ds):Option Flt:=qAh (fun _ t=>if qCm d t.fields≠0 then some (t.name,-1,qCm d t.fields) else none) 0 d.types
def types3(d:Ds):Option Flt:=qAh (fun i f=>if qEq d d.globals i f≠0 then some (f.name,-1,qEq d d.globals i f) else none) 0 d.globals
def qFq(d:Ds):Option Flt:=(types1 d).or ((types2 d).or (types3 d))
def qEp(d:Ds):Option Flt:=qAh (fun i p=>if (d.procs.take i).any (fun g=>decide (g.name=p.name))=true then some (p.name,-1,10) else if qCm d (p.params++p.locals)≠0 then some (p.name,-1,qCm d (p.params++p.locals)) else if p.result≠sE/\qBf d p.result=false then some (p.name,-1,9) else none) 0 d.procs
def form1(d:Ds):Option Flt:=qAh (fun i m=>if (d.measures.take i).any (fun g=>decide (g.name=m.name))=true then some (m.name,-1,10) else if qAZ d m.ty=false then some (m.name,-1,9) else none) 0 d.measures
def form2(d:Ds):Option Flt:=qAh (fun i m=>if (d.invs.take i).any (fun g=>decide (g.name=m.name))=true then some (m.name,-1,10) else if m.ty≠sE/\qAZ d m.ty=false then some (m.name,-1,9) else none) 0 d.invs
def sPot:ByteArray:=qAm [112,111,116,101,110,116,105,97,108]
def form3(d:Ds):Option Flt:=qAh (fun _ m=>if m.ty≠sE/\qAZ d m.ty=false then some (sPot,-1,9) else none) 0 d.pots
def form4(d:Ds):Option Flt:=qAh (fun i b=>if (qFm d b.proc).isNone=true then some (b.proc,-1,9) else if (d.bounds.take i).any (fun g=>decide (g.proc=b.proc))=true then some (b.proc,-1,10) else none) 0 d.bounds
def qEs(d:Ds):Option Flt:=(form1 d).or ((form2 d).or ((form3 d).or (form4 d)))
def qCt(d:Ds):Option Flt:=qAh (fun _ p=>if (qBH d (qAn d p) p.result 0 p.body).2≠0 then some (p.name,(qBH d (qAn d p) p.result 0 p.body).1,(qBH d (qAn d p) p.result 0 p.body).2) else none) 0 d.procs
def qBp(d:Ds)(sc:Sc)(e:E)(t:ByteArray):Int:=if (qAr d sc e).2≠0 then (qAr d sc e).2 else if (qAr d sc e).1=t then 0 else 11
def exp1(d:Ds):Option Flt:=qAh (fun _ m=>if qBp d (qAx d m.ty) m.x qAV≠0 then some (m.name,-1,qBp d (qAx d m.ty) m.x qAV) else none) 0 d.measures
def exp2(d:Ds):Option Flt:=qAh (fun _ m=>if qBp d (qAx d m.ty) m.x qAt≠0 then some (m.name,-1,qBp d (qAx d m.ty) m.x qAt) else none) 0 d.invs
def exp3(d:Ds):Option Flt:=qAh (fun _ m=>if qBp d (qAx d m.ty) m.x qAV≠0 then some (sPot,-1,qBp d (qAx d m.ty) m.x qAV) else none) 0 d.pots
def prD:Pr:=⟨sE,⟨none,0,0⟩,[],sE,⟨none,0,0⟩,[],⟨none,0,0⟩,[]⟩
def exp4(d:Ds):Option Flt:=qAh (fun _ m=>if qBp d (qBw d ((qFm d m.proc).getD prD)) m.x qAV≠0 then some (m.proc,-1,qBp d (qBw d ((qFm d m.proc).getD prD)) m.x qAV) else none) 0 d.bounds
def qHd(d:Ds):Option Flt:=(exp1 d).or ((exp2 d).or ((exp3 d).or (exp4 d)))
def qHD(d:Ds):Option Flt:=(qFq d).or ((qEp d).or ((qEs d).or ((qCt d).or (qHd d))))
def fltR(o:Option Flt):Flt:=o.getD (sE,0,0)
end Go.Proofs
namespace Go.Proofs
open Go Go.Sx
attribute [local irreducible] Go.Sx.Tri
noncomputable def ti(t:Nat):TypeInfo:=(Tryz.prog.info? t).getD default
section
variable{α:Type}
def AppP(t e sz:Nat)(row:α->List Value):Prop:=∀{V0 V:Mem} {ty:Nat} {x y:Operand} {vals:Operand->Value} {s u:Sl} {xs ys:List α} (hx:vals x=.slice s.p s.n s.c) (hy:vals y=.slice u.p u.n u.c) (own:Sx.Own V0 V e sz s (xs.flatMap row)) (hnew:qAc V u sz (ys.map row))
 (hfit:xs.length+ys.length<=2147483648) {q:Value->Mem->Prop} (hq:∀s' V',Sx.Own V0 V' e sz s' ((xs++ys).flatMap row)->q (.slice s'.p s'.n s'.c) V'),
 GenK Tryz.prog (.call { callee:=.builtin .append,args:=#[x,y],argTypes:=#[t,t] }) ty vals V q
theorem appG{t e sz:Nat}{row:α->List Value}(ht:Tryz.prog.underlying t=some (.slice e))(hi:Tryz.prog.info? e=some (ti e))(hz:(ti e).zero=some ((ti e).zero.getD undef))(h1:(ti e).size=sz)(h2:((ti e).zero.getD undef).cells.size=sz)(h3:decide ((ti e).bytes<=65536)=true)
  (h0:0<sz) (hr:∀x,(row x).length=sz) (hu:∀x,∀u∈row x,u.oneCell'=true):AppP t e sz row:=by
 intro V0 V ty x y vals s u xs ys hx hy own hnew hfit q hq
 exact GenK.appendS ht hi hz h1 h2 h0 (of_decide_eq_true h3) hx hy own hr hnew hu hfit hq
end
theorem app220:AppP 220 9 1 qBe:=appG Tryz.underlying220 (by kernel_rfl) (by kernel_rfl) (by kernel_rfl) (by kernel_rfl) (by kernel_rfl) (by decide) (by intro _;rfl) fun x u hu=>by simp[qBe,vS]at hu;rw[hu];rfl
theorem qHO:AppP 23 101 2 Fld.row:=appG Tryz.underlying23 (by kernel_rfl) (by kernel_rfl) (by kernel_rfl) (by kernel_rfl) (by kernel_rfl) (by decide) (by intro _;rfl) fun x u hu=>by simp[Fld.row,vS]at hu;rcases hu with rfl|rfl <;> rfl
def qIa{α:Type}(p:α->Bool)(xs:List α):Int:=match xs.findIdx? p with|some i=>(i:Int) | none=>-1
theorem qDM{α:Type}{p:α->Bool}{xs:List α}{i:Nat}{x:α}(h:qAX (fun y=>!p y) xs i)(hx:xs[i]?=some x)(hp:p x=true):qIa p xs=i:=by
 have hl:=(List.getElem?_eq_some_iff.1 hx).1
 have hg:=(List.getElem?_eq_some_iff.1 hx).2
 have:xs.findIdx? p=some i:=List.findIdx?_eq_some_iff_getElem.2 ⟨hl,by grind,fun j hj=>by
  have:=h j _ hj (List.getElem?_eq_getElem (Nat.lt_trans hj hl))
  simpa using this⟩
 unfold qIa;rw[this]
theorem qEM{α:Type}{p:α->Bool}{xs:List α}{i:Nat}(h:qAX (fun y=>!p y) xs i)(hi:xs.length<=i):qIa p xs=-1:=by
 have:xs.findIdx? p=none:=List.findIdx?_eq_none_iff.2 fun x hx=>by
  obtain⟨j,hj,rfl⟩:=List.mem_iff_getElem.1 hx
  have:=h j _ (by omega) (List.getElem?_eq_getElem hj)
  simpa using this
 unfold qIa;rw[this]
theorem qAI{α:Type}(p:α->Bool)(xs:List α):(qIa p xs=-1/\xs.find? p=none/\xs.any p=false)∨∃(i:Nat) (x:α),qIa p xs=i/\xs[i]?=some x/\xs.find? p=some x/\i<xs.length/\p x=true/\x∈xs/\xs.any p=true/\(xs.take i).any p=false:=by
 cases h:xs.findIdx? p with
 | none =>
  grind [qIa]
 | some i =>
  obtain⟨hl,hp,hn⟩:=List.findIdx?_eq_some_iff_getElem.1 h
  refine .inr ⟨i,xs[i],by unfold qIa;rw[h],List.getElem?_eq_getElem hl,?_,hl,hp,List.getElem_mem _,List.any_eq_true.2 ⟨_,List.getElem_mem _,hp⟩,?_⟩
  ·rw[List.find?_eq_some_iff_getElem]
   grind
  ·rw[List.any_eq_false]
   intro x hx
   obtain⟨j,hj,rfl⟩:=List.mem_iff_getElem.1 hx
   grind
theorem qCW{α:Type}{p:α->Bool}{xs:List α}{i:Nat}{x:α}(h:qAX (fun y=>!p y) xs i)(hx:xs[i]?=some x)(hp:p x=false):qAX (fun y=>!p y) xs (i+1):=h.succ hx (by simp[hp])
theorem c85{V:Mem}{d:Ds}(h:Ds.Ok V d){s:ByteArray}:PP 85 [d.v,.string s] V (.int .i64 (qIa (fun t=>decide (t.name=s)) d.types)):=by
 refine x85 ?_
 unfold w85
 refine qAD d.types.length (fun i V1=>V=V1/\qAX (fun t=>!decide (t.name=s)) d.types i) ⟨rfl,qAX.zero _ _⟩ ?_
 rintro i b V1 J hi ⟨rfl,ha⟩ hJ
 refine⟨fun hlt=>?_,fun hge=>?_⟩
 ·obtain⟨x,hm,hx,hdr,hl,hp,hz,hrow⟩:=h.types.get hlt
  refine⟨hp,hz,hlt,qAd hp,_,_,hrow,fun he=>?_,fun he=>⟨h.types.succ hlt,hJ hl _ _ ⟨rfl,qCW (p:=fun t=>decide (t.name=s)) ha hx (decide_eq_false he)⟩⟩⟩
  rw[qDM (p:=fun t=>decide (t.name=s)) ha hx (decide_eq_true he)];simp_all
 ·rw[qEM (p:=fun t=>decide (t.name=s)) ha (h.types.done hge).2];exact⟨rfl,rfl⟩
theorem c136{V:Mem}{d:Ds}(h:Ds.Ok V d){s:ByteArray}:PP 136 [d.v,.string s] V (.int .i64 (qIa (fun t=>decide (t.name=s)) d.procs)):=by
 refine x136 ?_
 unfold w136
 refine qAD d.procs.length (fun i V1=>V=V1/\qAX (fun t=>!decide (t.name=s)) d.procs i) ⟨rfl,qAX.zero _ _⟩ ?_
 rintro i b V1 J hi ⟨rfl,ha⟩ hJ
 refine⟨fun hlt=>?_,fun hge=>?_⟩
 ·obtain⟨x,hm,hx,hdr,hl,hp,hz,hrow⟩:=h.procs.get hlt
  refine⟨hp,hz,hlt,qAd hp,_,_,_,_,_,hrow,fun he=>?_,fun he=>⟨h.procs.succ hlt,hJ hl _ _ ⟨rfl,qCW (p:=fun t=>decide (t.name=s)) ha hx (decide_eq_false he)⟩⟩⟩
  rw[qDM (p:=fun t=>decide (t.name=s)) ha hx (decide_eq_true he)];simp_all
 ·rw[qEM (p:=fun t=>decide (t.name=s)) ha (h.procs.done hge).2];exact⟨rfl,rfl⟩
theorem c152{V:Mem}{d:Ds}(h:Ds.Ok V d){s:ByteArray}:PP 152 [d.v,.string s] V (.int .i64 (qIa (fun t=>decide (t.name=s)) d.measures)):=by
 refine x152 ?_
 unfold w152
 refine qAD d.measures.length (fun i V1=>V=V1/\qAX (fun t=>!decide (t.name=s)) d.measures i) ⟨rfl,qAX.zero _ _⟩ ?_
 rintro i b V1 J hi ⟨rfl,ha⟩ hJ
 refine⟨fun hlt=>?_,fun hge=>?_⟩
 ·obtain⟨x,hm,hx,hdr,hl,hp,hz,hrow⟩:=h.measures.get hlt
  refine⟨hp,hz,hlt,qAd hp,_,_,_,_,_,_,_,hrow,fun he=>?_,fun he=>⟨h.measures.succ hlt,hJ hl _ _ ⟨rfl,qCW (p:=fun t=>decide (t.name=s)) ha hx (decide_eq_false he)⟩⟩⟩
  rw[qDM (p:=fun t=>decide (t.name=s)) ha hx (decide_eq_true he)];simp_all
 ·rw[qEM (p:=fun t=>decide (t.name=s)) ha (h.measures.done hge).2];exact⟨rfl,rfl⟩
section
variable{V:Mem}{d:Ds}
theorem c153(h:Ds.Ok V d){s:ByteArray}:PP 153 [d.v,.string s] V (.bool (qAZ d s)):=by
 refine x153 ?_
 unfold w153
 refine(c85 h).call ⟨_,rfl,?_⟩
 rcases qAI (fun t:Ty=>decide (t.name=s)) d.types with⟨h1,h2,h3⟩|⟨i,x,h1,h2,h3,h4,h5,h6,h7,_⟩
 ·rw[h1,qAZ,h3];exact⟨rfl,rfl⟩
 ·rw[h1,qAZ,h7,decide_eq_true (by omega)];exact⟨rfl,rfl⟩
theorem c151(h:Ds.Ok V d){s:ByteArray}:PP 151 [d.v,.string s] V (.bool (qBf d s)):=by
 refine x151 ?_
 unfold w151
 refine⟨fun h1=>?_,fun h1=>⟨fun h2=>?_,fun h2=>(c153 h).call ⟨_,rfl,?_⟩⟩⟩ <;> simp[qBf,qAV,qAt, *]
theorem c187(h:Ds.Ok V d){s t:ByteArray}:PP 187 [d.v,.string s,.string t] V (.bool (qDy d s t)):=by
 refine x187 ?_
 unfold w187
 unfold qDy qKJ
 refine⟨fun h1=>?_,fun h1=>⟨fun h2=>(c153 h).call ⟨_,rfl,?_⟩,fun h2=>?_⟩⟩
 ·simp_all
 ·simp_all
 simp_all
theorem qKl(fs:List Fld):qCk d [] fs=true:=by simp[qCk]
theorem c186{l:Sl}{xs:List Fld}(h:qAc V l 2 (xs.map Fld.row)){s:ByteArray}:PP 186 [l.v,.string s] V (.string (qBS xs s)):=by
 refine x186 ?_
 unfold w186
 refine qAD xs.length (fun i V1=>V=V1/\qBS xs s=qBS (xs.drop i) s) ⟨rfl,rfl⟩ ?_
 rintro i b V1 J hi ⟨rfl,ha⟩ hJ
 refine⟨fun hlt=>?_,fun hge=>?_⟩
 ·obtain⟨x,hm,hx,hdr,hl,hp,hz,hrow⟩:=h.get hlt
  rw[hdr,qBS]at ha
  refine⟨hp,hz,hlt,qAd hp,_,_,hrow,fun he=>⟨hp,hz,hlt,qAd hp,_,_,hrow,?_⟩,fun he=>⟨h.succ hlt,hJ hl _ _ ⟨rfl,?_⟩⟩⟩
  ·simp_all
  simp_all
 ·rw[ha,(h.done hge).1];exact⟨rfl,rfl⟩
theorem c188(h:Ds.Ok V d){s t:ByteArray}:PP 188 [d.v,.string s,.string t] V (.tuple #[.string (qBX d s t).1,.int .i64 (qBX d s t).2]):=by
 refine x188 ?_
 unfold w188
 refine(c85 h).call ⟨_,rfl,?_⟩
 unfold qBX qJC
 rcases qAI (fun t:Ty=>decide (t.name=s)) d.types with⟨h1,h2,h3⟩|⟨i,x,h1,h2,h3,h4,h5,h6,h7,_⟩
 ·rw[h1,h2];exact⟨fun _=>⟨rfl,rfl⟩,fun h=>absurd h (by decide)⟩
 ·rw[h1,h3]
  have hn:=h.types.n_eq
  have hlt:(i:Int)<(d.ts.n:Int):=by omega
  obtain⟨y,hm,hx,hdr,hl,hp,hz,hrow⟩:=h.types.get hlt
  rw[h2]at hx
  cases hx
  refine⟨fun h=>absurd h (by omega),fun _=>⟨hp,hz,hlt,qAd hp,_,_,hrow,(c186 (h.typesOk x h6).fields).call ⟨_,rfl,fun he=>?_,fun he=>?_⟩⟩⟩
  ·grind [sE]
  grind [sE]
theorem c216{b:Bool}{s:ByteArray}:PP 216 [.bool b,.string s] V (.tuple #[.string (qDu b s).1,.int .i64 (qDu b s).2]):=by
 refine x216 ?_
 unfold w216
 refine⟨fun h=>?_,fun h=>?_⟩
 ·unfold qDu;rw[if_pos h];exact⟨rfl,rfl⟩
 ·unfold qDu;rw[if_neg h];exact⟨rfl,rfl⟩
theorem c217{l:Sl}{xs:List ByteArray}(h:qAc V l 1 (xs.map qBe)){s:ByteArray}:PP 217 [l.v,.string s] V (.bool (allT xs s)):=by
 refine x217 ?_
 unfold w217
 refine qAD xs.length (fun i V1=>V=V1/\qAX (fun x=>decide (x=s)) xs i) ⟨rfl,qAX.zero _ _⟩ ?_
 rintro i b V1 J hi ⟨rfl,ha⟩ hJ
 refine⟨fun hlt=>?_,fun hge=>?_⟩
 ·obtain⟨x,hm,hx,hdr,hl,hp,hz,hrow⟩:=h.get hlt
  refine⟨hp,hz,hlt,_,hrow,fun he=>⟨h.succ hlt,hJ hl _ _ ⟨rfl,ha.succ hx (decide_eq_true he)⟩⟩,fun he=>?_⟩
  unfold allT;grind
 ·unfold allT;rw[ha.all (h.done hge).2];simp_all
theorem c184(h:Ds.Ok V d){s:ByteArray}{l:Sl}{xs:List ByteArray}(hl:qAc V l 1 (xs.map qBe)):PP 184 [d.v,.string s,l.v] V (.tuple #[.string (qFp d s xs).1,.int .i64 (qFp d s xs).2]):=by
 refine x184 ?_
 unfold w184
 refine(c136 h).call ⟨_,rfl,?_⟩
 unfold qFp qFm
 rcases qAI (fun t:Pr=>decide (t.name=s)) d.procs with⟨h1,h2,h3⟩|⟨i,x,h1,h2,h3,h4,h5,h6,h7,_⟩
 ·rw[h1,h2];exact⟨fun _=>⟨rfl,rfl⟩,fun h=>absurd h (by decide)⟩
 ·rw[h1,h3]
  have hn:=h.procs.n_eq
  have hlt:(i:Int)<(d.ps.n:Int):=by omega
  obtain⟨y,hm,hx,hdr,hll,hp,hz,hrow⟩:=h.procs.get hlt
  rw[h2]at hx
  cases hx
  have hox:=h.procsOk x h6
  have e1:=hl.n_eq
  have e2:=hox.params.n_eq
  refine⟨fun h=>absurd h (by omega),fun _=>⟨hp,hz,hlt,_,_,_,_,_,hrow,fun he=>?_,fun he=>?_⟩⟩
  ·have hle:xs.length=x.params.length:=by omega
   simp only[hle,ne_eq,not_true_eq_false,if_false]
   refine qEb xs.length (fun i V1=>V=V1/\qCk d xs x.params=qCk d (xs.drop i) (x.params.drop i)) ⟨rfl,rfl⟩ ?_
   rintro j b c V1 J hi ⟨rfl,ha⟩ hJ
   refine⟨fun hlt=>?_,fun hge=>?_⟩
   ·obtain⟨y,hm',hx',hdr',hl',hp',hz',hrow'⟩:=hl.get hlt
    obtain⟨f,hmf,hxf,hdf,hlf,hpf,hzf,hrowf⟩:=hox.params.get (i:=j) (by omega)
    rw[hdr',hdf,qCk]at ha
    refine⟨hp',hz',hlt,_,hrow',hpf,hzf,by omega,qAd hpf,_,_,hrowf,(c187 h).call ⟨_,rfl,fun hb=>⟨hl.succ hlt,hJ hl' _ _ _ ⟨rfl,?_⟩⟩,fun hb=>?_⟩⟩
    ·simp_all
    ·rw[eq_false_of_ne_true hb,Bool.false_and]at ha;rw[ha];exact⟨rfl,rfl⟩
   ·rw[(hl.done hge).1,qKl]at ha
    simp_all
  ·have hle:¬xs.length=x.params.length:=by omega
   simp only[ne_eq,hle,not_false_eq_true,if_true];exact⟨by rfl,by simp_all⟩
theorem qEm{l:Sl}{xs:List ByteArray}(hl:qAc V l 1 (xs.map qBe)){i:Nat}(hi:i<xs.length):¬(l.p=none)/\(i:Int)<(l.n:Int)/\V.rowp l.p i 1=some [.string (xs.getD i sE)]:=by
 have hn:=hl.n_eq
 have hlt:(i:Int)<(l.n:Int):=by omega
 obtain⟨y,hm',hx',hdr',hl',hp',hz',hrow'⟩:=hl.get hlt
 rw[List.getD_eq_getElem?_getD,hx']
 rw[Nat.mul_one]at hrow'
 exact⟨hp',hlt,hrow'⟩
theorem c215(h:Ds.Ok V d){sl:Sl}{sc:Sc}{s:ByteArray}{l:Sl}{xs:List ByteArray}(hl:qAc V l 1 (xs.map qBe)) :
  PP 215 [d.v,.agg #[sl.v,.bool sc.body],.string s,l.v] V (.tuple #[.string (qHN d sc s xs).1,.int .i64 (qHN d sc s xs).2]):=by
 refine x215 ?_
 unfold w215
 refine⟨fun hb=>(c184 h hl).call ⟨_,_,rfl,fun h0=>⟨fun h1=>?_,fun h1=>?_⟩,fun h0=>?_⟩,fun hb=>?_⟩
 ·unfold qHN sE;rw[if_pos hb,if_pos ⟨h0,h1⟩];exact⟨rfl,rfl⟩
 ·unfold qHN sE;rw[if_pos hb,if_neg (fun h=>h1 h.2)];exact⟨rfl,rfl⟩
 ·unfold qHN;rw[if_pos hb,if_neg (fun h=>h0 h.1)];exact⟨rfl,rfl⟩
 ·unfold qHN;rw[if_neg hb]
  refine(c152 h).call ⟨_,rfl,?_⟩
  unfold qJH meOf
  rcases qAI (fun t:Ms=>decide (t.name=s)) d.measures with⟨h1,h2,h3⟩|⟨i,x,h1,h2,h3,h4,h5,h6,h7,_⟩
  ·rw[h1,h2];exact⟨fun _=>⟨rfl,rfl⟩,fun h=>absurd h (by decide)⟩
  ·rw[h1,h3]
   have hn:=h.measures.n_eq
   have hlt:(i:Int)<(d.ms.n:Int):=by omega
   obtain⟨y,hm,hx,hdr,hll,hp,hz,hrow⟩:=h.measures.get hlt
   rw[h2]at hx
   cases hx
   have e1:=hl.n_eq
   refine⟨fun h=>absurd h (by omega),fun _=>⟨fun he=>?_,fun he=>?_⟩⟩
   ·have hle:xs.length=1:=by omega
    obtain⟨a1,a2,a3⟩:=qEm hl (i:=0) (by omega)
    simp only[hle,ne_eq,not_true_eq_false,if_false]
    exact⟨a1,by omega,by omega,_,a3,hp,hz,hlt,qAd hp,_,_,_,_,_,_,_,hrow,(c187 h).call ⟨_,rfl,c216.call ⟨_,_,rfl,rfl,rfl⟩⟩⟩
   ·have hle:¬xs.length=1:=by omega
    simp only[ne_eq,hle,not_false_eq_true,if_true];exact⟨by rfl,by simp_all⟩
end
theorem arity{op n:Int}{s:ByteArray}{len:Int}(h:qDt op n s len=true):(op=5->len=1)/\(op=14∨op=15->len=2)/\(op=21->len=3)/\len<=6:=by
 grind [qDt,qAP]
theorem qGm{d:Int}{e:E}(h:okE d e=true):qDt e.op e.n e.s e.k.length=true:=by
 cases e
 unfold okE at h
 rw[Bool.and_eq_true,Bool.and_eq_true]at h
 exact h.1.2
theorem okEs_mem{d:Int}:∀{l:List E},okEs d l=true->∀x∈l,okE d x=true
 | [],_,x,hx=>absurd hx List.not_mem_nil
 | y::l,h,x,hx=>by
  unfold okEs at h
  rw[Bool.and_eq_true]at h
  rcases List.mem_cons.1 hx with rfl|hx
  ·exact h.1
  ·exact okEs_mem h.2 x hx
theorem qHY{d:Int}{e:E}(h:okE d e=true):∀x∈e.k,okE (d+1) x=true:=by
 cases e
 unfold okE at h
 rw[Bool.and_eq_true]at h
 exact okEs_mem h.2
theorem ownS{V0 V:Mem}{s:Sl}{l:List ByteArray}(h:Own V0 V 9 1 s (l.flatMap qBe)):qAc V s 1 (l.map qBe):=h.rows (fun _=>rfl) (by decide)
theorem qIL{V:Mem}{b:Nat}{s:ByteArray}{t:Nat}(h:V b=some (.cells #[.string s] t (0,0))):qAc V ⟨some ⟨b,0,none⟩,1,1⟩ 1 ([s].map qBe) :=
 qAc.cells (xs:=[s]) (row:=qBe) h rfl (fun _=>rfl) rfl (by simp)
def scV(sl:Sl)(sc:Sc):Value:=.agg #[sl.v,.bool sc.body]
section
variable{V:Mem}{d:Ds}{sc:Sc}{sl:Sl}
def RefE(V:Mem)(d:Ds)(sl:Sl)(sc:Sc)(e:E):Prop:=∀V1,V.sub V1->PP 185 [d.v,scV sl sc,e.v] V1 (.tuple #[.string (qAr d sc e).1,.int .i64 (qAr d sc e).2])
theorem refParts(e:E)(he:E.Ok V e)(hlen:(e.k.length:Int)<=6)(hk:∀x∈e.k,RefE V d sl sc x) :
  Tri Tryz.prog 183 #[d.v,scV sl sc,e.v] V fun r V'=>∃s':Sl,r=.returned (.tuple #[.slice s'.p s'.n s'.c,.int .i64 (partsT d sc [] e.k).2])/\V.sub V'/\qAc V' s' 1 ((partsT d sc [] e.k).1.map qBe):=by
 have hr:=he.rows
 refine x183 ?_
 unfold w183
 refine loop4s (mk:=fun s:Sl=>.slice s.p s.n s.c) (mc:=.int .i64) (md:=fun s:Sl=>.slice s.p s.n s.c) ⟨none,0,0⟩ 0 ⟨none,0,0⟩ qBc e.k.length (fun i s V1=>∃acc,Own V V1 9 1 s (acc.flatMap qBe)/\partsT d sc [] e.k=partsT d sc acc (e.k.drop i)/\acc.length=i) ⟨[],Own.nil (Mem.sub.refl _) _ _,rfl,rfl⟩ ?_
 rintro i b c s V1 J hi ⟨acc,hown,hp,hlen'⟩ hJ
 have hr1:=hr.sub hown.sub
 refine⟨fun hlt=>?_,fun hge=>?_⟩
 ·obtain⟨x,hm,hx,hdr,hl,hpp,hz,hrow⟩:=hr1.get hlt
  rw[hdr,qCa]at hp
  refine⟨hpp,hz,hlt,_,_,_,_,hrow,(hk x hm V1 hown.sub).call ⟨_,_,rfl,fun h0=>?_,fun h0=>?_⟩⟩
  ·intro b1 hb1
   rw[if_neg (fun h=>h h0)]at hp
   refine app220 (s:=s) (u:=⟨some ⟨b1,0,none⟩,1,1⟩) (xs:=acc) (ys:=[(qAr d sc x).1]) rfl rfl (hown.new hb1 _) (qIL mss) (by simp;omega) fun s' V' ho=>⟨s',rfl,hr1.succ hlt,hJ hl _ _ _ _ ⟨_,ho,hp,by simp[hlen']⟩⟩
  ·rw[if_pos h0]at hp
   exact⟨⟨none,0,0⟩,by rw[hp],hown.sub,by rw[hp];exact qAc.nil⟩
 ·rw[(hr1.done hge).1,qCN]at hp
  exact⟨s,by rw[hp],hown.sub,by grind [ownS]⟩
set_option maxRecDepth 4000 in
theorem refExpr(hd:Ds.Ok V d)(hsl:qAc V sl 2 (sc.vars.map Fld.row)):∀(e:E),E.Ok V e->∀dd,okE dd e=true->RefE V d sl sc e:=by
 intro e
 induction e using E.ind with
 | h e ih =>
 intro he dd hok V1 hV
 have har:=arity (qGm hok)
 have hk:∀x∈e.k,RefE V1 d sl sc x:=fun x hx V2 h2=>ih x hx (he.kids x hx) (dd+1) (qHY hok x hx) V2 (hV.trans h2)
 refine Pur.mk (x185 ?_)
 unfold w185
 refine Tri.mono (refParts e (he.sub hV) har.2.2.2 hk) ?_
 rintro _ V2 ⟨s',rfl,h12,hrows⟩
 rw[qIg]
 have hlen:=qGY d sc e.k []
 generalize hPT:partsT d sc [] e.k=pt at hrows hlen
 obtain⟨l,f⟩:=pt
 refine⟨s',f,rfl,fun h0=>?_,fun h0=>?_⟩
 ·subst h0
  have hlen:l.length=e.k.length:=by simp_all
  simp only[ne_eq,not_true_eq_false,if_false]
  have hd2:=hd.sub (hV.trans h12)
  have hsl2:=hsl.sub (hV.trans h12)
  generalize hX:qFD d sc e.op e.s l=X
  have key:∀a b,X=(a,b)->(Ending.returned (.tuple #[.string a,.int .i64 b])=Ending.returned (.tuple #[.string X.1,.int .i64 X.2])/\V1.sub V2):=fun a b h=>by simp_all
  have cAll:=fun t=>c217 hrows (s:=t)
  have cFits:=fun a b=>c187 hd2 (s:=a) (t:=b)
  have at0:=fun h:0<l.length=>qEm hrows h
  have at1:=fun h:1<l.length=>qEm hrows h
  have at2:=fun h:2<l.length=>qEm hrows h
  unfold qFD at hX
  refine⟨fun o1=>key _ _ ?_,fun o1=>⟨fun o2=>key _ _ ?_,fun o2=>⟨fun o3=>key _ _ ?_,fun o3=>⟨fun o4=>?_,fun o4=>⟨fun o5=>?_,fun o5=>⟨fun o6=>?_,fun o6=>⟨fun o7=>?_,fun o7=>⟨fun o14=>?_,fun o14=>⟨fun o15=>?_,fun o15=>⟨fun o16=>?_,fun o16=>⟨fun o17=>?_,fun o17=>⟨fun o18=>?_,fun o18=>⟨fun o19=>?_,fun o19=>⟨fun o20=>?_,fun o20=>⟨fun o21=>?_,fun o21=>?_⟩⟩⟩⟩⟩⟩⟩⟩⟩⟩⟩⟩⟩⟩⟩
  ·rw[<- hX,if_pos o1];rfl
  ·rw[<- hX,if_neg o1,if_pos o2];rfl
  ·rw[<- hX,if_neg o1,if_neg o2,if_pos o3];rfl
  ·rw[if_neg o1,if_neg o2,if_neg o3,if_pos o4]at hX
   refine(c186 hsl2).call ⟨_,rfl,fun h=>key _ _ ?_,fun h=>key _ _ ?_⟩
   ·grind [qBS,sE]
   grind [qBS,sE]
  ·rw[if_neg o1,if_neg o2,if_neg o3,if_neg o4,if_pos o5]at hX
   obtain⟨a1,a2,a3⟩:=at0 (by omega)
   exact⟨a1,by omega,a2,_,a3,(c188 hd2).call ⟨_,_,rfl,key _ _ (by rw[<- hX])⟩⟩
  ·rw[if_neg o1,if_neg o2,if_neg o3,if_neg o4,if_neg o5,if_pos o6]at hX
   refine⟨fun hb=>(c153 hd2).call ⟨_,rfl,fun hn=>key _ _ ?_,fun hn=>key _ _ ?_⟩,fun hb=>key _ _ ?_⟩
   ·simp_all
   ·rw[<- hX,if_neg (by rw[hb];simp),if_pos (eq_false_of_ne_true hn)];rfl
   ·rw[<- hX,if_pos (eq_false_of_ne_true hb)];rfl
  ·rw[if_neg o1,if_neg o2,if_neg o3,if_neg o4,if_neg o5,if_neg o6,if_pos o7]at hX
   exact(c215 hd2 (sl:=sl) hrows).call ⟨_,_,rfl,key _ _ (by rw[<- hX])⟩
  iterate 2
   ·rw[if_neg o1,if_neg o2,if_neg o3,if_neg o4,if_neg o5,if_neg o6,if_neg o7,if_pos (by omega)]at hX
    obtain⟨a1,a2,a3⟩:=at0 (by have:=har.2.1 (by omega);omega)
    obtain⟨b1,b2,b3⟩:=at1 (by have:=har.2.1 (by omega);omega)
    refine⟨a1,by omega,a2,_,a3,b1,by omega,b2,_,b3,(cFits _ _).call ⟨_,rfl,fun h=>c216.call ⟨_,_,rfl,key _ _ ?_⟩,fun h=>⟨b1,by omega,b2,_,b3,a1,by omega,a2,_,a3,(cFits _ _).call ⟨_,rfl,c216.call ⟨_,_,rfl,key _ _ ?_⟩⟩⟩⟩⟩
    ·rw[<- hX,h];rfl
    ·rw[<- hX,eq_false_of_ne_true h];rfl
  iterate 2
   ·rw[if_neg o1,if_neg o2,if_neg o3,if_neg o4,if_neg o5,if_neg o6,if_neg o7,if_neg (by omega),if_pos (by omega)]at hX
    exact(cAll _).call ⟨_,rfl,c216.call ⟨_,_,rfl,key _ _ (by rw[<- hX];rfl)⟩⟩
  iterate 3
   ·rw[if_neg o1,if_neg o2,if_neg o3,if_neg o4,if_neg o5,if_neg o6,if_neg o7,if_neg (by omega),if_neg (by omega),if_pos (by omega)]at hX
    exact(cAll _).call ⟨_,rfl,c216.call ⟨_,_,rfl,key _ _ (by rw[<- hX];rfl)⟩⟩
  ·rw[if_neg o1,if_neg o2,if_neg o3,if_neg o4,if_neg o5,if_neg o6,if_neg o7,if_neg (by omega),if_neg (by omega),if_neg (by omega),if_pos o21]at hX
   obtain⟨a1,a2,a3⟩:=at0 (by omega)
   obtain⟨b1,b2,b3⟩:=at1 (by omega)
   obtain⟨c1,c2,c3⟩:=at2 (by omega)
   have fin:∀t,(if l.getD 1 sE=qKJ then l.getD 2 sE else l.getD 1 sE)=t ->
     (l.getD 0 sE=qAt->qDy d (l.getD 1 sE) (l.getD 2 sE)=true->X=qDu true t)/\(l.getD 0 sE=qAt->¬qDy d (l.getD 1 sE) (l.getD 2 sE)=true->X=qDu (qDy d (l.getD 2 sE) (l.getD 1 sE)) t)/\(¬l.getD 0 sE=qAt->X=qDu false t):=fun t ht=>by
    grind
   refine⟨b1,by omega,b2,_,b3,fun hn=>?_,fun hn=>?_⟩
   ·have hf:=fin _ (if_pos hn)
    refine⟨c1,by omega,c2,_,c3,a1,by omega,a2,_,a3,fun h0=>⟨b1,by omega,b2,_,b3,c1,by omega,c2,_,c3,(cFits _ _).call ⟨_,rfl,fun h=>c216.call ⟨_,_,rfl,key _ _ ?_⟩,fun h=>⟨c1,by omega,c2,_,c3,b1,by omega,b2,_,b3,(cFits _ _).call ⟨_,rfl,c216.call ⟨_,_,rfl,key _ _ ?_⟩⟩⟩⟩⟩,fun h0=>c216.call ⟨_,_,rfl,key _ _ ?_⟩⟩
    ·exact hf.1 h0 h
    ·exact hf.2.1 h0 h
    ·exact hf.2.2 h0
   ·have hf:=fin _ (if_neg hn)
    refine⟨a1,by omega,a2,_,a3,fun h0=>⟨b1,by omega,b2,_,b3,c1,by omega,c2,_,c3,(cFits _ _).call ⟨_,rfl,fun h=>c216.call ⟨_,_,rfl,key _ _ ?_⟩,fun h=>⟨c1,by omega,c2,_,c3,b1,by omega,b2,_,b3,(cFits _ _).call ⟨_,rfl,c216.call ⟨_,_,rfl,key _ _ ?_⟩⟩⟩⟩⟩,fun h0=>c216.call ⟨_,_,rfl,key _ _ ?_⟩⟩
    ·exact hf.1 h0 h
    ·exact hf.2.1 h0 h
    ·exact hf.2.2 h0
  ·rw[if_neg o1,if_neg o2,if_neg o3,if_neg o4,if_neg o5,if_neg o6,if_neg o7,if_neg (by omega),if_neg (by omega),if_neg (by omega),if_neg o21]at hX
   exact(cAll _).call ⟨_,rfl,c216.call ⟨_,_,rfl,key _ _ (by rw[<- hX];rfl)⟩⟩
 ·simp only[ne_eq,h0,not_false_eq_true,if_true]
  exact⟨rfl,h12⟩
end
end Go.Proofs
