/- Part 11 of a proof of a law of this seat: no statement of the seat is proved here. -/
import Derived.Test.YtmeagdecjpknkaaGreatDoorPp10
import Derived.Test.YtmeagdecjpknkaaGreatDoorPp04
set_option linter.unusedVariables false
set_option linter.unusedSimpArgs false
namespace Go.Proofs
open Go Go.Sx
structure St where
 g:List Int
 ns:List (Int×List Int)
 tk:Nat
 cm:Nat
 lg:List (Int×Int×Int)
inductive Rx (α:Type) where
 | ok (v:α) (s:St)
 | bad (c:Int) (s:St)
def Rx.bind{α β:Type}:Rx α->(α->St->Rx β)->Rx β
 | .ok v s,f=>f v s
 | .bad c s,_=>.bad c s
def qAL:Sl:=⟨none,0,0⟩
def St.mm(s:St):Mm:=⟨qAL,s.g,qAL,s.ns.map fun n=>⟨n.1,qAL,n.2⟩⟩
def St.note(s:St)(a:Int×Int×Int):St:={ s with lg:=s.lg++[a] }
def noE:E:=.mk 0 0 sE qAL []
def qCU(d:Ds)(s:ByteArray):Int:=qIQ (fun t=>decide (t.name=s)) d.procs
def liftR:Rs->St->Rx Int
 | .ok v,s=>.ok v s
 | .bad c,s=>.bad c s
def seqX:List (St->Rx Int)->List Int->St->Rx (List Int)
 | [],acc,st=>.ok acc st
 | f::fs,acc,st=>(f st).bind fun v st=>seqX fs (acc++[v]) st
def qFv(ks:List (St->Rx Int))(i:Nat):St->Rx Int:=ks.getD i fun st=>.bad 0 st
def _root_.Go.Sx.Pr.vars(p:Pr):List Fld:=p.params++p.locals
def cntX(b:Bool)(op:Int)(st:St):St:=if op=16∨op=17∨((op=14∨op=15)/\b=true) then { st with cm:=st.cm+1 } else st
abbrev Cf:=Int->List Int->St->Rx Int
abbrev Rt:=List Int×Option Int
abbrev Sf:=Nat->Pr->List S->List Int->St->Rx Rt
def qJO(F:Nat)(st:St):Rx Unit:=if F<=st.tk then .bad 20 st else .ok () { st with tk:=st.tk+1 }
section
variable(d:Ds)
def varX(p:Pr)(vals:List Int)(s:ByteArray)(st:St):Rx Int :=
 if 0<=qGe p.vars s then .ok ((vals[(qGe p.vars s).toNat]?).getD 0) st else .ok ((st.g[(qGe d.globals s).toNat]?).getD 0) (st.note (1,0,qGe d.globals s))
def fldX(a:Int)(s:ByteArray)(st:St):Rx Int :=
 if a=0 then .bad 17 st else match st.ns[(a-1).toNat]? with
  | none=>.bad 0 st
  | some n=>.ok ((n.2[(qGe (qAq d n.1) s).toNat]?).getD 0) (st.note (1,a,qGe (qAq d n.1) s))
def newX(s:ByteArray)(st:St):Rx Int :=
 if 4096<=st.ns.length then .bad 21 st else .ok ((st.ns.length:Int)+1) { st with ns:=st.ns++[(qDQ d s,List.replicate (qAq d (qDQ d s)).length 0)],lg:=st.lg++[(3,(st.ns.length:Int)+1,qDQ d s)] }
def intB(sc:Sc):List E->Bool
 | []=>false
 | a::_=>decide ((qAo d sc a).1=qBd)
def qDo(C:Cf)(p:Pr)(vals:List Int)(b:Bool)(op n:Int)(s:ByteArray)(ks:List (St->Rx Int))(st:St):Rx Int :=
 if op=1∨op=2 then .ok n st else if op=3 then .ok 0 st else if op=4 then varX d p vals s st
 else if op=5 then (qFv ks 0 st).bind fun a st=>fldX d a s st
 else if op=6 then newX d s st
 else if op=7 then (seqX ks [] st).bind fun l st=>C (qCU d s) l st
 else if op=8 then (qFv ks 0 st).bind fun a st=>liftR (big (-a)) st
 else if op=18 then (qFv ks 0 st).bind fun a st=>.ok (1-a) st
 else if op=24 then (qFv ks 0 st).bind fun a st=>.ok (logV a) st
 else if op=19 then (qFv ks 0 st).bind fun a st=>if a=0 then .ok 0 st else qFv ks 1 st
 else if op=20 then (qFv ks 0 st).bind fun a st=>if a=0 then qFv ks 1 st else .ok 1 st
 else if op=21 then (qFv ks 0 st).bind fun a st=>if a=0 then qFv ks 2 st else qFv ks 1 st
 else (qFv ks 0 st).bind fun v st=>(qFv ks 1 st).bind fun w st=>liftR (qEV op v w) (cntX b op st)
mutual
def evX(C:Cf)(p:Pr)(vals:List Int):E->St->Rx Int
 | .mk op n s _ k=>qDo d C p vals (intB d (qAj d p) k) op n s (evXs C p vals k)
def evXs(C:Cf)(p:Pr)(vals:List Int):List E->List (St->Rx Int)
 | []=>[]
 | e::es=>evX C p vals e::evXs C p vals es
end
def qDW(Sn:Sf)(c:Nat)(i:Int)(args:List Int)(st:St):Rx Int :=
 if 200<=c then .bad 19 st else match d.procs[i.toNat]? with
  | none=>.bad 0 st
  | some p=>(Sn (c+1) p p.body (args++List.replicate p.locals.length 0) st).bind fun r st=>.ok (r.2.getD 0) st
def setX(p:Pr)(s:ByteArray)(v:Int)(vals:List Int)(st:St):Rx Rt :=
 if 0<=qGe p.vars s then .ok (vals.set (qGe p.vars s).toNat v,none) st else .ok (vals,none) { st with g:=st.g.set (qGe d.globals s).toNat v,lg:=st.lg++[(2,0,qGe d.globals s)] }
def putX(a v:Int)(s:ByteArray)(st:St):Rx Unit :=
 if a=0 then .bad 17 st else match st.ns[(a-1).toNat]? with
  | none=>.bad 0 st
  | some n=>.ok () { st with ns:=st.ns.set (a-1).toNat (n.1,n.2.set (qGe (qAq d n.1) s).toNat v),lg:=st.lg++[(2,a,qGe (qAq d n.1) s)] }
section
variable(F:Nat)(Sn:Sf)(c:Nat)(p:Pr)
def evS(vals:List Int)(e:E)(st:St):Rx Int:=evX d (qDW d Sn c) p vals e st
def whX(cond:E)(body:List S):Nat->List Int->St->Rx Rt
 | 0,_,st=>.bad 20 st
 | n+1,vals,st=>(evS d Sn c p vals cond st).bind fun a st=>if a=0 then .ok (vals,none) st else (Sn c p body vals st).bind fun r st=>match r.2 with
  | some _=>.ok r st
  | none=>(qJO F st).bind fun _ st=>whX cond body n r.1 st
def bodyX(n:Nat)(s:S)(vals:List Int)(st:St):Rx Rt :=
 if s.op=1 then (evS d Sn c p vals (s.es.getD 0 noE) st).bind fun v st=>setX d p s.s v vals st
 else if s.op=2 then (evS d Sn c p vals (s.es.getD 0 noE) st).bind fun a st=>(evS d Sn c p vals (s.es.getD 1 noE) st).bind fun v st=>(putX d a v s.s st).bind fun _ st=>.ok (vals,none) st
 else if s.op=3 then (evS d Sn c p vals (s.es.getD 0 noE) st).bind fun a st=>if a=0 then Sn c p s.xs vals st else Sn c p s.ls vals st
 else if s.op=4 then whX d F Sn c p (s.es.getD 0 noE) s.ls n vals st
 else if s.op=5 then match s.es with
  | []=>.ok (vals,some 0) st
  | e::_=>(evS d Sn c p vals e st).bind fun v st=>.ok (vals,some v) st
 else if s.op=6 then (evS d Sn c p vals (s.es.getD 0 noE) st).bind fun _ st=>.ok (vals,none) st
 else .ok (vals,none) st
def stX(n:Nat)(s:S)(vals:List Int)(st:St):Rx Rt:=(qJO F st).bind fun _ st=>bodyX d F Sn c p n s vals st
end
def qGy(f:S->List Int->St->Rx Rt):List S->List Int->St->Rx Rt
 | [],vals,st=>.ok (vals,none) st
 | s::l,vals,st=>(f s vals st).bind fun r st=>match r.2 with
  | some _=>.ok r st
  | none=>qGy f l r.1 st
def qFB(F:Nat):Nat->Sf
 | 0=>fun _ _ _ _ st=>.bad 20 st
 | n+1=>fun c p l vals st=>qGy (stX d F (qFB F n) c p (n+1)) l vals st
def qBM(F:Nat)(i:Int)(args:List Int)(st:St):Rx Int:=qDW d (qFB d F (F+1)) 0 i args st
end
variable{d:Ds}
theorem evXs_map(C:Cf)(p:Pr)(vals:List Int):∀k:List E,evXs d C p vals k=k.map (evX d C p vals)
 | []=>by unfold evXs;rfl
 | e::es=>by unfold evXs;rw[evXs_map C p vals es];rfl
theorem evX_eq(C:Cf)(p:Pr)(vals:List Int)(e:E)(st:St):evX d C p vals e st=qDo d C p vals (intB d (qAj d p) e.k) e.op e.n e.s (e.k.map (evX d C p vals)) st:=by
 cases e;unfold evX;rw[evXs_map];rfl
theorem kidX_at{f:E->St->Rx Int}{k:List E}{i:Nat}{e:E}(h:k[i]?=some e):qFv (k.map f) i=f e:=by
 grind [qFv]
section
variable{C:Cf}{p:Pr}{vals:List Int}{b:Bool}{op n:Int}{s:ByteArray}{ks:List (St->Rx Int)}{st:St}
theorem cX1(h:op=1∨op=2):qDo d C p vals b op n s ks st=.ok n st:=by rcases h with rfl|rfl <;> rfl
theorem cX3(h:op=3):qDo d C p vals b op n s ks st=.ok 0 st:=by subst h;rfl
theorem cX4(h:op=4):qDo d C p vals b op n s ks st=varX d p vals s st:=by subst h;rfl
theorem cX5(h:op=5):qDo d C p vals b op n s ks st=(qFv ks 0 st).bind fun a st=>fldX d a s st:=by subst h;rfl
theorem cX6(h:op=6):qDo d C p vals b op n s ks st=newX d s st:=by subst h;rfl
theorem cX7(h:op=7):qDo d C p vals b op n s ks st=(seqX ks [] st).bind fun l st=>C (qCU d s) l st:=by subst h;rfl
theorem cX8(h:op=8):qDo d C p vals b op n s ks st=(qFv ks 0 st).bind fun a st=>liftR (big (-a)) st:=by subst h;rfl
theorem cX18(h:op=18):qDo d C p vals b op n s ks st=(qFv ks 0 st).bind fun a st=>.ok (1-a) st:=by subst h;rfl
theorem cX24(h:op=24):qDo d C p vals b op n s ks st=(qFv ks 0 st).bind fun a st=>.ok (logV a) st:=by subst h;rfl
theorem cX19(h:op=19):qDo d C p vals b op n s ks st=(qFv ks 0 st).bind fun a st=>if a=0 then .ok 0 st else qFv ks 1 st:=by subst h;rfl
theorem cX20(h:op=20):qDo d C p vals b op n s ks st=(qFv ks 0 st).bind fun a st=>if a=0 then qFv ks 1 st else .ok 1 st:=by subst h;rfl
theorem cX21(h:op=21):qDo d C p vals b op n s ks st=(qFv ks 0 st).bind fun a st=>if a=0 then qFv ks 2 st else qFv ks 1 st:=by subst h;rfl
theorem cXTwo(h:9<=op/\op<=23/\op≠18/\op≠19/\op≠20/\op≠21):qDo d C p vals b op n s ks st=(qFv ks 0 st).bind fun v st=>(qFv ks 1 st).bind fun w st=>liftR (qEV op v w) (cntX b op st):=by
 grind [qDo]
end
end Go.Proofs
namespace Go.Proofs
open Go Go.Sx
section
variable{d:Ds}{sc:Sc}{e:E}{p:Pr}
structure CallK (d:Ds) (sc:Sc) (e:E) (pr:Pr) (i:Nat):Prop where
 idx:qCU d e.s=i
 at_:d.procs[i]?=some pr
 len:e.k.length=pr.params.length
 fit:∀(j:Nat) a f,e.k[j]?=some a->pr.params[j]?=some f->∃u,qAo d sc a=(u,0)/\qEb d u f.ty=true
theorem fitAll_at:∀{l:List ByteArray} {fs:List Fld},qCw d l fs=true->∀(j:Nat) a f,l[j]?=some a->fs[j]?=some f->qEb d a f.ty=true
 | [],_,_,j,a,f,h,_=>by simp at h
 | _::_,[],_,j,a,f,_,h=>by simp at h
 | b::l,g::fs,h,j,a,f,h1,h2=>by
  unfold qCw at h
  rw[Bool.and_eq_true]at h
  cases j with
  | zero=>simp_all
  | succ j=>exact fitAll_at h.2 j a f (by simpa using h1) (by simpa using h2)
theorem callT_ok{s t:ByteArray}{l:List ByteArray}(h:qGG d s l=(t,0)):∃(pr:Pr) (i:Nat),qCU d s=i/\d.procs[i]?=some pr/\l.length=pr.params.length/\qCw d l pr.params=true/\t=pr.result:=by
 unfold qGG qHZ at h
 unfold qCU
 rcases qBh (fun x:Pr=>decide (x.name=s)) d.procs with⟨-,q2,-⟩|⟨i,pr,q1,q2,q3,-⟩
 ·simp_all
 grind
theorem callK_of(hk:∀x∈e.k,(qAo d sc x).2=0){t:ByteArray}(h:qGG d e.s (e.k.map fun x=>(qAo d sc x).1)=(t,0)):∃pr i,CallK d sc e pr i/\t=pr.result:=by
 obtain⟨pr,i,h1,h2,h3,h4,h5⟩:=callT_ok h
 refine⟨pr,i,⟨h1,h2,by simpa using h3,fun j a f ha hf=>⟨(qAo d sc a).1,qBo rfl (hk a (List.mem_of_getElem? ha)),fitAll_at h4 j _ f (by simp[ha]) hf⟩⟩,h5⟩
inductive qEB (d:Ds) (sc:Sc) (e:E):ByteArray->Prop where
 | int (h:e.op=1) (hn:0<=e.n/\e.n<=1099511627776):qEB d sc e qBd
 | bool (h:e.op=2) (hn:e.n=0∨e.n=1):qEB d sc e qAw
 | nil (h:e.op=3) (hn:e.n=0):qEB d sc e sNil
 | var {t} (h:e.op=4) (hl:qCt sc.vars e.s=t) (hne:t≠sE):qEB d sc e t
 | fld {t u} {a:E} (h:e.op=5) (hk:e.k=[a]) (ha:qAo d sc a=(u,0)) (ht:qCc d u e.s=(t,0)):qEB d sc e t
 | new (h:e.op=6) (hn:qBm d e.s=true):qEB d sc e e.s
 | call {pr:Pr} {i:Nat} (h:e.op=7) (hc:CallK d sc e pr i) (hr:pr.result≠sE):qEB d sc e pr.result
 | neg {a:E} (h:e.op=8) (hk:e.k=[a]) (ha:qAo d sc a=(qBd,0)):qEB d sc e qBd
 | not {a:E} (h:e.op=18) (hk:e.k=[a]) (ha:qAo d sc a=(qAw,0)):qEB d sc e qAw
 | log {a:E} (h:e.op=24) (hk:e.k=[a]) (ha:qAo d sc a=(qBd,0)):qEB d sc e qBd
 | and {a b:E} (h:e.op=19) (hk:e.k=[a,b]) (ha:qAo d sc a=(qAw,0)) (hb:qAo d sc b=(qAw,0)):qEB d sc e qAw
 | or {a b:E} (h:e.op=20) (hk:e.k=[a,b]) (ha:qAo d sc a=(qAw,0)) (hb:qAo d sc b=(qAw,0)):qEB d sc e qAw
 | cond {a b c:E} {t u w} (h:e.op=21) (hk:e.k=[a,b,c]) (ha:qAo d sc a=(qAw,0)) (hb:qAo d sc b=(u,0)) (hc:qAo d sc c=(w,0)) (hu:u=t∨qEb d u t=true) (hw:w=t∨qEb d w t=true) (ht:t=if u=sNil then w else u):qEB d sc e t
 | eq {a b:E} {u w} (h:e.op=14∨e.op=15) (hk:e.k=[a,b]) (ha:qAo d sc a=(u,0)) (hb:qAo d sc b=(w,0)) (hf:qEb d u w=true∨qEb d w u=true):qEB d sc e qAw
 | cmp {a b:E} (h:e.op=16∨e.op=17) (hk:e.k=[a,b]) (ha:qAo d sc a=(qBd,0)) (hb:qAo d sc b=(qBd,0)):qEB d sc e qAw
 | ari {a b:E} (h:e.op=9∨e.op=10∨e.op=11∨e.op=12∨e.op=13∨e.op=22∨e.op=23) (hk:e.k=[a,b]) (ha:qAo d sc a=(qBd,0)) (hb:qAo d sc b=(qBd,0)):qEB d sc e qBd
theorem kindX(hsc:sc.body=true){t:ByteArray}(hv:VE e)(ht:qAo d sc e=(t,0)):qEB d sc e t:=by
 obtain⟨hk,hn⟩:=qHK ht
 obtain⟨a1,a2,a3,a4⟩:=arityB hv.node
 unfold qGx at hn
 unfold numB at a4
 have one:qAP e.op=1->∃a,e.k=[a]:=fun h=>list1 ((a2 (by omega)).trans h)
 have two:qAP e.op=2->∃a b,e.k=[a,b]:=fun h=>list2 ((a2 (by omega)).trans h)
 have three:qAP e.op=3->∃a b c,e.k=[a,b,c]:=fun h=>list3 ((a2 (by omega)).trans h)
 by_cases h1:e.op=1
 ·rw[if_pos h1]at hn a4
  cases hn;exact .int h1 (of_decide_eq_true a4)
 rw[if_neg h1]at hn a4
 by_cases h2:e.op=2
 ·rw[if_pos h2]at hn a4
  cases hn;exact .bool h2 (of_decide_eq_true a4)
 rw[if_neg h2]at hn a4
 have a4:e.n=0:=of_decide_eq_true a4
 by_cases h3:e.op=3
 ·rw[if_pos h3]at hn
  cases hn;exact .nil h3 a4
 rw[if_neg h3]at hn
 by_cases h4:e.op=4
 ·rw[if_pos h4]at hn
  split at hn
  ·simp at hn
  ·rename_i hne
   simp only[Prod.mk.injEq,and_true]at hn
   exact .var h4 hn (hn ▸ hne)
 rw[if_neg h4]at hn
 by_cases h5:e.op=5
 ·obtain⟨a,ha⟩:=one (by rw[h5];rfl)
  rw[if_pos h5,ha]at hn
  rw[ha]at hk
  exact .fld h5 ha (qBo rfl (hk a (by simp))) hn
 rw[if_neg h5]at hn
 by_cases h6:e.op=6
 ·rw[if_pos h6,if_neg (by rw[hsc];decide)]at hn
  split at hn
  ·simp at hn
  ·rename_i hno
   simp only[Prod.mk.injEq,and_true]at hn
   subst hn
   exact .new h6 (by simpa using hno)
 rw[if_neg h6]at hn
 by_cases h7:e.op=7
 ·rw[if_pos h7]at hn
  unfold callE at hn
  rw[if_pos hsc]at hn
  split at hn
  ·simp at hn
  ·rename_i hne
   obtain⟨pr,i,hc,rfl⟩:=callK_of hk hn
   exact .call h7 hc fun h=>hne ⟨by rw[hn],by rw[hn];exact h⟩
 rw[if_neg h7]at hn
 by_cases h14:e.op=14∨e.op=15
 ·obtain⟨a,b,hab⟩:=two (by rcases h14 with h|h <;> (rw[h];rfl))
  rw[if_pos h14,hab]at hn
  rw[hab]at hk
  obtain⟨g,rfl⟩:=qBD hn
  exact .eq h14 hab (qBo rfl (hk a (by simp))) (qBo rfl (hk b (by simp))) (by simpa using g)
 rw[if_neg h14]at hn
 by_cases h16:e.op=16∨e.op=17
 ·obtain⟨a,b,hab⟩:=two (by rcases h16 with h|h <;> (rw[h];rfl))
  rw[if_pos h16,hab]at hn
  rw[hab]at hk
  obtain⟨g,rfl⟩:=qBD hn
  obtain⟨g1,g2⟩:=allT2 g
  exact .cmp h16 hab (qBo g1 (hk a (by simp))) (qBo g2 (hk b (by simp)))
 rw[if_neg h16]at hn
 by_cases h18:e.op=18∨e.op=19∨e.op=20
 ·rw[if_pos h18]at hn
  rcases h18 with h|h
  ·obtain⟨a,ha⟩:=one (by rw[h];rfl)
   rw[ha]at hn hk
   obtain⟨g,rfl⟩:=qBD hn
   exact .not h ha (qBo (allT1 g) (hk a (by simp)))
  ·obtain⟨a,b,hab⟩:=two (by rcases h with h|h <;> (rw[h];rfl))
   rw[hab]at hn hk
   obtain⟨g,rfl⟩:=qBD hn
   obtain⟨g1,g2⟩:=allT2 g
   rcases h with h|h
   ·exact .and h hab (qBo g1 (hk a (by simp))) (qBo g2 (hk b (by simp)))
   ·exact .or h hab (qBo g1 (hk a (by simp))) (qBo g2 (hk b (by simp)))
 rw[if_neg h18]at hn
 by_cases h21:e.op=21
 ·obtain⟨a,b,c,habc⟩:=three (by rw[h21];rfl)
  rw[if_pos h21,habc]at hn
  rw[habc]at hk
  obtain⟨g,g2⟩:=qBD hn
  simp only[List.map_cons,List.map_nil,List.getD_cons_zero,List.getD_cons_succ,Bool.and_eq_true,decide_eq_true_eq,Bool.or_eq_true]at g g2
  refine .cond h21 habc (qBo g.1 (hk a (by simp))) (qBo rfl (hk b (by simp))) (qBo rfl (hk c (by simp))) ?_ ?_ g2.symm
  ·grind [inr,qEb]
  grind [qEb,absurd,inr]
 rw[if_neg h21]at hn
 obtain⟨g,rfl⟩:=qBD hn
 have hop:e.op=8∨e.op=24∨(e.op=9∨e.op=10∨e.op=11∨e.op=12∨e.op=13∨e.op=22∨e.op=23):=by
  grind [qAP]
 rcases hop with h|h|h
 ·obtain⟨a,ha⟩:=one (by rw[h];rfl)
  rw[ha]at g hk
  exact .neg h ha (qBo (allT1 g) (hk a (by simp)))
 ·obtain⟨a,ha⟩:=one (by rw[h];rfl)
  rw[ha]at g hk
  exact .log h ha (qBo (allT1 g) (hk a (by simp)))
 ·obtain⟨a,b,hab⟩:=two (by rcases h with h|h|h|h|h|h|h <;> (rw[h];rfl))
  rw[hab]at g hk
  obtain⟨g1,g2⟩:=allT2 g
  exact .ari h hab (qBo g1 (hk a (by simp))) (qBo g2 (hk b (by simp)))
def TyS(d:Ds)(p:Pr)(s:S):Prop:=(∃n,(stT d (qAj d p) p.result n s).2=0)/\∃k,okS k s=true
theorem qHm{res:ByteArray}:∀{l:List S} {n:Int},(qBQ d sc res n l).2=0->∀s∈l,∃n',(stT d sc res n' s).2=0
 | [],_,_,s,hs=>by cases hs
 | x::l,n,h,s,hs=>by
  rw[qHM]at h
  split at h
  ·omega
  ·rename_i h'
   rcases List.mem_cons.1 hs with rfl|hs
   ·grind
   ·exact qHm h s hs
theorem qHt{k:Int}:∀{l:List S},qGw k l=true->∀s∈l,okS k s=true
 | [],_,s,hs=>by cases hs
 | x::l,h,s,hs=>by
  unfold qGw at h
  rw[Bool.and_eq_true]at h
  rcases List.mem_cons.1 hs with rfl|hs
  ·exact h.1
  ·exact qHt h.2 s hs
theorem okS_eq(k:Int)(s:S):okS k s=(decide (k<=60)&&qCb s.op s.s s.es s.ls.length s.xs.length&&qGw (k+1) s.ls&&qGw (k+1) s.xs):=by cases s;unfold okS;rfl
theorem TyS.parts{s:S}(h:TyS d p s):qGm d (qAj d p) p.result s.op s.s s.es=0/\qGO s.op s.s s.es s.ls.length s.xs.length=true/\(∀e∈s.es,qAM e=true)/\(∀x∈s.ls,TyS d p x)/\∀x∈s.xs,TyS d p x:=by
 obtain⟨⟨n,h1⟩,k,h2⟩:=h
 rw[okS_eq]at h2
 simp only[Bool.and_eq_true]at h2
 obtain⟨⟨⟨-,h3⟩,h4⟩,h5⟩:=h2
 unfold qCb at h3
 rw[Bool.and_eq_true,List.all_eq_true]at h3
 rw[stT_eq]at h1
 split at h1
 ·omega
 ·rename_i h'
  split at h1
  ·omega
  ·rename_i h6
   exact⟨by simpa using h',h3.1,h3.2,fun x hx=>⟨qHm (by simpa using h6) x hx,_,qHt h4 x hx⟩,fun x hx=>⟨qHm h1 x hx,_,qHt h5 x hx⟩⟩
inductive KindS (d:Ds) (p:Pr) (s:S):Prop where
 | set {e:E} {u t:ByteArray} (h:s.op=1) (he:s.es=[e]) (hv:qAM e=true) (ht:qAo d (qAj d p) e=(u,0)) (hl:qCt (qAj d p).vars s.s=t) (hne:t≠sE) (hf:qEb d u t=true)
 | put {a e:E} {u w t:ByteArray} (h:s.op=2) (he:s.es=[a,e]) (hv:qAM a=true) (hw:qAM e=true) (ha:qAo d (qAj d p) a=(u,0)) (ht:qAo d (qAj d p) e=(w,0)) (hl:qCc d u s.s=(t,0)) (hf:qEb d w t=true)
 | cond {e:E} (h:s.op=3) (he:s.es=[e]) (hv:qAM e=true) (ht:qAo d (qAj d p) e=(qAw,0))
 | loop {e:E} (h:s.op=4) (he:s.es=[e]) (hv:qAM e=true) (ht:qAo d (qAj d p) e=(qAw,0))
 | ret0 (h:s.op=5) (he:s.es=[]) (hr:p.result=sE)
 | ret1 {e:E} {u:ByteArray} (h:s.op=5) (he:s.es=[e]) (hv:qAM e=true) (ht:qAo d (qAj d p) e=(u,0)) (hr:p.result≠sE) (hf:qEb d u p.result=true)
 | call {e:E} {pr:Pr} {i:Nat} (h:s.op=6) (he:s.es=[e]) (hv:qAM e=true) (ho:e.op=7) (hc:CallK d (qAj d p) e pr i)
theorem kindS{s:S}(h:TyS d p s):KindS d p s:=by
 obtain⟨h1,h2,h3,-⟩:=h.parts
 unfold qGm at h1
 unfold qGO at h2
 by_cases o6:s.op=6
 ·rw[if_pos o6]at h1
  rw[if_neg (by omega),if_neg (by omega),if_neg (by omega),if_neg (by omega),if_neg (by omega),if_pos o6]at h2
  obtain⟨-,h4,h5,-⟩:=of_decide_eq_true h2
  obtain⟨e,he⟩:=list1 h4
  rw[he]at h1 h5
  simp only at h1
  split at h1
  ·omega
  ·rename_i h'
   obtain⟨q1,q2⟩:=qEI d (qAj d p) e.k [] (by simpa using h')
   rw[q2,List.nil_append]at h1
   obtain⟨pr,i,hc,-⟩:=callK_of (t:=(qGG d e.s (e.k.map fun x=>(qAo d (qAj d p) x).1)).1) q1 (Prod.ext rfl h1)
   exact .call o6 he (h3 e (by rw[he];simp)) h5 hc
 rw[if_neg o6]at h1
 split at h1
 ·omega
 rename_i h'
 obtain⟨q1,q2⟩:=qEI d (qAj d p) s.es [] (by simpa using h')
 rw[q2,List.nil_append]at h1
 have ty:∀{e:E},e∈s.es->qAo d (qAj d p) e=((qAo d (qAj d p) e).1,0):=fun he=>qBo rfl (q1 _ he)
 by_cases o1:s.op=1
 ·rw[if_pos o1]at h1
  rw[if_pos o1,Bool.and_eq_true]at h2
  obtain⟨e,he⟩:=list1 (of_decide_eq_true h2.2).1
  have hm:e∈s.es:=by rw[he];simp
  split at h1
  ·cases h1
  rename_i hne
  split at h1
  ·rename_i hf
   rw[he]at hf
   exact .set o1 he (h3 e hm) (ty hm) rfl hne hf
  ·cases h1
 rw[if_neg o1]at h1 h2
 by_cases o2:s.op=2
 ·rw[if_pos o2]at h1
  rw[if_pos o2,Bool.and_eq_true]at h2
  obtain⟨a,e,he⟩:=list2 (of_decide_eq_true h2.2).1
  have hm:a∈s.es:=by rw[he];simp
  have hm2:e∈s.es:=by rw[he];simp
  split at h1
  ·omega
  rename_i h4
  split at h1
  ·rename_i hf
   rw[he]at hf h4
   simp only[List.map_cons,List.getD_cons_zero,List.getD_cons_succ]at hf h4
   exact .put o2 he (h3 a hm) (h3 e hm2) (ty hm) (ty hm2) (Prod.ext rfl (by simpa using h4)) hf
  ·cases h1
 rw[if_neg o2]at h1 h2
 by_cases o3:s.op=3
 ·rw[if_pos (.inl o3)]at h1
  rw[if_pos o3]at h2
  obtain⟨e,he⟩:=list1 (of_decide_eq_true h2).2
  have hm:e∈s.es:=by rw[he];simp
  split at h1
  ·rename_i hf
   rw[he]at hf
   exact .cond o3 he (h3 e hm) (qBo hf (q1 e hm))
  ·cases h1
 rw[if_neg o3]at h2
 by_cases o4:s.op=4
 ·rw[if_pos (.inr o4)]at h1
  rw[if_pos o4]at h2
  obtain⟨e,he⟩:=list1 (of_decide_eq_true h2).2.1
  have hm:e∈s.es:=by rw[he];simp
  split at h1
  ·rename_i hf
   rw[he]at hf
   exact .loop o4 he (h3 e hm) (qBo hf (q1 e hm))
  ·cases h1
 rw[if_neg (by omega)]at h1
 rw[if_neg o4]at h2
 by_cases o5:s.op=5
 ·rw[if_pos o5]at h1 h2
  obtain⟨-,hl,-⟩:=of_decide_eq_true h2
  cases he:s.es with
  | nil =>
   rw[he]at h1
   simp only[List.map_nil,List.length_nil,if_true]at h1
   split at h1
   ·rename_i hr;exact .ret0 o5 he hr
   ·cases h1
  | cons e r =>
   have hr:r=[]:=by
    grind
   subst hr
   have hm:e∈s.es:=by rw[he];simp
   rw[he]at h1
   simp only[List.map_cons,List.map_nil,List.length_cons,List.length_nil,List.getD_cons_zero]at h1
   rw[if_neg (by omega)]at h1
   split at h1
   ·rename_i hf;exact .ret1 o5 he (h3 e hm) (ty hm) hf.1 hf.2
   ·cases h1
 simp_all
structure qCT (d:Ds) (p:Pr):Prop where
 body:∀s∈p.body,TyS d p s
 vars:∀f∈p.vars,qBx d f.ty=true
 res:p.result=sE∨qBx d p.result=true
 lens:p.params.length<=6/\p.locals.length<=12
theorem oneT_known{l:List Fld}{i:Nat}{f:Fld}(h:qGd d l i f=0):qBx d f.ty=true:=by
 grind [qGd]
theorem declT_known{l:List Fld}(h:qDA d l=0):∀f∈l,qBx d f.ty=true:=by
 intro f hf
 obtain⟨i,hi⟩:=List.mem_iff_getElem?.1 hf
 unfold qDA at h
 cases hq:qAl (fun i f=>if qGd d l i f≠0 then some (qGd d l i f) else none) 0 l with
 | none =>
  grind [qEM,oneT_known]
 | some b =>
  exfalso
  rw[hq]at h
  simp only[Option.getD_some]at h
  subst h
  have key:∀(l':List Fld) (i:Nat),qAl (fun i f=>if qGd d l i f≠0 then some (qGd d l i f) else none) i l'≠some 0:=by
   intro l'
   induction l' with
   | nil=>intro i h;cases h
   | cons x l' ih =>
    grind [qAl,qGd]
  exact key l 0 hq
theorem qHp(hv:qAF d=true)(hc:qIH d=none):∀p∈d.procs,qCT d p:=by
 intro p hp
 obtain⟨i,hi⟩:=List.mem_iff_getElem?.1 hp
 unfold qIH at hc
 obtain⟨-,h⟩:=qKj hc
 obtain⟨hh,h⟩:=qKj h
 obtain⟨-,h⟩:=qKj h
 obtain⟨hb,-⟩:=qKj h
 unfold qEY at hh
 unfold qCu at hb
 have a1:=qEM hh i p hi
 have a2:=qEM hb i p hi
 unfold qAF at hv
 simp only[Bool.and_eq_true,List.all_eq_true]at hv
 have hpb:=hv.1.2 p hp
 unfold prB at hpb
 simp only[Bool.and_eq_true]at hpb
 obtain⟨⟨⟨⟨-,f1⟩,f2⟩,-⟩,hs⟩:=hpb
 unfold qEv at f1 f2
 rw[Bool.and_eq_true,decide_eq_true_eq]at f1 f2
 have l1:=f1.1
 have l2:=f2.1
 refine⟨fun s hsm=>⟨?_,1,qHt (of_decide_eq_true hs).1 s hsm⟩,?_,?_,by omega,by omega⟩
 ·grind [qHm]
 ·split at a1
  ·cases a1
  split at a1
  ·cases a1
  rename_i h'
  have h':qDA d (p.params++p.locals)=0:=by simpa using h'
  exact declT_known h'
 grind
end
end Go.Proofs
namespace Go.Proofs
open Go Go.Sx
section
variable{d:Ds}{F:Nat}
def Rx.st{α:Type}:Rx α->St | .ok _ s=>s | .bad _ s=>s
inductive qKP:Nat->List (Int×Int×Int)->Nat->Prop where
 | nil (n:Nat):qKP n [] n
 | acc {n m:Nat} {k a f:Int} {l:List (Int×Int×Int)} (hk:k=1∨k=2) (h0:0<=a) (h1:a<=(n:Int)) (h2:0<=f) (h:qKP n l m):qKP n ((k,a,f)::l) m
 | alloc {n m:Nat} {f:Int} {l:List (Int×Int×Int)} (h2:0<=f) (h:qKP (n+1) l m):qKP n ((3,(n:Int)+1,f)::l) m
theorem qKP.app{n m k:Nat}{l l':List (Int×Int×Int)}(h:qKP n l m)(h':qKP m l' k):qKP n (l++l') k:=by
 induction h with
 | nil=>exact h'
 | acc a b c d _ ih=>grind [acc]
 | alloc a _ ih=>exact .alloc a (ih h')
abbrev Gm:=List Int×List (Int×List Int)
inductive Tra:Gm->List (Int×Int×Int)->Gm->Prop where
 | nil (x:Gm):Tra x [] x
 | rd {x y:Gm} {l:List (Int×Int×Int)} {n f:Int} (h:Tra x l y):Tra x ((1,n,f)::l) y
 | wg {g:List Int} {ns:List (Int×List Int)} {y:Gm} {l:List (Int×Int×Int)} {i:Nat} {v:Int} (hi:i<g.length) (h:Tra (g.set i v,ns) l y):Tra (g,ns) ((2,0,(i:Int))::l) y
 | wf {g:List Int} {ns:List (Int×List Int)} {y:Gm} {l:List (Int×Int×Int)} {k i:Nat} {ty v:Int} {f:List Int} (hk:ns[k]?=some (ty,f)) (hi:i<f.length) (h:Tra (g,ns.set k (ty,f.set i v)) l y):Tra (g,ns) ((2,(k:Int)+1,(i:Int))::l) y
 | al {g:List Int} {ns:List (Int×List Int)} {y:Gm} {l:List (Int×Int×Int)} {ty:Int} {n:Nat} (h:Tra (g,ns++[(ty,List.replicate n 0)]) l y):Tra (g,ns) ((3,(ns.length:Int)+1,ty)::l) y
theorem Tra.app{x y z:Gm}{l l':List (Int×Int×Int)}(h:Tra x l y)(k:Tra y l' z):Tra x (l++l') z:=by
 induction h with
 | nil=>exact k
 | rd _ ih=>exact .rd (ih k)
 | wg hi _ ih=>exact .wg hi (ih k)
 | wf hk hi _ ih=>grind [wf]
 | al _ ih=>exact .al (ih k)
structure Gr (F n:Nat) (s s':St):Prop where
 ty:∀(i:Nat) x,s.ns[i]?=some x->∃y,s'.ns[i]?=some y/\y.1=x.1
 tk:s.tk<=s'.tk
 fu:s.tk<=F->s'.tk<=F
 lg:∃l,s'.lg=s.lg++l/\qKP s.ns.length l s'.ns.length/\((∀a∈l,a.1=1)->s'.g=s.g/\s'.ns=s.ns)
 w:s'.lg.length+s'.cm+4000*s.tk<=s.lg.length+s.cm+n+4000*s'.tk
 tr:∃l,s'.lg=s.lg++l/\Tra (s.g,s.ns) l (s'.g,s'.ns)
theorem Gr.refl(s:St):Gr F 0 s s:=⟨fun _ x h=>⟨x,h,rfl⟩,Nat.le_refl _,fun h=>h,⟨[],by simp,.nil _,fun _=>⟨rfl,rfl⟩⟩,by omega,⟨[],by simp,.nil _⟩⟩
theorem Gr.trans{n m:Nat}{a b c:St}(h:Gr F n a b)(k:Gr F m b c):Gr F (n+m) a c:=⟨fun i x hx=>by
 obtain⟨y,h1,h2⟩:=h.ty i x hx
 obtain⟨z,h3,h4⟩:=k.ty i y h1
 simp_all,Nat.le_trans h.tk k.tk,fun e=>k.fu (h.fu e),by
 obtain⟨l,e1,e2,e3⟩:=h.lg
 obtain⟨l',e1',e2',e3'⟩:=k.lg
 refine⟨l++l',by simp_all,e2.app e2',fun ha=>?_⟩
 simp_all,by have:=h.w;have:=k.w;omega,by
 obtain⟨l,e1,e2⟩:=h.tr
 obtain⟨l',e1',e2'⟩:=k.tr
 exact⟨l++l',by simp_all,e2.app e2'⟩⟩
theorem Gr.le{n m:Nat}{a b:St}(h:Gr F n a b)(hn:n<=m):Gr F m a b:=⟨h.ty,h.tk,h.fu,h.lg,by have:=h.w;omega,h.tr⟩
theorem Gr.len{n:Nat}{a b:St}(h:Gr F n a b):a.ns.length<=b.ns.length:=by
 cases hk:a.ns.length with
 | zero=>omega
 | succ k =>
  obtain⟨y,hy,-⟩:=h.ty k _ (List.getElem?_eq_getElem (by omega))
  grind
theorem qIh{s:St}{i:Nat}:s.mm.nodes[i]?=(s.ns[i]?).map fun n=>⟨n.1,qAL,n.2⟩:=List.getElem?_map ..
theorem mm_len{s:St}:s.mm.nodes.length=s.ns.length:=List.length_map ..
theorem qGq{m m':Mm}(hl:m.nodes.length<=m'.nodes.length)(hn:∀(i:Nat) x,m.nodes[i]?=some x->∃y,m'.nodes[i]?=some y/\y.ty=x.ty){t:ByteArray}{v:Int}(h:qAu d m t v=true):qAu d m' t v=true:=by
 unfold qAu at h ⊢
 split
 ·simp_all
 rename_i h1
 rw[if_neg h1]at h
 split
 ·simp_all
 rename_i h2
 rw[if_neg h2,decide_eq_true_eq]at h
 refine decide_eq_true ?_
 rcases h with h|⟨p1,p2,p3⟩
 ·exact .inl h
 ·refine .inr ⟨p1,by omega,?_⟩
  cases hx:m.nodes[(v-1).toNat]? with
  | none=>simp_all
  | some x =>
   rw[hx]at p3
   obtain⟨y,e1,e2⟩:=hn _ _ hx
   simp_all
theorem Gr.right{n:Nat}{a b:St}(h:Gr F n a b){t:ByteArray}{v:Int}(hr:qAu d a.mm t v=true):qAu d b.mm t v=true:=by
 refine qGq (m:=a.mm) (by rw[mm_len,mm_len];exact h.len) (fun i x hx=>?_) hr
 rw[qIh]at hx
 cases hy:a.ns[i]? with
 | none=>simp_all
 | some y =>
  rw[hy]at hx;cases hx
  obtain⟨z,e1,e2⟩:=h.ty i y hy
  simp_all [qAL,qIh]
theorem Gr.val{n:Nat}{a b:St}(h:Gr F n a b){t:ByteArray}{v:Int}(hr:qBI d a.mm t v):qBI d b.mm t v:=by
 unfold qBI at hr ⊢
 split
 ·simp_all
 ·rename_i h1;rw[if_neg h1]at hr;exact h.right hr
theorem qAC{m:Mm}{l:List Fld}{vs:List Int}:qAg d m l vs=true↔l.length=vs.length/\∀(j:Nat) f v,l[j]?=some f->vs[j]?=some v->qAu d m f.ty v=true:=by
 unfold qAg
 rw[Bool.and_eq_true,decide_eq_true_eq,qEP]
 grind [tyAt]
theorem qAk{m m':Mm}(hr:∀{t v},qAu d m t v=true->qAu d m' t v=true){l:List Fld}{vs:List Int}(h:qAg d m l vs=true):qAg d m' l vs=true:=by
 grind [qAC]
theorem qGi{m:Mm}{l:List Fld}{vs:List Int}(h:qAg d m l vs=true){i:Nat}{f:Fld}(hf:l[i]?=some f){v:Int}(hv:qAu d m f.ty v=true):qAg d m l (vs.set i v)=true:=by
 grind [qAC,List.length_set]
theorem qHV(hv:qAF d=true){m:Mm}{t:ByteArray}(h:qBx d t=true):qAu d m t 0=true:=by
 unfold qBx at h
 simp only[Bool.or_eq_true,decide_eq_true_eq]at h
 rcases h with (rfl|rfl) | h
 ·rfl
 ·rfl
 ·exact qJp (qEo hv h)
theorem qFd(hv:qAF d=true){m:Mm}{l:List Fld}(h:∀f∈l,qBx d f.ty=true):qAg d m l (List.replicate l.length 0)=true:=by
 grind [qAC,qHV,List.mem_of_getElem?]
theorem qEC{m:Mm}{l l':List Fld}{vs vs':List Int}(h:qAg d m l vs=true)(h':qAg d m l' vs'=true):qAg d m (l++l') (vs++vs')=true:=by
 grind [qAC,List.length_append,List.getElem?_append_left,List.getElem?_append_right]
theorem qFz{m:Mm}(h1:hasT d=true)(h2:m.nodes.length<=4096)(h3:∀n∈m.nodes,qEp d n=true)(h4:qAg d m d.globals m.globals=true)(h5:∀n∈m.nodes,qAg d m (qAq d n.ty) n.f=true):qAx d m=true:=by
 grind [qAx]
structure RxP {α:Type} (d:Ds) (F n:Nat) (s:St) (r:Rx α) (Q:α->St->Prop):Prop where
 good:qAz d r.st.mm
 gr:Gr F n s r.st
 q:∀v s',r=.ok v s'->Q v s'
section
variable{α β:Type}{n m:Nat}{s:St}{r:Rx α}{Q:α->St->Prop}
theorem RxP.ok{v:α}(G:qAz d s.mm)(h:Q v s):RxP d F 0 s (.ok v s) Q:=⟨G,Gr.refl s,fun _ _ e=>by cases e;exact h⟩
theorem RxP.bad{c:Int}(G:qAz d s.mm):RxP d F 0 s (.bad c s:Rx α) Q:=⟨G,Gr.refl s,fun _ _ e=>by cases e⟩
theorem RxP.le(h:RxP d F n s r Q)(hn:n<=m):RxP d F m s r Q:=⟨h.good,h.gr.le hn,h.q⟩
theorem RxP.mono{Q':α->St->Prop}(h:RxP d F n s r Q)(k:∀v s',r=.ok v s'->Q v s'->Q' v s'):RxP d F n s r Q':=⟨h.good,h.gr,fun v s' e=>k v s' e (h.q v s' e)⟩
theorem RxP.bind{f:α->St->Rx β}{Q':β->St->Prop}(h:RxP d F n s r Q)(k:∀v s',r=.ok v s'->Q v s'->qAz d s'.mm->Gr F n s s'->RxP d F m s' (f v s') Q'):RxP d F (n+m) s (r.bind f) Q':=by
 cases r with
 | ok v s' =>
  have H:=k v s' rfl (h.q v s' rfl) h.good h.gr
  exact⟨H.good,h.gr.trans H.gr,H.q⟩
 | bad c s'=>exact⟨h.good,h.gr.le (by omega),fun _ _ e=>by cases e⟩
end
section
variable{s:St}(G:qAz d s.mm)
include G
omit G in
theorem qKr{n:Nat}{r:Rs}{s':St}(G':qAz d s'.mm)(g:Gr F n s s'){Q:Int->St->Prop}(h:∀v,r=.ok v->Q v s'):RxP d F n s (liftR r s') Q:=by
 cases r with
 | ok v=>exact⟨G',g,fun _ _ e=>by cases e;exact h v rfl⟩
 | bad c=>exact⟨G',g,fun _ _ e=>by cases e⟩
theorem qHJ{p:Pr}{vals:List Int}(hv:qAg d s.mm p.vars vals=true)(P:∀f∈p.vars,qBx d f.ty=true){nm t:ByteArray}(hl:qCt (qAj d p).vars nm=t)(hne:t≠sE) :
  (∃(i:Nat) (f:Fld) (v:Int),qGe p.vars nm=i/\p.vars[i]?=some f/\vals[i]?=some v/\f.ty=t/\qBI d s.mm t v/\varX d p vals nm s=.ok v s) ∨
  ∃(i:Nat) (f:Fld) (v:Int),qGe p.vars nm=-1/\qGe d.globals nm=i/\d.globals[i]?=some f/\s.g[i]?=some v/\f.ty=t/\qBI d s.mm t v/\varX d p vals nm s=.ok v (s.note (1,0,i)):=by
 obtain⟨p1,-,-,p4,-⟩:=qAi G.mem
 have hl:qCt (p.vars++d.globals) nm=t:=hl
 have app:∀(a b:List Fld),qCt (a++b) nm=if 0<=qGe a nm then qCt a nm else qCt b nm:=fun a b=>by
  rw[qDv,qDv,qDv,List.find?_append]
  unfold qGe
  rcases qBh (fun f:Fld=>decide (f.name=nm)) a with⟨h1,h2,-⟩|⟨i,x,h1,-,h3,-⟩
  ·grind
  simp_all
 rw[app]at hl
 by_cases h0:0<=qGe p.vars nm
 ·left
  rw[if_pos h0]at hl
  rcases qEr p.vars nm with⟨c1,-⟩|⟨i,f,c1,c2,c3,-⟩
  ·simp_all
  ·obtain⟨v,hv1,hv2⟩:=qFy hv c2
   have e:f.ty=t:=c3.symm.trans hl
   refine⟨i,f,v,c1,c2,hv1,e,?_,?_⟩
   ·rw[<- e];exact(qBn G.valid (P f (List.mem_of_getElem? c2))).2 hv2
   grind [varX]
 ·right
  rw[if_neg h0]at hl
  rcases qEr d.globals nm with⟨c1,-⟩|⟨i,f,c1,c2,c3,-⟩
  ·simp_all
  ·obtain⟨v,hv1,hv2⟩:=qFy p4 c2
   have e:f.ty=t:=c3.symm.trans hl
   have hkn:qBx d f.ty=true:=List.all_eq_true.1 (qBy p1).1 f (List.mem_of_getElem? c2)
   refine⟨i,f,v,?_,c1,c2,hv1,e,?_,?_⟩
   ·rcases qEr p.vars nm with⟨-,c⟩|⟨j,_,c,-⟩
    ·exact c
    omega
   ·rw[<- e];exact(qBn G.valid hkn).2 hv2
   ·unfold varX;rw[if_neg h0,c1,Int.toNat_natCast]
    have hv1:s.g[i]?=some v:=hv1
    rw[hv1];rfl
theorem qHu{t nm ty:ByteArray}(ht:qCc d t nm=(ty,0)){a:Int}(ha:qBI d s.mm t a)(h0:a≠0) :
  ∃(q i j:Nat) (tt:Ty) (f:Fld) (fs:List Int) (v:Int),a=(q:Int)+1/\s.ns[q]?=some ((j:Int),fs)/\d.types[j]?=some tt/\tt∈d.types/\qAq d j=tt.fields/\qGe tt.fields nm=i/\tt.fields[i]?=some f/\fs[i]?=some v/\qBI d s.mm ty v/\f.ty=ty/\qBx d ty=true:=by
 obtain⟨n,i,j,tt,f,v,b1,-,b3,b4,b5,b6,b7,b8,b9,b10,b11,-,b13⟩:=fld_ok G ht ha h0
 obtain⟨q,rfl⟩:∃q:Nat,a=(q:Int)+1:=⟨(a-1).toNat,by omega⟩
 rw[show ((q:Int)+1-1).toNat=q by omega,qIh]at b1
 cases hx:s.ns[q]? with
 | none=>simp_all
 | some x =>
  rw[hx]at b1;cases b1
  obtain⟨p1,-⟩:=qAi G.mem
  have hkn:qBx d f.ty=true:=List.all_eq_true.1 ((qBy p1).2.2 tt b7) f (List.mem_of_getElem? b9)
  exact⟨q,i,j,tt,f,x.2,v,rfl,by rw[hx,<- b5],b6,b7,qBr b6 rfl,b8,b9,b10,b11,b13,b13 ▸ hkn⟩
omit G in
theorem gr_note{a f:Int}(h0:0<=a)(h1:a<=(s.ns.length:Int))(h2:0<=f):Gr F 1 s (s.note (1,a,f)):=⟨fun _ x h=>⟨x,h,rfl⟩,Nat.le_refl _,fun h=>h,⟨[(1,a,f)],rfl,.acc (.inl rfl) h0 h1 h2 (.nil _),fun _=>⟨rfl,rfl⟩⟩,by show (s.lg++[_]).length+_+_<=_;rw[List.length_append,List.length_singleton];show s.lg.length+1+s.cm+4000*s.tk<=s.lg.length+s.cm+1+4000*s.tk;omega,⟨[(1,a,f)],rfl,.rd (.nil _)⟩⟩
omit G in
theorem gr_cnt{b:Bool}{op:Int}:Gr F 1 s (cntX b op s):=by
 unfold cntX
 split
 ·exact⟨fun _ x h=>⟨x,h,rfl⟩,Nat.le_refl _,fun h=>h,⟨[],by simp,.nil _,fun _=>⟨rfl,rfl⟩⟩,by grind,⟨[],by simp,.nil _⟩⟩
 ·exact(Gr.refl s).le (by omega)
theorem qKy{b:Bool}{op:Int}:qAz d (cntX b op s).mm:=by
 unfold cntX
 split
 ·exact⟨G.valid,G.chk,G.mem⟩
 ·exact G
theorem new_snd{nm:ByteArray}(hn:qBm d nm=true):RxP d F 1 s (newX d nm s) fun v s'=>qBI d s'.mm nm v:=by
 unfold newX
 split
 ·exact(RxP.bad G).le (by omega)
 rename_i hlen
 obtain⟨p1,p2,p3,p4,p5⟩:=qAi G.mem
 have hname:=qEo G.valid hn
 obtain⟨tt,htm,hte⟩:=List.any_eq_true.1 hn
 have hte:tt.name=nm:=of_decide_eq_true hte
 obtain⟨j,hj⟩:=List.mem_iff_getElem?.1 htm
 have hidx:qDQ d nm=(j:Int):=hte ▸ (qBy p1).2.1 j tt hj
 have hjl:=(List.getElem?_eq_some_iff.1 hj).1
 rw[hidx]
 have hfo:qAq d (j:Int)=tt.fields:=qBr hj rfl
 rw[hfo]
 obtain⟨s',hs'⟩:∃s':St,s'={ s with ns:=s.ns++[((j:Int),List.replicate tt.fields.length 0)],lg:=s.lg++[(3,(s.ns.length:Int)+1,(j:Int))] }:=⟨_,rfl⟩
 rw[<- hs']
 have g:Gr F 1 s s':=by
  rw[hs']
  refine⟨fun i x hx=>⟨x,?_,rfl⟩,Nat.le_refl _,fun h=>h,⟨[_],rfl,.alloc (by omega) ?_,fun h=>(by simp_all)⟩,?_,⟨[_],rfl,.al (.nil _)⟩⟩
  ·grind
  ·grind [qKP,List.length_append,List.length_singleton]
  grind
 have hnodes:s'.mm.nodes=s.mm.nodes++[⟨(j:Int),qAL,List.replicate tt.fields.length 0⟩]:=by rw[hs'];simp[St.mm]
 have G':qAz d s'.mm:=by
  refine⟨G.valid,G.chk,qFz p1 ?_ (fun n hm=>?_) ?_ fun n hm=>?_⟩
  ·grind [List.length_append,List.length_singleton,mm_len]
  ·rw[hnodes]at hm
   rcases List.mem_append.1 hm with hm|hm
   ·exact p3 n hm
   ·rw[List.mem_singleton.1 hm];exact decide_eq_true ⟨by simp_all,by simp_all⟩
  ·have:s'.mm.globals=s.mm.globals:=by rw[hs'];rfl
   rw[this];exact qAk (fun h=>g.right h) p4
  ·rw[hnodes]at hm
   rcases List.mem_append.1 hm with hm|hm
   ·exact qAk (fun h=>g.right h) (p5 n hm)
   ·rw[List.mem_singleton.1 hm]
    show qAg d s'.mm (qAq d (j:Int)) (List.replicate tt.fields.length 0)=true
    rw[hfo]
    exact qFd G.valid fun f hf=>List.all_eq_true.1 ((qBy p1).2.2 tt htm) f hf
 refine⟨G',g,fun v s2 e=>?_⟩
 cases e
 unfold qBI qAu
 rw[if_neg (qDM hname kwNil),if_neg (qDM hname kwInt),if_neg (qDM hname kwBool),decide_eq_true_eq]
 grind [inr,List.length_append,List.length_singleton,mm_len,Int,List.getElem?_concat_length]
end
def CSnd(d:Ds)(F:Nat)(C:Cf):Prop:=∀(i:Nat) pr args s,d.procs[i]?=some pr->qAz d s.mm->qAg d s.mm pr.params args=true->RxP d F 0 s (C i args s) fun v s'=>pr.result≠sE->qBI d s'.mm pr.result v
theorem szEs_sum:∀l:List E,szEs l=(l.map szE).sum
 | []=>by unfold szEs;rfl
 | e::l=>by unfold szEs;rw[szEs_sum l];rfl
theorem szE_eq(e:E):szE e=1+(e.k.map szE).sum:=by cases e;unfold szE;rw[szEs_sum];rfl
theorem seq_snd{sc:Sc}{f:E->St->Rx Int}:∀(k:List E) (fs:List Fld) (acc:List Int) (gs:List Fld) (s:St),qAz d s.mm->qAg d s.mm gs acc=true->k.length=fs.length->(∀f∈fs,qBx d f.ty=true) ->
  (∀(j:Nat) a g,k[j]?=some a->fs[j]?=some g->∃u,qAo d sc a=(u,0)/\qEb d u g.ty=true) ->
  (∀a∈k,∀(u:ByteArray) (s1:St) (n:Nat),qAo d sc a=(u,0)->qAz d s1.mm->Gr F n s s1->RxP d F (szE a) s1 (f a s1) fun v s'=>qBI d s'.mm u v) ->
  RxP d F (k.map szE).sum s (seqX (k.map f) acc s) fun l s'=>qAg d s'.mm (gs++fs) l=true
 | [],fs,acc,gs,s,G,ha,hl,_,_,_=>by
  obtain rfl:fs=[]:=List.eq_nil_of_length_eq_zero (by grind)
  rw[List.append_nil]
  exact RxP.ok G ha
 | a::k,fs,acc,gs,s,G,ha,hl,hkn,ht,H=>by
  cases fs with
  | nil=>simp at hl
  | cons g fs =>
   obtain⟨u,hu,hfit⟩:=ht 0 a g rfl rfl
   have h1:=H a List.mem_cons_self u s 0 hu G (Gr.refl s)
   rw[List.map_cons,List.map_cons,List.sum_cons]
   show RxP d F _ s ((f a s).bind fun v st=>seqX (k.map f) (acc++[v]) st) _
   refine h1.bind fun v s1 _ hv G1 g1=>?_
   have hv':=(qBn G.valid (hkn g List.mem_cons_self)).1 (qCf G.valid hfit hv)
   have ha1:qAg d s1.mm (gs++[g]) (acc++[v])=true:=qEC (qAk (fun h=>g1.right h) ha) (qAC.2 ⟨rfl,fun j f w hf hw=>by
    grind⟩)
   have:=seq_snd k fs (acc++[v]) (gs++[g]) s1 G1 ha1 (by simpa using hl) (fun f hf=>hkn f (List.mem_cons_of_mem _ hf)) (fun j a g ha hg=>ht (j+1) a g (by simpa using ha) (by simpa using hg)) (fun b hb u s2 n hu G2 g2=>H b (List.mem_cons_of_mem _ hb) u s2 _ hu G2 (g1.trans g2))
   simp_all
theorem qEi(hp:∀p∈d.procs,qCT d p){i:Nat}{pr:Pr}(h:d.procs[i]?=some pr):∀f∈pr.params,qBx d f.ty=true:=fun f hf=>(hp pr (List.mem_of_getElem? h)).vars f (List.mem_append_left _ hf)
theorem ev_snd(hp:∀p∈d.procs,qCT d p){C:Cf}(hC:CSnd d F C){p:Pr}(hpo:qCT d p){vals:List Int} :
  ∀(e:E) (t:ByteArray) (s:St),VE e->qAo d (qAj d p) e=(t,0)->qAz d s.mm->qAg d s.mm p.vars vals=true->RxP d F (szE e) s (evX d C p vals e s) fun v s'=>qBI d s'.mm t v:=by
 intro e
 induction e using E.ind with
 | h e ih =>
 intro t s hv ht G hvals
 rw[evX_eq,szE_eq]
 have I:∀{a:E} {u:ByteArray} {s1:St} {n:Nat},a∈e.k->qAo d (qAj d p) a=(u,0)->qAz d s1.mm->Gr F n s s1->RxP d F (szE a) s1 (evX d C p vals a s1) fun v s'=>qBI d s'.mm u v:=fun hm ha G1 g1=>ih _ hm _ _ (hv.kids _ hm) ha G1 (qAk (fun h=>g1.right h) hvals)
 have K:∀{i:Nat} {a:E},e.k[i]?=some a->qFv (e.k.map (evX d C p vals)) i=evX d C p vals a:=fun h=>kidX_at h
 have b0:∀{v:Int},v=0∨v=1->qBI d s.mm qAw v:=fun h=>qAT.2 h
 cases kindX (sc:=qAj d p) rfl hv ht with
 | int h hn=>rw[cX1 (.inl h)];exact(RxP.ok G (qBv.2 (by omega))).le (by omega)
 | bool h hn=>rw[cX1 (.inr h)];exact(RxP.ok G (qAT.2 (by omega))).le (by omega)
 | nil h hn=>rw[cX3 h];exact(RxP.ok G (by rfl)).le (by omega)
 | var h hl hne =>
  rw[cX4 h]
  rcases qHJ G hvals hpo.vars hl hne with⟨i,f,v,-,-,-,-,h5,h6⟩|⟨i,f,v,-,-,-,-,-,h5,h6⟩
  ·rw[h6];exact(RxP.ok G h5).le (by omega)
  ·rw[h6];exact⟨⟨G.valid,G.chk,G.mem⟩,(gr_note (by omega) (by omega) (by omega)).le (by omega),fun _ _ e=>by cases e;exact h5⟩
 | @fld _ u a h hk ha hf =>
  rw[cX5 h,K (i:=0) (by rw[hk];rfl),hk]
  refine((I (by rw[hk];simp) ha G (Gr.refl s)).bind (m:=1) fun v s1 _ hv1 G1 g1=>?_).le (by simp <;> omega)
  unfold fldX
  by_cases h0:v=0
  ·rw[if_pos h0];exact(RxP.bad G1).le (by omega)
  ·rw[if_neg h0]
   obtain⟨q,i,j,tt,f,fs,w,rfl,h2,h3,-,h5,h6,h7,h8,h9,-⟩:=qHu G1 hf hv1 h0
   rw[show ((q:Int)+1-1).toNat=q by omega,h2]
   simp only
   rw[h5,h6,Int.toNat_natCast,h8]
   exact⟨⟨G1.valid,G1.chk,G1.mem⟩,gr_note (by omega) (by grind) (by omega),fun _ _ e=>by cases e;exact h9⟩
 | new h hn=>rw[cX6 h];exact(new_snd G hn).le (by omega)
 | @call pr i h hc hr =>
  rw[cX7 h,hc.idx]
  refine((seq_snd e.k pr.params [] [] s G (qAC.2 ⟨rfl,fun j f v h=>by simp at h⟩) hc.len (qEi hp hc.at_) hc.fit (fun a hm u s1 n hu G1 g1=>I hm hu G1 g1)).bind (m:=0) fun l s1 _ hl G1 g1=>?_).le (by omega)
  exact(hC i pr l s1 hc.at_ G1 hl).mono fun v s' _ h=>h hr
 | @neg a h hk ha =>
  rw[cX8 h,K (i:=0) (by rw[hk];rfl),hk]
  refine((I (by rw[hk];simp) ha G (Gr.refl s)).bind (m:=0) fun v s1 _ hv1 G1 g1=>qKr G1 (Gr.refl s1) fun w hw=>qBv.2 (big_ok hw).2).le (by simp <;> omega)
 | @not a h hk ha =>
  rw[cX18 h,K (i:=0) (by rw[hk];rfl),hk]
  refine((I (by rw[hk];simp) ha G (Gr.refl s)).bind (m:=0) fun v s1 _ hv1 G1 g1=>RxP.ok G1 ?_).le (by simp <;> omega)
  grind [qAT]
 | @log a h hk ha =>
  rw[cX24 h,K (i:=0) (by rw[hk];rfl),hk]
  refine((I (by rw[hk];simp) ha G (Gr.refl s)).bind (m:=0) fun v s1 _ hv1 G1 g1=>RxP.ok G1 ?_).le (by simp <;> omega)
  have:=log_in (a:=v) (qBv.1 hv1).2
  exact qBv.2 (by omega)
 | @and a b h hk ha hb =>
  rw[cX19 h,K (i:=0) (by rw[hk];rfl),K (i:=1) (by rw[hk];rfl)]
  refine((I (by rw[hk];simp) ha G (Gr.refl s)).bind (m:=szE b) fun v s1 _ hv1 G1 g1=>?_).le (by simp_all)
  split
  ·exact(RxP.ok G1 (qAT.2 (.inl rfl))).le (by omega)
  grind
 | @or a b h hk ha hb =>
  rw[cX20 h,K (i:=0) (by rw[hk];rfl),K (i:=1) (by rw[hk];rfl)]
  refine((I (by rw[hk];simp) ha G (Gr.refl s)).bind (m:=szE b) fun v s1 _ hv1 G1 g1=>?_).le (by simp_all)
  split
  ·grind
  ·exact(RxP.ok G1 (qAT.2 (.inr rfl))).le (by omega)
 | @cond a b c _ u w h hk ha hb hc hu hw _ =>
  rw[cX21 h,K (i:=0) (by rw[hk];rfl),K (i:=1) (by rw[hk];rfl),K (i:=2) (by rw[hk];rfl)]
  refine((I (by rw[hk];simp) ha G (Gr.refl s)).bind (m:=szE b+szE c) fun v s1 _ hv1 G1 g1=>?_).le (by simp_all)
  split
  ·exact((I (by rw[hk];simp) hc G1 g1).mono fun v s' _ h=>by
    rcases hw with rfl|hw
    ·exact h
    ·exact qCf G.valid hw h).le (by omega)
  ·exact((I (by rw[hk];simp) hb G1 g1).mono fun v s' _ h=>by
    rcases hu with rfl|hu
    ·exact h
    ·exact qCf G.valid hu h).le (by omega)
 | @eq a b u w h hk ha hb _ =>
  rw[cXTwo (by omega),K (i:=0) (by rw[hk];rfl),K (i:=1) (by rw[hk];rfl)]
  refine((I (by rw[hk];simp) ha G (Gr.refl s)).bind (m:=szE b+1) fun v s1 _ hv1 G1 g1=>(I (by rw[hk];simp) hb G1 g1).bind (m:=1) fun z s2 _ hv2 G2 g2=>qKr (qKy G2) gr_cnt fun x hx=>qAT.2 (twoB_ok (by omega) hx)).le (by grind)
 | @cmp a b h hk ha hb =>
  rw[cXTwo (by omega),K (i:=0) (by rw[hk];rfl),K (i:=1) (by rw[hk];rfl)]
  refine((I (by rw[hk];simp) ha G (Gr.refl s)).bind (m:=szE b+1) fun v s1 _ hv1 G1 g1=>(I (by rw[hk];simp) hb G1 g1).bind (m:=1) fun z s2 _ hv2 G2 g2=>qKr (qKy G2) gr_cnt fun x hx=>qAT.2 (twoB_ok (by omega) hx)).le (by grind)
 | @ari a b h hk ha hb =>
  rw[cXTwo (by omega),K (i:=0) (by rw[hk];rfl),K (i:=1) (by rw[hk];rfl)]
  refine((I (by rw[hk];simp) ha G (Gr.refl s)).bind (m:=szE b+1) fun v s1 _ hv1 G1 g1=>(I (by rw[hk];simp) hb G1 g1).bind (m:=1) fun z s2 _ hv2 G2 g2=>qKr (qKy G2) gr_cnt fun x hx=>qBv.2 (two_ok h (qBv.1 hv1) (qBv.1 hv2) hx)).le (by grind)
end
end Go.Proofs
namespace Go.Proofs
open Go Go.Sx
section
variable{d:Ds}{F:Nat}
theorem qCe{e:E}(h:qAM e=true):VE e/\szE e<=1000:=⟨VE.of_valid h,(of_decide_eq_true h).2⟩
def RtOk(d:Ds)(p:Pr)(r:Rt)(s:St):Prop:=qAg d s.mm p.vars r.1=true/\∀v,r.2=some v->p.result≠sE->qBI d s.mm p.result v
def SSnd(d:Ds)(F:Nat)(Sn:Sf):Prop:=∀c p l vals s,qCT d p->(∀x∈l,TyS d p x)->qAz d s.mm->qAg d s.mm p.vars vals=true->RxP d F 0 s (Sn c p l vals s) fun r s'=>RtOk d p r s'
theorem qEO(hp:∀p∈d.procs,qCT d p){Sn:Sf}(hS:SSnd d F Sn)(c:Nat):CSnd d F (qDW d Sn c):=by
 intro i pr args s hpr G ha
 unfold qDW
 split
 ·exact RxP.bad G
 rw[Int.toNat_natCast,hpr]
 simp only
 have hpo:=hp pr (List.mem_of_getElem? hpr)
 refine(hS (c+1) pr pr.body _ s hpo hpo.body G (qEC ha (qFd G.valid fun f hf=>hpo.vars f (List.mem_append_right _ hf)))).bind (m:=0) fun r s1 _ hr G1 g1=>RxP.ok G1 fun hne=>?_
 cases h:r.2 with
 | some v=>exact hr.2 v h hne
 | none =>
  have hk:=hpo.res.resolve_left hne
  exact(qBn G.valid hk).2 (qHV G.valid hk)
theorem Gr.tick{n:Nat}{s s':St}(h:Gr F n { s with tk:=s.tk+1 } s')(hn:n<=4000)(hF:s.tk<F):Gr F 0 s s' :=
 ⟨h.ty,Nat.le_trans (Nat.le_succ _) h.tk,fun _=>h.fu hF,h.lg,by have h:=h.w;grind,h.tr⟩
theorem RxP.tick{α:Type}{n:Nat}{s:St}{f:Unit->St->Rx α}{Q:α->St->Prop}(G:qAz d s.mm)(h:qAz d ({ s with tk:=s.tk+1 }:St).mm->RxP d F n { s with tk:=s.tk+1 } (f () { s with tk:=s.tk+1 }) Q)(hn:n<=4000):RxP d F 0 s ((qJO F s).bind f) Q:=by
 unfold qJO
 split
 ·exact RxP.bad G
 ·rename_i hlt
  have H:=h ⟨G.valid,G.chk,G.mem⟩
  exact⟨H.good,H.gr.tick hn (by omega),H.q⟩
section
variable{Sn:Sf}{c:Nat}{p:Pr}(hp:∀p∈d.procs,qCT d p)(hS:SSnd d F Sn)(hpo:qCT d p)
include hp hS hpo
theorem qFo{vals:List Int}{e:E}{t:ByteArray}{s:St}(hv:qAM e=true)(ht:qAo d (qAj d p) e=(t,0))(G:qAz d s.mm)(hvals:qAg d s.mm p.vars vals=true):RxP d F 1000 s (evS d Sn c p vals e s) fun v s'=>qBI d s'.mm t v :=
 (ev_snd hp (qEO hp hS c) hpo e t s (qCe hv).1 ht G hvals).le (qCe hv).2
theorem wh_snd{cond:E}{body:List S}(hv:qAM cond=true)(ht:qAo d (qAj d p) cond=(qAw,0))(hb:∀x∈body,TyS d p x):∀(n:Nat) (vals:List Int) (s:St),qAz d s.mm->qAg d s.mm p.vars vals=true->RxP d F 1000 s (whX d F Sn c p cond body n vals s) fun r s'=>RtOk d p r s'
 | 0,vals,s,G,_=>by unfold whX;exact(RxP.bad G).le (by omega)
 | n+1,vals,s,G,hvals=>by
  rw[whX]
  refine((qFo hp hS hpo hv ht G hvals).bind (m:=0) fun v s1 _ _ G1 g1=>?_).le (by omega)
  have v1:=qAk (fun h=>g1.right h) hvals
  split
  ·exact RxP.ok G1 ⟨v1,fun _ h=>by cases h⟩
  ·refine((hS c p body vals s1 hpo hb G1 v1).bind (m:=0) fun r s2 _ hr G2 g2=>?_).le (by omega)
   split
   ·exact RxP.ok G2 hr
   ·exact RxP.tick (n:=1000) G2 (fun G3=>wh_snd hv ht hb n r.1 _ G3 hr.1) (by omega)
theorem body_snd{n:Nat}{x:S}(hx:TyS d p x){vals:List Int}{s:St}(G:qAz d s.mm)(hvals:qAg d s.mm p.vars vals=true):RxP d F 2001 s (bodyX d F Sn c p n x vals s) fun r s'=>RtOk d p r s':=by
 unfold bodyX
 obtain⟨p1,p2,p3,p4,p5⟩:=qAi G.mem
 cases kindS hx with
 | @set e u t h he hv ht hl hne hf =>
  rw[if_pos h,he,List.getD_cons_zero]
  refine((qFo hp hS hpo hv ht G hvals).bind (m:=1) fun v s1 _ hv1 G1 g1=>?_).le (by omega)
  have v1:=qAk (fun h=>g1.right h) hvals
  have hv2:=qCf G.valid hf hv1
  unfold setX
  rcases qHJ G1 v1 hpo.vars hl hne with⟨i,f,w,q1,q2,q3,q4,-⟩|⟨i,f,w,q0,q1,q2,q3,q4,-⟩
  ·rw[if_pos (by omega),q1,Int.toNat_natCast]
   have hr:qAu d s1.mm f.ty v=true:=(qBn G.valid (hpo.vars f (List.mem_of_getElem? q2))).1 (q4 ▸ hv2)
   exact(RxP.ok G1 ⟨qGi v1 q2 hr,fun _ h=>by cases h⟩).le (by omega)
  ·rw[if_neg (by omega),q1,Int.toNat_natCast]
   obtain⟨o1,o2,o3,o4,o5⟩:=qAi G1.mem
   have hr:qAu d s1.mm f.ty v=true:=(qBn G.valid (List.all_eq_true.1 (qBy o1).1 f (List.mem_of_getElem? q2))).1 (q4 ▸ hv2)
   have G2:qAz d ({ s1 with g:=s1.g.set i v,lg:=s1.lg++[(2,0,(i:Int))] }:St).mm:=⟨G.valid,G.chk,qFz o1 o2 o3 (qGi (m:=s1.mm) (vs:=s1.g) o4 q2 hr) o5⟩
   exact⟨G2,⟨fun _ x h=>⟨x,h,rfl⟩,Nat.le_refl _,fun h=>h,⟨[_],rfl,.acc (.inr rfl) (by omega) (by omega) (by omega) (.nil _),fun h=>(by simp_all)⟩,by show (s1.lg++[_]).length+_+_<=_;rw[List.length_append,List.length_singleton];show s1.lg.length+1+s1.cm+4000*s1.tk<=s1.lg.length+s1.cm+1+4000*s1.tk;omega,⟨[_],rfl,.wg (List.getElem?_eq_some_iff.1 q3).1 (.nil _)⟩⟩,fun _ _ e=>by cases e;exact⟨v1,fun _ h=>by cases h⟩⟩
 | @put a e u w t h he hv hw ha ht hl hf =>
  rw[if_neg (by omega),if_pos h,he,List.getD_cons_zero,List.getD_cons_succ,List.getD_cons_zero]
  refine((qFo hp hS hpo hv ha G hvals).bind (m:=1001) fun x1 s1 _ hv1 G1 g1=>?_).le (by omega)
  have v1:=qAk (fun h=>g1.right h) hvals
  refine((qFo hp hS hpo hw ht G1 v1).bind (m:=1) fun x2 s2 _ hv2 G2 g2=>?_).le (by omega)
  have v2:=qAk (fun h=>g2.right h) v1
  have ha2:=g2.val hv1
  unfold putX
  by_cases h0:x1=0
  ·rw[if_pos h0];exact(RxP.bad G2).le (by omega)
  rw[if_neg h0]
  obtain⟨q,i,j,tt,f,fs,y,rfl,e2,e3,e4,e5,e6,e7,e8,e9,e10,e11⟩:=qHu G2 hl ha2 h0
  rw[show ((q:Int)+1-1).toNat=q by omega,e2]
  simp only
  rw[e5,e6,Int.toNat_natCast]
  obtain⟨o1,o2,o3,o4,o5⟩:=qAi G2.mem
  have hr:qAu d s2.mm f.ty x2=true:=(qBn G.valid (e10 ▸ e11)).1 (e10 ▸ qCf G.valid hf hv2)
  have hql:=(List.getElem?_eq_some_iff.1 e2).1
  obtain⟨s3,hs3⟩:∃s3:St,s3={ s2 with ns:=s2.ns.set q ((j:Int),fs.set i x2),lg:=s2.lg++[(2,(q:Int)+1,(i:Int))] }:=⟨_,rfl⟩
  have g3:Gr F 1 s2 s3:=by
   rw[hs3]
   refine⟨fun k x hk=>?_,Nat.le_refl _,fun h=>h,⟨[_],rfl,.acc (.inr rfl) (by omega) (by omega) (by omega) ?_,fun h=>(by simp_all)⟩,?_,⟨[_],rfl,.wf e2 (List.getElem?_eq_some_iff.1 e8).1 (.nil _)⟩⟩
   ·grind
   ·grind [qKP,List.length_set]
   grind
  have hn3:s3.mm.nodes=s2.mm.nodes.set q ⟨(j:Int),qAL,fs.set i x2⟩:=by rw[hs3];simp[St.mm,List.map_set]
  have G3:qAz d s3.mm:=by
   refine⟨G.valid,G.chk,qFz o1 ?_ (fun n hm=>?_) ?_ fun n hm=>?_⟩
   ·simp_all
   ·rw[hn3]at hm
    rcases List.mem_or_eq_of_mem_set hm with hm|rfl
    ·exact o3 n hm
    ·exact o3 (⟨(j:Int),qAL,fs⟩) (List.mem_of_getElem? (i:=q) (by rw[qIh,e2];rfl))
   ·have:s3.mm.globals=s2.mm.globals:=by rw[hs3];rfl
    rw[this];exact qAk (fun h=>g3.right h) o4
   ·rw[hn3]at hm
    rcases List.mem_or_eq_of_mem_set hm with hm|rfl
    ·exact qAk (fun h=>g3.right h) (o5 n hm)
    ·have:=o5 (⟨(j:Int),qAL,fs⟩) (List.mem_of_getElem? (i:=q) (by rw[qIh,e2];rfl))
     have this:qAg d s2.mm (qAq d (j:Int)) fs=true:=this
     show qAg d s3.mm (qAq d (j:Int)) (fs.set i x2)=true
     rw[e5]at this ⊢
     exact qAk (fun h=>g3.right h) (qGi this e7 hr)
  rw[<- hs3]
  exact⟨G3,g3,fun _ _ e=>by cases e;exact⟨qAk (fun h=>g3.right h) v2,fun _ h=>by cases h⟩⟩
 | @cond e h he hv ht =>
  rw[if_neg (by omega),if_neg (by omega),if_pos h,he,List.getD_cons_zero]
  refine((qFo hp hS hpo hv ht G hvals).bind (m:=0) fun v s1 _ hv1 G1 g1=>?_).le (by omega)
  have v1:=qAk (fun h=>g1.right h) hvals
  obtain⟨-,-,-,hl,hx⟩:=hx.parts
  split
  ·exact hS c p _ vals s1 hpo hx G1 v1
  ·exact hS c p _ vals s1 hpo hl G1 v1
 | @loop e h he hv ht =>
  rw[if_neg (by omega),if_neg (by omega),if_neg (by omega),if_pos h,he,List.getD_cons_zero]
  exact(wh_snd hp hS hpo hv ht hx.parts.2.2.2.1 n vals s G hvals).le (by omega)
 | ret0 h he hr =>
  rw[if_neg (by omega),if_neg (by omega),if_neg (by omega),if_neg (by omega),if_pos h,he]
  exact(RxP.ok G ⟨hvals,fun _ _ k=>absurd hr k⟩).le (by omega)
 | @ret1 e u h he hv ht hr hf =>
  rw[if_neg (by omega),if_neg (by omega),if_neg (by omega),if_neg (by omega),if_pos h,he]
  refine((qFo hp hS hpo hv ht G hvals).bind (m:=0) fun v s1 _ hv1 G1 g1=>?_).le (by omega)
  exact RxP.ok G1 ⟨qAk (fun h=>g1.right h) hvals,fun w h _=>by cases h;exact qCf G.valid hf hv1⟩
 | @call e pr i h he hv ho hc =>
  rw[if_neg (by omega),if_neg (by omega),if_neg (by omega),if_neg (by omega),if_neg (by omega),if_pos h,he,List.getD_cons_zero]
  unfold evS
  rw[evX_eq,cX7 ho,hc.idx]
  have hV:=(qCe hv).1
  have hsz:=(qCe hv).2
  rw[szE_eq]at hsz
  refine(((seq_snd e.k pr.params [] [] s G (qAC.2 ⟨rfl,fun j f v h=>by simp at h⟩) hc.len (qEi hp hc.at_) hc.fit (fun a hm u s1 n hu G1 g1=>ev_snd hp (qEO hp hS c) hpo a u s1 (hV.kids a hm) hu G1 (qAk (fun h=>g1.right h) hvals))).bind (m:=0) fun l s1 _ hl G1 g1=>?_).bind (m:=0) (Q:=fun _ s'=>qAg d s'.mm p.vars vals=true) fun _ s2 _ hq G2 g2=>RxP.ok G2 ⟨hq,fun _ h=>by cases h⟩).le (by omega)
  have R:=qEO hp hS c i pr l s1 hc.at_ G1 hl
  refine⟨R.good,R.gr,fun v s2 e=>?_⟩
  have:=qAk (fun h=>R.gr.right h) (qAk (fun h=>g1.right h) hvals)
  rw[e]at this
  exact this
theorem st_snd{n:Nat}{x:S}(hx:TyS d p x){vals:List Int}{s:St}(G:qAz d s.mm)(hvals:qAg d s.mm p.vars vals=true):RxP d F 0 s (stX d F Sn c p n x vals s) fun r s'=>RtOk d p r s':=by
 unfold stX
 exact RxP.tick (n:=2001) G (fun G1=>body_snd hp hS hpo hx G1 hvals) (by omega)
end
theorem list_snd{p:Pr}{f:S->List Int->St->Rx Rt}:∀(l:List S) (vals:List Int) (s:St),(∀x∈l,∀vals s,qAz d s.mm->qAg d s.mm p.vars vals=true->RxP d F 0 s (f x vals s) fun r s'=>RtOk d p r s')->qAz d s.mm->qAg d s.mm p.vars vals=true->RxP d F 0 s (qGy f l vals s) fun r s'=>RtOk d p r s'
 | [],vals,s,_,G,hv=>by unfold qGy;exact RxP.ok G ⟨hv,fun _ h=>by cases h⟩
 | x::l,vals,s,H,G,hv=>by
  rw[qGy]
  refine(H x List.mem_cons_self vals s G hv).bind (m:=0) fun r s1 _ hr G1 g1=>?_
  split
  ·exact RxP.ok G1 hr
  ·exact list_snd l r.1 s1 (fun y hy=>H y (List.mem_cons_of_mem _ hy)) G1 hr.1
theorem qGl(hp:∀p∈d.procs,qCT d p):∀n,SSnd d F (qFB d F n)
 | 0=>fun _ _ _ _ _ _ _ G _=>RxP.bad G
 | n+1=>fun c p l vals s hpo hl G hv=>list_snd l vals s (fun _ hx _ _ G hv=>st_snd hp (qGl hp n) hpo (hl _ hx) G hv) G hv
theorem play_snd(hp:∀p∈d.procs,qCT d p){i:Nat}{pr:Pr}{args:List Int}{s:St}(h:d.procs[i]?=some pr)(G:qAz d s.mm)(ha:qAg d s.mm pr.params args=true):RxP d F 0 s (qBM d F i args s) fun v s'=>pr.result≠sE->qBI d s'.mm pr.result v :=
 qEO hp (qGl hp (F+1)) 0 i pr args s h G ha
end
end Go.Proofs
namespace Go.Sx
open Go
open Classical
section
variable{P:Program}{V0 V1 V:Mem}{e:TypeId}{sz:Nat}{s:Sl}{vs:List Value}
def Blk(s:Sl)(c:Nat):Prop:=s.c≠0/\s.p=some ⟨c,0,none⟩
noncomputable def Mem.but(V:Mem)(s:Sl):Mem:=fun c=>if Blk s c then none else V c
theorem Mem.but_sub(V:Mem)(s:Sl):(V.but s).sub V:=fun c o h=>by
 grind [Mem.but]
theorem Mem.but_at{c:Nat}{o:Obj}(h:V c=some o)(hn:¬Blk s c):V.but s c=some o:=by
 grind [Mem.but]
theorem Own.cases0(h:Own V0 V e sz s vs):(s.n=0/\s.c=0/\vs=[])∨(s.c≠0/\∃g cur,s.p=some ⟨g,0,none⟩/\V0 g=none/\V g=some (.cells cur e (0,0))/\s.n<=s.c/\s.c<=maxLen/\cur.size=s.c*sz/\cur.toList.take (s.n*sz)=vs):=by
 rcases h.at_ with h1|⟨g,cur,h1,h2,h3,h4,h5⟩
 ·exact .inl h1
 ·by_cases hc:s.c=0
  ·simp_all
  simp_all
theorem Own.but(h:Own V0 V e sz s vs):Own (V.but s) V e sz s vs:=by
 refine⟨Mem.but_sub V s,h.len,?_⟩
 rcases h.cases0 with h1|⟨hc,g,cur,h1,h2,h3⟩
 ·exact .inl h1
 ·refine .inr ⟨g,cur,h1,?_,h3⟩
  unfold Mem.but
  rw[if_pos ⟨hc,h1⟩]
theorem Own.apart(h:Own V0 V e sz s vs){c:Nat}(hc:∀cur,V c≠some (.cells cur e (0,0))):¬Blk s c:=by
 rintro ⟨h0,hp⟩
 rcases h.cases0 with⟨-,h1,-⟩|⟨-,g,cur,h1,h2,h3,-⟩
 ·exact h0 h1
 simp_all
theorem Own.apart0(h:Own V0 V e sz s vs){c:Nat}{o:Obj}(hc:V0 c=some o):¬Blk s c:=by
 rintro ⟨h0,hp⟩
 rcases h.cases0 with⟨-,h1,-⟩|⟨-,g,cur,h1,h2,-⟩
 ·exact h0 h1
 simp_all
theorem Own.sub_but(h:Own V0 V e sz s vs):V0.sub (V.but s):=fun _ _ hc=>Mem.but_at (h.sub _ _ hc) (h.apart0 hc)
theorem Own.narrow(h:Own V1 V e sz s vs)(hs:V0.sub V1):Own V0 V e sz s vs:=⟨hs.trans h.sub,h.len,by
 rcases h.at_ with h1|⟨g,cur,h1,h2,h3⟩
 ·exact .inl h1
 ·refine .inr ⟨g,cur,h1,?_,h3⟩
  cases hg:V0 g with
  | none=>rfl
  | some o=>rw[hs _ _ hg]at h2;cases h2⟩
theorem Own.put(h:Own V0 V e sz s vs){c:Nat}(hn:¬Blk s c)(h0:V0 c=none)(o:Obj):Own V0 (V.set c o) e sz s vs:=⟨h.sub.set h0 o,h.len,by
 rcases h.cases0 with h1|⟨hc,g,cur,h1,h2,h3,h4⟩
 ·exact .inl h1
 ·refine .inr ⟨g,cur,h1,h2,?_,h4⟩
  rw[Mem.set_ne fun e=>hn ⟨hc,by simp_all⟩];exact h3⟩
theorem qIy(k:Int):∀(es:List MapEntry) (i:Nat),(∀e∈es,∃n,e.key=.int .i64 n) ->
  Instr.findNow (.int .i64) (.int .i64 k) es i=some ((es.findIdx? fun e=>decide (e.key=.int .i64 k)).bind fun j=>(es[j]?).map fun e=>(i+j,e.val))
 | [],_,_=>rfl
 | e::es,i,h=>by
  obtain⟨s,hs⟩:=h e (by simp)
  have ih:=qIy k es (i+1) fun x hx=>h x (by simp[hx])
  unfold Instr.findNow
  simp only[hs,Instr.sameNow,List.findIdx?_cons]
  by_cases hk:k=s
  ·grind
  ·have hk':¬s=k:=fun e=>hk e.symm
   simp only[ih]
   have hb:(k==s)=false:=by simpa using hk
   cases h':List.findIdx? (fun e=>decide (e.key=Value.int .i64 k)) es with
   | none=>simp[hk',hb]
   | some j=>grind
theorem qEa{kt:TypeId}(hk:P.underlying kt=some (.int .i64)):KeyOf P kt (Value.int .i64) where
 inj:=fun a b h=>by cases h;rfl
 find:=fun a es w h=>by
  simp_all [Instr.findKey,Sem.run_bind,run_underlying,Result.andThen_ok,qIy,Nat.zero_add]
 check:=fun b a w=>by
  unfold Instr.checkKey
  simp_all [Sem.run_bind,run_underlying,Result.andThen_ok]
 stays:=fun a w=>by
  have h:Instr.sameBits 10000 (.int .i64 a) (.int .i64 a)=true:=by
   rw[show (10000:Nat)=9999+1 from rfl]
   simp[Instr.sameBits]
  unfold Instr.keyThatStays
  rw[if_pos h];rfl
end
end Go.Sx
namespace Go.Proofs
open Go Go.Sx
attribute [local irreducible] Go.Sx.Tri
theorem StT.at2{V:Mem}{b:Nat}{c:Array Value}{t off:Nat}{vs:List Value}{q:Mem->Prop}(h:V b=some (.cells c t (0,0)))(hl:off+vs.length<=c.size)
  (hq:q (V.set b (.cells (c.toList.take off++vs++c.toList.drop (off+vs.length)).toArray t (0,0)))):StT (qAa (sa b) off) 0 vs V q:=by
 have e:qAa (sa b) off=some ⟨b,off,none⟩:=by
  grind [qAa,Addr.add]
 rw[e]
 exact⟨⟨b,off,none⟩,c,t,rfl,h,rfl,by simpa using hl,by simpa using hq⟩
theorem qDI{α:Type}:∀(l:List α) (i:Nat) (v:α),i<l.length->l.take i++[v]++l.drop (i+1)=l.set i v
 | [],i,v,h=>by simp at h
 | a::l,0,v,_=>by simp
 | a::l,i+1,v,h=>by
  have:=qDI l i v (by simpa using h)
  simp_all
section
variable{V0 V V':Mem}{e:TypeId}{sz:Nat}{s:Sl}{vs:List Value}
theorem Own.store(h:Sx.Own V0 V e sz s vs){i:Nat}(hi:i<vs.length){v:Value}{q:Mem->Prop}(hq:∀V',Sx.Own V0 V' e sz s (vs.set i v)->(∀c,¬Blk s c->V' c=V c)->q V'):StT (qAa s.p i) 0 [v] V q:=by
 rcases h.cases0 with⟨h1,h2,h3⟩|⟨hc,g,cur,h1,h2,h3,h4,h5,h6,h7⟩
 ·rw[h3]at hi;simp at hi
 have hlen:=h.len
 have hle:s.n*sz<=s.c*sz:=Nat.mul_le_mul_right _ h4
 rw[h1]
 refine StT.at2 (off:=i) h3 (by simp;omega) (hq _ ⟨h.sub.set h2 _,by simpa using hlen,.inr ⟨g,_,h1,h2,Mem.set_same _ _ _,h4,h5,?_,?_⟩⟩ fun c hc'=>?_)
 ·grind
 ·grind [qDI,List.take_set]
 ·rw[Mem.set_ne]
  rintro rfl
  exact hc' ⟨hc,h1⟩
theorem Own.moveB(h:Sx.Own V0 V e sz s vs)(hs:V0.sub V')(hk:∀g cur,Blk s g->V g=some (.cells cur e (0,0))->V' g=some (.cells cur e (0,0))):Sx.Own V0 V' e sz s vs:=⟨hs,h.len,by
 rcases h.cases0 with h1|⟨hc,g,cur,h1,h2,h3,h4⟩
 ·exact .inl h1
 ·exact .inr ⟨g,cur,h1,h2,hk g cur ⟨hc,h1⟩ h3,h4⟩⟩
theorem Own.some(h:Sx.Own V0 V e sz s vs){c:Nat}(hc:Blk s c):∃cur,V c=some (.cells cur e (0,0)):=by
 rcases h.cases0 with⟨-,h2,-⟩|⟨-,g,cur,h1,h2,h3,-⟩
 ·exact absurd h2 hc.1
 ·have:=h1.symm.trans hc.2;simp_all
theorem Own.none0(h:Sx.Own V0 V e sz s vs){c:Nat}(hc:Blk s c):V0 c=none:=by
 rcases h.cases0 with⟨-,h2,-⟩|⟨-,g,cur,h1,h2,h3,-⟩
 ·exact absurd h2 hc.1
 ·have:=h1.symm.trans hc.2;simp_all
theorem set_sub2{A B:Mem}(h:A.sub B)(b:Nat)(o:Obj):(A.set b o).sub (B.set b o):=fun c x hc=>by
 by_cases e:c=b
 ·grind [Mem.set_same]
 ·rw[Mem.set_ne e]at hc ⊢;exact h _ _ hc
theorem Own.poke(h:Sx.Own V0 V e sz s vs){b:Nat}(hb:V0 b≠none)(o:Obj):Sx.Own (V0.set b o) (V.set b o) e sz s vs:=⟨set_sub2 h.sub b o,h.len,by
 rcases h.cases0 with h1|⟨hc,g,cur,h1,h2,h3,h4⟩
 ·exact .inl h1
 ·have hne:g≠b:=fun e=>hb (e ▸ h2)
  simp_all [inr,Mem.set_ne]⟩
end
def qGa(a:Int×Int×Int):List Value:=[.int .i64 a.1,.int .i64 a.2.1,.int .i64 a.2.2]
theorem app84:AppP 84 89 3 qGa:=appG Tryz.underlying84 (by kernel_rfl) (by kernel_rfl) (by kernel_rfl) (by kernel_rfl) (by kernel_rfl) (by decide) (by intro _;rfl) fun x u hu=>by simp only[qGa,List.mem_cons,List.not_mem_nil,or_false]at hu;rcases hu with rfl|rfl|rfl <;> rfl
theorem app32:AppP 32 92 2 Nd.row:=appG Tryz.underlying32 (by kernel_rfl) (by kernel_rfl) (by kernel_rfl) (by kernel_rfl) (by kernel_rfl) (by decide) (by intro _;rfl) fun x u hu=>by simp only[Nd.row,Sl.v,List.mem_cons,List.not_mem_nil,or_false]at hu;rcases hu with rfl|rfl <;> rfl
theorem qFs:AppP 31 3 1 qAe:=appG Tryz.underlying31 (by kernel_rfl) (by kernel_rfl) (by kernel_rfl) (by kernel_rfl) (by kernel_rfl) (by decide) (by intro _;rfl) fun x u hu=>by simp only[qAe,List.mem_cons,List.not_mem_nil,or_false]at hu;subst hu;rfl
theorem qAW(l:List Int):l.flatMap qAe=l.map (Value.int .i64):=by
 induction l with
 | nil=>rfl
 | cons a l ih=>rw[List.flatMap_cons,ih];rfl
structure Lay (V0 V:Mem) (gs ns ls:Sl) (nd:List Nd) (st:St):Prop where
 glob:Sx.Own V0 V 3 1 gs (st.g.flatMap qAe)
 nodes:Sx.Own V0 V 92 2 ns (nd.flatMap Nd.row)
 log:Sx.Own V0 V 89 3 ls (st.lg.flatMap qGa)
 fld:∀n∈nd,Sx.Own V0 V 3 1 n.sl (n.f.flatMap qAe)
 eq:nd.map (fun n=>(n.ty,n.f))=st.ns
 gf:∀n∈nd,∀c,Blk n.sl c->¬Blk gs c
 ff:∀(i j:Nat) n n' c,nd[i]?=some n->nd[j]?=some n'->Blk n.sl c->Blk n'.sl c->i=j
section
variable{V0 V V':Mem}{gs ns ls:Sl}{nd:List Nd}{st:St}
def Alien(V:Mem)(c:Nat):Prop:=∀cur t,t=3∨t=92∨t=89->V c≠some (.cells cur t (0,0))
theorem Lay.sub(L:Lay V0 V gs ns ls nd st):V0.sub V:=L.glob.sub
theorem Lay.move(L:Lay V0 V gs ns ls nd st)(hs:V0.sub V')(hk:∀c o,V c=some o->V0 c=none->¬Alien V c->V' c=some o):Lay V0 V' gs ns ls nd st:=by
 have go:∀{e sz s vs},(e=3∨e=92∨e=89)->Sx.Own V0 V e sz s vs->Sx.Own V0 V' e sz s vs:=fun {e sz s vs} he h=>Own.moveB h hs fun g cur hb hg=>hk _ _ hg (Own.none0 h hb) fun ha=>ha _ _ he hg
 exact⟨go (.inl rfl) L.glob,go (.inr (.inl rfl)) L.nodes,go (.inr (.inr rfl)) L.log,fun n hn=>go (.inl rfl) (L.fld n hn),L.eq,L.gf,L.ff⟩
theorem Lay.grow(L:Lay V0 V gs ns ls nd st)(h:V.sub V'):Lay V0 V' gs ns ls nd st:=L.move (L.sub.trans h) fun c o hc _ _=>h _ _ hc
theorem Lay.put(L:Lay V0 V gs ns ls nd st){c:Nat}(ha:Alien V c)(h0:V0 c=none)(o:Obj):Lay V0 (V.set c o) gs ns ls nd st:=L.move (L.sub.set h0 o) fun x o' hx _ hna=>by
 grind [Mem.set_ne]
theorem Lay.narrow{W:Mem}(L:Lay W V gs ns ls nd st)(h:V0.sub W):Lay V0 V gs ns ls nd st:=⟨L.glob.narrow h,L.nodes.narrow h,L.log.narrow h,fun n hn=>(L.fld n hn).narrow h,L.eq,L.gf,L.ff⟩
theorem Lay.poke(L:Lay V0 V gs ns ls nd st){b:Nat}(hb:V0 b≠none)(o:Obj):Lay (V0.set b o) (V.set b o) gs ns ls nd st:=⟨Own.poke L.glob hb o,Own.poke L.nodes hb o,Own.poke L.log hb o,fun n hn=>Own.poke (L.fld n hn) hb o,L.eq,L.gf,L.ff⟩
def Mine(p:Nat)(gs ns ls:Sl)(nd:List Nd)(c:Nat):Prop:=c=p∨Blk gs c∨Blk ns c∨Blk ls c∨∃n∈nd,Blk n.sl c
open Classical in
noncomputable def Mem.minus(V:Mem)(M:Nat->Prop):Mem:=fun c=>if M c then none else V c
theorem qEq{M:Nat->Prop}:(Mem.minus V M).sub V:=fun c o h=>by
 grind [Mem.minus]
theorem qCB{M:Nat->Prop}{c:Nat}(h:¬M c):Mem.minus V M c=V c:=by grind [Mem.minus]
theorem qFM{M:Nat->Prop}{c:Nat}(h:M c):Mem.minus V M c=none:=by grind [Mem.minus]
theorem Lay.frame(L:Lay V0 V gs ns ls nd st){p:Nat}(hk:∀c o,Mine p gs ns ls nd c->V c=some o->V' c=some o):Lay (Mem.minus V' (Mine p gs ns ls nd)) V' gs ns ls nd st:=by
 have go:∀{e sz s vs},(∀c,Blk s c->Mine p gs ns ls nd c)->Sx.Own V0 V e sz s vs->Sx.Own (Mem.minus V' (Mine p gs ns ls nd)) V' e sz s vs:=fun {e sz s vs} hm h=>⟨qEq,h.len,by
  rcases h.cases0 with h1|⟨hc,g,cur,h1,h2,h3,h4⟩
  ·exact .inl h1
  ·exact .inr ⟨g,cur,h1,qFM (hm g ⟨hc,h1⟩),hk _ _ (hm g ⟨hc,h1⟩) h3,h4⟩⟩
 exact⟨go (fun _ h=>.inr (.inl h)) L.glob,go (fun _ h=>.inr (.inr (.inl h))) L.nodes,go (fun _ h=>.inr (.inr (.inr (.inl h)))) L.log,fun n hn=>go (fun _ h=>.inr (.inr (.inr (.inr ⟨n,hn,h⟩)))) (L.fld n hn),L.eq,L.gf,L.ff⟩
theorem Lay.mineV(L:Lay V0 V gs ns ls nd st){p c:Nat}(hp:V p≠none)(h:Mine p gs ns ls nd c):V c≠none:=by
 have go:∀{e sz s vs},Sx.Own V0 V e sz s vs->Blk s c->V c≠none:=fun {e sz s vs} h hb=>by
  grind [Own.some]
 rcases h with rfl|h|h|h|⟨n,hn,h⟩
 ·exact hp
 ·exact go L.glob h
 ·exact go L.nodes h
 ·exact go L.log h
 ·exact go (L.fld n hn) h
theorem Lay.mine0(L:Lay V0 V gs ns ls nd st){p c:Nat}(hp:V0 p=none)(h:Mine p gs ns ls nd c):V0 c=none:=by
 rcases h with rfl|h|h|h|⟨n,hn,h⟩
 ·exact hp
 ·exact Own.none0 L.glob h
 ·exact Own.none0 L.nodes h
 ·exact Own.none0 L.log h
 ·exact Own.none0 (L.fld n hn) h
theorem Lay.len(L:Lay V0 V gs ns ls nd st):nd.length=st.ns.length:=by rw[<- L.eq,List.length_map]
theorem Lay.at_(L:Lay V0 V gs ns ls nd st){i:Nat}{x:Int×List Int}(h:st.ns[i]?=some x):∃sl,nd[i]?=some ⟨x.1,sl,x.2⟩:=by
 rw[<- L.eq,List.getElem?_map]at h
 cases hn:nd[i]? with
 | none=>simp_all
 | some n=>rw[hn]at h;cases h;grind
theorem Lay.setG(L:Lay V0 V gs ns ls nd st){i:Nat}(hi:i<st.g.length){v:Int}{q:Mem->Prop}(hq:∀V',Lay V0 V' gs ns ls nd { st with g:=st.g.set i v }->(∀c,¬Blk gs c->V' c=V c)->q V'):StT (qAa gs.p (i*1)) 0 [.int .i64 v] V q:=by
 rw[Nat.mul_one]
 refine Own.store L.glob (by rw[qAW,List.length_map];exact hi) fun V' ho hk=>hq V' ⟨?_,?_,?_,fun n hn=>?_,L.eq,L.gf,L.ff⟩ hk
 ·grind [qAe,qAW,List.map_set]
 ·exact Own.moveB L.nodes ho.sub fun g cur hb hg=>by rw[hk g (L.glob.apart fun c=>by simp_all)];exact hg
 ·exact Own.moveB L.log ho.sub fun g cur hb hg=>by rw[hk g (L.glob.apart fun c=>by simp_all)];exact hg
 ·exact Own.moveB (L.fld n hn) ho.sub fun g cur hb hg=>by rw[hk g (L.gf n hn g hb)];exact hg
theorem Lay.setF(L:Lay V0 V gs ns ls nd st){k i:Nat}{n:Nd}(hn:nd[k]?=some n)(hi:i<n.f.length){v:Int}{q:Mem->Prop}
  (hq:∀V',Lay V0 V' gs ns ls (nd.set k { n with f:=n.f.set i v }) { st with ns:=st.ns.set k (n.ty,n.f.set i v) }->(∀c,¬Blk n.sl c->V' c=V c)->q V'):StT (qAa n.sl.p (i*1)) 0 [.int .i64 v] V q:=by
 rw[Nat.mul_one]
 have hm:=List.mem_of_getElem? hn
 have hkl:=(List.getElem?_eq_some_iff.1 hn).1
 refine Own.store (L.fld n hm) (by rw[qAW,List.length_map];exact hi) fun V' ho hk=>hq V' ⟨?_,?_,?_,fun n' hn'=>?_,?_,fun n' hn' c hc=>?_,fun i' j' a b c ha hb hca hcb=>?_⟩ hk
 ·exact Own.moveB L.glob ho.sub fun g cur hb hg=>by rw[hk g fun h=>L.gf n hm g h hb];exact hg
 ·have:(nd.set k { n with f:=n.f.set i v }).flatMap Nd.row=nd.flatMap Nd.row:=by
   have:(nd.set k { n with f:=n.f.set i v }).map Nd.row=nd.map Nd.row:=by
    rw[List.map_set]
    refine List.ext_getElem? fun m=>?_
    rw[List.getElem?_set]
    split
    ·rename_i e;subst e
     rw[List.getElem?_map,hn,if_pos (by simp_all)];rfl
    ·rfl
   grind
  rw[this]
  exact Own.moveB L.nodes ho.sub fun g cur hb hg=>by rw[hk g ((L.fld n hm).apart fun c=>by simp_all)];exact hg
 ·exact Own.moveB L.log ho.sub fun g cur hb hg=>by rw[hk g ((L.fld n hm).apart fun c=>by simp_all)];exact hg
 ·obtain⟨m,hm'⟩:=List.mem_iff_getElem?.1 hn'
  rw[List.getElem?_set]at hm'
  split at hm'
  ·grind [qAe,qAW,List.map_set]
  ·rename_i hne
   exact Own.moveB (L.fld n' (List.mem_of_getElem? hm')) ho.sub fun g cur hb hg=>by rw[hk g fun h=>hne (L.ff k m n n' g hn hm' h hb)];exact hg
 ·rw[<- L.eq,List.map_set]
 ·rcases List.mem_or_eq_of_mem_set hn' with h|rfl
  ·exact L.gf n' h c hc
  ·exact L.gf n hm c hc
 ·have get:∀{m:Nat} {x:Nd},(nd.set k { n with f:=n.f.set i v })[m]?=some x->∃y,nd[m]?=some y/\y.sl=x.sl:=fun {m x} hx=>by
   grind
  obtain⟨y,y1,y2⟩:=get ha
  obtain⟨z,z1,z2⟩:=get hb
  exact L.ff i' j' y z c y1 z1 (y2 ▸ hca) (z2 ▸ hcb)
theorem Lay.note(L:Lay V0 V gs ns ls nd st){a:Int×Int×Int}{ty tb:Nat}{x y:Operand}{vals:Operand->Value}{q:Value->Mem->Prop}(htb:V tb=none)(hx:vals x=.slice ls.p ls.n ls.c)(hy:vals y=.slice (sa tb) 1 1)(hfit:st.lg.length+1<=2147483648)
  (hq:∀s' V',Lay V0 V' gs ns s' nd (st.note a)->(∀c o,V c=some o->¬Blk ls c->V' c=some o)->q (.slice s'.p s'.n s'.c) V') :
  GenK Tryz.prog (.call { callee:=.builtin .append,args:=#[x,y],argTypes:=#[84,84] }) ty vals (V.set tb (.cells (qGa a).toArray 89 (0,0))) q:=by
 refine app84 (s:=ls) (u:=⟨some ⟨tb,0,none⟩,1,1⟩) (xs:=st.lg) (ys:=[a]) hx hy (L.log.but.new htb _) (qAc.cells (xs:=[a]) (row:=qGa) mss (by simp) (fun _=>rfl) rfl (by simp)) (by simpa using hfit) fun s' V' ho=>?_
 have hk:∀c o,V c=some o->¬Blk ls c->V' c=some o:=fun c o hc hb=>ho.sub _ _ (Mem.but_at hc hb)
 have hs:V0.sub V':=L.log.sub_but.trans ho.sub
 refine hq s' V' ⟨?_,?_,ho.narrow L.log.sub_but,fun n hn=>?_,L.eq,L.gf,L.ff⟩ hk
 ·exact Own.moveB L.glob hs fun g cur hb hg=>hk _ _ hg (L.log.apart fun c=>by simp_all)
 ·exact Own.moveB L.nodes hs fun g cur hb hg=>hk _ _ hg (L.log.apart fun c=>by simp_all)
 ·exact Own.moveB (L.fld n hn) hs fun g cur hb hg=>hk _ _ hg (L.log.apart fun c=>by simp_all)
theorem Lay.new(L:Lay V0 V gs ns ls nd st){n:Nd}{V1:Mem}(hown:Sx.Own V V1 3 1 n.sl (n.f.flatMap qAe))
  {ty tb:Nat} {x y:Operand} {vals:Operand->Value} {q:Value->Mem->Prop} (htb:V1 tb=none) (hx:vals x=.slice ns.p ns.n ns.c) (hy:vals y=.slice (sa tb) 1 1) (hfit:nd.length+1<=2147483648)
  (hq:∀s' V',Lay V0 V' gs s' ls (nd++[n]) { st with ns:=st.ns++[(n.ty,n.f)] }->(∀c o,V1 c=some o->¬Blk ns c->V' c=some o)->q (.slice s'.p s'.n s'.c) V') :
  GenK Tryz.prog (.call { callee:=.builtin .append,args:=#[x,y],argTypes:=#[32,32] }) ty vals (V1.set tb (.cells n.row.toArray 92 (0,0))) q:=by
 have s1:V.sub V1:=hown.sub
 have L1:=L.grow s1
 refine app32 (s:=ns) (u:=⟨some ⟨tb,0,none⟩,1,1⟩) (xs:=nd) (ys:=[n]) hx hy (L1.nodes.but.new htb _) (qAc.cells (xs:=[n]) (row:=Nd.row) mss (by simp) (fun _=>rfl) rfl (by simp)) (by simpa using hfit) fun s' V' ho=>?_
 have hk:∀c o,V1 c=some o->¬Blk ns c->V' c=some o:=fun c o hc hb=>ho.sub _ _ (Mem.but_at hc hb)
 have hs:V0.sub V':=L1.nodes.sub_but.trans ho.sub
 have hn0:∀c,Blk n.sl c->V c=none:=fun c hc=>Own.none0 hown hc
 refine hq s' V' ⟨?_,ho.narrow L1.nodes.sub_but,?_,fun m hm=>?_,by rw[List.map_append,L.eq];rfl,fun m hm c hc=>?_,fun i j a b c ha hb hca hcb=>?_⟩ hk
 ·exact Own.moveB L1.glob hs fun g cur hb hg=>hk _ _ hg (L1.nodes.apart fun c=>by simp_all)
 ·exact Own.moveB L1.log hs fun g cur hb hg=>hk _ _ hg (L1.nodes.apart fun c=>by simp_all)
 ·rcases List.mem_append.1 hm with hm|hm
  ·exact Own.moveB (L1.fld m hm) hs fun g cur hb hg=>hk _ _ hg (L1.nodes.apart fun c=>by simp_all)
  ·rw[List.mem_singleton.1 hm]
   exact Own.moveB (hown.narrow L.sub) hs fun g cur hb hg=>hk _ _ hg (L1.nodes.apart fun c=>by simp_all)
 ·rcases List.mem_append.1 hm with hm|hm
  ·exact L.gf m hm c hc
  ·rw[List.mem_singleton.1 hm]at hc
   intro hg
   obtain⟨cur,hcur⟩:=Own.some L.glob hg
   simp_all
 ·have old:∀{m:Nd},m∈nd->Blk m.sl c->¬Blk n.sl c:=fun hm hc hc'=>by
   obtain⟨cur,hcur⟩:=Own.some (L.fld _ hm) hc
   simp_all
  by_cases h1:i<nd.length <;> by_cases h2:j<nd.length
  ·rw[List.getElem?_append_left h1]at ha
   rw[List.getElem?_append_left h2]at hb
   exact L.ff i j a b c ha hb hca hcb
  ·grind
  ·grind
  grind
end
end Go.Proofs
