/- Part 12 of a proof of a law of this seat: no statement of the seat is proved here. -/
import Derived.Test.YtmeagdecjpknkaaGreatDoorPp11
import Derived.Test.YtmeagdecjpknkaaGreatDoorPp04
set_option linter.unusedVariables false
set_option linter.unusedSimpArgs false
namespace Go.Proofs
open Go Go.Sx
structure qAv (d:Ds) (m:Mm):Prop where
 valid:qAB d=true
 chk:qHD d=none
 mem:qAu d m=true
def VE(e:E):Prop:=∃k,okE k e=true
theorem VE.of_valid{e:E}(h:qAJ e=true):VE e:=⟨1,(of_decide_eq_true h).1⟩
theorem okE_eq(k:Int)(e:E):okE k e=(decide (k<=60)&&qDt e.op e.n e.s e.k.length&&okEs (k+1) e.k):=by cases e;unfold okE;rfl
theorem okEs_all{k:Int}:∀{l:List E},okEs k l=true->∀x∈l,okE k x=true
 | [],_,x,hx=>by cases hx
 | e::l,h,x,hx=>by
  unfold okEs at h
  rw[Bool.and_eq_true]at h
  rcases List.mem_cons.1 hx with rfl|hx
  ·exact h.1
  ·exact okEs_all h.2 x hx
theorem VE.node{e:E}(h:VE e):qDt e.op e.n e.s e.k.length=true:=by
 obtain⟨k,h⟩:=h
 simp_all [okE_eq,Bool.and_eq_true]
theorem VE.kids{e:E}(h:VE e):∀x∈e.k,VE x:=by
 obtain⟨k,h⟩:=h
 rw[okE_eq,Bool.and_eq_true]at h
 exact fun x hx=>⟨_,okEs_all h.2 x hx⟩
theorem qFd(d:Ds)(sc:Sc):∀(k:List E) (acc:List ByteArray),(partsT d sc acc k).2=0->(∀x∈k,(qAr d sc x).2=0)/\(partsT d sc acc k).1=acc++k.map fun x=>(qAr d sc x).1
 | [],acc,_=>by rw[qCN];simp
 | x::xs,acc,h=>by
  rw[qCa]at h ⊢
  split at h
  ·omega
  ·rename_i h'
   rw[if_neg h']
   obtain⟨h1,h2⟩:=qFd d sc xs _ h
   simp_all
theorem qIq{d:Ds}{sc:Sc}{e:E}{t:ByteArray}(h:qAr d sc e=(t,0)):(∀x∈e.k,(qAr d sc x).2=0)/\qFD d sc e.op e.s (e.k.map fun x=>(qAr d sc x).1)=(t,0):=by
 grind [qIg,Prod.mk.injEq,absurd,partsT,qFd]
theorem arityB{op n:Int}{s:ByteArray}{l:Int}(h:qDt op n s l=true):qAP op≠-2/\(0<=qAP op->l=qAP op)/\nmB op s=true/\numB op n=true:=by
 grind [qDt]
theorem list1{α:Type}{k:List α}(h:(k.length:Int)=1):∃a,k=[a]:=by
 match k,h with
 | [a],_=>grind
 | [],h=>simp at h
 | _::_::_,h=>simp at h;omega
theorem list2{α:Type}{k:List α}(h:(k.length:Int)=2):∃a b,k=[a,b]:=by
 match k,h with
 | [a,b],_=>simp_all
 | [],h=>simp at h
 | [_],h=>simp at h
 | _::_::_::_,h=>simp at h;omega
theorem list3{α:Type}{k:List α}(h:(k.length:Int)=3):∃a b c,k=[a,b,c]:=by
 match k,h with
 | [a,b,c],_=>simp_all
 | [],h=>simp at h
 | [_],h=>simp at h
 | [_,_],h=>simp at h
 | _::_::_::_::_,h=>simp at h;omega
theorem name_kw{s:ByteArray}(h:qAT s=true):isKw s=false:=by
 grind [qAT]
theorem qEa{s t:ByteArray}(h:qAT s=true)(ht:isKw t=true):s≠t:=fun e=>by grind [name_kw]
theorem kwNil:isKw qKJ=true:=by kernel_rfl
theorem kwInt:isKw qAV=true:=by kernel_rfl
theorem kwBool:isKw qAt=true:=by kernel_rfl
section
variable{d:Ds}{m:Mm}
theorem validD_types(h:qAB d=true):(∀t∈d.types,qAT t.name=true)/\(∀f∈d.globals,qAT f.name=true)/\(∀x∈d.measures,msB x=true)/\(∀x∈d.invs,ivB x=true):=by
 grind [qAB,qJI,tyB,qDg,fldB]
theorem qEG(h:qAB d=true){s:ByteArray}(hs:qAZ d s=true):qAT s=true:=by
 obtain⟨t,ht,e⟩:=List.any_eq_true.1 hs
 rw[<- of_decide_eq_true e]
 exact(validD_types h).1 t ht
def qBV(d:Ds)(m:Mm)(t:ByteArray)(v:Int):Prop:=if t=qKJ then v=0 else qAw d m t v=true
theorem qIA:qKJ≠qAV/\qKJ≠qAt/\qAV≠qKJ/\qAt≠qKJ/\qAV≠qAt/\qAt≠qAV:=by
 refine⟨of_decide_eq_false ?_,of_decide_eq_false ?_,of_decide_eq_false ?_,of_decide_eq_false ?_,of_decide_eq_false ?_,of_decide_eq_false ?_⟩ <;> kernel_rfl
theorem qBG{v:Int}:qBV d m qAV v↔-1099511627776<=v/\v<=1099511627776:=by
 unfold qBV qAw
 rw[if_neg qIA.2.2.1,if_pos rfl,decide_eq_true_eq]
theorem qBg{v:Int}:qBV d m qAt v↔v=0∨v=1:=by
 unfold qBV qAw
 rw[if_neg qIA.2.2.2.1,if_neg qIA.2.2.2.2.2,if_pos rfl,decide_eq_true_eq]
theorem qBu(h:qAB d=true){t:ByteArray}(ht:qBf d t=true){v:Int}:qBV d m t v↔qAw d m t v=true:=by
 unfold qBV
 rw[if_neg]
 intro e
 subst e
 unfold qBf at ht
 rw[decide_eq_false qIA.1,decide_eq_false qIA.2.1]at ht
 exact qEa (qEG h (by simpa using ht)) kwNil rfl
theorem qJX{t:ByteArray}(h:qAT t=true):qAw d m t 0=true:=by
 unfold qAw
 rw[if_neg (qEa h kwInt),if_neg (qEa h kwBool)]
 exact decide_eq_true (.inl rfl)
theorem qCr(h:qAB d=true){a b:ByteArray}(hf:qDy d a b=true){v:Int}(hv:qBV d m a v):qBV d m b v:=by
 unfold qDy at hf
 simp only[Bool.or_eq_true,Bool.and_eq_true,decide_eq_true_eq]at hf
 rcases hf with rfl|⟨rfl,hb⟩
 ·exact hv
 ·have hn:=qEG h hb
  unfold qBV at hv ⊢
  rw[if_pos rfl]at hv
  rw[if_neg (qEa hn kwNil),hv]
  exact qJX hn
theorem qDI:∀(l:List Fld) (s:ByteArray),qBS l s=((l.find? fun f=>decide (f.name=s)).map (·.ty)).getD sE
 | [],_=>rfl
 | f::l,s=>by
  unfold qBS
  rw[List.find?_cons]
  by_cases h:f.name=s
  ·simp_all
  ·rw[if_neg h,decide_eq_false h,qDI l s]
theorem qEI(l:List Fld)(s:ByteArray):(qBS l s=sE/\qGK l s=-1)∨∃(i:Nat) (f:Fld),qGK l s=i/\l[i]?=some f/\qBS l s=f.ty/\f.name=s:=by
 rw[qDI]
 unfold qGK
 rcases qAI (fun f:Fld=>decide (f.name=s)) l with⟨h1,h2,-⟩|⟨i,x,h1,h2,h3,-,h5,-⟩
 ·grind
 grind
theorem qBL(h:qJz d=true):qBE d d.globals=true/\(∀(i:Nat) (x:Ty),d.types[i]?=some x->qDx d x.name=(i:Int))/\∀x∈d.types,qBE d x.fields=true:=by
 unfold qJz at h
 rw[Bool.and_eq_true,Bool.and_eq_true,qDq]at h
 obtain⟨⟨-,h1⟩,h2⟩:=h
 refine⟨h1,fun i x hx=>?_,fun x hx=>?_⟩
 ·grind
 ·obtain⟨i,hi,rfl⟩:=List.mem_iff_getElem.1 hx
  have:=h2 i _ (List.getElem?_eq_getElem hi)
  simp_all
theorem qAj(h:qAu d m=true):qJz d=true/\m.nodes.length<=4096/\(∀n∈m.nodes,qDn d n=true)/\qAi d m d.globals m.globals=true/\∀n∈m.nodes,qAi d m (qAq d n.ty) n.f=true:=by
 grind [qAu]
theorem qFV{l:List Fld}{vs:List Int}(h:qAi d m l vs=true){i:Nat}{f:Fld}(hi:l[i]?=some f):∃v,vs[i]?=some v/\qAw d m f.ty v=true:=by
 unfold qAi at h
 rw[Bool.and_eq_true,decide_eq_true_eq,qDq]at h
 have hl:=(List.getElem?_eq_some_iff.1 hi).1
 have hv:vs[i]?=some (vs[i]'(by omega)):=List.getElem?_eq_getElem _
 grind [tyAt]
theorem right_node{t:ByteArray}(hn:qAT t=true){a:Int}(h:qAw d m t a=true)(h0:a≠0):1<=a/\a<=(m.nodes.length:Int)/\∃n,m.nodes[(a-1).toNat]?=some n/\n∈m.nodes/\n.ty=qDx d t:=by
 unfold qAw at h
 rw[if_neg (qEa hn kwInt),if_neg (qEa hn kwBool),decide_eq_true_eq]at h
 rcases h with h|⟨h1,h2,h3⟩
 ·omega
 ·refine⟨h1,h2,?_⟩
  cases hx:m.nodes[(a-1).toNat]? with
  | none=>simp_all
  | some n=>rw[hx]at h3;exact⟨n,rfl,List.mem_of_getElem? hx,by simpa using h3⟩
theorem tyOf_idx{s:ByteArray}{t:Ty}(h:qJC d s=some t):∃i:Nat,qDx d s=(i:Int)/\d.types[i]?=some t/\t.name=s/\qAZ d s=true:=by
 unfold qJC at h
 unfold qDx qAZ
 rcases qAI (fun t:Ty=>decide (t.name=s)) d.types with⟨-,h2,-⟩|⟨i,x,h1,h2,h3,-,h5,-,h7,-⟩
 ·simp_all
 grind
theorem fld_ok(G:qAv d m){t s ty:ByteArray}(ht:qBX d t s=(ty,0)){a:Int}(ha:qBV d m t a)(h0:a≠0) :
  ∃(n:Nd) (i j:Nat) (tt:Ty) (f:Fld) (v:Int),m.nodes[(a-1).toNat]?=some n/\n∈m.nodes/\1<=a/\a<=(m.nodes.length:Int)/\n.ty=(j:Int)/\d.types[j]?=some tt/\tt∈d.types/\qGK tt.fields s=i/\tt.fields[i]?=some f/\n.f[i]?=some v/\qBV d m ty v/\fldV d m a s=.ok v/\f.ty=ty:=by
 unfold qBX at ht
 cases hty:qJC d t with
 | none=>simp_all
 | some tt =>
  rw[hty]at ht
  simp only at ht
  split at ht
  ·simp at ht
  ·rename_i hl
   simp only[Prod.mk.injEq,and_true]at ht
   obtain⟨j,hj,hj2,rfl,hnode⟩:=tyOf_idx hty
   have hname:=qEG G.valid hnode
   have ha':qAw d m tt.name a=true:=by
    grind [qBV]
   obtain⟨b1,b2,n,b3,b4,b5⟩:=right_node hname ha' h0
   rcases qEI tt.fields s with⟨c1,-⟩|⟨i,f,c1,c2,c3,c4⟩
   ·grind
   ·have hfo:qAq d n.ty=tt.fields:=qAS hj2 (b5.trans hj)
    obtain⟨p1,-,-,-,p5⟩:=qAj G.mem
    have hv:=p5 n b4
    rw[hfo]at hv
    obtain⟨v,hv1,hv2⟩:=qFV hv c2
    have hmem:=List.mem_of_getElem? hj2
    have hkn:qBf d f.ty=true:=List.all_eq_true.1 ((qBL p1).2.2 tt hmem) f (List.mem_of_getElem? c2)
    refine⟨n,i,j,tt,f,v,b3,b4,b1,b2,b5.trans hj,hj2,hmem,c1,c2,hv1,?_,?_,c3.symm.trans ht⟩
    ·rw[<- ht,c3];exact(qBu G.valid hkn).2 hv2
    simp_all [fldV,if_neg,Int.toNat_natCast]
theorem qFh{α β:Type}{f:Nat->α->Option β}:∀{l:List α} {i:Nat},qAh f i l=none->∀j x,l[j]?=some x->f (i+j) x=none
 | [],_,_,j,x,hx=>by simp at hx
 | y::l,i,h,j,x,hx=>by
  unfold qAh at h
  cases hy:f i y with
  | some b=>simp_all
  | none =>
   rw[hy]at h
   cases j with
   | zero=>simp_all
   | succ j=>rw[show i+(j+1)=i+1+j by omega];exact qFh h j x (by simpa using hx)
theorem qKW{α:Type}{a b:Option α}(h:a.or b=none):a=none/\b=none:=by
 simp_all
end
end Go.Proofs
namespace Go.Proofs
open Go Go.Sx
section
variable{d:Ds}{m:Mm}
theorem big_ok{n v:Int}(h:big n=.ok v):v=n/\-1099511627776<=v/\v<=1099511627776:=by
 unfold big at h
 grind
theorem trI_b(b:Bool):trI b=0∨trI b=1:=by cases b <;> simp[trI]
theorem qBQ{ok:Bool}{t t':ByteArray}(h:qDu ok t=(t',0)):ok=true/\t=t':=by
 grind [qDu]
theorem tdiv_in{a b:Int}(ha:-1099511627776<=a/\a<=1099511627776):-1099511627776<=a.tdiv b/\a.tdiv b<=1099511627776:=by
 have:=Int.natAbs_tdiv_le_natAbs a b
 omega
theorem tmod_in{a b:Int}(ha:-1099511627776<=a/\a<=1099511627776):-1099511627776<=a.tmod b/\a.tmod b<=1099511627776:=by
 have h1:=Int.natAbs_tmod a b
 have:=Nat.mod_le a.natAbs b.natAbs
 omega
theorem log_in{a:Int}(ha:a<=1099511627776):0<=logV a/\logV a<=1099511627776:=by
 grind [logV,Nat.log2,Nat.log2_le_self]
inductive Kind (d:Ds) (sc:Sc) (e:E):ByteArray->Prop where
 | int (h:e.op=1) (hn:0<=e.n/\e.n<=1099511627776):Kind d sc e qAV
 | bool (h:e.op=2) (hn:e.n=0∨e.n=1):Kind d sc e qAt
 | nil (h:e.op=3) (hn:e.n=0):Kind d sc e qKJ
 | var {t} (h:e.op=4) (hl:qBS sc.vars e.s=t) (hne:t≠sE):Kind d sc e t
 | fld {t u} {a:E} (h:e.op=5) (hk:e.k=[a]) (ha:qAr d sc a=(u,0)) (ht:qBX d u e.s=(t,0)):Kind d sc e t
 | call {u} {a:E} {ms:Ms} {i:Nat} (h:e.op=7) (hk:e.k=[a]) (ha:qAr d sc a=(u,0)) (hi:mIdx d e.s=i) (hms:d.measures[i]?=some ms) (hf:qDy d u ms.ty=true):Kind d sc e qAV
 | neg {a:E} (h:e.op=8) (hk:e.k=[a]) (ha:qAr d sc a=(qAV,0)):Kind d sc e qAV
 | not {a:E} (h:e.op=18) (hk:e.k=[a]) (ha:qAr d sc a=(qAt,0)):Kind d sc e qAt
 | log {a:E} (h:e.op=24) (hk:e.k=[a]) (ha:qAr d sc a=(qAV,0)):Kind d sc e qAV
 | and {a b:E} (h:e.op=19) (hk:e.k=[a,b]) (ha:qAr d sc a=(qAt,0)) (hb:qAr d sc b=(qAt,0)):Kind d sc e qAt
 | or {a b:E} (h:e.op=20) (hk:e.k=[a,b]) (ha:qAr d sc a=(qAt,0)) (hb:qAr d sc b=(qAt,0)):Kind d sc e qAt
 | cond {a b c:E} {t u w} (h:e.op=21) (hk:e.k=[a,b,c]) (ha:qAr d sc a=(qAt,0)) (hb:qAr d sc b=(u,0)) (hc:qAr d sc c=(w,0)) (hu:u=t∨qDy d u t=true) (hw:w=t∨qDy d w t=true):Kind d sc e t
 | eq {a b:E} {u w} (h:e.op=14∨e.op=15) (hk:e.k=[a,b]) (ha:qAr d sc a=(u,0)) (hb:qAr d sc b=(w,0)):Kind d sc e qAt
 | cmp {a b:E} (h:e.op=16∨e.op=17) (hk:e.k=[a,b]) (ha:qAr d sc a=(qAV,0)) (hb:qAr d sc b=(qAV,0)):Kind d sc e qAt
 | ari {a b:E} (h:e.op=9∨e.op=10∨e.op=11∨e.op=12∨e.op=13∨e.op=22∨e.op=23) (hk:e.k=[a,b]) (ha:qAr d sc a=(qAV,0)) (hb:qAr d sc b=(qAV,0)):Kind d sc e qAV
theorem allT1{t u:ByteArray}(h:allT [t] u=true):t=u:=by simpa [allT]using h
theorem allT2{t t' u:ByteArray}(h:allT [t,t'] u=true):t=u/\t'=u:=by simpa [allT]using h
theorem qBv{p:ByteArray×Int}{t:ByteArray}(h1:p.1=t)(h2:p.2=0):p=(t,0):=Prod.ext h1 h2
theorem kind{sc:Sc}(hsc:sc.body=false){e:E}{t:ByteArray}(hv:VE e)(ht:qAr d sc e=(t,0)):Kind d sc e t:=by
 obtain⟨hk,hn⟩:=qIq ht
 obtain⟨a1,a2,a3,a4⟩:=arityB hv.node
 unfold qFD at hn
 unfold numB at a4
 have one:qAP e.op=1->∃a,e.k=[a]:=fun h=>list1 ((a2 (by omega)).trans h)
 have two:qAP e.op=2->∃a b,e.k=[a,b]:=fun h=>list2 ((a2 (by omega)).trans h)
 have three:qAP e.op=3->∃a b c,e.k=[a,b,c]:=fun h=>list3 ((a2 (by omega)).trans h)
 by_cases h1:e.op=1
 ·rw[if_pos h1]at hn a4
  cases hn;exact .int h1 (of_decide_eq_true a4)
 rw[if_neg h1]at hn a4
 by_cases h2:e.op=2
 ·rw[if_pos h2]at hn a4
  cases hn;exact .bool h2 (of_decide_eq_true a4)
 rw[if_neg h2]at hn a4
 have a4:e.n=0:=of_decide_eq_true a4
 by_cases h3:e.op=3
 ·rw[if_pos h3]at hn
  cases hn;exact .nil h3 a4
 rw[if_neg h3]at hn
 by_cases h4:e.op=4
 ·rw[if_pos h4]at hn
  split at hn
  ·simp at hn
  ·rename_i hne
   simp only[Prod.mk.injEq,and_true]at hn
   exact .var h4 hn (hn ▸ hne)
 rw[if_neg h4]at hn
 by_cases h5:e.op=5
 ·obtain⟨a,ha⟩:=one (by rw[h5];rfl)
  rw[if_pos h5,ha]at hn
  rw[ha]at hk
  exact .fld h5 ha (qBv rfl (hk a (by simp))) hn
 rw[if_neg h5]at hn
 by_cases h6:e.op=6
 ·simp_all
 rw[if_neg h6]at hn
 by_cases h7:e.op=7
 ·rw[if_pos h7]at hn
  unfold qHN at hn
  rw[if_neg (by rw[hsc];decide)]at hn
  unfold qJH meOf at hn
  unfold mIdx at *
  rcases qAI (fun x:Ms=>decide (x.name=e.s)) d.measures with⟨-,q2,-⟩|⟨i,ms,q1,q2,q3,-⟩
  ·simp_all
  ·rw[q3]at hn
   simp only at hn
   split at hn
   ·simp at hn
   ·rename_i hl
    obtain⟨a,ha⟩:∃a,e.k=[a]:=list1 (by grind)
    rw[ha]at hn hk
    obtain⟨b1,rfl⟩:=qBQ hn
    exact .call h7 ha (qBv rfl (hk a (by simp))) q1 q2 (by simpa using b1)
 rw[if_neg h7]at hn
 by_cases h14:e.op=14∨e.op=15
 ·obtain⟨a,b,hab⟩:=two (by rcases h14 with h|h <;> (rw[h];rfl))
  rw[if_pos h14]at hn
  rw[hab]at hk
  obtain⟨-,rfl⟩:=qBQ hn
  exact .eq h14 hab (qBv rfl (hk a (by simp))) (qBv rfl (hk b (by simp)))
 rw[if_neg h14]at hn
 by_cases h16:e.op=16∨e.op=17
 ·obtain⟨a,b,hab⟩:=two (by rcases h16 with h|h <;> (rw[h];rfl))
  rw[if_pos h16,hab]at hn
  rw[hab]at hk
  obtain⟨g,rfl⟩:=qBQ hn
  obtain⟨g1,g2⟩:=allT2 g
  exact .cmp h16 hab (qBv g1 (hk a (by simp))) (qBv g2 (hk b (by simp)))
 rw[if_neg h16]at hn
 by_cases h18:e.op=18∨e.op=19∨e.op=20
 ·rw[if_pos h18]at hn
  rcases h18 with h|h
  ·obtain⟨a,ha⟩:=one (by rw[h];rfl)
   rw[ha]at hn hk
   obtain⟨g,rfl⟩:=qBQ hn
   exact .not h ha (qBv (allT1 g) (hk a (by simp)))
  ·obtain⟨a,b,hab⟩:=two (by rcases h with h|h <;> (rw[h];rfl))
   rw[hab]at hn hk
   obtain⟨g,rfl⟩:=qBQ hn
   obtain⟨g1,g2⟩:=allT2 g
   rcases h with h|h
   ·exact .and h hab (qBv g1 (hk a (by simp))) (qBv g2 (hk b (by simp)))
   ·exact .or h hab (qBv g1 (hk a (by simp))) (qBv g2 (hk b (by simp)))
 rw[if_neg h18]at hn
 by_cases h21:e.op=21
 ·obtain⟨a,b,c,habc⟩:=three (by rw[h21];rfl)
  rw[if_pos h21,habc]at hn
  rw[habc]at hk
  obtain⟨g,g2⟩:=qBQ hn
  simp only[List.map_cons,List.map_nil,List.getD_cons_zero,List.getD_cons_succ,Bool.and_eq_true,decide_eq_true_eq,Bool.or_eq_true]at g g2
  refine .cond h21 habc (qBv g.1 (hk a (by simp))) (qBv rfl (hk b (by simp))) (qBv rfl (hk c (by simp))) ?_ ?_
  ·grind [inr,qDy]
  grind [qDy,absurd,inr]
 rw[if_neg h21]at hn
 obtain⟨g,rfl⟩:=qBQ hn
 have hop:e.op=8∨e.op=24∨(e.op=9∨e.op=10∨e.op=11∨e.op=12∨e.op=13∨e.op=22∨e.op=23):=by
  grind [qAP]
 rcases hop with h|h|h
 ·obtain⟨a,ha⟩:=one (by rw[h];rfl)
  rw[ha]at g hk
  exact .neg h ha (qBv (allT1 g) (hk a (by simp)))
 ·obtain⟨a,ha⟩:=one (by rw[h];rfl)
  rw[ha]at g hk
  exact .log h ha (qBv (allT1 g) (hk a (by simp)))
 ·obtain⟨a,b,hab⟩:=two (by rcases h with h|h|h|h|h|h|h <;> (rw[h];rfl))
  rw[hab]at g hk
  obtain⟨g1,g2⟩:=allT2 g
  exact .ari h hab (qBv g1 (hk a (by simp))) (qBv g2 (hk b (by simp)))
theorem two_ok{op a b v:Int}(h:op=9∨op=10∨op=11∨op=12∨op=13∨op=22∨op=23)(ha:-1099511627776<=a/\a<=1099511627776)(hb:-1099511627776<=b/\b<=1099511627776)(hv:qFr op a b=.ok v):-1099511627776<=v/\v<=1099511627776:=by
 unfold qFr at hv
 split at hv
 ·exact(big_ok hv).2
 split at hv
 ·exact(big_ok hv).2
 split at hv
 ·exact(big_ok hv).2
 split at hv
 ·grind
 split at hv
 ·grind
 repeat' (split at hv;(first|omega|cases hv))
 ·exact tdiv_in ha
 ·cases hv;exact tmod_in ha
theorem twoB_ok{op a b v:Int}(h:op=14∨op=15∨op=16∨op=17)(hv:qFr op a b=.ok v):v=0∨v=1:=by
 rcases h with rfl|rfl|rfl|rfl
 ·have:trI (decide (a=b))=v:=by injection hv
  grind [trI_b]
 ·have:trI (!decide (a=b))=v:=by injection hv
  grind [trI_b]
 ·have:trI (decide (a<b))=v:=by injection hv
  grind [trI_b]
 ·have:trI (decide (a<=b))=v:=by injection hv
  grind [trI_b]
end
end Go.Proofs
namespace Go.Proofs
open Go Go.Sx
structure St where
 g:List Int
 ns:List (Int×List Int)
 tk:Nat
 cm:Nat
 lg:List (Int×Int×Int)
inductive Rx (α:Type) where
 | ok (v:α) (s:St)
 | bad (c:Int) (s:St)
def Rx.bind{α β:Type}:Rx α->(α->St->Rx β)->Rx β
 | .ok v s,f=>f v s
 | .bad c s,_=>.bad c s
def qAC:Sl:=⟨none,0,0⟩
def St.mm(s:St):Mm:=⟨qAC,s.g,qAC,s.ns.map fun n=>⟨n.1,qAC,n.2⟩⟩
def St.note(s:St)(a:Int×Int×Int):St:={ s with lg:=s.lg++[a] }
def noE:E:=.mk 0 0 sE qAC []
def qDr(d:Ds)(s:ByteArray):Int:=qIa (fun t=>decide (t.name=s)) d.procs
def liftR:Rs->St->Rx Int
 | .ok v,s=>.ok v s
 | .bad c,s=>.bad c s
def seqX:List (St->Rx Int)->List Int->St->Rx (List Int)
 | [],acc,st=>.ok acc st
 | f::fs,acc,st=>(f st).bind fun v st=>seqX fs (acc++[v]) st
def qFR(ks:List (St->Rx Int))(i:Nat):St->Rx Int:=ks.getD i fun st=>.bad 0 st
def _root_.Go.Sx.Pr.vars(p:Pr):List Fld:=p.params++p.locals
def cntX(b:Bool)(op:Int)(st:St):St:=if op=16∨op=17∨((op=14∨op=15)/\b=true) then { st with cm:=st.cm+1 } else st
abbrev Cf:=Int->List Int->St->Rx Int
abbrev Rt:=List Int×Option Int
abbrev Sf:=Nat->Pr->List S->List Int->St->Rx Rt
def qKB(F:Nat)(st:St):Rx Unit:=if F<=st.tk then .bad 20 st else .ok () { st with tk:=st.tk+1 }
section
variable(d:Ds)
def varX(p:Pr)(vals:List Int)(s:ByteArray)(st:St):Rx Int :=
 if 0<=qGK p.vars s then .ok ((vals[(qGK p.vars s).toNat]?).getD 0) st else .ok ((st.g[(qGK d.globals s).toNat]?).getD 0) (st.note (1,0,qGK d.globals s))
def fldX(a:Int)(s:ByteArray)(st:St):Rx Int :=
 if a=0 then .bad 17 st else match st.ns[(a-1).toNat]? with
  | none=>.bad 0 st
  | some n=>.ok ((n.2[(qGK (qAq d n.1) s).toNat]?).getD 0) (st.note (1,a,qGK (qAq d n.1) s))
def newX(s:ByteArray)(st:St):Rx Int :=
 if 4096<=st.ns.length then .bad 21 st else .ok ((st.ns.length:Int)+1) { st with ns:=st.ns++[(qDx d s,List.replicate (qAq d (qDx d s)).length 0)],lg:=st.lg++[(3,(st.ns.length:Int)+1,qDx d s)] }
def intB(sc:Sc):List E->Bool
 | []=>false
 | a::_=>decide ((qAr d sc a).1=qAV)
def qDz(C:Cf)(p:Pr)(vals:List Int)(b:Bool)(op n:Int)(s:ByteArray)(ks:List (St->Rx Int))(st:St):Rx Int :=
 if op=1∨op=2 then .ok n st else if op=3 then .ok 0 st else if op=4 then varX d p vals s st
 else if op=5 then (qFR ks 0 st).bind fun a st=>fldX d a s st
 else if op=6 then newX d s st
 else if op=7 then (seqX ks [] st).bind fun l st=>C (qDr d s) l st
 else if op=8 then (qFR ks 0 st).bind fun a st=>liftR (big (-a)) st
 else if op=18 then (qFR ks 0 st).bind fun a st=>.ok (1-a) st
 else if op=24 then (qFR ks 0 st).bind fun a st=>.ok (logV a) st
 else if op=19 then (qFR ks 0 st).bind fun a st=>if a=0 then .ok 0 st else qFR ks 1 st
 else if op=20 then (qFR ks 0 st).bind fun a st=>if a=0 then qFR ks 1 st else .ok 1 st
 else if op=21 then (qFR ks 0 st).bind fun a st=>if a=0 then qFR ks 2 st else qFR ks 1 st
 else (qFR ks 0 st).bind fun v st=>(qFR ks 1 st).bind fun w st=>liftR (qFr op v w) (cntX b op st)
mutual
def evX(C:Cf)(p:Pr)(vals:List Int):E->St->Rx Int
 | .mk op n s _ k=>qDz d C p vals (intB d (qAn d p) k) op n s (evXs C p vals k)
def evXs(C:Cf)(p:Pr)(vals:List Int):List E->List (St->Rx Int)
 | []=>[]
 | e::es=>evX C p vals e::evXs C p vals es
end
def qEl(Sn:Sf)(c:Nat)(i:Int)(args:List Int)(st:St):Rx Int :=
 if 200<=c then .bad 19 st else match d.procs[i.toNat]? with
  | none=>.bad 0 st
  | some p=>(Sn (c+1) p p.body (args++List.replicate p.locals.length 0) st).bind fun r st=>.ok (r.2.getD 0) st
def setX(p:Pr)(s:ByteArray)(v:Int)(vals:List Int)(st:St):Rx Rt :=
 if 0<=qGK p.vars s then .ok (vals.set (qGK p.vars s).toNat v,none) st else .ok (vals,none) { st with g:=st.g.set (qGK d.globals s).toNat v,lg:=st.lg++[(2,0,qGK d.globals s)] }
def putX(a v:Int)(s:ByteArray)(st:St):Rx Unit :=
 if a=0 then .bad 17 st else match st.ns[(a-1).toNat]? with
  | none=>.bad 0 st
  | some n=>.ok () { st with ns:=st.ns.set (a-1).toNat (n.1,n.2.set (qGK (qAq d n.1) s).toNat v),lg:=st.lg++[(2,a,qGK (qAq d n.1) s)] }
section
variable(F:Nat)(Sn:Sf)(c:Nat)(p:Pr)
def evS(vals:List Int)(e:E)(st:St):Rx Int:=evX d (qEl d Sn c) p vals e st
def whX(cond:E)(body:List S):Nat->List Int->St->Rx Rt
 | 0,_,st=>.bad 20 st
 | n+1,vals,st=>(evS d Sn c p vals cond st).bind fun a st=>if a=0 then .ok (vals,none) st else (Sn c p body vals st).bind fun r st=>match r.2 with
  | some _=>.ok r st
  | none=>(qKB F st).bind fun _ st=>whX cond body n r.1 st
def bodyX(n:Nat)(s:S)(vals:List Int)(st:St):Rx Rt :=
 if s.op=1 then (evS d Sn c p vals (s.es.getD 0 noE) st).bind fun v st=>setX d p s.s v vals st
 else if s.op=2 then (evS d Sn c p vals (s.es.getD 0 noE) st).bind fun a st=>(evS d Sn c p vals (s.es.getD 1 noE) st).bind fun v st=>(putX d a v s.s st).bind fun _ st=>.ok (vals,none) st
 else if s.op=3 then (evS d Sn c p vals (s.es.getD 0 noE) st).bind fun a st=>if a=0 then Sn c p s.xs vals st else Sn c p s.ls vals st
 else if s.op=4 then whX d F Sn c p (s.es.getD 0 noE) s.ls n vals st
 else if s.op=5 then match s.es with
  | []=>.ok (vals,some 0) st
  | e::_=>(evS d Sn c p vals e st).bind fun v st=>.ok (vals,some v) st
 else if s.op=6 then (evS d Sn c p vals (s.es.getD 0 noE) st).bind fun _ st=>.ok (vals,none) st
 else .ok (vals,none) st
def stX(n:Nat)(s:S)(vals:List Int)(st:St):Rx Rt:=(qKB F st).bind fun _ st=>bodyX d F Sn c p n s vals st
end
def qHa(f:S->List Int->St->Rx Rt):List S->List Int->St->Rx Rt
 | [],vals,st=>.ok (vals,none) st
 | s::l,vals,st=>(f s vals st).bind fun r st=>match r.2 with
  | some _=>.ok r st
  | none=>qHa f l r.1 st
def qGa(F:Nat):Nat->Sf
 | 0=>fun _ _ _ _ st=>.bad 20 st
 | n+1=>fun c p l vals st=>qHa (stX d F (qGa F n) c p (n+1)) l vals st
def qCo(F:Nat)(i:Int)(args:List Int)(st:St):Rx Int:=qEl d (qGa d F (F+1)) 0 i args st
end
variable{d:Ds}
theorem evXs_map(C:Cf)(p:Pr)(vals:List Int):∀k:List E,evXs d C p vals k=k.map (evX d C p vals)
 | []=>by unfold evXs;rfl
 | e::es=>by unfold evXs;rw[evXs_map C p vals es];rfl
theorem evX_eq(C:Cf)(p:Pr)(vals:List Int)(e:E)(st:St):evX d C p vals e st=qDz d C p vals (intB d (qAn d p) e.k) e.op e.n e.s (e.k.map (evX d C p vals)) st:=by
 cases e;unfold evX;rw[evXs_map];rfl
theorem kidX_at{f:E->St->Rx Int}{k:List E}{i:Nat}{e:E}(h:k[i]?=some e):qFR (k.map f) i=f e:=by
 grind [qFR]
section
variable{C:Cf}{p:Pr}{vals:List Int}{b:Bool}{op n:Int}{s:ByteArray}{ks:List (St->Rx Int)}{st:St}
theorem cX1(h:op=1∨op=2):qDz d C p vals b op n s ks st=.ok n st:=by rcases h with rfl|rfl <;> rfl
theorem cX3(h:op=3):qDz d C p vals b op n s ks st=.ok 0 st:=by subst h;rfl
theorem cX4(h:op=4):qDz d C p vals b op n s ks st=varX d p vals s st:=by subst h;rfl
theorem cX5(h:op=5):qDz d C p vals b op n s ks st=(qFR ks 0 st).bind fun a st=>fldX d a s st:=by subst h;rfl
theorem cX6(h:op=6):qDz d C p vals b op n s ks st=newX d s st:=by subst h;rfl
theorem cX7(h:op=7):qDz d C p vals b op n s ks st=(seqX ks [] st).bind fun l st=>C (qDr d s) l st:=by subst h;rfl
theorem cX8(h:op=8):qDz d C p vals b op n s ks st=(qFR ks 0 st).bind fun a st=>liftR (big (-a)) st:=by subst h;rfl
theorem cX18(h:op=18):qDz d C p vals b op n s ks st=(qFR ks 0 st).bind fun a st=>.ok (1-a) st:=by subst h;rfl
theorem cX24(h:op=24):qDz d C p vals b op n s ks st=(qFR ks 0 st).bind fun a st=>.ok (logV a) st:=by subst h;rfl
theorem cX19(h:op=19):qDz d C p vals b op n s ks st=(qFR ks 0 st).bind fun a st=>if a=0 then .ok 0 st else qFR ks 1 st:=by subst h;rfl
theorem cX20(h:op=20):qDz d C p vals b op n s ks st=(qFR ks 0 st).bind fun a st=>if a=0 then qFR ks 1 st else .ok 1 st:=by subst h;rfl
theorem cX21(h:op=21):qDz d C p vals b op n s ks st=(qFR ks 0 st).bind fun a st=>if a=0 then qFR ks 2 st else qFR ks 1 st:=by subst h;rfl
theorem cXTwo(h:9<=op/\op<=23/\op≠18/\op≠19/\op≠20/\op≠21):qDz d C p vals b op n s ks st=(qFR ks 0 st).bind fun v st=>(qFR ks 1 st).bind fun w st=>liftR (qFr op v w) (cntX b op st):=by
 grind [qDz]
end
end Go.Proofs
namespace Go.Proofs
open Go Go.Sx
section
variable{d:Ds}{sc:Sc}{e:E}{p:Pr}
structure CallK (d:Ds) (sc:Sc) (e:E) (pr:Pr) (i:Nat):Prop where
 idx:qDr d e.s=i
 at_:d.procs[i]?=some pr
 len:e.k.length=pr.params.length
 fit:∀(j:Nat) a f,e.k[j]?=some a->pr.params[j]?=some f->∃u,qAr d sc a=(u,0)/\qDy d u f.ty=true
theorem fitAll_at:∀{l:List ByteArray} {fs:List Fld},qCk d l fs=true->∀(j:Nat) a f,l[j]?=some a->fs[j]?=some f->qDy d a f.ty=true
 | [],_,_,j,a,f,h,_=>by simp at h
 | _::_,[],_,j,a,f,_,h=>by simp at h
 | b::l,g::fs,h,j,a,f,h1,h2=>by
  unfold qCk at h
  rw[Bool.and_eq_true]at h
  cases j with
  | zero=>simp_all
  | succ j=>exact fitAll_at h.2 j a f (by simpa using h1) (by simpa using h2)
theorem callT_ok{s t:ByteArray}{l:List ByteArray}(h:qFp d s l=(t,0)):∃(pr:Pr) (i:Nat),qDr d s=i/\d.procs[i]?=some pr/\l.length=pr.params.length/\qCk d l pr.params=true/\t=pr.result:=by
 unfold qFp qFm at h
 unfold qDr
 rcases qAI (fun x:Pr=>decide (x.name=s)) d.procs with⟨-,q2,-⟩|⟨i,pr,q1,q2,q3,-⟩
 ·simp_all
 grind
theorem callK_of(hk:∀x∈e.k,(qAr d sc x).2=0){t:ByteArray}(h:qFp d e.s (e.k.map fun x=>(qAr d sc x).1)=(t,0)):∃pr i,CallK d sc e pr i/\t=pr.result:=by
 obtain⟨pr,i,h1,h2,h3,h4,h5⟩:=callT_ok h
 refine⟨pr,i,⟨h1,h2,by simpa using h3,fun j a f ha hf=>⟨(qAr d sc a).1,qBv rfl (hk a (List.mem_of_getElem? ha)),fitAll_at h4 j _ f (by simp[ha]) hf⟩⟩,h5⟩
inductive qEU (d:Ds) (sc:Sc) (e:E):ByteArray->Prop where
 | int (h:e.op=1) (hn:0<=e.n/\e.n<=1099511627776):qEU d sc e qAV
 | bool (h:e.op=2) (hn:e.n=0∨e.n=1):qEU d sc e qAt
 | nil (h:e.op=3) (hn:e.n=0):qEU d sc e qKJ
 | var {t} (h:e.op=4) (hl:qBS sc.vars e.s=t) (hne:t≠sE):qEU d sc e t
 | fld {t u} {a:E} (h:e.op=5) (hk:e.k=[a]) (ha:qAr d sc a=(u,0)) (ht:qBX d u e.s=(t,0)):qEU d sc e t
 | new (h:e.op=6) (hn:qAZ d e.s=true):qEU d sc e e.s
 | call {pr:Pr} {i:Nat} (h:e.op=7) (hc:CallK d sc e pr i) (hr:pr.result≠sE):qEU d sc e pr.result
 | neg {a:E} (h:e.op=8) (hk:e.k=[a]) (ha:qAr d sc a=(qAV,0)):qEU d sc e qAV
 | not {a:E} (h:e.op=18) (hk:e.k=[a]) (ha:qAr d sc a=(qAt,0)):qEU d sc e qAt
 | log {a:E} (h:e.op=24) (hk:e.k=[a]) (ha:qAr d sc a=(qAV,0)):qEU d sc e qAV
 | and {a b:E} (h:e.op=19) (hk:e.k=[a,b]) (ha:qAr d sc a=(qAt,0)) (hb:qAr d sc b=(qAt,0)):qEU d sc e qAt
 | or {a b:E} (h:e.op=20) (hk:e.k=[a,b]) (ha:qAr d sc a=(qAt,0)) (hb:qAr d sc b=(qAt,0)):qEU d sc e qAt
 | cond {a b c:E} {t u w} (h:e.op=21) (hk:e.k=[a,b,c]) (ha:qAr d sc a=(qAt,0)) (hb:qAr d sc b=(u,0)) (hc:qAr d sc c=(w,0)) (hu:u=t∨qDy d u t=true) (hw:w=t∨qDy d w t=true) (ht:t=if u=qKJ then w else u):qEU d sc e t
 | eq {a b:E} {u w} (h:e.op=14∨e.op=15) (hk:e.k=[a,b]) (ha:qAr d sc a=(u,0)) (hb:qAr d sc b=(w,0)) (hf:qDy d u w=true∨qDy d w u=true):qEU d sc e qAt
 | cmp {a b:E} (h:e.op=16∨e.op=17) (hk:e.k=[a,b]) (ha:qAr d sc a=(qAV,0)) (hb:qAr d sc b=(qAV,0)):qEU d sc e qAt
 | ari {a b:E} (h:e.op=9∨e.op=10∨e.op=11∨e.op=12∨e.op=13∨e.op=22∨e.op=23) (hk:e.k=[a,b]) (ha:qAr d sc a=(qAV,0)) (hb:qAr d sc b=(qAV,0)):qEU d sc e qAV
theorem kindX(hsc:sc.body=true){t:ByteArray}(hv:VE e)(ht:qAr d sc e=(t,0)):qEU d sc e t:=by
 obtain⟨hk,hn⟩:=qIq ht
 obtain⟨a1,a2,a3,a4⟩:=arityB hv.node
 unfold qFD at hn
 unfold numB at a4
 have one:qAP e.op=1->∃a,e.k=[a]:=fun h=>list1 ((a2 (by omega)).trans h)
 have two:qAP e.op=2->∃a b,e.k=[a,b]:=fun h=>list2 ((a2 (by omega)).trans h)
 have three:qAP e.op=3->∃a b c,e.k=[a,b,c]:=fun h=>list3 ((a2 (by omega)).trans h)
 by_cases h1:e.op=1
 ·rw[if_pos h1]at hn a4
  cases hn;exact .int h1 (of_decide_eq_true a4)
 rw[if_neg h1]at hn a4
 by_cases h2:e.op=2
 ·rw[if_pos h2]at hn a4
  cases hn;exact .bool h2 (of_decide_eq_true a4)
 rw[if_neg h2]at hn a4
 have a4:e.n=0:=of_decide_eq_true a4
 by_cases h3:e.op=3
 ·rw[if_pos h3]at hn
  cases hn;exact .nil h3 a4
 rw[if_neg h3]at hn
 by_cases h4:e.op=4
 ·rw[if_pos h4]at hn
  split at hn
  ·simp at hn
  ·rename_i hne
   simp only[Prod.mk.injEq,and_true]at hn
   exact .var h4 hn (hn ▸ hne)
 rw[if_neg h4]at hn
 by_cases h5:e.op=5
 ·obtain⟨a,ha⟩:=one (by rw[h5];rfl)
  rw[if_pos h5,ha]at hn
  rw[ha]at hk
  exact .fld h5 ha (qBv rfl (hk a (by simp))) hn
 rw[if_neg h5]at hn
 by_cases h6:e.op=6
 ·rw[if_pos h6,if_neg (by rw[hsc];decide)]at hn
  split at hn
  ·simp at hn
  ·rename_i hno
   simp only[Prod.mk.injEq,and_true]at hn
   subst hn
   exact .new h6 (by simpa using hno)
 rw[if_neg h6]at hn
 by_cases h7:e.op=7
 ·rw[if_pos h7]at hn
  unfold qHN at hn
  rw[if_pos hsc]at hn
  split at hn
  ·simp at hn
  ·rename_i hne
   obtain⟨pr,i,hc,rfl⟩:=callK_of hk hn
   exact .call h7 hc fun h=>hne ⟨by rw[hn],by rw[hn];exact h⟩
 rw[if_neg h7]at hn
 by_cases h14:e.op=14∨e.op=15
 ·obtain⟨a,b,hab⟩:=two (by rcases h14 with h|h <;> (rw[h];rfl))
  rw[if_pos h14,hab]at hn
  rw[hab]at hk
  obtain⟨g,rfl⟩:=qBQ hn
  exact .eq h14 hab (qBv rfl (hk a (by simp))) (qBv rfl (hk b (by simp))) (by simpa using g)
 rw[if_neg h14]at hn
 by_cases h16:e.op=16∨e.op=17
 ·obtain⟨a,b,hab⟩:=two (by rcases h16 with h|h <;> (rw[h];rfl))
  rw[if_pos h16,hab]at hn
  rw[hab]at hk
  obtain⟨g,rfl⟩:=qBQ hn
  obtain⟨g1,g2⟩:=allT2 g
  exact .cmp h16 hab (qBv g1 (hk a (by simp))) (qBv g2 (hk b (by simp)))
 rw[if_neg h16]at hn
 by_cases h18:e.op=18∨e.op=19∨e.op=20
 ·rw[if_pos h18]at hn
  rcases h18 with h|h
  ·obtain⟨a,ha⟩:=one (by rw[h];rfl)
   rw[ha]at hn hk
   obtain⟨g,rfl⟩:=qBQ hn
   exact .not h ha (qBv (allT1 g) (hk a (by simp)))
  ·obtain⟨a,b,hab⟩:=two (by rcases h with h|h <;> (rw[h];rfl))
   rw[hab]at hn hk
   obtain⟨g,rfl⟩:=qBQ hn
   obtain⟨g1,g2⟩:=allT2 g
   rcases h with h|h
   ·exact .and h hab (qBv g1 (hk a (by simp))) (qBv g2 (hk b (by simp)))
   ·exact .or h hab (qBv g1 (hk a (by simp))) (qBv g2 (hk b (by simp)))
 rw[if_neg h18]at hn
 by_cases h21:e.op=21
 ·obtain⟨a,b,c,habc⟩:=three (by rw[h21];rfl)
  rw[if_pos h21,habc]at hn
  rw[habc]at hk
  obtain⟨g,g2⟩:=qBQ hn
  simp only[List.map_cons,List.map_nil,List.getD_cons_zero,List.getD_cons_succ,Bool.and_eq_true,decide_eq_true_eq,Bool.or_eq_true]at g g2
  refine .cond h21 habc (qBv g.1 (hk a (by simp))) (qBv rfl (hk b (by simp))) (qBv rfl (hk c (by simp))) ?_ ?_ g2.symm
  ·grind [inr,qDy]
  grind [qDy,absurd,inr]
 rw[if_neg h21]at hn
 obtain⟨g,rfl⟩:=qBQ hn
 have hop:e.op=8∨e.op=24∨(e.op=9∨e.op=10∨e.op=11∨e.op=12∨e.op=13∨e.op=22∨e.op=23):=by
  grind [qAP]
 rcases hop with h|h|h
 ·obtain⟨a,ha⟩:=one (by rw[h];rfl)
  rw[ha]at g hk
  exact .neg h ha (qBv (allT1 g) (hk a (by simp)))
 ·obtain⟨a,ha⟩:=one (by rw[h];rfl)
  rw[ha]at g hk
  exact .log h ha (qBv (allT1 g) (hk a (by simp)))
 ·obtain⟨a,b,hab⟩:=two (by rcases h with h|h|h|h|h|h|h <;> (rw[h];rfl))
  rw[hab]at g hk
  obtain⟨g1,g2⟩:=allT2 g
  exact .ari h hab (qBv g1 (hk a (by simp))) (qBv g2 (hk b (by simp)))
def TyS(d:Ds)(p:Pr)(s:S):Prop:=(∃n,(stT d (qAn d p) p.result n s).2=0)/\∃k,okS k s=true
theorem qHR{res:ByteArray}:∀{l:List S} {n:Int},(qBH d sc res n l).2=0->∀s∈l,∃n',(stT d sc res n' s).2=0
 | [],_,_,s,hs=>by cases hs
 | x::l,n,h,s,hs=>by
  rw[qGb]at h
  split at h
  ·omega
  ·rename_i h'
   rcases List.mem_cons.1 hs with rfl|hs
   ·grind
   ·exact qHR h s hs
theorem qHX{k:Int}:∀{l:List S},qGJ k l=true->∀s∈l,okS k s=true
 | [],_,s,hs=>by cases hs
 | x::l,h,s,hs=>by
  unfold qGJ at h
  rw[Bool.and_eq_true]at h
  rcases List.mem_cons.1 hs with rfl|hs
  ·exact h.1
  ·exact qHX h.2 s hs
theorem okS_eq(k:Int)(s:S):okS k s=(decide (k<=60)&&qBI s.op s.s s.es s.ls.length s.xs.length&&qGJ (k+1) s.ls&&qGJ (k+1) s.xs):=by cases s;unfold okS;rfl
theorem TyS.parts{s:S}(h:TyS d p s):qEw d (qAn d p) p.result s.op s.s s.es=0/\qGe s.op s.s s.es s.ls.length s.xs.length=true/\(∀e∈s.es,qAJ e=true)/\(∀x∈s.ls,TyS d p x)/\∀x∈s.xs,TyS d p x:=by
 obtain⟨⟨n,h1⟩,k,h2⟩:=h
 rw[okS_eq]at h2
 simp only[Bool.and_eq_true]at h2
 obtain⟨⟨⟨-,h3⟩,h4⟩,h5⟩:=h2
 unfold qBI at h3
 rw[Bool.and_eq_true,List.all_eq_true]at h3
 rw[stT_eq]at h1
 split at h1
 ·omega
 ·rename_i h'
  split at h1
  ·omega
  ·rename_i h6
   exact⟨by simpa using h',h3.1,h3.2,fun x hx=>⟨qHR (by simpa using h6) x hx,_,qHX h4 x hx⟩,fun x hx=>⟨qHR h1 x hx,_,qHX h5 x hx⟩⟩
inductive KindS (d:Ds) (p:Pr) (s:S):Prop where
 | set {e:E} {u t:ByteArray} (h:s.op=1) (he:s.es=[e]) (hv:qAJ e=true) (ht:qAr d (qAn d p) e=(u,0)) (hl:qBS (qAn d p).vars s.s=t) (hne:t≠sE) (hf:qDy d u t=true)
 | put {a e:E} {u w t:ByteArray} (h:s.op=2) (he:s.es=[a,e]) (hv:qAJ a=true) (hw:qAJ e=true) (ha:qAr d (qAn d p) a=(u,0)) (ht:qAr d (qAn d p) e=(w,0)) (hl:qBX d u s.s=(t,0)) (hf:qDy d w t=true)
 | cond {e:E} (h:s.op=3) (he:s.es=[e]) (hv:qAJ e=true) (ht:qAr d (qAn d p) e=(qAt,0))
 | loop {e:E} (h:s.op=4) (he:s.es=[e]) (hv:qAJ e=true) (ht:qAr d (qAn d p) e=(qAt,0))
 | ret0 (h:s.op=5) (he:s.es=[]) (hr:p.result=sE)
 | ret1 {e:E} {u:ByteArray} (h:s.op=5) (he:s.es=[e]) (hv:qAJ e=true) (ht:qAr d (qAn d p) e=(u,0)) (hr:p.result≠sE) (hf:qDy d u p.result=true)
 | call {e:E} {pr:Pr} {i:Nat} (h:s.op=6) (he:s.es=[e]) (hv:qAJ e=true) (ho:e.op=7) (hc:CallK d (qAn d p) e pr i)
theorem kindS{s:S}(h:TyS d p s):KindS d p s:=by
 obtain⟨h1,h2,h3,-⟩:=h.parts
 unfold qEw at h1
 unfold qGe at h2
 by_cases o6:s.op=6
 ·rw[if_pos o6]at h1
  rw[if_neg (by omega),if_neg (by omega),if_neg (by omega),if_neg (by omega),if_neg (by omega),if_pos o6]at h2
  obtain⟨-,h4,h5,-⟩:=of_decide_eq_true h2
  obtain⟨e,he⟩:=list1 h4
  rw[he]at h1 h5
  simp only at h1
  split at h1
  ·omega
  ·rename_i h'
   obtain⟨q1,q2⟩:=qFd d (qAn d p) e.k [] (by simpa using h')
   rw[q2,List.nil_append]at h1
   obtain⟨pr,i,hc,-⟩:=callK_of (t:=(qFp d e.s (e.k.map fun x=>(qAr d (qAn d p) x).1)).1) q1 (Prod.ext rfl h1)
   exact .call o6 he (h3 e (by rw[he];simp)) h5 hc
 rw[if_neg o6]at h1
 split at h1
 ·omega
 rename_i h'
 obtain⟨q1,q2⟩:=qFd d (qAn d p) s.es [] (by simpa using h')
 rw[q2,List.nil_append]at h1
 have ty:∀{e:E},e∈s.es->qAr d (qAn d p) e=((qAr d (qAn d p) e).1,0):=fun he=>qBv rfl (q1 _ he)
 by_cases o1:s.op=1
 ·rw[if_pos o1]at h1
  rw[if_pos o1,Bool.and_eq_true]at h2
  obtain⟨e,he⟩:=list1 (of_decide_eq_true h2.2).1
  have hm:e∈s.es:=by rw[he];simp
  split at h1
  ·cases h1
  rename_i hne
  split at h1
  ·rename_i hf
   rw[he]at hf
   exact .set o1 he (h3 e hm) (ty hm) rfl hne hf
  ·cases h1
 rw[if_neg o1]at h1 h2
 by_cases o2:s.op=2
 ·rw[if_pos o2]at h1
  rw[if_pos o2,Bool.and_eq_true]at h2
  obtain⟨a,e,he⟩:=list2 (of_decide_eq_true h2.2).1
  have hm:a∈s.es:=by rw[he];simp
  have hm2:e∈s.es:=by rw[he];simp
  split at h1
  ·omega
  rename_i h4
  split at h1
  ·rename_i hf
   rw[he]at hf h4
   simp only[List.map_cons,List.getD_cons_zero,List.getD_cons_succ]at hf h4
   exact .put o2 he (h3 a hm) (h3 e hm2) (ty hm) (ty hm2) (Prod.ext rfl (by simpa using h4)) hf
  ·cases h1
 rw[if_neg o2]at h1 h2
 by_cases o3:s.op=3
 ·rw[if_pos (.inl o3)]at h1
  rw[if_pos o3]at h2
  obtain⟨e,he⟩:=list1 (of_decide_eq_true h2).2
  have hm:e∈s.es:=by rw[he];simp
  split at h1
  ·rename_i hf
   rw[he]at hf
   exact .cond o3 he (h3 e hm) (qBv hf (q1 e hm))
  ·cases h1
 rw[if_neg o3]at h2
 by_cases o4:s.op=4
 ·rw[if_pos (.inr o4)]at h1
  rw[if_pos o4]at h2
  obtain⟨e,he⟩:=list1 (of_decide_eq_true h2).2.1
  have hm:e∈s.es:=by rw[he];simp
  split at h1
  ·rename_i hf
   rw[he]at hf
   exact .loop o4 he (h3 e hm) (qBv hf (q1 e hm))
  ·cases h1
 rw[if_neg (by omega)]at h1
 rw[if_neg o4]at h2
 by_cases o5:s.op=5
 ·rw[if_pos o5]at h1 h2
  obtain⟨-,hl,-⟩:=of_decide_eq_true h2
  cases he:s.es with
  | nil =>
   rw[he]at h1
   simp only[List.map_nil,List.length_nil,if_true]at h1
   split at h1
   ·rename_i hr;exact .ret0 o5 he hr
   ·cases h1
  | cons e r =>
   have hr:r=[]:=by
    grind
   subst hr
   have hm:e∈s.es:=by rw[he];simp
   rw[he]at h1
   simp only[List.map_cons,List.map_nil,List.length_cons,List.length_nil,List.getD_cons_zero]at h1
   rw[if_neg (by omega)]at h1
   split at h1
   ·rename_i hf;exact .ret1 o5 he (h3 e hm) (ty hm) hf.1 hf.2
   ·cases h1
 simp_all
structure qDe (d:Ds) (p:Pr):Prop where
 body:∀s∈p.body,TyS d p s
 vars:∀f∈p.vars,qBf d f.ty=true
 res:p.result=sE∨qBf d p.result=true
 lens:p.params.length<=6/\p.locals.length<=12
theorem oneT_known{l:List Fld}{i:Nat}{f:Fld}(h:qEq d l i f=0):qBf d f.ty=true:=by
 grind [qEq]
theorem declT_known{l:List Fld}(h:qCm d l=0):∀f∈l,qBf d f.ty=true:=by
 intro f hf
 obtain⟨i,hi⟩:=List.mem_iff_getElem?.1 hf
 unfold qCm at h
 cases hq:qAh (fun i f=>if qEq d l i f≠0 then some (qEq d l i f) else none) 0 l with
 | none =>
  grind [qFh,oneT_known]
 | some b =>
  exfalso
  rw[hq]at h
  simp only[Option.getD_some]at h
  subst h
  have key:∀(l':List Fld) (i:Nat),qAh (fun i f=>if qEq d l i f≠0 then some (qEq d l i f) else none) i l'≠some 0:=by
   intro l'
   induction l' with
   | nil=>intro i h;cases h
   | cons x l' ih =>
    grind [qAh,qEq]
  exact key l 0 hq
theorem qHU(hv:qAB d=true)(hc:qHD d=none):∀p∈d.procs,qDe d p:=by
 intro p hp
 obtain⟨i,hi⟩:=List.mem_iff_getElem?.1 hp
 unfold qHD at hc
 obtain⟨-,h⟩:=qKW hc
 obtain⟨hh,h⟩:=qKW h
 obtain⟨-,h⟩:=qKW h
 obtain⟨hb,-⟩:=qKW h
 unfold qEp at hh
 unfold qCt at hb
 have a1:=qFh hh i p hi
 have a2:=qFh hb i p hi
 unfold qAB at hv
 simp only[Bool.and_eq_true,List.all_eq_true]at hv
 have hpb:=hv.1.2 p hp
 unfold prB at hpb
 simp only[Bool.and_eq_true]at hpb
 obtain⟨⟨⟨⟨-,f1⟩,f2⟩,-⟩,hs⟩:=hpb
 unfold qDg at f1 f2
 rw[Bool.and_eq_true,decide_eq_true_eq]at f1 f2
 have l1:=f1.1
 have l2:=f2.1
 refine⟨fun s hsm=>⟨?_,1,qHX (of_decide_eq_true hs).1 s hsm⟩,?_,?_,by omega,by omega⟩
 ·grind [qHR]
 ·split at a1
  ·cases a1
  split at a1
  ·cases a1
  rename_i h'
  have h':qCm d (p.params++p.locals)=0:=by simpa using h'
  exact declT_known h'
 grind
end
end Go.Proofs
namespace Go.Proofs
open Go Go.Sx
section
variable{d:Ds}{F:Nat}
def Rx.st{α:Type}:Rx α->St | .ok _ s=>s | .bad _ s=>s
inductive qKu:Nat->List (Int×Int×Int)->Nat->Prop where
 | nil (n:Nat):qKu n [] n
 | acc {n m:Nat} {k a f:Int} {l:List (Int×Int×Int)} (hk:k=1∨k=2) (h0:0<=a) (h1:a<=(n:Int)) (h2:0<=f) (h:qKu n l m):qKu n ((k,a,f)::l) m
 | alloc {n m:Nat} {f:Int} {l:List (Int×Int×Int)} (h2:0<=f) (h:qKu (n+1) l m):qKu n ((3,(n:Int)+1,f)::l) m
theorem qKu.app{n m k:Nat}{l l':List (Int×Int×Int)}(h:qKu n l m)(h':qKu m l' k):qKu n (l++l') k:=by
 induction h with
 | nil=>exact h'
 | acc a b c d _ ih=>grind [acc]
 | alloc a _ ih=>exact .alloc a (ih h')
abbrev Gm:=List Int×List (Int×List Int)
inductive Tra:Gm->List (Int×Int×Int)->Gm->Prop where
 | nil (x:Gm):Tra x [] x
 | rd {x y:Gm} {l:List (Int×Int×Int)} {n f:Int} (h:Tra x l y):Tra x ((1,n,f)::l) y
 | wg {g:List Int} {ns:List (Int×List Int)} {y:Gm} {l:List (Int×Int×Int)} {i:Nat} {v:Int} (hi:i<g.length) (h:Tra (g.set i v,ns) l y):Tra (g,ns) ((2,0,(i:Int))::l) y
 | wf {g:List Int} {ns:List (Int×List Int)} {y:Gm} {l:List (Int×Int×Int)} {k i:Nat} {ty v:Int} {f:List Int} (hk:ns[k]?=some (ty,f)) (hi:i<f.length) (h:Tra (g,ns.set k (ty,f.set i v)) l y):Tra (g,ns) ((2,(k:Int)+1,(i:Int))::l) y
 | al {g:List Int} {ns:List (Int×List Int)} {y:Gm} {l:List (Int×Int×Int)} {ty:Int} {n:Nat} (h:Tra (g,ns++[(ty,List.replicate n 0)]) l y):Tra (g,ns) ((3,(ns.length:Int)+1,ty)::l) y
theorem Tra.app{x y z:Gm}{l l':List (Int×Int×Int)}(h:Tra x l y)(k:Tra y l' z):Tra x (l++l') z:=by
 induction h with
 | nil=>exact k
 | rd _ ih=>exact .rd (ih k)
 | wg hi _ ih=>exact .wg hi (ih k)
 | wf hk hi _ ih=>grind [wf]
 | al _ ih=>exact .al (ih k)
structure Gr (F n:Nat) (s s':St):Prop where
 ty:∀(i:Nat) x,s.ns[i]?=some x->∃y,s'.ns[i]?=some y/\y.1=x.1
 tk:s.tk<=s'.tk
 fu:s.tk<=F->s'.tk<=F
 lg:∃l,s'.lg=s.lg++l/\qKu s.ns.length l s'.ns.length/\((∀a∈l,a.1=1)->s'.g=s.g/\s'.ns=s.ns)
 w:s'.lg.length+s'.cm+4000*s.tk<=s.lg.length+s.cm+n+4000*s'.tk
 tr:∃l,s'.lg=s.lg++l/\Tra (s.g,s.ns) l (s'.g,s'.ns)
theorem Gr.refl(s:St):Gr F 0 s s:=⟨fun _ x h=>⟨x,h,rfl⟩,Nat.le_refl _,fun h=>h,⟨[],by simp,.nil _,fun _=>⟨rfl,rfl⟩⟩,by omega,⟨[],by simp,.nil _⟩⟩
theorem Gr.trans{n m:Nat}{a b c:St}(h:Gr F n a b)(k:Gr F m b c):Gr F (n+m) a c:=⟨fun i x hx=>by
 obtain⟨y,h1,h2⟩:=h.ty i x hx
 obtain⟨z,h3,h4⟩:=k.ty i y h1
 simp_all,Nat.le_trans h.tk k.tk,fun e=>k.fu (h.fu e),by
 obtain⟨l,e1,e2,e3⟩:=h.lg
 obtain⟨l',e1',e2',e3'⟩:=k.lg
 refine⟨l++l',by simp_all,e2.app e2',fun ha=>?_⟩
 simp_all,by have:=h.w;have:=k.w;omega,by
 obtain⟨l,e1,e2⟩:=h.tr
 obtain⟨l',e1',e2'⟩:=k.tr
 exact⟨l++l',by simp_all,e2.app e2'⟩⟩
theorem Gr.le{n m:Nat}{a b:St}(h:Gr F n a b)(hn:n<=m):Gr F m a b:=⟨h.ty,h.tk,h.fu,h.lg,by have:=h.w;omega,h.tr⟩
theorem Gr.len{n:Nat}{a b:St}(h:Gr F n a b):a.ns.length<=b.ns.length:=by
 cases hk:a.ns.length with
 | zero=>omega
 | succ k =>
  obtain⟨y,hy,-⟩:=h.ty k _ (List.getElem?_eq_getElem (by omega))
  grind
theorem qIQ{s:St}{i:Nat}:s.mm.nodes[i]?=(s.ns[i]?).map fun n=>⟨n.1,qAC,n.2⟩:=List.getElem?_map ..
theorem mm_len{s:St}:s.mm.nodes.length=s.ns.length:=List.length_map ..
theorem qGT{m m':Mm}(hl:m.nodes.length<=m'.nodes.length)(hn:∀(i:Nat) x,m.nodes[i]?=some x->∃y,m'.nodes[i]?=some y/\y.ty=x.ty){t:ByteArray}{v:Int}(h:qAw d m t v=true):qAw d m' t v=true:=by
 unfold qAw at h ⊢
 split
 ·simp_all
 rename_i h1
 rw[if_neg h1]at h
 split
 ·simp_all
 rename_i h2
 rw[if_neg h2,decide_eq_true_eq]at h
 refine decide_eq_true ?_
 rcases h with h|⟨p1,p2,p3⟩
 ·exact .inl h
 ·refine .inr ⟨p1,by omega,?_⟩
  cases hx:m.nodes[(v-1).toNat]? with
  | none=>simp_all
  | some x =>
   rw[hx]at p3
   obtain⟨y,e1,e2⟩:=hn _ _ hx
   simp_all
theorem Gr.right{n:Nat}{a b:St}(h:Gr F n a b){t:ByteArray}{v:Int}(hr:qAw d a.mm t v=true):qAw d b.mm t v=true:=by
 refine qGT (m:=a.mm) (by rw[mm_len,mm_len];exact h.len) (fun i x hx=>?_) hr
 rw[qIQ]at hx
 cases hy:a.ns[i]? with
 | none=>simp_all
 | some y =>
  rw[hy]at hx;cases hx
  obtain⟨z,e1,e2⟩:=h.ty i y hy
  simp_all [qAC,qIQ]
theorem Gr.val{n:Nat}{a b:St}(h:Gr F n a b){t:ByteArray}{v:Int}(hr:qBV d a.mm t v):qBV d b.mm t v:=by
 unfold qBV at hr ⊢
 split
 ·simp_all
 ·rename_i h1;rw[if_neg h1]at hr;exact h.right hr
theorem qAG{m:Mm}{l:List Fld}{vs:List Int}:qAi d m l vs=true↔l.length=vs.length/\∀(j:Nat) f v,l[j]?=some f->vs[j]?=some v->qAw d m f.ty v=true:=by
 unfold qAi
 rw[Bool.and_eq_true,decide_eq_true_eq,qDq]
 grind [tyAt]
theorem qAo{m m':Mm}(hr:∀{t v},qAw d m t v=true->qAw d m' t v=true){l:List Fld}{vs:List Int}(h:qAi d m l vs=true):qAi d m' l vs=true:=by
 grind [qAG]
theorem qGO{m:Mm}{l:List Fld}{vs:List Int}(h:qAi d m l vs=true){i:Nat}{f:Fld}(hf:l[i]?=some f){v:Int}(hv:qAw d m f.ty v=true):qAi d m l (vs.set i v)=true:=by
 grind [qAG,List.length_set]
theorem qID(hv:qAB d=true){m:Mm}{t:ByteArray}(h:qBf d t=true):qAw d m t 0=true:=by
 unfold qBf at h
 simp only[Bool.or_eq_true,decide_eq_true_eq]at h
 rcases h with (rfl|rfl) | h
 ·rfl
 ·rfl
 ·exact qJX (qEG hv h)
theorem qFy(hv:qAB d=true){m:Mm}{l:List Fld}(h:∀f∈l,qBf d f.ty=true):qAi d m l (List.replicate l.length 0)=true:=by
 grind [qAG,qID,List.mem_of_getElem?]
theorem qEV{m:Mm}{l l':List Fld}{vs vs':List Int}(h:qAi d m l vs=true)(h':qAi d m l' vs'=true):qAi d m (l++l') (vs++vs')=true:=by
 grind [qAG,List.length_append,List.getElem?_append_left,List.getElem?_append_right]
theorem qFW{m:Mm}(h1:qJz d=true)(h2:m.nodes.length<=4096)(h3:∀n∈m.nodes,qDn d n=true)(h4:qAi d m d.globals m.globals=true)(h5:∀n∈m.nodes,qAi d m (qAq d n.ty) n.f=true):qAu d m=true:=by
 grind [qAu]
structure RxP {α:Type} (d:Ds) (F n:Nat) (s:St) (r:Rx α) (Q:α->St->Prop):Prop where
 good:qAv d r.st.mm
 gr:Gr F n s r.st
 q:∀v s',r=.ok v s'->Q v s'
section
variable{α β:Type}{n m:Nat}{s:St}{r:Rx α}{Q:α->St->Prop}
theorem RxP.ok{v:α}(G:qAv d s.mm)(h:Q v s):RxP d F 0 s (.ok v s) Q:=⟨G,Gr.refl s,fun _ _ e=>by cases e;exact h⟩
theorem RxP.bad{c:Int}(G:qAv d s.mm):RxP d F 0 s (.bad c s:Rx α) Q:=⟨G,Gr.refl s,fun _ _ e=>by cases e⟩
theorem RxP.le(h:RxP d F n s r Q)(hn:n<=m):RxP d F m s r Q:=⟨h.good,h.gr.le hn,h.q⟩
theorem RxP.mono{Q':α->St->Prop}(h:RxP d F n s r Q)(k:∀v s',r=.ok v s'->Q v s'->Q' v s'):RxP d F n s r Q':=⟨h.good,h.gr,fun v s' e=>k v s' e (h.q v s' e)⟩
theorem RxP.bind{f:α->St->Rx β}{Q':β->St->Prop}(h:RxP d F n s r Q)(k:∀v s',r=.ok v s'->Q v s'->qAv d s'.mm->Gr F n s s'->RxP d F m s' (f v s') Q'):RxP d F (n+m) s (r.bind f) Q':=by
 cases r with
 | ok v s' =>
  have H:=k v s' rfl (h.q v s' rfl) h.good h.gr
  exact⟨H.good,h.gr.trans H.gr,H.q⟩
 | bad c s'=>exact⟨h.good,h.gr.le (by omega),fun _ _ e=>by cases e⟩
end
section
variable{s:St}(G:qAv d s.mm)
include G
omit G in
theorem qLf{n:Nat}{r:Rs}{s':St}(G':qAv d s'.mm)(g:Gr F n s s'){Q:Int->St->Prop}(h:∀v,r=.ok v->Q v s'):RxP d F n s (liftR r s') Q:=by
 cases r with
 | ok v=>exact⟨G',g,fun _ _ e=>by cases e;exact h v rfl⟩
 | bad c=>exact⟨G',g,fun _ _ e=>by cases e⟩
theorem qIo{p:Pr}{vals:List Int}(hv:qAi d s.mm p.vars vals=true)(P:∀f∈p.vars,qBf d f.ty=true){nm t:ByteArray}(hl:qBS (qAn d p).vars nm=t)(hne:t≠sE) :
  (∃(i:Nat) (f:Fld) (v:Int),qGK p.vars nm=i/\p.vars[i]?=some f/\vals[i]?=some v/\f.ty=t/\qBV d s.mm t v/\varX d p vals nm s=.ok v s) ∨
  ∃(i:Nat) (f:Fld) (v:Int),qGK p.vars nm=-1/\qGK d.globals nm=i/\d.globals[i]?=some f/\s.g[i]?=some v/\f.ty=t/\qBV d s.mm t v/\varX d p vals nm s=.ok v (s.note (1,0,i)):=by
 obtain⟨p1,-,-,p4,-⟩:=qAj G.mem
 have hl:qBS (p.vars++d.globals) nm=t:=hl
 have app:∀(a b:List Fld),qBS (a++b) nm=if 0<=qGK a nm then qBS a nm else qBS b nm:=fun a b=>by
  rw[qDI,qDI,qDI,List.find?_append]
  unfold qGK
  rcases qAI (fun f:Fld=>decide (f.name=nm)) a with⟨h1,h2,-⟩|⟨i,x,h1,-,h3,-⟩
  ·grind
  simp_all
 rw[app]at hl
 by_cases h0:0<=qGK p.vars nm
 ·left
  rw[if_pos h0]at hl
  rcases qEI p.vars nm with⟨c1,-⟩|⟨i,f,c1,c2,c3,-⟩
  ·simp_all
  ·obtain⟨v,hv1,hv2⟩:=qFV hv c2
   have e:f.ty=t:=c3.symm.trans hl
   refine⟨i,f,v,c1,c2,hv1,e,?_,?_⟩
   ·rw[<- e];exact(qBu G.valid (P f (List.mem_of_getElem? c2))).2 hv2
   grind [varX]
 ·right
  rw[if_neg h0]at hl
  rcases qEI d.globals nm with⟨c1,-⟩|⟨i,f,c1,c2,c3,-⟩
  ·simp_all
  ·obtain⟨v,hv1,hv2⟩:=qFV p4 c2
   have e:f.ty=t:=c3.symm.trans hl
   have hkn:qBf d f.ty=true:=List.all_eq_true.1 (qBL p1).1 f (List.mem_of_getElem? c2)
   refine⟨i,f,v,?_,c1,c2,hv1,e,?_,?_⟩
   ·rcases qEI p.vars nm with⟨-,c⟩|⟨j,_,c,-⟩
    ·exact c
    omega
   ·rw[<- e];exact(qBu G.valid hkn).2 hv2
   ·unfold varX;rw[if_neg h0,c1,Int.toNat_natCast]
    have hv1:s.g[i]?=some v:=hv1
    rw[hv1];rfl
theorem qHZ{t nm ty:ByteArray}(ht:qBX d t nm=(ty,0)){a:Int}(ha:qBV d s.mm t a)(h0:a≠0) :
  ∃(q i j:Nat) (tt:Ty) (f:Fld) (fs:List Int) (v:Int),a=(q:Int)+1/\s.ns[q]?=some ((j:Int),fs)/\d.types[j]?=some tt/\tt∈d.types/\qAq d j=tt.fields/\qGK tt.fields nm=i/\tt.fields[i]?=some f/\fs[i]?=some v/\qBV d s.mm ty v/\f.ty=ty/\qBf d ty=true:=by
 obtain⟨n,i,j,tt,f,v,b1,-,b3,b4,b5,b6,b7,b8,b9,b10,b11,-,b13⟩:=fld_ok G ht ha h0
 obtain⟨q,rfl⟩:∃q:Nat,a=(q:Int)+1:=⟨(a-1).toNat,by omega⟩
 rw[show ((q:Int)+1-1).toNat=q by omega,qIQ]at b1
 cases hx:s.ns[q]? with
 | none=>simp_all
 | some x =>
  rw[hx]at b1;cases b1
  obtain⟨p1,-⟩:=qAj G.mem
  have hkn:qBf d f.ty=true:=List.all_eq_true.1 ((qBL p1).2.2 tt b7) f (List.mem_of_getElem? b9)
  exact⟨q,i,j,tt,f,x.2,v,rfl,by rw[hx,<- b5],b6,b7,qAS b6 rfl,b8,b9,b10,b11,b13,b13 ▸ hkn⟩
omit G in
theorem gr_note{a f:Int}(h0:0<=a)(h1:a<=(s.ns.length:Int))(h2:0<=f):Gr F 1 s (s.note (1,a,f)):=⟨fun _ x h=>⟨x,h,rfl⟩,Nat.le_refl _,fun h=>h,⟨[(1,a,f)],rfl,.acc (.inl rfl) h0 h1 h2 (.nil _),fun _=>⟨rfl,rfl⟩⟩,by show (s.lg++[_]).length+_+_<=_;rw[List.length_append,List.length_singleton];show s.lg.length+1+s.cm+4000*s.tk<=s.lg.length+s.cm+1+4000*s.tk;omega,⟨[(1,a,f)],rfl,.rd (.nil _)⟩⟩
omit G in
theorem gr_cnt{b:Bool}{op:Int}:Gr F 1 s (cntX b op s):=by
 unfold cntX
 split
 ·exact⟨fun _ x h=>⟨x,h,rfl⟩,Nat.le_refl _,fun h=>h,⟨[],by simp,.nil _,fun _=>⟨rfl,rfl⟩⟩,by grind,⟨[],by simp,.nil _⟩⟩
 ·exact(Gr.refl s).le (by omega)
theorem qLm{b:Bool}{op:Int}:qAv d (cntX b op s).mm:=by
 unfold cntX
 split
 ·exact⟨G.valid,G.chk,G.mem⟩
 ·exact G
theorem new_snd{nm:ByteArray}(hn:qAZ d nm=true):RxP d F 1 s (newX d nm s) fun v s'=>qBV d s'.mm nm v:=by
 unfold newX
 split
 ·exact(RxP.bad G).le (by omega)
 rename_i hlen
 obtain⟨p1,p2,p3,p4,p5⟩:=qAj G.mem
 have hname:=qEG G.valid hn
 obtain⟨tt,htm,hte⟩:=List.any_eq_true.1 hn
 have hte:tt.name=nm:=of_decide_eq_true hte
 obtain⟨j,hj⟩:=List.mem_iff_getElem?.1 htm
 have hidx:qDx d nm=(j:Int):=hte ▸ (qBL p1).2.1 j tt hj
 have hjl:=(List.getElem?_eq_some_iff.1 hj).1
 rw[hidx]
 have hfo:qAq d (j:Int)=tt.fields:=qAS hj rfl
 rw[hfo]
 obtain⟨s',hs'⟩:∃s':St,s'={ s with ns:=s.ns++[((j:Int),List.replicate tt.fields.length 0)],lg:=s.lg++[(3,(s.ns.length:Int)+1,(j:Int))] }:=⟨_,rfl⟩
 rw[<- hs']
 have g:Gr F 1 s s':=by
  rw[hs']
  refine⟨fun i x hx=>⟨x,?_,rfl⟩,Nat.le_refl _,fun h=>h,⟨[_],rfl,.alloc (by omega) ?_,fun h=>(by simp_all)⟩,?_,⟨[_],rfl,.al (.nil _)⟩⟩
  ·grind
  ·grind [qKu,List.length_append,List.length_singleton]
  grind
 have hnodes:s'.mm.nodes=s.mm.nodes++[⟨(j:Int),qAC,List.replicate tt.fields.length 0⟩]:=by rw[hs'];simp[St.mm]
 have G':qAv d s'.mm:=by
  refine⟨G.valid,G.chk,qFW p1 ?_ (fun n hm=>?_) ?_ fun n hm=>?_⟩
  ·grind [List.length_append,List.length_singleton,mm_len]
  ·rw[hnodes]at hm
   rcases List.mem_append.1 hm with hm|hm
   ·exact p3 n hm
   ·rw[List.mem_singleton.1 hm];exact decide_eq_true ⟨by simp_all,by simp_all⟩
  ·have:s'.mm.globals=s.mm.globals:=by rw[hs'];rfl
   rw[this];exact qAo (fun h=>g.right h) p4
  ·rw[hnodes]at hm
   rcases List.mem_append.1 hm with hm|hm
   ·exact qAo (fun h=>g.right h) (p5 n hm)
   ·rw[List.mem_singleton.1 hm]
    show qAi d s'.mm (qAq d (j:Int)) (List.replicate tt.fields.length 0)=true
    rw[hfo]
    exact qFy G.valid fun f hf=>List.all_eq_true.1 ((qBL p1).2.2 tt htm) f hf
 refine⟨G',g,fun v s2 e=>?_⟩
 cases e
 unfold qBV qAw
 rw[if_neg (qEa hname kwNil),if_neg (qEa hname kwInt),if_neg (qEa hname kwBool),decide_eq_true_eq]
 grind [inr,List.length_append,List.length_singleton,mm_len,Int,List.getElem?_concat_length]
end
def CSnd(d:Ds)(F:Nat)(C:Cf):Prop:=∀(i:Nat) pr args s,d.procs[i]?=some pr->qAv d s.mm->qAi d s.mm pr.params args=true->RxP d F 0 s (C i args s) fun v s'=>pr.result≠sE->qBV d s'.mm pr.result v
theorem szEs_sum:∀l:List E,szEs l=(l.map szE).sum
 | []=>by unfold szEs;rfl
 | e::l=>by unfold szEs;rw[szEs_sum l];rfl
theorem szE_eq(e:E):szE e=1+(e.k.map szE).sum:=by cases e;unfold szE;rw[szEs_sum];rfl
theorem seq_snd{sc:Sc}{f:E->St->Rx Int}:∀(k:List E) (fs:List Fld) (acc:List Int) (gs:List Fld) (s:St),qAv d s.mm->qAi d s.mm gs acc=true->k.length=fs.length->(∀f∈fs,qBf d f.ty=true) ->
  (∀(j:Nat) a g,k[j]?=some a->fs[j]?=some g->∃u,qAr d sc a=(u,0)/\qDy d u g.ty=true) ->
  (∀a∈k,∀(u:ByteArray) (s1:St) (n:Nat),qAr d sc a=(u,0)->qAv d s1.mm->Gr F n s s1->RxP d F (szE a) s1 (f a s1) fun v s'=>qBV d s'.mm u v) ->
  RxP d F (k.map szE).sum s (seqX (k.map f) acc s) fun l s'=>qAi d s'.mm (gs++fs) l=true
 | [],fs,acc,gs,s,G,ha,hl,_,_,_=>by
  obtain rfl:fs=[]:=List.eq_nil_of_length_eq_zero (by grind)
  rw[List.append_nil]
  exact RxP.ok G ha
 | a::k,fs,acc,gs,s,G,ha,hl,hkn,ht,H=>by
  cases fs with
  | nil=>simp at hl
  | cons g fs =>
   obtain⟨u,hu,hfit⟩:=ht 0 a g rfl rfl
   have h1:=H a List.mem_cons_self u s 0 hu G (Gr.refl s)
   rw[List.map_cons,List.map_cons,List.sum_cons]
   show RxP d F _ s ((f a s).bind fun v st=>seqX (k.map f) (acc++[v]) st) _
   refine h1.bind fun v s1 _ hv G1 g1=>?_
   have hv':=(qBu G.valid (hkn g List.mem_cons_self)).1 (qCr G.valid hfit hv)
   have ha1:qAi d s1.mm (gs++[g]) (acc++[v])=true:=qEV (qAo (fun h=>g1.right h) ha) (qAG.2 ⟨rfl,fun j f w hf hw=>by
    grind⟩)
   have:=seq_snd k fs (acc++[v]) (gs++[g]) s1 G1 ha1 (by simpa using hl) (fun f hf=>hkn f (List.mem_cons_of_mem _ hf)) (fun j a g ha hg=>ht (j+1) a g (by simpa using ha) (by simpa using hg)) (fun b hb u s2 n hu G2 g2=>H b (List.mem_cons_of_mem _ hb) u s2 _ hu G2 (g1.trans g2))
   simp_all
theorem qEA(hp:∀p∈d.procs,qDe d p){i:Nat}{pr:Pr}(h:d.procs[i]?=some pr):∀f∈pr.params,qBf d f.ty=true:=fun f hf=>(hp pr (List.mem_of_getElem? h)).vars f (List.mem_append_left _ hf)
theorem ev_snd(hp:∀p∈d.procs,qDe d p){C:Cf}(hC:CSnd d F C){p:Pr}(hpo:qDe d p){vals:List Int} :
  ∀(e:E) (t:ByteArray) (s:St),VE e->qAr d (qAn d p) e=(t,0)->qAv d s.mm->qAi d s.mm p.vars vals=true->RxP d F (szE e) s (evX d C p vals e s) fun v s'=>qBV d s'.mm t v:=by
 intro e
 induction e using E.ind with
 | h e ih =>
 intro t s hv ht G hvals
 rw[evX_eq,szE_eq]
 have I:∀{a:E} {u:ByteArray} {s1:St} {n:Nat},a∈e.k->qAr d (qAn d p) a=(u,0)->qAv d s1.mm->Gr F n s s1->RxP d F (szE a) s1 (evX d C p vals a s1) fun v s'=>qBV d s'.mm u v:=fun hm ha G1 g1=>ih _ hm _ _ (hv.kids _ hm) ha G1 (qAo (fun h=>g1.right h) hvals)
 have K:∀{i:Nat} {a:E},e.k[i]?=some a->qFR (e.k.map (evX d C p vals)) i=evX d C p vals a:=fun h=>kidX_at h
 have b0:∀{v:Int},v=0∨v=1->qBV d s.mm qAt v:=fun h=>qBg.2 h
 cases kindX (sc:=qAn d p) rfl hv ht with
 | int h hn=>rw[cX1 (.inl h)];exact(RxP.ok G (qBG.2 (by omega))).le (by omega)
 | bool h hn=>rw[cX1 (.inr h)];exact(RxP.ok G (qBg.2 (by omega))).le (by omega)
 | nil h hn=>rw[cX3 h];exact(RxP.ok G (by rfl)).le (by omega)
 | var h hl hne =>
  rw[cX4 h]
  rcases qIo G hvals hpo.vars hl hne with⟨i,f,v,-,-,-,-,h5,h6⟩|⟨i,f,v,-,-,-,-,-,h5,h6⟩
  ·rw[h6];exact(RxP.ok G h5).le (by omega)
  ·rw[h6];exact⟨⟨G.valid,G.chk,G.mem⟩,(gr_note (by omega) (by omega) (by omega)).le (by omega),fun _ _ e=>by cases e;exact h5⟩
 | @fld _ u a h hk ha hf =>
  rw[cX5 h,K (i:=0) (by rw[hk];rfl),hk]
  refine((I (by rw[hk];simp) ha G (Gr.refl s)).bind (m:=1) fun v s1 _ hv1 G1 g1=>?_).le (by simp <;> omega)
  unfold fldX
  by_cases h0:v=0
  ·rw[if_pos h0];exact(RxP.bad G1).le (by omega)
  ·rw[if_neg h0]
   obtain⟨q,i,j,tt,f,fs,w,rfl,h2,h3,-,h5,h6,h7,h8,h9,-⟩:=qHZ G1 hf hv1 h0
   rw[show ((q:Int)+1-1).toNat=q by omega,h2]
   simp only
   rw[h5,h6,Int.toNat_natCast,h8]
   exact⟨⟨G1.valid,G1.chk,G1.mem⟩,gr_note (by omega) (by grind) (by omega),fun _ _ e=>by cases e;exact h9⟩
 | new h hn=>rw[cX6 h];exact(new_snd G hn).le (by omega)
 | @call pr i h hc hr =>
  rw[cX7 h,hc.idx]
  refine((seq_snd e.k pr.params [] [] s G (qAG.2 ⟨rfl,fun j f v h=>by simp at h⟩) hc.len (qEA hp hc.at_) hc.fit (fun a hm u s1 n hu G1 g1=>I hm hu G1 g1)).bind (m:=0) fun l s1 _ hl G1 g1=>?_).le (by omega)
  exact(hC i pr l s1 hc.at_ G1 hl).mono fun v s' _ h=>h hr
 | @neg a h hk ha =>
  rw[cX8 h,K (i:=0) (by rw[hk];rfl),hk]
  refine((I (by rw[hk];simp) ha G (Gr.refl s)).bind (m:=0) fun v s1 _ hv1 G1 g1=>qLf G1 (Gr.refl s1) fun w hw=>qBG.2 (big_ok hw).2).le (by simp <;> omega)
 | @not a h hk ha =>
  rw[cX18 h,K (i:=0) (by rw[hk];rfl),hk]
  refine((I (by rw[hk];simp) ha G (Gr.refl s)).bind (m:=0) fun v s1 _ hv1 G1 g1=>RxP.ok G1 ?_).le (by simp <;> omega)
  grind [qBg]
 | @log a h hk ha =>
  rw[cX24 h,K (i:=0) (by rw[hk];rfl),hk]
  refine((I (by rw[hk];simp) ha G (Gr.refl s)).bind (m:=0) fun v s1 _ hv1 G1 g1=>RxP.ok G1 ?_).le (by simp <;> omega)
  have:=log_in (a:=v) (qBG.1 hv1).2
  exact qBG.2 (by omega)
 | @and a b h hk ha hb =>
  rw[cX19 h,K (i:=0) (by rw[hk];rfl),K (i:=1) (by rw[hk];rfl)]
  refine((I (by rw[hk];simp) ha G (Gr.refl s)).bind (m:=szE b) fun v s1 _ hv1 G1 g1=>?_).le (by simp_all)
  split
  ·exact(RxP.ok G1 (qBg.2 (.inl rfl))).le (by omega)
  grind
 | @or a b h hk ha hb =>
  rw[cX20 h,K (i:=0) (by rw[hk];rfl),K (i:=1) (by rw[hk];rfl)]
  refine((I (by rw[hk];simp) ha G (Gr.refl s)).bind (m:=szE b) fun v s1 _ hv1 G1 g1=>?_).le (by simp_all)
  split
  ·grind
  ·exact(RxP.ok G1 (qBg.2 (.inr rfl))).le (by omega)
 | @cond a b c _ u w h hk ha hb hc hu hw _ =>
  rw[cX21 h,K (i:=0) (by rw[hk];rfl),K (i:=1) (by rw[hk];rfl),K (i:=2) (by rw[hk];rfl)]
  refine((I (by rw[hk];simp) ha G (Gr.refl s)).bind (m:=szE b+szE c) fun v s1 _ hv1 G1 g1=>?_).le (by simp_all)
  split
  ·exact((I (by rw[hk];simp) hc G1 g1).mono fun v s' _ h=>by
    rcases hw with rfl|hw
    ·exact h
    ·exact qCr G.valid hw h).le (by omega)
  ·exact((I (by rw[hk];simp) hb G1 g1).mono fun v s' _ h=>by
    rcases hu with rfl|hu
    ·exact h
    ·exact qCr G.valid hu h).le (by omega)
 | @eq a b u w h hk ha hb _ =>
  rw[cXTwo (by omega),K (i:=0) (by rw[hk];rfl),K (i:=1) (by rw[hk];rfl)]
  refine((I (by rw[hk];simp) ha G (Gr.refl s)).bind (m:=szE b+1) fun v s1 _ hv1 G1 g1=>(I (by rw[hk];simp) hb G1 g1).bind (m:=1) fun z s2 _ hv2 G2 g2=>qLf (qLm G2) gr_cnt fun x hx=>qBg.2 (twoB_ok (by omega) hx)).le (by grind)
 | @cmp a b h hk ha hb =>
  rw[cXTwo (by omega),K (i:=0) (by rw[hk];rfl),K (i:=1) (by rw[hk];rfl)]
  refine((I (by rw[hk];simp) ha G (Gr.refl s)).bind (m:=szE b+1) fun v s1 _ hv1 G1 g1=>(I (by rw[hk];simp) hb G1 g1).bind (m:=1) fun z s2 _ hv2 G2 g2=>qLf (qLm G2) gr_cnt fun x hx=>qBg.2 (twoB_ok (by omega) hx)).le (by grind)
 | @ari a b h hk ha hb =>
  rw[cXTwo (by omega),K (i:=0) (by rw[hk];rfl),K (i:=1) (by rw[hk];rfl)]
  refine((I (by rw[hk];simp) ha G (Gr.refl s)).bind (m:=szE b+1) fun v s1 _ hv1 G1 g1=>(I (by rw[hk];simp) hb G1 g1).bind (m:=1) fun z s2 _ hv2 G2 g2=>qLf (qLm G2) gr_cnt fun x hx=>qBG.2 (two_ok h (qBG.1 hv1) (qBG.1 hv2) hx)).le (by grind)
end
end Go.Proofs
namespace Go.Proofs
open Go Go.Sx
section
variable{d:Ds}{F:Nat}
theorem qCq{e:E}(h:qAJ e=true):VE e/\szE e<=1000:=⟨VE.of_valid h,(of_decide_eq_true h).2⟩
def RtOk(d:Ds)(p:Pr)(r:Rt)(s:St):Prop:=qAi d s.mm p.vars r.1=true/\∀v,r.2=some v->p.result≠sE->qBV d s.mm p.result v
def SSnd(d:Ds)(F:Nat)(Sn:Sf):Prop:=∀c p l vals s,qDe d p->(∀x∈l,TyS d p x)->qAv d s.mm->qAi d s.mm p.vars vals=true->RxP d F 0 s (Sn c p l vals s) fun r s'=>RtOk d p r s'
theorem qFk(hp:∀p∈d.procs,qDe d p){Sn:Sf}(hS:SSnd d F Sn)(c:Nat):CSnd d F (qEl d Sn c):=by
 intro i pr args s hpr G ha
 unfold qEl
 split
 ·exact RxP.bad G
 rw[Int.toNat_natCast,hpr]
 simp only
 have hpo:=hp pr (List.mem_of_getElem? hpr)
 refine(hS (c+1) pr pr.body _ s hpo hpo.body G (qEV ha (qFy G.valid fun f hf=>hpo.vars f (List.mem_append_right _ hf)))).bind (m:=0) fun r s1 _ hr G1 g1=>RxP.ok G1 fun hne=>?_
 cases h:r.2 with
 | some v=>exact hr.2 v h hne
 | none =>
  have hk:=hpo.res.resolve_left hne
  exact(qBu G.valid hk).2 (qID G.valid hk)
theorem Gr.tick{n:Nat}{s s':St}(h:Gr F n { s with tk:=s.tk+1 } s')(hn:n<=4000)(hF:s.tk<F):Gr F 0 s s' :=
 ⟨h.ty,Nat.le_trans (Nat.le_succ _) h.tk,fun _=>h.fu hF,h.lg,by have h:=h.w;grind,h.tr⟩
theorem RxP.tick{α:Type}{n:Nat}{s:St}{f:Unit->St->Rx α}{Q:α->St->Prop}(G:qAv d s.mm)(h:qAv d ({ s with tk:=s.tk+1 }:St).mm->RxP d F n { s with tk:=s.tk+1 } (f () { s with tk:=s.tk+1 }) Q)(hn:n<=4000):RxP d F 0 s ((qKB F s).bind f) Q:=by
 unfold qKB
 split
 ·exact RxP.bad G
 ·rename_i hlt
  have H:=h ⟨G.valid,G.chk,G.mem⟩
  exact⟨H.good,H.gr.tick hn (by omega),H.q⟩
section
variable{Sn:Sf}{c:Nat}{p:Pr}(hp:∀p∈d.procs,qDe d p)(hS:SSnd d F Sn)(hpo:qDe d p)
include hp hS hpo
theorem qFK{vals:List Int}{e:E}{t:ByteArray}{s:St}(hv:qAJ e=true)(ht:qAr d (qAn d p) e=(t,0))(G:qAv d s.mm)(hvals:qAi d s.mm p.vars vals=true):RxP d F 1000 s (evS d Sn c p vals e s) fun v s'=>qBV d s'.mm t v :=
 (ev_snd hp (qFk hp hS c) hpo e t s (qCq hv).1 ht G hvals).le (qCq hv).2
theorem wh_snd{cond:E}{body:List S}(hv:qAJ cond=true)(ht:qAr d (qAn d p) cond=(qAt,0))(hb:∀x∈body,TyS d p x):∀(n:Nat) (vals:List Int) (s:St),qAv d s.mm->qAi d s.mm p.vars vals=true->RxP d F 1000 s (whX d F Sn c p cond body n vals s) fun r s'=>RtOk d p r s'
 | 0,vals,s,G,_=>by unfold whX;exact(RxP.bad G).le (by omega)
 | n+1,vals,s,G,hvals=>by
  rw[whX]
  refine((qFK hp hS hpo hv ht G hvals).bind (m:=0) fun v s1 _ _ G1 g1=>?_).le (by omega)
  have v1:=qAo (fun h=>g1.right h) hvals
  split
  ·exact RxP.ok G1 ⟨v1,fun _ h=>by cases h⟩
  ·refine((hS c p body vals s1 hpo hb G1 v1).bind (m:=0) fun r s2 _ hr G2 g2=>?_).le (by omega)
   split
   ·exact RxP.ok G2 hr
   ·exact RxP.tick (n:=1000) G2 (fun G3=>wh_snd hv ht hb n r.1 _ G3 hr.1) (by omega)
theorem body_snd{n:Nat}{x:S}(hx:TyS d p x){vals:List Int}{s:St}(G:qAv d s.mm)(hvals:qAi d s.mm p.vars vals=true):RxP d F 2001 s (bodyX d F Sn c p n x vals s) fun r s'=>RtOk d p r s':=by
 unfold bodyX
 obtain⟨p1,p2,p3,p4,p5⟩:=qAj G.mem
 cases kindS hx with
 | @set e u t h he hv ht hl hne hf =>
  rw[if_pos h,he,List.getD_cons_zero]
  refine((qFK hp hS hpo hv ht G hvals).bind (m:=1) fun v s1 _ hv1 G1 g1=>?_).le (by omega)
  have v1:=qAo (fun h=>g1.right h) hvals
  have hv2:=qCr G.valid hf hv1
  unfold setX
  rcases qIo G1 v1 hpo.vars hl hne with⟨i,f,w,q1,q2,q3,q4,-⟩|⟨i,f,w,q0,q1,q2,q3,q4,-⟩
  ·rw[if_pos (by omega),q1,Int.toNat_natCast]
   have hr:qAw d s1.mm f.ty v=true:=(qBu G.valid (hpo.vars f (List.mem_of_getElem? q2))).1 (q4 ▸ hv2)
   exact(RxP.ok G1 ⟨qGO v1 q2 hr,fun _ h=>by cases h⟩).le (by omega)
  ·rw[if_neg (by omega),q1,Int.toNat_natCast]
   obtain⟨o1,o2,o3,o4,o5⟩:=qAj G1.mem
   have hr:qAw d s1.mm f.ty v=true:=(qBu G.valid (List.all_eq_true.1 (qBL o1).1 f (List.mem_of_getElem? q2))).1 (q4 ▸ hv2)
   have G2:qAv d ({ s1 with g:=s1.g.set i v,lg:=s1.lg++[(2,0,(i:Int))] }:St).mm:=⟨G.valid,G.chk,qFW o1 o2 o3 (qGO (m:=s1.mm) (vs:=s1.g) o4 q2 hr) o5⟩
   exact⟨G2,⟨fun _ x h=>⟨x,h,rfl⟩,Nat.le_refl _,fun h=>h,⟨[_],rfl,.acc (.inr rfl) (by omega) (by omega) (by omega) (.nil _),fun h=>(by simp_all)⟩,by show (s1.lg++[_]).length+_+_<=_;rw[List.length_append,List.length_singleton];show s1.lg.length+1+s1.cm+4000*s1.tk<=s1.lg.length+s1.cm+1+4000*s1.tk;omega,⟨[_],rfl,.wg (List.getElem?_eq_some_iff.1 q3).1 (.nil _)⟩⟩,fun _ _ e=>by cases e;exact⟨v1,fun _ h=>by cases h⟩⟩
 | @put a e u w t h he hv hw ha ht hl hf =>
  rw[if_neg (by omega),if_pos h,he,List.getD_cons_zero,List.getD_cons_succ,List.getD_cons_zero]
  refine((qFK hp hS hpo hv ha G hvals).bind (m:=1001) fun x1 s1 _ hv1 G1 g1=>?_).le (by omega)
  have v1:=qAo (fun h=>g1.right h) hvals
  refine((qFK hp hS hpo hw ht G1 v1).bind (m:=1) fun x2 s2 _ hv2 G2 g2=>?_).le (by omega)
  have v2:=qAo (fun h=>g2.right h) v1
  have ha2:=g2.val hv1
  unfold putX
  by_cases h0:x1=0
  ·rw[if_pos h0];exact(RxP.bad G2).le (by omega)
  rw[if_neg h0]
  obtain⟨q,i,j,tt,f,fs,y,rfl,e2,e3,e4,e5,e6,e7,e8,e9,e10,e11⟩:=qHZ G2 hl ha2 h0
  rw[show ((q:Int)+1-1).toNat=q by omega,e2]
  simp only
  rw[e5,e6,Int.toNat_natCast]
  obtain⟨o1,o2,o3,o4,o5⟩:=qAj G2.mem
  have hr:qAw d s2.mm f.ty x2=true:=(qBu G.valid (e10 ▸ e11)).1 (e10 ▸ qCr G.valid hf hv2)
  have hql:=(List.getElem?_eq_some_iff.1 e2).1
  obtain⟨s3,hs3⟩:∃s3:St,s3={ s2 with ns:=s2.ns.set q ((j:Int),fs.set i x2),lg:=s2.lg++[(2,(q:Int)+1,(i:Int))] }:=⟨_,rfl⟩
  have g3:Gr F 1 s2 s3:=by
   rw[hs3]
   refine⟨fun k x hk=>?_,Nat.le_refl _,fun h=>h,⟨[_],rfl,.acc (.inr rfl) (by omega) (by omega) (by omega) ?_,fun h=>(by simp_all)⟩,?_,⟨[_],rfl,.wf e2 (List.getElem?_eq_some_iff.1 e8).1 (.nil _)⟩⟩
   ·grind
   ·grind [qKu,List.length_set]
   grind
  have hn3:s3.mm.nodes=s2.mm.nodes.set q ⟨(j:Int),qAC,fs.set i x2⟩:=by rw[hs3];simp[St.mm,List.map_set]
  have G3:qAv d s3.mm:=by
   refine⟨G.valid,G.chk,qFW o1 ?_ (fun n hm=>?_) ?_ fun n hm=>?_⟩
   ·simp_all
   ·rw[hn3]at hm
    rcases List.mem_or_eq_of_mem_set hm with hm|rfl
    ·exact o3 n hm
    ·exact o3 (⟨(j:Int),qAC,fs⟩) (List.mem_of_getElem? (i:=q) (by rw[qIQ,e2];rfl))
   ·have:s3.mm.globals=s2.mm.globals:=by rw[hs3];rfl
    rw[this];exact qAo (fun h=>g3.right h) o4
   ·rw[hn3]at hm
    rcases List.mem_or_eq_of_mem_set hm with hm|rfl
    ·exact qAo (fun h=>g3.right h) (o5 n hm)
    ·have:=o5 (⟨(j:Int),qAC,fs⟩) (List.mem_of_getElem? (i:=q) (by rw[qIQ,e2];rfl))
     have this:qAi d s2.mm (qAq d (j:Int)) fs=true:=this
     show qAi d s3.mm (qAq d (j:Int)) (fs.set i x2)=true
     rw[e5]at this ⊢
     exact qAo (fun h=>g3.right h) (qGO this e7 hr)
  rw[<- hs3]
  exact⟨G3,g3,fun _ _ e=>by cases e;exact⟨qAo (fun h=>g3.right h) v2,fun _ h=>by cases h⟩⟩
 | @cond e h he hv ht =>
  rw[if_neg (by omega),if_neg (by omega),if_pos h,he,List.getD_cons_zero]
  refine((qFK hp hS hpo hv ht G hvals).bind (m:=0) fun v s1 _ hv1 G1 g1=>?_).le (by omega)
  have v1:=qAo (fun h=>g1.right h) hvals
  obtain⟨-,-,-,hl,hx⟩:=hx.parts
  split
  ·exact hS c p _ vals s1 hpo hx G1 v1
  ·exact hS c p _ vals s1 hpo hl G1 v1
 | @loop e h he hv ht =>
  rw[if_neg (by omega),if_neg (by omega),if_neg (by omega),if_pos h,he,List.getD_cons_zero]
  exact(wh_snd hp hS hpo hv ht hx.parts.2.2.2.1 n vals s G hvals).le (by omega)
 | ret0 h he hr =>
  rw[if_neg (by omega),if_neg (by omega),if_neg (by omega),if_neg (by omega),if_pos h,he]
  exact(RxP.ok G ⟨hvals,fun _ _ k=>absurd hr k⟩).le (by omega)
 | @ret1 e u h he hv ht hr hf =>
  rw[if_neg (by omega),if_neg (by omega),if_neg (by omega),if_neg (by omega),if_pos h,he]
  refine((qFK hp hS hpo hv ht G hvals).bind (m:=0) fun v s1 _ hv1 G1 g1=>?_).le (by omega)
  exact RxP.ok G1 ⟨qAo (fun h=>g1.right h) hvals,fun w h _=>by cases h;exact qCr G.valid hf hv1⟩
 | @call e pr i h he hv ho hc =>
  rw[if_neg (by omega),if_neg (by omega),if_neg (by omega),if_neg (by omega),if_neg (by omega),if_pos h,he,List.getD_cons_zero]
  unfold evS
  rw[evX_eq,cX7 ho,hc.idx]
  have hV:=(qCq hv).1
  have hsz:=(qCq hv).2
  rw[szE_eq]at hsz
  refine(((seq_snd e.k pr.params [] [] s G (qAG.2 ⟨rfl,fun j f v h=>by simp at h⟩) hc.len (qEA hp hc.at_) hc.fit (fun a hm u s1 n hu G1 g1=>ev_snd hp (qFk hp hS c) hpo a u s1 (hV.kids a hm) hu G1 (qAo (fun h=>g1.right h) hvals))).bind (m:=0) fun l s1 _ hl G1 g1=>?_).bind (m:=0) (Q:=fun _ s'=>qAi d s'.mm p.vars vals=true) fun _ s2 _ hq G2 g2=>RxP.ok G2 ⟨hq,fun _ h=>by cases h⟩).le (by omega)
  have R:=qFk hp hS c i pr l s1 hc.at_ G1 hl
  refine⟨R.good,R.gr,fun v s2 e=>?_⟩
  have:=qAo (fun h=>R.gr.right h) (qAo (fun h=>g1.right h) hvals)
  rw[e]at this
  exact this
theorem st_snd{n:Nat}{x:S}(hx:TyS d p x){vals:List Int}{s:St}(G:qAv d s.mm)(hvals:qAi d s.mm p.vars vals=true):RxP d F 0 s (stX d F Sn c p n x vals s) fun r s'=>RtOk d p r s':=by
 unfold stX
 exact RxP.tick (n:=2001) G (fun G1=>body_snd hp hS hpo hx G1 hvals) (by omega)
end
theorem list_snd{p:Pr}{f:S->List Int->St->Rx Rt}:∀(l:List S) (vals:List Int) (s:St),(∀x∈l,∀vals s,qAv d s.mm->qAi d s.mm p.vars vals=true->RxP d F 0 s (f x vals s) fun r s'=>RtOk d p r s')->qAv d s.mm->qAi d s.mm p.vars vals=true->RxP d F 0 s (qHa f l vals s) fun r s'=>RtOk d p r s'
 | [],vals,s,_,G,hv=>by unfold qHa;exact RxP.ok G ⟨hv,fun _ h=>by cases h⟩
 | x::l,vals,s,H,G,hv=>by
  rw[qHa]
  refine(H x List.mem_cons_self vals s G hv).bind (m:=0) fun r s1 _ hr G1 g1=>?_
  split
  ·exact RxP.ok G1 hr
  ·exact list_snd l r.1 s1 (fun y hy=>H y (List.mem_cons_of_mem _ hy)) G1 hr.1
theorem qGQ(hp:∀p∈d.procs,qDe d p):∀n,SSnd d F (qGa d F n)
 | 0=>fun _ _ _ _ _ _ _ G _=>RxP.bad G
 | n+1=>fun c p l vals s hpo hl G hv=>list_snd l vals s (fun _ hx _ _ G hv=>st_snd hp (qGQ hp n) hpo (hl _ hx) G hv) G hv
theorem play_snd(hp:∀p∈d.procs,qDe d p){i:Nat}{pr:Pr}{args:List Int}{s:St}(h:d.procs[i]?=some pr)(G:qAv d s.mm)(ha:qAi d s.mm pr.params args=true):RxP d F 0 s (qCo d F i args s) fun v s'=>pr.result≠sE->qBV d s'.mm pr.result v :=
 qFk hp (qGQ hp (F+1)) 0 i pr args s h G ha
end
end Go.Proofs
namespace Go.Sx
open Go
open Classical
section
variable{P:Program}{V0 V1 V:Mem}{e:TypeId}{sz:Nat}{s:Sl}{vs:List Value}
def Blk(s:Sl)(c:Nat):Prop:=s.c≠0/\s.p=some ⟨c,0,none⟩
noncomputable def Mem.but(V:Mem)(s:Sl):Mem:=fun c=>if Blk s c then none else V c
theorem Mem.but_sub(V:Mem)(s:Sl):(V.but s).sub V:=fun c o h=>by
 grind [Mem.but]
theorem Mem.but_at{c:Nat}{o:Obj}(h:V c=some o)(hn:¬Blk s c):V.but s c=some o:=by
 grind [Mem.but]
theorem Own.cases0(h:Own V0 V e sz s vs):(s.n=0/\s.c=0/\vs=[])∨(s.c≠0/\∃g cur,s.p=some ⟨g,0,none⟩/\V0 g=none/\V g=some (.cells cur e (0,0))/\s.n<=s.c/\s.c<=maxLen/\cur.size=s.c*sz/\cur.toList.take (s.n*sz)=vs):=by
 rcases h.at_ with h1|⟨g,cur,h1,h2,h3,h4,h5⟩
 ·exact .inl h1
 ·by_cases hc:s.c=0
  ·simp_all
  simp_all
theorem Own.but(h:Own V0 V e sz s vs):Own (V.but s) V e sz s vs:=by
 refine⟨Mem.but_sub V s,h.len,?_⟩
 rcases h.cases0 with h1|⟨hc,g,cur,h1,h2,h3⟩
 ·exact .inl h1
 ·refine .inr ⟨g,cur,h1,?_,h3⟩
  unfold Mem.but
  rw[if_pos ⟨hc,h1⟩]
theorem Own.apart(h:Own V0 V e sz s vs){c:Nat}(hc:∀cur,V c≠some (.cells cur e (0,0))):¬Blk s c:=by
 rintro ⟨h0,hp⟩
 rcases h.cases0 with⟨-,h1,-⟩|⟨-,g,cur,h1,h2,h3,-⟩
 ·exact h0 h1
 simp_all
theorem Own.apart0(h:Own V0 V e sz s vs){c:Nat}{o:Obj}(hc:V0 c=some o):¬Blk s c:=by
 rintro ⟨h0,hp⟩
 rcases h.cases0 with⟨-,h1,-⟩|⟨-,g,cur,h1,h2,-⟩
 ·exact h0 h1
 simp_all
theorem Own.apartN(h:Own V0 V e sz s vs){c:Nat}(hc:V c=none):¬Blk s c:=h.apart fun cur=>by rw[hc];nofun
theorem Own.sub_but(h:Own V0 V e sz s vs):V0.sub (V.but s):=fun _ _ hc=>Mem.but_at (h.sub _ _ hc) (h.apart0 hc)
theorem Own.narrow(h:Own V1 V e sz s vs)(hs:V0.sub V1):Own V0 V e sz s vs:=⟨hs.trans h.sub,h.len,by
 rcases h.at_ with h1|⟨g,cur,h1,h2,h3⟩
 ·exact .inl h1
 ·refine .inr ⟨g,cur,h1,?_,h3⟩
  cases hg:V0 g with
  | none=>rfl
  | some o=>rw[hs _ _ hg]at h2;cases h2⟩
theorem Own.put(h:Own V0 V e sz s vs){c:Nat}(hn:¬Blk s c)(h0:V0 c=none)(o:Obj):Own V0 (V.set c o) e sz s vs:=⟨h.sub.set h0 o,h.len,by
 rcases h.cases0 with h1|⟨hc,g,cur,h1,h2,h3,h4⟩
 ·exact .inl h1
 ·refine .inr ⟨g,cur,h1,h2,?_,h4⟩
  rw[Mem.set_ne fun e=>hn ⟨hc,by simp_all⟩];exact h3⟩
theorem qJj(k:Int):∀(es:List MapEntry) (i:Nat),(∀e∈es,∃n,e.key=.int .i64 n) ->
  Instr.findNow (.int .i64) (.int .i64 k) es i=some ((es.findIdx? fun e=>decide (e.key=.int .i64 k)).bind fun j=>(es[j]?).map fun e=>(i+j,e.val))
 | [],_,_=>rfl
 | e::es,i,h=>by
  obtain⟨s,hs⟩:=h e (by simp)
  have ih:=qJj k es (i+1) fun x hx=>h x (by simp[hx])
  unfold Instr.findNow
  simp only[hs,Instr.sameNow,List.findIdx?_cons]
  by_cases hk:k=s
  ·grind
  ·have hk':¬s=k:=fun e=>hk e.symm
   simp only[ih]
   have hb:(k==s)=false:=by simpa using hk
   cases h':List.findIdx? (fun e=>decide (e.key=Value.int .i64 k)) es with
   | none=>simp[hk',hb]
   | some j=>grind
theorem qGt{kt:TypeId}(hk:P.underlying kt=some (.int .i64)):KeyOf P kt (Value.int .i64) where
 inj:=fun a b h=>by cases h;rfl
 find:=fun a es w h=>by
  simp_all [Instr.findKey,Sem.run_bind,run_underlying,Result.andThen_ok,qJj,Nat.zero_add]
 check:=fun b a w=>by
  unfold Instr.checkKey
  simp_all [Sem.run_bind,run_underlying,Result.andThen_ok]
 stays:=fun a w=>by
  have h:Instr.sameBits 10000 (.int .i64 a) (.int .i64 a)=true:=by
   rw[show (10000:Nat)=9999+1 from rfl]
   simp[Instr.sameBits]
  unfold Instr.keyThatStays
  rw[if_pos h];rfl
end
end Go.Sx
