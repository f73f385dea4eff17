/- Part 12: no statement of the seat is proved here. -/
import Derived.Test.YtmeagdecjpknkaaGreatDoorPs11
import Derived.Test.YtmeagdecjpknkaaGreatDoorPs04
set_option linter.unusedVariables false
set_option linter.unusedSimpArgs false
open Bool renaming and_eq_true->zC,or_eq_true->yQ
open List renaming mem_cons->yD,any_eq_true->xX,getElem?_eq_getElem->yu,getElem?_eq_some_iff->yv,mem_of_getElem?->xp,all_eq_true->za,map_cons->zG,map_nil->xm,getD_cons_zero->xk,getD_cons_succ->xj,replicate->yJ,nil_append->xi,length_nil->xh,mem_iff_getElem?->xg,length_set->xf,length_append->zw,length_singleton->xe,mem_append->xd,mem_singleton->zO,mem_cons_self->zc,mem_cons_of_mem->zb,mem_or_eq_of_mem_set->xc
open Prod.mk renaming injEq->zS
open Int renaming toNat_natCast->xo
open Prod renaming ext->xn
open Nat renaming le_refl->yV
open Go.Instr renaming findNow->yn,sameBits->xb
open Go.Result renaming andThen_ok->zL
namespace Go.Proofs
open Go Go.Sx
structure qAw (d:Ds)(m:Mm):Prop where
 valid:qAG d=true
 chk:qIj d=none
 mem:qAy d m=true
def VE(e:E):Prop:=∃k,okE k e=true
theorem VE.of_valid{e:E}(h:qAQ e=true):VE e:=⟨1,(of_decide_eq_true h).1⟩
theorem okE_eq(k:Int)(e:E):okE k e=(decide (k<=60)&&qDR e.op e.n e.s e.k.length&&okEs (k+1) e.k):=by cases e;unfold okE;rfl
theorem okEs_all{k:Int}:∀{l:List E},okEs k l=true->∀x∈l,okE k x=true
 |[],_,x,z=>by cases z
 |e::l,h,x,z=>by
  unfold okEs at h;rw[zC]at h;rcases yD.1 z with rfl|z;·exact h.1
  ·exact okEs_all h.2 x z
theorem VE.node{e:E}(h:VE e):qDR e.op e.n e.s e.k.length=true:=by
 obtain⟨k,h⟩:=h;simp_all[okE_eq,zC]
theorem VE.kids{e:E}(h:VE e):∀x∈e.k,VE x:=by
 obtain⟨k,h⟩:=h;rw[okE_eq,zC]at h;exact λx z=>⟨_,okEs_all h.2 x z⟩
theorem qFG(d:Ds)(sc:Sc):∀(k:List E)(acc:List KB),(partsT d sc acc k).2=0->(∀x∈k,(qAq d sc x).2=0)/\(partsT d sc acc k).1=acc++k.map λx=>(qAq d sc x).1
 |[],acc,_=>by rw[qDj];simp
 |x::xs,acc,h=>by
  rw[qCl]at h⊢;split at h;·omega
  ·rename_i z;rw[if_neg z];obtain⟨h1,h2⟩:=qFG d sc xs _ h;simp_all
theorem qGd{d:Ds}{sc:Sc}{e:E}{t:KB}(h:qAq d sc e=(t,0)):(∀x∈e.k,(qAq d sc x).2=0)/\qGh d sc e.op e.s (e.k.map λx=>(qAq d sc x).1)=(t,0):=by
 grind[qIM,zS,absurd,partsT,qFG]
theorem arityB{op n:Int}{s:KB}{l:Int}(h:qDR op n s l=true):qAW op≠-2/\(0<=qAW op->l=qAW op)/\nmB op s=true/\numB op n=true:=by
 grind[qDR]
theorem list1{α:Type}{k:List α}(h:(k.length:Int)=1):∃a,k=[a]:=by
 match k,h with
 |[a],_=>grind
 |[],h=>simp at h
 |_::_::_,h=>simp at h;omega
theorem list2{α:Type}{k:List α}(h:(k.length:Int)=2):∃a b,k=[a,b]:=by
 match k,h with
 |[a,b],_=>simp_all
 |[],h=>simp at h
 |[_],h=>simp at h
 |_::_::_::_,h=>simp at h;omega
theorem list3{α:Type}{k:List α}(h:(k.length:Int)=3):∃a b c,k=[a,b,c]:=by
 match k,h with
 |[a,b,c],_=>simp_all
 |[],h=>simp at h
 |[_],h=>simp at h
 |[_,_],h=>simp at h
 |_::_::_::_::_,h=>simp at h;omega
theorem name_kw{s:KB}(h:qAX s=true):isKw s=false:=by
 grind[qAX]
theorem qEy{s t:KB}(h:qAX s=true)(ht:isKw t=true):s≠t:=λe=>by grind[name_kw]
theorem kwNil:isKw qLt=true:=by kernel_rfl
theorem kwInt:isKw qAT=true:=by kernel_rfl
theorem kwBool:isKw qAz=true:=by kernel_rfl
section
variable{d:Ds}{m:Mm}
theorem validD_types(h:qAG d=true):(∀t∈d.types,qAX t.name=true)/\(∀f∈d.globals,qAX f.name=true)/\(∀x∈d.measures,msB x=true)/\(∀x∈d.invs,ivB x=true):=by
 grind[qAG,qKs,tyB,qDC,fldB]
theorem qFi(h:qAG d=true){s:KB}(z:qBd d s=true):qAX s=true:=by
 obtain⟨t,ht,e⟩:=xX.1 z;rw[<-of_decide_eq_true e];exact(validD_types h).1 t ht
def qBN(d:Ds)(m:Mm)(t:KB)(v:Int):Prop:=if t=qLt then v=0 else qAA d m t v=true
theorem qJc:qLt≠qAT/\qLt≠qAz/\qAT≠qLt/\qAz≠qLt/\qAT≠qAz/\qAz≠qAT:=by
 refine⟨of_decide_eq_false ?_,of_decide_eq_false ?_,of_decide_eq_false ?_,of_decide_eq_false ?_,of_decide_eq_false ?_,of_decide_eq_false ?_⟩<;>kernel_rfl
theorem qBh{v:Int}:qBN d m qAT v↔-1099511627776<=v/\v<=1099511627776:=by
 unfold qBN qAA;rw[if_neg qJc.2.2.1,if_pos rfl,decide_eq_true_eq]
theorem qBg{v:Int}:qBN d m qAz v↔v=0∨v=1:=by
 unfold qBN qAA;rw[if_neg qJc.2.2.2.1,if_neg qJc.2.2.2.2.2,if_pos rfl,decide_eq_true_eq]
theorem qBo(h:qAG d=true){t:KB}(ht:qBl d t=true){v:Int}:qBN d m t v↔qAA d m t v=true:=by
 unfold qBN;rw[if_neg];intro e;subst e;unfold qBl at ht;rw[decide_eq_false qJc.1,decide_eq_false qJc.2.1]at ht;exact qEy (qFi h (by simpa using ht)) kwNil rfl
theorem qKH{t:KB}(h:qAX t=true):qAA d m t 0=true:=by
 unfold qAA;rw[if_neg (qEy h kwInt),if_neg (qEy h kwBool)];exact decide_eq_true (.inl rfl)
theorem qCo(h:qAG d=true){a b:KB}(hf:qDW d a b=true){v:Int}(hv:qBN d m a v):qBN d m b v:=by
 unfold qDW at hf;simp only[yQ,zC,decide_eq_true_eq]at hf;rcases hf with rfl|⟨rfl,hb⟩;·exact hv
 ·have hn:=qFi h hb;unfold qBN at hv⊢;rw[if_pos rfl]at hv;rw[if_neg (qEy hn kwNil),hv];exact qKH hn
theorem qEi:∀(l:List Fld)(s:KB),qBU l s=((l.find? λf=>decide (f.name=s)).map (·.ty)).getD sE
 |[],_=>rfl
 |f::l,s=>by
  unfold qBU;rw[List.find?_cons];by_cases h:f.name=s;·simp_all
  ·rw[if_neg h,decide_eq_false h,qEi l s]
theorem qFl(l:List Fld)(s:KB):(qBU l s=sE/\qFW l s=-1)∨∃(i:Nat)(f:Fld),qFW l s=i/\l[i]?=some f/\qBU l s=f.ty/\f.name=s:=by
 rw[qEi];unfold qFW;rcases qAL (λf:Fld=>decide (f.name=s)) l with⟨h1,h2,-⟩|⟨i,x,h1,h2,h3,-,z,-⟩;·grind
 grind
theorem qBF(h:qJD d=true):qBK d d.globals=true/\(∀(i:Nat)(x:Ty),d.types[i]?=some x->qDL d x.name=(i:Int))/\∀x∈d.types,qBK d x.fields=true:=by
 unfold qJD at h;rw[zC,zC,qDO]at h;obtain⟨⟨-,h1⟩,h2⟩:=h;refine⟨h1,λi x z=>?_,λx z=>?_⟩;·grind
 ·obtain⟨i,hi,rfl⟩:=List.mem_iff_getElem.1 z;have:=h2 i _ (yu hi);simp_all
theorem qAh(h:qAy d m=true):qJD d=true/\m.nodes.length<=4096/\(∀n∈m.nodes,qDK d n=true)/\qAi d m d.globals m.globals=true/\∀n∈m.nodes,qAi d m (qAt d n.ty) n.f=true:=by
 grind[qAy]
theorem qGy{l:List Fld}{vs:List Int}(h:qAi d m l vs=true){i:Nat}{f:Fld}(hi:l[i]?=some f):∃v,vs[i]?=some v/\qAA d m f.ty v=true:=by
 unfold qAi at h;rw[zC,decide_eq_true_eq,qDO]at h;have hl:=(yv.1 hi).1;have hv:vs[i]?=some (vs[i]'(by omega)):=yu _;grind[tyAt]
theorem right_node{t:KB}(hn:qAX t=true){a:Int}(h:qAA d m t a=true)(h0:a≠0):1<=a/\a<=(m.nodes.length:Int)/\∃n,m.nodes[(a-1).toNat]?=some n/\n∈m.nodes/\n.ty=qDL d t:=by
 unfold qAA at h;rw[if_neg (qEy hn kwInt),if_neg (qEy hn kwBool),decide_eq_true_eq]at h;rcases h with h|⟨h1,h2,h3⟩;·omega
 ·refine⟨h1,h2,?_⟩;cases z:m.nodes[(a-1).toNat]? with
  |none=>simp_all
  |some n=>rw[z]at h3;exact⟨n,rfl,xp z,by simpa using h3⟩
theorem tyOf_idx{s:KB}{t:Ty}(h:qKj d s=some t):∃i:Nat,qDL d s=(i:Int)/\d.types[i]?=some t/\t.name=s/\qBd d s=true:=by
 unfold qKj at h;unfold qDL qBd;rcases qAL (λt:Ty=>decide (t.name=s)) d.types with⟨-,h2,-⟩|⟨i,x,h1,h2,h3,-,z,-,o,-⟩;·simp_all
 grind
theorem fld_ok(G:qAw d m){t s ty:KB}(ht:qCi d t s=(ty,0)){a:Int}(ha:qBN d m t a)(h0:a≠0):
  ∃(n:Nd)(i j:Nat)(z:Ty)(f:Fld)(v:Int),m.nodes[(a-1).toNat]?=some n/\n∈m.nodes/\1<=a/\a<=(m.nodes.length:Int)/\n.ty=(j:Int)/\d.types[j]?=some z/\z∈d.types/\qFW z.fields s=i/\z.fields[i]?=some f/\n.f[i]?=some v/\qBN d m ty v/\fldV d m a s=.ok v/\f.ty=ty:=by
 unfold qCi at ht;cases Z:qKj d t with
 |none=>simp_all
 |some z=>
  rw[Z]at ht;simp only at ht;split at ht;·simp at ht
  ·rename_i hl;simp only[zS,and_true]at ht;obtain⟨j,M,H,rfl,J⟩:=tyOf_idx Z;have N:=qFi G.valid J;have Y:qAA d m z.name a=true:=by
    grind[qBN]
   obtain⟨b1,b2,n,b3,L,R⟩:=right_node N Y h0;rcases qFl z.fields s with⟨X,-⟩|⟨i,f,X,c2,c3,c4⟩;·grind
   ·have W:qAt d n.ty=z.fields:=qAU H (R.trans M);obtain⟨p1,-,-,-,B⟩:=qAh G.mem;have hv:=B n L;rw[W]at hv;obtain⟨v,O,A⟩:=qGy hv c2;have o:=xp H;have I:qBl d f.ty=true:=za.1 ((qBF p1).2.2 z o) f (xp c2);refine⟨n,i,j,z,f,v,b3,L,b1,b2,R.trans M,H,o,X,c2,O,?_,?_,c3.symm.trans ht⟩;·rw[<-ht,c3];exact(qBo G.valid I).2 A
    simp_all[fldV,if_neg,xo]
theorem qFL{α β:Type}{f:Nat->α->Option β}:∀{l:List α}{i:Nat},qAk f i l=none->∀j x,l[j]?=some x->f (i+j) x=none
 |[],_,_,j,x,z=>by simp at z
 |y::l,i,h,j,x,z=>by
  unfold qAk at h;cases o:f i y with
  |some b=>simp_all
  |none=>
   rw[o]at h;cases j with
   |zero=>simp_all
   |succ j=>rw[show i+(j+1)=i+1+j by omega];exact qFL h j x (by simpa using z)
theorem qLF{α:Type}{a b:Option α}(h:a.or b=none):a=none/\b=none:=by
 simp_all
end
end Go.Proofs
namespace Go.Proofs
open Go Go.Sx
section
variable{d:Ds}{m:Mm}
theorem big_ok{n v:Int}(h:big n=.ok v):v=n/\-1099511627776<=v/\v<=1099511627776:=by
 unfold big at h;grind
theorem trI_b(b:Bool):trI b=0∨trI b=1:=by cases b<;>simp[trI]
theorem qCa{ok:Bool}{t z:KB}(h:qDS ok t=(z,0)):ok=true/\t=z:=by
 grind[qDS]
theorem tdiv_in{a b:Int}(ha:-1099511627776<=a/\a<=1099511627776):-1099511627776<=a.tdiv b/\a.tdiv b<=1099511627776:=by
 have:=Int.natAbs_tdiv_le_natAbs a b;omega
theorem tmod_in{a b:Int}(ha:-1099511627776<=a/\a<=1099511627776):-1099511627776<=a.tmod b/\a.tmod b<=1099511627776:=by
 have h1:=Int.natAbs_tmod a b;have:=Nat.mod_le a.natAbs b.natAbs;omega
theorem log_in{a:Int}(ha:a<=1099511627776):0<=qKr a/\qKr a<=1099511627776:=by
 grind[qKr,Nat.log2,Nat.log2_le_self]
inductive Kind (d:Ds)(sc:Sc)(e:E):KB->Prop where
 |int (h:e.op=1) (hn:0<=e.n/\e.n<=1099511627776):Kind d sc e qAT
 |bool (h:e.op=2) (hn:e.n=0∨e.n=1):Kind d sc e qAz
 |nil (h:e.op=3) (hn:e.n=0):Kind d sc e qLt
 |var {t} (h:e.op=4) (hl:qBU sc.vars e.s=t) (hne:t≠sE):Kind d sc e t
 |fld {t u} {a:E} (h:e.op=5) (hk:e.k=[a]) (ha:qAq d sc a=(u,0)) (ht:qCi d u e.s=(t,0)):Kind d sc e t
 |call {u} {a:E} {ms:Ms} {i:Nat} (h:e.op=7) (hk:e.k=[a]) (ha:qAq d sc a=(u,0)) (hi:mIdx d e.s=i) (hms:d.measures[i]?=some ms) (hf:qDW d u ms.ty=true):Kind d sc e qAT
 |neg {a:E} (h:e.op=8) (hk:e.k=[a]) (ha:qAq d sc a=(qAT,0)):Kind d sc e qAT
 |not {a:E} (h:e.op=18) (hk:e.k=[a]) (ha:qAq d sc a=(qAz,0)):Kind d sc e qAz
 |log {a:E} (h:e.op=24) (hk:e.k=[a]) (ha:qAq d sc a=(qAT,0)):Kind d sc e qAT
 |and {a b:E} (h:e.op=19) (hk:e.k=[a,b]) (ha:qAq d sc a=(qAz,0)) (hb:qAq d sc b=(qAz,0)):Kind d sc e qAz
 |or {a b:E} (h:e.op=20) (hk:e.k=[a,b]) (ha:qAq d sc a=(qAz,0)) (hb:qAq d sc b=(qAz,0)):Kind d sc e qAz
 |cond {a b c:E} {t u w} (h:e.op=21) (hk:e.k=[a,b,c]) (ha:qAq d sc a=(qAz,0)) (hb:qAq d sc b=(u,0)) (hc:qAq d sc c=(w,0)) (hu:u=t∨qDW d u t=true) (hw:w=t∨qDW d w t=true):Kind d sc e t
 |eq {a b:E} {u w} (h:e.op=14∨e.op=15) (hk:e.k=[a,b]) (ha:qAq d sc a=(u,0)) (hb:qAq d sc b=(w,0)):Kind d sc e qAz
 |cmp {a b:E} (h:e.op=16∨e.op=17) (hk:e.k=[a,b]) (ha:qAq d sc a=(qAT,0)) (hb:qAq d sc b=(qAT,0)):Kind d sc e qAz
 |ari {a b:E} (h:e.op=9∨e.op=10∨e.op=11∨e.op=12∨e.op=13∨e.op=22∨e.op=23) (hk:e.k=[a,b]) (ha:qAq d sc a=(qAT,0)) (hb:qAq d sc b=(qAT,0)):Kind d sc e qAT
theorem allT1{t u:KB}(h:allT [t] u=true):t=u:=by simpa [allT]using h
theorem allT2{t z u:KB}(h:allT [t,z] u=true):t=u/\z=u:=by simpa [allT]using h
theorem qBA{p:KB×Int}{t:KB}(h1:p.1=t)(h2:p.2=0):p=(t,0):=xn h1 h2
theorem kind{sc:Sc}(M:sc.body=false){e:E}{t:KB}(hv:VE e)(ht:qAq d sc e=(t,0)):Kind d sc e t:=by
 obtain⟨hk,hn⟩:=qGd ht;obtain⟨a1,a2,a3,H⟩:=arityB hv.node;unfold qGh at hn;unfold numB at H;have one:qAW e.op=1->∃a,e.k=[a]:=λh=>list1 ((a2 (by omega)).trans h);have two:qAW e.op=2->∃a b,e.k=[a,b]:=λh=>list2 ((a2 (by omega)).trans h);have W:qAW e.op=3->∃a b c,e.k=[a,b,c]:=λh=>list3 ((a2 (by omega)).trans h);by_cases h1:e.op=1
 ·rw[if_pos h1]at hn H;cases hn;exact .int h1 (of_decide_eq_true H)
 rw[if_neg h1]at hn H;by_cases h2:e.op=2
 ·rw[if_pos h2]at hn H;cases hn;exact .bool h2 (of_decide_eq_true H)
 rw[if_neg h2]at hn H;have H:e.n=0:=of_decide_eq_true H;by_cases h3:e.op=3
 ·rw[if_pos h3]at hn;cases hn;exact .nil h3 H
 rw[if_neg h3]at hn;by_cases h4:e.op=4
 ·rw[if_pos h4]at hn;split at hn;·simp at hn
  ·rename_i hne;simp only[zS,and_true]at hn;exact .var h4 hn (hn▸hne)
 rw[if_neg h4]at hn;by_cases I:e.op=5
 ·obtain⟨a,ha⟩:=one (by rw[I];rfl);rw[if_pos I,ha]at hn;rw[ha]at hk;exact .fld I ha (qBA rfl (hk a (by simp))) hn
 rw[if_neg I]at hn;by_cases B:e.op=6;·simp_all
 rw[if_neg B]at hn;by_cases L:e.op=7
 ·rw[if_pos L]at hn;unfold qIt at hn;rw[if_neg (by rw[M];decide)]at hn;unfold qKq meOf at hn;unfold mIdx at*
  rcases qAL (λx:Ms=>decide (x.name=e.s)) d.measures with⟨-,X,-⟩|⟨i,ms,q1,X,q3,-⟩;·simp_all
  ·rw[q3]at hn;simp only at hn;split at hn;·simp at hn
   ·rename_i hl;obtain⟨a,ha⟩:∃a,e.k=[a]:=list1 (by grind);rw[ha]at hn hk;obtain⟨b1,rfl⟩:=qCa hn;exact .call L ha (qBA rfl (hk a (by simp))) q1 X (by simpa using b1)
 rw[if_neg L]at hn;by_cases J:e.op=14∨e.op=15
 ·obtain⟨a,b,z⟩:=two (by rcases J with h|h<;>(rw[h];rfl));rw[if_pos J]at hn;rw[z]at hk;obtain⟨-,rfl⟩:=qCa hn;exact .eq J z (qBA rfl (hk a (by simp))) (qBA rfl (hk b (by simp)))
 rw[if_neg J]at hn;by_cases N:e.op=16∨e.op=17
 ·obtain⟨a,b,z⟩:=two (by rcases N with h|h<;>(rw[h];rfl));rw[if_pos N,z]at hn;rw[z]at hk;obtain⟨g,rfl⟩:=qCa hn;obtain⟨A,Y⟩:=allT2 g;exact .cmp N z (qBA A (hk a (by simp))) (qBA Y (hk b (by simp)))
 rw[if_neg N]at hn;by_cases O:e.op=18∨e.op=19∨e.op=20
 ·rw[if_pos O]at hn;rcases O with h|h
  ·obtain⟨a,ha⟩:=one (by rw[h];rfl);rw[ha]at hn hk;obtain⟨g,rfl⟩:=qCa hn;exact .not h ha (qBA (allT1 g) (hk a (by simp)))
  ·obtain⟨a,b,z⟩:=two (by rcases h with h|h<;>(rw[h];rfl));rw[z]at hn hk;obtain⟨g,rfl⟩:=qCa hn;obtain⟨A,Y⟩:=allT2 g;rcases h with h|h;·exact .and h z (qBA A (hk a (by simp))) (qBA Y (hk b (by simp)))
   ·exact .or h z (qBA A (hk a (by simp))) (qBA Y (hk b (by simp)))
 rw[if_neg O]at hn;by_cases Z:e.op=21
 ·obtain⟨a,b,c,o⟩:=W (by rw[Z];rfl);rw[if_pos Z,o]at hn;rw[o]at hk;obtain⟨g,Y⟩:=qCa hn;simp only[zG,xm,xk,xj,zC,decide_eq_true_eq,yQ]at g Y;refine .cond Z o (qBA g.1 (hk a (by simp))) (qBA rfl (hk b (by simp))) (qBA rfl (hk c (by simp))) ?_ ?_;·grind[inr,qDW]
  grind[qDW,absurd,inr]
 rw[if_neg Z]at hn;obtain⟨g,rfl⟩:=qCa hn;have R:e.op=8∨e.op=24∨(e.op=9∨e.op=10∨e.op=11∨e.op=12∨e.op=13∨e.op=22∨e.op=23):=by
  grind[qAW]
 rcases R with h|h|h
 ·obtain⟨a,ha⟩:=one (by rw[h];rfl);rw[ha]at g hk;exact .neg h ha (qBA (allT1 g) (hk a (by simp)))
 ·obtain⟨a,ha⟩:=one (by rw[h];rfl);rw[ha]at g hk;exact .log h ha (qBA (allT1 g) (hk a (by simp)))
 ·obtain⟨a,b,z⟩:=two (by rcases h with h|h|h|h|h|h|h<;>(rw[h];rfl));rw[z]at g hk;obtain⟨A,Y⟩:=allT2 g;exact .ari h z (qBA A (hk a (by simp))) (qBA Y (hk b (by simp)))
theorem two_ok{op a b v:Int}(h:op=9∨op=10∨op=11∨op=12∨op=13∨op=22∨op=23)(ha:-1099511627776<=a/\a<=1099511627776)(hb:-1099511627776<=b/\b<=1099511627776)(hv:qCP op a b=.ok v):-1099511627776<=v/\v<=1099511627776:=by
 unfold qCP at hv;split at hv;·exact(big_ok hv).2
 split at hv;·exact(big_ok hv).2
 split at hv;·exact(big_ok hv).2
 split at hv;·grind
 split at hv;·grind
 repeat' (split at hv;(first|omega|cases hv))
 ·exact tdiv_in ha
 ·cases hv;exact tmod_in ha
theorem twoB_ok{op a b v:Int}(h:op=14∨op=15∨op=16∨op=17)(hv:qCP op a b=.ok v):v=0∨v=1:=by
 rcases h with rfl|rfl|rfl|rfl
 ·have:trI (decide (a=b))=v:=by injection hv
  grind[trI_b]
 ·have:trI (!decide (a=b))=v:=by injection hv
  grind[trI_b]
 ·have:trI (decide (a<b))=v:=by injection hv
  grind[trI_b]
 ·have:trI (decide (a<=b))=v:=by injection hv
  grind[trI_b]
end
end Go.Proofs
namespace Go.Proofs
open Go Go.Sx
structure St where
 g:List Int
 ns:List (Int×List Int)
 tk:Nat
 cm:Nat
 lg:List (Int×Int×Int)
inductive Rx (α:Type) where
 |ok (v:α) (s:St)
 |bad (c:Int) (s:St)
def Rx.bind{α β:Type}:Rx α->(α->St->Rx β)->Rx β
 |.ok v s,f=>f v s
 |.bad c s,_=>.bad c s
def qAx:Sl:=⟨none,0,0⟩
def St.mm(s:St):Mm:=⟨qAx,s.g,qAx,s.ns.map λn=>⟨n.1,qAx,n.2⟩⟩
def St.note(s:St)(a:Int×Int×Int):St:={s with lg:=s.lg++[a]}
def noE:E:=.mk 0 0 sE qAx []
def qDa(d:Ds)(s:KB):Int:=qHG (λt=>decide (t.name=s)) d.procs
def qEB:Rs->St->Rx Int
 |.ok v,s=>.ok v s
 |.bad c,s=>.bad c s
def qKl:List (St->Rx Int)->List Int->St->Rx (List Int)
 |[],acc,st=>.ok acc st
 |f::fs,acc,st=>(f st).bind λv st=>qKl fs (acc++[v]) st
def qEU(ks:List (St->Rx Int))(i:Nat):St->Rx Int:=ks.getD i λst=>.bad 0 st
def _root_.Go.Sx.Pr.vars(p:Pr):List Fld:=p.params++p.locals
def qMd(b:Bool)(op:Int)(st:St):St:=if op=16∨op=17∨((op=14∨op=15)/\b=true)then{st with cm:=st.cm+1}else st
abbrev Cf:=Int->List Int->St->Rx Int
abbrev Rt:=List Int×Option Int
abbrev Sf:=Nat->Pr->List S->List Int->St->Rx Rt
def qIo(F:Nat)(st:St):Rx Unit:=if F<=st.tk then .bad 20 st else .ok () {st with tk:=st.tk+1}
section
variable(d:Ds)
def varX(p:Pr)(vals:List Int)(s:KB)(st:St):Rx Int:=
 if 0<=qFW p.vars s then .ok ((vals[(qFW p.vars s).toNat]?).getD 0) st else .ok ((st.g[(qFW d.globals s).toNat]?).getD 0) (st.note (1,0,qFW d.globals s))
def fldX(a:Int)(s:KB)(st:St):Rx Int:=
 if a=0 then .bad 17 st else match st.ns[(a-1).toNat]? with
  |none=>.bad 0 st
  |some n=>.ok ((n.2[(qFW (qAt d n.1) s).toNat]?).getD 0) (st.note (1,a,qFW (qAt d n.1) s))
def newX(s:KB)(st:St):Rx Int:=
 if 4096<=st.ns.length then .bad 21 st else .ok ((st.ns.length:Int)+1) {st with ns:=st.ns++[(qDL d s,yJ (qAt d (qDL d s)).length 0)],lg:=st.lg++[(3,(st.ns.length:Int)+1,qDL d s)]}
def intB(sc:Sc):List E->Bool
 |[]=>false
 |a::_=>decide ((qAq d sc a).1=qAT)
def qDz(C:Cf)(p:Pr)(vals:List Int)(b:Bool)(op n:Int)(s:KB)(ks:List (St->Rx Int))(st:St):Rx Int:=
 if op=1∨op=2 then .ok n st else if op=3 then .ok 0 st else if op=4 then varX d p vals s st
 else if op=5 then(qEU ks 0 st).bind λa st=>fldX d a s st
 else if op=6 then newX d s st
 else if op=7 then(qKl ks [] st).bind λl st=>C (qDa d s) l st
 else if op=8 then(qEU ks 0 st).bind λa st=>qEB (big (-a)) st
 else if op=18 then(qEU ks 0 st).bind λa st=>.ok (1-a) st
 else if op=24 then(qEU ks 0 st).bind λa st=>.ok (qKr a) st
 else if op=19 then(qEU ks 0 st).bind λa st=>if a=0 then .ok 0 st else qEU ks 1 st
 else if op=20 then(qEU ks 0 st).bind λa st=>if a=0 then qEU ks 1 st else .ok 1 st
 else if op=21 then(qEU ks 0 st).bind λa st=>if a=0 then qEU ks 2 st else qEU ks 1 st
 else(qEU ks 0 st).bind λv st=>(qEU ks 1 st).bind λw st=>qEB (qCP op v w) (qMd b op st)
mutual
def evX(C:Cf)(p:Pr)(vals:List Int):E->St->Rx Int
 |.mk op n s _ k=>qDz d C p vals (intB d (qAg d p) k) op n s (evXs C p vals k)
def evXs(C:Cf)(p:Pr)(vals:List Int):List E->List (St->Rx Int)
 |[]=>[]
 |e::es=>evX C p vals e::evXs C p vals es
end
def qCG(Sn:Sf)(c:Nat)(i:Int)(args:List Int)(st:St):Rx Int:=
 if 200<=c then .bad 19 st else match d.procs[i.toNat]? with
  |none=>.bad 0 st
  |some p=>(Sn (c+1) p p.body (args++yJ p.locals.length 0) st).bind λr st=>.ok (r.2.getD 0) st
def setX(p:Pr)(s:KB)(v:Int)(vals:List Int)(st:St):Rx Rt:=
 if 0<=qFW p.vars s then .ok (vals.set (qFW p.vars s).toNat v,none) st else .ok (vals,none) {st with g:=st.g.set (qFW d.globals s).toNat v,lg:=st.lg++[(2,0,qFW d.globals s)]}
def putX(a v:Int)(s:KB)(st:St):Rx Unit:=
 if a=0 then .bad 17 st else match st.ns[(a-1).toNat]? with
  |none=>.bad 0 st
  |some n=>.ok () {st with ns:=st.ns.set (a-1).toNat (n.1,n.2.set (qFW (qAt d n.1) s).toNat v),lg:=st.lg++[(2,a,qFW (qAt d n.1) s)]}
section
variable(F:Nat)(Sn:Sf)(c:Nat)(p:Pr)
def evS(vals:List Int)(e:E)(st:St):Rx Int:=evX d (qCG d Sn c) p vals e st
def whX(cond:E)(body:List S):Nat->List Int->St->Rx Rt
 |0,_,st=>.bad 20 st
 |n+1,vals,st=>(evS d Sn c p vals cond st).bind λa st=>if a=0 then .ok (vals,none) st else(Sn c p body vals st).bind λr st=>match r.2 with
  |some _=>.ok r st
  |none=>(qIo F st).bind λ_ st=>whX cond body n r.1 st
def qHM(n:Nat)(s:S)(vals:List Int)(st:St):Rx Rt:=
 if s.op=1 then(evS d Sn c p vals (s.es.getD 0 noE) st).bind λv st=>setX d p s.s v vals st
 else if s.op=2 then(evS d Sn c p vals (s.es.getD 0 noE) st).bind λa st=>(evS d Sn c p vals (s.es.getD 1 noE) st).bind λv st=>(putX d a v s.s st).bind λ_ st=>.ok (vals,none) st
 else if s.op=3 then(evS d Sn c p vals (s.es.getD 0 noE) st).bind λa st=>if a=0 then Sn c p s.xs vals st else Sn c p s.ls vals st
 else if s.op=4 then whX d F Sn c p (s.es.getD 0 noE) s.ls n vals st
 else if s.op=5 then match s.es with
  |[]=>.ok (vals,some 0) st
  |e::_=>(evS d Sn c p vals e st).bind λv st=>.ok (vals,some v) st
 else if s.op=6 then(evS d Sn c p vals (s.es.getD 0 noE) st).bind λ_ st=>.ok (vals,none) st
 else .ok (vals,none) st
def stX(n:Nat)(s:S)(vals:List Int)(st:St):Rx Rt:=(qIo F st).bind λ_ st=>qHM d F Sn c p n s vals st
end
def qFm(f:S->List Int->St->Rx Rt):List S->List Int->St->Rx Rt
 |[],vals,st=>.ok (vals,none) st
 |s::l,vals,st=>(f s vals st).bind λr st=>match r.2 with
  |some _=>.ok r st
  |none=>qFm f l r.1 st
def qCs(F:Nat):Nat->Sf
 |0=>λ_ _ _ _ st=>.bad 20 st
 |n+1=>λc p l vals st=>qFm (stX d F (qCs F n) c p (n+1)) l vals st
def qCf(F:Nat)(i:Int)(args:List Int)(st:St):Rx Int:=qCG d (qCs d F (F+1)) 0 i args st
end
variable{d:Ds}
theorem evXs_map(C:Cf)(p:Pr)(vals:List Int):∀k:List E,evXs d C p vals k=k.map (evX d C p vals)
 |[]=>by unfold evXs;rfl
 |e::es=>by unfold evXs;rw[evXs_map C p vals es];rfl
theorem evX_eq(C:Cf)(p:Pr)(vals:List Int)(e:E)(st:St):evX d C p vals e st=qDz d C p vals (intB d (qAg d p) e.k) e.op e.n e.s (e.k.map (evX d C p vals)) st:=by
 cases e;unfold evX;rw[evXs_map];rfl
theorem qLO{f:E->St->Rx Int}{k:List E}{i:Nat}{e:E}(h:k[i]?=some e):qEU (k.map f) i=f e:=by
 grind[qEU]
section
variable{C:Cf}{p:Pr}{vals:List Int}{b:Bool}{op n:Int}{s:KB}{ks:List (St->Rx Int)}{st:St}
theorem cX1(h:op=1∨op=2):qDz d C p vals b op n s ks st=.ok n st:=by rcases h with rfl|rfl<;>rfl
theorem cX3(h:op=3):qDz d C p vals b op n s ks st=.ok 0 st:=by subst h;rfl
theorem cX4(h:op=4):qDz d C p vals b op n s ks st=varX d p vals s st:=by subst h;rfl
theorem cX5(h:op=5):qDz d C p vals b op n s ks st=(qEU ks 0 st).bind λa st=>fldX d a s st:=by subst h;rfl
theorem cX6(h:op=6):qDz d C p vals b op n s ks st=newX d s st:=by subst h;rfl
theorem cX7(h:op=7):qDz d C p vals b op n s ks st=(qKl ks [] st).bind λl st=>C (qDa d s) l st:=by subst h;rfl
theorem cX8(h:op=8):qDz d C p vals b op n s ks st=(qEU ks 0 st).bind λa st=>qEB (big (-a)) st:=by subst h;rfl
theorem cX18(h:op=18):qDz d C p vals b op n s ks st=(qEU ks 0 st).bind λa st=>.ok (1-a) st:=by subst h;rfl
theorem cX24(h:op=24):qDz d C p vals b op n s ks st=(qEU ks 0 st).bind λa st=>.ok (qKr a) st:=by subst h;rfl
theorem cX19(h:op=19):qDz d C p vals b op n s ks st=(qEU ks 0 st).bind λa st=>if a=0 then .ok 0 st else qEU ks 1 st:=by subst h;rfl
theorem cX20(h:op=20):qDz d C p vals b op n s ks st=(qEU ks 0 st).bind λa st=>if a=0 then qEU ks 1 st else .ok 1 st:=by subst h;rfl
theorem cX21(h:op=21):qDz d C p vals b op n s ks st=(qEU ks 0 st).bind λa st=>if a=0 then qEU ks 2 st else qEU ks 1 st:=by subst h;rfl
theorem qKv(h:9<=op/\op<=23/\op≠18/\op≠19/\op≠20/\op≠21):qDz d C p vals b op n s ks st=(qEU ks 0 st).bind λv st=>(qEU ks 1 st).bind λw st=>qEB (qCP op v w) (qMd b op st):=by
 grind[qDz]
end
end Go.Proofs
namespace Go.Proofs
open Go Go.Sx
section
variable{d:Ds}{sc:Sc}{e:E}{p:Pr}
structure CallK (d:Ds)(sc:Sc)(e:E)(pr:Pr)(i:Nat):Prop where
 idx:qDa d e.s=i
 at_:d.procs[i]?=some pr
 len:e.k.length=pr.params.length
 fit:∀(j:Nat) a f,e.k[j]?=some a->pr.params[j]?=some f->∃u,qAq d sc a=(u,0)/\qDW d u f.ty=true
theorem fitAll_at:∀{l:List KB}{fs:List Fld},qCB d l fs=true->∀(j:Nat) a f,l[j]?=some a->fs[j]?=some f->qDW d a f.ty=true
 |[],_,_,j,a,f,h,_=>by simp at h
 |_::_,[],_,j,a,f,_,h=>by simp at h
 |b::l,g::fs,h,j,a,f,h1,h2=>by
  unfold qCB at h;rw[zC]at h;cases j with
  |zero=>simp_all
  |succ j=>exact fitAll_at h.2 j a f (by simpa using h1) (by simpa using h2)
theorem callT_ok{s t:KB}{l:List KB}(h:qFS d s l=(t,0)):∃(pr:Pr)(i:Nat),qDa d s=i/\d.procs[i]?=some pr/\l.length=pr.params.length/\qCB d l pr.params=true/\t=pr.result:=by
 unfold qFS qFP at h;unfold qDa;rcases qAL (λx:Pr=>decide (x.name=s)) d.procs with⟨-,z,-⟩|⟨i,pr,q1,z,q3,-⟩;·simp_all
 grind
theorem callK_of(hk:∀x∈e.k,(qAq d sc x).2=0){t:KB}(h:qFS d e.s (e.k.map λx=>(qAq d sc x).1)=(t,0)):∃pr i,CallK d sc e pr i/\t=pr.result:=by
 obtain⟨pr,i,h1,h2,h3,h4,z⟩:=callT_ok h;refine⟨pr,i,⟨h1,h2,by simpa using h3,λj a f ha hf=>⟨(qAq d sc a).1,qBA rfl (hk a (xp ha)),fitAll_at h4 j _ f (by simp[ha]) hf⟩⟩,z⟩
inductive qEW (d:Ds)(sc:Sc)(e:E):KB->Prop where
 |int (h:e.op=1) (hn:0<=e.n/\e.n<=1099511627776):qEW d sc e qAT
 |bool (h:e.op=2) (hn:e.n=0∨e.n=1):qEW d sc e qAz
 |nil (h:e.op=3) (hn:e.n=0):qEW d sc e qLt
 |var {t} (h:e.op=4) (hl:qBU sc.vars e.s=t) (hne:t≠sE):qEW d sc e t
 |fld {t u} {a:E} (h:e.op=5) (hk:e.k=[a]) (ha:qAq d sc a=(u,0)) (ht:qCi d u e.s=(t,0)):qEW d sc e t
 |new (h:e.op=6) (hn:qBd d e.s=true):qEW d sc e e.s
 |call {pr:Pr} {i:Nat} (h:e.op=7) (hc:CallK d sc e pr i) (hr:pr.result≠sE):qEW d sc e pr.result
 |neg {a:E} (h:e.op=8) (hk:e.k=[a]) (ha:qAq d sc a=(qAT,0)):qEW d sc e qAT
 |not {a:E} (h:e.op=18) (hk:e.k=[a]) (ha:qAq d sc a=(qAz,0)):qEW d sc e qAz
 |log {a:E} (h:e.op=24) (hk:e.k=[a]) (ha:qAq d sc a=(qAT,0)):qEW d sc e qAT
 |and {a b:E} (h:e.op=19) (hk:e.k=[a,b]) (ha:qAq d sc a=(qAz,0)) (hb:qAq d sc b=(qAz,0)):qEW d sc e qAz
 |or {a b:E} (h:e.op=20) (hk:e.k=[a,b]) (ha:qAq d sc a=(qAz,0)) (hb:qAq d sc b=(qAz,0)):qEW d sc e qAz
 |cond {a b c:E} {t u w} (h:e.op=21) (hk:e.k=[a,b,c]) (ha:qAq d sc a=(qAz,0)) (hb:qAq d sc b=(u,0)) (hc:qAq d sc c=(w,0)) (hu:u=t∨qDW d u t=true) (hw:w=t∨qDW d w t=true) (ht:t=if u=qLt then w else u):qEW d sc e t
 |eq {a b:E} {u w} (h:e.op=14∨e.op=15) (hk:e.k=[a,b]) (ha:qAq d sc a=(u,0)) (hb:qAq d sc b=(w,0)) (hf:qDW d u w=true∨qDW d w u=true):qEW d sc e qAz
 |cmp {a b:E} (h:e.op=16∨e.op=17) (hk:e.k=[a,b]) (ha:qAq d sc a=(qAT,0)) (hb:qAq d sc b=(qAT,0)):qEW d sc e qAz
 |ari {a b:E} (h:e.op=9∨e.op=10∨e.op=11∨e.op=12∨e.op=13∨e.op=22∨e.op=23) (hk:e.k=[a,b]) (ha:qAq d sc a=(qAT,0)) (hb:qAq d sc b=(qAT,0)):qEW d sc e qAT
theorem kindX(I:sc.body=true){t:KB}(hv:VE e)(ht:qAq d sc e=(t,0)):qEW d sc e t:=by
 obtain⟨hk,hn⟩:=qGd ht;obtain⟨a1,a2,a3,H⟩:=arityB hv.node;unfold qGh at hn;unfold numB at H;have one:qAW e.op=1->∃a,e.k=[a]:=λh=>list1 ((a2 (by omega)).trans h);have two:qAW e.op=2->∃a b,e.k=[a,b]:=λh=>list2 ((a2 (by omega)).trans h);have W:qAW e.op=3->∃a b c,e.k=[a,b,c]:=λh=>list3 ((a2 (by omega)).trans h);by_cases h1:e.op=1
 ·rw[if_pos h1]at hn H;cases hn;exact .int h1 (of_decide_eq_true H)
 rw[if_neg h1]at hn H;by_cases h2:e.op=2
 ·rw[if_pos h2]at hn H;cases hn;exact .bool h2 (of_decide_eq_true H)
 rw[if_neg h2]at hn H;have H:e.n=0:=of_decide_eq_true H;by_cases h3:e.op=3
 ·rw[if_pos h3]at hn;cases hn;exact .nil h3 H
 rw[if_neg h3]at hn;by_cases h4:e.op=4
 ·rw[if_pos h4]at hn;split at hn;·simp at hn
  ·rename_i hne;simp only[zS,and_true]at hn;exact .var h4 hn (hn▸hne)
 rw[if_neg h4]at hn;by_cases M:e.op=5
 ·obtain⟨a,ha⟩:=one (by rw[M];rfl);rw[if_pos M,ha]at hn;rw[ha]at hk;exact .fld M ha (qBA rfl (hk a (by simp))) hn
 rw[if_neg M]at hn;by_cases L:e.op=6
 ·rw[if_pos L,if_neg (by rw[I];decide)]at hn;split at hn;·simp at hn
  ·rename_i R;simp only[zS,and_true]at hn;subst hn;exact .new L (by simpa using R)
 rw[if_neg L]at hn;by_cases X:e.op=7
 ·rw[if_pos X]at hn;unfold qIt at hn;rw[if_pos I]at hn;split at hn;·simp at hn
  ·rename_i hne;obtain⟨pr,i,hc,rfl⟩:=callK_of hk hn;exact .call X hc λh=>hne ⟨by rw[hn],by rw[hn];exact h⟩
 rw[if_neg X]at hn;by_cases J:e.op=14∨e.op=15
 ·obtain⟨a,b,z⟩:=two (by rcases J with h|h<;>(rw[h];rfl));rw[if_pos J,z]at hn;rw[z]at hk;obtain⟨g,rfl⟩:=qCa hn;exact .eq J z (qBA rfl (hk a (by simp))) (qBA rfl (hk b (by simp))) (by simpa using g)
 rw[if_neg J]at hn;by_cases N:e.op=16∨e.op=17
 ·obtain⟨a,b,z⟩:=two (by rcases N with h|h<;>(rw[h];rfl));rw[if_pos N,z]at hn;rw[z]at hk;obtain⟨g,rfl⟩:=qCa hn;obtain⟨A,Z⟩:=allT2 g;exact .cmp N z (qBA A (hk a (by simp))) (qBA Z (hk b (by simp)))
 rw[if_neg N]at hn;by_cases O:e.op=18∨e.op=19∨e.op=20
 ·rw[if_pos O]at hn;rcases O with h|h
  ·obtain⟨a,ha⟩:=one (by rw[h];rfl);rw[ha]at hn hk;obtain⟨g,rfl⟩:=qCa hn;exact .not h ha (qBA (allT1 g) (hk a (by simp)))
  ·obtain⟨a,b,z⟩:=two (by rcases h with h|h<;>(rw[h];rfl));rw[z]at hn hk;obtain⟨g,rfl⟩:=qCa hn;obtain⟨A,Z⟩:=allT2 g;rcases h with h|h;·exact .and h z (qBA A (hk a (by simp))) (qBA Z (hk b (by simp)))
   ·exact .or h z (qBA A (hk a (by simp))) (qBA Z (hk b (by simp)))
 rw[if_neg O]at hn;by_cases Y:e.op=21
 ·obtain⟨a,b,c,o⟩:=W (by rw[Y];rfl);rw[if_pos Y,o]at hn;rw[o]at hk;obtain⟨g,Z⟩:=qCa hn;simp only[zG,xm,xk,xj,zC,decide_eq_true_eq,yQ]at g Z;refine .cond Y o (qBA g.1 (hk a (by simp))) (qBA rfl (hk b (by simp))) (qBA rfl (hk c (by simp))) ?_ ?_ Z.symm;·grind[inr,qDW]
  grind[qDW,absurd,inr]
 rw[if_neg Y]at hn;obtain⟨g,rfl⟩:=qCa hn;have B:e.op=8∨e.op=24∨(e.op=9∨e.op=10∨e.op=11∨e.op=12∨e.op=13∨e.op=22∨e.op=23):=by
  grind[qAW]
 rcases B with h|h|h
 ·obtain⟨a,ha⟩:=one (by rw[h];rfl);rw[ha]at g hk;exact .neg h ha (qBA (allT1 g) (hk a (by simp)))
 ·obtain⟨a,ha⟩:=one (by rw[h];rfl);rw[ha]at g hk;exact .log h ha (qBA (allT1 g) (hk a (by simp)))
 ·obtain⟨a,b,z⟩:=two (by rcases h with h|h|h|h|h|h|h<;>(rw[h];rfl));rw[z]at g hk;obtain⟨A,Z⟩:=allT2 g;exact .ari h z (qBA A (hk a (by simp))) (qBA Z (hk b (by simp)))
def TyS(d:Ds)(p:Pr)(s:S):Prop:=(∃n,(stT d (qAg d p) p.result n s).2=0)/\∃k,okS k s=true
theorem qIz{res:KB}:∀{l:List S}{n:Int},(qBO d sc res n l).2=0->∀s∈l,∃o,(stT d sc res o s).2=0
 |[],_,_,s,z=>by cases z
 |x::l,n,h,s,z=>by
  rw[qGD]at h;split at h;·omega
  ·rename_i H;rcases yD.1 z with rfl|z;·grind
   ·exact qIz h s z
theorem qIE{k:Int}:∀{l:List S},qHo k l=true->∀s∈l,okS k s=true
 |[],_,s,z=>by cases z
 |x::l,h,s,z=>by
  unfold qHo at h;rw[zC]at h;rcases yD.1 z with rfl|z;·exact h.1
  ·exact qIE h.2 s z
theorem okS_eq(k:Int)(s:S):okS k s=(decide (k<=60)&&qBQ s.op s.s s.es s.ls.length s.xs.length&&qHo (k+1) s.ls&&qHo (k+1) s.xs):=by cases s;unfold okS;rfl
theorem TyS.parts{s:S}(h:TyS d p s):qEZ d (qAg d p) p.result s.op s.s s.es=0/\qGG s.op s.s s.es s.ls.length s.xs.length=true/\(∀e∈s.es,qAQ e=true)/\(∀x∈s.ls,TyS d p x)/\∀x∈s.xs,TyS d p x:=by
 obtain⟨⟨n,h1⟩,k,h2⟩:=h;rw[okS_eq]at h2;simp only[zC]at h2;obtain⟨⟨⟨-,h3⟩,h4⟩,o⟩:=h2;unfold qBQ at h3;rw[zC,za]at h3;rw[stT_eq]at h1;split at h1;·omega
 ·rename_i H;split at h1;·omega
  ·rename_i J;exact⟨by simpa using H,h3.1,h3.2,λx z=>⟨qIz (by simpa using J) x z,_,qIE h4 x z⟩,λx z=>⟨qIz h1 x z,_,qIE o x z⟩⟩
inductive KindS (d:Ds)(p:Pr)(s:S):Prop where
 |set {e:E} {u t:KB} (h:s.op=1) (he:s.es=[e]) (hv:qAQ e=true) (ht:qAq d (qAg d p) e=(u,0)) (hl:qBU (qAg d p).vars s.s=t) (hne:t≠sE) (hf:qDW d u t=true)
 |put {a e:E} {u w t:KB} (h:s.op=2) (he:s.es=[a,e]) (hv:qAQ a=true) (hw:qAQ e=true) (ha:qAq d (qAg d p) a=(u,0)) (ht:qAq d (qAg d p) e=(w,0)) (hl:qCi d u s.s=(t,0)) (hf:qDW d w t=true)
 |cond {e:E} (h:s.op=3) (he:s.es=[e]) (hv:qAQ e=true) (ht:qAq d (qAg d p) e=(qAz,0))
 |loop {e:E} (h:s.op=4) (he:s.es=[e]) (hv:qAQ e=true) (ht:qAq d (qAg d p) e=(qAz,0))
 |ret0 (h:s.op=5) (he:s.es=[]) (hr:p.result=sE)
 |ret1 {e:E} {u:KB} (h:s.op=5) (he:s.es=[e]) (hv:qAQ e=true) (ht:qAq d (qAg d p) e=(u,0)) (hr:p.result≠sE) (hf:qDW d u p.result=true)
 |call {e:E} {pr:Pr} {i:Nat} (h:s.op=6) (he:s.es=[e]) (hv:qAQ e=true) (ho:e.op=7) (hc:CallK d (qAg d p) e pr i)
theorem kindS{s:S}(h:TyS d p s):KindS d p s:=by
 obtain⟨h1,h2,h3,-⟩:=h.parts;unfold qEZ at h1;unfold qGG at h2;by_cases H:s.op=6
 ·rw[if_pos H]at h1;rw[if_neg (by omega),if_neg (by omega),if_neg (by omega),if_neg (by omega),if_neg (by omega),if_pos H]at h2;obtain⟨-,h4,I,-⟩:=of_decide_eq_true h2;obtain⟨e,he⟩:=list1 h4;rw[he]at h1 I;simp only at h1;split at h1;·omega
  ·rename_i W;obtain⟨z,O⟩:=qFG d (qAg d p) e.k [] (by simpa using W);rw[O,xi]at h1;obtain⟨pr,i,hc,-⟩:=callK_of (t:=(qFS d e.s (e.k.map λx=>(qAq d (qAg d p) x).1)).1) z (xn rfl h1);exact .call H he (h3 e (by rw[he];simp)) I hc
 rw[if_neg H]at h1;split at h1;·omega
 rename_i W;obtain⟨z,O⟩:=qFG d (qAg d p) s.es [] (by simpa using W);rw[O,xi]at h1;have ty:∀{e:E},e∈s.es->qAq d (qAg d p) e=((qAq d (qAg d p) e).1,0):=λhe=>qBA rfl (z _ he);by_cases J:s.op=1
 ·rw[if_pos J]at h1;rw[if_pos J,zC]at h2;obtain⟨e,he⟩:=list1 (of_decide_eq_true h2.2).1;have hm:e∈s.es:=by rw[he];simp
  split at h1;·cases h1
  rename_i hne;split at h1
  ·rename_i hf;rw[he]at hf;exact .set J he (h3 e hm) (ty hm) rfl hne hf
  ·cases h1
 rw[if_neg J]at h1 h2;by_cases N:s.op=2
 ·rw[if_pos N]at h1;rw[if_pos N,zC]at h2;obtain⟨a,e,he⟩:=list2 (of_decide_eq_true h2.2).1;have hm:a∈s.es:=by rw[he];simp
  have o:e∈s.es:=by rw[he];simp
  split at h1;·omega
  rename_i h4;split at h1
  ·rename_i hf;rw[he]at hf h4;simp only[zG,xk,xj]at hf h4;exact .put N he (h3 a hm) (h3 e o) (ty hm) (ty o) (xn rfl (by simpa using h4)) hf
  ·cases h1
 rw[if_neg N]at h1 h2;by_cases Z:s.op=3
 ·rw[if_pos (.inl Z)]at h1;rw[if_pos Z]at h2;obtain⟨e,he⟩:=list1 (of_decide_eq_true h2).2;have hm:e∈s.es:=by rw[he];simp
  split at h1
  ·rename_i hf;rw[he]at hf;exact .cond Z he (h3 e hm) (qBA hf (z e hm))
  ·cases h1
 rw[if_neg Z]at h2;by_cases Y:s.op=4
 ·rw[if_pos (.inr Y)]at h1;rw[if_pos Y]at h2;obtain⟨e,he⟩:=list1 (of_decide_eq_true h2).2.1;have hm:e∈s.es:=by rw[he];simp
  split at h1
  ·rename_i hf;rw[he]at hf;exact .loop Y he (h3 e hm) (qBA hf (z e hm))
  ·cases h1
 rw[if_neg (by omega)]at h1;rw[if_neg Y]at h2;by_cases A:s.op=5
 ·rw[if_pos A]at h1 h2;obtain⟨-,hl,-⟩:=of_decide_eq_true h2;cases he:s.es with
  |nil=>
   rw[he]at h1;simp only[xm,xh,if_true]at h1;split at h1;·rename_i hr;exact .ret0 A he hr
   ·cases h1
  |cons e r=>
   have hr:r=[]:=by
    grind
   subst hr;have hm:e∈s.es:=by rw[he];simp
   rw[he]at h1;simp only[zG,xm,List.length_cons,xh,xk]at h1;rw[if_neg (by omega)]at h1;split at h1;·rename_i hf;exact .ret1 A he (h3 e hm) (ty hm) hf.1 hf.2
   ·cases h1
 simp_all
structure qCV (d:Ds)(p:Pr):Prop where
 body:∀s∈p.body,TyS d p s
 vars:∀f∈p.vars,qBl d f.ty=true
 res:p.result=sE∨qBl d p.result=true
 lens:p.params.length<=6/\p.locals.length<=12
theorem oneT_known{l:List Fld}{i:Nat}{f:Fld}(h:qES d l i f=0):qBl d f.ty=true:=by
 grind[qES]
theorem declT_known{l:List Fld}(h:qCD d l=0):∀f∈l,qBl d f.ty=true:=by
 intro f hf;obtain⟨i,hi⟩:=xg.1 hf;unfold qCD at h;cases o:qAk (λi f=>if qES d l i f≠0 then some (qES d l i f)else none) 0 l with
 |none=>
  grind[qFL,oneT_known]
 |some b=>
  exfalso;rw[o]at h;simp only[Option.getD_some]at h;subst h;have key:∀(z:List Fld)(i:Nat),qAk (λi f=>if qES d l i f≠0 then some (qES d l i f)else none) i z≠some 0:=by
   intro z;induction z with
   |nil=>intro i h;cases h
   |cons x z H=>
    grind[qAk,qES]
  exact key l 0 o
theorem qGJ(hv:qAG d=true)(hc:qIj d=none):∀p∈d.procs,qCV d p:=by
 intro p hp;obtain⟨i,hi⟩:=xg.1 hp;unfold qIj at hc;obtain⟨-,h⟩:=qLF hc;obtain⟨N,h⟩:=qLF h;obtain⟨-,h⟩:=qLF h;obtain⟨hb,-⟩:=qLF h;unfold qEQ at N;unfold qCJ at hb;have a1:=qFL N i p hi;have a2:=qFL hb i p hi;unfold qAG at hv;simp only[zC,za]at hv;have z:=hv.1.2 p hp;unfold prB at z;simp only[zC]at z;obtain⟨⟨⟨⟨-,o⟩,f2⟩,-⟩,Z⟩:=z;unfold qDC at o f2;rw[zC,decide_eq_true_eq]at o f2;have Y:=o.1;have W:=f2.1;refine⟨λs H=>⟨?_,1,qIE (of_decide_eq_true Z).1 s H⟩,?_,?_,by omega,by omega⟩;·grind[qIz]
 ·split at a1;·cases a1
  split at a1;·cases a1
  rename_i J;have J:qCD d (p.params++p.locals)=0:=by simpa using J
  exact declT_known J
 grind
end
end Go.Proofs
namespace Go.Proofs
open Go Go.Sx
section
variable{d:Ds}{F:Nat}
def Rx.st{α:Type}:Rx α->St|.ok _ s=>s|.bad _ s=>s
inductive qKf:Nat->List (Int×Int×Int)->Nat->Prop where
 |nil (n:Nat):qKf n [] n
 |acc {n m:Nat} {k a f:Int} {l:List (Int×Int×Int)} (hk:k=1∨k=2) (h0:0<=a) (h1:a<=(n:Int)) (h2:0<=f) (h:qKf n l m):qKf n ((k,a,f)::l) m
 |alloc {n m:Nat} {f:Int} {l:List (Int×Int×Int)} (h2:0<=f) (h:qKf (n+1) l m):qKf n ((3,(n:Int)+1,f)::l) m
theorem qKf.app{n m k:Nat}{l z:List (Int×Int×Int)}(h:qKf n l m)(o:qKf m z k):qKf n (l++z) k:=by
 induction h with
 |nil=>exact o
 |acc a b c d _ H=>grind[acc]
 |alloc a _ H=>exact .alloc a (H o)
abbrev Gm:=List Int×List (Int×List Int)
inductive Tra:Gm->List (Int×Int×Int)->Gm->Prop where
 |nil (x:Gm):Tra x [] x
 |rd {x y:Gm} {l:List (Int×Int×Int)} {n f:Int} (h:Tra x l y):Tra x ((1,n,f)::l) y
 |wg {g:List Int} {ns:List (Int×List Int)} {y:Gm} {l:List (Int×Int×Int)} {i:Nat} {v:Int} (hi:i<g.length) (h:Tra (g.set i v,ns) l y):Tra (g,ns) ((2,0,(i:Int))::l) y
 |wf {g:List Int} {ns:List (Int×List Int)} {y:Gm} {l:List (Int×Int×Int)} {k i:Nat} {ty v:Int} {f:List Int} (hk:ns[k]?=some (ty,f)) (hi:i<f.length) (h:Tra (g,ns.set k (ty,f.set i v)) l y):Tra (g,ns) ((2,(k:Int)+1,(i:Int))::l) y
 |al {g:List Int} {ns:List (Int×List Int)} {y:Gm} {l:List (Int×Int×Int)} {ty:Int} {n:Nat} (h:Tra (g,ns++[(ty,yJ n 0)]) l y):Tra (g,ns) ((3,(ns.length:Int)+1,ty)::l) y
theorem Tra.app{x y z:Gm}{l H:List (Int×Int×Int)}(h:Tra x l y)(k:Tra y H z):Tra x (l++H) z:=by
 induction h with
 |nil=>exact k
 |rd _ o=>exact .rd (o k)
 |wg hi _ o=>exact .wg hi (o k)
 |wf hk hi _ o=>grind[wf]
 |al _ o=>exact .al (o k)
structure Gr (F n:Nat)(s s':St):Prop where
 ty:∀(i:Nat) x,s.ns[i]?=some x->∃y,s'.ns[i]?=some y/\y.1=x.1
 tk:s.tk<=s'.tk
 fu:s.tk<=F->s'.tk<=F
 lg:∃l,s'.lg=s.lg++l/\qKf s.ns.length l s'.ns.length/\((∀a∈l,a.1=1)->s'.g=s.g/\s'.ns=s.ns)
 w:s'.lg.length+s'.cm+4000*s.tk<=s.lg.length+s.cm+n+4000*s'.tk
 tr:∃l,s'.lg=s.lg++l/\Tra (s.g,s.ns) l (s'.g,s'.ns)
theorem Gr.refl(s:St):Gr F 0 s s:=⟨λ_ x h=>⟨x,h,rfl⟩,yV _,λh=>h,⟨[],by simp,.nil _,λ_=>⟨rfl,rfl⟩⟩,by omega,⟨[],by simp,.nil _⟩⟩
theorem Gr.trans{n m:Nat}{a b c:St}(h:Gr F n a b)(k:Gr F m b c):Gr F (n+m) a c:=⟨λi x Z=>by
 obtain⟨y,h1,h2⟩:=h.ty i x Z;obtain⟨z,h3,h4⟩:=k.ty i y h1;simp_all,Nat.le_trans h.tk k.tk,λe=>k.fu (h.fu e),by
 obtain⟨l,Y,H,O⟩:=h.lg;obtain⟨J,N,o,W⟩:=k.lg;refine⟨l++J,by simp_all,H.app o,λha=>?_⟩;simp_all,by have:=h.w;have:=k.w;omega,by
 obtain⟨l,Y,H⟩:=h.tr;obtain⟨J,N,o⟩:=k.tr;exact⟨l++J,by simp_all,H.app o⟩⟩
theorem Gr.le{n m:Nat}{a b:St}(h:Gr F n a b)(hn:n<=m):Gr F m a b:=⟨h.ty,h.tk,h.fu,h.lg,by have:=h.w;omega,h.tr⟩
theorem Gr.len{n:Nat}{a b:St}(h:Gr F n a b):a.ns.length<=b.ns.length:=by
 cases hk:a.ns.length with
 |zero=>omega
 |succ k=>
  obtain⟨y,z,-⟩:=h.ty k _ (yu (by omega));grind
theorem qJr{s:St}{i:Nat}:s.mm.nodes[i]?=(s.ns[i]?).map λn=>⟨n.1,qAx,n.2⟩:=List.getElem?_map ..
theorem mm_len{s:St}:s.mm.nodes.length=s.ns.length:=List.length_map ..
theorem qHw{m m':Mm}(hl:m.nodes.length<=m'.nodes.length)(hn:∀(i:Nat) x,m.nodes[i]?=some x->∃y,m'.nodes[i]?=some y/\y.ty=x.ty){t:KB}{v:Int}(h:qAA d m t v=true):qAA d m' t v=true:=by
 unfold qAA at h⊢;split;·simp_all
 rename_i h1;rw[if_neg h1]at h;split;·simp_all
 rename_i h2;rw[if_neg h2,decide_eq_true_eq]at h;refine decide_eq_true ?_;rcases h with h|⟨p1,p2,p3⟩;·exact .inl h
 ·refine .inr ⟨p1,by omega,?_⟩;cases z:m.nodes[(v-1).toNat]? with
  |none=>simp_all
  |some x=>
   rw[z]at p3;obtain⟨y,o,H⟩:=hn _ _ z;simp_all
theorem Gr.right{n:Nat}{a b:St}(h:Gr F n a b){t:KB}{v:Int}(hr:qAA d a.mm t v=true):qAA d b.mm t v=true:=by
 refine qHw (m:=a.mm) (by rw[mm_len,mm_len];exact h.len) (λi x o=>?_) hr;rw[qJr]at o;cases H:a.ns[i]? with
 |none=>simp_all
 |some y=>
  rw[H]at o;cases o;obtain⟨z,J,N⟩:=h.ty i y H;simp_all[qAx,qJr]
theorem Gr.val{n:Nat}{a b:St}(h:Gr F n a b){t:KB}{v:Int}(hr:qBN d a.mm t v):qBN d b.mm t v:=by
 unfold qBN at hr⊢;split;·simp_all
 ·rename_i h1;rw[if_neg h1]at hr;exact h.right hr
theorem qAD{m:Mm}{l:List Fld}{vs:List Int}:qAi d m l vs=true↔l.length=vs.length/\∀(j:Nat) f v,l[j]?=some f->vs[j]?=some v->qAA d m f.ty v=true:=by
 unfold qAi;rw[zC,decide_eq_true_eq,qDO];grind[tyAt]
theorem qAp{m m':Mm}(hr:∀{t v},qAA d m t v=true->qAA d m' t v=true){l:List Fld}{vs:List Int}(h:qAi d m l vs=true):qAi d m' l vs=true:=by
 grind[qAD]
theorem qHt{m:Mm}{l:List Fld}{vs:List Int}(h:qAi d m l vs=true){i:Nat}{f:Fld}(hf:l[i]?=some f){v:Int}(hv:qAA d m f.ty v=true):qAi d m l (vs.set i v)=true:=by
 grind[qAD,xf]
theorem qJf(hv:qAG d=true){m:Mm}{t:KB}(h:qBl d t=true):qAA d m t 0=true:=by
 unfold qBl at h;simp only[yQ,decide_eq_true_eq]at h;rcases h with(rfl|rfl)|h;·rfl
 ·rfl
 ·exact qKH (qFi hv h)
theorem qEt(hv:qAG d=true){m:Mm}{l:List Fld}(h:∀f∈l,qBl d f.ty=true):qAi d m l (yJ l.length 0)=true:=by
 grind[qAD,qJf,xp]
theorem qEd{m:Mm}{l o:List Fld}{vs z:List Int}(h:qAi d m l vs=true)(H:qAi d m o z=true):qAi d m (l++o) (vs++z)=true:=by
 grind[qAD,zw,List.getElem?_append_left,List.getElem?_append_right]
theorem qGz{m:Mm}(h1:qJD d=true)(h2:m.nodes.length<=4096)(h3:∀n∈m.nodes,qDK d n=true)(h4:qAi d m d.globals m.globals=true)(z:∀n∈m.nodes,qAi d m (qAt d n.ty) n.f=true):qAy d m=true:=by
 grind[qAy]
structure RxP {α:Type}(d:Ds)(F n:Nat)(s:St)(r:Rx α)(Q:α->St->Prop):Prop where
 good:qAw d r.st.mm
 gr:Gr F n s r.st
 q:∀v s',r=.ok v s'->Q v s'
section
variable{α β:Type}{n m:Nat}{s:St}{r:Rx α}{Q:α->St->Prop}
theorem RxP.ok{v:α}(G:qAw d s.mm)(h:Q v s):RxP d F 0 s (.ok v s) Q:=⟨G,Gr.refl s,λ_ _ e=>by cases e;exact h⟩
theorem RxP.bad{c:Int}(G:qAw d s.mm):RxP d F 0 s (.bad c s:Rx α) Q:=⟨G,Gr.refl s,λ_ _ e=>by cases e⟩
theorem RxP.le(h:RxP d F n s r Q)(hn:n<=m):RxP d F m s r Q:=⟨h.good,h.gr.le hn,h.q⟩
theorem RxP.mono{z:α->St->Prop}(h:RxP d F n s r Q)(k:∀v s',r=.ok v s'->Q v s'->z v s'):RxP d F n s r z:=⟨h.good,h.gr,λv s' e=>k v s' e (h.q v s' e)⟩
theorem RxP.bind{f:α->St->Rx β}{z:β->St->Prop}(h:RxP d F n s r Q)(k:∀v s',r=.ok v s'->Q v s'->qAw d s'.mm->Gr F n s s'->RxP d F m s' (f v s') z):RxP d F (n+m) s (r.bind f) z:=by
 cases r with
 |ok v s'=>
  have H:=k v s' rfl (h.q v s' rfl) h.good h.gr;exact⟨H.good,h.gr.trans H.gr,H.q⟩
 |bad c s'=>exact⟨h.good,h.gr.le (by omega),λ_ _ e=>by cases e⟩
end
section
variable{s:St}(G:qAw d s.mm)
include G
omit G in
theorem qLL{n:Nat}{r:Rs}{s':St}(z:qAw d s'.mm)(g:Gr F n s s'){Q:Int->St->Prop}(h:∀v,r=.ok v->Q v s'):RxP d F n s (qEB r s') Q:=by
 cases r with
 |ok v=>exact⟨z,g,λ_ _ e=>by cases e;exact h v rfl⟩
 |bad c=>exact⟨z,g,λ_ _ e=>by cases e⟩
theorem qGc{p:Pr}{vals:List Int}(hv:qAi d s.mm p.vars vals=true)(P:∀f∈p.vars,qBl d f.ty=true){nm t:KB}(hl:qBU (qAg d p).vars nm=t)(hne:t≠sE):
  (∃(i:Nat)(f:Fld)(v:Int),qFW p.vars nm=i/\p.vars[i]?=some f/\vals[i]?=some v/\f.ty=t/\qBN d s.mm t v/\varX d p vals nm s=.ok v s)∨
  ∃(i:Nat)(f:Fld)(v:Int),qFW p.vars nm=-1/\qFW d.globals nm=i/\d.globals[i]?=some f/\s.g[i]?=some v/\f.ty=t/\qBN d s.mm t v/\varX d p vals nm s=.ok v (s.note (1,0,i)):=by
 obtain⟨p1,-,-,N,-⟩:=qAh G.mem;have hl:qBU (p.vars++d.globals) nm=t:=hl;have app:∀(a b:List Fld),qBU (a++b) nm=if 0<=qFW a nm then qBU a nm else qBU b nm:=λa b=>by
  rw[qEi,qEi,qEi,List.find?_append];unfold qFW;rcases qAL (λf:Fld=>decide (f.name=nm)) a with⟨h1,h2,-⟩|⟨i,x,h1,-,h3,-⟩;·grind
  simp_all
 rw[app]at hl;by_cases h0:0<=qFW p.vars nm
 ·left;rw[if_pos h0]at hl;rcases qFl p.vars nm with⟨H,-⟩|⟨i,f,H,c2,c3,-⟩;·simp_all
  ·obtain⟨v,z,o⟩:=qGy hv c2;have e:f.ty=t:=c3.symm.trans hl;refine⟨i,f,v,H,c2,z,e,?_,?_⟩;·rw[<-e];exact(qBo G.valid (P f (xp c2))).2 o
   grind[varX]
 ·right;rw[if_neg h0]at hl;rcases qFl d.globals nm with⟨H,-⟩|⟨i,f,H,c2,c3,-⟩;·simp_all
  ·obtain⟨v,z,o⟩:=qGy N c2;have e:f.ty=t:=c3.symm.trans hl;have J:qBl d f.ty=true:=za.1 (qBF p1).1 f (xp c2);refine⟨i,f,v,?_,H,c2,z,e,?_,?_⟩
   ·rcases qFl p.vars nm with⟨-,c⟩|⟨j,_,c,-⟩;·exact c
    omega
   ·rw[<-e];exact(qBo G.valid J).2 o
   ·unfold varX;rw[if_neg h0,H,xo];have z:s.g[i]?=some v:=z;rw[z];rfl
theorem qFH{t nm ty:KB}(ht:qCi d t nm=(ty,0)){a:Int}(ha:qBN d s.mm t a)(h0:a≠0):
  ∃(q i j:Nat)(z:Ty)(f:Fld)(fs:List Int)(v:Int),a=(q:Int)+1/\s.ns[q]?=some ((j:Int),fs)/\d.types[j]?=some z/\z∈d.types/\qAt d j=z.fields/\qFW z.fields nm=i/\z.fields[i]?=some f/\fs[i]?=some v/\qBN d s.mm ty v/\f.ty=ty/\qBl d ty=true:=by
 obtain⟨n,i,j,z,f,v,b1,-,b3,W,Y,b6,b7,b8,b9,H,J,-,o⟩:=fld_ok G ht ha h0;obtain⟨q,rfl⟩:∃q:Nat,a=(q:Int)+1:=⟨(a-1).toNat,by omega⟩;rw[show((q:Int)+1-1).toNat=q by omega,qJr]at b1;cases Z:s.ns[q]? with
 |none=>simp_all
 |some x=>
  rw[Z]at b1;cases b1;obtain⟨p1,-⟩:=qAh G.mem;have N:qBl d f.ty=true:=za.1 ((qBF p1).2.2 z b7) f (xp b9);exact⟨q,i,j,z,f,x.2,v,rfl,by rw[Z,<-Y],b6,b7,qAU b6 rfl,b8,b9,H,J,o,o▸N⟩
omit G in
theorem gr_note{a f:Int}(h0:0<=a)(h1:a<=(s.ns.length:Int))(h2:0<=f):Gr F 1 s (s.note (1,a,f)):=⟨λ_ x h=>⟨x,h,rfl⟩,yV _,λh=>h,⟨[(1,a,f)],rfl,.acc (.inl rfl) h0 h1 h2 (.nil _),λ_=>⟨rfl,rfl⟩⟩,by show(s.lg++[_]).length+_+_<=_;rw[zw,xe];show s.lg.length+1+s.cm+4000*s.tk<=s.lg.length+s.cm+1+4000*s.tk;omega,⟨[(1,a,f)],rfl,.rd (.nil _)⟩⟩
omit G in
theorem gr_cnt{b:Bool}{op:Int}:Gr F 1 s (qMd b op s):=by
 unfold qMd;split;·exact⟨λ_ x h=>⟨x,h,rfl⟩,yV _,λh=>h,⟨[],by simp,.nil _,λ_=>⟨rfl,rfl⟩⟩,by grind,⟨[],by simp,.nil _⟩⟩
 ·exact(Gr.refl s).le (by omega)
theorem qLS{b:Bool}{op:Int}:qAw d (qMd b op s).mm:=by
 unfold qMd;split;·exact⟨G.valid,G.chk,G.mem⟩
 ·exact G
theorem new_snd{nm:KB}(hn:qBd d nm=true):RxP d F 1 s (newX d nm s) λv s'=>qBN d s'.mm nm v:=by
 unfold newX;split;·exact(RxP.bad G).le (by omega)
 rename_i A;obtain⟨p1,X,p3,I,M⟩:=qAh G.mem;have z:=qFi G.valid hn;obtain⟨J,Z,N⟩:=xX.1 hn;have N:J.name=nm:=of_decide_eq_true N;obtain⟨j,O⟩:=xg.1 Z;have Y:qDL d nm=(j:Int):=N▸(qBF p1).2.1 j J O;have L:=(yv.1 O).1;rw[Y];have W:qAt d (j:Int)=J.fields:=qAU O rfl;rw[W];obtain⟨s',H⟩:∃s':St,s'={s with ns:=s.ns++[((j:Int),yJ J.fields.length 0)],lg:=s.lg++[(3,(s.ns.length:Int)+1,(j:Int))]}:=⟨_,rfl⟩;rw[<-H];have g:Gr F 1 s s':=by
  rw[H];refine⟨λi x B=>⟨x,?_,rfl⟩,yV _,λh=>h,⟨[_],rfl,.alloc (by omega) ?_,λh=>(by simp_all)⟩,?_,⟨[_],rfl,.al (.nil _)⟩⟩;·grind
  ·grind[qKf,zw,xe]
  grind
 have o:s'.mm.nodes=s.mm.nodes++[⟨(j:Int),qAx,yJ J.fields.length 0⟩]:=by rw[H];simp[St.mm]
 have R:qAw d s'.mm:=by
  refine⟨G.valid,G.chk,qGz p1 ?_ (λn hm=>?_) ?_ λn hm=>?_⟩;·grind[zw,xe,mm_len]
  ·rw[o]at hm;rcases xd.1 hm with hm|hm;·exact p3 n hm
   ·rw[zO.1 hm];exact decide_eq_true ⟨by simp_all,by simp_all⟩
  ·have:s'.mm.globals=s.mm.globals:=by rw[H];rfl
   rw[this];exact qAp (λh=>g.right h) I
  ·rw[o]at hm;rcases xd.1 hm with hm|hm;·exact qAp (λh=>g.right h) (M n hm)
   ·rw[zO.1 hm];show qAi d s'.mm (qAt d (j:Int)) (yJ J.fields.length 0)=true;rw[W];exact qEt G.valid λf hf=>za.1 ((qBF p1).2.2 J Z) f hf
 refine⟨R,g,λv D e=>?_⟩;cases e;unfold qBN qAA;rw[if_neg (qEy z kwNil),if_neg (qEy z kwInt),if_neg (qEy z kwBool),decide_eq_true_eq];grind[inr,zw,xe,mm_len,Int,List.getElem?_concat_length]
end
def CSnd(d:Ds)(F:Nat)(C:Cf):Prop:=∀(i:Nat) pr args s,d.procs[i]?=some pr->qAw d s.mm->qAi d s.mm pr.params args=true->RxP d F 0 s (C i args s) λv s'=>pr.result≠sE->qBN d s'.mm pr.result v
theorem szEs_sum:∀l:List E,szEs l=(l.map szE).sum
 |[]=>by unfold szEs;rfl
 |e::l=>by unfold szEs;rw[szEs_sum l];rfl
theorem szE_eq(e:E):szE e=1+(e.k.map szE).sum:=by cases e;unfold szE;rw[szEs_sum];rfl
theorem seq_snd{sc:Sc}{f:E->St->Rx Int}:∀(k:List E)(fs:List Fld)(acc:List Int)(gs:List Fld)(s:St),qAw d s.mm->qAi d s.mm gs acc=true->k.length=fs.length->(∀f∈fs,qBl d f.ty=true)->
  (∀(j:Nat) a g,k[j]?=some a->fs[j]?=some g->∃u,qAq d sc a=(u,0)/\qDW d u g.ty=true)->
  (∀a∈k,∀(u:KB)(s1:St)(n:Nat),qAq d sc a=(u,0)->qAw d s1.mm->Gr F n s s1->RxP d F (szE a) s1 (f a s1) λv s'=>qBN d s'.mm u v)->
  RxP d F (k.map szE).sum s (qKl (k.map f) acc s) λl s'=>qAi d s'.mm (gs++fs) l=true
 |[],fs,acc,gs,s,G,ha,hl,_,_,_=>by
  obtain rfl:fs=[]:=List.eq_nil_of_length_eq_zero (by grind);rw[List.append_nil];exact RxP.ok G ha
 |a::k,fs,acc,gs,s,G,ha,hl,z,ht,H=>by
  cases fs with
  |nil=>simp at hl
  |cons g fs=>
   obtain⟨u,hu,o⟩:=ht 0 a g rfl rfl;have h1:=H a zc u s 0 hu G (Gr.refl s);rw[zG,zG,List.sum_cons];show RxP d F _ s ((f a s).bind λv st=>qKl (k.map f) (acc++[v]) st) _;refine h1.bind λv s1 _ hv Z N=>?_;have Y:=(qBo G.valid (z g zc)).1 (qCo G.valid o hv);have J:qAi d s1.mm (gs++[g]) (acc++[v])=true:=qEd (qAp (λh=>N.right h) ha) (qAD.2 ⟨rfl,λj f w hf hw=>by
    grind⟩)
   have:=seq_snd k fs (acc++[v]) (gs++[g]) s1 Z J (by simpa using hl) (λf hf=>z f (zb _ hf)) (λj a g ha W=>ht (j+1) a g (by simpa using ha) (by simpa using W)) (λb hb u O n hu A I=>H b (zb _ hb) u O _ hu A (N.trans I));simp_all
theorem qDH(hp:∀p∈d.procs,qCV d p){i:Nat}{pr:Pr}(h:d.procs[i]?=some pr):∀f∈pr.params,qBl d f.ty=true:=λf hf=>(hp pr (xp h)).vars f (List.mem_append_left _ hf)
theorem qLa(hp:∀p∈d.procs,qCV d p){C:Cf}(X:CSnd d F C){p:Pr}(hpo:qCV d p){vals:List Int}:
  ∀(e:E)(t:KB)(s:St),VE e->qAq d (qAg d p) e=(t,0)->qAw d s.mm->qAi d s.mm p.vars vals=true->RxP d F (szE e) s (evX d C p vals e s) λv s'=>qBN d s'.mm t v:=by
 intro e;induction e using E.ind with
 |h e B=>
 intro t s hv ht G Z;rw[evX_eq,szE_eq];have I:∀{a:E}{u:KB}{N:St}{n:Nat},a∈e.k->qAq d (qAg d p) a=(u,0)->qAw d N.mm->Gr F n s N->RxP d F (szE a) N (evX d C p vals a N) λv s'=>qBN d s'.mm u v:=λhm ha o J=>B _ hm _ _ (hv.kids _ hm) ha o (qAp (λh=>J.right h) Z);have K:∀{i:Nat}{a:E},e.k[i]?=some a->qEU (e.k.map (evX d C p vals)) i=evX d C p vals a:=λh=>qLO h;have b0:∀{v:Int},v=0∨v=1->qBN d s.mm qAz v:=λh=>qBg.2 h;cases kindX (sc:=qAg d p) rfl hv ht with
 |int h hn=>rw[cX1 (.inl h)];exact(RxP.ok G (qBh.2 (by omega))).le (by omega)
 |bool h hn=>rw[cX1 (.inr h)];exact(RxP.ok G (qBg.2 (by omega))).le (by omega)
 |nil h hn=>rw[cX3 h];exact(RxP.ok G (by rfl)).le (by omega)
 |var h hl hne=>
  rw[cX4 h];rcases qGc G Z hpo.vars hl hne with⟨i,f,v,-,-,-,-,W,O⟩|⟨i,f,v,-,-,-,-,-,W,O⟩;·rw[O];exact(RxP.ok G W).le (by omega)
  ·rw[O];exact⟨⟨G.valid,G.chk,G.mem⟩,(gr_note (by omega) (by omega) (by omega)).le (by omega),λ_ _ e=>by cases e;exact W⟩
 |@fld _ u a h hk ha hf=>
  rw[cX5 h,K (i:=0) (by rw[hk];rfl),hk];refine((I (by rw[hk];simp) ha G (Gr.refl s)).bind (m:=1) λv N _ H o J=>?_).le (by simp<;>omega);unfold fldX;by_cases h0:v=0;·rw[if_pos h0];exact(RxP.bad o).le (by omega)
  ·rw[if_neg h0];obtain⟨q,i,j,U,f,fs,w,rfl,h2,h3,-,W,O,h7,D,T,-⟩:=qFH o hf H h0;rw[show((q:Int)+1-1).toNat=q by omega,h2];simp only;rw[W,O,xo,D];exact⟨⟨o.valid,o.chk,o.mem⟩,gr_note (by omega) (by grind) (by omega),λ_ _ e=>by cases e;exact T⟩
 |new h hn=>rw[cX6 h];exact(new_snd G hn).le (by omega)
 |@call pr i h hc hr=>
  rw[cX7 h,hc.idx];refine((seq_snd e.k pr.params [] [] s G (qAD.2 ⟨rfl,λj f v h=>by simp at h⟩) hc.len (qDH hp hc.at_) hc.fit (λa hm u N n hu o J=>I hm hu o J)).bind (m:=0) λl N _ hl o J=>?_).le (by omega);exact(X i pr l N hc.at_ o hl).mono λv s' _ h=>h hr
 |@neg a h hk ha=>
  rw[cX8 h,K (i:=0) (by rw[hk];rfl),hk];refine((I (by rw[hk];simp) ha G (Gr.refl s)).bind (m:=0) λv N _ H o J=>qLL o (Gr.refl N) λw hw=>qBh.2 (big_ok hw).2).le (by simp<;>omega)
 |@not a h hk ha=>
  rw[cX18 h,K (i:=0) (by rw[hk];rfl),hk];refine((I (by rw[hk];simp) ha G (Gr.refl s)).bind (m:=0) λv N _ H o J=>RxP.ok o ?_).le (by simp<;>omega);grind[qBg]
 |@log a h hk ha=>
  rw[cX24 h,K (i:=0) (by rw[hk];rfl),hk];refine((I (by rw[hk];simp) ha G (Gr.refl s)).bind (m:=0) λv N _ H o J=>RxP.ok o ?_).le (by simp<;>omega);have:=log_in (a:=v) (qBh.1 H).2;exact qBh.2 (by omega)
 |@and a b h hk ha hb=>
  rw[cX19 h,K (i:=0) (by rw[hk];rfl),K (i:=1) (by rw[hk];rfl)];refine((I (by rw[hk];simp) ha G (Gr.refl s)).bind (m:=szE b) λv N _ H o J=>?_).le (by simp_all);split;·exact(RxP.ok o (qBg.2 (.inl rfl))).le (by omega)
  grind
 |@or a b h hk ha hb=>
  rw[cX20 h,K (i:=0) (by rw[hk];rfl),K (i:=1) (by rw[hk];rfl)];refine((I (by rw[hk];simp) ha G (Gr.refl s)).bind (m:=szE b) λv N _ H o J=>?_).le (by simp_all);split;·grind
  ·exact(RxP.ok o (qBg.2 (.inr rfl))).le (by omega)
 |@cond a b c _ u w h hk ha hb hc hu hw _=>
  rw[cX21 h,K (i:=0) (by rw[hk];rfl),K (i:=1) (by rw[hk];rfl),K (i:=2) (by rw[hk];rfl)];refine((I (by rw[hk];simp) ha G (Gr.refl s)).bind (m:=szE b+szE c) λv N _ H o J=>?_).le (by simp_all);split
  ·exact((I (by rw[hk];simp) hc o J).mono λv s' _ h=>by
    rcases hw with rfl|hw;·exact h
    ·exact qCo G.valid hw h).le (by omega)
  ·exact((I (by rw[hk];simp) hb o J).mono λv s' _ h=>by
    rcases hu with rfl|hu;·exact h
    ·exact qCo G.valid hu h).le (by omega)
 |@eq a b u w h hk ha hb _=>
  rw[qKv (by omega),K (i:=0) (by rw[hk];rfl),K (i:=1) (by rw[hk];rfl)];refine((I (by rw[hk];simp) ha G (Gr.refl s)).bind (m:=szE b+1) λv N _ H o J=>(I (by rw[hk];simp) hb o J).bind (m:=1) λz L _ Y A R=>qLL (qLS A) gr_cnt λx M=>qBg.2 (twoB_ok (by omega) M)).le (by grind)
 |@cmp a b h hk ha hb=>
  rw[qKv (by omega),K (i:=0) (by rw[hk];rfl),K (i:=1) (by rw[hk];rfl)];refine((I (by rw[hk];simp) ha G (Gr.refl s)).bind (m:=szE b+1) λv N _ H o J=>(I (by rw[hk];simp) hb o J).bind (m:=1) λz L _ Y A R=>qLL (qLS A) gr_cnt λx M=>qBg.2 (twoB_ok (by omega) M)).le (by grind)
 |@ari a b h hk ha hb=>
  rw[qKv (by omega),K (i:=0) (by rw[hk];rfl),K (i:=1) (by rw[hk];rfl)];refine((I (by rw[hk];simp) ha G (Gr.refl s)).bind (m:=szE b+1) λv N _ H o J=>(I (by rw[hk];simp) hb o J).bind (m:=1) λz L _ Y A R=>qLL (qLS A) gr_cnt λx M=>qBh.2 (two_ok h (qBh.1 H) (qBh.1 Y) M)).le (by grind)
end
end Go.Proofs
namespace Go.Proofs
open Go Go.Sx
section
variable{d:Ds}{F:Nat}
theorem qBz{e:E}(h:qAQ e=true):VE e/\szE e<=1000:=⟨VE.of_valid h,(of_decide_eq_true h).2⟩
def RtOk(d:Ds)(p:Pr)(r:Rt)(s:St):Prop:=qAi d s.mm p.vars r.1=true/\∀v,r.2=some v->p.result≠sE->qBN d s.mm p.result v
def SSnd(d:Ds)(F:Nat)(Sn:Sf):Prop:=∀c p l vals s,qCV d p->(∀x∈l,TyS d p x)->qAw d s.mm->qAi d s.mm p.vars vals=true->RxP d F 0 s (Sn c p l vals s) λr s'=>RtOk d p r s'
theorem qEL(hp:∀p∈d.procs,qCV d p){Sn:Sf}(hS:SSnd d F Sn)(c:Nat):CSnd d F (qCG d Sn c):=by
 intro i pr args s z G ha;unfold qCG;split;·exact RxP.bad G
 rw[xo,z];simp only;have hpo:=hp pr (xp z);refine(hS (c+1) pr pr.body _ s hpo hpo.body G (qEd ha (qEt G.valid λf hf=>hpo.vars f (List.mem_append_right _ hf)))).bind (m:=0) λr H _ hr o J=>RxP.ok o λhne=>?_;cases h:r.2 with
 |some v=>exact hr.2 v h hne
 |none=>
  have hk:=hpo.res.resolve_left hne;exact(qBo G.valid hk).2 (qJf G.valid hk)
theorem Gr.tick{n:Nat}{s s':St}(h:Gr F n {s with tk:=s.tk+1} s')(hn:n<=4000)(z:s.tk<F):Gr F 0 s s':=
 ⟨h.ty,Nat.le_trans (Nat.le_succ _) h.tk,λ_=>h.fu z,h.lg,by have h:=h.w;grind,h.tr⟩
theorem RxP.tick{α:Type}{n:Nat}{s:St}{f:Unit->St->Rx α}{Q:α->St->Prop}(G:qAw d s.mm)(h:qAw d ({s with tk:=s.tk+1}:St).mm->RxP d F n {s with tk:=s.tk+1} (f () {s with tk:=s.tk+1}) Q)(hn:n<=4000):RxP d F 0 s ((qIo F s).bind f) Q:=by
 unfold qIo;split;·exact RxP.bad G
 ·rename_i z;have H:=h ⟨G.valid,G.chk,G.mem⟩;exact⟨H.good,H.gr.tick hn (by omega),H.q⟩
section
variable{Sn:Sf}{c:Nat}{p:Pr}(hp:∀p∈d.procs,qCV d p)(hS:SSnd d F Sn)(hpo:qCV d p)
include hp hS hpo
theorem qEJ{vals:List Int}{e:E}{t:KB}{s:St}(hv:qAQ e=true)(ht:qAq d (qAg d p) e=(t,0))(G:qAw d s.mm)(z:qAi d s.mm p.vars vals=true):RxP d F 1000 s (evS d Sn c p vals e s) λv s'=>qBN d s'.mm t v:=
 (qLa hp (qEL hp hS c) hpo e t s (qBz hv).1 ht G z).le (qBz hv).2
theorem wh_snd{cond:E}{body:List S}(hv:qAQ cond=true)(ht:qAq d (qAg d p) cond=(qAz,0))(hb:∀x∈body,TyS d p x):∀(n:Nat)(vals:List Int)(s:St),qAw d s.mm->qAi d s.mm p.vars vals=true->RxP d F 1000 s (whX d F Sn c p cond body n vals s) λr s'=>RtOk d p r s'
 |0,vals,s,G,_=>by unfold whX;exact(RxP.bad G).le (by omega)
 |n+1,vals,s,G,z=>by
  rw[whX];refine((qEJ hp hS hpo hv ht G z).bind (m:=0) λv N _ _ o Z=>?_).le (by omega);have H:=qAp (λh=>Z.right h) z;split;·exact RxP.ok o ⟨H,λ_ h=>by cases h⟩
  ·refine((hS c p body vals N hpo hb o H).bind (m:=0) λr W _ hr J O=>?_).le (by omega);split;·exact RxP.ok J hr
   ·exact RxP.tick (n:=1000) J (λY=>wh_snd hv ht hb n r.1 _ Y hr.1) (by omega)
theorem body_snd{n:Nat}{x:S}(M:TyS d p x){vals:List Int}{s:St}(G:qAw d s.mm)(z:qAi d s.mm p.vars vals=true):RxP d F 2001 s (qHM d F Sn c p n x vals s) λr s'=>RtOk d p r s':=by
 unfold qHM;obtain⟨p1,p2,p3,p4,p5⟩:=qAh G.mem;cases kindS M with
 |@set e u t h he hv ht hl hne hf=>
  rw[if_pos h,he,xk];refine((qEJ hp hS hpo hv ht G z).bind (m:=1) λv o _ J H N=>?_).le (by omega);have Y:=qAp (λh=>N.right h) z;have W:=qCo G.valid hf J;unfold setX;rcases qGc H Y hpo.vars hl hne with⟨i,f,w,q1,L,q3,q4,-⟩|⟨i,f,w,q0,q1,L,q3,q4,-⟩
  ·rw[if_pos (by omega),q1,xo];have hr:qAA d o.mm f.ty v=true:=(qBo G.valid (hpo.vars f (xp L))).1 (q4▸W);exact(RxP.ok H ⟨qHt Y L hr,λ_ h=>by cases h⟩).le (by omega)
  ·rw[if_neg (by omega),q1,xo];obtain⟨T,o2,U,o4,o5⟩:=qAh H.mem;have hr:qAA d o.mm f.ty v=true:=(qBo G.valid (za.1 (qBF T).1 f (xp L))).1 (q4▸W);have A:qAw d ({o with g:=o.g.set i v,lg:=o.lg++[(2,0,(i:Int))]}:St).mm:=⟨G.valid,G.chk,qGz T o2 U (qHt (m:=o.mm) (vs:=o.g) o4 L hr) o5⟩;exact⟨A,⟨λ_ x h=>⟨x,h,rfl⟩,yV _,λh=>h,⟨[_],rfl,.acc (.inr rfl) (by omega) (by omega) (by omega) (.nil _),λh=>(by simp_all)⟩,by show(o.lg++[_]).length+_+_<=_;rw[zw,xe];show o.lg.length+1+o.cm+4000*o.tk<=o.lg.length+o.cm+1+4000*o.tk;omega,⟨[_],rfl,.wg (yv.1 q3).1 (.nil _)⟩⟩,λ_ _ e=>by cases e;exact⟨Y,λ_ h=>by cases h⟩⟩
 |@put a e u w t h he hv hw ha ht hl hf=>
  rw[if_neg (by omega),if_pos h,he,xk,xj,xk];refine((qEJ hp hS hpo hv ha G z).bind (m:=1001) λx1 o _ J H N=>?_).le (by omega);have Y:=qAp (λh=>N.right h) z;refine((qEJ hp hS hpo hw ht H Y).bind (m:=1) λx2 Z _ W A g2=>?_).le (by omega);have v2:=qAp (λh=>g2.right h) Y;have ha2:=g2.val J;unfold putX;by_cases h0:x1=0;·rw[if_pos h0];exact(RxP.bad A).le (by omega)
  rw[if_neg h0];obtain⟨q,i,j,tt,f,fs,y,rfl,X,e3,e4,e5,e6,e7,e8,e9,B,e11⟩:=qFH A hl ha2 h0;rw[show((q:Int)+1-1).toNat=q by omega,X];simp only;rw[e5,e6,xo];obtain⟨T,o2,U,o4,o5⟩:=qAh A.mem;have hr:qAA d Z.mm f.ty x2=true:=(qBo G.valid (B▸e11)).1 (B▸qCo G.valid hf W);have hql:=(yv.1 X).1;obtain⟨I,O⟩:∃I:St,I={Z with ns:=Z.ns.set q ((j:Int),fs.set i x2),lg:=Z.lg++[(2,(q:Int)+1,(i:Int))]}:=⟨_,rfl⟩;have D:Gr F 1 Z I:=by
   rw[O];refine⟨λk x hk=>?_,yV _,λh=>h,⟨[_],rfl,.acc (.inr rfl) (by omega) (by omega) (by omega) ?_,λh=>(by simp_all)⟩,?_,⟨[_],rfl,.wf X (yv.1 e8).1 (.nil _)⟩⟩;·grind
   ·grind[qKf,xf]
   grind
  have K:I.mm.nodes=Z.mm.nodes.set q ⟨(j:Int),qAx,fs.set i x2⟩:=by rw[O];simp[St.mm,List.map_set]
  have G3:qAw d I.mm:=by
   refine⟨G.valid,G.chk,qGz T ?_ (λn hm=>?_) ?_ λn hm=>?_⟩;·simp_all
   ·rw[K]at hm;rcases xc hm with hm|rfl;·exact U n hm
    ·exact U (⟨(j:Int),qAx,fs⟩) (xp (i:=q) (by rw[qJr,X];rfl))
   ·have:I.mm.globals=Z.mm.globals:=by rw[O];rfl
    rw[this];exact qAp (λh=>D.right h) o4
   ·rw[K]at hm;rcases xc hm with hm|rfl;·exact qAp (λh=>D.right h) (o5 n hm)
    ·have:=o5 (⟨(j:Int),qAx,fs⟩) (xp (i:=q) (by rw[qJr,X];rfl));have this:qAi d Z.mm (qAt d (j:Int)) fs=true:=this;show qAi d I.mm (qAt d (j:Int)) (fs.set i x2)=true;rw[e5]at this⊢;exact qAp (λh=>D.right h) (qHt this e7 hr)
  rw[<-O];exact⟨G3,D,λ_ _ e=>by cases e;exact⟨qAp (λh=>D.right h) v2,λ_ h=>by cases h⟩⟩
 |@cond e h he hv ht=>
  rw[if_neg (by omega),if_neg (by omega),if_pos h,he,xk];refine((qEJ hp hS hpo hv ht G z).bind (m:=0) λv o _ J H N=>?_).le (by omega);have Y:=qAp (λh=>N.right h) z;obtain⟨-,-,-,hl,M⟩:=M.parts;split;·exact hS c p _ vals o hpo M H Y
  ·exact hS c p _ vals o hpo hl H Y
 |@loop e h he hv ht=>
  rw[if_neg (by omega),if_neg (by omega),if_neg (by omega),if_pos h,he,xk];exact(wh_snd hp hS hpo hv ht M.parts.2.2.2.1 n vals s G z).le (by omega)
 |ret0 h he hr=>
  rw[if_neg (by omega),if_neg (by omega),if_neg (by omega),if_neg (by omega),if_pos h,he];exact(RxP.ok G ⟨z,λ_ _ k=>absurd hr k⟩).le (by omega)
 |@ret1 e u h he hv ht hr hf=>
  rw[if_neg (by omega),if_neg (by omega),if_neg (by omega),if_neg (by omega),if_pos h,he];refine((qEJ hp hS hpo hv ht G z).bind (m:=0) λv o _ J H N=>?_).le (by omega);exact RxP.ok H ⟨qAp (λh=>N.right h) z,λw h _=>by cases h;exact qCo G.valid hf J⟩
 |@call e pr i h he hv ho hc=>
  rw[if_neg (by omega),if_neg (by omega),if_neg (by omega),if_neg (by omega),if_neg (by omega),if_pos h,he,xk];unfold evS;rw[evX_eq,cX7 ho,hc.idx];have hV:=(qBz hv).1;have hsz:=(qBz hv).2;rw[szE_eq]at hsz;refine(((seq_snd e.k pr.params [] [] s G (qAD.2 ⟨rfl,λj f v h=>by simp at h⟩) hc.len (qDH hp hc.at_) hc.fit (λa hm u o n hu H N=>qLa hp (qEL hp hS c) hpo a u o (hV.kids a hm) hu H (qAp (λh=>N.right h) z))).bind (m:=0) λl o _ hl H N=>?_).bind (m:=0) (Q:=λ_ s'=>qAi d s'.mm p.vars vals=true) λ_ Z _ hq A g2=>RxP.ok A ⟨hq,λ_ h=>by cases h⟩).le (by omega);have R:=qEL hp hS c i pr l o hc.at_ H hl;refine⟨R.good,R.gr,λv Z e=>?_⟩;have:=qAp (λh=>R.gr.right h) (qAp (λh=>N.right h) z);rw[e]at this;exact this
theorem st_snd{n:Nat}{x:S}(o:TyS d p x){vals:List Int}{s:St}(G:qAw d s.mm)(z:qAi d s.mm p.vars vals=true):RxP d F 0 s (stX d F Sn c p n x vals s) λr s'=>RtOk d p r s':=by
 unfold stX;exact RxP.tick (n:=2001) G (λH=>body_snd hp hS hpo o H z) (by omega)
end
theorem list_snd{p:Pr}{f:S->List Int->St->Rx Rt}:∀(l:List S)(vals:List Int)(s:St),(∀x∈l,∀vals s,qAw d s.mm->qAi d s.mm p.vars vals=true->RxP d F 0 s (f x vals s) λr s'=>RtOk d p r s')->qAw d s.mm->qAi d s.mm p.vars vals=true->RxP d F 0 s (qFm f l vals s) λr s'=>RtOk d p r s'
 |[],vals,s,_,G,hv=>by unfold qFm;exact RxP.ok G ⟨hv,λ_ h=>by cases h⟩
 |x::l,vals,s,H,G,hv=>by
  rw[qFm];refine(H x zc vals s G hv).bind (m:=0) λr o _ hr z N=>?_;split;·exact RxP.ok z hr
  ·exact list_snd l r.1 o (λy J=>H y (zb _ J)) z hr.1
theorem qDP(hp:∀p∈d.procs,qCV d p):∀n,SSnd d F (qCs d F n)
 |0=>λ_ _ _ _ _ _ _ G _=>RxP.bad G
 |n+1=>λc p l vals s hpo hl G hv=>list_snd l vals s (λ_ z _ _ G hv=>st_snd hp (qDP hp n) hpo (hl _ z) G hv) G hv
theorem play_snd(hp:∀p∈d.procs,qCV d p){i:Nat}{pr:Pr}{args:List Int}{s:St}(h:d.procs[i]?=some pr)(G:qAw d s.mm)(ha:qAi d s.mm pr.params args=true):RxP d F 0 s (qCf d F i args s) λv s'=>pr.result≠sE->qBN d s'.mm pr.result v:=
 qEL hp (qDP hp (F+1)) 0 i pr args s h G ha
end
end Go.Proofs
namespace Go.Sx
open Go
open Classical
section
variable{P:Program}{V0 V1 V:Mem}{e:TypeId}{sz:Nat}{s:Sl}{vs:List Value}
def Blk(s:Sl)(c:Nat):Prop:=s.c≠0/\s.p=some ⟨c,0,none⟩
noncomputable def Mem.but(V:Mem)(s:Sl):Mem:=λc=>if Blk s c then none else V c
theorem Mem.but_sub(V:Mem)(s:Sl):(V.but s).sub V:=λc o h=>by
 grind[Mem.but]
theorem Mem.but_at{c:Nat}{o:Obj}(h:V c=some o)(hn:¬Blk s c):V.but s c=some o:=by
 grind[Mem.but]
theorem Own.cases0(h:Own V0 V e sz s vs):(s.n=0/\s.c=0/\vs=[])∨(s.c≠0/\∃g z,s.p=some ⟨g,0,none⟩/\V0 g=none/\V g=some (.cells z e (0,0))/\s.n<=s.c/\s.c<=maxLen/\z.size=s.c*sz/\z.toList.take (s.n*sz)=vs):=by
 rcases h.at_ with h1|⟨g,z,h1,h2,h3,h4,o⟩;·exact .inl h1
 ·by_cases hc:s.c=0;·simp_all
  simp_all
theorem Own.but(h:Own V0 V e sz s vs):Own (V.but s) V e sz s vs:=by
 refine⟨Mem.but_sub V s,h.len,?_⟩;rcases h.cases0 with h1|⟨hc,g,cur,h1,h2,h3⟩;·exact .inl h1
 ·refine .inr ⟨g,cur,h1,?_,h3⟩;unfold Mem.but;rw[if_pos ⟨hc,h1⟩]
theorem Own.apart(h:Own V0 V e sz s vs){c:Nat}(hc:∀z,V c≠some (.cells z e (0,0))):¬Blk s c:=by
 rintro⟨h0,hp⟩;rcases h.cases0 with⟨-,h1,-⟩|⟨-,g,z,h1,h2,h3,-⟩;·exact h0 h1
 simp_all
theorem Own.apart0(h:Own V0 V e sz s vs){c:Nat}{o:Obj}(hc:V0 c=some o):¬Blk s c:=by
 rintro⟨h0,hp⟩;rcases h.cases0 with⟨-,h1,-⟩|⟨-,g,cur,h1,h2,-⟩;·exact h0 h1
 simp_all
theorem Own.apartN(h:Own V0 V e sz s vs){c:Nat}(hc:V c=none):¬Blk s c:=h.apart λz=>by rw[hc];nofun
theorem Own.sub_but(h:Own V0 V e sz s vs):V0.sub (V.but s):=λ_ _ hc=>Mem.but_at (h.sub _ _ hc) (h.apart0 hc)
theorem Own.narrow(h:Own V1 V e sz s vs)(z:V0.sub V1):Own V0 V e sz s vs:=⟨z.trans h.sub,h.len,by
 rcases h.at_ with h1|⟨g,cur,h1,h2,h3⟩;·exact .inl h1
 ·refine .inr ⟨g,cur,h1,?_,h3⟩;cases H:V0 g with
  |none=>rfl
  |some o=>rw[z _ _ H]at h2;cases h2⟩
theorem Own.put(h:Own V0 V e sz s vs){c:Nat}(hn:¬Blk s c)(h0:V0 c=none)(o:Obj):Own V0 (V.set c o) e sz s vs:=⟨h.sub.set h0 o,h.len,by
 rcases h.cases0 with h1|⟨hc,g,cur,h1,h2,h3,h4⟩;·exact .inl h1
 ·refine .inr ⟨g,cur,h1,h2,?_,h4⟩;rw[Zm λe=>hn ⟨hc,by simp_all⟩];exact h3⟩
theorem qJM(k:Int):∀(es:List MapEntry)(i:Nat),(∀e∈es,∃n,e.key=.int .i64 n)->
  yn (.int .i64) (.int .i64 k) es i=some ((es.findIdx? λe=>decide (e.key=.int .i64 k)).bind λj=>(es[j]?).map λe=>(i+j,e.val))
 |[],_,_=>rfl
 |e::es,i,h=>by
  obtain⟨s,o⟩:=h e (by simp);have H:=qJM k es (i+1) λx J=>h x (by simp[J]);unfold yn;simp only[o,Instr.sameNow,List.findIdx?_cons];by_cases hk:k=s;·grind
  ·have z:¬s=k:=λe=>hk e.symm;simp only[H];have hb:(k==s)=false:=by simpa using hk
   cases N:List.findIdx? (λe=>decide (e.key=Value.int .i64 k)) es with
   |none=>simp[z,hb]
   |some j=>grind
theorem qGW{kt:TypeId}(hk:P.underlying kt=some (.int .i64)):KeyOf P kt (Value.int .i64) where
 inj:=λa b h=>by cases h;rfl
 find:=λa es w h=>by
  simp_all[Instr.findKey,Sem.run_bind,run_underlying,zL,qJM,Nat.zero_add]
 check:=λb a w=>by
  unfold Instr.checkKey;simp_all[Sem.run_bind,run_underlying,zL]
 stays:=λa w=>by
  have h:xb 10000 (.int .i64 a) (.int .i64 a)=true:=by
   rw[show(10000:Nat)=9999+1 from rfl];simp[xb]
  unfold Instr.keyThatStays;rw[if_pos h];rfl
end
end Go.Sx
