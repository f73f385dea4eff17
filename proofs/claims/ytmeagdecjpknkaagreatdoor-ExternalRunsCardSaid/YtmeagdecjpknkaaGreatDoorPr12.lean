/- Part 12 of a proof of a law of this seat: no statement of the seat is proved here. -/
import Derived.Test.YtmeagdecjpknkaaGreatDoorPr11
import Derived.Test.YtmeagdecjpknkaaGreatDoorPr04
set_option linter.unusedVariables false
set_option linter.unusedSimpArgs false
open Bool renaming and_eq_true->zC,or_eq_true->yP
open List renaming mem_cons->yC,any_eq_true->xT,getElem?_eq_getElem->yv,getElem?_eq_some_iff->yw,mem_of_getElem?->xv,all_eq_true->za,map_cons->zG,map_nil->xq,getD_cons_zero->xp,getD_cons_succ->xo,replicate->yI,nil_append->xn,length_nil->xm,mem_iff_getElem?->xk,length_set->xj,length_append->zw,length_singleton->xi,mem_append->xh,mem_singleton->zO,mem_cons_self->zc,mem_cons_of_mem->zb,mem_or_eq_of_mem_set->xg
open Prod.mk renaming injEq->zS
open Int renaming toNat_natCast->xu
open Prod renaming ext->xr
open Nat renaming le_refl->yU
open Go.Instr renaming findNow->yo,sameBits->xf
open Go.Result renaming andThen_ok->zL
namespace Go.Proofs
open Go Go.Sx
structure qAz (d:Ds)(m:Mm):Prop where
 valid:qAJ d=true
 chk:qHW d=none
 mem:qAx d m=true
def VE(e:E):Prop:=∃k,okE k e=true
theorem VE.of_valid{e:E}(h:qAM e=true):VE e:=⟨1,(of_decide_eq_true h).1⟩
theorem okE_eq(k:Int)(e:E):okE k e=(decide (k<=60)&&qDC e.op e.n e.s e.k.length&&okEs (k+1) e.k):=by cases e;unfold okE;rfl
theorem okEs_all{k:Int}:∀{l:List E},okEs k l=true->∀x∈l,okE k x=true
 |[],_,x,z=>by cases z
 |e::l,h,x,z=>by
  unfold okEs at h;rw[zC]at h;rcases yC.1 z with rfl|z;·exact h.1
  ·exact okEs_all h.2 x z
theorem VE.node{e:E}(h:VE e):qDC e.op e.n e.s e.k.length=true:=by
 obtain⟨k,h⟩:=h;simp_all[okE_eq,zC]
theorem VE.kids{e:E}(h:VE e):∀x∈e.k,VE x:=by
 obtain⟨k,h⟩:=h;rw[okE_eq,zC]at h;exact λx z=>⟨_,okEs_all h.2 x z⟩
theorem qFo(d:Ds)(sc:Sc):∀(k:List E)(acc:List ByteArray),(partsT d sc acc k).2=0->(∀x∈k,(qAq d sc x).2=0)/\(partsT d sc acc k).1=acc++k.map λx=>(qAq d sc x).1
 |[],acc,_=>by rw[qCT];simp
 |x::xs,acc,h=>by
  rw[qCb]at h⊢;split at h;·omega
  ·rename_i z;rw[if_neg z];obtain⟨h1,h2⟩:=qFo d sc xs _ h;simp_all
theorem qFP{d:Ds}{sc:Sc}{e:E}{t:ByteArray}(h:qAq d sc e=(t,0)):(∀x∈e.k,(qAq d sc x).2=0)/\qFU d sc e.op e.s (e.k.map λx=>(qAq d sc x).1)=(t,0):=by
 grind[qIw,zS,absurd,partsT,qFo]
theorem arityB{op n:Int}{s:ByteArray}{l:Int}(h:qDC op n s l=true):qAT op≠-2/\(0<=qAT op->l=qAT op)/\nmB op s=true/\numB op n=true:=by
 grind[qDC]
theorem list1{α:Type}{k:List α}(h:(k.length:Int)=1):∃a,k=[a]:=by
 match k,h with
 |[a],_=>grind
 |[],h=>simp at h
 |_::_::_,h=>simp at h;omega
theorem list2{α:Type}{k:List α}(h:(k.length:Int)=2):∃a b,k=[a,b]:=by
 match k,h with
 |[a,b],_=>simp_all
 |[],h=>simp at h
 |[_],h=>simp at h
 |_::_::_::_,h=>simp at h;omega
theorem list3{α:Type}{k:List α}(h:(k.length:Int)=3):∃a b c,k=[a,b,c]:=by
 match k,h with
 |[a,b,c],_=>simp_all
 |[],h=>simp at h
 |[_],h=>simp at h
 |[_,_],h=>simp at h
 |_::_::_::_::_,h=>simp at h;omega
theorem name_kw{s:ByteArray}(h:qAV s=true):isKw s=false:=by
 grind[qAV]
theorem qEm{s t:ByteArray}(h:qAV s=true)(ht:isKw t=true):s≠t:=λe=>by grind[name_kw]
theorem kwNil:isKw qKT=true:=by kernel_rfl
theorem kwInt:isKw qAP=true:=by kernel_rfl
theorem kwBool:isKw qAw=true:=by kernel_rfl
section
variable{d:Ds}{m:Mm}
theorem validD_types(h:qAJ d=true):(∀t∈d.types,qAV t.name=true)/\(∀f∈d.globals,qAV f.name=true)/\(∀x∈d.measures,msB x=true)/\(∀x∈d.invs,ivB x=true):=by
 grind[qAJ,qJT,tyB,qDn,fldB]
theorem qEV(h:qAJ d=true){s:ByteArray}(z:qBa d s=true):qAV s=true:=by
 obtain⟨t,ht,e⟩:=xT.1 z;rw[<-of_decide_eq_true e];exact(validD_types h).1 t ht
def qBI(d:Ds)(m:Mm)(t:ByteArray)(v:Int):Prop:=if t=qKT then v=0 else qAy d m t v=true
theorem qIM:qKT≠qAP/\qKT≠qAw/\qAP≠qKT/\qAw≠qKT/\qAP≠qAw/\qAw≠qAP:=by
 refine⟨of_decide_eq_false ?_,of_decide_eq_false ?_,of_decide_eq_false ?_,of_decide_eq_false ?_,of_decide_eq_false ?_,of_decide_eq_false ?_⟩<;>kernel_rfl
theorem qBe{v:Int}:qBI d m qAP v↔-1099511627776<=v/\v<=1099511627776:=by
 unfold qBI qAy;rw[if_neg qIM.2.2.1,if_pos rfl,decide_eq_true_eq]
theorem qBd{v:Int}:qBI d m qAw v↔v=0∨v=1:=by
 unfold qBI qAy;rw[if_neg qIM.2.2.2.1,if_neg qIM.2.2.2.2.2,if_pos rfl,decide_eq_true_eq]
theorem qBm(h:qAJ d=true){t:ByteArray}(ht:qBi d t=true){v:Int}:qBI d m t v↔qAy d m t v=true:=by
 unfold qBI;rw[if_neg];intro e;subst e;unfold qBi at ht;rw[decide_eq_false qIM.1,decide_eq_false qIM.2.1]at ht;exact qEm (qEV h (by simpa using ht)) kwNil rfl
theorem qKh{t:ByteArray}(h:qAV t=true):qAy d m t 0=true:=by
 unfold qAy;rw[if_neg (qEm h kwInt),if_neg (qEm h kwBool)];exact decide_eq_true (.inl rfl)
theorem qCe(h:qAJ d=true){a b:ByteArray}(hf:qDH d a b=true){v:Int}(hv:qBI d m a v):qBI d m b v:=by
 unfold qDH at hf;simp only[yP,zC,decide_eq_true_eq]at hf;rcases hf with rfl|⟨rfl,hb⟩;·exact hv
 ·have hn:=qEV h hb;unfold qBI at hv⊢;rw[if_pos rfl]at hv;rw[if_neg (qEm hn kwNil),hv];exact qKh hn
theorem qDV:∀(l:List Fld)(s:ByteArray),qBN l s=((l.find? λf=>decide (f.name=s)).map (·.ty)).getD sE
 |[],_=>rfl
 |f::l,s=>by
  unfold qBN;rw[List.find?_cons];by_cases h:f.name=s;·simp_all
  ·rw[if_neg h,decide_eq_false h,qDV l s]
theorem qEX(l:List Fld)(s:ByteArray):(qBN l s=sE/\qFI l s=-1)∨∃(i:Nat)(f:Fld),qFI l s=i/\l[i]?=some f/\qBN l s=f.ty/\f.name=s:=by
 rw[qDV];unfold qFI;rcases qAG (λf:Fld=>decide (f.name=s)) l with⟨h1,h2,-⟩|⟨i,x,h1,h2,h3,-,z,-⟩;·grind
 grind
theorem qBz(h:hasT d=true):qBF d d.globals=true/\(∀(i:Nat)(x:Ty),d.types[i]?=some x->qDw d x.name=(i:Int))/\∀x∈d.types,qBF d x.fields=true:=by
 unfold hasT at h;rw[zC,zC,qDz]at h;obtain⟨⟨-,h1⟩,h2⟩:=h;refine⟨h1,λi x z=>?_,λx z=>?_⟩;·grind
 ·obtain⟨i,hi,rfl⟩:=List.mem_iff_getElem.1 z;have:=h2 i _ (yv hi);simp_all
theorem qAl(h:qAx d m=true):hasT d=true/\m.nodes.length<=4096/\(∀n∈m.nodes,qDv d n=true)/\qAh d m d.globals m.globals=true/\∀n∈m.nodes,qAh d m (qAs d n.ty) n.f=true:=by
 grind[qAx]
theorem qGk{l:List Fld}{vs:List Int}(h:qAh d m l vs=true){i:Nat}{f:Fld}(hi:l[i]?=some f):∃v,vs[i]?=some v/\qAy d m f.ty v=true:=by
 unfold qAh at h;rw[zC,decide_eq_true_eq,qDz]at h;have hl:=(yw.1 hi).1;have hv:vs[i]?=some (vs[i]'(by omega)):=yv _;grind[tyAt]
theorem right_node{t:ByteArray}(hn:qAV t=true){a:Int}(h:qAy d m t a=true)(h0:a≠0):1<=a/\a<=(m.nodes.length:Int)/\∃n,m.nodes[(a-1).toNat]?=some n/\n∈m.nodes/\n.ty=qDw d t:=by
 unfold qAy at h;rw[if_neg (qEm hn kwInt),if_neg (qEm hn kwBool),decide_eq_true_eq]at h;rcases h with h|⟨h1,h2,h3⟩;·omega
 ·refine⟨h1,h2,?_⟩;cases z:m.nodes[(a-1).toNat]? with
  |none=>simp_all
  |some n=>rw[z]at h3;exact⟨n,rfl,xv z,by simpa using h3⟩
theorem tyOf_idx{s:ByteArray}{t:Ty}(h:qJL d s=some t):∃i:Nat,qDw d s=(i:Int)/\d.types[i]?=some t/\t.name=s/\qBa d s=true:=by
 unfold qJL at h;unfold qDw qBa;rcases qAG (λt:Ty=>decide (t.name=s)) d.types with⟨-,h2,-⟩|⟨i,x,h1,h2,h3,-,z,-,o,-⟩;·simp_all
 grind
theorem fld_ok(G:qAz d m){t s ty:ByteArray}(ht:qBY d t s=(ty,0)){a:Int}(ha:qBI d m t a)(h0:a≠0):
  ∃(n:Nd)(i j:Nat)(z:Ty)(f:Fld)(v:Int),m.nodes[(a-1).toNat]?=some n/\n∈m.nodes/\1<=a/\a<=(m.nodes.length:Int)/\n.ty=(j:Int)/\d.types[j]?=some z/\z∈d.types/\qFI z.fields s=i/\z.fields[i]?=some f/\n.f[i]?=some v/\qBI d m ty v/\fldV d m a s=.ok v/\f.ty=ty:=by
 unfold qBY at ht;cases Z:qJL d t with
 |none=>simp_all
 |some z=>
  rw[Z]at ht;simp only at ht;split at ht;·simp at ht
  ·rename_i hl;simp only[zS,and_true]at ht;obtain⟨j,M,H,rfl,J⟩:=tyOf_idx Z;have N:=qEV G.valid J;have Y:qAy d m z.name a=true:=by
    grind[qBI]
   obtain⟨b1,b2,n,b3,L,R⟩:=right_node N Y h0;rcases qEX z.fields s with⟨X,-⟩|⟨i,f,X,c2,c3,c4⟩;·grind
   ·have W:qAs d n.ty=z.fields:=qAR H (R.trans M);obtain⟨p1,-,-,-,B⟩:=qAl G.mem;have hv:=B n L;rw[W]at hv;obtain⟨v,O,A⟩:=qGk hv c2;have o:=xv H;have I:qBi d f.ty=true:=za.1 ((qBz p1).2.2 z o) f (xv c2);refine⟨n,i,j,z,f,v,b3,L,b1,b2,R.trans M,H,o,X,c2,O,?_,?_,c3.symm.trans ht⟩;·rw[<-ht,c3];exact(qBm G.valid I).2 A
    simp_all[fldV,if_neg,xu]
theorem qFw{α β:Type}{f:Nat->α->Option β}:∀{l:List α}{i:Nat},qAj f i l=none->∀j x,l[j]?=some x->f (i+j) x=none
 |[],_,_,j,x,z=>by simp at z
 |y::l,i,h,j,x,z=>by
  unfold qAj at h;cases o:f i y with
  |some b=>simp_all
  |none=>
   rw[o]at h;cases j with
   |zero=>simp_all
   |succ j=>rw[show i+(j+1)=i+1+j by omega];exact qFw h j x (by simpa using z)
theorem qLg{α:Type}{a b:Option α}(h:a.or b=none):a=none/\b=none:=by
 simp_all
end
end Go.Proofs
namespace Go.Proofs
open Go Go.Sx
section
variable{d:Ds}{m:Mm}
theorem big_ok{n v:Int}(h:big n=.ok v):v=n/\-1099511627776<=v/\v<=1099511627776:=by
 unfold big at h;grind
theorem trI_b(b:Bool):trI b=0∨trI b=1:=by cases b<;>simp[trI]
theorem qBT{ok:Bool}{t z:ByteArray}(h:qDD ok t=(z,0)):ok=true/\t=z:=by
 grind[qDD]
theorem tdiv_in{a b:Int}(ha:-1099511627776<=a/\a<=1099511627776):-1099511627776<=a.tdiv b/\a.tdiv b<=1099511627776:=by
 have:=Int.natAbs_tdiv_le_natAbs a b;omega
theorem tmod_in{a b:Int}(ha:-1099511627776<=a/\a<=1099511627776):-1099511627776<=a.tmod b/\a.tmod b<=1099511627776:=by
 have h1:=Int.natAbs_tmod a b;have:=Nat.mod_le a.natAbs b.natAbs;omega
theorem log_in{a:Int}(ha:a<=1099511627776):0<=qJS a/\qJS a<=1099511627776:=by
 grind[qJS,Nat.log2,Nat.log2_le_self]
inductive Kind (d:Ds)(sc:Sc)(e:E):ByteArray->Prop where
 |int (h:e.op=1) (hn:0<=e.n/\e.n<=1099511627776):Kind d sc e qAP
 |bool (h:e.op=2) (hn:e.n=0∨e.n=1):Kind d sc e qAw
 |nil (h:e.op=3) (hn:e.n=0):Kind d sc e qKT
 |var {t} (h:e.op=4) (hl:qBN sc.vars e.s=t) (hne:t≠sE):Kind d sc e t
 |fld {t u} {a:E} (h:e.op=5) (hk:e.k=[a]) (ha:qAq d sc a=(u,0)) (ht:qBY d u e.s=(t,0)):Kind d sc e t
 |call {u} {a:E} {ms:Ms} {i:Nat} (h:e.op=7) (hk:e.k=[a]) (ha:qAq d sc a=(u,0)) (hi:mIdx d e.s=i) (hms:d.measures[i]?=some ms) (hf:qDH d u ms.ty=true):Kind d sc e qAP
 |neg {a:E} (h:e.op=8) (hk:e.k=[a]) (ha:qAq d sc a=(qAP,0)):Kind d sc e qAP
 |not {a:E} (h:e.op=18) (hk:e.k=[a]) (ha:qAq d sc a=(qAw,0)):Kind d sc e qAw
 |log {a:E} (h:e.op=24) (hk:e.k=[a]) (ha:qAq d sc a=(qAP,0)):Kind d sc e qAP
 |and {a b:E} (h:e.op=19) (hk:e.k=[a,b]) (ha:qAq d sc a=(qAw,0)) (hb:qAq d sc b=(qAw,0)):Kind d sc e qAw
 |or {a b:E} (h:e.op=20) (hk:e.k=[a,b]) (ha:qAq d sc a=(qAw,0)) (hb:qAq d sc b=(qAw,0)):Kind d sc e qAw
 |cond {a b c:E} {t u w} (h:e.op=21) (hk:e.k=[a,b,c]) (ha:qAq d sc a=(qAw,0)) (hb:qAq d sc b=(u,0)) (hc:qAq d sc c=(w,0)) (hu:u=t∨qDH d u t=true) (hw:w=t∨qDH d w t=true):Kind d sc e t
 |eq {a b:E} {u w} (h:e.op=14∨e.op=15) (hk:e.k=[a,b]) (ha:qAq d sc a=(u,0)) (hb:qAq d sc b=(w,0)):Kind d sc e qAw
 |cmp {a b:E} (h:e.op=16∨e.op=17) (hk:e.k=[a,b]) (ha:qAq d sc a=(qAP,0)) (hb:qAq d sc b=(qAP,0)):Kind d sc e qAw
 |ari {a b:E} (h:e.op=9∨e.op=10∨e.op=11∨e.op=12∨e.op=13∨e.op=22∨e.op=23) (hk:e.k=[a,b]) (ha:qAq d sc a=(qAP,0)) (hb:qAq d sc b=(qAP,0)):Kind d sc e qAP
theorem allT1{t u:ByteArray}(h:allT [t] u=true):t=u:=by simpa [allT]using h
theorem allT2{t z u:ByteArray}(h:allT [t,z] u=true):t=u/\z=u:=by simpa [allT]using h
theorem qBx{p:ByteArray×Int}{t:ByteArray}(h1:p.1=t)(h2:p.2=0):p=(t,0):=xr h1 h2
theorem kind{sc:Sc}(M:sc.body=false){e:E}{t:ByteArray}(hv:VE e)(ht:qAq d sc e=(t,0)):Kind d sc e t:=by
 obtain⟨hk,hn⟩:=qFP ht;obtain⟨a1,a2,a3,H⟩:=arityB hv.node;unfold qFU at hn;unfold numB at H;have one:qAT e.op=1->∃a,e.k=[a]:=λh=>list1 ((a2 (by omega)).trans h);have two:qAT e.op=2->∃a b,e.k=[a,b]:=λh=>list2 ((a2 (by omega)).trans h);have W:qAT e.op=3->∃a b c,e.k=[a,b,c]:=λh=>list3 ((a2 (by omega)).trans h);by_cases h1:e.op=1
 ·rw[if_pos h1]at hn H;cases hn;exact .int h1 (of_decide_eq_true H)
 rw[if_neg h1]at hn H;by_cases h2:e.op=2
 ·rw[if_pos h2]at hn H;cases hn;exact .bool h2 (of_decide_eq_true H)
 rw[if_neg h2]at hn H;have H:e.n=0:=of_decide_eq_true H;by_cases h3:e.op=3
 ·rw[if_pos h3]at hn;cases hn;exact .nil h3 H
 rw[if_neg h3]at hn;by_cases h4:e.op=4
 ·rw[if_pos h4]at hn;split at hn;·simp at hn
  ·rename_i hne;simp only[zS,and_true]at hn;exact .var h4 hn (hn▸hne)
 rw[if_neg h4]at hn;by_cases I:e.op=5
 ·obtain⟨a,ha⟩:=one (by rw[I];rfl);rw[if_pos I,ha]at hn;rw[ha]at hk;exact .fld I ha (qBx rfl (hk a (by simp))) hn
 rw[if_neg I]at hn;by_cases B:e.op=6;·simp_all
 rw[if_neg B]at hn;by_cases L:e.op=7
 ·rw[if_pos L]at hn;unfold qIg at hn;rw[if_neg (by rw[M];decide)]at hn;unfold qJR meOf at hn;unfold mIdx at*
  rcases qAG (λx:Ms=>decide (x.name=e.s)) d.measures with⟨-,X,-⟩|⟨i,ms,q1,X,q3,-⟩;·simp_all
  ·rw[q3]at hn;simp only at hn;split at hn;·simp at hn
   ·rename_i hl;obtain⟨a,ha⟩:∃a,e.k=[a]:=list1 (by grind);rw[ha]at hn hk;obtain⟨b1,rfl⟩:=qBT hn;exact .call L ha (qBx rfl (hk a (by simp))) q1 X (by simpa using b1)
 rw[if_neg L]at hn;by_cases J:e.op=14∨e.op=15
 ·obtain⟨a,b,z⟩:=two (by rcases J with h|h<;>(rw[h];rfl));rw[if_pos J]at hn;rw[z]at hk;obtain⟨-,rfl⟩:=qBT hn;exact .eq J z (qBx rfl (hk a (by simp))) (qBx rfl (hk b (by simp)))
 rw[if_neg J]at hn;by_cases N:e.op=16∨e.op=17
 ·obtain⟨a,b,z⟩:=two (by rcases N with h|h<;>(rw[h];rfl));rw[if_pos N,z]at hn;rw[z]at hk;obtain⟨g,rfl⟩:=qBT hn;obtain⟨A,Y⟩:=allT2 g;exact .cmp N z (qBx A (hk a (by simp))) (qBx Y (hk b (by simp)))
 rw[if_neg N]at hn;by_cases O:e.op=18∨e.op=19∨e.op=20
 ·rw[if_pos O]at hn;rcases O with h|h
  ·obtain⟨a,ha⟩:=one (by rw[h];rfl);rw[ha]at hn hk;obtain⟨g,rfl⟩:=qBT hn;exact .not h ha (qBx (allT1 g) (hk a (by simp)))
  ·obtain⟨a,b,z⟩:=two (by rcases h with h|h<;>(rw[h];rfl));rw[z]at hn hk;obtain⟨g,rfl⟩:=qBT hn;obtain⟨A,Y⟩:=allT2 g;rcases h with h|h;·exact .and h z (qBx A (hk a (by simp))) (qBx Y (hk b (by simp)))
   ·exact .or h z (qBx A (hk a (by simp))) (qBx Y (hk b (by simp)))
 rw[if_neg O]at hn;by_cases Z:e.op=21
 ·obtain⟨a,b,c,o⟩:=W (by rw[Z];rfl);rw[if_pos Z,o]at hn;rw[o]at hk;obtain⟨g,Y⟩:=qBT hn;simp only[zG,xq,xp,xo,zC,decide_eq_true_eq,yP]at g Y;refine .cond Z o (qBx g.1 (hk a (by simp))) (qBx rfl (hk b (by simp))) (qBx rfl (hk c (by simp))) ?_ ?_;·grind[inr,qDH]
  grind[qDH,absurd,inr]
 rw[if_neg Z]at hn;obtain⟨g,rfl⟩:=qBT hn;have R:e.op=8∨e.op=24∨(e.op=9∨e.op=10∨e.op=11∨e.op=12∨e.op=13∨e.op=22∨e.op=23):=by
  grind[qAT]
 rcases R with h|h|h
 ·obtain⟨a,ha⟩:=one (by rw[h];rfl);rw[ha]at g hk;exact .neg h ha (qBx (allT1 g) (hk a (by simp)))
 ·obtain⟨a,ha⟩:=one (by rw[h];rfl);rw[ha]at g hk;exact .log h ha (qBx (allT1 g) (hk a (by simp)))
 ·obtain⟨a,b,z⟩:=two (by rcases h with h|h|h|h|h|h|h<;>(rw[h];rfl));rw[z]at g hk;obtain⟨A,Y⟩:=allT2 g;exact .ari h z (qBx A (hk a (by simp))) (qBx Y (hk b (by simp)))
theorem two_ok{op a b v:Int}(h:op=9∨op=10∨op=11∨op=12∨op=13∨op=22∨op=23)(ha:-1099511627776<=a/\a<=1099511627776)(hb:-1099511627776<=b/\b<=1099511627776)(hv:qCB op a b=.ok v):-1099511627776<=v/\v<=1099511627776:=by
 unfold qCB at hv;split at hv;·exact(big_ok hv).2
 split at hv;·exact(big_ok hv).2
 split at hv;·exact(big_ok hv).2
 split at hv;·grind
 split at hv;·grind
 repeat' (split at hv;(first|omega|cases hv))
 ·exact tdiv_in ha
 ·cases hv;exact tmod_in ha
theorem twoB_ok{op a b v:Int}(h:op=14∨op=15∨op=16∨op=17)(hv:qCB op a b=.ok v):v=0∨v=1:=by
 rcases h with rfl|rfl|rfl|rfl
 ·have:trI (decide (a=b))=v:=by injection hv
  grind[trI_b]
 ·have:trI (!decide (a=b))=v:=by injection hv
  grind[trI_b]
 ·have:trI (decide (a<b))=v:=by injection hv
  grind[trI_b]
 ·have:trI (decide (a<=b))=v:=by injection hv
  grind[trI_b]
end
end Go.Proofs
namespace Go.Proofs
open Go Go.Sx
structure St where
 g:List Int
 ns:List (Int×List Int)
 tk:Nat
 cm:Nat
 lg:List (Int×Int×Int)
inductive Rx (α:Type) where
 |ok (v:α) (s:St)
 |bad (c:Int) (s:St)
def Rx.bind{α β:Type}:Rx α->(α->St->Rx β)->Rx β
 |.ok v s,f=>f v s
 |.bad c s,_=>.bad c s
def qAD:Sl:=⟨none,0,0⟩
def St.mm(s:St):Mm:=⟨qAD,s.g,qAD,s.ns.map λn=>⟨n.1,qAD,n.2⟩⟩
def St.note(s:St)(a:Int×Int×Int):St:={s with lg:=s.lg++[a]}
def noE:E:=.mk 0 0 sE qAD []
def qCJ(d:Ds)(s:ByteArray):Int:=qHu (λt=>decide (t.name=s)) d.procs
def qEq:Rs->St->Rx Int
 |.ok v,s=>.ok v s
 |.bad c,s=>.bad c s
def qJM:List (St->Rx Int)->List Int->St->Rx (List Int)
 |[],acc,st=>.ok acc st
 |f::fs,acc,st=>(f st).bind λv st=>qJM fs (acc++[v]) st
def qEG(ks:List (St->Rx Int))(i:Nat):St->Rx Int:=ks.getD i λst=>.bad 0 st
def _root_.Go.Sx.Pr.vars(p:Pr):List Fld:=p.params++p.locals
def qLG(b:Bool)(op:Int)(st:St):St:=if op=16∨op=17∨((op=14∨op=15)/\b=true)then{st with cm:=st.cm+1}else st
abbrev Cf:=Int->List Int->St->Rx Int
abbrev Rt:=List Int×Option Int
abbrev Sf:=Nat->Pr->List S->List Int->St->Rx Rt
def qIc(F:Nat)(st:St):Rx Unit:=if F<=st.tk then .bad 20 st else .ok () {st with tk:=st.tk+1}
section
variable(d:Ds)
def varX(p:Pr)(vals:List Int)(s:ByteArray)(st:St):Rx Int:=
 if 0<=qFI p.vars s then .ok ((vals[(qFI p.vars s).toNat]?).getD 0) st else .ok ((st.g[(qFI d.globals s).toNat]?).getD 0) (st.note (1,0,qFI d.globals s))
def fldX(a:Int)(s:ByteArray)(st:St):Rx Int:=
 if a=0 then .bad 17 st else match st.ns[(a-1).toNat]? with
  |none=>.bad 0 st
  |some n=>.ok ((n.2[(qFI (qAs d n.1) s).toNat]?).getD 0) (st.note (1,a,qFI (qAs d n.1) s))
def newX(s:ByteArray)(st:St):Rx Int:=
 if 4096<=st.ns.length then .bad 21 st else .ok ((st.ns.length:Int)+1) {st with ns:=st.ns++[(qDw d s,yI (qAs d (qDw d s)).length 0)],lg:=st.lg++[(3,(st.ns.length:Int)+1,qDw d s)]}
def intB(sc:Sc):List E->Bool
 |[]=>false
 |a::_=>decide ((qAq d sc a).1=qAP)
def qDi(C:Cf)(p:Pr)(vals:List Int)(b:Bool)(op n:Int)(s:ByteArray)(ks:List (St->Rx Int))(st:St):Rx Int:=
 if op=1∨op=2 then .ok n st else if op=3 then .ok 0 st else if op=4 then varX d p vals s st
 else if op=5 then(qEG ks 0 st).bind λa st=>fldX d a s st
 else if op=6 then newX d s st
 else if op=7 then(qJM ks [] st).bind λl st=>C (qCJ d s) l st
 else if op=8 then(qEG ks 0 st).bind λa st=>qEq (big (-a)) st
 else if op=18 then(qEG ks 0 st).bind λa st=>.ok (1-a) st
 else if op=24 then(qEG ks 0 st).bind λa st=>.ok (qJS a) st
 else if op=19 then(qEG ks 0 st).bind λa st=>if a=0 then .ok 0 st else qEG ks 1 st
 else if op=20 then(qEG ks 0 st).bind λa st=>if a=0 then qEG ks 1 st else .ok 1 st
 else if op=21 then(qEG ks 0 st).bind λa st=>if a=0 then qEG ks 2 st else qEG ks 1 st
 else(qEG ks 0 st).bind λv st=>(qEG ks 1 st).bind λw st=>qEq (qCB op v w) (qLG b op st)
mutual
def evX(C:Cf)(p:Pr)(vals:List Int):E->St->Rx Int
 |.mk op n s _ k=>qDi d C p vals (intB d (qAg d p) k) op n s (evXs C p vals k)
def evXs(C:Cf)(p:Pr)(vals:List Int):List E->List (St->Rx Int)
 |[]=>[]
 |e::es=>evX C p vals e::evXs C p vals es
end
def qCs(Sn:Sf)(c:Nat)(i:Int)(args:List Int)(st:St):Rx Int:=
 if 200<=c then .bad 19 st else match d.procs[i.toNat]? with
  |none=>.bad 0 st
  |some p=>(Sn (c+1) p p.body (args++yI p.locals.length 0) st).bind λr st=>.ok (r.2.getD 0) st
def setX(p:Pr)(s:ByteArray)(v:Int)(vals:List Int)(st:St):Rx Rt:=
 if 0<=qFI p.vars s then .ok (vals.set (qFI p.vars s).toNat v,none) st else .ok (vals,none) {st with g:=st.g.set (qFI d.globals s).toNat v,lg:=st.lg++[(2,0,qFI d.globals s)]}
def putX(a v:Int)(s:ByteArray)(st:St):Rx Unit:=
 if a=0 then .bad 17 st else match st.ns[(a-1).toNat]? with
  |none=>.bad 0 st
  |some n=>.ok () {st with ns:=st.ns.set (a-1).toNat (n.1,n.2.set (qFI (qAs d n.1) s).toNat v),lg:=st.lg++[(2,a,qFI (qAs d n.1) s)]}
section
variable(F:Nat)(Sn:Sf)(c:Nat)(p:Pr)
def evS(vals:List Int)(e:E)(st:St):Rx Int:=evX d (qCs d Sn c) p vals e st
def whX(cond:E)(body:List S):Nat->List Int->St->Rx Rt
 |0,_,st=>.bad 20 st
 |n+1,vals,st=>(evS d Sn c p vals cond st).bind λa st=>if a=0 then .ok (vals,none) st else(Sn c p body vals st).bind λr st=>match r.2 with
  |some _=>.ok r st
  |none=>(qIc F st).bind λ_ st=>whX cond body n r.1 st
def qHA(n:Nat)(s:S)(vals:List Int)(st:St):Rx Rt:=
 if s.op=1 then(evS d Sn c p vals (s.es.getD 0 noE) st).bind λv st=>setX d p s.s v vals st
 else if s.op=2 then(evS d Sn c p vals (s.es.getD 0 noE) st).bind λa st=>(evS d Sn c p vals (s.es.getD 1 noE) st).bind λv st=>(putX d a v s.s st).bind λ_ st=>.ok (vals,none) st
 else if s.op=3 then(evS d Sn c p vals (s.es.getD 0 noE) st).bind λa st=>if a=0 then Sn c p s.xs vals st else Sn c p s.ls vals st
 else if s.op=4 then whX d F Sn c p (s.es.getD 0 noE) s.ls n vals st
 else if s.op=5 then match s.es with
  |[]=>.ok (vals,some 0) st
  |e::_=>(evS d Sn c p vals e st).bind λv st=>.ok (vals,some v) st
 else if s.op=6 then(evS d Sn c p vals (s.es.getD 0 noE) st).bind λ_ st=>.ok (vals,none) st
 else .ok (vals,none) st
def stX(n:Nat)(s:S)(vals:List Int)(st:St):Rx Rt:=(qIc F st).bind λ_ st=>qHA d F Sn c p n s vals st
end
def qEY(f:S->List Int->St->Rx Rt):List S->List Int->St->Rx Rt
 |[],vals,st=>.ok (vals,none) st
 |s::l,vals,st=>(f s vals st).bind λr st=>match r.2 with
  |some _=>.ok r st
  |none=>qEY f l r.1 st
def qCg(F:Nat):Nat->Sf
 |0=>λ_ _ _ _ st=>.bad 20 st
 |n+1=>λc p l vals st=>qEY (stX d F (qCg F n) c p (n+1)) l vals st
def qBS(F:Nat)(i:Int)(args:List Int)(st:St):Rx Int:=qCs d (qCg d F (F+1)) 0 i args st
end
variable{d:Ds}
theorem evXs_map(C:Cf)(p:Pr)(vals:List Int):∀k:List E,evXs d C p vals k=k.map (evX d C p vals)
 |[]=>by unfold evXs;rfl
 |e::es=>by unfold evXs;rw[evXs_map C p vals es];rfl
theorem evX_eq(C:Cf)(p:Pr)(vals:List Int)(e:E)(st:St):evX d C p vals e st=qDi d C p vals (intB d (qAg d p) e.k) e.op e.n e.s (e.k.map (evX d C p vals)) st:=by
 cases e;unfold evX;rw[evXs_map];rfl
theorem qLr{f:E->St->Rx Int}{k:List E}{i:Nat}{e:E}(h:k[i]?=some e):qEG (k.map f) i=f e:=by
 grind[qEG]
section
variable{C:Cf}{p:Pr}{vals:List Int}{b:Bool}{op n:Int}{s:ByteArray}{ks:List (St->Rx Int)}{st:St}
theorem cX1(h:op=1∨op=2):qDi d C p vals b op n s ks st=.ok n st:=by rcases h with rfl|rfl<;>rfl
theorem cX3(h:op=3):qDi d C p vals b op n s ks st=.ok 0 st:=by subst h;rfl
theorem cX4(h:op=4):qDi d C p vals b op n s ks st=varX d p vals s st:=by subst h;rfl
theorem cX5(h:op=5):qDi d C p vals b op n s ks st=(qEG ks 0 st).bind λa st=>fldX d a s st:=by subst h;rfl
theorem cX6(h:op=6):qDi d C p vals b op n s ks st=newX d s st:=by subst h;rfl
theorem cX7(h:op=7):qDi d C p vals b op n s ks st=(qJM ks [] st).bind λl st=>C (qCJ d s) l st:=by subst h;rfl
theorem cX8(h:op=8):qDi d C p vals b op n s ks st=(qEG ks 0 st).bind λa st=>qEq (big (-a)) st:=by subst h;rfl
theorem cX18(h:op=18):qDi d C p vals b op n s ks st=(qEG ks 0 st).bind λa st=>.ok (1-a) st:=by subst h;rfl
theorem cX24(h:op=24):qDi d C p vals b op n s ks st=(qEG ks 0 st).bind λa st=>.ok (qJS a) st:=by subst h;rfl
theorem cX19(h:op=19):qDi d C p vals b op n s ks st=(qEG ks 0 st).bind λa st=>if a=0 then .ok 0 st else qEG ks 1 st:=by subst h;rfl
theorem cX20(h:op=20):qDi d C p vals b op n s ks st=(qEG ks 0 st).bind λa st=>if a=0 then qEG ks 1 st else .ok 1 st:=by subst h;rfl
theorem cX21(h:op=21):qDi d C p vals b op n s ks st=(qEG ks 0 st).bind λa st=>if a=0 then qEG ks 2 st else qEG ks 1 st:=by subst h;rfl
theorem qJW(h:9<=op/\op<=23/\op≠18/\op≠19/\op≠20/\op≠21):qDi d C p vals b op n s ks st=(qEG ks 0 st).bind λv st=>(qEG ks 1 st).bind λw st=>qEq (qCB op v w) (qLG b op st):=by
 grind[qDi]
end
end Go.Proofs
namespace Go.Proofs
open Go Go.Sx
section
variable{d:Ds}{sc:Sc}{e:E}{p:Pr}
structure CallK (d:Ds)(sc:Sc)(e:E)(pr:Pr)(i:Nat):Prop where
 idx:qCJ d e.s=i
 at_:d.procs[i]?=some pr
 len:e.k.length=pr.params.length
 fit:∀(j:Nat) a f,e.k[j]?=some a->pr.params[j]?=some f->∃u,qAq d sc a=(u,0)/\qDH d u f.ty=true
theorem fitAll_at:∀{l:List ByteArray}{fs:List Fld},qCn d l fs=true->∀(j:Nat) a f,l[j]?=some a->fs[j]?=some f->qDH d a f.ty=true
 |[],_,_,j,a,f,h,_=>by simp at h
 |_::_,[],_,j,a,f,_,h=>by simp at h
 |b::l,g::fs,h,j,a,f,h1,h2=>by
  unfold qCn at h;rw[zC]at h;cases j with
  |zero=>simp_all
  |succ j=>exact fitAll_at h.2 j a f (by simpa using h1) (by simpa using h2)
theorem callT_ok{s t:ByteArray}{l:List ByteArray}(h:qFD d s l=(t,0)):∃(pr:Pr)(i:Nat),qCJ d s=i/\d.procs[i]?=some pr/\l.length=pr.params.length/\qCn d l pr.params=true/\t=pr.result:=by
 unfold qFD qFA at h;unfold qCJ;rcases qAG (λx:Pr=>decide (x.name=s)) d.procs with⟨-,z,-⟩|⟨i,pr,q1,z,q3,-⟩;·simp_all
 grind
theorem callK_of(hk:∀x∈e.k,(qAq d sc x).2=0){t:ByteArray}(h:qFD d e.s (e.k.map λx=>(qAq d sc x).1)=(t,0)):∃pr i,CallK d sc e pr i/\t=pr.result:=by
 obtain⟨pr,i,h1,h2,h3,h4,z⟩:=callT_ok h;refine⟨pr,i,⟨h1,h2,by simpa using h3,λj a f ha hf=>⟨(qAq d sc a).1,qBx rfl (hk a (xv ha)),fitAll_at h4 j _ f (by simp[ha]) hf⟩⟩,z⟩
inductive qEI (d:Ds)(sc:Sc)(e:E):ByteArray->Prop where
 |int (h:e.op=1) (hn:0<=e.n/\e.n<=1099511627776):qEI d sc e qAP
 |bool (h:e.op=2) (hn:e.n=0∨e.n=1):qEI d sc e qAw
 |nil (h:e.op=3) (hn:e.n=0):qEI d sc e qKT
 |var {t} (h:e.op=4) (hl:qBN sc.vars e.s=t) (hne:t≠sE):qEI d sc e t
 |fld {t u} {a:E} (h:e.op=5) (hk:e.k=[a]) (ha:qAq d sc a=(u,0)) (ht:qBY d u e.s=(t,0)):qEI d sc e t
 |new (h:e.op=6) (hn:qBa d e.s=true):qEI d sc e e.s
 |call {pr:Pr} {i:Nat} (h:e.op=7) (hc:CallK d sc e pr i) (hr:pr.result≠sE):qEI d sc e pr.result
 |neg {a:E} (h:e.op=8) (hk:e.k=[a]) (ha:qAq d sc a=(qAP,0)):qEI d sc e qAP
 |not {a:E} (h:e.op=18) (hk:e.k=[a]) (ha:qAq d sc a=(qAw,0)):qEI d sc e qAw
 |log {a:E} (h:e.op=24) (hk:e.k=[a]) (ha:qAq d sc a=(qAP,0)):qEI d sc e qAP
 |and {a b:E} (h:e.op=19) (hk:e.k=[a,b]) (ha:qAq d sc a=(qAw,0)) (hb:qAq d sc b=(qAw,0)):qEI d sc e qAw
 |or {a b:E} (h:e.op=20) (hk:e.k=[a,b]) (ha:qAq d sc a=(qAw,0)) (hb:qAq d sc b=(qAw,0)):qEI d sc e qAw
 |cond {a b c:E} {t u w} (h:e.op=21) (hk:e.k=[a,b,c]) (ha:qAq d sc a=(qAw,0)) (hb:qAq d sc b=(u,0)) (hc:qAq d sc c=(w,0)) (hu:u=t∨qDH d u t=true) (hw:w=t∨qDH d w t=true) (ht:t=if u=qKT then w else u):qEI d sc e t
 |eq {a b:E} {u w} (h:e.op=14∨e.op=15) (hk:e.k=[a,b]) (ha:qAq d sc a=(u,0)) (hb:qAq d sc b=(w,0)) (hf:qDH d u w=true∨qDH d w u=true):qEI d sc e qAw
 |cmp {a b:E} (h:e.op=16∨e.op=17) (hk:e.k=[a,b]) (ha:qAq d sc a=(qAP,0)) (hb:qAq d sc b=(qAP,0)):qEI d sc e qAw
 |ari {a b:E} (h:e.op=9∨e.op=10∨e.op=11∨e.op=12∨e.op=13∨e.op=22∨e.op=23) (hk:e.k=[a,b]) (ha:qAq d sc a=(qAP,0)) (hb:qAq d sc b=(qAP,0)):qEI d sc e qAP
theorem kindX(I:sc.body=true){t:ByteArray}(hv:VE e)(ht:qAq d sc e=(t,0)):qEI d sc e t:=by
 obtain⟨hk,hn⟩:=qFP ht;obtain⟨a1,a2,a3,H⟩:=arityB hv.node;unfold qFU at hn;unfold numB at H;have one:qAT e.op=1->∃a,e.k=[a]:=λh=>list1 ((a2 (by omega)).trans h);have two:qAT e.op=2->∃a b,e.k=[a,b]:=λh=>list2 ((a2 (by omega)).trans h);have W:qAT e.op=3->∃a b c,e.k=[a,b,c]:=λh=>list3 ((a2 (by omega)).trans h);by_cases h1:e.op=1
 ·rw[if_pos h1]at hn H;cases hn;exact .int h1 (of_decide_eq_true H)
 rw[if_neg h1]at hn H;by_cases h2:e.op=2
 ·rw[if_pos h2]at hn H;cases hn;exact .bool h2 (of_decide_eq_true H)
 rw[if_neg h2]at hn H;have H:e.n=0:=of_decide_eq_true H;by_cases h3:e.op=3
 ·rw[if_pos h3]at hn;cases hn;exact .nil h3 H
 rw[if_neg h3]at hn;by_cases h4:e.op=4
 ·rw[if_pos h4]at hn;split at hn;·simp at hn
  ·rename_i hne;simp only[zS,and_true]at hn;exact .var h4 hn (hn▸hne)
 rw[if_neg h4]at hn;by_cases M:e.op=5
 ·obtain⟨a,ha⟩:=one (by rw[M];rfl);rw[if_pos M,ha]at hn;rw[ha]at hk;exact .fld M ha (qBx rfl (hk a (by simp))) hn
 rw[if_neg M]at hn;by_cases L:e.op=6
 ·rw[if_pos L,if_neg (by rw[I];decide)]at hn;split at hn;·simp at hn
  ·rename_i R;simp only[zS,and_true]at hn;subst hn;exact .new L (by simpa using R)
 rw[if_neg L]at hn;by_cases X:e.op=7
 ·rw[if_pos X]at hn;unfold qIg at hn;rw[if_pos I]at hn;split at hn;·simp at hn
  ·rename_i hne;obtain⟨pr,i,hc,rfl⟩:=callK_of hk hn;exact .call X hc λh=>hne ⟨by rw[hn],by rw[hn];exact h⟩
 rw[if_neg X]at hn;by_cases J:e.op=14∨e.op=15
 ·obtain⟨a,b,z⟩:=two (by rcases J with h|h<;>(rw[h];rfl));rw[if_pos J,z]at hn;rw[z]at hk;obtain⟨g,rfl⟩:=qBT hn;exact .eq J z (qBx rfl (hk a (by simp))) (qBx rfl (hk b (by simp))) (by simpa using g)
 rw[if_neg J]at hn;by_cases N:e.op=16∨e.op=17
 ·obtain⟨a,b,z⟩:=two (by rcases N with h|h<;>(rw[h];rfl));rw[if_pos N,z]at hn;rw[z]at hk;obtain⟨g,rfl⟩:=qBT hn;obtain⟨A,Z⟩:=allT2 g;exact .cmp N z (qBx A (hk a (by simp))) (qBx Z (hk b (by simp)))
 rw[if_neg N]at hn;by_cases O:e.op=18∨e.op=19∨e.op=20
 ·rw[if_pos O]at hn;rcases O with h|h
  ·obtain⟨a,ha⟩:=one (by rw[h];rfl);rw[ha]at hn hk;obtain⟨g,rfl⟩:=qBT hn;exact .not h ha (qBx (allT1 g) (hk a (by simp)))
  ·obtain⟨a,b,z⟩:=two (by rcases h with h|h<;>(rw[h];rfl));rw[z]at hn hk;obtain⟨g,rfl⟩:=qBT hn;obtain⟨A,Z⟩:=allT2 g;rcases h with h|h;·exact .and h z (qBx A (hk a (by simp))) (qBx Z (hk b (by simp)))
   ·exact .or h z (qBx A (hk a (by simp))) (qBx Z (hk b (by simp)))
 rw[if_neg O]at hn;by_cases Y:e.op=21
 ·obtain⟨a,b,c,o⟩:=W (by rw[Y];rfl);rw[if_pos Y,o]at hn;rw[o]at hk;obtain⟨g,Z⟩:=qBT hn;simp only[zG,xq,xp,xo,zC,decide_eq_true_eq,yP]at g Z;refine .cond Y o (qBx g.1 (hk a (by simp))) (qBx rfl (hk b (by simp))) (qBx rfl (hk c (by simp))) ?_ ?_ Z.symm;·grind[inr,qDH]
  grind[qDH,absurd,inr]
 rw[if_neg Y]at hn;obtain⟨g,rfl⟩:=qBT hn;have B:e.op=8∨e.op=24∨(e.op=9∨e.op=10∨e.op=11∨e.op=12∨e.op=13∨e.op=22∨e.op=23):=by
  grind[qAT]
 rcases B with h|h|h
 ·obtain⟨a,ha⟩:=one (by rw[h];rfl);rw[ha]at g hk;exact .neg h ha (qBx (allT1 g) (hk a (by simp)))
 ·obtain⟨a,ha⟩:=one (by rw[h];rfl);rw[ha]at g hk;exact .log h ha (qBx (allT1 g) (hk a (by simp)))
 ·obtain⟨a,b,z⟩:=two (by rcases h with h|h|h|h|h|h|h<;>(rw[h];rfl));rw[z]at g hk;obtain⟨A,Z⟩:=allT2 g;exact .ari h z (qBx A (hk a (by simp))) (qBx Z (hk b (by simp)))
def TyS(d:Ds)(p:Pr)(s:S):Prop:=(∃n,(stT d (qAg d p) p.result n s).2=0)/\∃k,okS k s=true
theorem qIk{res:ByteArray}:∀{l:List S}{n:Int},(qBK d sc res n l).2=0->∀s∈l,∃o,(stT d sc res o s).2=0
 |[],_,_,s,z=>by cases z
 |x::l,n,h,s,z=>by
  rw[qGr]at h;split at h;·omega
  ·rename_i H;rcases yC.1 z with rfl|z;·grind
   ·exact qIk h s z
theorem qIp{k:Int}:∀{l:List S},qHc k l=true->∀s∈l,okS k s=true
 |[],_,s,z=>by cases z
 |x::l,h,s,z=>by
  unfold qHc at h;rw[zC]at h;rcases yC.1 z with rfl|z;·exact h.1
  ·exact qIp h.2 s z
theorem okS_eq(k:Int)(s:S):okS k s=(decide (k<=60)&&qBL s.op s.s s.es s.ls.length s.xs.length&&qHc (k+1) s.ls&&qHc (k+1) s.xs):=by cases s;unfold okS;rfl
theorem TyS.parts{s:S}(h:TyS d p s):qEL d (qAg d p) p.result s.op s.s s.es=0/\qGu s.op s.s s.es s.ls.length s.xs.length=true/\(∀e∈s.es,qAM e=true)/\(∀x∈s.ls,TyS d p x)/\∀x∈s.xs,TyS d p x:=by
 obtain⟨⟨n,h1⟩,k,h2⟩:=h;rw[okS_eq]at h2;simp only[zC]at h2;obtain⟨⟨⟨-,h3⟩,h4⟩,o⟩:=h2;unfold qBL at h3;rw[zC,za]at h3;rw[stT_eq]at h1;split at h1;·omega
 ·rename_i H;split at h1;·omega
  ·rename_i J;exact⟨by simpa using H,h3.1,h3.2,λx z=>⟨qIk (by simpa using J) x z,_,qIp h4 x z⟩,λx z=>⟨qIk h1 x z,_,qIp o x z⟩⟩
inductive KindS (d:Ds)(p:Pr)(s:S):Prop where
 |set {e:E} {u t:ByteArray} (h:s.op=1) (he:s.es=[e]) (hv:qAM e=true) (ht:qAq d (qAg d p) e=(u,0)) (hl:qBN (qAg d p).vars s.s=t) (hne:t≠sE) (hf:qDH d u t=true)
 |put {a e:E} {u w t:ByteArray} (h:s.op=2) (he:s.es=[a,e]) (hv:qAM a=true) (hw:qAM e=true) (ha:qAq d (qAg d p) a=(u,0)) (ht:qAq d (qAg d p) e=(w,0)) (hl:qBY d u s.s=(t,0)) (hf:qDH d w t=true)
 |cond {e:E} (h:s.op=3) (he:s.es=[e]) (hv:qAM e=true) (ht:qAq d (qAg d p) e=(qAw,0))
 |loop {e:E} (h:s.op=4) (he:s.es=[e]) (hv:qAM e=true) (ht:qAq d (qAg d p) e=(qAw,0))
 |ret0 (h:s.op=5) (he:s.es=[]) (hr:p.result=sE)
 |ret1 {e:E} {u:ByteArray} (h:s.op=5) (he:s.es=[e]) (hv:qAM e=true) (ht:qAq d (qAg d p) e=(u,0)) (hr:p.result≠sE) (hf:qDH d u p.result=true)
 |call {e:E} {pr:Pr} {i:Nat} (h:s.op=6) (he:s.es=[e]) (hv:qAM e=true) (ho:e.op=7) (hc:CallK d (qAg d p) e pr i)
theorem kindS{s:S}(h:TyS d p s):KindS d p s:=by
 obtain⟨h1,h2,h3,-⟩:=h.parts;unfold qEL at h1;unfold qGu at h2;by_cases H:s.op=6
 ·rw[if_pos H]at h1;rw[if_neg (by omega),if_neg (by omega),if_neg (by omega),if_neg (by omega),if_neg (by omega),if_pos H]at h2;obtain⟨-,h4,I,-⟩:=of_decide_eq_true h2;obtain⟨e,he⟩:=list1 h4;rw[he]at h1 I;simp only at h1;split at h1;·omega
  ·rename_i W;obtain⟨z,O⟩:=qFo d (qAg d p) e.k [] (by simpa using W);rw[O,xn]at h1;obtain⟨pr,i,hc,-⟩:=callK_of (t:=(qFD d e.s (e.k.map λx=>(qAq d (qAg d p) x).1)).1) z (xr rfl h1);exact .call H he (h3 e (by rw[he];simp)) I hc
 rw[if_neg H]at h1;split at h1;·omega
 rename_i W;obtain⟨z,O⟩:=qFo d (qAg d p) s.es [] (by simpa using W);rw[O,xn]at h1;have ty:∀{e:E},e∈s.es->qAq d (qAg d p) e=((qAq d (qAg d p) e).1,0):=λhe=>qBx rfl (z _ he);by_cases J:s.op=1
 ·rw[if_pos J]at h1;rw[if_pos J,zC]at h2;obtain⟨e,he⟩:=list1 (of_decide_eq_true h2.2).1;have hm:e∈s.es:=by rw[he];simp
  split at h1;·cases h1
  rename_i hne;split at h1
  ·rename_i hf;rw[he]at hf;exact .set J he (h3 e hm) (ty hm) rfl hne hf
  ·cases h1
 rw[if_neg J]at h1 h2;by_cases N:s.op=2
 ·rw[if_pos N]at h1;rw[if_pos N,zC]at h2;obtain⟨a,e,he⟩:=list2 (of_decide_eq_true h2.2).1;have hm:a∈s.es:=by rw[he];simp
  have o:e∈s.es:=by rw[he];simp
  split at h1;·omega
  rename_i h4;split at h1
  ·rename_i hf;rw[he]at hf h4;simp only[zG,xp,xo]at hf h4;exact .put N he (h3 a hm) (h3 e o) (ty hm) (ty o) (xr rfl (by simpa using h4)) hf
  ·cases h1
 rw[if_neg N]at h1 h2;by_cases Z:s.op=3
 ·rw[if_pos (.inl Z)]at h1;rw[if_pos Z]at h2;obtain⟨e,he⟩:=list1 (of_decide_eq_true h2).2;have hm:e∈s.es:=by rw[he];simp
  split at h1
  ·rename_i hf;rw[he]at hf;exact .cond Z he (h3 e hm) (qBx hf (z e hm))
  ·cases h1
 rw[if_neg Z]at h2;by_cases Y:s.op=4
 ·rw[if_pos (.inr Y)]at h1;rw[if_pos Y]at h2;obtain⟨e,he⟩:=list1 (of_decide_eq_true h2).2.1;have hm:e∈s.es:=by rw[he];simp
  split at h1
  ·rename_i hf;rw[he]at hf;exact .loop Y he (h3 e hm) (qBx hf (z e hm))
  ·cases h1
 rw[if_neg (by omega)]at h1;rw[if_neg Y]at h2;by_cases A:s.op=5
 ·rw[if_pos A]at h1 h2;obtain⟨-,hl,-⟩:=of_decide_eq_true h2;cases he:s.es with
  |nil=>
   rw[he]at h1;simp only[xq,xm,if_true]at h1;split at h1;·rename_i hr;exact .ret0 A he hr
   ·cases h1
  |cons e r=>
   have hr:r=[]:=by
    grind
   subst hr;have hm:e∈s.es:=by rw[he];simp
   rw[he]at h1;simp only[zG,xq,List.length_cons,xm,xp]at h1;rw[if_neg (by omega)]at h1;split at h1;·rename_i hf;exact .ret1 A he (h3 e hm) (ty hm) hf.1 hf.2
   ·cases h1
 simp_all
structure qCH (d:Ds)(p:Pr):Prop where
 body:∀s∈p.body,TyS d p s
 vars:∀f∈p.vars,qBi d f.ty=true
 res:p.result=sE∨qBi d p.result=true
 lens:p.params.length<=6/\p.locals.length<=12
theorem oneT_known{l:List Fld}{i:Nat}{f:Fld}(h:qEE d l i f=0):qBi d f.ty=true:=by
 grind[qEE]
theorem declT_known{l:List Fld}(h:qCp d l=0):∀f∈l,qBi d f.ty=true:=by
 intro f hf;obtain⟨i,hi⟩:=xk.1 hf;unfold qCp at h;cases o:qAj (λi f=>if qEE d l i f≠0 then some (qEE d l i f)else none) 0 l with
 |none=>
  grind[qFw,oneT_known]
 |some b=>
  exfalso;rw[o]at h;simp only[Option.getD_some]at h;subst h;have key:∀(z:List Fld)(i:Nat),qAj (λi f=>if qEE d l i f≠0 then some (qEE d l i f)else none) i z≠some 0:=by
   intro z;induction z with
   |nil=>intro i h;cases h
   |cons x z H=>
    grind[qAj,qEE]
  exact key l 0 o
theorem qGy(hv:qAJ d=true)(hc:qHW d=none):∀p∈d.procs,qCH d p:=by
 intro p hp;obtain⟨i,hi⟩:=xk.1 hp;unfold qHW at hc;obtain⟨-,h⟩:=qLg hc;obtain⟨N,h⟩:=qLg h;obtain⟨-,h⟩:=qLg h;obtain⟨hb,-⟩:=qLg h;unfold qEC at N;unfold qCv at hb;have a1:=qFw N i p hi;have a2:=qFw hb i p hi;unfold qAJ at hv;simp only[zC,za]at hv;have z:=hv.1.2 p hp;unfold prB at z;simp only[zC]at z;obtain⟨⟨⟨⟨-,o⟩,f2⟩,-⟩,Z⟩:=z;unfold qDn at o f2;rw[zC,decide_eq_true_eq]at o f2;have Y:=o.1;have W:=f2.1;refine⟨λs H=>⟨?_,1,qIp (of_decide_eq_true Z).1 s H⟩,?_,?_,by omega,by omega⟩;·grind[qIk]
 ·split at a1;·cases a1
  split at a1;·cases a1
  rename_i J;have J:qCp d (p.params++p.locals)=0:=by simpa using J
  exact declT_known J
 grind
end
end Go.Proofs
namespace Go.Proofs
open Go Go.Sx
section
variable{d:Ds}{F:Nat}
def Rx.st{α:Type}:Rx α->St|.ok _ s=>s|.bad _ s=>s
inductive LgOk:Nat->List (Int×Int×Int)->Nat->Prop where
 |nil (n:Nat):LgOk n [] n
 |acc {n m:Nat} {k a f:Int} {l:List (Int×Int×Int)} (hk:k=1∨k=2) (h0:0<=a) (h1:a<=(n:Int)) (h2:0<=f) (h:LgOk n l m):LgOk n ((k,a,f)::l) m
 |alloc {n m:Nat} {f:Int} {l:List (Int×Int×Int)} (h2:0<=f) (h:LgOk (n+1) l m):LgOk n ((3,(n:Int)+1,f)::l) m
theorem LgOk.app{n m k:Nat}{l z:List (Int×Int×Int)}(h:LgOk n l m)(o:LgOk m z k):LgOk n (l++z) k:=by
 induction h with
 |nil=>exact o
 |acc a b c d _ H=>grind[acc]
 |alloc a _ H=>exact .alloc a (H o)
abbrev Gm:=List Int×List (Int×List Int)
inductive Tra:Gm->List (Int×Int×Int)->Gm->Prop where
 |nil (x:Gm):Tra x [] x
 |rd {x y:Gm} {l:List (Int×Int×Int)} {n f:Int} (h:Tra x l y):Tra x ((1,n,f)::l) y
 |wg {g:List Int} {ns:List (Int×List Int)} {y:Gm} {l:List (Int×Int×Int)} {i:Nat} {v:Int} (hi:i<g.length) (h:Tra (g.set i v,ns) l y):Tra (g,ns) ((2,0,(i:Int))::l) y
 |wf {g:List Int} {ns:List (Int×List Int)} {y:Gm} {l:List (Int×Int×Int)} {k i:Nat} {ty v:Int} {f:List Int} (hk:ns[k]?=some (ty,f)) (hi:i<f.length) (h:Tra (g,ns.set k (ty,f.set i v)) l y):Tra (g,ns) ((2,(k:Int)+1,(i:Int))::l) y
 |al {g:List Int} {ns:List (Int×List Int)} {y:Gm} {l:List (Int×Int×Int)} {ty:Int} {n:Nat} (h:Tra (g,ns++[(ty,yI n 0)]) l y):Tra (g,ns) ((3,(ns.length:Int)+1,ty)::l) y
theorem Tra.app{x y z:Gm}{l H:List (Int×Int×Int)}(h:Tra x l y)(k:Tra y H z):Tra x (l++H) z:=by
 induction h with
 |nil=>exact k
 |rd _ o=>exact .rd (o k)
 |wg hi _ o=>exact .wg hi (o k)
 |wf hk hi _ o=>grind[wf]
 |al _ o=>exact .al (o k)
structure Gr (F n:Nat)(s s':St):Prop where
 ty:∀(i:Nat) x,s.ns[i]?=some x->∃y,s'.ns[i]?=some y/\y.1=x.1
 tk:s.tk<=s'.tk
 fu:s.tk<=F->s'.tk<=F
 lg:∃l,s'.lg=s.lg++l/\LgOk s.ns.length l s'.ns.length/\((∀a∈l,a.1=1)->s'.g=s.g/\s'.ns=s.ns)
 w:s'.lg.length+s'.cm+4000*s.tk<=s.lg.length+s.cm+n+4000*s'.tk
 tr:∃l,s'.lg=s.lg++l/\Tra (s.g,s.ns) l (s'.g,s'.ns)
theorem Gr.refl(s:St):Gr F 0 s s:=⟨λ_ x h=>⟨x,h,rfl⟩,yU _,λh=>h,⟨[],by simp,.nil _,λ_=>⟨rfl,rfl⟩⟩,by omega,⟨[],by simp,.nil _⟩⟩
theorem Gr.trans{n m:Nat}{a b c:St}(h:Gr F n a b)(k:Gr F m b c):Gr F (n+m) a c:=⟨λi x Z=>by
 obtain⟨y,h1,h2⟩:=h.ty i x Z;obtain⟨z,h3,h4⟩:=k.ty i y h1;simp_all,Nat.le_trans h.tk k.tk,λe=>k.fu (h.fu e),by
 obtain⟨l,Y,H,O⟩:=h.lg;obtain⟨J,N,o,W⟩:=k.lg;refine⟨l++J,by simp_all,H.app o,λha=>?_⟩;simp_all,by have:=h.w;have:=k.w;omega,by
 obtain⟨l,Y,H⟩:=h.tr;obtain⟨J,N,o⟩:=k.tr;exact⟨l++J,by simp_all,H.app o⟩⟩
theorem Gr.le{n m:Nat}{a b:St}(h:Gr F n a b)(hn:n<=m):Gr F m a b:=⟨h.ty,h.tk,h.fu,h.lg,by have:=h.w;omega,h.tr⟩
theorem Gr.len{n:Nat}{a b:St}(h:Gr F n a b):a.ns.length<=b.ns.length:=by
 cases hk:a.ns.length with
 |zero=>omega
 |succ k=>
  obtain⟨y,z,-⟩:=h.ty k _ (yv (by omega));grind
theorem qJb{s:St}{i:Nat}:s.mm.nodes[i]?=(s.ns[i]?).map λn=>⟨n.1,qAD,n.2⟩:=List.getElem?_map ..
theorem mm_len{s:St}:s.mm.nodes.length=s.ns.length:=List.length_map ..
theorem qHk{m m':Mm}(hl:m.nodes.length<=m'.nodes.length)(hn:∀(i:Nat) x,m.nodes[i]?=some x->∃y,m'.nodes[i]?=some y/\y.ty=x.ty){t:ByteArray}{v:Int}(h:qAy d m t v=true):qAy d m' t v=true:=by
 unfold qAy at h⊢;split;·simp_all
 rename_i h1;rw[if_neg h1]at h;split;·simp_all
 rename_i h2;rw[if_neg h2,decide_eq_true_eq]at h;refine decide_eq_true ?_;rcases h with h|⟨p1,p2,p3⟩;·exact .inl h
 ·refine .inr ⟨p1,by omega,?_⟩;cases z:m.nodes[(v-1).toNat]? with
  |none=>simp_all
  |some x=>
   rw[z]at p3;obtain⟨y,o,H⟩:=hn _ _ z;simp_all
theorem Gr.right{n:Nat}{a b:St}(h:Gr F n a b){t:ByteArray}{v:Int}(hr:qAy d a.mm t v=true):qAy d b.mm t v=true:=by
 refine qHk (m:=a.mm) (by rw[mm_len,mm_len];exact h.len) (λi x o=>?_) hr;rw[qJb]at o;cases H:a.ns[i]? with
 |none=>simp_all
 |some y=>
  rw[H]at o;cases o;obtain⟨z,J,N⟩:=h.ty i y H;simp_all[qAD,qJb]
theorem Gr.val{n:Nat}{a b:St}(h:Gr F n a b){t:ByteArray}{v:Int}(hr:qBI d a.mm t v):qBI d b.mm t v:=by
 unfold qBI at hr⊢;split;·simp_all
 ·rename_i h1;rw[if_neg h1]at hr;exact h.right hr
theorem qAB{m:Mm}{l:List Fld}{vs:List Int}:qAh d m l vs=true↔l.length=vs.length/\∀(j:Nat) f v,l[j]?=some f->vs[j]?=some v->qAy d m f.ty v=true:=by
 unfold qAh;rw[zC,decide_eq_true_eq,qDz];grind[tyAt]
theorem qAp{m m':Mm}(hr:∀{t v},qAy d m t v=true->qAy d m' t v=true){l:List Fld}{vs:List Int}(h:qAh d m l vs=true):qAh d m' l vs=true:=by
 grind[qAB]
theorem qHg{m:Mm}{l:List Fld}{vs:List Int}(h:qAh d m l vs=true){i:Nat}{f:Fld}(hf:l[i]?=some f){v:Int}(hv:qAy d m f.ty v=true):qAh d m l (vs.set i v)=true:=by
 grind[qAB,xj]
theorem qIP(hv:qAJ d=true){m:Mm}{t:ByteArray}(h:qBi d t=true):qAy d m t 0=true:=by
 unfold qBi at h;simp only[yP,decide_eq_true_eq]at h;rcases h with(rfl|rfl)|h;·rfl
 ·rfl
 ·exact qKh (qEV hv h)
theorem qEj(hv:qAJ d=true){m:Mm}{l:List Fld}(h:∀f∈l,qBi d f.ty=true):qAh d m l (yI l.length 0)=true:=by
 grind[qAB,qIP,xv]
theorem qDO{m:Mm}{l o:List Fld}{vs z:List Int}(h:qAh d m l vs=true)(H:qAh d m o z=true):qAh d m (l++o) (vs++z)=true:=by
 grind[qAB,zw,List.getElem?_append_left,List.getElem?_append_right]
theorem qGl{m:Mm}(h1:hasT d=true)(h2:m.nodes.length<=4096)(h3:∀n∈m.nodes,qDv d n=true)(h4:qAh d m d.globals m.globals=true)(z:∀n∈m.nodes,qAh d m (qAs d n.ty) n.f=true):qAx d m=true:=by
 grind[qAx]
structure RxP {α:Type}(d:Ds)(F n:Nat)(s:St)(r:Rx α)(Q:α->St->Prop):Prop where
 good:qAz d r.st.mm
 gr:Gr F n s r.st
 q:∀v s',r=.ok v s'->Q v s'
section
variable{α β:Type}{n m:Nat}{s:St}{r:Rx α}{Q:α->St->Prop}
theorem RxP.ok{v:α}(G:qAz d s.mm)(h:Q v s):RxP d F 0 s (.ok v s) Q:=⟨G,Gr.refl s,λ_ _ e=>by cases e;exact h⟩
theorem RxP.bad{c:Int}(G:qAz d s.mm):RxP d F 0 s (.bad c s:Rx α) Q:=⟨G,Gr.refl s,λ_ _ e=>by cases e⟩
theorem RxP.le(h:RxP d F n s r Q)(hn:n<=m):RxP d F m s r Q:=⟨h.good,h.gr.le hn,h.q⟩
theorem RxP.mono{z:α->St->Prop}(h:RxP d F n s r Q)(k:∀v s',r=.ok v s'->Q v s'->z v s'):RxP d F n s r z:=⟨h.good,h.gr,λv s' e=>k v s' e (h.q v s' e)⟩
theorem RxP.bind{f:α->St->Rx β}{z:β->St->Prop}(h:RxP d F n s r Q)(k:∀v s',r=.ok v s'->Q v s'->qAz d s'.mm->Gr F n s s'->RxP d F m s' (f v s') z):RxP d F (n+m) s (r.bind f) z:=by
 cases r with
 |ok v s'=>
  have H:=k v s' rfl (h.q v s' rfl) h.good h.gr;exact⟨H.good,h.gr.trans H.gr,H.q⟩
 |bad c s'=>exact⟨h.good,h.gr.le (by omega),λ_ _ e=>by cases e⟩
end
section
variable{s:St}(G:qAz d s.mm)
include G
omit G in
theorem qLo{n:Nat}{r:Rs}{s':St}(z:qAz d s'.mm)(g:Gr F n s s'){Q:Int->St->Prop}(h:∀v,r=.ok v->Q v s'):RxP d F n s (qEq r s') Q:=by
 cases r with
 |ok v=>exact⟨z,g,λ_ _ e=>by cases e;exact h v rfl⟩
 |bad c=>exact⟨z,g,λ_ _ e=>by cases e⟩
theorem qFO{p:Pr}{vals:List Int}(hv:qAh d s.mm p.vars vals=true)(P:∀f∈p.vars,qBi d f.ty=true){nm t:ByteArray}(hl:qBN (qAg d p).vars nm=t)(hne:t≠sE):
  (∃(i:Nat)(f:Fld)(v:Int),qFI p.vars nm=i/\p.vars[i]?=some f/\vals[i]?=some v/\f.ty=t/\qBI d s.mm t v/\varX d p vals nm s=.ok v s)∨
  ∃(i:Nat)(f:Fld)(v:Int),qFI p.vars nm=-1/\qFI d.globals nm=i/\d.globals[i]?=some f/\s.g[i]?=some v/\f.ty=t/\qBI d s.mm t v/\varX d p vals nm s=.ok v (s.note (1,0,i)):=by
 obtain⟨p1,-,-,N,-⟩:=qAl G.mem;have hl:qBN (p.vars++d.globals) nm=t:=hl;have app:∀(a b:List Fld),qBN (a++b) nm=if 0<=qFI a nm then qBN a nm else qBN b nm:=λa b=>by
  rw[qDV,qDV,qDV,List.find?_append];unfold qFI;rcases qAG (λf:Fld=>decide (f.name=nm)) a with⟨h1,h2,-⟩|⟨i,x,h1,-,h3,-⟩;·grind
  simp_all
 rw[app]at hl;by_cases h0:0<=qFI p.vars nm
 ·left;rw[if_pos h0]at hl;rcases qEX p.vars nm with⟨H,-⟩|⟨i,f,H,c2,c3,-⟩;·simp_all
  ·obtain⟨v,z,o⟩:=qGk hv c2;have e:f.ty=t:=c3.symm.trans hl;refine⟨i,f,v,H,c2,z,e,?_,?_⟩;·rw[<-e];exact(qBm G.valid (P f (xv c2))).2 o
   grind[varX]
 ·right;rw[if_neg h0]at hl;rcases qEX d.globals nm with⟨H,-⟩|⟨i,f,H,c2,c3,-⟩;·simp_all
  ·obtain⟨v,z,o⟩:=qGk N c2;have e:f.ty=t:=c3.symm.trans hl;have J:qBi d f.ty=true:=za.1 (qBz p1).1 f (xv c2);refine⟨i,f,v,?_,H,c2,z,e,?_,?_⟩
   ·rcases qEX p.vars nm with⟨-,c⟩|⟨j,_,c,-⟩;·exact c
    omega
   ·rw[<-e];exact(qBm G.valid J).2 o
   ·unfold varX;rw[if_neg h0,H,xu];have z:s.g[i]?=some v:=z;rw[z];rfl
theorem qFp{t nm ty:ByteArray}(ht:qBY d t nm=(ty,0)){a:Int}(ha:qBI d s.mm t a)(h0:a≠0):
  ∃(q i j:Nat)(z:Ty)(f:Fld)(fs:List Int)(v:Int),a=(q:Int)+1/\s.ns[q]?=some ((j:Int),fs)/\d.types[j]?=some z/\z∈d.types/\qAs d j=z.fields/\qFI z.fields nm=i/\z.fields[i]?=some f/\fs[i]?=some v/\qBI d s.mm ty v/\f.ty=ty/\qBi d ty=true:=by
 obtain⟨n,i,j,z,f,v,b1,-,b3,W,Y,b6,b7,b8,b9,H,J,-,o⟩:=fld_ok G ht ha h0;obtain⟨q,rfl⟩:∃q:Nat,a=(q:Int)+1:=⟨(a-1).toNat,by omega⟩;rw[show((q:Int)+1-1).toNat=q by omega,qJb]at b1;cases Z:s.ns[q]? with
 |none=>simp_all
 |some x=>
  rw[Z]at b1;cases b1;obtain⟨p1,-⟩:=qAl G.mem;have N:qBi d f.ty=true:=za.1 ((qBz p1).2.2 z b7) f (xv b9);exact⟨q,i,j,z,f,x.2,v,rfl,by rw[Z,<-Y],b6,b7,qAR b6 rfl,b8,b9,H,J,o,o▸N⟩
omit G in
theorem gr_note{a f:Int}(h0:0<=a)(h1:a<=(s.ns.length:Int))(h2:0<=f):Gr F 1 s (s.note (1,a,f)):=⟨λ_ x h=>⟨x,h,rfl⟩,yU _,λh=>h,⟨[(1,a,f)],rfl,.acc (.inl rfl) h0 h1 h2 (.nil _),λ_=>⟨rfl,rfl⟩⟩,by show(s.lg++[_]).length+_+_<=_;rw[zw,xi];show s.lg.length+1+s.cm+4000*s.tk<=s.lg.length+s.cm+1+4000*s.tk;omega,⟨[(1,a,f)],rfl,.rd (.nil _)⟩⟩
omit G in
theorem gr_cnt{b:Bool}{op:Int}:Gr F 1 s (qLG b op s):=by
 unfold qLG;split;·exact⟨λ_ x h=>⟨x,h,rfl⟩,yU _,λh=>h,⟨[],by simp,.nil _,λ_=>⟨rfl,rfl⟩⟩,by grind,⟨[],by simp,.nil _⟩⟩
 ·exact(Gr.refl s).le (by omega)
theorem qLv{b:Bool}{op:Int}:qAz d (qLG b op s).mm:=by
 unfold qLG;split;·exact⟨G.valid,G.chk,G.mem⟩
 ·exact G
theorem new_snd{nm:ByteArray}(hn:qBa d nm=true):RxP d F 1 s (newX d nm s) λv s'=>qBI d s'.mm nm v:=by
 unfold newX;split;·exact(RxP.bad G).le (by omega)
 rename_i A;obtain⟨p1,X,p3,I,M⟩:=qAl G.mem;have z:=qEV G.valid hn;obtain⟨J,Z,N⟩:=xT.1 hn;have N:J.name=nm:=of_decide_eq_true N;obtain⟨j,O⟩:=xk.1 Z;have Y:qDw d nm=(j:Int):=N▸(qBz p1).2.1 j J O;have L:=(yw.1 O).1;rw[Y];have W:qAs d (j:Int)=J.fields:=qAR O rfl;rw[W];obtain⟨s',H⟩:∃s':St,s'={s with ns:=s.ns++[((j:Int),yI J.fields.length 0)],lg:=s.lg++[(3,(s.ns.length:Int)+1,(j:Int))]}:=⟨_,rfl⟩;rw[<-H];have g:Gr F 1 s s':=by
  rw[H];refine⟨λi x B=>⟨x,?_,rfl⟩,yU _,λh=>h,⟨[_],rfl,.alloc (by omega) ?_,λh=>(by simp_all)⟩,?_,⟨[_],rfl,.al (.nil _)⟩⟩;·grind
  ·grind[LgOk,zw,xi]
  grind
 have o:s'.mm.nodes=s.mm.nodes++[⟨(j:Int),qAD,yI J.fields.length 0⟩]:=by rw[H];simp[St.mm]
 have R:qAz d s'.mm:=by
  refine⟨G.valid,G.chk,qGl p1 ?_ (λn hm=>?_) ?_ λn hm=>?_⟩;·grind[zw,xi,mm_len]
  ·rw[o]at hm;rcases xh.1 hm with hm|hm;·exact p3 n hm
   ·rw[zO.1 hm];exact decide_eq_true ⟨by simp_all,by simp_all⟩
  ·have:s'.mm.globals=s.mm.globals:=by rw[H];rfl
   rw[this];exact qAp (λh=>g.right h) I
  ·rw[o]at hm;rcases xh.1 hm with hm|hm;·exact qAp (λh=>g.right h) (M n hm)
   ·rw[zO.1 hm];show qAh d s'.mm (qAs d (j:Int)) (yI J.fields.length 0)=true;rw[W];exact qEj G.valid λf hf=>za.1 ((qBz p1).2.2 J Z) f hf
 refine⟨R,g,λv D e=>?_⟩;cases e;unfold qBI qAy;rw[if_neg (qEm z kwNil),if_neg (qEm z kwInt),if_neg (qEm z kwBool),decide_eq_true_eq];grind[inr,zw,xi,mm_len,Int,List.getElem?_concat_length]
end
def CSnd(d:Ds)(F:Nat)(C:Cf):Prop:=∀(i:Nat) pr args s,d.procs[i]?=some pr->qAz d s.mm->qAh d s.mm pr.params args=true->RxP d F 0 s (C i args s) λv s'=>pr.result≠sE->qBI d s'.mm pr.result v
theorem szEs_sum:∀l:List E,szEs l=(l.map szE).sum
 |[]=>by unfold szEs;rfl
 |e::l=>by unfold szEs;rw[szEs_sum l];rfl
theorem szE_eq(e:E):szE e=1+(e.k.map szE).sum:=by cases e;unfold szE;rw[szEs_sum];rfl
theorem seq_snd{sc:Sc}{f:E->St->Rx Int}:∀(k:List E)(fs:List Fld)(acc:List Int)(gs:List Fld)(s:St),qAz d s.mm->qAh d s.mm gs acc=true->k.length=fs.length->(∀f∈fs,qBi d f.ty=true)->
  (∀(j:Nat) a g,k[j]?=some a->fs[j]?=some g->∃u,qAq d sc a=(u,0)/\qDH d u g.ty=true)->
  (∀a∈k,∀(u:ByteArray)(s1:St)(n:Nat),qAq d sc a=(u,0)->qAz d s1.mm->Gr F n s s1->RxP d F (szE a) s1 (f a s1) λv s'=>qBI d s'.mm u v)->
  RxP d F (k.map szE).sum s (qJM (k.map f) acc s) λl s'=>qAh d s'.mm (gs++fs) l=true
 |[],fs,acc,gs,s,G,ha,hl,_,_,_=>by
  obtain rfl:fs=[]:=List.eq_nil_of_length_eq_zero (by grind);rw[List.append_nil];exact RxP.ok G ha
 |a::k,fs,acc,gs,s,G,ha,hl,z,ht,H=>by
  cases fs with
  |nil=>simp at hl
  |cons g fs=>
   obtain⟨u,hu,o⟩:=ht 0 a g rfl rfl;have h1:=H a zc u s 0 hu G (Gr.refl s);rw[zG,zG,List.sum_cons];show RxP d F _ s ((f a s).bind λv st=>qJM (k.map f) (acc++[v]) st) _;refine h1.bind λv s1 _ hv Z N=>?_;have Y:=(qBm G.valid (z g zc)).1 (qCe G.valid o hv);have J:qAh d s1.mm (gs++[g]) (acc++[v])=true:=qDO (qAp (λh=>N.right h) ha) (qAB.2 ⟨rfl,λj f w hf hw=>by
    grind⟩)
   have:=seq_snd k fs (acc++[v]) (gs++[g]) s1 Z J (by simpa using hl) (λf hf=>z f (zb _ hf)) (λj a g ha W=>ht (j+1) a g (by simpa using ha) (by simpa using W)) (λb hb u O n hu A I=>H b (zb _ hb) u O _ hu A (N.trans I));simp_all
theorem qDs(hp:∀p∈d.procs,qCH d p){i:Nat}{pr:Pr}(h:d.procs[i]?=some pr):∀f∈pr.params,qBi d f.ty=true:=λf hf=>(hp pr (xv h)).vars f (List.mem_append_left _ hf)
theorem qKy(hp:∀p∈d.procs,qCH d p){C:Cf}(X:CSnd d F C){p:Pr}(hpo:qCH d p){vals:List Int}:
  ∀(e:E)(t:ByteArray)(s:St),VE e->qAq d (qAg d p) e=(t,0)->qAz d s.mm->qAh d s.mm p.vars vals=true->RxP d F (szE e) s (evX d C p vals e s) λv s'=>qBI d s'.mm t v:=by
 intro e;induction e using E.ind with
 |h e B=>
 intro t s hv ht G Z;rw[evX_eq,szE_eq];have I:∀{a:E}{u:ByteArray}{N:St}{n:Nat},a∈e.k->qAq d (qAg d p) a=(u,0)->qAz d N.mm->Gr F n s N->RxP d F (szE a) N (evX d C p vals a N) λv s'=>qBI d s'.mm u v:=λhm ha o J=>B _ hm _ _ (hv.kids _ hm) ha o (qAp (λh=>J.right h) Z);have K:∀{i:Nat}{a:E},e.k[i]?=some a->qEG (e.k.map (evX d C p vals)) i=evX d C p vals a:=λh=>qLr h;have b0:∀{v:Int},v=0∨v=1->qBI d s.mm qAw v:=λh=>qBd.2 h;cases kindX (sc:=qAg d p) rfl hv ht with
 |int h hn=>rw[cX1 (.inl h)];exact(RxP.ok G (qBe.2 (by omega))).le (by omega)
 |bool h hn=>rw[cX1 (.inr h)];exact(RxP.ok G (qBd.2 (by omega))).le (by omega)
 |nil h hn=>rw[cX3 h];exact(RxP.ok G (by rfl)).le (by omega)
 |var h hl hne=>
  rw[cX4 h];rcases qFO G Z hpo.vars hl hne with⟨i,f,v,-,-,-,-,W,O⟩|⟨i,f,v,-,-,-,-,-,W,O⟩;·rw[O];exact(RxP.ok G W).le (by omega)
  ·rw[O];exact⟨⟨G.valid,G.chk,G.mem⟩,(gr_note (by omega) (by omega) (by omega)).le (by omega),λ_ _ e=>by cases e;exact W⟩
 |@fld _ u a h hk ha hf=>
  rw[cX5 h,K (i:=0) (by rw[hk];rfl),hk];refine((I (by rw[hk];simp) ha G (Gr.refl s)).bind (m:=1) λv N _ H o J=>?_).le (by simp<;>omega);unfold fldX;by_cases h0:v=0;·rw[if_pos h0];exact(RxP.bad o).le (by omega)
  ·rw[if_neg h0];obtain⟨q,i,j,U,f,fs,w,rfl,h2,h3,-,W,O,h7,D,T,-⟩:=qFp o hf H h0;rw[show((q:Int)+1-1).toNat=q by omega,h2];simp only;rw[W,O,xu,D];exact⟨⟨o.valid,o.chk,o.mem⟩,gr_note (by omega) (by grind) (by omega),λ_ _ e=>by cases e;exact T⟩
 |new h hn=>rw[cX6 h];exact(new_snd G hn).le (by omega)
 |@call pr i h hc hr=>
  rw[cX7 h,hc.idx];refine((seq_snd e.k pr.params [] [] s G (qAB.2 ⟨rfl,λj f v h=>by simp at h⟩) hc.len (qDs hp hc.at_) hc.fit (λa hm u N n hu o J=>I hm hu o J)).bind (m:=0) λl N _ hl o J=>?_).le (by omega);exact(X i pr l N hc.at_ o hl).mono λv s' _ h=>h hr
 |@neg a h hk ha=>
  rw[cX8 h,K (i:=0) (by rw[hk];rfl),hk];refine((I (by rw[hk];simp) ha G (Gr.refl s)).bind (m:=0) λv N _ H o J=>qLo o (Gr.refl N) λw hw=>qBe.2 (big_ok hw).2).le (by simp<;>omega)
 |@not a h hk ha=>
  rw[cX18 h,K (i:=0) (by rw[hk];rfl),hk];refine((I (by rw[hk];simp) ha G (Gr.refl s)).bind (m:=0) λv N _ H o J=>RxP.ok o ?_).le (by simp<;>omega);grind[qBd]
 |@log a h hk ha=>
  rw[cX24 h,K (i:=0) (by rw[hk];rfl),hk];refine((I (by rw[hk];simp) ha G (Gr.refl s)).bind (m:=0) λv N _ H o J=>RxP.ok o ?_).le (by simp<;>omega);have:=log_in (a:=v) (qBe.1 H).2;exact qBe.2 (by omega)
 |@and a b h hk ha hb=>
  rw[cX19 h,K (i:=0) (by rw[hk];rfl),K (i:=1) (by rw[hk];rfl)];refine((I (by rw[hk];simp) ha G (Gr.refl s)).bind (m:=szE b) λv N _ H o J=>?_).le (by simp_all);split;·exact(RxP.ok o (qBd.2 (.inl rfl))).le (by omega)
  grind
 |@or a b h hk ha hb=>
  rw[cX20 h,K (i:=0) (by rw[hk];rfl),K (i:=1) (by rw[hk];rfl)];refine((I (by rw[hk];simp) ha G (Gr.refl s)).bind (m:=szE b) λv N _ H o J=>?_).le (by simp_all);split;·grind
  ·exact(RxP.ok o (qBd.2 (.inr rfl))).le (by omega)
 |@cond a b c _ u w h hk ha hb hc hu hw _=>
  rw[cX21 h,K (i:=0) (by rw[hk];rfl),K (i:=1) (by rw[hk];rfl),K (i:=2) (by rw[hk];rfl)];refine((I (by rw[hk];simp) ha G (Gr.refl s)).bind (m:=szE b+szE c) λv N _ H o J=>?_).le (by simp_all);split
  ·exact((I (by rw[hk];simp) hc o J).mono λv s' _ h=>by
    rcases hw with rfl|hw;·exact h
    ·exact qCe G.valid hw h).le (by omega)
  ·exact((I (by rw[hk];simp) hb o J).mono λv s' _ h=>by
    rcases hu with rfl|hu;·exact h
    ·exact qCe G.valid hu h).le (by omega)
 |@eq a b u w h hk ha hb _=>
  rw[qJW (by omega),K (i:=0) (by rw[hk];rfl),K (i:=1) (by rw[hk];rfl)];refine((I (by rw[hk];simp) ha G (Gr.refl s)).bind (m:=szE b+1) λv N _ H o J=>(I (by rw[hk];simp) hb o J).bind (m:=1) λz L _ Y A R=>qLo (qLv A) gr_cnt λx M=>qBd.2 (twoB_ok (by omega) M)).le (by grind)
 |@cmp a b h hk ha hb=>
  rw[qJW (by omega),K (i:=0) (by rw[hk];rfl),K (i:=1) (by rw[hk];rfl)];refine((I (by rw[hk];simp) ha G (Gr.refl s)).bind (m:=szE b+1) λv N _ H o J=>(I (by rw[hk];simp) hb o J).bind (m:=1) λz L _ Y A R=>qLo (qLv A) gr_cnt λx M=>qBd.2 (twoB_ok (by omega) M)).le (by grind)
 |@ari a b h hk ha hb=>
  rw[qJW (by omega),K (i:=0) (by rw[hk];rfl),K (i:=1) (by rw[hk];rfl)];refine((I (by rw[hk];simp) ha G (Gr.refl s)).bind (m:=szE b+1) λv N _ H o J=>(I (by rw[hk];simp) hb o J).bind (m:=1) λz L _ Y A R=>qLo (qLv A) gr_cnt λx M=>qBe.2 (two_ok h (qBe.1 H) (qBe.1 Y) M)).le (by grind)
end
end Go.Proofs
namespace Go.Proofs
open Go Go.Sx
section
variable{d:Ds}{F:Nat}
theorem qBw{e:E}(h:qAM e=true):VE e/\szE e<=1000:=⟨VE.of_valid h,(of_decide_eq_true h).2⟩
def RtOk(d:Ds)(p:Pr)(r:Rt)(s:St):Prop:=qAh d s.mm p.vars r.1=true/\∀v,r.2=some v->p.result≠sE->qBI d s.mm p.result v
def SSnd(d:Ds)(F:Nat)(Sn:Sf):Prop:=∀c p l vals s,qCH d p->(∀x∈l,TyS d p x)->qAz d s.mm->qAh d s.mm p.vars vals=true->RxP d F 0 s (Sn c p l vals s) λr s'=>RtOk d p r s'
theorem qEy(hp:∀p∈d.procs,qCH d p){Sn:Sf}(hS:SSnd d F Sn)(c:Nat):CSnd d F (qCs d Sn c):=by
 intro i pr args s z G ha;unfold qCs;split;·exact RxP.bad G
 rw[xu,z];simp only;have hpo:=hp pr (xv z);refine(hS (c+1) pr pr.body _ s hpo hpo.body G (qDO ha (qEj G.valid λf hf=>hpo.vars f (List.mem_append_right _ hf)))).bind (m:=0) λr H _ hr o J=>RxP.ok o λhne=>?_;cases h:r.2 with
 |some v=>exact hr.2 v h hne
 |none=>
  have hk:=hpo.res.resolve_left hne;exact(qBm G.valid hk).2 (qIP G.valid hk)
theorem Gr.tick{n:Nat}{s s':St}(h:Gr F n {s with tk:=s.tk+1} s')(hn:n<=4000)(z:s.tk<F):Gr F 0 s s':=
 ⟨h.ty,Nat.le_trans (Nat.le_succ _) h.tk,λ_=>h.fu z,h.lg,by have h:=h.w;grind,h.tr⟩
theorem RxP.tick{α:Type}{n:Nat}{s:St}{f:Unit->St->Rx α}{Q:α->St->Prop}(G:qAz d s.mm)(h:qAz d ({s with tk:=s.tk+1}:St).mm->RxP d F n {s with tk:=s.tk+1} (f () {s with tk:=s.tk+1}) Q)(hn:n<=4000):RxP d F 0 s ((qIc F s).bind f) Q:=by
 unfold qIc;split;·exact RxP.bad G
 ·rename_i z;have H:=h ⟨G.valid,G.chk,G.mem⟩;exact⟨H.good,H.gr.tick hn (by omega),H.q⟩
section
variable{Sn:Sf}{c:Nat}{p:Pr}(hp:∀p∈d.procs,qCH d p)(hS:SSnd d F Sn)(hpo:qCH d p)
include hp hS hpo
theorem qEw{vals:List Int}{e:E}{t:ByteArray}{s:St}(hv:qAM e=true)(ht:qAq d (qAg d p) e=(t,0))(G:qAz d s.mm)(z:qAh d s.mm p.vars vals=true):RxP d F 1000 s (evS d Sn c p vals e s) λv s'=>qBI d s'.mm t v:=
 (qKy hp (qEy hp hS c) hpo e t s (qBw hv).1 ht G z).le (qBw hv).2
theorem wh_snd{cond:E}{body:List S}(hv:qAM cond=true)(ht:qAq d (qAg d p) cond=(qAw,0))(hb:∀x∈body,TyS d p x):∀(n:Nat)(vals:List Int)(s:St),qAz d s.mm->qAh d s.mm p.vars vals=true->RxP d F 1000 s (whX d F Sn c p cond body n vals s) λr s'=>RtOk d p r s'
 |0,vals,s,G,_=>by unfold whX;exact(RxP.bad G).le (by omega)
 |n+1,vals,s,G,z=>by
  rw[whX];refine((qEw hp hS hpo hv ht G z).bind (m:=0) λv N _ _ o Z=>?_).le (by omega);have H:=qAp (λh=>Z.right h) z;split;·exact RxP.ok o ⟨H,λ_ h=>by cases h⟩
  ·refine((hS c p body vals N hpo hb o H).bind (m:=0) λr W _ hr J O=>?_).le (by omega);split;·exact RxP.ok J hr
   ·exact RxP.tick (n:=1000) J (λY=>wh_snd hv ht hb n r.1 _ Y hr.1) (by omega)
theorem body_snd{n:Nat}{x:S}(M:TyS d p x){vals:List Int}{s:St}(G:qAz d s.mm)(z:qAh d s.mm p.vars vals=true):RxP d F 2001 s (qHA d F Sn c p n x vals s) λr s'=>RtOk d p r s':=by
 unfold qHA;obtain⟨p1,p2,p3,p4,p5⟩:=qAl G.mem;cases kindS M with
 |@set e u t h he hv ht hl hne hf=>
  rw[if_pos h,he,xp];refine((qEw hp hS hpo hv ht G z).bind (m:=1) λv o _ J H N=>?_).le (by omega);have Y:=qAp (λh=>N.right h) z;have W:=qCe G.valid hf J;unfold setX;rcases qFO H Y hpo.vars hl hne with⟨i,f,w,q1,L,q3,q4,-⟩|⟨i,f,w,q0,q1,L,q3,q4,-⟩
  ·rw[if_pos (by omega),q1,xu];have hr:qAy d o.mm f.ty v=true:=(qBm G.valid (hpo.vars f (xv L))).1 (q4▸W);exact(RxP.ok H ⟨qHg Y L hr,λ_ h=>by cases h⟩).le (by omega)
  ·rw[if_neg (by omega),q1,xu];obtain⟨T,o2,U,o4,o5⟩:=qAl H.mem;have hr:qAy d o.mm f.ty v=true:=(qBm G.valid (za.1 (qBz T).1 f (xv L))).1 (q4▸W);have A:qAz d ({o with g:=o.g.set i v,lg:=o.lg++[(2,0,(i:Int))]}:St).mm:=⟨G.valid,G.chk,qGl T o2 U (qHg (m:=o.mm) (vs:=o.g) o4 L hr) o5⟩;exact⟨A,⟨λ_ x h=>⟨x,h,rfl⟩,yU _,λh=>h,⟨[_],rfl,.acc (.inr rfl) (by omega) (by omega) (by omega) (.nil _),λh=>(by simp_all)⟩,by show(o.lg++[_]).length+_+_<=_;rw[zw,xi];show o.lg.length+1+o.cm+4000*o.tk<=o.lg.length+o.cm+1+4000*o.tk;omega,⟨[_],rfl,.wg (yw.1 q3).1 (.nil _)⟩⟩,λ_ _ e=>by cases e;exact⟨Y,λ_ h=>by cases h⟩⟩
 |@put a e u w t h he hv hw ha ht hl hf=>
  rw[if_neg (by omega),if_pos h,he,xp,xo,xp];refine((qEw hp hS hpo hv ha G z).bind (m:=1001) λx1 o _ J H N=>?_).le (by omega);have Y:=qAp (λh=>N.right h) z;refine((qEw hp hS hpo hw ht H Y).bind (m:=1) λx2 Z _ W A g2=>?_).le (by omega);have v2:=qAp (λh=>g2.right h) Y;have ha2:=g2.val J;unfold putX;by_cases h0:x1=0;·rw[if_pos h0];exact(RxP.bad A).le (by omega)
  rw[if_neg h0];obtain⟨q,i,j,tt,f,fs,y,rfl,X,e3,e4,e5,e6,e7,e8,e9,B,e11⟩:=qFp A hl ha2 h0;rw[show((q:Int)+1-1).toNat=q by omega,X];simp only;rw[e5,e6,xu];obtain⟨T,o2,U,o4,o5⟩:=qAl A.mem;have hr:qAy d Z.mm f.ty x2=true:=(qBm G.valid (B▸e11)).1 (B▸qCe G.valid hf W);have hql:=(yw.1 X).1;obtain⟨I,O⟩:∃I:St,I={Z with ns:=Z.ns.set q ((j:Int),fs.set i x2),lg:=Z.lg++[(2,(q:Int)+1,(i:Int))]}:=⟨_,rfl⟩;have D:Gr F 1 Z I:=by
   rw[O];refine⟨λk x hk=>?_,yU _,λh=>h,⟨[_],rfl,.acc (.inr rfl) (by omega) (by omega) (by omega) ?_,λh=>(by simp_all)⟩,?_,⟨[_],rfl,.wf X (yw.1 e8).1 (.nil _)⟩⟩;·grind
   ·grind[LgOk,xj]
   grind
  have K:I.mm.nodes=Z.mm.nodes.set q ⟨(j:Int),qAD,fs.set i x2⟩:=by rw[O];simp[St.mm,List.map_set]
  have G3:qAz d I.mm:=by
   refine⟨G.valid,G.chk,qGl T ?_ (λn hm=>?_) ?_ λn hm=>?_⟩;·simp_all
   ·rw[K]at hm;rcases xg hm with hm|rfl;·exact U n hm
    ·exact U (⟨(j:Int),qAD,fs⟩) (xv (i:=q) (by rw[qJb,X];rfl))
   ·have:I.mm.globals=Z.mm.globals:=by rw[O];rfl
    rw[this];exact qAp (λh=>D.right h) o4
   ·rw[K]at hm;rcases xg hm with hm|rfl;·exact qAp (λh=>D.right h) (o5 n hm)
    ·have:=o5 (⟨(j:Int),qAD,fs⟩) (xv (i:=q) (by rw[qJb,X];rfl));have this:qAh d Z.mm (qAs d (j:Int)) fs=true:=this;show qAh d I.mm (qAs d (j:Int)) (fs.set i x2)=true;rw[e5]at this⊢;exact qAp (λh=>D.right h) (qHg this e7 hr)
  rw[<-O];exact⟨G3,D,λ_ _ e=>by cases e;exact⟨qAp (λh=>D.right h) v2,λ_ h=>by cases h⟩⟩
 |@cond e h he hv ht=>
  rw[if_neg (by omega),if_neg (by omega),if_pos h,he,xp];refine((qEw hp hS hpo hv ht G z).bind (m:=0) λv o _ J H N=>?_).le (by omega);have Y:=qAp (λh=>N.right h) z;obtain⟨-,-,-,hl,M⟩:=M.parts;split;·exact hS c p _ vals o hpo M H Y
  ·exact hS c p _ vals o hpo hl H Y
 |@loop e h he hv ht=>
  rw[if_neg (by omega),if_neg (by omega),if_neg (by omega),if_pos h,he,xp];exact(wh_snd hp hS hpo hv ht M.parts.2.2.2.1 n vals s G z).le (by omega)
 |ret0 h he hr=>
  rw[if_neg (by omega),if_neg (by omega),if_neg (by omega),if_neg (by omega),if_pos h,he];exact(RxP.ok G ⟨z,λ_ _ k=>absurd hr k⟩).le (by omega)
 |@ret1 e u h he hv ht hr hf=>
  rw[if_neg (by omega),if_neg (by omega),if_neg (by omega),if_neg (by omega),if_pos h,he];refine((qEw hp hS hpo hv ht G z).bind (m:=0) λv o _ J H N=>?_).le (by omega);exact RxP.ok H ⟨qAp (λh=>N.right h) z,λw h _=>by cases h;exact qCe G.valid hf J⟩
 |@call e pr i h he hv ho hc=>
  rw[if_neg (by omega),if_neg (by omega),if_neg (by omega),if_neg (by omega),if_neg (by omega),if_pos h,he,xp];unfold evS;rw[evX_eq,cX7 ho,hc.idx];have hV:=(qBw hv).1;have hsz:=(qBw hv).2;rw[szE_eq]at hsz;refine(((seq_snd e.k pr.params [] [] s G (qAB.2 ⟨rfl,λj f v h=>by simp at h⟩) hc.len (qDs hp hc.at_) hc.fit (λa hm u o n hu H N=>qKy hp (qEy hp hS c) hpo a u o (hV.kids a hm) hu H (qAp (λh=>N.right h) z))).bind (m:=0) λl o _ hl H N=>?_).bind (m:=0) (Q:=λ_ s'=>qAh d s'.mm p.vars vals=true) λ_ Z _ hq A g2=>RxP.ok A ⟨hq,λ_ h=>by cases h⟩).le (by omega);have R:=qEy hp hS c i pr l o hc.at_ H hl;refine⟨R.good,R.gr,λv Z e=>?_⟩;have:=qAp (λh=>R.gr.right h) (qAp (λh=>N.right h) z);rw[e]at this;exact this
theorem st_snd{n:Nat}{x:S}(o:TyS d p x){vals:List Int}{s:St}(G:qAz d s.mm)(z:qAh d s.mm p.vars vals=true):RxP d F 0 s (stX d F Sn c p n x vals s) λr s'=>RtOk d p r s':=by
 unfold stX;exact RxP.tick (n:=2001) G (λH=>body_snd hp hS hpo o H z) (by omega)
end
theorem list_snd{p:Pr}{f:S->List Int->St->Rx Rt}:∀(l:List S)(vals:List Int)(s:St),(∀x∈l,∀vals s,qAz d s.mm->qAh d s.mm p.vars vals=true->RxP d F 0 s (f x vals s) λr s'=>RtOk d p r s')->qAz d s.mm->qAh d s.mm p.vars vals=true->RxP d F 0 s (qEY f l vals s) λr s'=>RtOk d p r s'
 |[],vals,s,_,G,hv=>by unfold qEY;exact RxP.ok G ⟨hv,λ_ h=>by cases h⟩
 |x::l,vals,s,H,G,hv=>by
  rw[qEY];refine(H x zc vals s G hv).bind (m:=0) λr o _ hr z N=>?_;split;·exact RxP.ok z hr
  ·exact list_snd l r.1 o (λy J=>H y (zb _ J)) z hr.1
theorem qDA(hp:∀p∈d.procs,qCH d p):∀n,SSnd d F (qCg d F n)
 |0=>λ_ _ _ _ _ _ _ G _=>RxP.bad G
 |n+1=>λc p l vals s hpo hl G hv=>list_snd l vals s (λ_ z _ _ G hv=>st_snd hp (qDA hp n) hpo (hl _ z) G hv) G hv
theorem play_snd(hp:∀p∈d.procs,qCH d p){i:Nat}{pr:Pr}{args:List Int}{s:St}(h:d.procs[i]?=some pr)(G:qAz d s.mm)(ha:qAh d s.mm pr.params args=true):RxP d F 0 s (qBS d F i args s) λv s'=>pr.result≠sE->qBI d s'.mm pr.result v:=
 qEy hp (qDA hp (F+1)) 0 i pr args s h G ha
end
end Go.Proofs
namespace Go.Sx
open Go
open Classical
section
variable{P:Program}{V0 V1 V:Mem}{e:TypeId}{sz:Nat}{s:Sl}{vs:List Value}
def Blk(s:Sl)(c:Nat):Prop:=s.c≠0/\s.p=some ⟨c,0,none⟩
noncomputable def Mem.but(V:Mem)(s:Sl):Mem:=λc=>if Blk s c then none else V c
theorem Mem.but_sub(V:Mem)(s:Sl):(V.but s).sub V:=λc o h=>by
 grind[Mem.but]
theorem Mem.but_at{c:Nat}{o:Obj}(h:V c=some o)(hn:¬Blk s c):V.but s c=some o:=by
 grind[Mem.but]
theorem Own.cases0(h:Own V0 V e sz s vs):(s.n=0/\s.c=0/\vs=[])∨(s.c≠0/\∃g z,s.p=some ⟨g,0,none⟩/\V0 g=none/\V g=some (.cells z e (0,0))/\s.n<=s.c/\s.c<=maxLen/\z.size=s.c*sz/\z.toList.take (s.n*sz)=vs):=by
 rcases h.at_ with h1|⟨g,z,h1,h2,h3,h4,o⟩;·exact .inl h1
 ·by_cases hc:s.c=0;·simp_all
  simp_all
theorem Own.but(h:Own V0 V e sz s vs):Own (V.but s) V e sz s vs:=by
 refine⟨Mem.but_sub V s,h.len,?_⟩;rcases h.cases0 with h1|⟨hc,g,cur,h1,h2,h3⟩;·exact .inl h1
 ·refine .inr ⟨g,cur,h1,?_,h3⟩;unfold Mem.but;rw[if_pos ⟨hc,h1⟩]
theorem Own.apart(h:Own V0 V e sz s vs){c:Nat}(hc:∀z,V c≠some (.cells z e (0,0))):¬Blk s c:=by
 rintro⟨h0,hp⟩;rcases h.cases0 with⟨-,h1,-⟩|⟨-,g,z,h1,h2,h3,-⟩;·exact h0 h1
 simp_all
theorem Own.apart0(h:Own V0 V e sz s vs){c:Nat}{o:Obj}(hc:V0 c=some o):¬Blk s c:=by
 rintro⟨h0,hp⟩;rcases h.cases0 with⟨-,h1,-⟩|⟨-,g,cur,h1,h2,-⟩;·exact h0 h1
 simp_all
theorem Own.apartN(h:Own V0 V e sz s vs){c:Nat}(hc:V c=none):¬Blk s c:=h.apart λz=>by rw[hc];nofun
theorem Own.sub_but(h:Own V0 V e sz s vs):V0.sub (V.but s):=λ_ _ hc=>Mem.but_at (h.sub _ _ hc) (h.apart0 hc)
theorem Own.narrow(h:Own V1 V e sz s vs)(z:V0.sub V1):Own V0 V e sz s vs:=⟨z.trans h.sub,h.len,by
 rcases h.at_ with h1|⟨g,cur,h1,h2,h3⟩;·exact .inl h1
 ·refine .inr ⟨g,cur,h1,?_,h3⟩;cases H:V0 g with
  |none=>rfl
  |some o=>rw[z _ _ H]at h2;cases h2⟩
theorem Own.put(h:Own V0 V e sz s vs){c:Nat}(hn:¬Blk s c)(h0:V0 c=none)(o:Obj):Own V0 (V.set c o) e sz s vs:=⟨h.sub.set h0 o,h.len,by
 rcases h.cases0 with h1|⟨hc,g,cur,h1,h2,h3,h4⟩;·exact .inl h1
 ·refine .inr ⟨g,cur,h1,h2,?_,h4⟩;rw[Mem.set_ne λe=>hn ⟨hc,by simp_all⟩];exact h3⟩
theorem qJu(k:Int):∀(es:List MapEntry)(i:Nat),(∀e∈es,∃n,e.key=.int .i64 n)->
  yo (.int .i64) (.int .i64 k) es i=some ((es.findIdx? λe=>decide (e.key=.int .i64 k)).bind λj=>(es[j]?).map λe=>(i+j,e.val))
 |[],_,_=>rfl
 |e::es,i,h=>by
  obtain⟨s,o⟩:=h e (by simp);have H:=qJu k es (i+1) λx J=>h x (by simp[J]);unfold yo;simp only[o,Instr.sameNow,List.findIdx?_cons];by_cases hk:k=s;·grind
  ·have z:¬s=k:=λe=>hk e.symm;simp only[H];have hb:(k==s)=false:=by simpa using hk
   cases N:List.findIdx? (λe=>decide (e.key=Value.int .i64 k)) es with
   |none=>simp[z,hb]
   |some j=>grind
theorem qGK{kt:TypeId}(hk:P.underlying kt=some (.int .i64)):KeyOf P kt (Value.int .i64) where
 inj:=λa b h=>by cases h;rfl
 find:=λa es w h=>by
  simp_all[Instr.findKey,Sem.run_bind,run_underlying,zL,qJu,Nat.zero_add]
 check:=λb a w=>by
  unfold Instr.checkKey;simp_all[Sem.run_bind,run_underlying,zL]
 stays:=λa w=>by
  have h:xf 10000 (.int .i64 a) (.int .i64 a)=true:=by
   rw[show(10000:Nat)=9999+1 from rfl];simp[xf]
  unfold Instr.keyThatStays;rw[if_pos h];rfl
end
end Go.Sx
