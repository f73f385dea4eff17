/- Part 9 of a proof of a law of this seat: no statement of the seat is proved here. -/
import Derived.Test.YtginfholjbbgeaaGreatDoorPart08
import Derived.Sort.Walk0
import Derived.RangeFuncRecord
set_option linter.unusedVariables false
set_option linter.unusedSimpArgs false
namespace Go.Proofs
open Go Go.Sx
attribute [local irreducible] Go.Sx.Tri
class Tab (V:Mem):Prop where
 at_:∃t fr,V 0=some (.cells (Lib.asciiSpaceTab.map fun z=>Value.int .u8 z).toArray t fr)
theorem Tab.sub{V V':Mem}(h:Tab V)(hs:V.sub V'):Tab V':=by
 obtain⟨t,fr,h⟩:=h.at_
 exact⟨t,fr,hs _ _ h⟩
theorem Tab.is{V:Mem}{w:World}(h:Tab V)(hV:V.le w):Lib.TabIs Tryz.prog w "strings.asciiSpace" .u8 Lib.asciiSpaceTab:=by
 obtain⟨t,fr,h⟩:=h.at_
 have hg:Tryz.prog.globalNamed "strings.asciiSpace" = some 0:=by kernel_rfl
 unfold Lib.TabIs World.var?
 rw[hg,Option.bind_some,hV _ _ h]
theorem frm_new{V:Mem}{w:World}(hw:V.le w)(o:Obj):V w.heap.size=none/\Frm V w (V.set w.heap.size o) (w.alloc o):=by
 have hn:V w.heap.size=none:=by
  cases hc:V w.heap.size with
  | none=>rfl
  | some o=>have:=(Array.getElem?_eq_some_iff.1 (hw _ o hc)).1;omega
 refine⟨hn,by simp,fun b o hb=>?_,fun b hb _=>Go.RowKit.Below.heap_alloc _ _ _ hb,fun b hb=>?_,rfl,rfl⟩
 ·by_cases e:b=w.heap.size
  ·subst e;rw[Mem.set_same]at hb;rw[<- hb];exact World.alloc_heap_new _ _
  ·rw[Mem.set_ne e]at hb
   have hlt:=(Array.getElem?_eq_some_iff.1 (hw b o hb)).1
   exact(Go.RowKit.Below.heap_alloc _ _ _ hlt).trans (hw b o hb)
 ·by_cases e:b=w.heap.size
  ·exact .inr (by omega)
  ·rw[Mem.set_ne e]at hb;exact .inl hb
def qIH:ByteArray:=qAq [97,110,100,32,98,111,111,108,32,98,111,117,110,100,32,100,101,115,99,32,101,108,115,101,32,102,97,108,115,101,32,105,102,32,105,110,116,32,105,110,118,97,114,105,97,110,116,32,108,111,99,97,108,32,108,111,103,32,109,97,120,32,109,101,97,115,117,114,101,32,109,105,110,32,110,101,119,32,110,105,108,32,110,111,116,32,111,112,32,111,114,32,112,111,116,101,110,116,105,97,108,32,112,114,111,99,32,114,101,116,117,114,110,32,114,117,108,101,32,115,99,114,105,112,116,32,115,111,114,116,32,115,112,101,99,32,116,104,105,115,32,116,114,117,101,32,116,121,112,101,32,118,97,114,32,119,104,105,108,101]
def qBI:List ByteArray:=(Lib.fields qIH.data.toList).map fun l=>⟨l.toArray⟩
theorem kwText_size:qIH.size=160:=by kernel_rfl
theorem qGy:qBI.length=31:=by kernel_rfl
theorem c194{V:Mem}(ht:Tab V):Tri Tryz.prog 194 #[] V fun e V'=>∃b,V b=none/\e=.returned (.slice (sa b) 31 31)/\V'=V.set b (.cells (qBI.map Value.string).toArray 9 (0,0)):=by
 refine x194 ?_
 unfold w194
 refine Tri.mono (R:=fun e V'=>∃b,V b=none/\e=.returned (.slice (sa b) 31 31)/\V'=V.set b (.cells (qBI.map Value.string).toArray 9 (0,0))) ?_ ?_
 ·unfold Tri
  intro w hw
  refine qCD (Tryz.strings_Fields qIH w (by rw[kwText_size];decide) ?_ (ht.is hw)) ?_
  ·have hall:(qIH.data.toList.all fun b=>decide (b.toNat<128))=true:=by kernel_rfl
   intro j b hb
   have:=List.all_eq_true.1 hall b (List.mem_of_getElem? hb)
   simpa using this
  ·rintro e w' ⟨rfl,rfl⟩
   obtain⟨hn,hf⟩:=frm_new hw (.cells (qBI.map Value.string).toArray 9)
   refine⟨_,⟨w.heap.size,hn,?_,rfl⟩,?_⟩
   ·rw[show (Lib.fields qIH.data.toList).length=31 by kernel_rfl]
   ·have e:((Lib.fields qIH.data.toList).map fun l=>Value.string ⟨l.toArray⟩)=qBI.map Value.string:=by
     unfold qBI;rw[List.map_map];rfl
    rw[e];exact hf
 ·rintro e V' ⟨b,hb,rfl,rfl⟩
  exact⟨⟨some ⟨b,0,none⟩,31,31⟩,rfl,b,hb,rfl,rfl⟩
theorem c265{V:Mem}{s:ByteArray}:PP 265 [.string s] V (.bool false):=by
 refine x265 ?_
 unfold w265
 simp
theorem c233{V:Mem}{s:ByteArray}:PP 233 [.string s] V (.bool false):=by
 refine x233 ?_
 unfold w233
 simp
def ltB(s t:ByteArray):Bool:=Op.bytesLess s.toList t.toList
theorem c232{V:Mem}{s t:ByteArray}:PP 232 [.string s,.string t] V (.bool (ltB s t)):=by
 refine x232 ?_
 unfold w232
 refine c265.call ⟨_,rfl,fun h=>?_,fun _=>⟨rfl,rfl⟩⟩
 cases h
theorem bl_trans:∀{a b c:List UInt8},Op.bytesLess a b=true->Op.bytesLess b c=true->Op.bytesLess a c=true
 | _,[],_,h,_=>by simp[Op.bytesLess]at h
 | _,_::_,[],_,k=>by simp[Op.bytesLess]at k
 | [],_::_,_::_,_,_=>rfl
 | a::x,b::y,c::z,h,k=>by
  simp only[Op.bytesLess,Bool.or_eq_true,decide_eq_true_eq,Bool.and_eq_true,beq_iff_eq]at h k ⊢
  rcases h with h|⟨rfl,h⟩
  ·rcases k with k|⟨rfl,k⟩
   ·left;rw[UInt8.lt_iff_toNat_lt]at *;omega
   ·exact .inl h
  ·rcases k with k|⟨rfl,k⟩
   ·exact .inl k
   ·exact .inr ⟨rfl,bl_trans h k⟩
theorem qHu{a b c:ByteArray}(h:ltB a b=true)(k:ltB b c=true):ltB a c=true:=bl_trans h k
theorem bl_irrefl:∀l:List UInt8,Op.bytesLess l l=false
 | []=>rfl
 | a::l=>by
  have h1:¬(a<a):=by rw[UInt8.lt_iff_toNat_lt];omega
  simp[Op.bytesLess,bl_irrefl l,h1]
theorem ltB_irrefl(a:ByteArray):ltB a a=false:=bl_irrefl _
def qJa:List ByteArray->Bool
 | a::b::l=>ltB a b&&qJa (b::l)
 | _=>true
theorem qDP:∀{l:List ByteArray},qJa l=true->∀(i j:Nat) (x y:ByteArray),i<j->l[i]?=some x->l[j]?=some y->ltB x y=true
 | [],_,i,j,x,y,_,hx,_=>by simp at hx
 | [a],_,i,j,x,y,hij,hx,hy=>by
  have:=(List.getElem?_eq_some_iff.1 hy).1
  simp only[List.length_singleton]at this;omega
 | a::b::l,h,i,j,x,y,hij,hx,hy=>by
  simp only[qJa,Bool.and_eq_true]at h
  cases j with
  | zero=>omega
  | succ j =>
   rw[List.getElem?_cons_succ]at hy
   cases i with
   | succ i=>rw[List.getElem?_cons_succ]at hx;exact qDP h.2 i j x y (by omega) hx hy
   | zero =>
    simp only[List.getElem?_cons_zero,Option.some.injEq]at hx;subst hx
    cases j with
    | zero=>simp only[List.getElem?_cons_zero,Option.some.injEq]at hy;subst hy;exact h.1
    | succ j=>exact qHu h.1 (qDP h.2 0 (j+1) b y (by omega) rfl hy)
theorem GenK.shr1{V:Mem}{vals:Operand->Value}{t ty:TypeId}{n:Int}(hv:vals (.tmp 19)=.int .u64 n)(hv2:vals (.const (.int .u64 1))=.int .u64 1){q:Value->Mem->Prop}(hq:q (.int .u64 (n / 2)) V) :
  GenK Tryz.prog (.binOp .shr t (.tmp 19) (.const (.int .u64 1)) t) ty vals V q:=by
 intro w hw
 refine⟨_,w,V,?_,Frm.refl hw,hq⟩
 have e:Op.shift .shr .u64 n .u64 1=pure (.int .u64 (n / 2)):=by
  unfold Op.shift
  rw[if_neg (by decide)]
  show pure (Value.int .u64 (n.fdiv (2 ^ 1)))=_
  rw[Int.fdiv_eq_ediv_of_nonneg _ (by decide)]
  rfl
 unfold execOp
 simp only[hv,hv2]
 simp[eqGuard,binOp_shr,e]
theorem qDz{xs:List ByteArray}{s:ByteArray}:hasS xs s=true↔s∈xs:=by
 unfold hasS
 rw[List.any_eq_true]
 exact⟨fun⟨x,hx,e⟩=>by rw[decide_eq_true_eq]at e;exact e ▸ hx,fun h=>⟨s,h,by simp⟩⟩
def kwIx(s:ByteArray):Bool:=hasS qBI s
theorem kwIx_eq(s:ByteArray):kwIx s=isKw s:=by
 have h1:(qBI.all fun x=>kwList.any fun y=>decide (y=x))=true:=by kernel_rfl
 have h2:(kwList.all fun x=>qBI.any fun y=>decide (y=x))=true:=by kernel_rfl
 unfold kwIx isKw
 rw[Bool.eq_iff_iff,qDz,qDz]
 constructor
 ·intro h
  exact qDz.1 (List.all_eq_true.1 h1 s h)
 ·intro h
  exact qDz.1 (List.all_eq_true.1 h2 s h)
theorem c193{V:Mem}{l:Sl}{xs:List ByteArray}{s:ByteArray}(h:qAc V l 1 (xs.map fun x=>[vS x]))(hs:qJa xs=true)(hlen:xs.length<=1000) :
  Tri Tryz.prog 193 #[l.v,.string s] V fun e V'=>∃n:Int,e=.returned (.tuple #[.int .i64 n,.bool (hasS xs s)])/\V'=V:=by
 refine x193 ?_
 unfold w193
 have hn:=h.n_eq
 have hc:=h.cap
 have hf:=h.fit
 refine⟨fun n ys V1=>∃i j:Nat,ys=[.int .i64 i,.int .i64 j]/\V1=V/\i<=j/\j<=xs.length/\n=j-i/\(∀(k:Nat) x,k<i->xs[k]?=some x->ltB x s=true)/\(∀(k:Nat) x,j<=k->xs[k]?=some x->ltB x s=false),xs.length,
  ⟨0,xs.length,by rw[hn];rfl,rfl,by omega,by omega,by omega,fun k x hk=>by omega,fun k x hk hx=>by have:=(List.getElem?_eq_some_iff.1 hx).1;omega⟩,?_⟩
 rintro n V1 v2 v3 ⟨i,j,hy,rfl,hij,hj,rfl,hlo,hhi⟩ J hJ
 simp only[List.cons.injEq,Value.int.injEq,true_and,and_true]at hy
 obtain⟨rfl,rfl⟩:=hy
 refine⟨fun hlt=>?_,fun hge=>?_⟩
 ·refine⟨⟨by omega,by omega⟩,⟨by show (0:Int)<=_;omega,by show _<=(18446744073709551615:Int);omega⟩,?_⟩
  refine GenK.shr1 (n:=(i:Int)+j) rfl rfl ⟨_,rfl,⟨by omega,by omega⟩,?_⟩
  have hm:((i:Int)+j) / 2=((i+j) / 2:Nat):=by omega
  rw[hm]
  obtain⟨x,hmx,hx,hd,hl,hp,h0,hrow⟩:=h.get (i:=(i+j) / 2) (by omega)
  refine⟨hp,h0,by omega,x,hrow,c232.call ⟨_,rfl,fun hb=>⟨⟨by omega,by omega⟩,?_⟩,fun hb=>?_⟩⟩
  ·refine hJ (j-((i+j) / 2+1)) _ _ (by omega) ⟨(i+j) / 2+1,j,rfl,rfl,by omega,hj,rfl,fun k y hk hy=>?_,hhi⟩
   rcases Nat.lt_or_ge k ((i+j) / 2) with h'|h'
   ·exact qHu (qDP hs k _ y x h' hy hx) hb
   ·have:k=(i+j) / 2:=by omega
    subst this;rw[hx]at hy;cases hy;exact hb
  ·refine hJ ((i+j) / 2-i) _ _ (by omega) ⟨i,(i+j) / 2,rfl,rfl,by omega,by omega,rfl,hlo,fun k y hk hy=>?_⟩
   cases hz:ltB y s with
   | false=>rfl
   | true =>
    rcases Nat.lt_or_ge ((i+j) / 2) k with h'|h'
    ·exact absurd (qHu (qDP hs _ k x y h' hx hy) hz) hb
    ·have:k=(i+j) / 2:=by omega
     subst this;rw[hx]at hy;cases hy;exact absurd hz hb
 ·have hij':i=j:=by omega
  subst hij'
  have key:s∈xs->xs[i]?=some s:=fun hm=>by
   obtain⟨k,hk,e⟩:=List.mem_iff_getElem.1 hm
   have hk':xs[k]?=some s:=by rw[List.getElem?_eq_getElem hk,e]
   rcases Nat.lt_trichotomy k i with h'|h'|h'
   ·have:=hlo k s h' hk';rw[ltB_irrefl]at this;cases this
   ·subst h';exact hk'
   ·have hi':i<xs.length:=by omega
    have h2:=qDP hs i k xs[i] s h' (List.getElem?_eq_getElem hi') hk'
    have h3:=hhi i xs[i] (Nat.le_refl _) (List.getElem?_eq_getElem hi')
    rw[h2]at h3;cases h3
  refine⟨fun hlt=>?_,fun hge2=>?_⟩
  ·obtain⟨x,hmx,hx,hd,hl,hp,h0,hrow⟩:=h.get (i:=i) hlt
   refine⟨hp,h0,hlt,x,hrow,fun e=>?_,fun e=>⟨hp,h0,hlt,x,hrow,c233.call ⟨_,rfl,fun hb=>?_,fun _=>?_⟩⟩⟩
   ·subst e
    exact⟨i,by rw[qDz.2 hmx],rfl⟩
   ·cases hb
   ·refine⟨i,?_,rfl⟩
    have:hasS xs s=false:=by
     cases hz:hasS xs s with
     | false=>rfl
     | true=>have:=key (qDz.1 hz);rw[hx]at this;exact absurd (by simpa using this) e
    rw[this]
  ·refine⟨i,?_,rfl⟩
   have:hasS xs s=false:=by
    cases hz:hasS xs s with
    | false=>rfl
    | true=>have:=(List.getElem?_eq_some_iff.1 (key (qDz.1 hz))).1;omega
   rw[this]
theorem c140{V:Mem}{s:ByteArray}(ht:Tab V):PP 140 [.string s] V (.bool (isKw s)):=by
 refine Pur.mk ?_
 refine x140 ?_
 unfold w140
 refine Tri.mono (c194 ht) ?_
 rintro _ V' ⟨b,hb,rfl,rfl⟩
 refine⟨⟨some ⟨b,0,none⟩,31,31⟩,rfl,?_⟩
 have hrows:qAc (V.set b (.cells ((qBI.map Value.string).toArray) 9 (0,0))) ⟨some ⟨b,0,none⟩,31,31⟩ 1 (qBI.map fun x=>[vS x]) :=
  qAc.cells (xs:=qBI) (row:=fun x=>[vS x]) mss (by simp;rfl) (fun _=>rfl) qGy.symm (Nat.le_of_ble_eq_true rfl)
 refine Tri.mono (c193 hrows (by kernel_rfl) (by rw[qGy];decide)) ?_
 rintro _ V2 ⟨n,rfl,rfl⟩
 exact⟨n,_,rfl,by rw[<- kwIx_eq];rfl,Mem.sub_new hb _⟩
theorem c101{V:Mem}[Tab V]{s:ByteArray}:PP 101 [.string s] V (.bool (qAQ s)):=by
 refine x101 ?_
 unfold w101
 refine⟨fun h=>?_,fun h=>⟨fun h1=>?_,fun h1=>?_⟩⟩
 ·subst h;exact⟨rfl,rfl⟩
 ·have:¬s.size<=40:=by omega
  simp[qAQ,this]
 ·have h0:s.size≠0:=fun e=>h (by
   have:s.data=#[]:=Array.eq_empty_of_size_eq_zero e
   cases s;simp only at this;subst this;rfl)
  refine⟨by omega,c139.call ⟨_,rfl,fun h2=>?_,fun h2=>?_⟩⟩
  ·refine(c140 inferInstance).call ⟨_,rfl,fun hk=>?_,fun hk=>?_⟩
   ·simp[qAQ,hk]
   ·refine qBe s.size (fun i V1=>V1=V/\∀j:Nat,j<i->qII (qBd s j)=true) ⟨rfl,by simp⟩ ?_
    rintro i b _ J hi ⟨rfl,hj⟩ hJ
    refine⟨fun hlt=>⟨by omega,c139.call ⟨_,rfl,fun hw=>?_,fun hw=>⟨⟨by omega,by omega⟩,hJ (by omega) _ _ ⟨rfl,fun j hj'=>?_⟩⟩⟩⟩,fun hge=>?_⟩
    ·rw[cls_word]at hw
     have:¬ ∀i:Nat,i<s.size->qII (qBd s i)=true:=fun hf=>by rw[hf i (by omega)]at hw;cases hw
     simp[qAQ,this]
    ·rcases Nat.lt_succ_iff_lt_or_eq.1 hj' with h'|rfl
     ·exact hj j h'
     ·rw[cls_word]at hw;simpa using hw
    ·have a2:s.size<=40:=by omega
     have a3:∀i:Nat,i<s.size->qII (qBd s i)=true:=fun j hj'=>hj j (by omega)
     have:qAQ s=!isKw s:=by unfold qAQ;rw[decide_eq_true ⟨h0,a2,(cls_two _).1 h2,a3⟩];simp
     simp[this,hk]
  ·rw[cls_two]at h2
   have:qCX (qBd s 0)=false:=by simpa using h2
   simp[qAQ,this]
/-! Nodes. -/
def qAE(op:Int):Int:=if (1<=op/\op<=4)∨op=6 then 0 else if op=5∨op=8∨op=18∨op=24 then 1 else if op=7 then -1 else if op=21 then 3 else if 9<=op/\op<=23 then 2 else -2
theorem c235{V:Mem}{op:Int}:PP 235 [.int .i64 op] V (.tuple #[.int .i64 (if qAE op=-2 then 2 else qAE op),.bool (decide (qAE op≠-2))]):=by
 refine x235 ?_
 unfold w235
 have key:∀(n:Int) (b:Bool),(if qAE op=-2 then 2 else qAE op)=n->decide (qAE op≠-2)=b->Ending.returned (.tuple #[.int .i64 n,.bool b])=Ending.returned (.tuple #[.int .i64 (if qAE op=-2 then 2 else qAE op),.bool (decide (qAE op≠-2))]):=fun n b h k=>by rw[h,k]
 unfold qAE at key
 repeat' (first|intro _|apply And.intro)
 all_goals first|rfl | (refine key _ _ ?_ ?_ <;> grind)
def sThis:ByteArray:=qAq [116,104,105,115]
def nmB(op:Int)(s:ByteArray):Bool:=if op=4 then decide (s=sThis)||qAQ s else if op=5∨op=6∨op=7 then qAQ s else decide (s=qAq [])
def numB(op n:Int):Bool:=if op=1 then decide (0<=n/\n<=1099511627776) else if op=2 then decide (n=0∨n=1) else decide (n=0)
def qDY(op n:Int)(s:ByteArray)(len:Int):Bool:=decide (qAE op≠-2/\(0<=qAE op->len=qAE op)/\(qAE op=-1->len<=6))&&nmB op s&&numB op n
theorem c236{V:Mem}[Tab V]{e:E}:PP 236 [e.v] V (.bool (nmB e.op e.s&&numB e.op e.n)):=by
 refine x236 ?_
 unfold w236
 have key:∀b:Bool,(nmB e.op e.s&&numB e.op e.n)=b->Ending.returned (.bool b)=Ending.returned (.bool (nmB e.op e.s&&numB e.op e.n)):=fun n h=>by rw[h]
 unfold nmB numB sThis at key
 repeat' (first|refine c101.call ⟨_,rfl,?_⟩|intro _|apply And.intro)
 all_goals first|rfl | (refine key _ ?_;grind)
mutual
def okE(d:Int):E->Bool | .mk op n s _ k=>decide (d<=60)&&qDY op n s k.length&&okEs (d+1) k
def okEs(d:Int):List E->Bool | []=>true|x::xs=>okE d x&&okEs d xs
end
mutual
def szE:E->Nat | .mk _ _ _ _ k=>1+szEs k
def szEs:List E->Nat | []=>0|x::xs=>szE x+szEs xs
end
mutual
def cntE(d:Int):E->Int | .mk op n s _ k=>if 60<d then 1001 else if qDY op n s k.length=true then qJM (d+1) 1 k else 1001
def qJM(d acc:Int):List E->Int | []=>acc|x::xs=>if 1000<acc+cntE d x then acc+cntE d x else qJM d (acc+cntE d x) xs
end
mutual
def vE(left d:Int):E->Bool×Int | .mk op n s _ k=>if 0<=left-1/\d<=60/\qDY op n s k.length=true then vEs (left-1) (d+1) k else (false,left-1)
def vEs(left d:Int):List E->Bool×Int | []=>(true,left) | x::xs=>if (vE left d x).1=true then vEs (vE left d x).2 d xs else (false,(vE left d x).2)
end
def qAJ(e:E):Bool:=decide (okE 1 e=true/\szE e<=1000)
mutual
theorem vE_ok:∀(left d:Int) (e:E),((vE left d e).1=true↔okE d e=true/\(szE e:Int)<=left)/\((vE left d e).1=true->(vE left d e).2=left-szE e)
 | left,d,.mk op n s l k=>by
  have ih:=vEs_ok (left-1) (d+1) k
  unfold vE okE szE
  split
  ·rename_i h
   have:=ih
   grind
  ·rename_i h
   grind
theorem vEs_ok:∀(left d:Int) (k:List E),0<=left->((vEs left d k).1=true↔okEs d k=true/\(szEs k:Int)<=left)/\((vEs left d k).1=true->(vEs left d k).2=left-szEs k)
 | left,d,[],h=>by simp[vEs,okEs,szEs,h]
 | left,d,x::xs,h=>by
  have h1:=vE_ok left d x
  have h2:=vEs_ok (vE left d x).2 d xs
  unfold vEs okEs szEs
  split
  ·rename_i hx
   have e:=h1.2 hx
   have k:=h1.1.1 hx
   have h2:=h2 (by omega)
   grind
  ·grind
end
mutual
theorem cntE_ok:∀(d:Int) (e:E),1<=cntE d e/\(cntE d e<=1000↔okE d e=true/\szE e<=1000)/\(cntE d e<=1000->cntE d e=szE e)/\cntE d e<=1001+1000*(61-d).toNat
 | d,.mk op n s l k=>by
  have ih:=cntEs_ok (d+1) 1 k (by omega) (by omega)
  unfold cntE okE szE
  split
  ·grind
  ·split
   ·have:(61-d).toNat=(61-(d+1)).toNat+1:=by omega
    grind
   ·grind
theorem cntEs_ok:∀(d acc:Int) (k:List E),1<=acc->acc<=1000->acc<=qJM d acc k/\(qJM d acc k<=1000↔okEs d k=true/\acc+szEs k<=1000)/\(qJM d acc k<=1000->qJM d acc k=acc+szEs k)/\qJM d acc k<=2001+1000*(61-d).toNat
 | d,acc,[],h,h'=>by simp[qJM,okEs,szEs];omega
 | d,acc,x::xs,h,h'=>by
  have h1:=cntE_ok d x
  have h2:=cntEs_ok d (acc+cntE d x) xs (by omega)
  unfold qJM okEs szEs
  split
  ·grind
  ·have h2:=h2 (by omega)
   grind
end
theorem validE_v(e:E):(vE 1000 1 e).1=qAJ e:=by
 have:=(vE_ok 1000 1 e).1
 unfold qAJ
 grind
theorem vE_bound{left d:Int}{e:E}(h:(vE left d e).1=true):0<=(vE left d e).2/\(vE left d e).2<=left:=by
 have:=vE_ok left d e
 grind
theorem vE_eq(left d:Int)(e:E):vE left d e=if 0<=left-1/\d<=60/\qDY e.op e.n e.s e.k.length=true then vEs (left-1) (d+1) e.k else (false,left-1):=by
 cases e;unfold vE;rfl
theorem vEs_cons(left d:Int)(x:E)(xs:List E):vEs left d (x::xs)=if (vE left d x).1=true then vEs (vE left d x).2 d xs else (false,(vE left d x).2):=by rw[vEs]
theorem vEs_nil(left d:Int):vEs left d []=(true,left):=by rw[vEs]
theorem c197{V:Mem}{b t:Nat}{n:Int}(h:V b=some (cell (.int .i64 n) t))(h0:-1000<=n)(h1:n<=100000) :
  Tri Tryz.prog 197 #[pv b] V fun e V'=>e=.returned (.bool (decide (0<=n-1)))/\V'=V.set b (cell (.int .i64 (n-1)) t):=by
 refine x197 ?_
 unfold w197
 refine⟨by simp,by simp,_,qBp h,⟨by omega,by omega⟩,by simp,by simp,StT.cell h ⟨by simp,by simp,_,qBp mss,rfl,rfl⟩⟩
set_option maxRecDepth 10000 in
theorem c195{V0:Mem}[hT:Tab V0]{b t:Nat}(hb:V0 b=none):∀e:E,E.Ok V0 e->∀(V:Mem),V0.sub V->∀left d:Int,V b=some (cell (.int .i64 left) t)->0<=left->left<=1000->0<=d->d<=61 ->
    Tri Tryz.prog 195 #[e.v,.int .i64 d,pv b] V fun r V'=>r=.returned (.bool (vE left d e).1)/\V'=V.set b (cell (.int .i64 (vE left d e).2) t):=by
  intro e
  induction e using E.ind with
  | h e ih =>
  intro ho V hV left d hl hl0 hl1 hd0 hd
  have hr:=ho.rows
  have hn:=hr.n_eq
  refine Tri.less (x195 ?_)
  unfold w195
  refine c235.call ⟨_,_,rfl,Tri.mono (c197 hl (by omega) (by omega)) ?_⟩
  rintro _ _ ⟨rfl,rfl⟩
  refine⟨_,rfl,?_⟩
  -- no
  have no:¬(0<=left-1/\d<=60/\qDY e.op e.n e.s e.k.length=true)->∃W,(Ending.returned (.bool false)=Ending.returned (.bool (vE left d e).1)/\W=V.set b (cell (.int .i64 (vE left d e).2) t))/\W.sub (V.set b (cell (.int .i64 (left-1)) t)):=by
    intro h
    rw[vE_eq,if_neg h]
    exact⟨_,⟨rfl,rfl⟩,Mem.sub.refl _⟩
  -- yes
  have yes:(0<=left-1/\d<=60/\qDY e.op e.n e.s e.k.length=true)->qAC [(.int .i64 d)] 3 (V.set b (cell (.int .i64 (left-1)) t)) fun v10 V4 =>
        qAC [(pv b)] 228 V4 fun v11 V5 =>
        Tri Tryz.prog 199 #[(.slice e.l.p e.l.n e.l.c),(.func (.func 237) #[] #[(.pointer (qAa v10 0)),(.pointer (qAa v11 0))])] V5 fun r V6=>∃v12:Bool,r=.returned (.bool v12) /\
        ∃W,(Ending.returned (.bool (!v12))=Ending.returned (.bool (vE left d e).1)/\W=V.set b (cell (.int .i64 (vE left d e).2) t))/\W.sub V6:=by
    intro h b1 hb1 b2 hb2
    rw[vE_eq,if_pos h]
    have n1:b≠b1:=fun e=>by subst e;rw[Mem.set_same]at hb1;cases hb1
    have n2:b1≠b2:=fun e=>by subst e;rw[Mem.set_same]at hb2;cases hb2
    have n3:b≠b2:=fun e=>by subst e;rw[Mem.set_ne n1,Mem.set_same]at hb2;cases hb2
    rw[Mem.set_ne (fun e=>n1 e.symm)]at hb1
    rw[Mem.set_ne (fun e=>n2 e.symm),Mem.set_ne (fun e=>n3 e.symm)]at hb2
    have v1:V0 b1=none:=by cases h':V0 b1 with
      | none=>rfl
      | some x=>rw[hV _ _ h']at hb1;cases hb1
    have v2:V0 b2=none:=by cases h':V0 b2 with
      | none=>rfl
      | some x=>rw[hV _ _ h']at hb2;cases hb2
    let M:Int->Mem:=fun lf=>((V.set b (cell (.int .i64 lf) t)).set b1 (cell (.int .i64 d) 3)).set b2 (cell (pv b) 228)
    have hM:∀lf,V0.sub (M lf):=fun lf=>((hV.set hb _).set v1 _).set v2 _
    have hMb:∀lf,M lf b=some (cell (.int .i64 lf) t):=fun lf=>by simp only[M];rw[Mem.set_ne n3,Mem.set_ne n1,Mem.set_same]
    have hM1:∀lf,M lf b1=some (cell (.int .i64 d) 3):=fun lf=>by simp only[M];rw[Mem.set_ne n2,Mem.set_same]
    have hM2:∀lf,M lf b2=some (cell (pv b) 228):=fun lf=>by simp only[M];rw[Mem.set_same]
    have hMs:∀lf lf',(M lf).set b (cell (.int .i64 lf') t)=M lf':=fun lf lf'=>by
      simp only[M]
      rw[Mem.set_comm _ (fun e=>n3 e.symm),Mem.set_comm _ (fun e=>n1 e.symm),Mem.set_set]
    have hW:∀lf,(V.set b (cell (.int .i64 lf) t)).sub (M lf):=fun lf=>by
      refine((Mem.sub.refl _).set ?_ _).set ?_ _
      · rw[Mem.set_ne (fun e=>n1 e.symm)];exact hb1
      · rw[Mem.set_ne (fun e=>n3 e.symm)];exact hb2
    refine Tri.mono (g199 (l:=e.l) (xs:=e.k) (first:=[]) (caps:=[pv b1,pv b2]) Tryz.call237
      (fun i V1=>∃lf,V1=M lf/\0<=lf/\lf<=1000/\vEs (left-1) (d+1) e.k=vEs lf (d+1) (e.k.drop i)) (fun i V1=>∃lf,V1=M lf/\vEs (left-1) (d+1) e.k=(false,lf)) ?_ ⟨left-1,rfl,by omega,by omega,rfl⟩ ?_) ?_
    · rintro i _ ⟨lf,rfl,-⟩;exact hr.sub (hM lf)
    · rintro i x _ hx ⟨lf,rfl,hf0,hf1,he⟩
      have hm:=List.mem_of_getElem? hx
      have hil:=(List.getElem?_eq_some_iff.1 hx).1
      have hdr:e.k.drop i=x::e.k.drop (i+1):=by rw[List.drop_eq_getElem_cons hil,(List.getElem?_eq_some_iff.1 hx).2]
      rw[hdr,vEs_cons]at he
      refine x237 ?_
      unfold w237
      refine⟨_,qBp (hM1 lf),⟨by omega,by omega⟩,_,qBp (hM2 lf),Tri.mono (ih x hm (ho.kids x hm) (M lf) (hM lf) lf (d+1) (hMb lf) hf0 hf1 (by omega) (by omega)) ?_⟩
      rintro _ _ ⟨rfl,rfl⟩
      refine⟨_,rfl,_,rfl,fun hb=>?_,fun hb=>?_⟩
      · have hb:(vE lf (d+1) x).1=false:=by simpa using hb
        rw[if_neg (by rw[hb];simp)]at he
        exact⟨_,hMs _ _,he⟩
      · have hb:(vE lf (d+1) x).1=true:=by simpa using hb
        have:=vE_bound hb
        rw[if_pos hb]at he
        exact⟨_,hMs _ _,by omega,by omega,he⟩
    · rintro _ _ (⟨i,rfl,lf,rfl,he⟩|⟨rfl,lf,rfl,hf0,hf1,he⟩)
      · exact⟨_,rfl,_,⟨by rw[he];rfl,rfl⟩,by rw[he];exact hW lf⟩
      · rw[List.drop_length,vEs_nil]at he
        exact⟨_,rfl,_,⟨by rw[he];rfl,rfl⟩,by rw[he];exact hW lf⟩
  have key:qDY e.op e.n e.s e.k.length=(decide (qAE e.op≠-2/\(0<=qAE e.op->(e.k.length:Int)=qAE e.op)/\(qAE e.op=-1->(e.k.length:Int)<=6))&&(nmB e.op e.s&&numB e.op e.n)):=by unfold qDY;rw[Bool.and_assoc]
  have pr:-2<=qAE e.op:=by unfold qAE;grind
  rw[key]at no yes
  have hnI:(e.k.length:Int)=(e.l.n:Int):=by rw[hn]
  rw[hnI]at no yes
  generalize hkn:(e.l.n:Int)=kn at no yes ⊢
  generalize hpn:qAE e.op=pn at no yes pr ⊢
  generalize hnm:(nmB e.op e.s&&numB e.op e.n)=nm at no yes ⊢
  haveI:Tab (V.set b (cell (.int .i64 (left-1)) t)):=Tab.sub hT (hV.set hb _)
  refine⟨fun h8=>⟨fun h60=>no fun h=>absurd h.2.1 (Int.not_le.2 h60),fun h60=>⟨fun h7=>(c236 (e:=e)).call ⟨nm,by rw[hnm],fun h9=>?_,fun h9=>no ?_⟩,fun h7=>no ?_⟩⟩,fun h8=>no ?_⟩
  · have h7:pn≠-2:=of_decide_eq_true h7
    have h8:0<=left-1:=of_decide_eq_true h8
    rw[if_neg h7]
    have bad:¬((0<=pn->kn=pn)/\(pn=-1->kn<=6))->¬(0<=left-1/\d<=60/\(decide (pn≠-2/\(0<=pn->kn=pn)/\(pn=-1->kn<=6))&&nm)=true):=fun hb h=>by
      have:=h.2.2
      rw[Bool.and_eq_true,decide_eq_true_eq]at this
      exact hb this.1.2
    have good:((0<=pn->kn=pn)/\(pn=-1->kn<=6))->(0<=left-1/\d<=60/\(decide (pn≠-2/\(0<=pn->kn=pn)/\(pn=-1->kn<=6))&&nm)=true):=fun hb=>by
      refine⟨h8,by omega,?_⟩
      rw[Bool.and_eq_true,decide_eq_true_eq]
      exact⟨⟨h7,hb⟩,h9⟩
    refine⟨fun hp=>⟨fun hq=>⟨fun hm=>⟨fun h6=>no (bad (by omega)),fun h6=>yes (good (by omega))⟩,fun hm=>yes (good (by omega))⟩,fun hq=>no (bad (by omega))⟩,fun hp=>⟨fun hm=>⟨fun h6=>no (bad (by omega)),fun h6=>yes (good (by omega))⟩,fun hm=>yes (good (by omega))⟩⟩
  · intro h;have:=h.2.2;rw[Bool.and_eq_true]at this;exact h9 this.2
  · intro h;have:=h.2.2;rw[Bool.and_eq_true,decide_eq_true_eq]at this;exact h7 (decide_eq_true this.1.1)
  · intro h;exact h8 (decide_eq_true h.1)
theorem c143{V:Mem}[Tab V]{e:E}(h:E.Ok V e):PP 143 [e.v] V (.bool (qAJ e)):=by
 refine Pur.mk (x143 ?_)
 unfold w143
 intro b hb
 refine Tri.mono (c195 hb e h _ (Mem.sub_new hb _) 1000 1 mss (by omega) (by omega) (by omega) (by omega)) ?_
 rintro _ _ ⟨rfl,rfl⟩
 rw[validE_v,Mem.set_set]
 exact⟨_,rfl,rfl,Mem.sub_new hb _⟩
def fop:List E->Int | []=>0|e::_=>e.op
def qFj(op:Int)(s:ByteArray)(es:List E)(nl nx:Int):Bool :=
 if op=1 then qAQ s&&decide ((es.length:Int)=1/\nl=0/\nx=0) else if op=2 then qAQ s&&decide ((es.length:Int)=2/\nl=0/\nx=0) else if op=3 then decide (s=qAq []/\(es.length:Int)=1)
 else if op=4 then decide (s=qAq []/\(es.length:Int)=1/\nx=0) else if op=5 then decide (s=qAq []/\(es.length:Int)<=1/\nl=0/\nx=0) else if op=6 then decide (s=qAq []/\(es.length:Int)=1/\fop es=7/\nl=0/\nx=0) else false
def qBO(op:Int)(s:ByteArray)(es:List E)(nl nx:Int):Bool:=qFj op s es nl nx&&es.all qAJ
theorem first_row{V:Mem}{s:S}(h:S.Ok V s):(s.es=[]/\s.el.n=0)∨∃e0 r,s.es=e0::r/\0<s.el.n/\¬(s.el.p=none)/\¬(qAa s.el.p 0=none)/\V.rowp s.el.p 0 4=some [.int .i64 e0.op,.int .i64 e0.n,.string e0.s,.slice e0.l.p e0.l.n e0.l.c]:=by
 have hr:=h.eRows
 have hn:=hr.n_eq
 cases hes:s.es with
 | nil=>exact .inl ⟨rfl,by rw[hn,hes];rfl⟩
 | cons e0 r =>
  have h0:((0:Nat):Int)<(s.el.n:Int):=by rw[hn,hes,List.length_cons];omega
  obtain⟨x,hm,hx,hdr,hl,hp,hz,hrow⟩:=hr.get h0
  rw[hes]at hx
  simp only[List.getElem?_cons_zero,Option.some.injEq]at hx
  subst hx
  refine .inr ⟨e0,r,rfl,by omega,hp,fun e=>?_,?_⟩
  ·cases hq:s.el.p with
   | none=>exact hp hq
   | some a=>rw[hq]at e;cases e
  ·simpa [E.row,vI,vS,Sl.v]using hrow
mutual
def okS(d:Int):S->Bool | .mk op s _ es _ ls _ xs=>decide (d<=60)&&qBO op s es ls.length xs.length&&qFN (d+1) ls&&qFN (d+1) xs
def qFN(d:Int):List S->Bool | []=>true|x::xs=>okS d x&&qFN d xs
end
mutual
def szS:S->Nat | .mk _ _ _ _ _ ls _ xs=>1+qDO ls+qDO xs
def qDO:List S->Nat | []=>0|x::xs=>szS x+qDO xs
end
mutual
def cntS(d acc:Int):S->Int
 | .mk op s _ es _ ls _ xs =>
  if 60<d then 201 else if qBO op s es ls.length xs.length=true then
    if acc+1<=200 then
      if acc+1+qGJ (d+1) 0 ls<=200 then acc+1+qGJ (d+1) 0 ls+qGJ (d+1) 0 xs else acc+1+qGJ (d+1) 0 ls
    else acc+1
  else 201
def qGJ(d acc:Int):List S->Int | []=>acc|x::xs=>if 200<cntS d acc x then cntS d acc x else qGJ d (cntS d acc x) xs
end
def gd{α:Type}(d left:Int)(l:List α)(r:Bool×Int):Bool×Int:=if 60<d/\l≠[] then (false,left) else r
mutual
def vS(left d:Int):S->Bool×Int
 | .mk op s _ es _ ls _ xs =>
  if 0<=left-1/\qBO op s es ls.length xs.length=true then
    if (gd (d+1) (left-1) ls (vSs (left-1) (d+1) ls)).1=true then
      gd (d+1) (gd (d+1) (left-1) ls (vSs (left-1) (d+1) ls)).2 xs (vSs (gd (d+1) (left-1) ls (vSs (left-1) (d+1) ls)).2 (d+1) xs)
    else (false,(gd (d+1) (left-1) ls (vSs (left-1) (d+1) ls)).2)
  else (false,left-1)
def vSs(left d:Int):List S->Bool×Int | []=>(true,left) | x::xs=>if (vS left d x).1=true then vSs (vS left d x).2 d xs else (false,(vS left d x).2)
end
def vSl(left d:Int)(l:List S):Bool×Int:=gd d left l (vSs left d l)
theorem vSs_cons(left d:Int)(x:S)(xs:List S):vSs left d (x::xs)=if (vS left d x).1=true then vSs (vS left d x).2 d xs else (false,(vS left d x).2):=by rw[vSs]
theorem vSs_nil(left d:Int):vSs left d []=(true,left):=by rw[vSs]
theorem vS_eq(left d:Int)(x:S):vS left d x=if 0<=left-1/\qBO x.op x.s x.es x.ls.length x.xs.length=true then (if (vSl (left-1) (d+1) x.ls).1=true then vSl (vSl (left-1) (d+1) x.ls).2 (d+1) x.xs else (false,(vSl (left-1) (d+1) x.ls).2)) else (false,left-1):=by
 cases x;unfold vS;rfl
mutual
theorem cntS_ok:∀(d acc:Int) (e:S),0<=acc->acc<=200->acc+1<=cntS d acc e/\(cntS d acc e<=200↔okS d e=true/\acc+szS e<=200)/\(cntS d acc e<=200->cntS d acc e=acc+szS e)/\cntS d acc e<=201+200*(61-d).toNat
 | d,acc,.mk op s _ es _ ls _ xs,h,h'=>by
  have i1:=qJL (d+1) 0 ls (by omega) (by omega)
  have i2:=qJL (d+1) 0 xs (by omega) (by omega)
  unfold cntS okS szS
  have:60<d∨(61-d).toNat=(61-(d+1)).toNat+1:=by omega
  split
  ·grind
  ·split
   ·split
    ·split <;> grind
    ·grind
   ·grind
theorem qJL:∀(d acc:Int) (k:List S),0<=acc->acc<=200->acc<=qGJ d acc k/\(qGJ d acc k<=200↔qFN d k=true/\acc+qDO k<=200)/\(qGJ d acc k<=200->qGJ d acc k=acc+qDO k)/\qGJ d acc k<=201+200*(61-d).toNat
 | d,acc,[],h,h'=>by simp[qGJ,qFN,qDO];omega
 | d,acc,x::xs,h,h'=>by
  have h1:=cntS_ok d acc x h h'
  have h2:=qJL d (cntS d acc x) xs (by omega)
  unfold qGJ qFN qDO
  split
  ·grind
  ·have h2:=h2 (by omega)
   grind
end
theorem okSs_deep{d:Int}(h:60<d):∀l:List S,l≠[]->qFN d l=false
 | [],hl=>absurd rfl hl
 | .mk _ _ _ _ _ _ _ _::xs,_=>by
  have:¬d<=60:=by omega
  simp[qFN,okS,this]
mutual
theorem vS_ok:∀(left d:Int) (e:S),d<=60->((vS left d e).1=true↔okS d e=true/\(szS e:Int)<=left)/\((vS left d e).1=true->(vS left d e).2=left-szS e)
 | left,d,.mk op s _ es _ ls _ xs,hd=>by
  have i1:=vSs_ok (left-1) (d+1) ls
  have i2:=fun l=>vSs_ok l (d+1) xs
  have d1:=fun h=>okSs_deep (d:=d+1) h ls
  have d2:=fun h=>okSs_deep (d:=d+1) h xs
  unfold vS okS szS gd
  by_cases h0:0<=left-1/\qBO op s es ls.length xs.length=true
  ·rw[if_pos h0]
   by_cases hl:60<d+1/\ls≠[]
   ·have:=d1 hl.1 hl.2
    simp[hl,this]
   ·rw[if_neg hl]
    have i1:=i1 h0.1 hl
    by_cases hx:60<d+1/\xs≠[]
    ·have:=d2 hx.1 hx.2
     simp[hx,this]
    ·simp only[if_neg hx]
     by_cases hv:(vSs (left-1) (d+1) ls).1=true
     ·have e1:=i1.2 hv
      have k1:=i1.1.1 hv
      have i2:=i2 (vSs (left-1) (d+1) ls).2 (by omega) hx
      rw[if_pos hv]
      rw[Bool.and_eq_true,Bool.and_eq_true,Bool.and_eq_true,decide_eq_true_eq]
      refine⟨⟨fun h=>?_,fun h=>?_⟩,fun h=>?_⟩
      ·have:=i2.1.1 h
       exact⟨⟨⟨⟨hd,h0.2⟩,k1.1⟩,this.1⟩,by omega⟩
      ·exact i2.1.2 ⟨h.1.2,by omega⟩
      ·rw[i2.2 h];omega
     ·rw[if_neg hv]
      have:¬(qFN (d+1) ls=true/\(qDO ls:Int)<=left-1):=fun h=>hv (i1.1.2 h)
      refine⟨⟨fun h=>absurd h (by simp),fun h=>?_⟩,fun h=>absurd h (by simp)⟩
      rw[Bool.and_eq_true,Bool.and_eq_true]at h
      exact absurd ⟨h.1.1.2,by omega⟩ this
  ·rw[if_neg h0]
   refine⟨⟨fun h=>absurd h (by simp),fun h=>?_⟩,fun h=>absurd h (by simp)⟩
   rw[Bool.and_eq_true,Bool.and_eq_true,Bool.and_eq_true]at h
   exact absurd ⟨by omega,h.1.1.1.2⟩ h0
theorem vSs_ok:∀(left d:Int) (k:List S),0<=left->¬(60<d/\k≠[])->((vSs left d k).1=true↔qFN d k=true/\(qDO k:Int)<=left)/\((vSs left d k).1=true->(vSs left d k).2=left-qDO k)
 | left,d,[],h,_=>by simp[vSs,qFN,qDO,h]
 | left,d,x::xs,h,hd=>by
  have h1:=vS_ok left d x (by simp at hd;omega)
  have h2:=vSs_ok (vS left d x).2 d xs
  rw[vSs_cons]
  unfold qFN qDO
  split
  ·rename_i hx
   have e:=h1.2 hx
   have k:=h1.1.1 hx
   have h2:=h2 (by omega) (by simp at hd;omega)
   grind
  ·grind
end
def qEK(l:List S):Bool:=decide (qFN 1 l=true/\qDO l<=200)
theorem validSs_v(l:List S):(vSl 200 1 l).1=qEK l:=by
 have:=(vSs_ok 200 1 l (by omega) (by omega)).1
 unfold qEK vSl gd
 rw[if_neg (by omega)]
 grind
theorem S.v_eq(s:S):s.v=.agg #[.int .i64 s.op,.string s.s,.slice s.el.p s.el.n s.el.c,.slice s.ll.p s.ll.n s.ll.c,.slice s.xl.p s.xl.n s.xl.c]:=by unfold S.v;rw[S.row_eq];rfl
theorem S.row_get{V:Mem}{p:Option Addr}{i:Nat}{x:S}(h:V.rowp p i 5=some x.row):V.rowp p i 5=some [.int .i64 x.op,.string x.s,.slice x.el.p x.el.n x.el.c,.slice x.ll.p x.ll.n x.ll.c,.slice x.xl.p x.xl.n x.xl.c]:=by
 rw[h,S.row_eq];rfl
theorem qAe{p:Option Addr}{n:Nat}(h:¬(p=none)):¬(qAa p n=none):=by
 cases p with
 | none=>exact absurd rfl h
 | some a=>intro e;cases e
set_option maxRecDepth 4000 in
theorem c198{V:Mem}[Tab V]{s:S}(h:S.Ok V s):PP 198 [s.v] V (.bool (qFj s.op s.s s.es s.ls.length s.xs.length)):=by
 have hf:=first_row h
 have hnl:=h.lRows.n_eq
 have hnx:=h.xRows.n_eq
 have hne:=h.eRows.n_eq
 rw[S.v_eq]
 refine x198 ?_
 unfold w198
 rw[<- hnl,<- hnx]
 generalize hX:qFj s.op s.s s.es s.ll.n s.xl.n=X
 have key:∀b:Bool,X=b->Ending.returned (.bool b)=Ending.returned (.bool X):=fun n h=>by rw[h]
 unfold qFj at hX
 rw[<- hne]at hX
 have hn0:(0:Int)<=(s.el.n:Int):=by omega
 have hn1:(0:Int)<=(s.ll.n:Int):=by omega
 have hn2:(0:Int)<=(s.xl.n:Int):=by omega
 generalize hne':(s.el.n:Int)=ne at hX hn0
 generalize (s.ll.n:Int)=nl at hX hn1
 generalize (s.xl.n:Int)=nx at hX hn2
 rcases hf with⟨he,hn⟩|⟨e0,r,he,hn,hp,hp2,hrow⟩
 ·have:ne=0:=by omega
  subst this
  clear hnl hnx hne hn
  repeat' (first|refine c101.call ⟨_,rfl,?_⟩|apply And.intro|intro _)
  all_goals first|rfl | (refine key _ ?_;clear key h he;grind) | (exfalso;clear key h he;grind)
 ·have hfo:fop s.es=e0.op:=by rw[he];rfl
  rw[hfo]at hX
  have hn':0<ne:=by omega
  clear hnl hnx hne hn
  repeat' (first|refine c101.call ⟨_,rfl,?_⟩|refine⟨_,_,_,_,hrow,?_⟩|exact hp|exact hp2|exact hn'|apply And.intro|intro _)
  all_goals first|rfl | (refine key _ ?_;clear key h he hrow hp hp2;grind) | (exfalso;clear key h he hrow hp hp2;grind) | omega
theorem c200{V:Mem}[Tab V]{e:E}(h:E.Ok V e):PP 200 [e.v] V (.bool (!qAJ e)):=by
 refine x200 ?_
 unfold w200
 exact(c143 h).call ⟨_,rfl,rfl,rfl⟩
theorem vSl_bound{left d:Int}{l:List S}(h0:0<=left)(h:(vSl left d l).1=true):0<=(vSl left d l).2/\(vSl left d l).2<=left:=by
 unfold vSl gd at h ⊢
 split at h
 ·cases h
 ·rename_i hn
  rw[if_neg hn]
  have:=vSs_ok left d l h0 hn
  grind
theorem vSl_eq{left d:Int}{l:List S}(h:¬(60<d/\l≠[])):vSl left d l=vSs left d l:=by unfold vSl gd;rw[if_neg h]
section
variable{V0:Mem}{b t:Nat}
def StP(V0:Mem)(b t:Nat)(l:List S):Prop:=∀(sl:Sl) (d left:Int) (V:Mem),qAc V0 sl 5 (l.map S.row)->(∀x∈l,S.Ok V0 x)->V0.sub V->V b=some (cell (.int .i64 left) t)->0<=left->left<=200->0<=d->d<=61 ->
 Tri Tryz.prog 147 #[sl.v,.int .i64 d,pv b] V fun r V'=>r=.returned (.bool (vSl left d l).1)/\V'=V.set b (cell (.int .i64 (vSl left d l).2) t)
theorem qIZ[hT:Tab V0](hb:V0 b=none){l:List S}(hk:∀x∈l,StP V0 b t x.ls/\StP V0 b t x.xs):StP V0 b t l:=by
 intro sl d left V hr hok hV hcell hl0 hl1 hd0 hd
 have hn:=hr.n_eq
 refine x147 ?_
 unfold w147
 have hM:∀lf,V0.sub (V.set b (cell (.int .i64 lf) t)):=fun lf=>hV.set hb _
 refine⟨fun h0=>⟨fun h60=>?_,fun h60=>?_⟩,fun h0=>?_⟩
 ·have:vSl left d l=(false,left):=by
   unfold vSl gd
   rw[if_pos ⟨h60,fun e=>by rw[e]at hn;simp at hn;omega⟩]
  rw[this]
  exact⟨rfl,(Mem.set_eq hcell).symm⟩
 all_goals
  have hnd:¬(60<d/\l≠[]):=by
   first
   | exact fun h=>h60 h.1
   | exact fun h=>h.2 (List.eq_nil_of_length_eq_zero (by omega))
  rw[vSl_eq hnd]
  refine qBe l.length (fun i V1=>∃lf,V1=V.set b (cell (.int .i64 lf) t)/\0<=lf/\lf<=200/\vSs left d l=vSs lf d (l.drop i)) ⟨left,(Mem.set_eq hcell).symm,hl0,hl1,rfl⟩ ?_
  rintro i c _ J hi ⟨lf,rfl,hf0,hf1,he⟩ hJ
  refine⟨fun hlt=>?_,fun hge=>?_⟩
  ·obtain⟨x,hm,hx,hdr,hl,hp,hz,hrow⟩:=(hr.sub (hM lf)).get hlt
   have hrow:=S.row_get hrow
   have hox:=hok x hm
   rw[hdr,vSs_cons]at he
   have hv:=vS_eq lf d x
   have cs:=fun V (h0:V0.sub V) (h:S.Ok V x)=>(haveI:Tab V:=Tab.sub hT h0;c198 h)
   rw[S.v_eq]at cs
   have no:∀n,vS lf d x=(false,n)->(Ending.returned (.bool false)=Ending.returned (.bool (vSs left d l).1)/\V.set b (cell (.int .i64 n) t)=V.set b (cell (.int .i64 (vSs left d l).2) t)):=fun n h=>by
    rw[h]at he
    rw[he];exact⟨rfl,rfl⟩
   refine⟨hp,hz,hlt,_,_,_,_,_,hrow,Tri.mono (c197 mss (by omega) (by omega)) ?_⟩
   rintro _ _ ⟨rfl,rfl⟩
   rw[Mem.set_set]
   refine⟨_,rfl,fun h8=>(cs _ (hM _) (hox.sub (hM _))).call ⟨_,rfl,fun hs=>?_,fun hs=>?_⟩,fun h8=>?_⟩
   ·have h8:0<=lf-1:=of_decide_eq_true h8
    refine(c199 (first:=[]) (caps:=[]) (l:=x.el) (hox.eRows.sub (hM _)) Tryz.call200 (fun e=>!qAJ e) (fun e hm=>haveI:Tab (V.set b (cell (.int .i64 (lf-1)) t)):=Tab.sub hT (hM (lf-1));c200 ((hox.eOk e hm).sub (hM _)))).call ⟨_,rfl,fun ha=>?_,fun ha=>?_⟩
    ·have hal:x.es.all qAJ=false:=by
      rw[List.any_eq_not_all_not]at ha
      simpa using ha
     rw[if_neg (fun h=>by have:=h.2;unfold qBO at this;rw[hal,Bool.and_false]at this;cases this)]at hv
     exact no _ hv
    ·have hal:x.es.all qAJ=true:=by
      rw[List.any_eq_not_all_not]at ha
      simpa using ha
     have hsr:qBO x.op x.s x.es x.ls.length x.xs.length=true:=by unfold qBO;rw[hs,hal];rfl
     rw[if_pos ⟨h8,hsr⟩]at hv
     refine⟨⟨by omega,by omega⟩,Tri.mono ((hk x hm).1 x.ll (d+1) (lf-1) _ hox.lRows hox.lOk (hM _) mss h8 (by omega) (by omega) (by omega)) ?_⟩
     rintro _ _ ⟨rfl,rfl⟩
     rw[Mem.set_set]
     refine⟨_,rfl,fun h1=>⟨⟨by omega,by omega⟩,?_⟩,fun h1=>?_⟩
     ·rw[if_pos h1]at hv
      have b1:=vSl_bound h8 h1
      refine Tri.mono ((hk x hm).2 x.xl (d+1) _ _ hox.xRows hox.xOk (hM _) mss b1.1 (by omega) (by omega) (by omega)) ?_
      rintro _ _ ⟨rfl,rfl⟩
      rw[Mem.set_set]
      refine⟨_,rfl,fun h2=>?_,fun h2=>?_⟩
      ·have b2:=vSl_bound b1.1 h2
       rw[hv,if_pos h2]at he
       exact⟨(hr.sub (hM lf)).succ hlt,hJ hl _ _ ⟨_,rfl,b2.1,by omega,he⟩⟩
      ·rw[<- hv]at h2 ⊢
       exact no _ (Prod.ext (eq_false_of_ne_true h2) rfl)
     ·rw[if_neg h1]at hv
      exact no _ hv
   ·rw[if_neg (fun h=>by have:=h.2;unfold qBO at this;rw[eq_false_of_ne_true hs,Bool.false_and]at this;cases this)]at hv
    exact no _ hv
   ·rw[if_neg (fun h=>h8 (decide_eq_true h.1))]at hv
    exact no _ hv
  ·rw[((hr.sub (hM lf)).done hge).1,vSs_nil]at he
   rw[he];exact⟨rfl,rfl⟩
theorem stP_S[hT:Tab V0](hb:V0 b=none):∀s:S,StP V0 b t s.ls/\StP V0 b t s.xs:=by
 intro s
 induction s using S.ind with
 | h s i1 i2=>exact⟨qIZ hb i1,qIZ hb i2⟩
theorem c147[hT:Tab V0](hb:V0 b=none)(l:List S):StP V0 b t l:=qIZ hb fun x _=>stP_S hb x
end
def qDu{α:Type}(p:α->Bool)(xs:List α)(i:Nat):Prop:=∀j x,j<i->xs[j]?=some x->p x=true
theorem qDu.zero{α:Type}(p:α->Bool)(xs:List α):qDu p xs 0:=fun _ _ h=>absurd h (Nat.not_lt_zero _)
theorem qDu.succ{α:Type}{p:α->Bool}{xs:List α}{i:Nat}{x:α}(h:qDu p xs i)(hx:xs[i]?=some x)(hp:p x=true):qDu p xs (i+1):=fun j y hj hy=>by
 rcases Nat.lt_succ_iff_lt_or_eq.1 hj with h'|rfl
 ·exact h j y h' hy
 ·rw[hx]at hy;cases hy;exact hp
theorem qDu.all{α:Type}{p:α->Bool}{xs:List α}{i:Nat}(h:qDu p xs i)(hi:xs.length<=i):xs.all p=true :=
 List.all_eq_true.2 fun x hx=>by
  obtain⟨j,hj,rfl⟩:=List.mem_iff_getElem.1 hx
  exact h j _ (by omega) (List.getElem?_eq_getElem hj)
theorem qHU{α:Type}{p:α->Bool}{xs:List α}{x:α}(h:x∈xs)(hp:¬p x=true):xs.all p=false:=by
 cases h':xs.all p with
 | false=>rfl
 | true=>exact absurd (List.all_eq_true.1 h' x h) hp
def qBb:ByteArray:=qAq [105,110,116]
def qAu:ByteArray:=qAq [98,111,111,108]
def typB(s:ByteArray):Bool:=decide (s=qBb)||decide (s=qAu)||qAQ s
def openB(s:ByteArray):Bool:=decide (s=qAq [])||qAQ s
def fldB(f:Fld):Bool:=qAQ f.name&&typB f.ty
def qDL(l:List Fld)(most:Int):Bool:=decide ((l.length:Int)<=most)&&l.all fldB
def tyB(t:Ty):Bool:=qAQ t.name&&qDL t.fields 12
def prB(p:Pr):Bool:=qAQ p.name&&qDL p.params 6&&qDL p.locals 12&&(decide (p.result=qAq [])||typB p.result)&&qEK p.body
def msB(m:Ms):Bool:=qAQ m.name&&qAQ m.ty&&decide (-1099511627776<=m.nil/\m.nil<=1099511627776)&&qAJ m.x
def ivB(m:Iv):Bool:=qAQ m.name&&openB m.ty&&qAJ m.x
def poB(m:Po):Bool:=openB m.ty&&qAJ m.x
def bdB(m:Bd):Bool:=qAQ m.proc&&qAJ m.x
def formB(d:Ds):Bool:=d.measures.all msB&&d.invs.all ivB&&d.pots.all poB&&d.bounds.all bdB
def lensB(d:Ds):Bool:=decide ((d.measures.length:Int)<=12/\(d.invs.length:Int)<=12/\(d.pots.length:Int)<=12/\(d.bounds.length:Int)<=12)
def qAH(d:Ds):Bool:=qAQ d.name&&decide ((d.types.length:Int)<=12)&&qDL d.globals 8&&decide ((d.procs.length:Int)<=40)&&lensB d&&d.types.all tyB&&d.procs.all prB&&formB d
theorem c142{V:Mem}[Tab V]{s:ByteArray}:PP 142 [.string s] V (.bool (typB s)):=by
 refine x142 ?_
 unfold w142
 refine⟨fun h=>?_,fun h=>⟨fun h1=>?_,fun h1=>c101.call ⟨_,rfl,?_⟩⟩⟩ <;> simp[typB,qBb,qAu, *]
theorem c144{V:Mem}[Tab V]{s:ByteArray}:PP 144 [.string s] V (.bool (openB s)):=by
 refine x144 ?_
 unfold w144
 refine⟨fun h=>?_,fun h=>c101.call ⟨_,rfl,?_⟩⟩ <;> simp[openB, *]
theorem c141{V:Mem}[Tab V]{f:Fld}:PP 141 [f.v] V (.bool (!fldB f)):=by
 refine x141 ?_
 unfold w141
 refine c101.call ⟨_,rfl,fun h=>c142.call ⟨_,rfl,?_⟩,fun h=>?_⟩ <;> simp[fldB, *]
theorem c102{V:Mem}[Tab V]{l:Sl}{xs:List Fld}{n:Int}(hr:qAc V l 2 (xs.map Fld.row)):PP 102 [l.v,.int .i64 n] V (.bool (qDL xs n)):=by
 refine x102 ?_
 unfold w102
 have hn:=hr.n_eq
 refine⟨fun h=>(c75 (first:=[]) (caps:=[]) hr Tryz.call141 (fun f=>!fldB f) fun f _=>c141).call ⟨_,rfl,?_⟩,fun h=>?_⟩
 ·have hle:(xs.length:Int)<=n:=by omega
  rw[List.any_eq_not_all_not]
  simp[qDL,hle]
 ·have:¬((xs.length:Int)<=n):=by omega
  simp[qDL,this]
theorem c107{V:Mem}[Tab V]{p:Pr}(h:Pr.Ok V p):PP 107 [p.v] V (.bool (prB p)):=by
  refine Pur.mk (x107 ?_)
  unfold w107
  have cs:(qEK p.body=prB p)->qAC [(.int .i64 200)] 230 V fun v9 V5 =>
       Tri Tryz.prog 147 #[(.slice p.bs.p p.bs.n p.bs.c),(.int .i64 1),(.pointer (qAa v9 0))] V5 fun e V6=>∃v10:Bool,e=.returned (.bool v10)/\(Ending.returned (.bool v10)=Ending.returned (.bool (prB p))/\V.sub V6):=fun e b hb=>by
    refine Tri.mono (c147 hb p.body p.bs 1 200 _ h.body h.stmts (Mem.sub_new hb _) mss (by omega) (by omega) (by omega) (by omega)) ?_
    rintro _ _ ⟨rfl,rfl⟩
    rw[validSs_v,Mem.set_set,e]
    exact⟨_,rfl,rfl,Mem.sub_new hb _⟩
  refine c101.call ⟨_,rfl,fun h1=>(c102 h.params).call ⟨_,rfl,fun h2=>(c102 h.locals).call ⟨_,rfl,fun h3=>⟨fun h4=>cs ?_,fun h4=>c142.call ⟨_,rfl,fun h5=>cs ?_,fun h5=>⟨?_,Mem.sub.refl _⟩⟩⟩,fun h3=>⟨?_,Mem.sub.refl _⟩⟩,fun h2=>⟨?_,Mem.sub.refl _⟩⟩,fun h1=>⟨?_,Mem.sub.refl _⟩⟩
  all_goals simp[prB, *]
theorem c146{V:Mem}[Tab V]{b:Bd}(h:E.Ok V b.x):PP 146 [b.v] V (.bool (!bdB b)):=by
 refine x146 ?_
 unfold w146
 refine c101.call ⟨_,rfl,fun h1=>(c143 h).call ⟨_,rfl,?_⟩,fun h1=>?_⟩ <;> simp[bdB, *]
theorem c104{V:Mem}[Tab V]{t:Ty}(h:Ty.Ok V t):PP 104 [t.v] V (.bool (!tyB t)):=by
 refine x104 ?_
 unfold w104
 refine c101.call ⟨_,rfl,fun h1=>(c102 h.fields).call ⟨_,rfl,?_⟩,fun h1=>?_⟩ <;> simp[tyB, *]
theorem c106{V:Mem}[Tab V]{t:Pr}(h:Pr.Ok V t):PP 106 [t.v] V (.bool (!prB t)):=by
 refine x106 ?_
 unfold w106
 exact(c107 h).call ⟨_,rfl,rfl,rfl⟩
theorem GenK.max4{P:Program}{V:Mem}{a b c d:Operand}{ty:Nat}{ts:Array TypeId}{vals:Operand->Value}{n1 n2 n3 n4:Int}(h1:vals a=.int .i64 n1)(h2:vals b=.int .i64 n2)(h3:vals c=.int .i64 n3)(h4:vals d=.int .i64 n4){q:Value->Mem->Prop}
  (hq:∀m:Int,n1<=m->n2<=m->n3<=m->n4<=m->(m=n1∨m=n2∨m=n3∨m=n4)->q (.int .i64 m) V):GenK P (.call { callee:=.builtin .max,args:=#[a,b,c,d],argTypes:=ts }) ty vals V q:=by
 intro w hw
 refine⟨_,w,V,?_,Frm.refl hw,hq (max (max (max n1 n2) n3) n4) (by omega) (by omega) (by omega) (by omega) (by omega)⟩
 unfold execOp
 have e:∀x y:Int,(if y > x then y else x)=max x y:=fun x y=>by split <;> omega
 simp only[resolve,invoke,builtin,Sem.run_bind,Sem.run_pure,Result.andThen_ok,List.map_toArray,List.map_cons,List.map_nil,h1,h2,h3,h4]
 simp[Builtin.max_,Builtin.max2,e]
theorem c103{V:Mem}[Tab V]{d:Ds}(h:Ds.Ok V d):PP 103 [d.v] V (.bool (lensB d&&formB d)):=by
 refine x103 ?_
 unfold w103
 have n1:=h.measures.n_eq
 have n2:=h.invs.n_eq
 have n3:=h.pots.n_eq
 have n4:=h.bounds.n_eq
 generalize hX:(lensB d&&formB d)=X
 have key:∀b:Bool,X=b->(Ending.returned (.bool b)=Ending.returned (.bool X)/\V=V):=fun n h=>by rw[h];exact⟨rfl,rfl⟩
 unfold formB lensB at hX
 refine GenK.max4 (n1:=d.ms.n) (n2:=d.is.n) (n3:=d.qs.n) (n4:=d.bs.n) rfl rfl rfl rfl fun mx l1 l2 l3 l4 le=>⟨_,rfl,fun hb=>key _ ?_,fun hb=>?_⟩
 ·rw[<- hX,decide_eq_false (by omega)];rfl
 rw[decide_eq_true (by omega),Bool.true_and]at hX
 refine qBe d.measures.length (fun i V1=>V=V1/\qDu msB d.measures i) ⟨rfl,qDu.zero _ _⟩ ?_
 rintro i b V1 J hi ⟨rfl,ha⟩ hJ
 refine⟨fun hlt=>?_,fun hge=>?_⟩
 ·obtain⟨x,hm,hx,hdr,hl,hp,hz,hrow⟩:=h.measures.get hlt
  have no:msB x=false->X=false:=fun h=>by rw[<- hX,qHU hm (by rw[h];simp)];rfl
  refine⟨hp,hz,hlt,_,_,_,_,_,_,_,hrow,c101.call ⟨_,rfl,fun h1=>c101.call ⟨_,rfl,fun h2=>⟨fun h3=>key _ (no ?_),fun h3=>⟨fun h4=>key _ (no ?_),fun h4=>(c143 (h.measuresOk x hm).x).call ⟨_,rfl,fun h5=>⟨h.measures.succ hlt,hJ hl _ _ ⟨rfl,ha.succ hx ?_⟩⟩,fun h5=>key _ (no ?_)⟩⟩⟩,fun h2=>key _ (no ?_)⟩,fun h1=>key _ (no ?_)⟩⟩
  ·have:¬(-1099511627776<=x.nil/\x.nil<=1099511627776):=by omega
   simp[msB, *]
  ·have:¬(-1099511627776<=x.nil/\x.nil<=1099511627776):=by omega
   simp[msB, *]
  ·have:(-1099511627776<=x.nil/\x.nil<=1099511627776):=by omega
   simp[msB, *]
  all_goals simp[msB, *]
 have a1:=ha.all (h.measures.done hge).2
 refine qBe d.invs.length (fun i V1=>V=V1/\qDu ivB d.invs i) ⟨rfl,qDu.zero _ _⟩ ?_
 rintro i b V1 J hi ⟨rfl,ha⟩ hJ
 refine⟨fun hlt=>?_,fun hge=>?_⟩
 ·obtain⟨x,hm,hx,hdr,hl,hp,hz,hrow⟩:=h.invs.get hlt
  have no:ivB x=false->X=false:=fun h=>by rw[<- hX,qHU hm (by rw[h];simp)];simp
  refine⟨hp,hz,hlt,_,_,_,_,_,_,hrow,c101.call ⟨_,rfl,fun h1=>c144.call ⟨_,rfl,fun h2=>(c143 (h.invsOk x hm)).call ⟨_,rfl,fun h5=>⟨h.invs.succ hlt,hJ hl _ _ ⟨rfl,ha.succ hx ?_⟩⟩,fun h5=>key _ (no ?_)⟩,fun h2=>key _ (no ?_)⟩,fun h1=>key _ (no ?_)⟩⟩
  all_goals simp[ivB, *]
 have a2:=ha.all (h.invs.done hge).2
 refine qBe d.pots.length (fun i V1=>V=V1/\qDu poB d.pots i) ⟨rfl,qDu.zero _ _⟩ ?_
 rintro i b V1 J hi ⟨rfl,ha⟩ hJ
 refine⟨fun hlt=>?_,fun hge=>?_⟩
 ·obtain⟨x,hm,hx,hdr,hl,hp,hz,hrow⟩:=h.pots.get hlt
  have no:poB x=false->X=false:=fun h=>by rw[<- hX,qHU (p:=poB) hm (by rw[h];simp)];simp
  refine⟨hp,hz,hlt,_,_,_,_,_,hrow,c144.call ⟨_,rfl,fun h2=>(c143 (h.potsOk x hm)).call ⟨_,rfl,fun h5=>⟨h.pots.succ hlt,hJ hl _ _ ⟨rfl,ha.succ hx ?_⟩⟩,fun h5=>key _ (no ?_)⟩,fun h2=>key _ (no ?_)⟩⟩
  all_goals simp[poB, *]
 have a3:=ha.all (h.pots.done hge).2
 refine(c145 (first:=[]) (caps:=[]) h.bounds Tryz.call146 (fun f=>!bdB f) fun f hm=>c146 (h.boundsOk f hm)).call ⟨_,rfl,key _ ?_⟩
 rw[<- hX,a1,a2,a3,List.any_eq_not_all_not]
 simp
theorem c73{V:Mem}[Tab V]{d:Ds}(h:Ds.Ok V d):PP 73 [d.v] V (.bool (qAH d)):=by
 refine x73 ?_
 unfold w73
 have n5:=h.types.n_eq
 have n6:=h.procs.n_eq
 generalize hX:qAH d=X
 have key:∀b:Bool,X=b->(Ending.returned (.bool b)=Ending.returned (.bool X)/\V=V):=fun n h=>by rw[h];exact⟨rfl,rfl⟩
 unfold qAH at hX
 refine c101.call ⟨_,rfl,fun h1=>⟨fun h2=>key _ ?_,fun h2=>(c102 h.globals).call ⟨_,rfl,fun h3=>⟨fun h4=>key _ ?_,fun h4=>(c103 h).call ⟨_,rfl,fun h5=>(c79 (first:=[]) (caps:=[]) h.types Tryz.call104 (fun f=>!tyB f) fun f hm=>c104 (h.typesOk f hm)).call ⟨_,rfl,fun h6=>key _ ?_,fun h6 =>
   (c105 (first:=[]) (caps:=[]) h.procs Tryz.call106 (fun f=>!prB f) fun f hm=>c106 (h.procsOk f hm)).call ⟨_,rfl,key _ ?_⟩⟩,fun h5=>key _ ?_⟩⟩,fun h3=>key _ ?_⟩⟩,fun h1=>key _ ?_⟩
 ·rw[<- hX,decide_eq_false (by omega)];simp
 ·rw[<- hX,decide_eq_false (p:=(d.procs.length:Int)<=40) (by omega)];simp
 ·rw[List.any_eq_not_all_not]at h6
  have:d.types.all tyB=false:=by simpa using h6
  rw[<- hX,this];simp
 ·rw[List.any_eq_not_all_not]at h6 ⊢
  have:d.types.all tyB=true:=by simpa using h6
  rw[Bool.and_eq_true]at h5
  rw[<- hX,h1,decide_eq_true (p:=(d.types.length:Int)<=12) (by omega),h3,decide_eq_true (p:=(d.procs.length:Int)<=40) (by omega),h5.1,h5.2,this]
  simp
 ·have:(lensB d&&formB d)=false:=eq_false_of_ne_true h5
  rw[<- hX]
  cases hl:lensB d with
  | false=>simp
  | true=>rw[hl,Bool.true_and]at this;rw[this];simp
 ·rw[<- hX,eq_false_of_ne_true h3];simp
 ·rw[<- hX,eq_false_of_ne_true h1];simp
end Go.Proofs
namespace Go.Proofs
open Go Go.Sx
def sNil:ByteArray:=qAq [110,105,108]
def sE:ByteArray:=qAq []
def qBg(d:Ds)(s:ByteArray):Bool:=d.types.any fun t=>decide (t.name=s)
def qBn(d:Ds)(s:ByteArray):Bool:=decide (s=qBb)||decide (s=qAu)||qBg d s
def qDJ(d:Ds)(a b:ByteArray):Bool:=decide (a=b)||(decide (a=sNil)&&qBg d b)
def qCr:List Fld->ByteArray->ByteArray
 | [],_=>sE
 | f::l,s=>if f.name=s then f.ty else qCr l s
def qIm(d:Ds)(s:ByteArray):Option Ty:=d.types.find? fun t=>decide (t.name=s)
def qHp(d:Ds)(s:ByteArray):Option Pr:=d.procs.find? fun t=>decide (t.name=s)
def meOf(d:Ds)(s:ByteArray):Option Ms:=d.measures.find? fun t=>decide (t.name=s)
def qBV(d:Ds)(t name:ByteArray):ByteArray×Int :=
 match qIm d t with
 | none=>(sE,11)
 | some ty=>if qCr ty.fields name=sE then (sE,9) else (qCr ty.fields name,0)
def qCt(d:Ds):List ByteArray->List Fld->Bool
 | a::l,f::fs=>qDJ d a f.ty&&qCt d l fs
 | _,_=>true
def qGi(d:Ds)(name:ByteArray)(l:List ByteArray):ByteArray×Int :=
 match qHp d name with
 | none=>(sE,9)
 | some p=>if l.length≠p.params.length then (sE,3) else if qCt d l p.params=true then (p.result,0) else (sE,11)
def qFr(ok:Bool)(t:ByteArray):ByteArray×Int:=if ok=true then (t,0) else (sE,11)
structure Sc where
 vars:List Fld
 body:Bool
def qJp(d:Ds)(name:ByteArray)(l:List ByteArray):ByteArray×Int :=
 match meOf d name with
 | none=>(sE,9)
 | some m=>if l.length≠1 then (sE,3) else qFr (qDJ d (l.getD 0 sE) m.ty) qBb
def callE(d:Ds)(sc:Sc)(name:ByteArray)(l:List ByteArray):ByteArray×Int :=
 if sc.body=true then (if (qGi d name l).2=0/\(qGi d name l).1=sE then (sE,11) else qGi d name l) else qJp d name l
def allT(l:List ByteArray)(t:ByteArray):Bool:=l.all fun x=>decide (x=t)
def qGc(d:Ds)(sc:Sc)(op:Int)(s:ByteArray)(l:List ByteArray):ByteArray×Int :=
 if op=1 then (qBb,0) else if op=2 then (qAu,0) else if op=3 then (sNil,0)
 else if op=4 then (if qCr sc.vars s=sE then (sE,9) else (qCr sc.vars s,0))
 else if op=5 then qBV d (l.getD 0 sE) s
 else if op=6 then (if sc.body=false then (sE,13) else if qBg d s=false then (sE,9) else (s,0))
 else if op=7 then callE d sc s l
 else if op=14∨op=15 then qFr (qDJ d (l.getD 0 sE) (l.getD 1 sE)||qDJ d (l.getD 1 sE) (l.getD 0 sE)) qAu
 else if op=16∨op=17 then qFr (allT l qBb) qAu
 else if op=18∨op=19∨op=20 then qFr (allT l qAu) qAu
 else if op=21 then qFr (decide (l.getD 0 sE=qAu)&&(qDJ d (l.getD 1 sE) (l.getD 2 sE)||qDJ d (l.getD 2 sE) (l.getD 1 sE))) (if l.getD 1 sE=sNil then l.getD 2 sE else l.getD 1 sE)
 else qFr (allT l qBb) qBb
mutual
def qAl(d:Ds)(sc:Sc):E->ByteArray×Int
 | .mk op _ s _ k=>if (partsT d sc [] k).2≠0 then (sE,(partsT d sc [] k).2) else qGc d sc op s (partsT d sc [] k).1
def partsT(d:Ds)(sc:Sc)(acc:List ByteArray):List E->List ByteArray×Int
 | []=>(acc,0)
 | x::xs=>if (qAl d sc x).2≠0 then ([],(qAl d sc x).2) else partsT d sc (acc++[(qAl d sc x).1]) xs
end
theorem qJF(d:Ds)(sc:Sc)(e:E):qAl d sc e=if (partsT d sc [] e.k).2≠0 then (sE,(partsT d sc [] e.k).2) else qGc d sc e.op e.s (partsT d sc [] e.k).1:=by
 cases e;unfold qAl;rfl
theorem qCJ(d:Ds)(sc:Sc)(acc:List ByteArray)(x:E)(xs:List E):partsT d sc acc (x::xs)=if (qAl d sc x).2≠0 then ([],(qAl d sc x).2) else partsT d sc (acc++[(qAl d sc x).1]) xs:=by rw[partsT]
theorem qDl(d:Ds)(sc:Sc)(acc:List ByteArray):partsT d sc acc []=(acc,0):=by rw[partsT]
theorem qIz(d:Ds)(sc:Sc):∀(k:List E) (acc:List ByteArray),(partsT d sc acc k).2=0->(partsT d sc acc k).1.length=acc.length+k.length
 | [],acc,_=>by rw[qDl];rfl
 | x::xs,acc,h=>by
  rw[qCJ]at h ⊢
  split at h
  ·rename_i h';exact absurd h h'
  ·rename_i h'
   rw[if_neg h',qIz d sc xs _ h,List.length_append,List.length_cons,List.length_cons,List.length_nil]
   omega
def qAh(d:Ds)(p:Pr):Sc:=⟨p.params++p.locals++d.globals,true⟩
def sThisF:ByteArray:=qAq [116,104,105,115]
def qAM(d:Ds)(t:ByteArray):Sc:=⟨(if t=sE then [] else [⟨sThisF,t⟩])++d.globals,false⟩
def qCz(d:Ds)(p:Pr):Sc:=⟨p.params++d.globals,false⟩
def qFh(d:Ds)(sc:Sc)(result:ByteArray)(op:Int)(s:ByteArray)(es:List E):Int :=
 if op=6 then
  match es with
  | []=>0
  | e::_=>if (partsT d sc [] e.k).2≠0 then (partsT d sc [] e.k).2 else (qGi d e.s (partsT d sc [] e.k).1).2
 else if (partsT d sc [] es).2≠0 then (partsT d sc [] es).2
 else if op=1 then (if qCr sc.vars s=sE then 9 else if qDJ d ((partsT d sc [] es).1.getD 0 sE) (qCr sc.vars s)=true then 0 else 11)
 else if op=2 then (if (qBV d ((partsT d sc [] es).1.getD 0 sE) s).2≠0 then (qBV d ((partsT d sc [] es).1.getD 0 sE) s).2 else if qDJ d ((partsT d sc [] es).1.getD 1 sE) (qBV d ((partsT d sc [] es).1.getD 0 sE) s).1=true then 0 else 11)
 else if op=3∨op=4 then (if (partsT d sc [] es).1.getD 0 sE=qAu then 0 else 11)
 else if op=5 then (if (partsT d sc [] es).1.length=0 then (if result=sE then 0 else 11) else if result≠sE/\qDJ d ((partsT d sc [] es).1.getD 0 sE) result=true then 0 else 11)
 else 0
mutual
def stT(d:Ds)(sc:Sc)(result:ByteArray)(n:Int):S->Int×Int
 | .mk op s _ es _ ls _ xs =>
  if qFh d sc result op s es≠0 then (n,qFh d sc result op s es)
  else if (qBN d sc result (n+1) ls).2≠0 then qBN d sc result (n+1) ls
  else qBN d sc result (qBN d sc result (n+1) ls).1 xs
def qBN(d:Ds)(sc:Sc)(result:ByteArray)(n:Int):List S->Int×Int
 | []=>(n,0)
 | x::xs=>if (stT d sc result n x).2≠0 then stT d sc result n x else qBN d sc result (stT d sc result n x).1 xs
end
theorem stT_eq(d:Ds)(sc:Sc)(result:ByteArray)(n:Int)(x:S):stT d sc result n x=if qFh d sc result x.op x.s x.es≠0 then (n,qFh d sc result x.op x.s x.es) else if (qBN d sc result (n+1) x.ls).2≠0 then qBN d sc result (n+1) x.ls else qBN d sc result (qBN d sc result (n+1) x.ls).1 x.xs:=by
 cases x;unfold stT;rfl
theorem qHe(d:Ds)(sc:Sc)(result:ByteArray)(n:Int)(x:S)(xs:List S):qBN d sc result n (x::xs)=if (stT d sc result n x).2≠0 then stT d sc result n x else qBN d sc result (stT d sc result n x).1 xs:=by rw[qBN]
theorem stsT_nil(d:Ds)(sc:Sc)(result:ByteArray)(n:Int):qBN d sc result n []=(n,0):=by rw[qBN]
def qFM(d:Ds)(l:List Fld)(i:Nat)(f:Fld):Int:=if (l.take i).any (fun g=>decide (g.name=f.name))=true then 10 else if qBn d f.ty=true then 0 else 9
def qAi{α β:Type}(f:Nat->α->Option β):Nat->List α->Option β
 | _,[]=>none
 | i,x::xs=>match f i x with|some b=>some b|none=>qAi f (i+1) xs
def qDf(d:Ds)(l:List Fld):Int:=(qAi (fun i f=>if qFM d l i f≠0 then some (qFM d l i f) else none) 0 l).getD 0
abbrev Flt:=ByteArray×Int×Int
def types1(d:Ds):Option Flt:=qAi (fun i t=>if (d.types.take i).any (fun g=>decide (g.name=t.name))=true then some (t.name,-1,10) else none) 0 d.types
def types2(d:Ds):Option Flt:=qAi (fun _ t=>if qDf d t.fields≠0 then some (t.name,-1,qDf d t.fields) else none) 0 d.types
def types3(d:Ds):Option Flt:=qAi (fun i f=>if qFM d d.globals i f≠0 then some (f.name,-1,qFM d d.globals i f) else none) 0 d.globals
def qGn(d:Ds):Option Flt:=(types1 d).or ((types2 d).or (types3 d))
def qEF(d:Ds):Option Flt:=qAi (fun i p=>if (d.procs.take i).any (fun g=>decide (g.name=p.name))=true then some (p.name,-1,10) else if qDf d (p.params++p.locals)≠0 then some (p.name,-1,qDf d (p.params++p.locals)) else if p.result≠sE/\qBn d p.result=false then some (p.name,-1,9) else none) 0 d.procs
def form1(d:Ds):Option Flt:=qAi (fun i m=>if (d.measures.take i).any (fun g=>decide (g.name=m.name))=true then some (m.name,-1,10) else if qBg d m.ty=false then some (m.name,-1,9) else none) 0 d.measures
def form2(d:Ds):Option Flt:=qAi (fun i m=>if (d.invs.take i).any (fun g=>decide (g.name=m.name))=true then some (m.name,-1,10) else if m.ty≠sE/\qBg d m.ty=false then some (m.name,-1,9) else none) 0 d.invs
def sPot:ByteArray:=qAq [112,111,116,101,110,116,105,97,108]
def form3(d:Ds):Option Flt:=qAi (fun _ m=>if m.ty≠sE/\qBg d m.ty=false then some (sPot,-1,9) else none) 0 d.pots
def form4(d:Ds):Option Flt:=qAi (fun i b=>if (qHp d b.proc).isNone=true then some (b.proc,-1,9) else if (d.bounds.take i).any (fun g=>decide (g.proc=b.proc))=true then some (b.proc,-1,10) else none) 0 d.bounds
def qER(d:Ds):Option Flt:=(form1 d).or ((form2 d).or ((form3 d).or (form4 d)))
def qCs(d:Ds):Option Flt:=qAi (fun _ p=>if (qBN d (qAh d p) p.result 0 p.body).2≠0 then some (p.name,(qBN d (qAh d p) p.result 0 p.body).1,(qBN d (qAh d p) p.result 0 p.body).2) else none) 0 d.procs
def qBW(d:Ds)(sc:Sc)(e:E)(t:ByteArray):Int:=if (qAl d sc e).2≠0 then (qAl d sc e).2 else if (qAl d sc e).1=t then 0 else 11
def exp1(d:Ds):Option Flt:=qAi (fun _ m=>if qBW d (qAM d m.ty) m.x qBb≠0 then some (m.name,-1,qBW d (qAM d m.ty) m.x qBb) else none) 0 d.measures
def exp2(d:Ds):Option Flt:=qAi (fun _ m=>if qBW d (qAM d m.ty) m.x qAu≠0 then some (m.name,-1,qBW d (qAM d m.ty) m.x qAu) else none) 0 d.invs
def exp3(d:Ds):Option Flt:=qAi (fun _ m=>if qBW d (qAM d m.ty) m.x qBb≠0 then some (sPot,-1,qBW d (qAM d m.ty) m.x qBb) else none) 0 d.pots
def prD:Pr:=⟨sE,⟨none,0,0⟩,[],sE,⟨none,0,0⟩,[],⟨none,0,0⟩,[]⟩
def exp4(d:Ds):Option Flt:=qAi (fun _ m=>if qBW d (qCz d ((qHp d m.proc).getD prD)) m.x qBb≠0 then some (m.proc,-1,qBW d (qCz d ((qHp d m.proc).getD prD)) m.x qBb) else none) 0 d.bounds
def qHJ(d:Ds):Option Flt:=(exp1 d).or ((exp2 d).or ((exp3 d).or (exp4 d)))
def qHQ(d:Ds):Option Flt:=(qGn d).or ((qEF d).or ((qER d).or ((qCs d).or (qHJ d))))
def fltR(o:Option Flt):Flt:=o.getD (sE,0,0)
end Go.Proofs
namespace Go.Proofs
open Go Go.Sx
attribute [local irreducible] Go.Sx.Tri
noncomputable def ti(t:Nat):TypeInfo:=(Tryz.prog.info? t).getD default
section
variable{α:Type}
def AppP(t e sz:Nat)(row:α->List Value):Prop:=∀{V0 V:Mem} {ty:Nat} {x y:Operand} {vals:Operand->Value} {s u:Sl} {xs ys:List α} (hx:vals x=.slice s.p s.n s.c) (hy:vals y=.slice u.p u.n u.c) (own:Sx.Own V0 V e sz s (xs.flatMap row)) (hnew:qAc V u sz (ys.map row))
 (hfit:xs.length+ys.length<=2147483648) {q:Value->Mem->Prop} (hq:∀s' V',Sx.Own V0 V' e sz s' ((xs++ys).flatMap row)->q (.slice s'.p s'.n s'.c) V'),
 GenK Tryz.prog (.call { callee:=.builtin .append,args:=#[x,y],argTypes:=#[t,t] }) ty vals V q
theorem appG{t e sz:Nat}{row:α->List Value}(ht:Tryz.prog.underlying t=some (.slice e))(hi:Tryz.prog.info? e=some (ti e))(hz:(ti e).zero=some ((ti e).zero.getD undef))(h1:(ti e).size=sz)(h2:((ti e).zero.getD undef).cells.size=sz)(h3:decide ((ti e).bytes<=65536)=true)
  (h0:0<sz) (hr:∀x,(row x).length=sz) (hu:∀x,∀u∈row x,u.oneCell'=true):AppP t e sz row:=by
 intro V0 V ty x y vals s u xs ys hx hy own hnew hfit q hq
 exact GenK.appendS ht hi hz h1 h2 h0 (of_decide_eq_true h3) hx hy own hr hnew hu hfit hq
end
theorem app232:AppP 232 9 1 qBD:=appG Tryz.underlying232 (by kernel_rfl) (by kernel_rfl) (by kernel_rfl) (by kernel_rfl) (by kernel_rfl) (by decide) (by intro _;rfl) fun x u hu=>by simp[qBD,vS]at hu;rw[hu];rfl
theorem app23:AppP 23 113 2 Fld.row:=appG Tryz.underlying23 (by kernel_rfl) (by kernel_rfl) (by kernel_rfl) (by kernel_rfl) (by kernel_rfl) (by decide) (by intro _;rfl) fun x u hu=>by simp[Fld.row,vS]at hu;rcases hu with rfl|rfl <;> rfl
def idxI{α:Type}(p:α->Bool)(xs:List α):Int:=match xs.findIdx? p with|some i=>(i:Int) | none=>-1
theorem idxI_found{α:Type}{p:α->Bool}{xs:List α}{i:Nat}{x:α}(h:qDu (fun y=>!p y) xs i)(hx:xs[i]?=some x)(hp:p x=true):idxI p xs=i:=by
 have hl:=(List.getElem?_eq_some_iff.1 hx).1
 have hg:=(List.getElem?_eq_some_iff.1 hx).2
 have:xs.findIdx? p=some i:=List.findIdx?_eq_some_iff_getElem.2 ⟨hl,by rw[hg];exact hp,fun j hj=>by
  have:=h j _ hj (List.getElem?_eq_getElem (Nat.lt_trans hj hl))
  simpa using this⟩
 unfold idxI;rw[this]
theorem idxI_none{α:Type}{p:α->Bool}{xs:List α}{i:Nat}(h:qDu (fun y=>!p y) xs i)(hi:xs.length<=i):idxI p xs=-1:=by
 have:xs.findIdx? p=none:=List.findIdx?_eq_none_iff.2 fun x hx=>by
  obtain⟨j,hj,rfl⟩:=List.mem_iff_getElem.1 hx
  have:=h j _ (by omega) (List.getElem?_eq_getElem hj)
  simpa using this
 unfold idxI;rw[this]
theorem qBq{α:Type}(p:α->Bool)(xs:List α):(idxI p xs=-1/\xs.find? p=none/\xs.any p=false)∨∃(i:Nat) (x:α),idxI p xs=i/\xs[i]?=some x/\xs.find? p=some x/\i<xs.length/\p x=true/\x∈xs/\xs.any p=true/\(xs.take i).any p=false:=by
 cases h:xs.findIdx? p with
 | none =>
  have h':=List.findIdx?_eq_none_iff.1 h
  refine .inl ⟨by unfold idxI;rw[h],List.find?_eq_none.2 fun x hx=>by rw[h' x hx];simp,List.any_eq_false.2 fun x hx=>by rw[h' x hx];simp⟩
 | some i =>
  obtain⟨hl,hp,hn⟩:=List.findIdx?_eq_some_iff_getElem.1 h
  refine .inr ⟨i,xs[i],by unfold idxI;rw[h],List.getElem?_eq_getElem hl,?_,hl,hp,List.getElem_mem _,List.any_eq_true.2 ⟨_,List.getElem_mem _,hp⟩,?_⟩
  ·rw[List.find?_eq_some_iff_getElem]
   exact⟨hp,i,hl,rfl,fun j hj=>by simpa using hn j hj⟩
  ·rw[List.any_eq_false]
   intro x hx
   obtain⟨j,hj,rfl⟩:=List.mem_iff_getElem.1 hx
   rw[List.length_take]at hj
   rw[List.getElem_take]
   exact hn j (by omega)
theorem notAll_succ{α:Type}{p:α->Bool}{xs:List α}{i:Nat}{x:α}(h:qDu (fun y=>!p y) xs i)(hx:xs[i]?=some x)(hp:p x=false):qDu (fun y=>!p y) xs (i+1):=h.succ hx (by simp[hp])
section
variable{V:Mem}{d:Ds}
theorem fitAll_nil(fs:List Fld):qCt d [] fs=true:=by simp[qCt]
theorem qIo{l:Sl}{xs:List ByteArray}(hl:qAc V l 1 (xs.map qBD)){i:Nat}(hi:i<xs.length):¬(l.p=none)/\(i:Int)<(l.n:Int)/\V.rowp l.p i 1=some [.string (xs.getD i sE)]:=by
 have hn:=hl.n_eq
 have hlt:(i:Int)<(l.n:Int):=by omega
 obtain⟨y,hm',hx',hdr',hl',hp',hz',hrow'⟩:=hl.get hlt
 rw[List.getD_eq_getElem?_getD,hx']
 rw[Nat.mul_one]at hrow'
 exact⟨hp',hlt,hrow'⟩
end
theorem arity{op n:Int}{s:ByteArray}{len:Int}(h:qDY op n s len=true):(op=5->len=1)/\(op=14∨op=15->len=2)/\(op=21->len=3)/\len<=6:=by
 unfold qDY qAE at h
 rw[Bool.and_eq_true,Bool.and_eq_true,decide_eq_true_eq]at h
 obtain⟨⟨h,-⟩,-⟩:=h
 grind
theorem qJm{d:Int}{e:E}(h:okE d e=true):qDY e.op e.n e.s e.k.length=true:=by
 cases e
 unfold okE at h
 rw[Bool.and_eq_true,Bool.and_eq_true]at h
 exact h.1.2
theorem okEs_mem{d:Int}:∀{l:List E},okEs d l=true->∀x∈l,okE d x=true
 | [],_,x,hx=>absurd hx List.not_mem_nil
 | y::l,h,x,hx=>by
  unfold okEs at h
  rw[Bool.and_eq_true]at h
  rcases List.mem_cons.1 hx with rfl|hx
  ·exact h.1
  ·exact okEs_mem h.2 x hx
theorem okE_kids{d:Int}{e:E}(h:okE d e=true):∀x∈e.k,okE (d+1) x=true:=by
 cases e
 unfold okE at h
 rw[Bool.and_eq_true]at h
 exact okEs_mem h.2
theorem ownS{V0 V:Mem}{s:Sl}{l:List ByteArray}(h:Own V0 V 9 1 s (l.flatMap qBD)):qAc V s 1 (l.map qBD):=h.rows (fun _=>rfl) (by decide)
theorem one_row{V:Mem}{b:Nat}{s:ByteArray}{t:Nat}(h:V b=some (.cells #[.string s] t (0,0))):qAc V ⟨some ⟨b,0,none⟩,1,1⟩ 1 ([s].map qBD) :=
 qAc.cells (xs:=[s]) (row:=qBD) h rfl (fun _=>rfl) rfl (by simp)
section
variable{V:Mem}{d:Ds}{sc:Sc}{sl:Sl}
end
theorem ownF{V0 V:Mem}{s:Sl}{l:List Fld}(h:Own V0 V 113 2 s (l.flatMap Fld.row)):qAc V s 2 (l.map Fld.row):=h.rows (fun _=>rfl) (by decide)
section
variable{V:Mem}{d:Ds}
def Small(d:Ds):Prop:=d.globals.length<=1000/\∀p∈d.procs,p.params.length<=1000/\p.locals.length<=1000
theorem shape_arity{op:Int}{s:ByteArray}{es:List E}{nl nx:Int}(h:qBO op s es nl nx=true):(op=6->∃e0,es=[e0]/\e0.op=7)/\(op=1∨op=3∨op=4->es.length=1)/\(op=2->es.length=2)/\(op=5->es.length<=1)/\es.length<=2/\(∀x∈es,okE 1 x=true):=by
 unfold qBO at h
 rw[Bool.and_eq_true]at h
 obtain⟨h,hv⟩:=h
 have hall:∀x∈es,okE 1 x=true:=fun x hx=>by
  have:=List.all_eq_true.1 hv x hx
  unfold qAJ at this
  exact(of_decide_eq_true this).1
 unfold qFj at h
 have h6:op=6->∃e0,es=[e0]/\e0.op=7:=fun h6=>by
  subst h6
  simp only[show ¬((6:Int)=1) by decide,show ¬((6:Int)=2) by decide,show ¬((6:Int)=3) by decide,show ¬((6:Int)=4) by decide,show ¬((6:Int)=5) by decide,if_false,if_true,decide_eq_true_eq]at h
  match es,h with
  | [e0],h=>exact⟨e0,rfl,h.2.2.1⟩
  | [],h=>simp at h
  | _::_::_,h=>simp at h;omega
 refine⟨h6,?_,?_,?_,?_,hall⟩ <;> grind
end
theorem okS_shape{d:Int}{x:S}(h:okS d x=true):qBO x.op x.s x.es x.ls.length x.xs.length=true/\qFN (d+1) x.ls=true/\qFN (d+1) x.xs=true:=by
 cases x
 unfold okS at h
 rw[Bool.and_eq_true,Bool.and_eq_true,Bool.and_eq_true]at h
 exact⟨h.1.1.2,h.1.2,h.2⟩
theorem okSs_mem{d:Int}:∀{l:List S},qFN d l=true->∀x∈l,okS d x=true
 | [],_,x,hx=>absurd hx List.not_mem_nil
 | y::l,h,x,hx=>by
  unfold qFN at h
  rw[Bool.and_eq_true]at h
  rcases List.mem_cons.1 hx with rfl|hx
  ·exact h.1
  ·exact okSs_mem h.2 x hx
theorem szS_eq(x:S):szS x=1+qDO x.ls+qDO x.xs:=by cases x;unfold szS;rfl
theorem szSs_cons(x:S)(l:List S):qDO (x::l)=szS x+qDO l:=by rw[qDO]
mutual
theorem stT_n(d:Ds)(sc:Sc)(result:ByteArray)(n:Int):∀x:S,(stT d sc result n x).2=0->(stT d sc result n x).1=n+szS x
 | .mk op s _ es _ ls _ xs=>by
  have h1:=stsT_n d sc result (n+1) ls
  have h2:=stsT_n d sc result (qBN d sc result (n+1) ls).1 xs
  unfold stT szS
  intro h
  split at h
  ·rename_i h';exact absurd h h'
  ·rename_i h'
   rw[if_neg h']
   split at h
   ·rename_i h3;exact absurd h h3
   ·rename_i h3
    rw[if_neg h3,h2 h,h1 (by simpa using h3)]
    omega
theorem stsT_n(d:Ds)(sc:Sc)(result:ByteArray)(n:Int):∀l:List S,(qBN d sc result n l).2=0->(qBN d sc result n l).1=n+qDO l
 | []=>by simp[qBN,qDO]
 | x::xs=>by
  have h1:=stT_n d sc result n x
  have h2:=stsT_n d sc result (stT d sc result n x).1 xs
  rw[qHe,szSs_cons]
  intro h
  split at h
  ·rename_i h';exact absurd h h'
  ·rename_i h'
   rw[if_neg h',h2 h,h1 (by simpa using h')]
   omega
end
theorem qAk{α β:Type}{f:Nat->α->Option β}{i:Nat}{x:α}{xs:List α}{b:β}(h:f i x=some b):qAi f i (x::xs)=some b:=by unfold qAi;rw[h]
theorem qAr{α β:Type}{f:Nat->α->Option β}{i:Nat}{x:α}{xs:List α}(h:f i x=none):qAi f i (x::xs)=qAi f (i+1) xs:=by rw[qAi,h]
section
variable{V:Mem}{d:Ds}
end
section
variable{V:Mem}{d:Ds}
end
section
variable{V:Mem}{d:Ds}
end
structure VParts (d:Ds):Prop where
 small:Small d
 ms:∀m∈d.measures,okE 1 m.x=true
 is:∀m∈d.invs,okE 1 m.x=true
 qs:∀m∈d.pots,okE 1 m.x=true
 bs:∀m∈d.bounds,okE 1 m.x=true
 ps:∀p∈d.procs,qFN 1 p.body=true/\qDO p.body<=200
theorem qFe{e:E}(h:qAJ e=true):okE 1 e=true:=by
 unfold qAJ at h;exact(of_decide_eq_true h).1
theorem vparts{d:Ds}(h:qAH d=true):VParts d:=by
 unfold qAH formB at h
 simp only[Bool.and_eq_true,decide_eq_true_eq,List.all_eq_true]at h
 obtain⟨⟨⟨⟨⟨⟨⟨-,-⟩,hg⟩,-⟩,-⟩,-⟩,hp⟩,⟨⟨hm,hi⟩,hq⟩,hb⟩:=h
 have fl:∀{l:List Fld} {n:Int},qDL l n=true->n<=100->l.length<=1000:=fun h h'=>by
  unfold qDL at h
  rw[Bool.and_eq_true,decide_eq_true_eq]at h
  omega
 refine⟨⟨fl hg (by omega),fun p hpp=>?_⟩,fun m hmm=>?_,fun m hmm=>?_,fun m hmm=>?_,fun m hmm=>?_,fun p hpp=>?_⟩
 ·have:=hp p hpp
  unfold prB at this
  simp only[Bool.and_eq_true]at this
  exact⟨fl this.1.1.1.2 (by omega),fl this.1.1.2 (by omega)⟩
 ·have:=hm m hmm
  unfold msB at this
  simp only[Bool.and_eq_true]at this
  exact qFe this.2
 ·have:=hi m hmm
  unfold ivB at this
  simp only[Bool.and_eq_true]at this
  exact qFe this.2
 ·have:=hq m hmm
  unfold poB at this
  simp only[Bool.and_eq_true]at this
  exact qFe this.2
 ·have:=hb m hmm
  unfold bdB at this
  simp only[Bool.and_eq_true]at this
  exact qFe this.2
 ·have:=hp p hpp
  unfold prB at this
  simp only[Bool.and_eq_true]at this
  have:=this.2
  unfold qEK at this
  exact of_decide_eq_true this
theorem qCB{α β:Type}{f:Nat->α->Option β}{b:β}:∀{i:Nat} {xs:List α},qAi f i xs=some b->∃j x,x∈xs/\f j x=some b
 | _,[],h=>by cases h
 | i,x::xs,h=>by
  cases hx:f i x with
  | some c=>rw[qAk hx]at h;cases h;exact⟨i,x,by simp,hx⟩
  | none =>
   rw[qAr hx]at h
   obtain⟨j,y,hy,e⟩:=qCB h
   exact⟨j,y,by simp[hy],e⟩
def Bad(r:Flt):Prop:=r.2.2≠0/\r.2.1=-1
theorem qGt{P:Flt->Prop}{a b:Option Flt}(ha:∀r,a=some r->P r)(hb:∀r,b=some r->P r):∀r,a.or b=some r->P r:=fun r h=>by
 cases a with
 | none=>exact hb r (by simpa using h)
 | some x=>exact ha r (by simpa using h)
theorem types_bad(d:Ds):∀r,qGn d=some r->Bad r:=by
 refine qGt (fun r h=>?_) (qGt (fun r h=>?_) (fun r h=>?_)) <;> obtain⟨j,x,hx,e⟩:=qCB h
 ·split at e
  ·cases e;exact⟨by simp,rfl⟩
  ·cases e
 ·split at e
  ·rename_i h';cases e;exact⟨h',rfl⟩
  ·cases e
 ·split at e
  ·rename_i h';cases e;exact⟨h',rfl⟩
  ·cases e
theorem heads_bad(d:Ds):∀r,qEF d=some r->Bad r:=fun r h=>by
 obtain⟨j,x,hx,e⟩:=qCB h
 split at e
 ·cases e;exact⟨by simp,rfl⟩
 ·split at e
  ·rename_i h';cases e;exact⟨h',rfl⟩
  ·split at e
   ·cases e;exact⟨by simp,rfl⟩
   ·cases e
theorem form_bad(d:Ds):∀r,qER d=some r->Bad r:=by
 refine qGt (fun r h=>?_) (qGt (fun r h=>?_) (qGt (fun r h=>?_) (fun r h=>?_))) <;> obtain⟨j,x,hx,e⟩:=qCB h
 ·split at e
  ·cases e;exact⟨by simp,rfl⟩
  ·split at e
   ·cases e;exact⟨by simp,rfl⟩
   ·cases e
 ·split at e
  ·cases e;exact⟨by simp,rfl⟩
  ·split at e
   ·cases e;exact⟨by simp,rfl⟩
   ·cases e
 ·split at e
  ·cases e;exact⟨by simp,rfl⟩
  ·cases e
 ·split at e
  ·cases e;exact⟨by simp,rfl⟩
  ·split at e
   ·cases e;exact⟨by simp,rfl⟩
   ·cases e
theorem exps_bad(d:Ds):∀r,qHJ d=some r->Bad r:=by
 refine qGt (fun r h=>?_) (qGt (fun r h=>?_) (qGt (fun r h=>?_) (fun r h=>?_))) <;> obtain⟨j,x,hx,e⟩:=qCB h <;> split at e
 all_goals first | (cases e;done) | (rename_i h';cases e;exact⟨h',rfl⟩)
theorem bounds_proc{d:Ds}(hform:qER d=none):∀g∈d.bounds,∃p,qHp d g.proc=some p:=by
 have h4:form4 d=none:=by
  unfold qER at hform
  cases h:form4 d with
  | none=>rfl
  | some r=>rw[h]at hform;simp at hform
 have aux:∀(l:List Bd) (i:Nat),qAi (fun i b=>if (qHp d b.proc).isNone=true then some ((b.proc,-1,9):Flt) else if (d.bounds.take i).any (fun g=>decide (g.proc=b.proc))=true then some (b.proc,-1,10) else none) i l=none->∀g∈l,∃p,qHp d g.proc=some p:=by
  intro l
  induction l with
  | nil=>intro i _ g hg;exact absurd hg List.not_mem_nil
  | cons y l ih =>
   intro i h g hg
   cases hy:qHp d y.proc with
   | none=>rw[qAk (b:=(y.proc,-1,9)) (if_pos (by rw[hy];rfl))]at h;cases h
   | some p =>
    rcases List.mem_cons.1 hg with rfl|hg
    ·exact⟨p,hy⟩
    ·by_cases ht:(d.bounds.take i).any (fun g=>decide (g.proc=y.proc))=true
     ·rw[qAk (b:=(y.proc,-1,10)) ((if_neg (by rw[hy];simp)).trans (if_pos ht))]at h;cases h
     ·rw[qAr ((if_neg (by rw[hy];simp)).trans (if_neg ht))]at h
      exact ih _ h g hg
 exact aux d.bounds 0 h4
theorem rowp_part{V:Mem}{p:Option Addr}{off n j m:Nat}{vs:List Value}(h:V.rowp p off n=some vs)(hj:0<j)(hl:j+m<=n):V.rowp (qAa (qAa p off) j) 0 m=some ((vs.drop j).take m):=by
 cases p with
 | none=>cases h
 | some a =>
  have e:((a.add off).add j).add 0=⟨a.block,a.off+off+j,none⟩:=by
   unfold Addr.add
   by_cases h1:off=0 <;> simp[h1,show ¬j=0 by omega]
  have e0:(a.add off).off=a.off+off/\(a.add off).block=a.block:=by
   unfold Addr.add
   by_cases h1:off=0 <;> simp[h1]
  show V.row (((a.add off).add j).add 0) m=_
  have h:V.row (a.add off) n=some vs:=h
  rw[e]
  unfold Mem.row at h ⊢
  rw[e0.2]at h
  split at h
  ·rename_i c x y hb
   simp only[hb]
   split at h
   ·rename_i hc
    rw[e0.1]at hc h
    cases h
    rw[if_pos ⟨rfl,by omega⟩,List.drop_take,List.take_take,List.drop_drop,Nat.min_eq_left (by omega)]
   ·cases h
  ·cases h
section
variable{V:Mem}{d:Ds}
def f3(o:Option Flt):Value:=.tuple #[.string (fltR o).1,.int .i64 (fltR o).2.1,.int .i64 (fltR o).2.2]
end
end Go.Proofs
