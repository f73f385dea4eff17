/- Part 9 of a proof of a law of this seat: no statement of the seat is proved here. -/
import Derived.Shelf.Strings.Fields
import Derived.Test.YtlnbdjekdkodcaaGreatDoorProg
import Derived.Test.YtlnbdjekdkodcaaGreatDoorPart08
import Derived.Sort.Walk0
import Derived.RangeFuncRecord
set_option linter.unusedVariables false
set_option linter.unusedSimpArgs false
namespace Go.Proofs
open Go.Shelf
def Tryz.lays157_ren:Go.Shelf.Ren:=⟨fun|157=>194|229=>238|199=>239|261=>259|311=>265|312=>266|n=>n,fun|9=>9|31=>217|3=>3|5=>5|4=>4|119=>295|0=>0|40=>297|152=>315|21=>21|154=>317|51=>312|141=>319|196=>326|193=>323|198=>328|49=>51|194=>324|201=>331|226=>334|46=>264|227=>335|n=>n,fun|0=>0|6=>1|n=>n⟩
theorem Tryz.lays157:Go.Proofs.Lays.n157 Tryz.prog Tryz.lays157_ren:={
 mixed:=by kernel_rfl
 f157:=Tryz.func194.trans (congrArg some (by kernel_rfl))
 f199:=Tryz.func239.trans (congrArg some (by kernel_rfl))
 f229:=Tryz.func238.trans (congrArg some (by kernel_rfl))
 f261:=Tryz.func259.trans (congrArg some (by kernel_rfl))
 f311:=Tryz.func265.trans (congrArg some (by kernel_rfl))
 f312:=Tryz.func266.trans (congrArg some (by kernel_rfl))
 t0:=Tryz.underlying0
 a0:=Tryz.isAgg0
 z0:=Tryz.sizeOf0
 v0:=Tryz.zeroValue0
 t3:=Tryz.underlying3
 a3:=Tryz.isAgg3
 z3:=Tryz.sizeOf3
 v3:=Tryz.zeroValue3
 t4:=Tryz.underlying4
 a4:=Tryz.isAgg4
 z4:=Tryz.sizeOf4
 v4:=Tryz.zeroValue4
 t5:=Tryz.underlying5
 a5:=Tryz.isAgg5
 z5:=Tryz.sizeOf5
 v5:=Tryz.zeroValue5
 t9:=Tryz.underlying9
 a9:=Tryz.isAgg9
 z9:=Tryz.sizeOf9
 v9:=Tryz.zeroValue9
 t21:=Tryz.underlying21
 a21:=Tryz.isAgg21
 z21:=Tryz.sizeOf21
 v21:=Tryz.zeroValue21
 t31:=Tryz.underlying217
 a31:=Tryz.isAgg217
 z31:=Tryz.sizeOf217
 v31:=Tryz.zeroValue217
 t40:=Tryz.underlying297
 a40:=Tryz.isAgg297
 z40:=Tryz.sizeOf297
 v40:=Tryz.zeroValue297
 t46:=Tryz.underlying264
 a46:=Tryz.isAgg264
 z46:=Tryz.sizeOf264
 v46:=Tryz.zeroValue264
 t49:=Tryz.underlying51
 a49:=Tryz.isAgg51
 z49:=Tryz.sizeOf51
 v49:=Tryz.zeroValue51
 t51:=Tryz.underlying312
 a51:=Tryz.isAgg312
 z51:=Tryz.sizeOf312
 v51:=Tryz.zeroValue312
 t119:=Tryz.underlying295
 a119:=Tryz.isAgg295
 z119:=Tryz.sizeOf295
 t141:=Tryz.underlying319
 a141:=Tryz.isAgg319
 z141:=Tryz.sizeOf319
 v141:=Tryz.zeroValue319
 t152:=Tryz.underlying315
 a152:=Tryz.isAgg315
 z152:=Tryz.sizeOf315
 v152:=Tryz.zeroValue315
 t154:=Tryz.underlying317
 a154:=Tryz.isAgg317
 z154:=Tryz.sizeOf317
 v154:=Tryz.zeroValue317
 t193:=Tryz.underlying323
 a193:=Tryz.isAgg323
 z193:=Tryz.sizeOf323
 v193:=Tryz.zeroValue323
 t194:=Tryz.underlying324
 a194:=Tryz.isAgg324
 z194:=Tryz.sizeOf324
 v194:=Tryz.zeroValue324
 t196:=Tryz.underlying326
 a196:=Tryz.isAgg326
 z196:=Tryz.sizeOf326
 v196:=Tryz.zeroValue326
 t198:=Tryz.underlying328
 a198:=Tryz.isAgg328
 z198:=Tryz.sizeOf328
 v198:=Tryz.zeroValue328
 t201:=Tryz.underlying331
 a201:=Tryz.isAgg331
 z201:=Tryz.sizeOf331
 v201:=Tryz.zeroValue331
 t226:=Tryz.underlying334
 a226:=Tryz.isAgg334
 z226:=Tryz.sizeOf334
 v226:=Tryz.zeroValue334
 t227:=Tryz.underlying335
 a227:=Tryz.isAgg335
 z227:=Tryz.sizeOf335
 v227:=Tryz.zeroValue335
 g0:=by kernel_rfl
 g6:=by kernel_rfl }
open Go.RowKit Go.Lib in
theorem Tryz.strings_Fields(s:ByteArray)(w:World)(hs:s.size<4294967281)(hascii:∀(j:Nat) b,s.data.toList[j]?=some b->b.toNat<128)(htab:Lib.TabIs Tryz.prog w "strings.asciiSpace" .u8 Lib.asciiSpaceTab) :
  Calls Tryz.prog 194 #[.string s] w fun e w' =>
   e=.returned (.slice (some ⟨w.heap.size,0,none⟩) (Lib.fields s.data.toList).length (Lib.fields s.data.toList).length)/\w'=w.alloc (.cells ((Lib.fields s.data.toList).map fun l=>Value.string ⟨l.toArray⟩).toArray 9):=Any.strings_Fields Tryz.lays157 (by kernel_rfl) (by kernel_rfl) s w hs hascii htab
end Go.Proofs
namespace Go.Proofs
open Go Go.Sx
attribute [local irreducible] Go.Sx.Tri
class Tab (V:Mem):Prop where
 at_:∃t fr,V 0=some (.cells (Lib.asciiSpaceTab.map fun z=>Value.int .u8 z).toArray t fr)
theorem Tab.sub{V V':Mem}(h:Tab V)(hs:V.sub V'):Tab V':=by
 obtain⟨t,fr,h⟩:=h.at_
 exact⟨t,fr,hs _ _ h⟩
theorem Tab.is{V:Mem}{w:World}(h:Tab V)(hV:V.le w):Lib.TabIs Tryz.prog w "strings.asciiSpace" .u8 Lib.asciiSpaceTab:=by
 obtain⟨t,fr,h⟩:=h.at_
 have hg:Tryz.prog.globalNamed "strings.asciiSpace" = some 0:=by kernel_rfl
 unfold Lib.TabIs World.var?
 rw[hg,Option.bind_some,hV _ _ h]
theorem frm_new{V:Mem}{w:World}(hw:V.le w)(o:Obj):V w.heap.size=none/\Frm V w (V.set w.heap.size o) (w.alloc o):=by
 have hn:V w.heap.size=none:=by
  cases hc:V w.heap.size with
  | none=>rfl
  | some o=>have:=(Array.getElem?_eq_some_iff.1 (hw _ o hc)).1;omega
 refine⟨hn,by simp,fun b o hb=>?_,fun b hb _=>Go.RowKit.Below.heap_alloc _ _ _ hb,fun b hb=>?_,rfl,rfl⟩
 ·by_cases e:b=w.heap.size
  ·subst e;rw[Mem.set_same]at hb;rw[<- hb];exact World.alloc_heap_new _ _
  ·rw[Mem.set_ne e]at hb
   have hlt:=(Array.getElem?_eq_some_iff.1 (hw b o hb)).1
   exact(Go.RowKit.Below.heap_alloc _ _ _ hlt).trans (hw b o hb)
 ·by_cases e:b=w.heap.size
  ·exact .inr (by omega)
  ·rw[Mem.set_ne e]at hb;exact .inl hb
def qJJ:ByteArray:=qAm [97,110,100,32,98,111,111,108,32,98,111,117,110,100,32,100,101,115,99,32,101,108,115,101,32,102,97,108,115,101,32,105,102,32,105,110,116,32,105,110,118,97,114,105,97,110,116,32,108,111,99,97,108,32,108,111,103,32,109,97,120,32,109,101,97,115,117,114,101,32,109,105,110,32,110,101,119,32,110,105,108,32,110,111,116,32,111,112,32,111,114,32,112,111,116,101,110,116,105,97,108,32,112,114,111,99,32,114,101,116,117,114,110,32,114,117,108,101,32,115,99,114,105,112,116,32,115,111,114,116,32,115,112,101,99,32,116,104,105,115,32,116,114,117,101,32,116,121,112,101,32,118,97,114,32,119,104,105,108,101]
def qBV:List ByteArray:=(Lib.fields qJJ.data.toList).map fun l=>⟨l.toArray⟩
theorem kwText_size:qJJ.size=160:=by kernel_rfl
theorem qHa:qBV.length=31:=by kernel_rfl
theorem c140{V:Mem}(ht:Tab V):Tri Tryz.prog 140 #[] V fun e V'=>∃b,V b=none/\e=.returned (.slice (sa b) 31 31)/\V'=V.set b (.cells (qBV.map Value.string).toArray 9 (0,0)):=by
 refine x140 ?_
 unfold w140
 refine Tri.mono (R:=fun e V'=>∃b,V b=none/\e=.returned (.slice (sa b) 31 31)/\V'=V.set b (.cells (qBV.map Value.string).toArray 9 (0,0))) ?_ ?_
 ·unfold Tri
  intro w hw
  refine qBN (Tryz.strings_Fields qJJ w (by rw[kwText_size];decide) ?_ (ht.is hw)) ?_
  ·have hall:(qJJ.data.toList.all fun b=>decide (b.toNat<128))=true:=by kernel_rfl
   intro j b hb
   have:=List.all_eq_true.1 hall b (List.mem_of_getElem? hb)
   simpa using this
  ·rintro e w' ⟨rfl,rfl⟩
   obtain⟨hn,hf⟩:=frm_new hw (.cells (qBV.map Value.string).toArray 9)
   refine⟨_,⟨w.heap.size,hn,?_,rfl⟩,?_⟩
   ·rw[show (Lib.fields qJJ.data.toList).length=31 by kernel_rfl]
   ·have e:((Lib.fields qJJ.data.toList).map fun l=>Value.string ⟨l.toArray⟩)=qBV.map Value.string:=by
     unfold qBV;rw[List.map_map];rfl
    rw[e];exact hf
 ·rintro e V' ⟨b,hb,rfl,rfl⟩
  exact⟨⟨some ⟨b,0,none⟩,31,31⟩,rfl,b,hb,rfl,rfl⟩
theorem c237{V:Mem}{s:ByteArray}:PP 237 [.string s] V (.bool false):=by
 refine x237 ?_
 unfold w237
 simp
theorem c193{V:Mem}{s:ByteArray}:PP 193 [.string s] V (.bool false):=by
 refine x193 ?_
 unfold w193
 simp
def ltB(s t:ByteArray):Bool:=Op.bytesLess s.toList t.toList
theorem c192{V:Mem}{s t:ByteArray}:PP 192 [.string s,.string t] V (.bool (ltB s t)):=by
 refine x192 ?_
 unfold w192
 refine c237.call ⟨_,rfl,fun h=>?_,fun _=>⟨rfl,rfl⟩⟩
 cases h
theorem bl_trans:∀{a b c:List UInt8},Op.bytesLess a b=true->Op.bytesLess b c=true->Op.bytesLess a c=true
 | _,[],_,h,_=>by simp[Op.bytesLess]at h
 | _,_::_,[],_,k=>by simp[Op.bytesLess]at k
 | [],_::_,_::_,_,_=>rfl
 | a::x,b::y,c::z,h,k=>by
  simp only[Op.bytesLess,Bool.or_eq_true,decide_eq_true_eq,Bool.and_eq_true,beq_iff_eq]at h k ⊢
  rcases h with h|⟨rfl,h⟩
  ·rcases k with k|⟨rfl,k⟩
   ·left;rw[UInt8.lt_iff_toNat_lt]at *;omega
   ·exact .inl h
  ·rcases k with k|⟨rfl,k⟩
   ·exact .inl k
   ·exact .inr ⟨rfl,bl_trans h k⟩
theorem qIt{a b c:ByteArray}(h:ltB a b=true)(k:ltB b c=true):ltB a c=true:=bl_trans h k
theorem bl_irrefl:∀l:List UInt8,Op.bytesLess l l=false
 | []=>rfl
 | a::l=>by
  have h1:¬(a<a):=by rw[UInt8.lt_iff_toNat_lt];omega
  simp[Op.bytesLess,bl_irrefl l,h1]
theorem ltB_irrefl(a:ByteArray):ltB a a=false:=bl_irrefl _
def qKb:List ByteArray->Bool
 | a::b::l=>ltB a b&&qKb (b::l)
 | _=>true
theorem qEn:∀{l:List ByteArray},qKb l=true->∀(i j:Nat) (x y:ByteArray),i<j->l[i]?=some x->l[j]?=some y->ltB x y=true
 | [],_,i,j,x,y,_,hx,_=>by simp at hx
 | [a],_,i,j,x,y,hij,hx,hy=>by
  have:=(List.getElem?_eq_some_iff.1 hy).1
  simp only[List.length_singleton]at this;omega
 | a::b::l,h,i,j,x,y,hij,hx,hy=>by
  simp only[qKb,Bool.and_eq_true]at h
  cases j with
  | zero=>omega
  | succ j =>
   rw[List.getElem?_cons_succ]at hy
   cases i with
   | succ i=>rw[List.getElem?_cons_succ]at hx;exact qEn h.2 i j x y (by omega) hx hy
   | zero =>
    simp only[List.getElem?_cons_zero,Option.some.injEq]at hx;subst hx
    cases j with
    | zero=>simp only[List.getElem?_cons_zero,Option.some.injEq]at hy;subst hy;exact h.1
    | succ j=>exact qIt h.1 (qEn h.2 0 (j+1) b y (by omega) rfl hy)
theorem GenK.shr1{V:Mem}{vals:Operand->Value}{t ty:TypeId}{n:Int}(hv:vals (.tmp 19)=.int .u64 n)(hv2:vals (.const (.int .u64 1))=.int .u64 1){q:Value->Mem->Prop}(hq:q (.int .u64 (n / 2)) V) :
  GenK Tryz.prog (.binOp .shr t (.tmp 19) (.const (.int .u64 1)) t) ty vals V q:=by
 intro w hw
 refine⟨_,w,V,?_,Frm.refl hw,hq⟩
 have e:Op.shift .shr .u64 n .u64 1=pure (.int .u64 (n / 2)):=by
  unfold Op.shift
  rw[if_neg (by decide)]
  show pure (Value.int .u64 (n.fdiv (2 ^ 1)))=_
  rw[Int.fdiv_eq_ediv_of_nonneg _ (by decide)]
  rfl
 unfold execOp
 simp only[hv,hv2]
 simp[eqGuard,binOp_shr,e]
theorem qEb{xs:List ByteArray}{s:ByteArray}:hasS xs s=true↔s∈xs:=by
 unfold hasS
 rw[List.any_eq_true]
 exact⟨fun⟨x,hx,e⟩=>by rw[decide_eq_true_eq]at e;exact e ▸ hx,fun h=>⟨s,h,by simp⟩⟩
def kwIx(s:ByteArray):Bool:=hasS qBV s
theorem kwIx_eq(s:ByteArray):kwIx s=isKw s:=by
 have h1:(qBV.all fun x=>qJK.any fun y=>decide (y=x))=true:=by kernel_rfl
 have h2:(qJK.all fun x=>qBV.any fun y=>decide (y=x))=true:=by kernel_rfl
 unfold kwIx isKw
 rw[Bool.eq_iff_iff,qEb,qEb]
 constructor
 ·intro h
  exact qEb.1 (List.all_eq_true.1 h1 s h)
 ·intro h
  exact qEb.1 (List.all_eq_true.1 h2 s h)
theorem c139{V:Mem}{l:Sl}{xs:List ByteArray}{s:ByteArray}(h:qAd V l 1 (xs.map fun x=>[vS x]))(hs:qKb xs=true)(hlen:xs.length<=1000) :
  Tri Tryz.prog 139 #[l.v,.string s] V fun e V'=>∃n:Int,e=.returned (.tuple #[.int .i64 n,.bool (hasS xs s)])/\V'=V:=by
 refine x139 ?_
 unfold w139
 have hn:=h.n_eq
 have hc:=h.cap
 have hf:=h.fit
 refine⟨fun n ys V1=>∃i j:Nat,ys=[.int .i64 i,.int .i64 j]/\V1=V/\i<=j/\j<=xs.length/\n=j-i/\(∀(k:Nat) x,k<i->xs[k]?=some x->ltB x s=true)/\(∀(k:Nat) x,j<=k->xs[k]?=some x->ltB x s=false),xs.length,
  ⟨0,xs.length,by rw[hn];rfl,rfl,by omega,by omega,by omega,fun k x hk=>by omega,fun k x hk hx=>by have:=(List.getElem?_eq_some_iff.1 hx).1;omega⟩,?_⟩
 rintro n V1 v2 v3 ⟨i,j,hy,rfl,hij,hj,rfl,hlo,hhi⟩ J hJ
 simp only[List.cons.injEq,Value.int.injEq,true_and,and_true]at hy
 obtain⟨rfl,rfl⟩:=hy
 refine⟨fun hlt=>?_,fun hge=>?_⟩
 ·refine⟨⟨by omega,by omega⟩,⟨by show (0:Int)<=_;omega,by show _<=(18446744073709551615:Int);omega⟩,?_⟩
  refine GenK.shr1 (n:=(i:Int)+j) rfl rfl ⟨_,rfl,⟨by omega,by omega⟩,?_⟩
  have hm:((i:Int)+j) / 2=((i+j) / 2:Nat):=by omega
  rw[hm]
  obtain⟨x,hmx,hx,hd,hl,hp,h0,hrow⟩:=h.get (i:=(i+j) / 2) (by omega)
  refine⟨hp,h0,by omega,x,hrow,c192.call ⟨_,rfl,fun hb=>⟨⟨by omega,by omega⟩,?_⟩,fun hb=>?_⟩⟩
  ·refine hJ (j-((i+j) / 2+1)) _ _ (by omega) ⟨(i+j) / 2+1,j,rfl,rfl,by omega,hj,rfl,fun k y hk hy=>?_,hhi⟩
   rcases Nat.lt_or_ge k ((i+j) / 2) with h'|h'
   ·exact qIt (qEn hs k _ y x h' hy hx) hb
   ·have:k=(i+j) / 2:=by omega
    subst this;rw[hx]at hy;cases hy;exact hb
  ·refine hJ ((i+j) / 2-i) _ _ (by omega) ⟨i,(i+j) / 2,rfl,rfl,by omega,by omega,rfl,hlo,fun k y hk hy=>?_⟩
   cases hz:ltB y s with
   | false=>rfl
   | true =>
    rcases Nat.lt_or_ge ((i+j) / 2) k with h'|h'
    ·exact absurd (qIt (qEn hs _ k x y h' hx hy) hz) hb
    ·have:k=(i+j) / 2:=by omega
     subst this;rw[hx]at hy;cases hy;exact absurd hz hb
 ·have hij':i=j:=by omega
  subst hij'
  have key:s∈xs->xs[i]?=some s:=fun hm=>by
   obtain⟨k,hk,e⟩:=List.mem_iff_getElem.1 hm
   have hk':xs[k]?=some s:=by rw[List.getElem?_eq_getElem hk,e]
   rcases Nat.lt_trichotomy k i with h'|h'|h'
   ·have:=hlo k s h' hk';rw[ltB_irrefl]at this;cases this
   ·subst h';exact hk'
   ·have hi':i<xs.length:=by omega
    have h2:=qEn hs i k xs[i] s h' (List.getElem?_eq_getElem hi') hk'
    have h3:=hhi i xs[i] (Nat.le_refl _) (List.getElem?_eq_getElem hi')
    rw[h2]at h3;cases h3
  refine⟨fun hlt=>?_,fun hge2=>?_⟩
  ·obtain⟨x,hmx,hx,hd,hl,hp,h0,hrow⟩:=h.get (i:=i) hlt
   refine⟨hp,h0,hlt,x,hrow,fun e=>?_,fun e=>⟨hp,h0,hlt,x,hrow,c193.call ⟨_,rfl,fun hb=>?_,fun _=>?_⟩⟩⟩
   ·subst e
    exact⟨i,by rw[qEb.2 hmx],rfl⟩
   ·cases hb
   ·refine⟨i,?_,rfl⟩
    have:hasS xs s=false:=by
     cases hz:hasS xs s with
     | false=>rfl
     | true=>have:=key (qEb.1 hz);rw[hx]at this;exact absurd (by simpa using this) e
    rw[this]
  ·refine⟨i,?_,rfl⟩
   have:hasS xs s=false:=by
    cases hz:hasS xs s with
    | false=>rfl
    | true=>have:=(List.getElem?_eq_some_iff.1 (key (qEb.1 hz))).1;omega
   rw[this]
theorem c104{V:Mem}{s:ByteArray}(ht:Tab V):PP 104 [.string s] V (.bool (isKw s)):=by
 refine Pur.mk ?_
 refine x104 ?_
 unfold w104
 refine Tri.mono (c140 ht) ?_
 rintro _ V' ⟨b,hb,rfl,rfl⟩
 refine⟨⟨some ⟨b,0,none⟩,31,31⟩,rfl,?_⟩
 have hrows:qAd (V.set b (.cells ((qBV.map Value.string).toArray) 9 (0,0))) ⟨some ⟨b,0,none⟩,31,31⟩ 1 (qBV.map fun x=>[vS x]) :=
  qAd.cells (xs:=qBV) (row:=fun x=>[vS x]) mss (by simp;rfl) (fun _=>rfl) qHa.symm (Nat.le_of_ble_eq_true rfl)
 refine Tri.mono (c139 hrows (by kernel_rfl) (by rw[qHa];decide)) ?_
 rintro _ V2 ⟨n,rfl,rfl⟩
 exact⟨n,_,rfl,by rw[<- kwIx_eq];rfl,Mem.sub_new hb _⟩
theorem c75{V:Mem}[Tab V]{s:ByteArray}:PP 75 [.string s] V (.bool (qAS s)):=by
 refine x75 ?_
 unfold w75
 refine⟨fun h=>?_,fun h=>⟨fun h1=>?_,fun h1=>?_⟩⟩
 ·subst h;exact⟨rfl,rfl⟩
 ·have:¬s.size<=40:=by omega
  simp[qAS,this]
 ·have h0:s.size≠0:=fun e=>h (by
   have:s.data=#[]:=Array.eq_empty_of_size_eq_zero e
   cases s;simp only at this;subst this;rfl)
  refine⟨by omega,c103.call ⟨_,rfl,fun h2=>?_,fun h2=>?_⟩⟩
  ·refine(c104 inferInstance).call ⟨_,rfl,fun hk=>?_,fun hk=>?_⟩
   ·simp[qAS,hk]
   ·refine qAC s.size (fun i V1=>V1=V/\∀j:Nat,j<i->qEx (qBe s j)=true) ⟨rfl,by simp⟩ ?_
    rintro i b _ J hi ⟨rfl,hj⟩ hJ
    refine⟨fun hlt=>⟨by omega,c103.call ⟨_,rfl,fun hw=>?_,fun hw=>⟨⟨by omega,by omega⟩,hJ (by omega) _ _ ⟨rfl,fun j hj'=>?_⟩⟩⟩⟩,fun hge=>?_⟩
    ·rw[cls_word]at hw
     have:¬ ∀i:Nat,i<s.size->qEx (qBe s i)=true:=fun hf=>by rw[hf i (by omega)]at hw;cases hw
     simp[qAS,this]
    ·rcases Nat.lt_succ_iff_lt_or_eq.1 hj' with h'|rfl
     ·exact hj j h'
     ·rw[cls_word]at hw;simpa using hw
    ·have a2:s.size<=40:=by omega
     have a3:∀i:Nat,i<s.size->qEx (qBe s i)=true:=fun j hj'=>hj j (by omega)
     have:qAS s=!isKw s:=by unfold qAS;rw[decide_eq_true ⟨h0,a2,(cls_two _).1 h2,a3⟩];simp
     simp[this,hk]
  ·rw[cls_two]at h2
   have:qCj (qBe s 0)=false:=by simpa using h2
   simp[qAS,this]
/-! Nodes. -/
def qAR(op:Int):Int:=if (1<=op/\op<=4)∨op=6 then 0 else if op=5∨op=8∨op=18∨op=24 then 1 else if op=7 then -1 else if op=21 then 3 else if 9<=op/\op<=23 then 2 else -2
theorem c240{V:Mem}{op:Int}:PP 240 [.int .i64 op] V (.int .i64 (qAR op)):=by
 refine x240 ?_
 unfold w240
 have key:∀n:Int,qAR op=n->Ending.returned (.int .i64 n)=Ending.returned (.int .i64 (qAR op)):=fun n h=>by rw[h]
 unfold qAR at key
 repeat' (first|intro _|apply And.intro)
 all_goals first|rfl | (refine key _ ?_;grind)
theorem c195{V:Mem}{op:Int}:PP 195 [.int .i64 op] V (.tuple #[.int .i64 (if qAR op=-2 then 2 else qAR op),.bool (decide (qAR op≠-2))]):=by
 refine x195 ?_
 unfold w195
 have key:∀(n:Int) (b:Bool),(if qAR op=-2 then 2 else qAR op)=n->decide (qAR op≠-2)=b->Ending.returned (.tuple #[.int .i64 n,.bool b])=Ending.returned (.tuple #[.int .i64 (if qAR op=-2 then 2 else qAR op),.bool (decide (qAR op≠-2))]):=fun n b h k=>by rw[h,k]
 unfold qAR at key
 repeat' (first|intro _|apply And.intro)
 all_goals first|rfl | (refine key _ _ ?_ ?_ <;> grind)
def sThis:ByteArray:=qAm [116,104,105,115]
def nmB(op:Int)(s:ByteArray):Bool:=if op=4 then decide (s=sThis)||qAS s else if op=5∨op=6∨op=7 then qAS s else decide (s=qAm [])
def numB(op n:Int):Bool:=if op=1 then decide (0<=n/\n<=1099511627776) else if op=2 then decide (n=0∨n=1) else decide (n=0)
def qDr(op n:Int)(s:ByteArray)(len:Int):Bool:=decide (qAR op≠-2/\(0<=qAR op->len=qAR op)/\(qAR op=-1->len<=6))&&nmB op s&&numB op n
theorem c241{V:Mem}{e:E}:PP 241 [e.v] V (.bool (nmB e.op e.s)):=by
 refine x241 ?_
 unfold w241
 have key:∀b:Bool,nmB e.op e.s=b->Ending.returned (.bool b)=Ending.returned (.bool (nmB e.op e.s)):=fun n h=>by rw[h]
 unfold nmB sThis at key
 repeat' (first|refine c86.call ⟨_,rfl,?_⟩|intro _|apply And.intro)
 all_goals first|rfl | (refine key _ ?_;grind)
theorem c196{V:Mem}[Tab V]{e:E}:PP 196 [e.v] V (.bool (nmB e.op e.s&&numB e.op e.n)):=by
 refine x196 ?_
 unfold w196
 have key:∀b:Bool,(nmB e.op e.s&&numB e.op e.n)=b->Ending.returned (.bool b)=Ending.returned (.bool (nmB e.op e.s&&numB e.op e.n)):=fun n h=>by rw[h]
 unfold nmB numB sThis at key
 repeat' (first|refine c75.call ⟨_,rfl,?_⟩|intro _|apply And.intro)
 all_goals first|rfl | (refine key _ ?_;grind)
theorem c200{V:Mem}{e:E}{len:Int}(hl:(e.l.n:Int)=len):PP 200 [e.v] V (.bool (qDr e.op e.n e.s len)):=by
 refine x200 ?_
 unfold w200
 rw[hl]
 have key:∀b:Bool,qDr e.op e.n e.s len=b->Ending.returned (.bool b)=Ending.returned (.bool (qDr e.op e.n e.s len)):=fun n h=>by rw[h]
 unfold qDr numB at key
 refine c240.call ⟨_,rfl,?_⟩
 repeat' (first|refine(c241 (e:=e)).call ⟨_,rfl,?_⟩|intro _|apply And.intro)
 all_goals first|rfl | (refine key _ ?_;grind)
mutual
def okE(d:Int):E->Bool | .mk op n s _ k=>decide (d<=60)&&qDr op n s k.length&&okEs (d+1) k
def okEs(d:Int):List E->Bool | []=>true|x::xs=>okE d x&&okEs d xs
end
mutual
def szE:E->Nat | .mk _ _ _ _ k=>1+szEs k
def szEs:List E->Nat | []=>0|x::xs=>szE x+szEs xs
end
mutual
def cntE(d:Int):E->Int | .mk op n s _ k=>if 60<d then 1001 else if qDr op n s k.length=true then qEB (d+1) 1 k else 1001
def qEB(d acc:Int):List E->Int | []=>acc|x::xs=>if 1000<acc+cntE d x then acc+cntE d x else qEB d (acc+cntE d x) xs
end
mutual
def vE(left d:Int):E->Bool×Int | .mk op n s _ k=>if 0<=left-1/\d<=60/\qDr op n s k.length=true then vEs (left-1) (d+1) k else (false,left-1)
def vEs(left d:Int):List E->Bool×Int | []=>(true,left) | x::xs=>if (vE left d x).1=true then vEs (vE left d x).2 d xs else (false,(vE left d x).2)
end
def qAO(e:E):Bool:=decide (okE 1 e=true/\szE e<=1000)
mutual
theorem vE_ok:∀(left d:Int) (e:E),((vE left d e).1=true↔okE d e=true/\(szE e:Int)<=left)/\((vE left d e).1=true->(vE left d e).2=left-szE e)
 | left,d,.mk op n s l k=>by
  have ih:=vEs_ok (left-1) (d+1) k
  unfold vE okE szE
  split
  ·rename_i h
   have:=ih
   grind
  ·rename_i h
   grind
theorem vEs_ok:∀(left d:Int) (k:List E),0<=left->((vEs left d k).1=true↔okEs d k=true/\(szEs k:Int)<=left)/\((vEs left d k).1=true->(vEs left d k).2=left-szEs k)
 | left,d,[],h=>by simp[vEs,okEs,szEs,h]
 | left,d,x::xs,h=>by
  have h1:=vE_ok left d x
  have h2:=vEs_ok (vE left d x).2 d xs
  unfold vEs okEs szEs
  split
  ·rename_i hx
   have e:=h1.2 hx
   have k:=h1.1.1 hx
   have h2:=h2 (by omega)
   grind
  ·grind
end
mutual
theorem cntE_ok:∀(d:Int) (e:E),1<=cntE d e/\(cntE d e<=1000↔okE d e=true/\szE e<=1000)/\(cntE d e<=1000->cntE d e=szE e)/\cntE d e<=1001+1000*(61-d).toNat
 | d,.mk op n s l k=>by
  have ih:=cntEs_ok (d+1) 1 k (by omega) (by omega)
  unfold cntE okE szE
  split
  ·grind
  ·split
   ·have:(61-d).toNat=(61-(d+1)).toNat+1:=by omega
    grind
   ·grind
theorem cntEs_ok:∀(d acc:Int) (k:List E),1<=acc->acc<=1000->acc<=qEB d acc k/\(qEB d acc k<=1000↔okEs d k=true/\acc+szEs k<=1000)/\(qEB d acc k<=1000->qEB d acc k=acc+szEs k)/\qEB d acc k<=2001+1000*(61-d).toNat
 | d,acc,[],h,h'=>by simp[qEB,okEs,szEs];omega
 | d,acc,x::xs,h,h'=>by
  have h1:=cntE_ok d x
  have h2:=cntEs_ok d (acc+cntE d x) xs (by omega)
  unfold qEB okEs szEs
  split
  ·grind
  ·have h2:=h2 (by omega)
   grind
end
theorem validE_cnt(e:E):decide (cntE 1 e<=1000)=qAO e:=by
 have:=cntE_ok 1 e
 unfold qAO
 grind
theorem validE_v(e:E):(vE 1000 1 e).1=qAO e:=by
 have:=(vE_ok 1000 1 e).1
 unfold qAO
 grind
theorem vE_bound{left d:Int}{e:E}(h:(vE left d e).1=true):0<=(vE left d e).2/\(vE left d e).2<=left:=by
 have:=vE_ok left d e
 grind
theorem cntE_eq(d:Int)(e:E):cntE d e=if 60<d then 1001 else if qDr e.op e.n e.s e.k.length=true then qEB (d+1) 1 e.k else 1001:=by
 cases e;unfold cntE;rfl
theorem vE_eq(left d:Int)(e:E):vE left d e=if 0<=left-1/\d<=60/\qDr e.op e.n e.s e.k.length=true then vEs (left-1) (d+1) e.k else (false,left-1):=by
 cases e;unfold vE;rfl
theorem cntEs_cons(d acc:Int)(x:E)(xs:List E):qEB d acc (x::xs)=if 1000<acc+cntE d x then acc+cntE d x else qEB d (acc+cntE d x) xs:=by rw[qEB]
theorem vEs_cons(left d:Int)(x:E)(xs:List E):vEs left d (x::xs)=if (vE left d x).1=true then vEs (vE left d x).2 d xs else (false,(vE left d x).2):=by rw[vEs]
theorem cntEs_nil(d acc:Int):qEB d acc []=acc:=by rw[qEB]
theorem vEs_nil(left d:Int):vEs left d []=(true,left):=by rw[vEs]
theorem c151{V:Mem}:∀e:E,E.Ok V e->∀d:Int,0<=d->d<=61->PP 151 [e.v,.int .i64 d] V (.int .i64 (cntE d e)):=by
 intro e
 induction e using E.ind with
 | h e ih =>
 intro ho d hd0 hd
 have hr:=ho.rows
 refine x151 ?_
 unfold w151
 refine⟨fun h=>?_,fun h=>(c200 (e:=e) rfl).call ⟨_,rfl,fun hn=>?_,fun hn=>?_⟩⟩
 ·rw[cntE_eq,if_pos h];exact⟨rfl,rfl⟩
 ·rw[hr.n_eq]at hn
  rw[cntE_eq,if_neg h,if_pos hn]
  refine loop3s qFw e.k.length (fun i acc V1=>V1=V/\1<=acc/\acc<=1000/\qEB (d+1) 1 e.k=qEB (d+1) acc (e.k.drop i)) ⟨rfl,by omega,by omega,rfl⟩ ?_
  rintro i acc c _ J hi ⟨rfl,ha0,ha,he⟩ hJ
  refine⟨fun hlt=>?_,fun hge=>?_⟩
  ·obtain⟨x,hm,hx,hdr,hl,hp,hz,hrow⟩:=hr.get hlt
   have hc:=cntE_ok (d+1) x
   rw[hdr,cntEs_cons]at he
   refine⟨hp,hz,hlt,_,_,_,_,hrow,⟨by omega,by omega⟩,(ih x hm (ho.kids x hm) (d+1) (by omega) (by omega)).call ⟨_,rfl,⟨by omega,by omega⟩,fun hb=>?_,fun hb=>⟨hr.succ hlt,?_⟩⟩⟩
   ·rw[if_pos hb]at he;rw[he];exact⟨rfl,rfl⟩
   ·rw[if_neg hb]at he;exact hJ hl _ _ _ ⟨rfl,by omega,by omega,he⟩
  ·rw[(hr.done hge).1,cntEs_nil]at he;rw[he];exact⟨rfl,rfl⟩
 ·rw[hr.n_eq]at hn
  rw[cntE_eq,if_neg h,if_neg hn];exact⟨rfl,rfl⟩
theorem c118{V:Mem}{e:E}(h:E.Ok V e):PP 118 [e.v] V (.bool (qAO e)):=by
 refine x118 ?_
 unfold w118
 refine(c151 e h 1 (by omega) (by omega)).call ⟨_,rfl,?_⟩
 rw[validE_cnt];exact⟨rfl,rfl⟩
theorem c143{V:Mem}{b t:Nat}{n:Int}(h:V b=some (cell (.int .i64 n) t))(h0:-1000<=n)(h1:n<=100000) :
  Tri Tryz.prog 143 #[pv b] V fun e V'=>e=.returned (.bool (decide (0<=n-1)))/\V'=V.set b (cell (.int .i64 (n-1)) t):=by
 refine x143 ?_
 unfold w143
 refine⟨by simp,by simp,_,qBG h,⟨by omega,by omega⟩,by simp,by simp,StT.cell h ⟨by simp,by simp,_,qBG mss,rfl,rfl⟩⟩
set_option maxRecDepth 10000 in
theorem c141{V0:Mem}[hT:Tab V0]{b t:Nat}(hb:V0 b=none):∀e:E,E.Ok V0 e->∀(V:Mem),V0.sub V->∀left d:Int,V b=some (cell (.int .i64 left) t)->0<=left->left<=1000->0<=d->d<=61 ->
    Tri Tryz.prog 141 #[e.v,.int .i64 d,pv b] V fun r V'=>r=.returned (.bool (vE left d e).1)/\V'=V.set b (cell (.int .i64 (vE left d e).2) t):=by
  intro e
  induction e using E.ind with
  | h e ih =>
  intro ho V hV left d hl hl0 hl1 hd0 hd
  have hr:=ho.rows
  have hn:=hr.n_eq
  refine Tri.less (x141 ?_)
  unfold w141
  refine c195.call ⟨_,_,rfl,Tri.mono (c143 hl (by omega) (by omega)) ?_⟩
  rintro _ _ ⟨rfl,rfl⟩
  refine⟨_,rfl,?_⟩
  -- no
  have no:¬(0<=left-1/\d<=60/\qDr e.op e.n e.s e.k.length=true)->∃W,(Ending.returned (.bool false)=Ending.returned (.bool (vE left d e).1)/\W=V.set b (cell (.int .i64 (vE left d e).2) t))/\W.sub (V.set b (cell (.int .i64 (left-1)) t)):=by
    intro h
    rw[vE_eq,if_neg h]
    exact⟨_,⟨rfl,rfl⟩,Mem.sub.refl _⟩
  -- yes
  have yes:(0<=left-1/\d<=60/\qDr e.op e.n e.s e.k.length=true)->qAD [(.int .i64 d)] 3 (V.set b (cell (.int .i64 (left-1)) t)) fun v10 V4 =>
        qAD [(pv b)] 191 V4 fun v11 V5 =>
        Tri Tryz.prog 145 #[(.slice e.l.p e.l.n e.l.c),(.func (.func 197) #[] #[(.pointer (qAa v10 0)),(.pointer (qAa v11 0))])] V5 fun r V6=>∃v12:Bool,r=.returned (.bool v12) /\
        ∃W,(Ending.returned (.bool (!v12))=Ending.returned (.bool (vE left d e).1)/\W=V.set b (cell (.int .i64 (vE left d e).2) t))/\W.sub V6:=by
    intro h b1 hb1 b2 hb2
    rw[vE_eq,if_pos h]
    have n1:b≠b1:=fun e=>by subst e;rw[Mem.set_same]at hb1;cases hb1
    have n2:b1≠b2:=fun e=>by subst e;rw[Mem.set_same]at hb2;cases hb2
    have n3:b≠b2:=fun e=>by subst e;rw[Mem.set_ne n1,Mem.set_same]at hb2;cases hb2
    rw[Mem.set_ne (fun e=>n1 e.symm)]at hb1
    rw[Mem.set_ne (fun e=>n2 e.symm),Mem.set_ne (fun e=>n3 e.symm)]at hb2
    have v1:V0 b1=none:=by cases h':V0 b1 with
      | none=>rfl
      | some x=>rw[hV _ _ h']at hb1;cases hb1
    have v2:V0 b2=none:=by cases h':V0 b2 with
      | none=>rfl
      | some x=>rw[hV _ _ h']at hb2;cases hb2
    let M:Int->Mem:=fun lf=>((V.set b (cell (.int .i64 lf) t)).set b1 (cell (.int .i64 d) 3)).set b2 (cell (pv b) 191)
    have hM:∀lf,V0.sub (M lf):=fun lf=>((hV.set hb _).set v1 _).set v2 _
    have hMb:∀lf,M lf b=some (cell (.int .i64 lf) t):=fun lf=>by simp only[M];rw[Mem.set_ne n3,Mem.set_ne n1,Mem.set_same]
    have hM1:∀lf,M lf b1=some (cell (.int .i64 d) 3):=fun lf=>by simp only[M];rw[Mem.set_ne n2,Mem.set_same]
    have hM2:∀lf,M lf b2=some (cell (pv b) 191):=fun lf=>by simp only[M];rw[Mem.set_same]
    have hMs:∀lf lf',(M lf).set b (cell (.int .i64 lf') t)=M lf':=fun lf lf'=>by
      simp only[M]
      rw[Mem.set_comm _ (fun e=>n3 e.symm),Mem.set_comm _ (fun e=>n1 e.symm),Mem.set_set]
    have hW:∀lf,(V.set b (cell (.int .i64 lf) t)).sub (M lf):=fun lf=>by
      refine((Mem.sub.refl _).set ?_ _).set ?_ _
      · rw[Mem.set_ne (fun e=>n1 e.symm)];exact hb1
      · rw[Mem.set_ne (fun e=>n3 e.symm)];exact hb2
    refine Tri.mono (g145 (l:=e.l) (xs:=e.k) (first:=[]) (caps:=[pv b1,pv b2]) Tryz.call197
      (fun i V1=>∃lf,V1=M lf/\0<=lf/\lf<=1000/\vEs (left-1) (d+1) e.k=vEs lf (d+1) (e.k.drop i)) (fun i V1=>∃lf,V1=M lf/\vEs (left-1) (d+1) e.k=(false,lf)) ?_ ⟨left-1,rfl,by omega,by omega,rfl⟩ ?_) ?_
    · rintro i _ ⟨lf,rfl,-⟩;exact hr.sub (hM lf)
    · rintro i x _ hx ⟨lf,rfl,hf0,hf1,he⟩
      have hm:=List.mem_of_getElem? hx
      have hil:=(List.getElem?_eq_some_iff.1 hx).1
      have hdr:e.k.drop i=x::e.k.drop (i+1):=by rw[List.drop_eq_getElem_cons hil,(List.getElem?_eq_some_iff.1 hx).2]
      rw[hdr,vEs_cons]at he
      refine x197 ?_
      unfold w197
      refine⟨_,qBG (hM1 lf),⟨by omega,by omega⟩,_,qBG (hM2 lf),Tri.mono (ih x hm (ho.kids x hm) (M lf) (hM lf) lf (d+1) (hMb lf) hf0 hf1 (by omega) (by omega)) ?_⟩
      rintro _ _ ⟨rfl,rfl⟩
      refine⟨_,rfl,_,rfl,fun hb=>?_,fun hb=>?_⟩
      · have hb:(vE lf (d+1) x).1=false:=by simpa using hb
        rw[if_neg (by rw[hb];simp)]at he
        exact⟨_,hMs _ _,he⟩
      · have hb:(vE lf (d+1) x).1=true:=by simpa using hb
        have:=vE_bound hb
        rw[if_pos hb]at he
        exact⟨_,hMs _ _,by omega,by omega,he⟩
    · rintro _ _ (⟨i,rfl,lf,rfl,he⟩|⟨rfl,lf,rfl,hf0,hf1,he⟩)
      · exact⟨_,rfl,_,⟨by rw[he];rfl,rfl⟩,by rw[he];exact hW lf⟩
      · rw[List.drop_length,vEs_nil]at he
        exact⟨_,rfl,_,⟨by rw[he];rfl,rfl⟩,by rw[he];exact hW lf⟩
  have key:qDr e.op e.n e.s e.k.length=(decide (qAR e.op≠-2/\(0<=qAR e.op->(e.k.length:Int)=qAR e.op)/\(qAR e.op=-1->(e.k.length:Int)<=6))&&(nmB e.op e.s&&numB e.op e.n)):=by unfold qDr;rw[Bool.and_assoc]
  have pr:-2<=qAR e.op:=by unfold qAR;grind
  rw[key]at no yes
  have hnI:(e.k.length:Int)=(e.l.n:Int):=by rw[hn]
  rw[hnI]at no yes
  generalize hkn:(e.l.n:Int)=kn at no yes ⊢
  generalize hpn:qAR e.op=pn at no yes pr ⊢
  generalize hnm:(nmB e.op e.s&&numB e.op e.n)=nm at no yes ⊢
  haveI:Tab (V.set b (cell (.int .i64 (left-1)) t)):=Tab.sub hT (hV.set hb _)
  refine⟨fun h8=>⟨fun h60=>no fun h=>absurd h.2.1 (Int.not_le.2 h60),fun h60=>⟨fun h7=>(c196 (e:=e)).call ⟨nm,by rw[hnm],fun h9=>?_,fun h9=>no ?_⟩,fun h7=>no ?_⟩⟩,fun h8=>no ?_⟩
  · have h7:pn≠-2:=of_decide_eq_true h7
    have h8:0<=left-1:=of_decide_eq_true h8
    rw[if_neg h7]
    have bad:¬((0<=pn->kn=pn)/\(pn=-1->kn<=6))->¬(0<=left-1/\d<=60/\(decide (pn≠-2/\(0<=pn->kn=pn)/\(pn=-1->kn<=6))&&nm)=true):=fun hb h=>by
      have:=h.2.2
      rw[Bool.and_eq_true,decide_eq_true_eq]at this
      exact hb this.1.2
    have good:((0<=pn->kn=pn)/\(pn=-1->kn<=6))->(0<=left-1/\d<=60/\(decide (pn≠-2/\(0<=pn->kn=pn)/\(pn=-1->kn<=6))&&nm)=true):=fun hb=>by
      refine⟨h8,by omega,?_⟩
      rw[Bool.and_eq_true,decide_eq_true_eq]
      exact⟨⟨h7,hb⟩,h9⟩
    refine⟨fun hp=>⟨fun hq=>⟨fun hm=>⟨fun h6=>no (bad (by omega)),fun h6=>yes (good (by omega))⟩,fun hm=>yes (good (by omega))⟩,fun hq=>no (bad (by omega))⟩,fun hp=>⟨fun hm=>⟨fun h6=>no (bad (by omega)),fun h6=>yes (good (by omega))⟩,fun hm=>yes (good (by omega))⟩⟩
  · intro h;have:=h.2.2;rw[Bool.and_eq_true]at this;exact h9 this.2
  · intro h;have:=h.2.2;rw[Bool.and_eq_true,decide_eq_true_eq]at this;exact h7 (decide_eq_true this.1.1)
  · intro h;exact h8 (decide_eq_true h.1)
theorem c107{V:Mem}[Tab V]{e:E}(h:E.Ok V e):PP 107 [e.v] V (.bool (qAO e)):=by
 refine Pur.mk (x107 ?_)
 unfold w107
 intro b hb
 refine Tri.mono (c141 hb e h _ (Mem.sub_new hb _) 1000 1 mss (by omega) (by omega) (by omega) (by omega)) ?_
 rintro _ _ ⟨rfl,rfl⟩
 rw[validE_v,Mem.set_set]
 exact⟨_,rfl,rfl,Mem.sub_new hb _⟩
def fop:List E->Int | []=>0|e::_=>e.op
def qGP(op:Int)(s:ByteArray)(es:List E)(nl nx:Int):Bool :=
 if op=1 then qAS s&&decide ((es.length:Int)=1/\nl=0/\nx=0) else if op=2 then qAS s&&decide ((es.length:Int)=2/\nl=0/\nx=0) else if op=3 then decide (s=qAm []/\(es.length:Int)=1)
 else if op=4 then decide (s=qAm []/\(es.length:Int)=1/\nx=0) else if op=5 then decide (s=qAm []/\(es.length:Int)<=1/\nl=0/\nx=0) else if op=6 then decide (s=qAm []/\(es.length:Int)=1/\fop es=7/\nl=0/\nx=0) else false
def qCb(op:Int)(s:ByteArray)(es:List E)(nl nx:Int):Bool:=qGP op s es nl nx&&es.all qAO
theorem c199{V:Mem}{s:S}(h:S.Ok V s){lo hi:Int}:PP 199 [s.v,.int .i64 lo,.int .i64 hi] V (.bool (decide (lo<=s.es.length/\(s.es.length:Int)<=hi)&&s.es.all qAO)):=by
 have hr:=h.eRows
 have hn:=hr.n_eq
 rw[show s.v=.agg #[.int .i64 s.op,.string s.s,.slice s.el.p s.el.n s.el.c,.slice s.ll.p s.ll.n s.ll.c,.slice s.xl.p s.xl.n s.xl.c] by unfold S.v;rw[S.row_eq];rfl]
 refine x199 ?_
 unfold w199
 refine⟨fun h1=>?_,fun h1=>⟨fun h2=>?_,fun h2=>?_⟩⟩
 ·rw[decide_eq_false (by omega)];exact⟨rfl,rfl⟩
 ·rw[decide_eq_false (by omega)];exact⟨rfl,rfl⟩
 ·rw[decide_eq_true (by omega),Bool.true_and]
  refine qAC s.es.length (fun i V1=>V1=V/\s.es.all qAO=(s.es.drop i).all qAO) ⟨rfl,rfl⟩ ?_
  rintro i b _ J hi ⟨rfl,he⟩ hJ
  refine⟨fun hlt=>?_,fun hge=>?_⟩
  ·obtain⟨x,hm,hx,hdr,hl,hp,hz,hrow⟩:=hr.get hlt
   rw[hdr,List.all_cons]at he
   refine⟨hp,hz,hlt,_,_,_,_,hrow,(c118 (h.eOk x hm)).call ⟨_,rfl,fun hb=>⟨hr.succ hlt,hJ hl _ _ ⟨rfl,?_⟩⟩,fun hb=>?_⟩⟩
   ·rw[he,hb,Bool.true_and]
   ·rw[he,eq_false_of_ne_true hb,Bool.false_and];exact⟨rfl,rfl⟩
  ·rw[he,(hr.done hge).1];exact⟨rfl,rfl⟩
theorem qFZ{V:Mem}{s:S}(h:S.Ok V s):(s.es=[]/\s.el.n=0)∨∃e0 r,s.es=e0::r/\0<s.el.n/\¬(s.el.p=none)/\¬(qAa s.el.p 0=none)/\V.rowp s.el.p 0 4=some [.int .i64 e0.op,.int .i64 e0.n,.string e0.s,.slice e0.l.p e0.l.n e0.l.c]:=by
 have hr:=h.eRows
 have hn:=hr.n_eq
 cases hes:s.es with
 | nil=>exact .inl ⟨rfl,by rw[hn,hes];rfl⟩
 | cons e0 r =>
  have h0:((0:Nat):Int)<(s.el.n:Int):=by rw[hn,hes,List.length_cons];omega
  obtain⟨x,hm,hx,hdr,hl,hp,hz,hrow⟩:=hr.get h0
  rw[hes]at hx
  simp only[List.getElem?_cons_zero,Option.some.injEq]at hx
  subst hx
  refine .inr ⟨e0,r,rfl,by omega,hp,fun e=>?_,?_⟩
  ·cases hq:s.el.p with
   | none=>exact hp hq
   | some a=>rw[hq]at e;cases e
  ·simpa [E.row,vI,vS,Sl.v]using hrow
set_option maxRecDepth 4000 in
theorem c150{V:Mem}{s:S}(h:S.Ok V s):PP 150 [s.v] V (.bool (qCb s.op s.s s.es s.ls.length s.xs.length)):=by
 have hf:=qFZ h
 have cx:=fun lo hi=>c199 h (lo:=lo) (hi:=hi)
 have hnl:=h.lRows.n_eq
 have hnx:=h.xRows.n_eq
 rw[show s.v=.agg #[.int .i64 s.op,.string s.s,.slice s.el.p s.el.n s.el.c,.slice s.ll.p s.ll.n s.ll.c,.slice s.xl.p s.xl.n s.xl.c] by unfold S.v;rw[S.row_eq];rfl]at cx ⊢
 refine x150 ?_
 unfold w150
 rw[<- hnl,<- hnx]
 generalize hX:qCb s.op s.s s.es s.ll.n s.xl.n=X
 have key:∀b:Bool,X=b->Ending.returned (.bool b)=Ending.returned (.bool X):=fun n h=>by rw[h]
 unfold qCb qGP at hX
 generalize hva:s.es.all qAO=va at cx
 rcases hf with⟨he,hn⟩|⟨e0,r,he,hn,hp,hp2,hrow⟩
 ·have hlen:(s.es.length:Int)=0:=by rw[he];rfl
  have hlen':s.es.length=0:=by rw[he];rfl
  rw[hlen]at cx
  rw[hva,hlen]at hX
  repeat' (first|refine c86.call ⟨_,rfl,?_⟩|refine(cx _ _).call ⟨_,rfl,?_⟩|apply And.intro|intro _)
  all_goals first|rfl | (refine key _ ?_;clear key cx;grind) | (exfalso;clear key cx;grind)
 ·have hfo:fop s.es=e0.op:=by rw[he];rfl
  generalize hlen:(s.es.length:Int)=len at cx
  rw[hva,hlen,hfo]at hX
  have hl0:0<len:=by rw[<- hlen,he,List.length_cons];omega
  have hns:(s.el.n:Int)=len:=by rw[<- hlen,h.eRows.n_eq]
  have c11:=cx 1 1
  have c22:=cx 2 2
  have c01:=cx 0 1
  rw[show decide (1<=len/\len<=1)=decide (len=1) by grind]at c11
  rw[show decide (2<=len/\len<=2)=decide (len=2) by grind]at c22
  rw[show decide (0<=len/\len<=1)=decide (len<=1) by grind]at c01
  repeat' (first|refine c86.call ⟨_,rfl,?_⟩|refine c11.call ⟨_,rfl,?_⟩|refine c22.call ⟨_,rfl,?_⟩|refine c01.call ⟨_,rfl,?_⟩|refine⟨_,_,_,_,hrow,?_⟩|exact hp|exact hp2|apply And.intro|intro _)
  all_goals first|rfl | (refine key _ ?_;clear key cx c11 c22 c01;grind) | omega | (exfalso;clear key cx c11 c22 c01;grind)
mutual
def okS(d:Int):S->Bool | .mk op s _ es _ ls _ xs=>decide (d<=60)&&qCb op s es ls.length xs.length&&qHB (d+1) ls&&qHB (d+1) xs
def qHB(d:Int):List S->Bool | []=>true|x::xs=>okS d x&&qHB d xs
end
mutual
def szS:S->Nat | .mk _ _ _ _ _ ls _ xs=>1+qHi ls+qHi xs
def qHi:List S->Nat | []=>0|x::xs=>szS x+qHi xs
end
mutual
def cntS(d acc:Int):S->Int
 | .mk op s _ es _ ls _ xs =>
  if 60<d then 201 else if qCb op s es ls.length xs.length=true then
    if acc+1<=200 then
      if acc+1+qCn (d+1) 0 ls<=200 then acc+1+qCn (d+1) 0 ls+qCn (d+1) 0 xs else acc+1+qCn (d+1) 0 ls
    else acc+1
  else 201
def qCn(d acc:Int):List S->Int | []=>acc|x::xs=>if 200<cntS d acc x then cntS d acc x else qCn d (cntS d acc x) xs
end
def gd{α:Type}(d left:Int)(l:List α)(r:Bool×Int):Bool×Int:=if 60<d/\l≠[] then (false,left) else r
mutual
def vS(left d:Int):S->Bool×Int
 | .mk op s _ es _ ls _ xs =>
  if 0<=left-1/\qCb op s es ls.length xs.length=true then
    if (gd (d+1) (left-1) ls (vSs (left-1) (d+1) ls)).1=true then
      gd (d+1) (gd (d+1) (left-1) ls (vSs (left-1) (d+1) ls)).2 xs (vSs (gd (d+1) (left-1) ls (vSs (left-1) (d+1) ls)).2 (d+1) xs)
    else (false,(gd (d+1) (left-1) ls (vSs (left-1) (d+1) ls)).2)
  else (false,left-1)
def vSs(left d:Int):List S->Bool×Int | []=>(true,left) | x::xs=>if (vS left d x).1=true then vSs (vS left d x).2 d xs else (false,(vS left d x).2)
end
def vSl(left d:Int)(l:List S):Bool×Int:=gd d left l (vSs left d l)
theorem vSs_cons(left d:Int)(x:S)(xs:List S):vSs left d (x::xs)=if (vS left d x).1=true then vSs (vS left d x).2 d xs else (false,(vS left d x).2):=by rw[vSs]
theorem vSs_nil(left d:Int):vSs left d []=(true,left):=by rw[vSs]
theorem cntSs_cons(d acc:Int)(x:S)(xs:List S):qCn d acc (x::xs)=if 200<cntS d acc x then cntS d acc x else qCn d (cntS d acc x) xs:=by rw[qCn]
theorem cntSs_nil(d acc:Int):qCn d acc []=acc:=by rw[qCn]
theorem vS_eq(left d:Int)(x:S):vS left d x=if 0<=left-1/\qCb x.op x.s x.es x.ls.length x.xs.length=true then (if (vSl (left-1) (d+1) x.ls).1=true then vSl (vSl (left-1) (d+1) x.ls).2 (d+1) x.xs else (false,(vSl (left-1) (d+1) x.ls).2)) else (false,left-1):=by
 cases x;unfold vS;rfl
theorem cntS_eq(d acc:Int)(x:S):cntS d acc x=if 60<d then 201 else if qCb x.op x.s x.es x.ls.length x.xs.length=true then
  if acc+1<=200 then
   if acc+1+qCn (d+1) 0 x.ls<=200 then acc+1+qCn (d+1) 0 x.ls+qCn (d+1) 0 x.xs else acc+1+qCn (d+1) 0 x.ls
  else acc+1
 else 201:=by
 cases x;unfold cntS;rfl
mutual
theorem cntS_ok:∀(d acc:Int) (e:S),0<=acc->acc<=200->acc+1<=cntS d acc e/\(cntS d acc e<=200↔okS d e=true/\acc+szS e<=200)/\(cntS d acc e<=200->cntS d acc e=acc+szS e)/\cntS d acc e<=201+200*(61-d).toNat
 | d,acc,.mk op s _ es _ ls _ xs,h,h'=>by
  have i1:=qEW (d+1) 0 ls (by omega) (by omega)
  have i2:=qEW (d+1) 0 xs (by omega) (by omega)
  unfold cntS okS szS
  have:60<d∨(61-d).toNat=(61-(d+1)).toNat+1:=by omega
  split
  ·grind
  ·split
   ·split
    ·split <;> grind
    ·grind
   ·grind
theorem qEW:∀(d acc:Int) (k:List S),0<=acc->acc<=200->acc<=qCn d acc k/\(qCn d acc k<=200↔qHB d k=true/\acc+qHi k<=200)/\(qCn d acc k<=200->qCn d acc k=acc+qHi k)/\qCn d acc k<=201+200*(61-d).toNat
 | d,acc,[],h,h'=>by simp[qCn,qHB,qHi];omega
 | d,acc,x::xs,h,h'=>by
  have h1:=cntS_ok d acc x h h'
  have h2:=qEW d (cntS d acc x) xs (by omega)
  unfold qCn qHB qHi
  split
  ·grind
  ·have h2:=h2 (by omega)
   grind
end
theorem okSs_deep{d:Int}(h:60<d):∀l:List S,l≠[]->qHB d l=false
 | [],hl=>absurd rfl hl
 | .mk _ _ _ _ _ _ _ _::xs,_=>by
  have:¬d<=60:=by omega
  simp[qHB,okS,this]
mutual
theorem vS_ok:∀(left d:Int) (e:S),d<=60->((vS left d e).1=true↔okS d e=true/\(szS e:Int)<=left)/\((vS left d e).1=true->(vS left d e).2=left-szS e)
 | left,d,.mk op s _ es _ ls _ xs,hd=>by
  have i1:=vSs_ok (left-1) (d+1) ls
  have i2:=fun l=>vSs_ok l (d+1) xs
  have d1:=fun h=>okSs_deep (d:=d+1) h ls
  have d2:=fun h=>okSs_deep (d:=d+1) h xs
  unfold vS okS szS gd
  by_cases h0:0<=left-1/\qCb op s es ls.length xs.length=true
  ·rw[if_pos h0]
   by_cases hl:60<d+1/\ls≠[]
   ·have:=d1 hl.1 hl.2
    simp[hl,this]
   ·rw[if_neg hl]
    have i1:=i1 h0.1 hl
    by_cases hx:60<d+1/\xs≠[]
    ·have:=d2 hx.1 hx.2
     simp[hx,this]
    ·simp only[if_neg hx]
     by_cases hv:(vSs (left-1) (d+1) ls).1=true
     ·have e1:=i1.2 hv
      have k1:=i1.1.1 hv
      have i2:=i2 (vSs (left-1) (d+1) ls).2 (by omega) hx
      rw[if_pos hv]
      rw[Bool.and_eq_true,Bool.and_eq_true,Bool.and_eq_true,decide_eq_true_eq]
      refine⟨⟨fun h=>?_,fun h=>?_⟩,fun h=>?_⟩
      ·have:=i2.1.1 h
       exact⟨⟨⟨⟨hd,h0.2⟩,k1.1⟩,this.1⟩,by omega⟩
      ·exact i2.1.2 ⟨h.1.2,by omega⟩
      ·rw[i2.2 h];omega
     ·rw[if_neg hv]
      have:¬(qHB (d+1) ls=true/\(qHi ls:Int)<=left-1):=fun h=>hv (i1.1.2 h)
      refine⟨⟨fun h=>absurd h (by simp),fun h=>?_⟩,fun h=>absurd h (by simp)⟩
      rw[Bool.and_eq_true,Bool.and_eq_true]at h
      exact absurd ⟨h.1.1.2,by omega⟩ this
  ·rw[if_neg h0]
   refine⟨⟨fun h=>absurd h (by simp),fun h=>?_⟩,fun h=>absurd h (by simp)⟩
   rw[Bool.and_eq_true,Bool.and_eq_true,Bool.and_eq_true]at h
   exact absurd ⟨by omega,h.1.1.1.2⟩ h0
theorem vSs_ok:∀(left d:Int) (k:List S),0<=left->¬(60<d/\k≠[])->((vSs left d k).1=true↔qHB d k=true/\(qHi k:Int)<=left)/\((vSs left d k).1=true->(vSs left d k).2=left-qHi k)
 | left,d,[],h,_=>by simp[vSs,qHB,qHi,h]
 | left,d,x::xs,h,hd=>by
  have h1:=vS_ok left d x (by simp at hd;omega)
  have h2:=vSs_ok (vS left d x).2 d xs
  rw[vSs_cons]
  unfold qHB qHi
  split
  ·rename_i hx
   have e:=h1.2 hx
   have k:=h1.1.1 hx
   have h2:=h2 (by omega) (by simp at hd;omega)
   grind
  ·grind
end
def qFn(l:List S):Bool:=decide (qHB 1 l=true/\qHi l<=200)
theorem validSs_cnt(l:List S):decide (qCn 1 0 l<=200)=qFn l:=by
 have:=qEW 1 0 l (by omega) (by omega)
 unfold qFn
 grind
theorem validSs_v(l:List S):(vSl 200 1 l).1=qFn l:=by
 have:=(vSs_ok 200 1 l (by omega) (by omega)).1
 unfold qFn vSl gd
 rw[if_neg (by omega)]
 grind
theorem S.v_eq(s:S):s.v=.agg #[.int .i64 s.op,.string s.s,.slice s.el.p s.el.n s.el.c,.slice s.ll.p s.ll.n s.ll.c,.slice s.xl.p s.xl.n s.xl.c]:=by unfold S.v;rw[S.row_eq];rfl
theorem S.row_get{V:Mem}{p:Option Addr}{i:Nat}{x:S}(h:V.rowp p i 5=some x.row):V.rowp p i 5=some [.int .i64 x.op,.string x.s,.slice x.el.p x.el.n x.el.c,.slice x.ll.p x.ll.n x.ll.c,.slice x.xl.p x.xl.n x.xl.c]:=by
 rw[h,S.row_eq];rfl
theorem qAe{p:Option Addr}{n:Nat}(h:¬(p=none)):¬(qAa p n=none):=by
 cases p with
 | none=>exact absurd rfl h
 | some a=>intro e;cases e
def CntP(V:Mem)(l:List S):Prop:=∀(sl:Sl) (d:Int),qAd V sl 5 (l.map S.row)->(∀x∈l,S.Ok V x)->0<=d->d<=61->PP 117 [sl.v,.int .i64 d] V (.int .i64 (qCn d 0 l))
theorem qIO{V:Mem}{l:List S}(hk:∀x∈l,CntP V x.ls/\CntP V x.xs):CntP V l:=by
 intro sl d hr hok hd0 hd
 refine x117 ?_
 unfold w117
 refine loop3s qFw l.length (fun i acc V1=>V1=V/\0<=acc/\acc<=200/\qCn d 0 l=qCn d acc (l.drop i)) ⟨rfl,by omega,by omega,rfl⟩ ?_
 rintro i acc c V1 J hi ⟨rfl,ha0,ha,he⟩ hJ
 refine⟨fun hlt=>?_,fun hge=>?_⟩
 ·obtain⟨x,hm,hx,hdr,hl,hp,hz,hrow⟩:=hr.get hlt
  have hrow:=S.row_get hrow
  have hox:=hok x hm
  have hn1:=hox.lRows.n_eq
  have hn2:=hox.xRows.n_eq
  rw[hdr,cntSs_cons]at he
  have hc:=cntS_eq d acc x
  have cs:=c150 hox
  rw[S.v_eq]at cs
  have bad:cntS d acc x=201->(Ending.returned (.int .i64 201)=Ending.returned (.int .i64 (qCn d 0 l))/\V1=V1):=fun h=>by
   rw[h,if_pos (by omega)]at he;rw[he];exact⟨rfl,rfl⟩
  have over:∀n,cntS d acc x=n->200<n->(Ending.returned (.int .i64 n)=Ending.returned (.int .i64 (qCn d 0 l))/\V1=V1):=fun n h hn=>by
   rw[h,if_pos hn]at he;rw[he];exact⟨rfl,rfl⟩
  have on:∀n c',cntS d acc x=n->0<=n->¬200<n->J [.int .i64 n,.int .i64 c',   .int .i64 ((i:Int)+1)] V1:=fun n c' h h0 hn=>by
   rw[h,if_neg hn]at he
   exact hJ hl _ _ _ ⟨rfl,h0,by omega,he⟩
  refine⟨fun h60=>bad (by rw[hc,if_pos h60]),fun h60=>⟨hp,hz,hlt,_,_,_,_,_,hrow,cs.call ⟨_,rfl,fun hs=>⟨⟨by omega,by omega⟩,fun h1=>?_,fun h1=>?_⟩,fun hs=>bad (by rw[hc,if_neg h60,if_neg hs])⟩⟩⟩
  ·rw[if_neg h60,if_pos hs,if_pos h1]at hc
   have b1:=qEW (d+1) 0 x.ls (by omega) (by omega)
   have b2:=qEW (d+1) 0 x.xs (by omega) (by omega)
   refine⟨hp,hz,hlt,qAe hp,_,_,_,_,_,hrow,⟨by omega,by omega⟩,((hk x hm).1 x.ll (d+1) hox.lRows hox.lOk (by omega) (by omega)).call ⟨_,rfl,⟨by omega,by omega⟩,fun h2=>?_,fun h2=>?_⟩⟩
   ·rw[if_pos h2]at hc
    refine⟨hp,hz,hlt,qAe hp,_,_,_,_,_,hrow,⟨by omega,by omega⟩,((hk x hm).2 x.xl (d+1) hox.xRows hox.xOk (by omega) (by omega)).call ⟨_,rfl,⟨by omega,by omega⟩,fun h3=>over _ hc h3,fun h3=>⟨hr.succ hlt,on _ _ hc (by omega) h3⟩⟩⟩
   ·rw[if_neg h2]at hc
    exact⟨fun h3=>over _ hc h3,fun h3=>absurd h3 (by omega)⟩
  ·rw[if_neg h60,if_pos hs,if_neg h1]at hc
   exact⟨fun h2=>absurd h2 h1,fun h2=>⟨fun h3=>over _ hc h3,fun h3=>absurd h3 (by omega)⟩⟩
 ·rw[(hr.done hge).1,cntSs_nil]at he;rw[he];exact⟨rfl,rfl⟩
theorem cntP_S(V:Mem):∀s:S,CntP V s.ls/\CntP V s.xs:=by
 intro s
 induction s using S.ind with
 | h s i1 i2=>exact⟨qIO i1,qIO i2⟩
theorem c117{V:Mem}{l:List S}{sl:Sl}{d:Int}(hr:qAd V sl 5 (l.map S.row))(hok:∀x∈l,S.Ok V x)(h0:0<=d)(h1:d<=61):PP 117 [sl.v,.int .i64 d] V (.int .i64 (qCn d 0 l)) :=
 qIO (fun x _=>cntP_S V x) sl d hr hok h0 h1
set_option maxRecDepth 4000 in
theorem c144{V:Mem}[Tab V]{s:S}(h:S.Ok V s):PP 144 [s.v] V (.bool (qGP s.op s.s s.es s.ls.length s.xs.length)):=by
 have hf:=qFZ h
 have hnl:=h.lRows.n_eq
 have hnx:=h.xRows.n_eq
 have hne:=h.eRows.n_eq
 rw[S.v_eq]
 refine x144 ?_
 unfold w144
 rw[<- hnl,<- hnx]
 generalize hX:qGP s.op s.s s.es s.ll.n s.xl.n=X
 have key:∀b:Bool,X=b->Ending.returned (.bool b)=Ending.returned (.bool X):=fun n h=>by rw[h]
 unfold qGP at hX
 rw[<- hne]at hX
 have hn0:(0:Int)<=(s.el.n:Int):=by omega
 have hn1:(0:Int)<=(s.ll.n:Int):=by omega
 have hn2:(0:Int)<=(s.xl.n:Int):=by omega
 generalize hne':(s.el.n:Int)=ne at hX hn0
 generalize (s.ll.n:Int)=nl at hX hn1
 generalize (s.xl.n:Int)=nx at hX hn2
 rcases hf with⟨he,hn⟩|⟨e0,r,he,hn,hp,hp2,hrow⟩
 ·have:ne=0:=by omega
  subst this
  clear hnl hnx hne hn
  repeat' (first|refine c75.call ⟨_,rfl,?_⟩|apply And.intro|intro _)
  all_goals first|rfl | (refine key _ ?_;clear key h he;grind) | (exfalso;clear key h he;grind)
 ·have hfo:fop s.es=e0.op:=by rw[he];rfl
  rw[hfo]at hX
  have hn':0<ne:=by omega
  clear hnl hnx hne hn
  repeat' (first|refine c75.call ⟨_,rfl,?_⟩|refine⟨_,_,_,_,hrow,?_⟩|exact hp|exact hp2|exact hn'|apply And.intro|intro _)
  all_goals first|rfl | (refine key _ ?_;clear key h he hrow hp hp2;grind) | (exfalso;clear key h he hrow hp hp2;grind) | omega
theorem c146{V:Mem}[Tab V]{e:E}(h:E.Ok V e):PP 146 [e.v] V (.bool (!qAO e)):=by
 refine x146 ?_
 unfold w146
 exact(c107 h).call ⟨_,rfl,rfl,rfl⟩
theorem vSl_bound{left d:Int}{l:List S}(h0:0<=left)(h:(vSl left d l).1=true):0<=(vSl left d l).2/\(vSl left d l).2<=left:=by
 unfold vSl gd at h ⊢
 split at h
 ·cases h
 ·rename_i hn
  rw[if_neg hn]
  have:=vSs_ok left d l h0 hn
  grind
theorem vSl_eq{left d:Int}{l:List S}(h:¬(60<d/\l≠[])):vSl left d l=vSs left d l:=by unfold vSl gd;rw[if_neg h]
section
variable{V0:Mem}{b t:Nat}
def StP(V0:Mem)(b t:Nat)(l:List S):Prop:=∀(sl:Sl) (d left:Int) (V:Mem),qAd V0 sl 5 (l.map S.row)->(∀x∈l,S.Ok V0 x)->V0.sub V->V b=some (cell (.int .i64 left) t)->0<=left->left<=200->0<=d->d<=61 ->
 Tri Tryz.prog 112 #[sl.v,.int .i64 d,pv b] V fun r V'=>r=.returned (.bool (vSl left d l).1)/\V'=V.set b (cell (.int .i64 (vSl left d l).2) t)
theorem qKa[hT:Tab V0](hb:V0 b=none){l:List S}(hk:∀x∈l,StP V0 b t x.ls/\StP V0 b t x.xs):StP V0 b t l:=by
 intro sl d left V hr hok hV hcell hl0 hl1 hd0 hd
 have hn:=hr.n_eq
 refine x112 ?_
 unfold w112
 have hM:∀lf,V0.sub (V.set b (cell (.int .i64 lf) t)):=fun lf=>hV.set hb _
 refine⟨fun h0=>⟨fun h60=>?_,fun h60=>?_⟩,fun h0=>?_⟩
 ·have:vSl left d l=(false,left):=by
   unfold vSl gd
   rw[if_pos ⟨h60,fun e=>by rw[e]at hn;simp at hn;omega⟩]
  rw[this]
  exact⟨rfl,(Mem.set_eq hcell).symm⟩
 all_goals
  have hnd:¬(60<d/\l≠[]):=by
   first
   | exact fun h=>h60 h.1
   | exact fun h=>h.2 (List.eq_nil_of_length_eq_zero (by omega))
  rw[vSl_eq hnd]
  refine qAC l.length (fun i V1=>∃lf,V1=V.set b (cell (.int .i64 lf) t)/\0<=lf/\lf<=200/\vSs left d l=vSs lf d (l.drop i)) ⟨left,(Mem.set_eq hcell).symm,hl0,hl1,rfl⟩ ?_
  rintro i c _ J hi ⟨lf,rfl,hf0,hf1,he⟩ hJ
  refine⟨fun hlt=>?_,fun hge=>?_⟩
  ·obtain⟨x,hm,hx,hdr,hl,hp,hz,hrow⟩:=(hr.sub (hM lf)).get hlt
   have hrow:=S.row_get hrow
   have hox:=hok x hm
   rw[hdr,vSs_cons]at he
   have hv:=vS_eq lf d x
   have cs:=fun V (h0:V0.sub V) (h:S.Ok V x)=>(haveI:Tab V:=Tab.sub hT h0;c144 h)
   rw[S.v_eq]at cs
   have no:∀n,vS lf d x=(false,n)->(Ending.returned (.bool false)=Ending.returned (.bool (vSs left d l).1)/\V.set b (cell (.int .i64 n) t)=V.set b (cell (.int .i64 (vSs left d l).2) t)):=fun n h=>by
    rw[h]at he
    rw[he];exact⟨rfl,rfl⟩
   refine⟨hp,hz,hlt,_,_,_,_,_,hrow,Tri.mono (c143 mss (by omega) (by omega)) ?_⟩
   rintro _ _ ⟨rfl,rfl⟩
   rw[Mem.set_set]
   refine⟨_,rfl,fun h8=>(cs _ (hM _) (hox.sub (hM _))).call ⟨_,rfl,fun hs=>?_,fun hs=>?_⟩,fun h8=>?_⟩
   ·have h8:0<=lf-1:=of_decide_eq_true h8
    refine(c145 (first:=[]) (caps:=[]) (l:=x.el) (hox.eRows.sub (hM _)) Tryz.call146 (fun e=>!qAO e) (fun e hm=>haveI:Tab (V.set b (cell (.int .i64 (lf-1)) t)):=Tab.sub hT (hM (lf-1));c146 ((hox.eOk e hm).sub (hM _)))).call ⟨_,rfl,fun ha=>?_,fun ha=>?_⟩
    ·have hal:x.es.all qAO=false:=by
      rw[List.any_eq_not_all_not]at ha
      simpa using ha
     rw[if_neg (fun h=>by have:=h.2;unfold qCb at this;rw[hal,Bool.and_false]at this;cases this)]at hv
     exact no _ hv
    ·have hal:x.es.all qAO=true:=by
      rw[List.any_eq_not_all_not]at ha
      simpa using ha
     have hsr:qCb x.op x.s x.es x.ls.length x.xs.length=true:=by unfold qCb;rw[hs,hal];rfl
     rw[if_pos ⟨h8,hsr⟩]at hv
     refine⟨⟨by omega,by omega⟩,Tri.mono ((hk x hm).1 x.ll (d+1) (lf-1) _ hox.lRows hox.lOk (hM _) mss h8 (by omega) (by omega) (by omega)) ?_⟩
     rintro _ _ ⟨rfl,rfl⟩
     rw[Mem.set_set]
     refine⟨_,rfl,fun h1=>⟨⟨by omega,by omega⟩,?_⟩,fun h1=>?_⟩
     ·rw[if_pos h1]at hv
      have b1:=vSl_bound h8 h1
      refine Tri.mono ((hk x hm).2 x.xl (d+1) _ _ hox.xRows hox.xOk (hM _) mss b1.1 (by omega) (by omega) (by omega)) ?_
      rintro _ _ ⟨rfl,rfl⟩
      rw[Mem.set_set]
      refine⟨_,rfl,fun h2=>?_,fun h2=>?_⟩
      ·have b2:=vSl_bound b1.1 h2
       rw[hv,if_pos h2]at he
       exact⟨(hr.sub (hM lf)).succ hlt,hJ hl _ _ ⟨_,rfl,b2.1,by omega,he⟩⟩
      ·rw[<- hv]at h2 ⊢
       exact no _ (Prod.ext (eq_false_of_ne_true h2) rfl)
     ·rw[if_neg h1]at hv
      exact no _ hv
   ·rw[if_neg (fun h=>by have:=h.2;unfold qCb at this;rw[eq_false_of_ne_true hs,Bool.false_and]at this;cases this)]at hv
    exact no _ hv
   ·rw[if_neg (fun h=>h8 (decide_eq_true h.1))]at hv
    exact no _ hv
  ·rw[((hr.sub (hM lf)).done hge).1,vSs_nil]at he
   rw[he];exact⟨rfl,rfl⟩
theorem stP_S[hT:Tab V0](hb:V0 b=none):∀s:S,StP V0 b t s.ls/\StP V0 b t s.xs:=by
 intro s
 induction s using S.ind with
 | h s i1 i2=>exact⟨qKa hb i1,qKa hb i2⟩
theorem c112[hT:Tab V0](hb:V0 b=none)(l:List S):StP V0 b t l:=qKa hb fun x _=>stP_S hb x
end
def qAY{α:Type}(p:α->Bool)(xs:List α)(i:Nat):Prop:=∀j x,j<i->xs[j]?=some x->p x=true
theorem qAY.zero{α:Type}(p:α->Bool)(xs:List α):qAY p xs 0:=fun _ _ h=>absurd h (Nat.not_lt_zero _)
theorem qAY.succ{α:Type}{p:α->Bool}{xs:List α}{i:Nat}{x:α}(h:qAY p xs i)(hx:xs[i]?=some x)(hp:p x=true):qAY p xs (i+1):=fun j y hj hy=>by
 rcases Nat.lt_succ_iff_lt_or_eq.1 hj with h'|rfl
 ·exact h j y h' hy
 ·rw[hx]at hy;cases hy;exact hp
theorem qAY.all{α:Type}{p:α->Bool}{xs:List α}{i:Nat}(h:qAY p xs i)(hi:xs.length<=i):xs.all p=true :=
 List.all_eq_true.2 fun x hx=>by
  obtain⟨j,hj,rfl⟩:=List.mem_iff_getElem.1 hx
  exact h j _ (by omega) (List.getElem?_eq_getElem hj)
theorem qBD{α:Type}{p:α->Bool}{xs:List α}{x:α}(h:x∈xs)(hp:¬p x=true):xs.all p=false:=by
 cases h':xs.all p with
 | false=>rfl
 | true=>exact absurd (List.all_eq_true.1 h' x h) hp
def qAP:ByteArray:=qAm [105,110,116]
def qAu:ByteArray:=qAm [98,111,111,108]
def typB(s:ByteArray):Bool:=decide (s=qAP)||decide (s=qAu)||qAS s
def openB(s:ByteArray):Bool:=decide (s=qAm [])||qAS s
def fldB(f:Fld):Bool:=qAS f.name&&typB f.ty
def qDN(l:List Fld)(most:Int):Bool:=decide ((l.length:Int)<=most)&&l.all fldB
def tyB(t:Ty):Bool:=qAS t.name&&qDN t.fields 12
def prB(p:Pr):Bool:=qAS p.name&&qDN p.params 6&&qDN p.locals 12&&(decide (p.result=qAm [])||typB p.result)&&qFn p.body
def msB(m:Ms):Bool:=qAS m.name&&qAS m.ty&&decide (-1099511627776<=m.nil/\m.nil<=1099511627776)&&qAO m.x
def ivB(m:Iv):Bool:=qAS m.name&&openB m.ty&&qAO m.x
def poB(m:Po):Bool:=openB m.ty&&qAO m.x
def bdB(m:Bd):Bool:=qAS m.proc&&qAO m.x
def qJf(d:Ds):Bool:=d.measures.all msB&&d.invs.all ivB&&d.pots.all poB&&d.bounds.all bdB
def lensB(d:Ds):Bool:=decide ((d.measures.length:Int)<=12/\(d.invs.length:Int)<=12/\(d.pots.length:Int)<=12/\(d.bounds.length:Int)<=12)
def qAT(d:Ds):Bool:=qAS d.name&&decide ((d.types.length:Int)<=12)&&qDN d.globals 8&&decide ((d.procs.length:Int)<=40)&&lensB d&&d.types.all tyB&&d.procs.all prB&&qJf d
theorem c116{V:Mem}{s:ByteArray}:PP 116 [.string s] V (.bool (typB s)):=by
 refine x116 ?_
 unfold w116
 refine⟨fun h=>?_,fun h=>⟨fun h1=>?_,fun h1=>c86.call ⟨_,rfl,?_⟩⟩⟩ <;> simp[typB,qAP,qAu, *]
theorem c106{V:Mem}[Tab V]{s:ByteArray}:PP 106 [.string s] V (.bool (typB s)):=by
 refine x106 ?_
 unfold w106
 refine⟨fun h=>?_,fun h=>⟨fun h1=>?_,fun h1=>c75.call ⟨_,rfl,?_⟩⟩⟩ <;> simp[typB,qAP,qAu, *]
theorem c119{V:Mem}{s:ByteArray}:PP 119 [.string s] V (.bool (openB s)):=by
 refine x119 ?_
 unfold w119
 refine⟨fun h=>?_,fun h=>c86.call ⟨_,rfl,?_⟩⟩ <;> simp[openB, *]
theorem c108{V:Mem}[Tab V]{s:ByteArray}:PP 108 [.string s] V (.bool (openB s)):=by
 refine x108 ?_
 unfold w108
 refine⟨fun h=>?_,fun h=>c75.call ⟨_,rfl,?_⟩⟩ <;> simp[openB, *]
theorem c87{V:Mem}{l:Sl}{xs:List Fld}{n:Int}(hr:qAd V l 2 (xs.map Fld.row)):PP 87 [l.v,.int .i64 n] V (.bool (qDN xs n)):=by
 refine x87 ?_
 unfold w87
 have hn:=hr.n_eq
 refine⟨fun h=>?_,fun h=>?_⟩
 ·have:¬((xs.length:Int)<=n):=by omega
  simp[qDN,this]
 ·have hle:(xs.length:Int)<=n:=by omega
  refine qAC xs.length (fun i V1=>V1=V/\qAY fldB xs i) ⟨rfl,qAY.zero _ _⟩ ?_
  rintro i b V1 J hi ⟨rfl,ha⟩ hJ
  refine⟨fun hlt=>?_,fun hge=>?_⟩
  ·obtain⟨x,hm,hx,hdr,hl,hp,hz,hrow⟩:=hr.get hlt
   have no:fldB x=false->(Ending.returned (.bool false)=Ending.returned (.bool (qDN xs n))/\V1=V1):=fun h=>by
    unfold qDN;rw[qBD hm (by rw[h];simp),Bool.and_false];exact⟨rfl,rfl⟩
   refine⟨hp,hz,hlt,qAe hp,_,_,hrow,c86.call ⟨_,rfl,fun h1=>⟨hp,hz,hlt,qAe hp,_,_,hrow,c116.call ⟨_,rfl,fun h2=>⟨hr.succ hlt,hJ hl _ _ ⟨rfl,ha.succ hx (by simp[fldB, *])⟩⟩,fun h2=>no (by simp[fldB, *])⟩⟩,fun h1=>no (by simp[fldB, *])⟩⟩
  ·have:=ha.all (hr.done hge).2
   simp[qDN,this,hle]
theorem c105{V:Mem}[Tab V]{f:Fld}:PP 105 [f.v] V (.bool (!fldB f)):=by
 refine x105 ?_
 unfold w105
 refine c75.call ⟨_,rfl,fun h=>c106.call ⟨_,rfl,?_⟩,fun h=>?_⟩ <;> simp[fldB, *]
theorem c76{V:Mem}[Tab V]{l:Sl}{xs:List Fld}{n:Int}(hr:qAd V l 2 (xs.map Fld.row)):PP 76 [l.v,.int .i64 n] V (.bool (qDN xs n)):=by
 refine x76 ?_
 unfold w76
 have hn:=hr.n_eq
 refine⟨fun h=>(c50 (first:=[]) (caps:=[]) hr Tryz.call105 (fun f=>!fldB f) fun f _=>c105).call ⟨_,rfl,?_⟩,fun h=>?_⟩
 ·have hle:(xs.length:Int)<=n:=by omega
  rw[List.any_eq_not_all_not]
  simp[qDN,hle]
 ·have:¬((xs.length:Int)<=n):=by omega
  simp[qDN,this]
theorem c88{V:Mem}{p:Pr}(h:Pr.Ok V p):PP 88 [p.v] V (.bool (prB p)):=by
 refine x88 ?_
 unfold w88
 have cs:=c117 (d:=1) h.body h.stmts (by omega) (by omega)
 refine c86.call ⟨_,rfl,fun h1=>(c87 h.params).call ⟨_,rfl,fun h2=>(c87 h.locals).call ⟨_,rfl,fun h3=>⟨fun h4=>cs.call ⟨_,rfl,?_⟩,fun h4=>c116.call ⟨_,rfl,fun h5=>cs.call ⟨_,rfl,?_⟩,fun h5=>?_⟩⟩,fun h3=>?_⟩,fun h2=>?_⟩,fun h1=>?_⟩
 all_goals simp[prB,<- validSs_cnt, *]
theorem c81{V:Mem}[Tab V]{p:Pr}(h:Pr.Ok V p):PP 81 [p.v] V (.bool (prB p)):=by
  refine Pur.mk (x81 ?_)
  unfold w81
  have cs:(qFn p.body=prB p)->qAD [(.int .i64 200)] 193 V fun v9 V5 =>
       Tri Tryz.prog 112 #[(.slice p.bs.p p.bs.n p.bs.c),(.int .i64 1),(.pointer (qAa v9 0))] V5 fun e V6=>∃v10:Bool,e=.returned (.bool v10)/\(Ending.returned (.bool v10)=Ending.returned (.bool (prB p))/\V.sub V6):=fun e b hb=>by
    refine Tri.mono (c112 hb p.body p.bs 1 200 _ h.body h.stmts (Mem.sub_new hb _) mss (by omega) (by omega) (by omega) (by omega)) ?_
    rintro _ _ ⟨rfl,rfl⟩
    rw[validSs_v,Mem.set_set,e]
    exact⟨_,rfl,rfl,Mem.sub_new hb _⟩
  refine c75.call ⟨_,rfl,fun h1=>(c76 h.params).call ⟨_,rfl,fun h2=>(c76 h.locals).call ⟨_,rfl,fun h3=>⟨fun h4=>cs ?_,fun h4=>c106.call ⟨_,rfl,fun h5=>cs ?_,fun h5=>⟨?_,Mem.sub.refl _⟩⟩⟩,fun h3=>⟨?_,Mem.sub.refl _⟩⟩,fun h2=>⟨?_,Mem.sub.refl _⟩⟩,fun h1=>⟨?_,Mem.sub.refl _⟩⟩
  all_goals simp[prB, *]
theorem c110{V:Mem}[Tab V]{b:Bd}(h:E.Ok V b.x):PP 110 [b.v] V (.bool (!bdB b)):=by
 refine x110 ?_
 unfold w110
 refine c75.call ⟨_,rfl,fun h1=>(c107 h).call ⟨_,rfl,?_⟩,fun h1=>?_⟩ <;> simp[bdB, *]
theorem c78{V:Mem}[Tab V]{t:Ty}(h:Ty.Ok V t):PP 78 [t.v] V (.bool (!tyB t)):=by
 refine x78 ?_
 unfold w78
 refine c75.call ⟨_,rfl,fun h1=>(c76 h.fields).call ⟨_,rfl,?_⟩,fun h1=>?_⟩ <;> simp[tyB, *]
theorem c80{V:Mem}[Tab V]{t:Pr}(h:Pr.Ok V t):PP 80 [t.v] V (.bool (!prB t)):=by
 refine x80 ?_
 unfold w80
 exact(c81 h).call ⟨_,rfl,rfl,rfl⟩
theorem GenK.max4{P:Program}{V:Mem}{a b c d:Operand}{ty:Nat}{ts:Array TypeId}{vals:Operand->Value}{n1 n2 n3 n4:Int}(h1:vals a=.int .i64 n1)(h2:vals b=.int .i64 n2)(h3:vals c=.int .i64 n3)(h4:vals d=.int .i64 n4){q:Value->Mem->Prop}
  (hq:∀m:Int,n1<=m->n2<=m->n3<=m->n4<=m->(m=n1∨m=n2∨m=n3∨m=n4)->q (.int .i64 m) V):GenK P (.call { callee:=.builtin .max,args:=#[a,b,c,d],argTypes:=ts }) ty vals V q:=by
 intro w hw
 refine⟨_,w,V,?_,Frm.refl hw,hq (max (max (max n1 n2) n3) n4) (by omega) (by omega) (by omega) (by omega) (by omega)⟩
 unfold execOp
 have e:∀x y:Int,(if y > x then y else x)=max x y:=fun x y=>by split <;> omega
 simp only[resolve,invoke,builtin,Sem.run_bind,Sem.run_pure,Result.andThen_ok,List.map_toArray,List.map_cons,List.map_nil,h1,h2,h3,h4]
 simp[Builtin.max_,Builtin.max2,e]
theorem c89{V:Mem}{d:Ds}(h:Ds.Ok V d):PP 89 [d.v] V (.bool (qJf d)):=by
 refine x89 ?_
 unfold w89
 generalize hX:qJf d=X
 have key:∀b:Bool,X=b->(Ending.returned (.bool b)=Ending.returned (.bool X)/\V=V):=fun n h=>by rw[h];exact⟨rfl,rfl⟩
 unfold qJf at hX
 refine qAC d.measures.length (fun i V1=>V=V1/\qAY msB d.measures i) ⟨rfl,qAY.zero _ _⟩ ?_
 rintro i b V1 J hi ⟨rfl,ha⟩ hJ
 refine⟨fun hlt=>?_,fun hge=>?_⟩
 ·obtain⟨x,hm,hx,hdr,hl,hp,hz,hrow⟩:=h.measures.get hlt
  have no:msB x=false->X=false:=fun h=>by rw[<- hX,qBD hm (by rw[h];simp)];rfl
  refine⟨hp,hz,hlt,_,_,_,_,_,_,_,hrow,c86.call ⟨_,rfl,fun h1=>c86.call ⟨_,rfl,fun h2=>⟨fun h3=>key _ (no ?_),fun h3=>⟨fun h4=>key _ (no ?_),fun h4=>(c118 (h.measuresOk x hm).x).call ⟨_,rfl,fun h5=>⟨h.measures.succ hlt,hJ hl _ _ ⟨rfl,ha.succ hx ?_⟩⟩,fun h5=>key _ (no ?_)⟩⟩⟩,fun h2=>key _ (no ?_)⟩,fun h1=>key _ (no ?_)⟩⟩
  ·have:¬(-1099511627776<=x.nil/\x.nil<=1099511627776):=by omega
   simp[msB, *]
  ·have:¬(-1099511627776<=x.nil/\x.nil<=1099511627776):=by omega
   simp[msB, *]
  ·have:(-1099511627776<=x.nil/\x.nil<=1099511627776):=by omega
   simp[msB, *]
  all_goals simp[msB, *]
 have a1:=ha.all (h.measures.done hge).2
 refine qAC d.invs.length (fun i V1=>V=V1/\qAY ivB d.invs i) ⟨rfl,qAY.zero _ _⟩ ?_
 rintro i b V1 J hi ⟨rfl,ha⟩ hJ
 refine⟨fun hlt=>?_,fun hge=>?_⟩
 ·obtain⟨x,hm,hx,hdr,hl,hp,hz,hrow⟩:=h.invs.get hlt
  have no:ivB x=false->X=false:=fun h=>by rw[<- hX,qBD hm (by rw[h];simp)];simp
  refine⟨hp,hz,hlt,qAe hp,_,_,_,_,_,_,hrow,c86.call ⟨_,rfl,fun h1=>⟨hp,hz,hlt,qAe hp,_,_,_,_,_,_,hrow,c119.call ⟨_,rfl,fun h2=>⟨hp,hz,hlt,qAe hp,_,_,_,_,_,_,hrow,(c118 (h.invsOk x hm)).call ⟨_,rfl,fun h5=>⟨h.invs.succ hlt,hJ hl _ _ ⟨rfl,ha.succ hx ?_⟩⟩,fun h5=>key _ (no ?_)⟩⟩,fun h2=>key _ (no ?_)⟩⟩,fun h1=>key _ (no ?_)⟩⟩
  all_goals simp[ivB, *]
 have a2:=ha.all (h.invs.done hge).2
 refine qAC d.pots.length (fun i V1=>V=V1/\qAY poB d.pots i) ⟨rfl,qAY.zero _ _⟩ ?_
 rintro i b V1 J hi ⟨rfl,ha⟩ hJ
 refine⟨fun hlt=>?_,fun hge=>?_⟩
 ·obtain⟨x,hm,hx,hdr,hl,hp,hz,hrow⟩:=h.pots.get hlt
  have no:poB x=false->X=false:=fun h=>by rw[<- hX,qBD (p:=poB) hm (by rw[h];simp)];simp
  refine⟨hp,hz,hlt,qAe hp,_,_,_,_,_,hrow,c119.call ⟨_,rfl,fun h2=>⟨hp,hz,hlt,qAe hp,_,_,_,_,_,hrow,(c118 (h.potsOk x hm)).call ⟨_,rfl,fun h5=>⟨h.pots.succ hlt,hJ hl _ _ ⟨rfl,ha.succ hx ?_⟩⟩,fun h5=>key _ (no ?_)⟩⟩,fun h2=>key _ (no ?_)⟩⟩
  all_goals simp[poB, *]
 have a3:=ha.all (h.pots.done hge).2
 refine qAC d.bounds.length (fun i V1=>V=V1/\qAY bdB d.bounds i) ⟨rfl,qAY.zero _ _⟩ ?_
 rintro i b V1 J hi ⟨rfl,ha⟩ hJ
 refine⟨fun hlt=>?_,fun hge=>?_⟩
 ·obtain⟨x,hm,hx,hdr,hl,hp,hz,hrow⟩:=h.bounds.get hlt
  have no:bdB x=false->X=false:=fun h=>by rw[<- hX,qBD (p:=bdB) hm (by rw[h];simp)];simp
  refine⟨hp,hz,hlt,qAe hp,_,_,_,_,_,hrow,c86.call ⟨_,rfl,fun h2=>⟨hp,hz,hlt,qAe hp,_,_,_,_,_,hrow,(c118 (h.boundsOk x hm)).call ⟨_,rfl,fun h5=>⟨h.bounds.succ hlt,hJ hl _ _ ⟨rfl,ha.succ hx ?_⟩⟩,fun h5=>key _ (no ?_)⟩⟩,fun h2=>key _ (no ?_)⟩⟩
  all_goals simp[bdB, *]
 have a4:=ha.all (h.bounds.done hge).2
 refine key _ ?_
 rw[<- hX,a1,a2,a3,a4];rfl
theorem c77{V:Mem}[Tab V]{d:Ds}(h:Ds.Ok V d):PP 77 [d.v] V (.bool (lensB d&&qJf d)):=by
 refine x77 ?_
 unfold w77
 have n1:=h.measures.n_eq
 have n2:=h.invs.n_eq
 have n3:=h.pots.n_eq
 have n4:=h.bounds.n_eq
 generalize hX:(lensB d&&qJf d)=X
 have key:∀b:Bool,X=b->(Ending.returned (.bool b)=Ending.returned (.bool X)/\V=V):=fun n h=>by rw[h];exact⟨rfl,rfl⟩
 unfold qJf lensB at hX
 refine GenK.max4 (n1:=d.ms.n) (n2:=d.is.n) (n3:=d.qs.n) (n4:=d.bs.n) rfl rfl rfl rfl fun mx l1 l2 l3 l4 le=>⟨_,rfl,fun hb=>key _ ?_,fun hb=>?_⟩
 ·rw[<- hX,decide_eq_false (by omega)];rfl
 rw[decide_eq_true (by omega),Bool.true_and]at hX
 refine qAC d.measures.length (fun i V1=>V=V1/\qAY msB d.measures i) ⟨rfl,qAY.zero _ _⟩ ?_
 rintro i b V1 J hi ⟨rfl,ha⟩ hJ
 refine⟨fun hlt=>?_,fun hge=>?_⟩
 ·obtain⟨x,hm,hx,hdr,hl,hp,hz,hrow⟩:=h.measures.get hlt
  have no:msB x=false->X=false:=fun h=>by rw[<- hX,qBD hm (by rw[h];simp)];rfl
  refine⟨hp,hz,hlt,_,_,_,_,_,_,_,hrow,c75.call ⟨_,rfl,fun h1=>c75.call ⟨_,rfl,fun h2=>⟨fun h3=>key _ (no ?_),fun h3=>⟨fun h4=>key _ (no ?_),fun h4=>(c107 (h.measuresOk x hm).x).call ⟨_,rfl,fun h5=>⟨h.measures.succ hlt,hJ hl _ _ ⟨rfl,ha.succ hx ?_⟩⟩,fun h5=>key _ (no ?_)⟩⟩⟩,fun h2=>key _ (no ?_)⟩,fun h1=>key _ (no ?_)⟩⟩
  ·have:¬(-1099511627776<=x.nil/\x.nil<=1099511627776):=by omega
   simp[msB, *]
  ·have:¬(-1099511627776<=x.nil/\x.nil<=1099511627776):=by omega
   simp[msB, *]
  ·have:(-1099511627776<=x.nil/\x.nil<=1099511627776):=by omega
   simp[msB, *]
  all_goals simp[msB, *]
 have a1:=ha.all (h.measures.done hge).2
 refine qAC d.invs.length (fun i V1=>V=V1/\qAY ivB d.invs i) ⟨rfl,qAY.zero _ _⟩ ?_
 rintro i b V1 J hi ⟨rfl,ha⟩ hJ
 refine⟨fun hlt=>?_,fun hge=>?_⟩
 ·obtain⟨x,hm,hx,hdr,hl,hp,hz,hrow⟩:=h.invs.get hlt
  have no:ivB x=false->X=false:=fun h=>by rw[<- hX,qBD hm (by rw[h];simp)];simp
  refine⟨hp,hz,hlt,_,_,_,_,_,_,hrow,c75.call ⟨_,rfl,fun h1=>c108.call ⟨_,rfl,fun h2=>(c107 (h.invsOk x hm)).call ⟨_,rfl,fun h5=>⟨h.invs.succ hlt,hJ hl _ _ ⟨rfl,ha.succ hx ?_⟩⟩,fun h5=>key _ (no ?_)⟩,fun h2=>key _ (no ?_)⟩,fun h1=>key _ (no ?_)⟩⟩
  all_goals simp[ivB, *]
 have a2:=ha.all (h.invs.done hge).2
 refine qAC d.pots.length (fun i V1=>V=V1/\qAY poB d.pots i) ⟨rfl,qAY.zero _ _⟩ ?_
 rintro i b V1 J hi ⟨rfl,ha⟩ hJ
 refine⟨fun hlt=>?_,fun hge=>?_⟩
 ·obtain⟨x,hm,hx,hdr,hl,hp,hz,hrow⟩:=h.pots.get hlt
  have no:poB x=false->X=false:=fun h=>by rw[<- hX,qBD (p:=poB) hm (by rw[h];simp)];simp
  refine⟨hp,hz,hlt,_,_,_,_,_,hrow,c108.call ⟨_,rfl,fun h2=>(c107 (h.potsOk x hm)).call ⟨_,rfl,fun h5=>⟨h.pots.succ hlt,hJ hl _ _ ⟨rfl,ha.succ hx ?_⟩⟩,fun h5=>key _ (no ?_)⟩,fun h2=>key _ (no ?_)⟩⟩
  all_goals simp[poB, *]
 have a3:=ha.all (h.pots.done hge).2
 refine(c109 (first:=[]) (caps:=[]) h.bounds Tryz.call110 (fun f=>!bdB f) fun f hm=>c110 (h.boundsOk f hm)).call ⟨_,rfl,key _ ?_⟩
 rw[<- hX,a1,a2,a3,List.any_eq_not_all_not]
 simp
theorem c60{V:Mem}{d:Ds}(h:Ds.Ok V d):PP 60 [d.v] V (.bool (qAT d)):=by
 refine x60 ?_
 unfold w60
 have n1:=h.measures.n_eq
 have n2:=h.invs.n_eq
 have n3:=h.pots.n_eq
 have n4:=h.bounds.n_eq
 have n5:=h.types.n_eq
 have n6:=h.procs.n_eq
 generalize hX:qAT d=X
 have key:∀b:Bool,X=b->(Ending.returned (.bool b)=Ending.returned (.bool X)/\V=V):=fun n h=>by rw[h];exact⟨rfl,rfl⟩
 unfold qAT at hX
 have nol:lensB d=false->X=false:=fun h=>by rw[<- hX,h];simp
 refine c86.call ⟨_,rfl,fun h1=>⟨fun h2=>key _ ?_,fun h2=>(c87 h.globals).call ⟨_,rfl,fun h3=>⟨fun h4=>key _ ?_,fun h4=>⟨fun h5=>key _ (nol ?_),fun h5=>⟨fun h6=>key _ (nol ?_),fun h6=>⟨fun h7=>key _ (nol ?_),fun h7=>⟨fun h8=>key _ (nol ?_),fun h8=>?_⟩⟩⟩⟩⟩,fun h3=>key _ ?_⟩⟩,fun h1=>key _ ?_⟩
 ·rw[<- hX,decide_eq_false (by omega)];simp
 ·rw[<- hX,decide_eq_false (p:=(d.procs.length:Int)<=40) (by omega)];simp
 ·exact decide_eq_false (by omega)
 ·exact decide_eq_false (by omega)
 ·exact decide_eq_false (by omega)
 ·exact decide_eq_false (by omega)
 ·have hl:lensB d=true:=decide_eq_true (by omega)
  rw[h1,decide_eq_true (p:=(d.types.length:Int)<=12) (by omega),h3,decide_eq_true (p:=(d.procs.length:Int)<=40) (by omega),hl]at hX
  simp only[Bool.true_and]at hX
  refine qAC d.types.length (fun i V1=>V=V1/\qAY tyB d.types i) ⟨rfl,qAY.zero _ _⟩ ?_
  rintro i b V1 J hi ⟨rfl,ha⟩ hJ
  refine⟨fun hlt=>?_,fun hge=>?_⟩
  ·obtain⟨x,hm,hx,hdr,hl,hp,hz,hrow⟩:=h.types.get hlt
   have no:tyB x=false->X=false:=fun h=>by rw[<- hX,qBD hm (by rw[h];simp)];rfl
   refine⟨hp,hz,hlt,qAe hp,_,_,hrow,c86.call ⟨_,rfl,fun h1=>⟨hp,hz,hlt,qAe hp,_,_,hrow,(c87 (h.typesOk x hm).fields).call ⟨_,rfl,fun h5=>⟨h.types.succ hlt,hJ hl _ _ ⟨rfl,ha.succ hx ?_⟩⟩,fun h5=>key _ (no ?_)⟩⟩,fun h1=>key _ (no ?_)⟩⟩
   all_goals simp[tyB, *]
  have a1:=ha.all (h.types.done hge).2
  refine qAC d.procs.length (fun i V1=>V=V1/\qAY prB d.procs i) ⟨rfl,qAY.zero _ _⟩ ?_
  rintro i b V1 J hi ⟨rfl,ha⟩ hJ
  refine⟨fun hlt=>?_,fun hge=>?_⟩
  ·obtain⟨x,hm,hx,hdr,hl,hp,hz,hrow⟩:=h.procs.get hlt
   have no:prB x=false->X=false:=fun h=>by rw[<- hX,qBD hm (by rw[h];simp)];simp
   exact⟨hp,hz,hlt,_,_,_,_,_,hrow,(c88 (h.procsOk x hm)).call ⟨_,rfl,fun h5=>⟨h.procs.succ hlt,hJ hl _ _ ⟨rfl,ha.succ hx h5⟩⟩,fun h5=>key _ (no (eq_false_of_ne_true h5))⟩⟩
  have a2:=ha.all (h.procs.done hge).2
  refine(c89 h).call ⟨_,rfl,key _ ?_⟩
  rw[<- hX,a1,a2];rfl
 ·rw[<- hX,eq_false_of_ne_true h3];simp
 ·rw[<- hX,eq_false_of_ne_true h1];simp
theorem c48{V:Mem}[Tab V]{d:Ds}(h:Ds.Ok V d):PP 48 [d.v] V (.bool (qAT d)):=by
 refine x48 ?_
 unfold w48
 have n5:=h.types.n_eq
 have n6:=h.procs.n_eq
 generalize hX:qAT d=X
 have key:∀b:Bool,X=b->(Ending.returned (.bool b)=Ending.returned (.bool X)/\V=V):=fun n h=>by rw[h];exact⟨rfl,rfl⟩
 unfold qAT at hX
 refine c75.call ⟨_,rfl,fun h1=>⟨fun h2=>key _ ?_,fun h2=>(c76 h.globals).call ⟨_,rfl,fun h3=>⟨fun h4=>key _ ?_,fun h4=>(c77 h).call ⟨_,rfl,fun h5=>(c54 (first:=[]) (caps:=[]) h.types Tryz.call78 (fun f=>!tyB f) fun f hm=>c78 (h.typesOk f hm)).call ⟨_,rfl,fun h6=>key _ ?_,fun h6 =>
   (c79 (first:=[]) (caps:=[]) h.procs Tryz.call80 (fun f=>!prB f) fun f hm=>c80 (h.procsOk f hm)).call ⟨_,rfl,key _ ?_⟩⟩,fun h5=>key _ ?_⟩⟩,fun h3=>key _ ?_⟩⟩,fun h1=>key _ ?_⟩
 ·rw[<- hX,decide_eq_false (by omega)];simp
 ·rw[<- hX,decide_eq_false (p:=(d.procs.length:Int)<=40) (by omega)];simp
 ·rw[List.any_eq_not_all_not]at h6
  have:d.types.all tyB=false:=by simpa using h6
  rw[<- hX,this];simp
 ·rw[List.any_eq_not_all_not]at h6 ⊢
  have:d.types.all tyB=true:=by simpa using h6
  rw[Bool.and_eq_true]at h5
  rw[<- hX,h1,decide_eq_true (p:=(d.types.length:Int)<=12) (by omega),h3,decide_eq_true (p:=(d.procs.length:Int)<=40) (by omega),h5.1,h5.2,this]
  simp
 ·have:(lensB d&&qJf d)=false:=eq_false_of_ne_true h5
  rw[<- hX]
  cases hl:lensB d with
  | false=>simp
  | true=>rw[hl,Bool.true_and]at this;rw[this];simp
 ·rw[<- hX,eq_false_of_ne_true h3];simp
 ·rw[<- hX,eq_false_of_ne_true h1];simp
end Go.Proofs
namespace Go.Proofs
open Go Go.Sx
def qJu:ByteArray:=qAm [110,105,108]
def sE:ByteArray:=qAm []
def qAX(d:Ds)(s:ByteArray):Bool:=d.types.any fun t=>decide (t.name=s)
def qBh(d:Ds)(s:ByteArray):Bool:=decide (s=qAP)||decide (s=qAu)||qAX d s
def fits(d:Ds)(a b:ByteArray):Bool:=decide (a=b)||(decide (a=qJu)&&qAX d b)
def qBF:List Fld->ByteArray->ByteArray
 | [],_=>sE
 | f::l,s=>if f.name=s then f.ty else qBF l s
def qJq(d:Ds)(s:ByteArray):Option Ty:=d.types.find? fun t=>decide (t.name=s)
def qFE(d:Ds)(s:ByteArray):Option Pr:=d.procs.find? fun t=>decide (t.name=s)
def meOf(d:Ds)(s:ByteArray):Option Ms:=d.measures.find? fun t=>decide (t.name=s)
def qBT(d:Ds)(t name:ByteArray):ByteArray×Int :=
 match qJq d t with
 | none=>(sE,11)
 | some ty=>if qBF ty.fields name=sE then (sE,9) else (qBF ty.fields name,0)
def qDO(d:Ds):List ByteArray->List Fld->Bool
 | a::l,f::fs=>fits d a f.ty&&qDO d l fs
 | _,_=>true
def qGG(d:Ds)(name:ByteArray)(l:List ByteArray):ByteArray×Int :=
 match qFE d name with
 | none=>(sE,9)
 | some p=>if l.length≠p.params.length then (sE,3) else if qDO d l p.params=true then (p.result,0) else (sE,11)
def qDs(ok:Bool)(t:ByteArray):ByteArray×Int:=if ok=true then (t,0) else (sE,11)
structure Sc where
 vars:List Fld
 body:Bool
def qJe(d:Ds)(name:ByteArray)(l:List ByteArray):ByteArray×Int :=
 match meOf d name with
 | none=>(sE,9)
 | some m=>if l.length≠1 then (sE,3) else qDs (fits d (l.getD 0 sE) m.ty) qAP
def qIQ(d:Ds)(sc:Sc)(name:ByteArray)(l:List ByteArray):ByteArray×Int :=
 if sc.body=true then (if (qGG d name l).2=0/\(qGG d name l).1=sE then (sE,11) else qGG d name l) else qJe d name l
def allT(l:List ByteArray)(t:ByteArray):Bool:=l.all fun x=>decide (x=t)
def qHm(d:Ds)(sc:Sc)(op:Int)(s:ByteArray)(l:List ByteArray):ByteArray×Int :=
 if op=1 then (qAP,0) else if op=2 then (qAu,0) else if op=3 then (qJu,0)
 else if op=4 then (if qBF sc.vars s=sE then (sE,9) else (qBF sc.vars s,0))
 else if op=5 then qBT d (l.getD 0 sE) s
 else if op=6 then (if sc.body=false then (sE,13) else if qAX d s=false then (sE,9) else (s,0))
 else if op=7 then qIQ d sc s l
 else if op=14∨op=15 then qDs (fits d (l.getD 0 sE) (l.getD 1 sE)||fits d (l.getD 1 sE) (l.getD 0 sE)) qAu
 else if op=16∨op=17 then qDs (allT l qAP) qAu
 else if op=18∨op=19∨op=20 then qDs (allT l qAu) qAu
 else if op=21 then qDs (decide (l.getD 0 sE=qAu)&&(fits d (l.getD 1 sE) (l.getD 2 sE)||fits d (l.getD 2 sE) (l.getD 1 sE))) (if l.getD 1 sE=qJu then l.getD 2 sE else l.getD 1 sE)
 else qDs (allT l qAP) qAP
mutual
def qAo(d:Ds)(sc:Sc):E->ByteArray×Int
 | .mk op _ s _ k=>if (partsT d sc [] k).2≠0 then (sE,(partsT d sc [] k).2) else qHm d sc op s (partsT d sc [] k).1
def partsT(d:Ds)(sc:Sc)(acc:List ByteArray):List E->List ByteArray×Int
 | []=>(acc,0)
 | x::xs=>if (qAo d sc x).2≠0 then ([],(qAo d sc x).2) else partsT d sc (acc++[(qAo d sc x).1]) xs
end
theorem qHK(d:Ds)(sc:Sc)(e:E):qAo d sc e=if (partsT d sc [] e.k).2≠0 then (sE,(partsT d sc [] e.k).2) else qHm d sc e.op e.s (partsT d sc [] e.k).1:=by
 cases e;unfold qAo;rfl
theorem qBX(d:Ds)(sc:Sc)(acc:List ByteArray)(x:E)(xs:List E):partsT d sc acc (x::xs)=if (qAo d sc x).2≠0 then ([],(qAo d sc x).2) else partsT d sc (acc++[(qAo d sc x).1]) xs:=by rw[partsT]
theorem qCr(d:Ds)(sc:Sc)(acc:List ByteArray):partsT d sc acc []=(acc,0):=by rw[partsT]
theorem qGw(d:Ds)(sc:Sc):∀(k:List E) (acc:List ByteArray),(partsT d sc acc k).2=0->(partsT d sc acc k).1.length=acc.length+k.length
 | [],acc,_=>by rw[qCr];rfl
 | x::xs,acc,h=>by
  rw[qBX]at h ⊢
  split at h
  ·rename_i h';exact absurd h h'
  ·rename_i h'
   rw[if_neg h',qGw d sc xs _ h,List.length_append,List.length_cons,List.length_cons,List.length_nil]
   omega
def qAf(d:Ds)(p:Pr):Sc:=⟨p.params++p.locals++d.globals,true⟩
def qIf:ByteArray:=qAm [116,104,105,115]
def qAz(d:Ds)(t:ByteArray):Sc:=⟨(if t=sE then [] else [⟨qIf,t⟩])++d.globals,false⟩
def qBy(d:Ds)(p:Pr):Sc:=⟨p.params++d.globals,false⟩
def qEZ(d:Ds)(sc:Sc)(result:ByteArray)(op:Int)(s:ByteArray)(es:List E):Int :=
 if op=6 then
  match es with
  | []=>0
  | e::_=>if (partsT d sc [] e.k).2≠0 then (partsT d sc [] e.k).2 else (qGG d e.s (partsT d sc [] e.k).1).2
 else if (partsT d sc [] es).2≠0 then (partsT d sc [] es).2
 else if op=1 then (if qBF sc.vars s=sE then 9 else if fits d ((partsT d sc [] es).1.getD 0 sE) (qBF sc.vars s)=true then 0 else 11)
 else if op=2 then (if (qBT d ((partsT d sc [] es).1.getD 0 sE) s).2≠0 then (qBT d ((partsT d sc [] es).1.getD 0 sE) s).2 else if fits d ((partsT d sc [] es).1.getD 1 sE) (qBT d ((partsT d sc [] es).1.getD 0 sE) s).1=true then 0 else 11)
 else if op=3∨op=4 then (if (partsT d sc [] es).1.getD 0 sE=qAu then 0 else 11)
 else if op=5 then (if (partsT d sc [] es).1.length=0 then (if result=sE then 0 else 11) else if result≠sE/\fits d ((partsT d sc [] es).1.getD 0 sE) result=true then 0 else 11)
 else 0
mutual
def stT(d:Ds)(sc:Sc)(result:ByteArray)(n:Int):S->Int×Int
 | .mk op s _ es _ ls _ xs =>
  if qEZ d sc result op s es≠0 then (n,qEZ d sc result op s es)
  else if (qBS d sc result (n+1) ls).2≠0 then qBS d sc result (n+1) ls
  else qBS d sc result (qBS d sc result (n+1) ls).1 xs
def qBS(d:Ds)(sc:Sc)(result:ByteArray)(n:Int):List S->Int×Int
 | []=>(n,0)
 | x::xs=>if (stT d sc result n x).2≠0 then stT d sc result n x else qBS d sc result (stT d sc result n x).1 xs
end
theorem stT_eq(d:Ds)(sc:Sc)(result:ByteArray)(n:Int)(x:S):stT d sc result n x=if qEZ d sc result x.op x.s x.es≠0 then (n,qEZ d sc result x.op x.s x.es) else if (qBS d sc result (n+1) x.ls).2≠0 then qBS d sc result (n+1) x.ls else qBS d sc result (qBS d sc result (n+1) x.ls).1 x.xs:=by
 cases x;unfold stT;rfl
theorem qFL(d:Ds)(sc:Sc)(result:ByteArray)(n:Int)(x:S)(xs:List S):qBS d sc result n (x::xs)=if (stT d sc result n x).2≠0 then stT d sc result n x else qBS d sc result (stT d sc result n x).1 xs:=by rw[qBS]
theorem stsT_nil(d:Ds)(sc:Sc)(result:ByteArray)(n:Int):qBS d sc result n []=(n,0):=by rw[qBS]
def qEP(d:Ds)(l:List Fld)(i:Nat)(f:Fld):Int:=if (l.take i).any (fun g=>decide (g.name=f.name))=true then 10 else if qBh d f.ty=true then 0 else 9
def qAk{α β:Type}(f:Nat->α->Option β):Nat->List α->Option β
 | _,[]=>none
 | i,x::xs=>match f i x with|some b=>some b|none=>qAk f (i+1) xs
def qCJ(d:Ds)(l:List Fld):Int:=(qAk (fun i f=>if qEP d l i f≠0 then some (qEP d l i f) else none) 0 l).getD 0
abbrev Flt:=ByteArray×Int×Int
def types1(d:Ds):Option Flt:=qAk (fun i t=>if (d.types.take i).any (fun g=>decide (g.name=t.name))=true then some (t.name,-1,10) else none) 0 d.types
def types2(d:Ds):Option Flt:=qAk (fun _ t=>if qCJ d t.fields≠0 then some (t.name,-1,qCJ d t.fields) else none) 0 d.types
def types3(d:Ds):Option Flt:=qAk (fun i f=>if qEP d d.globals i f≠0 then some (f.name,-1,qEP d d.globals i f) else none) 0 d.globals
def qHT(d:Ds):Option Flt:=(types1 d).or ((types2 d).or (types3 d))
def qFY(d:Ds):Option Flt:=qAk (fun i p=>if (d.procs.take i).any (fun g=>decide (g.name=p.name))=true then some (p.name,-1,10) else if qCJ d (p.params++p.locals)≠0 then some (p.name,-1,qCJ d (p.params++p.locals)) else if p.result≠sE/\qBh d p.result=false then some (p.name,-1,9) else none) 0 d.procs
def form1(d:Ds):Option Flt:=qAk (fun i m=>if (d.measures.take i).any (fun g=>decide (g.name=m.name))=true then some (m.name,-1,10) else if qAX d m.ty=false then some (m.name,-1,9) else none) 0 d.measures
def form2(d:Ds):Option Flt:=qAk (fun i m=>if (d.invs.take i).any (fun g=>decide (g.name=m.name))=true then some (m.name,-1,10) else if m.ty≠sE/\qAX d m.ty=false then some (m.name,-1,9) else none) 0 d.invs
def sPot:ByteArray:=qAm [112,111,116,101,110,116,105,97,108]
def form3(d:Ds):Option Flt:=qAk (fun _ m=>if m.ty≠sE/\qAX d m.ty=false then some (sPot,-1,9) else none) 0 d.pots
def form4(d:Ds):Option Flt:=qAk (fun i b=>if (qFE d b.proc).isNone=true then some (b.proc,-1,9) else if (d.bounds.take i).any (fun g=>decide (g.proc=b.proc))=true then some (b.proc,-1,10) else none) 0 d.bounds
def qFe(d:Ds):Option Flt:=(form1 d).or ((form2 d).or ((form3 d).or (form4 d)))
def qDA(d:Ds):Option Flt:=qAk (fun _ p=>if (qBS d (qAf d p) p.result 0 p.body).2≠0 then some (p.name,(qBS d (qAf d p) p.result 0 p.body).1,(qBS d (qAf d p) p.result 0 p.body).2) else none) 0 d.procs
def qBp(d:Ds)(sc:Sc)(e:E)(t:ByteArray):Int:=if (qAo d sc e).2≠0 then (qAo d sc e).2 else if (qAo d sc e).1=t then 0 else 11
def exp1(d:Ds):Option Flt:=qAk (fun _ m=>if qBp d (qAz d m.ty) m.x qAP≠0 then some (m.name,-1,qBp d (qAz d m.ty) m.x qAP) else none) 0 d.measures
def exp2(d:Ds):Option Flt:=qAk (fun _ m=>if qBp d (qAz d m.ty) m.x qAu≠0 then some (m.name,-1,qBp d (qAz d m.ty) m.x qAu) else none) 0 d.invs
def exp3(d:Ds):Option Flt:=qAk (fun _ m=>if qBp d (qAz d m.ty) m.x qAP≠0 then some (sPot,-1,qBp d (qAz d m.ty) m.x qAP) else none) 0 d.pots
def prD:Pr:=⟨sE,⟨none,0,0⟩,[],sE,⟨none,0,0⟩,[],⟨none,0,0⟩,[]⟩
def exp4(d:Ds):Option Flt:=qAk (fun _ m=>if qBp d (qBy d ((qFE d m.proc).getD prD)) m.x qAP≠0 then some (m.proc,-1,qBp d (qBy d ((qFE d m.proc).getD prD)) m.x qAP) else none) 0 d.bounds
def qII(d:Ds):Option Flt:=(exp1 d).or ((exp2 d).or ((exp3 d).or (exp4 d)))
def qJR(d:Ds):Option Flt:=(qHT d).or ((qFY d).or ((qFe d).or ((qDA d).or (qII d))))
def fltR(o:Option Flt):Flt:=o.getD (sE,0,0)
end Go.Proofs
