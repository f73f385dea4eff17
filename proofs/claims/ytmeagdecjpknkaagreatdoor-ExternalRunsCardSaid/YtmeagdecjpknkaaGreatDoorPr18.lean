/- Part 18 of a proof of a law of this seat: no statement of the seat is proved here. -/
import Derived.Test.YtmeagdecjpknkaaGreatDoorPr14
import Derived.Test.YtmeagdecjpknkaaGreatDoorPr17
import Derived.Test.YtmeagdecjpknkaaGreatDoorPr04
set_option linter.unusedVariables false
set_option linter.unusedSimpArgs false
open Go.Proofs.Tryz renaming f37->vX,prog->xD
open List renaming lookup_cons->zd,map_singleton->vY,mem_singleton->zO,mem_cons->yC,nodup_cons->yT,getElem?_set_ne->vZ,getLast_cons->vz,getElem?_set_self->vy,getElem?_eq_some_iff->yw,nodup_nil->vx,getElem?_eq_getElem->yv,mem_of_getElem?->xv,length_cons->zy,getElem?_cons_succ->xO,drop_of_length_le->vw,mem_of_mem_take->vu,nodup_append->vt,length_set->xj
open Go.IntKind renaming i64->yu
open Nat renaming le_refl->yU,mul_one->vq
open Array renaming replicate->wE
open Go.Value renaming int->xe
namespace Go.Proofs
open Go Go.Sx
set_option maxRecDepth 100000
set_option linter.unusedVariables false
section
variable{V:Mem}{R:RP}
noncomputable def c37a:List Code:=((qCw (qAr vX) []).drop 0).take 3
def w37a:MR:=λV R=>TT 75 #[uS (qAo [120])] V λe V1=>∃a b c d,e=rV (uA #[uI a,uI b,uS c,uL d])/\qAt [uS (qAo []),z0,z0,z0,z0,z0,z0,z0] 30 V1 λg V2=>qAt [uI a,uI b,uS c,uL d] 151 V2 λi h=>qAt [uI 5,uI 0,uS (qAo [110,101,120,116]),.slice (qAa i 0) 1 1] 151 h λj t=>R (rT #[uP (qAa g 0),.func (.func 75) #[] #[],uP (qAa j 0)]) t
theorem s37a{V:Mem}{R:List Value->Mem->Prop}(h:w37a V (OV R)):Seg xD 34 c37a [] [0,1,2] V R:=
 qBu (H:=hK 34) [] [] rfl (by kernel_rfl) h
noncomputable def qBZ:Array Oper:=qES ((qCw (qAr vX) []).getD 3 .skip)
def w37o0:MR:=λV R=>R (rT #[uA #[uS (qAo [110,101,120,116]),uS (qAo [76])]]) V
theorem s37o0{V:Mem}{R:List Value->Mem->Prop}(h:w37o0 V (OV R)):qDk xD 34 qBZ 0 1 [] [7] V R:=
 qAE (H:=hK 34) [] [] rfl (by kernel_rfl) h
def w37o1(a b:ByteArray):MR:=λV R=>qAt [uS a,uS b] 101 V λc V1=>R (rT #[.slice (qAa c 0) 1 1]) V1
theorem s37o1{a b:ByteArray}{V:Mem}{R:List Value->Mem->Prop}(h:w37o1 a b V (OV R)):qDk xD 34 qBZ 1 1 [(7,uA #[uS a,uS b])] [8] V R:=
 qAE (H:=hK 34) [(7,(.agg (.cons (.var .s 0) (.cons (.var .s 1) .nil))))] [uS a,uS b] rfl (by kernel_rfl) h
def w37o2(a:Sl):MR:=λV R=>R (rT #[uA #[uS (qAo [76]),uL a]]) V
theorem s37o2{a:Sl}{V:Mem}{R:List Value->Mem->Prop}(h:w37o2 a V (OV R)):qDk xD 34 qBZ 2 1 [(8,uL a)] [9] V R:=
 qAE (H:=hK 34) [(8,(.var .sl 0))] [uL a] rfl (by kernel_rfl) h
def w37o3(a:ByteArray)(b:Sl):MR:=λV R=>qAt [uS a,uL b] 98 V λc V1=>R (rT #[.slice (qAa c 0) 1 1]) V1
theorem s37o3{a:ByteArray}{b:Sl}{V:Mem}{R:List Value->Mem->Prop}(h:w37o3 a b V (OV R)):qDk xD 34 qBZ 3 1 [(9,uA #[uS a,uL b])] [10] V R:=
 qAE (H:=hK 34) [(9,(.agg (.cons (.var .s 0) (.cons (.var .sl 1) .nil))))] [uS a,uL b] rfl (by kernel_rfl) h
def w37o4:MR:=λV R=>R (rT #[uA #[uS (qAo [104,101,97,100]),uS (qAo [76])]]) V
theorem s37o4{V:Mem}{R:List Value->Mem->Prop}(h:w37o4 V (OV R)):qDk xD 34 qBZ 4 1 [] [11] V R:=
 qAE (H:=hK 34) [] [] rfl (by kernel_rfl) h
def w37o5(a b:ByteArray):MR:=λV R=>qAt [uS a,uS b] 101 V λc V1=>R (rT #[.slice (qAa c 0) 1 1]) V1
theorem s37o5{a b:ByteArray}{V:Mem}{R:List Value->Mem->Prop}(h:w37o5 a b V (OV R)):qDk xD 34 qBZ 5 1 [(11,uA #[uS a,uS b])] [12] V R:=
 qAE (H:=hK 34) [(11,(.agg (.cons (.var .s 0) (.cons (.var .s 1) .nil))))] [uS a,uS b] rfl (by kernel_rfl) h
def w37o6:MR:=λV R=>R (rT #[uA #[uS (qAo [120]),uS (qAo [76])]]) V
theorem s37o6{V:Mem}{R:List Value->Mem->Prop}(h:w37o6 V (OV R)):qDk xD 34 qBZ 6 1 [] [13] V R:=
 qAE (H:=hK 34) [] [] rfl (by kernel_rfl) h
def w37o7(a b:ByteArray):MR:=λV R=>qAt [uS a,uS b] 101 V λc V1=>R (rT #[.slice (qAa c 0) 1 1]) V1
theorem s37o7{a b:ByteArray}{V:Mem}{R:List Value->Mem->Prop}(h:w37o7 a b V (OV R)):qDk xD 34 qBZ 7 1 [(13,uA #[uS a,uS b])] [14] V R:=
 qAE (H:=hK 34) [(13,(.agg (.cons (.var .s 0) (.cons (.var .s 1) .nil))))] [uS a,uS b] rfl (by kernel_rfl) h
def w37o8(a:Value):MR:=λV R=>R (rT #[K.cast .f a]) V
theorem s37o8{a:Value}{V:Mem}{R:List Value->Mem->Prop}(h:w37o8 a V (OV R)):qDk xD 34 qBZ 8 1 [(1,K.cast .f a)] [15] V R:=
 qAE (H:=hK 34) [(1,(.var .f 0))] [a] rfl (by kernel_rfl) h
def w37o9(a:Value):MR:=λV R=>∃f first h,K.cast .f a=.func (.func f) first h/\CO f/\TT f (first++#[uS (qAo [104,101,97,100])]++h) V λe V1=>∃b c d g,e=rV (uA #[uI b,uI c,uS d,uL g])/\R (rT #[uA #[uI b,uI c,uS d,uL g]]) V1
theorem s37o9{a:Value}{V:Mem}{R:List Value->Mem->Prop}(h:w37o9 a V (OV R)):qDk xD 34 qBZ 9 1 [(15,K.cast .f a)] [16] V R:=
 qAE (H:=hK 34) [(15,(.var .f 0))] [a] rfl (by kernel_rfl) h
def w37o10(a b:Int)(c:ByteArray)(d:Sl):MR:=λV R=>qAt [uI a,uI b,uS c,uL d] 151 V λg V1=>R (rT #[.slice (qAa g 0) 1 1]) V1
theorem s37o10{a b:Int}{c:ByteArray}{d:Sl}{V:Mem}{R:List Value->Mem->Prop}(h:w37o10 a b c d V (OV R)):qDk xD 34 qBZ 10 1 [(16,uA #[uI a,uI b,uS c,uL d])] [17] V R:=
 qAE (H:=hK 34) [(16,(.agg (.cons (.var (.i .i64) 0) (.cons (.var (.i .i64) 1) (.cons (.var .s 2) (.cons (.var .sl 3) .nil))))))] [uI a,uI b,uS c,uL d] rfl (by kernel_rfl) h
def w37o11(a:Sl):MR:=λV R=>R (rT #[uA #[uI 1,uS (qAo [120]),uL a,z0,z0]]) V
theorem s37o11{a:Sl}{V:Mem}{R:List Value->Mem->Prop}(h:w37o11 a V (OV R)):qDk xD 34 qBZ 11 1 [(17,uL a)] [18] V R:=
 qAE (H:=hK 34) [(17,(.var .sl 0))] [uL a] rfl (by kernel_rfl) h
def w37o12(a:Value):MR:=λV R=>R (rT #[K.cast .f a]) V
theorem s37o12{a:Value}{V:Mem}{R:List Value->Mem->Prop}(h:w37o12 a V (OV R)):qDk xD 34 qBZ 12 1 [(1,K.cast .f a)] [19] V R:=
 qAE (H:=hK 34) [(1,(.var .f 0))] [a] rfl (by kernel_rfl) h
def w37o13(a:Value):MR:=λV R=>∃f first h,K.cast .f a=.func (.func f) first h/\CO f/\TT f (first++#[uS (qAo [120])]++h) V λe V1=>∃b c d g,e=rV (uA #[uI b,uI c,uS d,uL g])/\R (rT #[uA #[uI b,uI c,uS d,uL g]]) V1
theorem s37o13{a:Value}{V:Mem}{R:List Value->Mem->Prop}(h:w37o13 a V (OV R)):qDk xD 34 qBZ 13 1 [(19,K.cast .f a)] [20] V R:=
 qAE (H:=hK 34) [(19,(.var .f 0))] [a] rfl (by kernel_rfl) h
def w37o14:MR:=λV R=>R (rT #[uA #[uI 3,uI 0,uS (qAo []),z0]]) V
theorem s37o14{V:Mem}{R:List Value->Mem->Prop}(h:w37o14 V (OV R)):qDk xD 34 qBZ 14 1 [] [21] V R:=
 qAE (H:=hK 34) [] [] rfl (by kernel_rfl) h
def w37o15(a b:Int)(c:ByteArray)(d:Sl)(g i:Int)(j:ByteArray)(k:Sl):MR:=λV R=>qAt [uI a,uI b,uS c,uL d,uI g,uI i,uS j,uL k] 151 V λl V1=>R (rT #[.slice (qAa l 0) 2 2]) V1
theorem s37o15{a b:Int}{c:ByteArray}{d:Sl}{g i:Int}{j:ByteArray}{k:Sl}{V:Mem}{R:List Value->Mem->Prop}(h:w37o15 a b c d g i j k V (OV R)):qDk xD 34 qBZ 15 1 [(20,uA #[uI a,uI b,uS c,uL d]),(21,uA #[uI g,uI i,uS j,uL k])] [22] V R:=
 qAE (H:=hK 34) [(20,(.agg (.cons (.var (.i .i64) 0) (.cons (.var (.i .i64) 1) (.cons (.var .s 2) (.cons (.var .sl 3) .nil)))))),(21,(.agg (.cons (.var (.i .i64) 4) (.cons (.var (.i .i64) 5) (.cons (.var .s 6) (.cons (.var .sl 7) .nil))))))] [uI a,uI b,uS c,uL d,uI g,uI i,uS j,uL k] rfl (by kernel_rfl) h
def w37o16(a:Sl):MR:=λV R=>R (rT #[uA #[uI 15,uI 0,uS (qAo []),uL a]]) V
theorem s37o16{a:Sl}{V:Mem}{R:List Value->Mem->Prop}(h:w37o16 a V (OV R)):qDk xD 34 qBZ 16 1 [(22,uL a)] [23] V R:=
 qAE (H:=hK 34) [(22,(.var .sl 0))] [uL a] rfl (by kernel_rfl) h
def w37o17(a b:Int)(c:ByteArray)(d:Sl):MR:=λV R=>qAt [uI a,uI b,uS c,uL d] 151 V λg V1=>R (rT #[.slice (qAa g 0) 1 1]) V1
theorem s37o17{a b:Int}{c:ByteArray}{d:Sl}{V:Mem}{R:List Value->Mem->Prop}(h:w37o17 a b c d V (OV R)):qDk xD 34 qBZ 17 1 [(23,uA #[uI a,uI b,uS c,uL d])] [24] V R:=
 qAE (H:=hK 34) [(23,(.agg (.cons (.var (.i .i64) 0) (.cons (.var (.i .i64) 1) (.cons (.var .s 2) (.cons (.var .sl 3) .nil))))))] [uI a,uI b,uS c,uL d] rfl (by kernel_rfl) h
def w37o18(a:Option Addr):MR:=λV R=>∃b c d g,V.rowp a ((0:Int).toNat*1) 4=some [uI b,uI c,uS d,uL g]/\R (rT #[uA #[uI b,uI c,uS d,uL g]]) V
theorem s37o18{a:Option Addr}{V:Mem}{R:List Value->Mem->Prop}(h:w37o18 a V (OV R)):qDk xD 34 qBZ 18 1 [(2,uP a)] [25] V R:=
 qAE (H:=hK 34) [(2,(.var .p 0))] [uP a] rfl (by kernel_rfl) h
def w37o19(a b:Int)(c:ByteArray)(d:Sl):MR:=λV R=>qAt [uI a,uI b,uS c,uL d] 151 V λg V1=>R (rT #[.slice (qAa g 0) 1 1]) V1
theorem s37o19{a b:Int}{c:ByteArray}{d:Sl}{V:Mem}{R:List Value->Mem->Prop}(h:w37o19 a b c d V (OV R)):qDk xD 34 qBZ 19 1 [(25,uA #[uI a,uI b,uS c,uL d])] [26] V R:=
 qAE (H:=hK 34) [(25,(.agg (.cons (.var (.i .i64) 0) (.cons (.var (.i .i64) 1) (.cons (.var .s 2) (.cons (.var .sl 3) .nil))))))] [uI a,uI b,uS c,uL d] rfl (by kernel_rfl) h
def w37o20(a:Sl):MR:=λV R=>R (rT #[uA #[uI 1,uS (qAo [120]),uL a,z0,z0]]) V
theorem s37o20{a:Sl}{V:Mem}{R:List Value->Mem->Prop}(h:w37o20 a V (OV R)):qDk xD 34 qBZ 20 1 [(26,uL a)] [27] V R:=
 qAE (H:=hK 34) [(26,(.var .sl 0))] [uL a] rfl (by kernel_rfl) h
def w37o21(a:Int)(b:ByteArray)(c d g:Sl):MR:=λV R=>qAt [uI a,uS b,uL c,uL d,uL g] 154 V λi V1=>R (rT #[.slice (qAa i 0) 1 1]) V1
theorem s37o21{a:Int}{b:ByteArray}{c d g:Sl}{V:Mem}{R:List Value->Mem->Prop}(h:w37o21 a b c d g V (OV R)):qDk xD 34 qBZ 21 1 [(27,uA #[uI a,uS b,uL c,uL d,uL g])] [28] V R:=
 qAE (H:=hK 34) [(27,(.agg (.cons (.var (.i .i64) 0) (.cons (.var .s 1) (.cons (.var .sl 2) (.cons (.var .sl 3) (.cons (.var .sl 4) .nil)))))))] [uI a,uS b,uL c,uL d,uL g] rfl (by kernel_rfl) h
def w37o22(a b:Sl):MR:=λV R=>R (rT #[uA #[uI 4,uS (qAo []),uL a,uL b,z0]]) V
theorem s37o22{a b:Sl}{V:Mem}{R:List Value->Mem->Prop}(h:w37o22 a b V (OV R)):qDk xD 34 qBZ 22 1 [(24,uL a),(28,uL b)] [29] V R:=
 qAE (H:=hK 34) [(24,(.var .sl 0)),(28,(.var .sl 1))] [uL a,uL b] rfl (by kernel_rfl) h
def w37o23(a:Int)(b:ByteArray)(c d g:Sl)(i:Int)(j:ByteArray)(k l o:Sl):MR:=λV R=>qAt [uI a,uS b,uL c,uL d,uL g,uI i,uS j,uL k,uL l,uL o] 154 V λp V1=>R (rT #[.slice (qAa p 0) 2 2]) V1
theorem s37o23{a:Int}{b:ByteArray}{c d g:Sl}{i:Int}{j:ByteArray}{k l o:Sl}{V:Mem}{R:List Value->Mem->Prop}(h:w37o23 a b c d g i j k l o V (OV R)):qDk xD 34 qBZ 23 1 [(18,uA #[uI a,uS b,uL c,uL d,uL g]),(29,uA #[uI i,uS j,uL k,uL l,uL o])] [30] V R:=
 qAE (H:=hK 34) [(18,(.agg (.cons (.var (.i .i64) 0) (.cons (.var .s 1) (.cons (.var .sl 2) (.cons (.var .sl 3) (.cons (.var .sl 4) .nil))))))),(29,(.agg (.cons (.var (.i .i64) 5) (.cons (.var .s 6) (.cons (.var .sl 7) (.cons (.var .sl 8) (.cons (.var .sl 9) .nil)))))))] [uI a,uS b,uL c,uL d,uL g,uI i,uS j,uL k,uL l,uL o] rfl (by kernel_rfl) h
def w37o24(a b:Sl):MR:=λV R=>R (rT #[uA #[uS (qAo [119,97,108,107]),z0,uS (qAo []),uL a,uL b]]) V
theorem s37o24{a b:Sl}{V:Mem}{R:List Value->Mem->Prop}(h:w37o24 a b V (OV R)):qDk xD 34 qBZ 24 1 [(14,uL a),(30,uL b)] [31] V R:=
 qAE (H:=hK 34) [(14,(.var .sl 0)),(30,(.var .sl 1))] [uL a,uL b] rfl (by kernel_rfl) h
def w37o25(a:ByteArray)(b:Sl)(c:ByteArray)(d g:Sl):MR:=λV R=>qAt [uS a,uL b,uS c,uL d,uL g] 143 V λi V1=>R (rT #[.slice (qAa i 0) 1 1]) V1
theorem s37o25{a:ByteArray}{b:Sl}{c:ByteArray}{d g:Sl}{V:Mem}{R:List Value->Mem->Prop}(h:w37o25 a b c d g V (OV R)):qDk xD 34 qBZ 25 1 [(31,uA #[uS a,uL b,uS c,uL d,uL g])] [32] V R:=
 qAE (H:=hK 34) [(31,(.agg (.cons (.var .s 0) (.cons (.var .sl 1) (.cons (.var .s 2) (.cons (.var .sl 3) (.cons (.var .sl 4) .nil)))))))] [uS a,uL b,uS c,uL d,uL g] rfl (by kernel_rfl) h
def w37o26(a b c:Sl):MR:=λV R=>R (rT #[uA #[uS (qAo [99,104,97,105,110]),uL a,uL b,uL c,z0,z0,z0,z0]]) V
theorem s37o26{a b c:Sl}{V:Mem}{R:List Value->Mem->Prop}(h:w37o26 a b c V (OV R)):qDk xD 34 qBZ 26 1 [(10,uL a),(12,uL b),(32,uL c)] [33] V R:=
 qAE (H:=hK 34) [(10,(.var .sl 0)),(12,(.var .sl 1)),(32,(.var .sl 2))] [uL a,uL b,uL c] rfl (by kernel_rfl) h
def w37o27(a:Option Addr)(b:ByteArray)(c d g i j k l:Sl):MR:=λV R=>StT a 0 [uS b,uL c,uL d,uL g,uL i,uL j,uL k,uL l] V λV1=>R (rT #[]) V1
theorem s37o27{a:Option Addr}{b:ByteArray}{c d g i j k l:Sl}{V:Mem}{R:List Value->Mem->Prop}(h:w37o27 a b c d g i j k l V (OV R)):qDk xD 34 qBZ 27 1 [(0,uP a),(33,uD b c d g i j k l)] [] V R:=
 qAE (H:=hK 34) [(0,(.var .p 0)),(33,(.agg (.cons (.var .s 1) (.cons (.var .sl 2) (.cons (.var .sl 3) (.cons (.var .sl 4) (.cons (.var .sl 5) (.cons (.var .sl 6) (.cons (.var .sl 7) (.cons (.var .sl 8) .nil))))))))))] [uP a,uS b,uL c,uL d,uL g,uL i,uL j,uL k,uL l] rfl (by kernel_rfl) h
end
end Go.Proofs
namespace Go.Proofs
open Go Go.Sx
attribute [local irreducible] Go.Sx.Tri
set_option linter.unusedVariables false
def chL:ByteArray:=qAo [76]
def qEd:ByteArray:=qAo [110,101,120,116]
def qCF:ByteArray:=qAo [104,101,97,100]
def chX:ByteArray:=qAo [120]
def qHX:ByteArray:=qAo [119,97,108,107]
def chChain:ByteArray:=qAo [99,104,97,105,110]
def nmX(s:ByteArray):E:=.mk 4 0 s qAD []
def nxX:E:=.mk 5 0 qEd qAD [nmX chX]
def nlX:E:=.mk 3 0 sE qAD []
def neX:E:=.mk 15 0 sE qAD [nmX chX,nlX]
def st1:S:=.mk 1 chX qAD [nmX qCF] qAD [] qAD []
def st2:S:=.mk 1 chX qAD [nxX] qAD [] qAD []
def st3:S:=.mk 4 sE qAD [neX] qAD [st2] qAD []
def chPr:Pr:=⟨qHX,qAD,[],sE,qAD,[⟨chX,chL⟩],qAD,[st1,st3]⟩
def chTy:Ty:=⟨chL,qAD,[⟨qEd,chL⟩]⟩
def qCq:Ds:=⟨chChain,qAD,[chTy],qAD,[⟨qCF,chL⟩],qAD,[chPr],qAD,[],qAD,[],qAD,[],qAD,[]⟩
def chF:Value:=.func (.func 75) #[] #[]
def cE(x:E)(v:Value)(A:Mem):Prop:=∃e,v=e.v/\eEr e=x/\E.Ok A e
def cL(xs:List E)(v:Value)(A:Mem):Prop:=∃(s:Sl)(es:List E),v=s.v/\es.map eEr=xs/\qAc A s 4 (es.map E.row)/\∀e∈es,E.Ok A e
def cS(x:S)(v:Value)(A:Mem):Prop:=∃e:S,v=e.v/\sEr e=x/\S.Ok A e
def cB(xs:List S)(v:Value)(A:Mem):Prop:=∃(s:Sl)(es:List S),v=s.v/\es.map sEr=xs/\qAc A s 5 (es.map S.row)/\∀e∈es,S.Ok A e
def cF(f:Fld)(v:Value)(A:Mem):Prop:=∃s:Sl,v=s.v/\qAc A s 2 ([f].map Fld.row)
def cT(v:Value)(A:Mem):Prop:=∃t:Ty,v=.agg t.row.toArray/\tEr t=chTy/\Ty.Ok A t
def cTs(v:Value)(A:Mem):Prop:=∃(s:Sl)(t:Ty),v=s.v/\tEr t=chTy/\qAc A s 2 ([t].map Ty.row)/\Ty.Ok A t
def cP(v:Value)(A:Mem):Prop:=∃p:Pr,v=p.v/\pEr p=chPr/\Pr.Ok A p
def cPs(v:Value)(A:Mem):Prop:=∃(s:Sl)(p:Pr),v=s.v/\pEr p=chPr/\qAc A s 5 ([p].map Pr.row)/\Pr.Ok A p
def cD(v:Value)(A:Mem):Prop:=∃d:Ds,v=d.v/\qJG qCq d/\Ds.Ok A d
section
variable{A B:Mem}{v:Value}(hs:A.sub B)
include hs
theorem cE.mono{x:E}(h:cE x v A):cE x v B:=by obtain⟨e,a,b,c⟩:=h;exact⟨e,a,b,c.sub hs⟩
theorem cL.mono{x:List E}(h:cL x v A):cL x v B:=by obtain⟨s,es,a,b,c,d⟩:=h;exact⟨s,es,a,b,c.sub hs,λe g=>(d e g).sub hs⟩
theorem cS.mono{x:S}(h:cS x v A):cS x v B:=by obtain⟨e,a,b,c⟩:=h;exact⟨e,a,b,c.sub hs⟩
theorem cB.mono{x:List S}(h:cB x v A):cB x v B:=by obtain⟨s,es,a,b,c,d⟩:=h;exact⟨s,es,a,b,c.sub hs,λe g=>(d e g).sub hs⟩
theorem cF.mono{f:Fld}(h:cF f v A):cF f v B:=by obtain⟨s,a,b⟩:=h;exact⟨s,a,b.sub hs⟩
theorem cT.mono(h:cT v A):cT v B:=by obtain⟨t,a,b,c⟩:=h;exact⟨t,a,b,c.sub hs⟩
theorem cTs.mono(h:cTs v A):cTs v B:=by obtain⟨s,t,a,b,c,d⟩:=h;exact⟨s,t,a,b,c.sub hs,d.sub hs⟩
theorem pr_sub{p:Pr}(h:Pr.Ok A p):Pr.Ok B p:=⟨h.params.sub hs,h.locals.sub hs,h.body.sub hs,λs g=>(h.stmts s g).sub hs⟩
theorem cP.mono(h:cP v A):cP v B:=by obtain⟨p,a,b,c⟩:=h;exact⟨p,a,b,pr_sub hs c⟩
theorem cPs.mono(h:cPs v A):cPs v B:=by obtain⟨s,p,a,b,c,d⟩:=h;exact⟨s,p,a,b,c.sub hs,pr_sub hs d⟩
theorem cD.mono(h:cD v A):cD v B:=by obtain⟨d,a,b,c⟩:=h;exact⟨d,a,b,c.sub hs⟩
end
def qAm:Nat->List Nat
 |1=>[0]
 |2=>[1]
 |3=>[2]
 |5=>[4]
 |7=>[6]
 |9=>[8]
 |10=>[9]
 |11=>[10]
 |13=>[12]
 |15=>[13,14]
 |16=>[15]
 |17=>[16]
 |19=>[18]
 |20=>[19]
 |21=>[20]
 |22=>[17,21]
 |23=>[11,22]
 |24=>[7,23]
 |25=>[24]
 |26=>[3,5,25]
 |27=>[26]
 |_=>[]
def chQ(A:Mem):Nat->Value->Prop
 |0,v=>v=.agg #[uS qEd,uS chL]
 |1,v=>cF ⟨qEd,chL⟩ v A
 |2,v=>cT v A
 |3,v=>cTs v A
 |4,v=>v=.agg #[uS qCF,uS chL]
 |5,v=>cF ⟨qCF,chL⟩ v A
 |6,v=>v=.agg #[uS chX,uS chL]
 |7,v=>cF ⟨chX,chL⟩ v A
 |8,v=>v=chF
 |9,v=>cE (nmX qCF) v A
 |10,v=>cL [nmX qCF] v A
 |11,v=>cS st1 v A
 |12,v=>v=chF
 |13,v=>cE (nmX chX) v A
 |14,v=>cE nlX v A
 |15,v=>cL [nmX chX,nlX] v A
 |16,v=>cE neX v A
 |17,v=>cL [neX] v A
 |18,v=>cE nxX v A
 |19,v=>cL [nxX] v A
 |20,v=>cS st2 v A
 |21,v=>cB [st2] v A
 |22,v=>cS st3 v A
 |23,v=>cB [st1,st3] v A
 |24,v=>cP v A
 |25,v=>cPs v A
 |26,v=>cD v A
 |_,_=>True
theorem chQ_mono{A B:Mem}(hs:A.sub B):∀(i:Nat)(v:Value),chQ A i v->chQ B i v
 |0,_,h=>h
 |1,_,h=>cF.mono hs h
 |2,_,h=>cT.mono hs h
 |3,_,h=>cTs.mono hs h
 |4,_,h=>h
 |5,_,h=>cF.mono hs h
 |6,_,h=>h
 |7,_,h=>cF.mono hs h
 |8,_,h=>h
 |9,_,h=>cE.mono hs h
 |10,_,h=>cL.mono hs h
 |11,_,h=>cS.mono hs h
 |12,_,h=>h
 |13,_,h=>cE.mono hs h
 |14,_,h=>cE.mono hs h
 |15,_,h=>cL.mono hs h
 |16,_,h=>cE.mono hs h
 |17,_,h=>cL.mono hs h
 |18,_,h=>cE.mono hs h
 |19,_,h=>cL.mono hs h
 |20,_,h=>cS.mono hs h
 |21,_,h=>cB.mono hs h
 |22,_,h=>cS.mono hs h
 |23,_,h=>cB.mono hs h
 |24,_,h=>cP.mono hs h
 |25,_,h=>cPs.mono hs h
 |26,_,h=>cD.mono hs h
 |_+27,_,_=>trivial
def chN(b0:Nat)(V:Mem):Mem:=λc=>if c=b0 then none else V c
theorem chN_ne{b0 c:Nat}{A:Mem}(h:c≠b0):chN b0 A c=A c:=if_neg h
theorem chN_no{b0 c:Nat}{A:Mem}(h:c=b0):chN b0 A c=none:=if_pos h
theorem chN_sub{b0:Nat}{A B:Mem}(h:A.sub B):(chN b0 A).sub (chN b0 B):=λc o g=>by
 by_cases e:c=b0;·rw[chN_no e]at g;cases g
 ·rw[chN_ne e]at g⊢;exact h _ _ g
theorem chN_le{b0:Nat}{A:Mem}:(chN b0 A).sub A:=λc o h=>by
 by_cases e:c=b0;·rw[chN_no e]at h;cases h
 ·rw[chN_ne e]at h;exact h
def chBase(b0 b6:Nat):List (Nat×Value):=[(0,pv b0),(1,chF),(2,pv b6)]
structure ChB (V:Mem)(b0 b6:Nat):Prop where
 z:∃o,V b0=some o
 next:∃e,eEr e=nxX/\V b6=some (.cells e.row.toArray 151 (0,0))/\E.Ok (chN b0 V) e
def ChG(i:Nat)(b0 b6:Nat)(V1:Mem)(val:Nat->Value):Prop:=∃h,(∀s v,h.lookup s=some v->(chBase b0 b6).lookup s=some v∨∃j∈qAm i,s=7+j/\v=val j)/\qDk xD 34 qBZ i 1 h [7+i] V1 λvs V2=>∃v,vs=[v]/\V1.sub V2/\chQ (chN b0 V2) i v
theorem qDK{val:Nat->Value}:∀{l:List Nat}{s:Nat}{v:Value},(l.map λj=>(7+j,val j)).lookup s=some v->∃j∈l,s=7+j/\v=val j
 |[],_,_,h=>by cases h
 |j::l,s,v,h=>by
  rw[List.map_cons,zd]at h;split at h;·rename_i e;simp only[beq_iff_eq]at e;cases h;exact⟨j,List.mem_cons_self,e,rfl⟩
  ·obtain⟨k,g,h1⟩:=qDK h;exact⟨k,List.mem_cons_of_mem _ g,h1⟩
theorem chIn1{k s:Nat}{x v:Value}(h:[(k,x)].lookup s=some v):s=k/\v=x:=by
 rw[zd]at h;split at h;·rename_i e;simp only[beq_iff_eq]at e;cases h;exact⟨e,rfl⟩
 ·cases h
theorem chIn0{s:Nat}{v:Value}{Q:Prop}(h:([]:List (Nat×Value)).lookup s=some v):Q:=by cases h
section
variable{V V1:Mem}{b0 b6:Nat}{val:Nat->Value}
theorem qFe(t:ChB V b0 b6)(hs:V.sub V1){b:Nat}(g:V1 b=none)(o:Obj):chN b0 (V1.set b o) b=some o:=by
 have h:b≠b0:=λe=>by
  obtain⟨o,u⟩:=t.z;rw[e,hs _ _ u]at g;cases g
 rw[chN_ne h];exact Mem.set_same _ _ _
theorem qDJ{b:Nat}(h:V1 b=none)(o:Obj):(chN b0 V1).sub (chN b0 (V1.set b o)):=chN_sub (Mem.sub_new h o)
theorem c75{s:ByteArray}:PP 75 [.string s] V (nmX s).v:=by
 refine x75 ?_;exact⟨rfl,rfl⟩
theorem chNil{A:Mem}{n:Nat}:qAc A ⟨none,0,0⟩ n []:=qAc.nil
theorem chNm{A:Mem}{op:Int}{s:ByteArray}(h:yu.min<=op/\op<=yu.max):E.Ok A (.mk op 0 s ⟨none,0,0⟩ []):=.mk chNil (λ_ h=>by simp at h) h (by decide)
theorem ch0(g:ChB V b0 b6)(hs:V.sub V1)(hv:∀j∈qAm 0,chQ (chN b0 V1) j (val j)):ChG 0 b0 b6 V1 val:=by
 have _:=g.z;have _:=hs;have _:=hv;exact⟨[],λ_ _ h=>chIn0 h,s37o0 ⟨_,rfl,.agg #[uS qEd,uS chL],rfl,Mem.sub.refl _,rfl⟩⟩
theorem ch1(t:ChB V b0 b6)(hs:V.sub V1)(hv:∀j∈qAm 1,chQ (chN b0 V1) j (val j)):ChG 1 b0 b6 V1 val:=by
 have h0:(val 0)=.agg #[uS qEd,uS chL]:=hv 0 (by simp[qAm]);have eq:[(7,.agg #[uS qEd,uS chL])]=(qAm 1).map λj=>(7+j,val j):=by simp[qAm,h0]
 refine⟨_,λs v h=>.inr (qDK (by rw[<-eq];exact h)),s37o1 (a:=qEd) (b:=chL) ?_⟩;unfold w37o1;intro b g;exact⟨_,rfl,_,rfl,Mem.sub_new g _,⟨some ⟨b,0,none⟩,1,1⟩,rfl,qAc.cells (xs:=[⟨qEd,chL⟩]) (row:=Fld.row) (qFe t hs g _) rfl (λ_=>rfl) rfl (by simp)⟩
theorem ch2(u:ChB V b0 b6)(hs:V.sub V1)(hv:∀j∈qAm 2,chQ (chN b0 V1) j (val j)):ChG 2 b0 b6 V1 val:=by
 have h1:cF ⟨qEd,chL⟩ (val 1) (chN b0 V1):=hv 1 (by simp[qAm]);obtain⟨l,g,t⟩:=h1;have eq:[(8,l.v)]=(qAm 2).map λj=>(7+j,val j):=by simp[qAm,g]
 refine⟨_,λs v h=>.inr (qDK (by rw[<-eq];exact h)),s37o2 (a:=l) ⟨_,rfl,_,rfl,Mem.sub.refl _,⟨chL,l,[⟨qEd,chL⟩]⟩,rfl,rfl,⟨t⟩⟩⟩
theorem ch3(t:ChB V b0 b6)(hs:V.sub V1)(hv:∀j∈qAm 3,chQ (chN b0 V1) j (val j)):ChG 3 b0 b6 V1 val:=by
 have h2:cT (val 2) (chN b0 V1):=hv 2 (by simp[qAm]);obtain⟨x,u,w,y⟩:=h2;have eq:[(9,.agg x.row.toArray)]=(qAm 3).map λj=>(7+j,val j):=by simp[qAm,u]
 refine⟨_,λs v h=>.inr (qDK (by rw[<-eq];exact h)),s37o3 (a:=x.name) (b:=x.fs) ?_⟩;unfold w37o3;intro b g;exact⟨_,rfl,_,rfl,Mem.sub_new g _,⟨some ⟨b,0,none⟩,1,1⟩,x,rfl,w,qAc.cells (xs:=[x]) (row:=Ty.row) (qFe t hs g _) rfl (λ_=>rfl) rfl (by simp),y.sub (qDJ g _)⟩
theorem ch4(g:ChB V b0 b6)(hs:V.sub V1)(hv:∀j∈qAm 4,chQ (chN b0 V1) j (val j)):ChG 4 b0 b6 V1 val:=by
 have _:=g.z;have _:=hs;have _:=hv;exact⟨[],λ_ _ h=>chIn0 h,s37o4 ⟨_,rfl,.agg #[uS qCF,uS chL],rfl,Mem.sub.refl _,rfl⟩⟩
theorem ch5(t:ChB V b0 b6)(hs:V.sub V1)(hv:∀j∈qAm 5,chQ (chN b0 V1) j (val j)):ChG 5 b0 b6 V1 val:=by
 have h4:(val 4)=.agg #[uS qCF,uS chL]:=hv 4 (by simp[qAm]);have eq:[(11,.agg #[uS qCF,uS chL])]=(qAm 5).map λj=>(7+j,val j):=by simp[qAm,h4]
 refine⟨_,λs v h=>.inr (qDK (by rw[<-eq];exact h)),s37o5 (a:=qCF) (b:=chL) ?_⟩;unfold w37o5;intro b g;exact⟨_,rfl,_,rfl,Mem.sub_new g _,⟨some ⟨b,0,none⟩,1,1⟩,rfl,qAc.cells (xs:=[⟨qCF,chL⟩]) (row:=Fld.row) (qFe t hs g _) rfl (λ_=>rfl) rfl (by simp)⟩
theorem ch6(g:ChB V b0 b6)(hs:V.sub V1)(hv:∀j∈qAm 6,chQ (chN b0 V1) j (val j)):ChG 6 b0 b6 V1 val:=by
 have _:=g.z;have _:=hs;have _:=hv;exact⟨[],λ_ _ h=>chIn0 h,s37o6 ⟨_,rfl,.agg #[uS chX,uS chL],rfl,Mem.sub.refl _,rfl⟩⟩
theorem ch7(t:ChB V b0 b6)(hs:V.sub V1)(hv:∀j∈qAm 7,chQ (chN b0 V1) j (val j)):ChG 7 b0 b6 V1 val:=by
 have u:(val 6)=.agg #[uS chX,uS chL]:=hv 6 (by simp[qAm]);have eq:[(13,.agg #[uS chX,uS chL])]=(qAm 7).map λj=>(7+j,val j):=by simp[qAm,u]
 refine⟨_,λs v h=>.inr (qDK (by rw[<-eq];exact h)),s37o7 (a:=chX) (b:=chL) ?_⟩;unfold w37o7;intro b g;exact⟨_,rfl,_,rfl,Mem.sub_new g _,⟨some ⟨b,0,none⟩,1,1⟩,rfl,qAc.cells (xs:=[⟨chX,chL⟩]) (row:=Fld.row) (qFe t hs g _) rfl (λ_=>rfl) rfl (by simp)⟩
theorem ch8(g:ChB V b0 b6)(hs:V.sub V1)(hv:∀j∈qAm 8,chQ (chN b0 V1) j (val j)):ChG 8 b0 b6 V1 val:=by
 have _:=g.z;have _:=hs;have _:=hv;exact⟨[(1,chF)],λs v h=>.inl (by obtain⟨rfl,rfl⟩:=chIn1 h;rfl),s37o8 (a:=chF) ⟨_,rfl,chF,rfl,Mem.sub.refl _,rfl⟩⟩
theorem ch9(t:ChB V b0 b6)(hs:V.sub V1)(hv:∀j∈qAm 9,chQ (chN b0 V1) j (val j)):ChG 9 b0 b6 V1 val:=by
 have g:(val 8)=chF:=hv 8 (by simp[qAm]);have eq:[(15,chF)]=(qAm 9).map λj=>(7+j,val j):=by simp[qAm,g]
 refine⟨_,λs v h=>.inr (qDK (by rw[<-eq];exact h)),s37o9 (a:=chF) ?_⟩;unfold w37o9;refine⟨75,#[],#[],rfl,Tryz.call75,(c75 (s:=qCF)).callv (first:=[]) (caps:=[]) ⟨_,_,_,_,rfl,_,rfl,_,rfl,Mem.sub.refl _,.mk 4 0 qCF ⟨none,0,0⟩ [],rfl,rfl,chNm (by decide)⟩⟩
theorem ch10(t:ChB V b0 b6)(hs:V.sub V1)(hv:∀j∈qAm 10,chQ (chN b0 V1) j (val j)):ChG 10 b0 b6 V1 val:=by
 have u:cE (nmX qCF) (val 9) (chN b0 V1):=hv 9 (by simp[qAm]);obtain⟨e,w,y,m⟩:=u;have eq:[(16,e.v)]=(qAm 10).map λj=>(7+j,val j):=by simp[qAm,w]
 refine⟨_,λs v h=>.inr (qDK (by rw[<-eq];exact h)),s37o10 (a:=e.op) (b:=e.n) (c:=e.s) (d:=e.l) ?_⟩;unfold w37o10;intro b g;exact⟨_,rfl,_,rfl,Mem.sub_new g _,⟨some ⟨b,0,none⟩,1,1⟩,[e],rfl,by rw[vY,y],qAc.cells (xs:=[e]) (row:=E.row) (qFe t hs g _) rfl (λ_=>rfl) rfl (by simp),λx r=>by rw[zO.1 r];exact m.sub (qDJ g _)⟩
theorem ch11(x:ChB V b0 b6)(hs:V.sub V1)(hv:∀j∈qAm 11,chQ (chN b0 V1) j (val j)):ChG 11 b0 b6 V1 val:=by
 have g:cL [nmX qCF] (val 10) (chN b0 V1):=hv 10 (by simp[qAm]);obtain⟨l,es,t,u,w,y⟩:=g;have eq:[(17,l.v)]=(qAm 11).map λj=>(7+j,val j):=by simp[qAm,t]
 refine⟨_,λs v h=>.inr (qDK (by rw[<-eq];exact h)),s37o11 (a:=l) ⟨_,rfl,_,rfl,Mem.sub.refl _,.mk 1 chX l es ⟨none,0,0⟩ [] ⟨none,0,0⟩ [],rfl,by unfold sEr;rw[qDx,u];rfl,.mk w y chNil (λ_ h=>by simp at h) chNil (λ_ h=>by simp at h) (by decide)⟩⟩
theorem ch12(g:ChB V b0 b6)(hs:V.sub V1)(hv:∀j∈qAm 12,chQ (chN b0 V1) j (val j)):ChG 12 b0 b6 V1 val:=by
 have _:=g.z;have _:=hs;have _:=hv;exact⟨[(1,chF)],λs v h=>.inl (by obtain⟨rfl,rfl⟩:=chIn1 h;rfl),s37o12 (a:=chF) ⟨_,rfl,chF,rfl,Mem.sub.refl _,rfl⟩⟩
theorem ch13(t:ChB V b0 b6)(hs:V.sub V1)(hv:∀j∈qAm 13,chQ (chN b0 V1) j (val j)):ChG 13 b0 b6 V1 val:=by
 have g:(val 12)=chF:=hv 12 (by simp[qAm]);have eq:[(19,chF)]=(qAm 13).map λj=>(7+j,val j):=by simp[qAm,g]
 refine⟨_,λs v h=>.inr (qDK (by rw[<-eq];exact h)),s37o13 (a:=chF) ?_⟩;unfold w37o13;refine⟨75,#[],#[],rfl,Tryz.call75,(c75 (s:=chX)).callv (first:=[]) (caps:=[]) ⟨_,_,_,_,rfl,_,rfl,_,rfl,Mem.sub.refl _,.mk 4 0 chX ⟨none,0,0⟩ [],rfl,rfl,chNm (by decide)⟩⟩
theorem ch14(g:ChB V b0 b6)(hs:V.sub V1)(hv:∀j∈qAm 14,chQ (chN b0 V1) j (val j)):ChG 14 b0 b6 V1 val:=by
 have _:=g.z;have _:=hs;have _:=hv;exact⟨[],λ_ _ h=>chIn0 h,s37o14 ⟨_,rfl,_,rfl,Mem.sub.refl _,.mk 3 0 sE ⟨none,0,0⟩ [],rfl,rfl,chNm (by decide)⟩⟩
theorem ch15(m:ChB V b0 b6)(hs:V.sub V1)(hv:∀j∈qAm 15,chQ (chN b0 V1) j (val j)):ChG 15 b0 b6 V1 val:=by
 have u:cE (nmX chX) (val 13) (chN b0 V1):=hv 13 (by simp[qAm]);have w:cE nlX (val 14) (chN b0 V1):=hv 14 (by simp[qAm]);obtain⟨e,r,q,H⟩:=u;obtain⟨f,J,f2,f3⟩:=w;have eq:[(20,e.v),(21,f.v)]=(qAm 15).map λj=>(7+j,val j):=by simp[qAm,r,J]
 refine⟨_,λs v h=>.inr (qDK (by rw[<-eq];exact h)),s37o15 (a:=e.op) (b:=e.n) (c:=e.s) (d:=e.l) (g:=f.op) (i:=f.n) (j:=f.s) (k:=f.l) ?_⟩;unfold w37o15;intro b t;exact⟨_,rfl,_,rfl,Mem.sub_new t _,⟨some ⟨b,0,none⟩,2,2⟩,[e,f],rfl,by simp[q,f2],qAc.cells (xs:=[e,f]) (row:=E.row) (qFe m hs t _) rfl (λ_=>rfl) rfl (by simp),λx y=>by
  rcases yC.1 y with rfl|y;·exact H.sub (qDJ t _)
  ·rw[zO.1 y];exact f3.sub (qDJ t _)⟩
theorem ch16(x:ChB V b0 b6)(hs:V.sub V1)(hv:∀j∈qAm 16,chQ (chN b0 V1) j (val j)):ChG 16 b0 b6 V1 val:=by
 have g:cL [nmX chX,nlX] (val 15) (chN b0 V1):=hv 15 (by simp[qAm]);obtain⟨l,es,t,u,w,y⟩:=g;have eq:[(22,l.v)]=(qAm 16).map λj=>(7+j,val j):=by simp[qAm,t]
 refine⟨_,λs v h=>.inr (qDK (by rw[<-eq];exact h)),s37o16 (a:=l) ⟨_,rfl,_,rfl,Mem.sub.refl _,.mk 15 0 sE l es,rfl,by unfold eEr;rw[qDx,u];rfl,.mk w y (by decide) (by decide)⟩⟩
theorem ch17(u:ChB V b0 b6)(hs:V.sub V1)(hv:∀j∈qAm 17,chQ (chN b0 V1) j (val j)):ChG 17 b0 b6 V1 val:=by
 have g:cE neX (val 16) (chN b0 V1):=hv 16 (by simp[qAm]);obtain⟨e,w,y,m⟩:=g;have eq:[(23,e.v)]=(qAm 17).map λj=>(7+j,val j):=by simp[qAm,w]
 refine⟨_,λs v h=>.inr (qDK (by rw[<-eq];exact h)),s37o17 (a:=e.op) (b:=e.n) (c:=e.s) (d:=e.l) ?_⟩;unfold w37o17;intro b t;exact⟨_,rfl,_,rfl,Mem.sub_new t _,⟨some ⟨b,0,none⟩,1,1⟩,[e],rfl,by rw[vY,y],qAc.cells (xs:=[e]) (row:=E.row) (qFe u hs t _) rfl (λ_=>rfl) rfl (by simp),λx r=>by rw[zO.1 r];exact m.sub (qDJ t _)⟩
theorem ch18(t:ChB V b0 b6)(hs:V.sub V1)(hv:∀j∈qAm 18,chQ (chN b0 V1) j (val j)):ChG 18 b0 b6 V1 val:=by
 have _:=t.z;have _:=hs;have _:=hv;obtain⟨e,u,w,g⟩:=t.next;exact⟨[(2,pv b6)],λs v h=>.inl (by obtain⟨rfl,rfl⟩:=chIn1 h;rfl),s37o18 (a:=some ⟨b6,0,none⟩) ⟨_,_,_,_,qAd (hs _ _ w) 0 4 (by simp[E.row]),_,rfl,e.v,rfl,Mem.sub.refl _,e,rfl,u,g.sub (chN_sub hs)⟩⟩
theorem ch19(u:ChB V b0 b6)(hs:V.sub V1)(hv:∀j∈qAm 19,chQ (chN b0 V1) j (val j)):ChG 19 b0 b6 V1 val:=by
 have g:cE nxX (val 18) (chN b0 V1):=hv 18 (by simp[qAm]);obtain⟨e,w,y,m⟩:=g;have eq:[(25,e.v)]=(qAm 19).map λj=>(7+j,val j):=by simp[qAm,w]
 refine⟨_,λs v h=>.inr (qDK (by rw[<-eq];exact h)),s37o19 (a:=e.op) (b:=e.n) (c:=e.s) (d:=e.l) ?_⟩;unfold w37o19;intro b t;exact⟨_,rfl,_,rfl,Mem.sub_new t _,⟨some ⟨b,0,none⟩,1,1⟩,[e],rfl,by rw[vY,y],qAc.cells (xs:=[e]) (row:=E.row) (qFe u hs t _) rfl (λ_=>rfl) rfl (by simp),λx r=>by rw[zO.1 r];exact m.sub (qDJ t _)⟩
theorem ch20(x:ChB V b0 b6)(hs:V.sub V1)(hv:∀j∈qAm 20,chQ (chN b0 V1) j (val j)):ChG 20 b0 b6 V1 val:=by
 have g:cL [nxX] (val 19) (chN b0 V1):=hv 19 (by simp[qAm]);obtain⟨l,es,t,u,w,y⟩:=g;have eq:[(26,l.v)]=(qAm 20).map λj=>(7+j,val j):=by simp[qAm,t]
 refine⟨_,λs v h=>.inr (qDK (by rw[<-eq];exact h)),s37o20 (a:=l) ⟨_,rfl,_,rfl,Mem.sub.refl _,.mk 1 chX l es ⟨none,0,0⟩ [] ⟨none,0,0⟩ [],rfl,by unfold sEr;rw[qDx,u];rfl,.mk w y chNil (λ_ h=>by simp at h) chNil (λ_ h=>by simp at h) (by decide)⟩⟩
theorem ch21(w:ChB V b0 b6)(hs:V.sub V1)(hv:∀j∈qAm 21,chQ (chN b0 V1) j (val j)):ChG 21 b0 b6 V1 val:=by
 have t:cS st2 (val 20) (chN b0 V1):=hv 20 (by simp[qAm]);obtain⟨⟨op,s,el,es,ll,ls,xl,xs⟩,y,l,m⟩:=t;have eq:[(27,(S.mk op s el es ll ls xl xs).v)]=(qAm 21).map λj=>(7+j,val j):=by simp[qAm,y]
 refine⟨_,λs v h=>.inr (qDK (by rw[<-eq];exact h)),s37o21 (a:=op) (b:=s) (c:=el) (d:=ll) (g:=xl) ?_⟩;unfold w37o21;intro b u;exact⟨_,rfl,_,rfl,Mem.sub_new u _,⟨some ⟨b,0,none⟩,1,1⟩,[S.mk op s el es ll ls xl xs],rfl,by rw[vY,l],qAc.cells (xs:=[S.mk op s el es ll ls xl xs]) (row:=S.row) (qFe w hs u _) rfl (λx=>by cases x;rfl) rfl (by simp),λx r=>by rw[zO.1 r];exact m.sub (qDJ u _)⟩
theorem ch22(J:ChB V b0 b6)(hs:V.sub V1)(hv:∀j∈qAm 22,chQ (chN b0 V1) j (val j)):ChG 22 b0 b6 V1 val:=by
 have g:cL [neX] (val 17) (chN b0 V1):=hv 17 (by simp[qAm]);have t:cB [st2] (val 21) (chN b0 V1):=hv 21 (by simp[qAm]);obtain⟨l,es,u,w,y,x⟩:=g;obtain⟨k,m,r,q,d,H⟩:=t;have eq:[(24,l.v),(28,k.v)]=(qAm 22).map λj=>(7+j,val j):=by simp[qAm,u,r]
 refine⟨_,λs v h=>.inr (qDK (by rw[<-eq];exact h)),s37o22 (a:=l) (b:=k) ⟨_,rfl,_,rfl,Mem.sub.refl _,.mk 4 sE l es k m ⟨none,0,0⟩ [],rfl,by unfold sEr;rw[qDx,w,qIm,q];rfl,.mk y x d H chNil (λ_ h=>by simp at h) (by decide)⟩⟩
theorem ch23(W:ChB V b0 b6)(hs:V.sub V1)(hv:∀j∈qAm 23,chQ (chN b0 V1) j (val j)):ChG 23 b0 b6 V1 val:=by
 have G:cS st1 (val 11) (chN b0 V1):=hv 11 (by simp[qAm]);have Z:cS st3 (val 22) (chN b0 V1):=hv 22 (by simp[qAm]);obtain⟨⟨op,s,el,es,ll,ls,xl,xs⟩,Q,O,I⟩:=G;obtain⟨⟨t,H,u,m,w,r,y,q⟩,M,f2,f3⟩:=Z;have eq:[(18,(S.mk op s el es ll ls xl xs).v),(29,(S.mk t H u m w r y q).v)]=(qAm 23).map λj=>(7+j,val j):=by simp[qAm,Q,M]
 refine⟨_,λs v h=>.inr (qDK (by rw[<-eq];exact h)),s37o23 (a:=op) (b:=s) (c:=el) (d:=ll) (g:=xl) (i:=t) (j:=H) (k:=u) (l:=w) (o:=y) ?_⟩;unfold w37o23;intro b J;exact⟨_,rfl,_,rfl,Mem.sub_new J _,⟨some ⟨b,0,none⟩,2,2⟩,[S.mk op s el es ll ls xl xs,S.mk t H u m w r y q],rfl,by rw[List.map_cons,vY,O,f2],qAc.cells (xs:=[S.mk op s el es ll ls xl xs,S.mk t H u m w r y q]) (row:=S.row) (qFe W hs J _) rfl (λx=>by cases x;rfl) rfl (by simp),λx Y=>by
  rcases yC.1 Y with rfl|Y;·exact I.sub (qDJ J _)
  ·rw[zO.1 Y];exact f3.sub (qDJ J _)⟩
theorem ch24(d:ChB V b0 b6)(hs:V.sub V1)(hv:∀j∈qAm 24,chQ (chN b0 V1) j (val j)):ChG 24 b0 b6 V1 val:=by
 have t:cF ⟨chX,chL⟩ (val 7) (chN b0 V1):=hv 7 (by simp[qAm]);have g:cB [st1,st3] (val 23) (chN b0 V1):=hv 23 (by simp[qAm]);obtain⟨l,u,w⟩:=t;obtain⟨k,y,x,m,r,q⟩:=g;have eq:[(14,l.v),(30,k.v)]=(qAm 24).map λj=>(7+j,val j):=by simp[qAm,u,x]
 refine⟨_,λs v h=>.inr (qDK (by rw[<-eq];exact h)),s37o24 (a:=l) (b:=k) ⟨_,rfl,_,rfl,Mem.sub.refl _,⟨qHX,⟨none,0,0⟩,[],sE,l,[⟨chX,chL⟩],k,y⟩,rfl,by unfold pEr;rw[qIm,m];rfl,⟨chNil,w,r,q⟩⟩⟩
theorem ch25(w:ChB V b0 b6)(hs:V.sub V1)(hv:∀j∈qAm 25,chQ (chN b0 V1) j (val j)):ChG 25 b0 b6 V1 val:=by
 have t:cP (val 24) (chN b0 V1):=hv 24 (by simp[qAm]);obtain⟨p,y,x,l⟩:=t;have eq:[(31,p.v)]=(qAm 25).map λj=>(7+j,val j):=by simp[qAm,y]
 refine⟨_,λs v h=>.inr (qDK (by rw[<-eq];exact h)),s37o25 (a:=p.name) (b:=p.ps) (c:=p.result) (d:=p.ls) (g:=p.bs) ?_⟩;unfold w37o25;intro b u;exact⟨_,rfl,_,rfl,Mem.sub_new u _,⟨some ⟨b,0,none⟩,1,1⟩,p,rfl,x,qAc.cells (xs:=[p]) (row:=Pr.row) (qFe w hs u _) rfl (λ_=>rfl) rfl (by simp),pr_sub (qDJ u _) l⟩
theorem ch26(G:ChB V b0 b6)(hs:V.sub V1)(hv:∀j∈qAm 26,chQ (chN b0 V1) j (val j)):ChG 26 b0 b6 V1 val:=by
 have h3:cTs (val 3) (chN b0 V1):=hv 3 (by simp[qAm]);have w:cF ⟨qCF,chL⟩ (val 5) (chN b0 V1):=hv 5 (by simp[qAm]);have g:cPs (val 25) (chN b0 V1):=hv 25 (by simp[qAm]);obtain⟨ts,x,y,l,m,r⟩:=h3;obtain⟨gs,q,d⟩:=w;obtain⟨ps,p,p1,H,p3,J⟩:=g;have eq:[(10,ts.v),(12,gs.v),(32,ps.v)]=(qAm 26).map λj=>(7+j,val j):=by simp[qAm,y,q,p1]
 refine⟨_,λs v h=>.inr (qDK (by rw[<-eq];exact h)),s37o26 (a:=ts) (b:=gs) (c:=ps) ⟨_,rfl,_,rfl,Mem.sub.refl _,⟨chChain,ts,[x],gs,[⟨qCF,chL⟩],ps,[p],⟨none,0,0⟩,[],⟨none,0,0⟩,[],⟨none,0,0⟩,[],⟨none,0,0⟩,[]⟩,rfl,⟨?_,rfl,rfl,rfl,rfl⟩,?_⟩⟩
 ·unfold dEr;rw[vY,vY,l,H];rfl
 ·exact
  {types:=m
   typesOk:=λt u=>by rw[zO.1 u];exact r
   globals:=d
   procs:=p3
   procsOk:=λt u=>by rw[zO.1 u];exact J
   measures:=qAc.nil
   measuresOk:=λ_ h=>by simp at h
   invs:=qAc.nil
   invsOk:=λ_ h=>by simp at h
   pots:=qAc.nil
   potsOk:=λ_ h=>by simp at h
   bounds:=qAc.nil
   boundsOk:=λ_ h=>by simp at h}
noncomputable def chR3:Code:=(flat (qAr vX)).getD 3 .skip
theorem chain_flat:flat (qAr vX)=c37a++[chR3,.ret]:=by kernel_rfl
theorem chR3_eq:chR3=.region 3 qBZ true:=by kernel_rfl
theorem chR3_ok:anyOk qBZ 27 7 qAm=true:=by kernel_rfl
theorem chR3_size:(qBZ).size=28:=by kernel_rfl
theorem qKX{tmps:Array Value}{b:Nat}{d:Ds}{w:World}(h0:tmps.getD 0 undef=pv b)(h:w.heap[b]?=some (.cells d.row.toArray 30 (0,0))):(results vX tmps).run xD w=.ok d.v w:=by
 have g:vX.results=#[.cell 0 30]:=by kernel_rfl
 unfold results;rw[g];have e:asAddr (tmps.getD 0 undef)=pure ⟨b,0,none⟩:=by rw[h0];rfl
 have u:=qBX (P:=xD) (t:=30) (cs:=.cons (.var .s 0) (.cons (.var .sl 1) (.cons (.var .sl 2) (.cons (.var .sl 3) (.cons (.var .sl 4) (.cons (.var .sl 5) (.cons (.var .sl 6) (.cons (.var .sl 7) .nil)))))))) (x:=.agg (.cons (.var .s 0) (.cons (.var .sl 1) (.cons (.var .sl 2) (.cons (.var .sl 3) (.cons (.var .sl 4) (.cons (.var .sl 5) (.cons (.var .sl 6) (.cons (.var .sl 7) .nil))))))))) (ρ:=d.row) (β:=id) (o:=0) (b:=b) (w:=w) h (by kernel_rfl);simp only[List.mapM_toArray,List.mapM_cons,List.mapM_nil,Sem.run_bind,Sem.run_map,Sem.run_pure,Result.andThen_ok,e,show(loadVar 30 ⟨b,0,none⟩).run xD w=.ok d.v w from u];rfl
theorem chStep(g:ChB V b0 b6)(hs:V.sub V1):∀i,i<27->(∀j∈qAm i,chQ (chN b0 V1) j (val j))->ChG i b0 b6 V1 val
 |0,_,hv=>ch0 g hs hv
 |1,_,hv=>ch1 g hs hv
 |2,_,hv=>ch2 g hs hv
 |3,_,hv=>ch3 g hs hv
 |4,_,hv=>ch4 g hs hv
 |5,_,hv=>ch5 g hs hv
 |6,_,hv=>ch6 g hs hv
 |7,_,hv=>ch7 g hs hv
 |8,_,hv=>ch8 g hs hv
 |9,_,hv=>ch9 g hs hv
 |10,_,hv=>ch10 g hs hv
 |11,_,hv=>ch11 g hs hv
 |12,_,hv=>ch12 g hs hv
 |13,_,hv=>ch13 g hs hv
 |14,_,hv=>ch14 g hs hv
 |15,_,hv=>ch15 g hs hv
 |16,_,hv=>ch16 g hs hv
 |17,_,hv=>ch17 g hs hv
 |18,_,hv=>ch18 g hs hv
 |19,_,hv=>ch19 g hs hv
 |20,_,hv=>ch20 g hs hv
 |21,_,hv=>ch21 g hs hv
 |22,_,hv=>ch22 g hs hv
 |23,_,hv=>ch23 g hs hv
 |24,_,hv=>ch24 g hs hv
 |25,_,hv=>ch25 g hs hv
 |26,_,hv=>ch26 g hs hv
 |_+27,h,_=>by omega
theorem c37{V:Mem}:Tri xD 37 #[] V λe V'=>V.sub V'/\∃d:Ds,e=.returned d.v/\qJG qCq d/\Ds.Ok V' d:=by
 unfold Go.Sx.Tri;intro w hV;refine(callsIn_wide (n:=0)).1 (callsIn_of_wp (F:=qAF none) Tryz.func37 (c:=qAr vX) (by kernel_rfl) trivial (qCA ?_) rfl);rw[chain_flat];have hA:Seg xD 34 c37a [] [0,1,2] V λvs V1=>∃b0 b6,vs=[pv b0,chF,pv b6]/\ChB V1 b0 b6/\V.sub V1/\V b0=none/\∃c,c.size=8/\V1 b0=some (.cells c 30 (0,0)):=by
  refine s37a ?_;unfold w37a;refine(c75 (s:=chX)).call ⟨_,_,_,_,rfl,λb0 u Z m b6 Y=>⟨_,rfl,b0,b6,rfl,?_⟩⟩;have n4:Z≠b0:=λe=>by rw[e,Mem.set_same]at m;cases m
  have s0:=Mem.sub_new u (.cells #[uS (qAo []),.slice none 0 0,.slice none 0 0,.slice none 0 0,.slice none 0 0,.slice none 0 0,.slice none 0 0,.slice none 0 0] 30 (0,0));have W:=Mem.sub_new m (.cells (nmX chX).row.toArray 151 (0,0));have G:=Mem.sub_new Y (.cells (E.mk 5 0 qEd ⟨some ⟨Z,0,none⟩,1,1⟩ [nmX chX]).row.toArray 151 (0,0));have r:∀{A:Mem},E.Ok A (nmX chX):=λ{A}=>chNm (by decide);refine⟨⟨⟨_,(W.trans G) _ _ mss⟩,⟨E.mk 5 0 qEd ⟨some ⟨Z,0,none⟩,1,1⟩ [nmX chX],rfl,Mem.set_same _ _ _,?_⟩⟩,s0.trans (W.trans G),u,_,rfl,(W.trans G) _ _ mss⟩;refine .mk (qAc.cells (xs:=[nmX chX]) (row:=E.row) (fr:=(0,0)) (t:=151) ?_ rfl (λ_=>rfl) rfl (by simp)) (λx q=>by rw[zO.1 q];exact r) (by decide) (by decide);rw[chN_ne n4];exact G _ _ mss
 refine hA.step hV ⟨by simp,λs v h=>by cases h⟩ ?_;rintro a1 w1 vs V1 Q O ⟨b0,b6,rfl,hB,I,u,c,hc,X⟩ H;show Code.wpIn (qAF none) 0 xD chR3 _ a1 w1;rw[chR3_eq];refine wpIn_region_any (by kernel_rfl) ?_;rw[chR3_size];refine anyR_sound (M:=27) (k0:=7) (N:=34) (deps:=qAm) (Pr:=λi v A=>chQ (chN b0 A) i v) (Φ:=λV'=>V.sub V'/\∃d:Ds,qJG qCq d/\Ds.Ok V' d/\V' b0=some (.cells d.row.toArray 30 (0,0))) (V:=V1) (base:=chBase b0 b6) (a0:=a1) (w0:=w1) chR3_ok (λi v A B h=>chQ_mono (chN_sub h) i v) (λs v h=>?_) (by decide)
  (λi C A y val hv=>chStep hB y i C hv) (λA y val hv=>?_) (λa' w' V' D K T J=>?_) 28 _ _ _ (by simp) ?_ (.inl ⟨V1,Mem.sub.refl _,⟨yU _,H.le,λ_ _ _=>rfl,λ_ h=>.inl h,rfl,rfl⟩,rfl,O,by simp,λi C h=>?_,λi C h=>?_⟩)
 ·simp only[chBase,zd]at h
  repeat' split at h
  all_goals first
   |(rename_i e;simp only[beq_iff_eq]at e;omega)
   |cases h
 ·obtain⟨d,d1,d2,d3⟩:cD (val 26) (chN b0 A):=hv 26 (by simp[qAm]);refine⟨[(0,pv b0),(33,d.v)],λs v h=>?_,s37o27 (a:=some ⟨b0,0,none⟩) (b:=d.name) (c:=d.ts) (d:=d.gs) (g:=d.ps) (i:=d.ms) (j:=d.is) (k:=d.qs) (l:=d.bs) ?_⟩
  ·rw[zd]at h;split at h;·rename_i e;simp only[beq_iff_eq]at e;subst e;cases h;exact .inl rfl
   ·obtain⟨rfl,rfl⟩:=chIn1 h;exact .inr ⟨26,by simp[qAm],rfl,d1.symm⟩
  ·unfold w37o27;have U:=y _ _ X;refine StT.at_ U (by simp[hc]) ⟨_,rfl,(I.trans y).set u _,d,d2,d3.sub λx o q=>?_,?_⟩
   ·by_cases e:x=b0;·rw[chN_no e]at q;cases q
    ·rw[Mem.set_ne e];exact chN_le _ _ q
   ·rw[Mem.set_same];have:c.toList.drop (0+8)=[]:=List.drop_eq_nil_of_le (by simp[hc]);show some (Obj.cells (c.toList.take 0++d.row++c.toList.drop (0+8)).toArray _ _)=_;rw[this];simp
 ·obtain⟨h1,d,h2,h3,h4⟩:=T;show Code.wpIn (qAF none) 0 xD .ret _ a' w';refine wpIn_ret ?_;exact⟨D.trans Q,d.v,qKX (K.get rfl) (J.le _ _ h4),V',⟨h1,d,rfl,h2,h3⟩,H.trans J⟩
 ·have h2:=List.length_filter_le (λi=>!(wE 28 false).getD i true) (List.range (27+1));rw[List.length_range]at h2;exact h2
 ·have hf:(wE 28 false).getD i false=false:=by simp[Array.getD]
  rw[hf]at h;cases h
 ·have hf:(wE 28 false).getD i false=false:=by simp[Array.getD]
  rw[hf]at h;cases h
end
end Go.Proofs
namespace Go.Proofs
def mtf(T:List Int)(b:Int):List Int:=b::T.erase b
theorem mtf_len_mem{T:List Int}{b:Int}(h:b∈T):(mtf T b).length=T.length:=by
 grind[mtf]
theorem nodup_mtf{T:List Int}{b:Int}(h:T.Nodup):(mtf T b).Nodup:=by
 grind[mtf]
theorem nodup_le:∀(S U:List Int),S.Nodup->(∀x∈S,x∈U)->S.length<=U.length
 |[],_,_,_=>Nat.zero_le _
 |s::S,U,g,h=>by
  rw[yT]at g;have hs:=h s (by simp);have u:=nodup_le S (U.erase s) g.2 λx t=>(List.mem_erase_of_ne λe=>g.1 (by simp_all)).2 (h x (by simp[t]));grind
end Go.Proofs
namespace Go.Proofs
def chain(h pv:List Int):Nat->List Nat->Prop
 |a,[]=>h[a]?=some 0/\pv[0]?=some (a:Int)
 |a,b::L=>h[a]?=some (b:Int)/\pv[b]?=some (a:Int)/\chain h pv b L
theorem qIy{g pv:List Int}{x:Nat}{v:Int}:∀{a:Nat}{L:List Nat},x∉a::L->chain g pv a L->chain (g.set x v) pv a L
 |a,[],h,⟨h1,h2⟩=>⟨by rw[vZ (by grind)];exact h1,h2⟩
 |a,b::L,h,⟨h1,h2,h3⟩=>⟨by rw[vZ (by grind)];exact h1,h2,qIy (by grind) h3⟩
theorem qIx{g pv:List Int}{x:Nat}{v:Int}:∀{a:Nat}{L:List Nat},x∉L->x≠0->chain g pv a L->chain g (pv.set x v) a L
 |a,[],h,h0,⟨h1,h2⟩=>⟨h1,by rw[vZ h0];exact h2⟩
 |a,b::L,h,h0,⟨h1,h2,h3⟩=>⟨h1,by rw[vZ (by grind)];exact h2,qIx (by grind) h0 h3⟩
theorem chain_app{h pv:List Int}:∀{a:Nat}{L:List Nat}{u v:List Int},chain h pv a L->chain (h++u) (pv++v) a L
 |a,[],u,v,⟨h1,h2⟩=>⟨by grind,by grind⟩
 |a,b::L,u,v,⟨h1,h2,h3⟩=>⟨by grind,by grind,chain_app h3⟩
theorem qLH{h pv:List Int}{i:Nat}:∀{a:Nat}{A B:List Nat},chain h pv a (A++i::B)->∃p n:Nat,pv[i]?=some (p:Int)/\h[i]?=some (n:Int)/\p=(a::A).getLast (by simp)/\n=(B++[0]).head (by simp)
 |a,[],[],⟨h1,h2,h3,h4⟩=>⟨a,0,h2,h3,rfl,rfl⟩
 |a,[],b::B,⟨h1,h2,h3,h4,y⟩=>⟨a,b,h2,h3,rfl,rfl⟩
 |a,c::A,B,⟨h1,h2,h3⟩=>by
  obtain⟨p,n,g,t,u,w⟩:=qLH h3;exact⟨p,n,g,t,by rw[vz (by simp)];exact u,w⟩
theorem chain_cut{u pv:List Int}{i p n:Nat}:∀{a:Nat}{A B:List Nat},chain u pv a (A++i::B)->(a::(A++i::B)).Nodup->0∉A++i::B->pv[i]?=some (p:Int)->u[i]?=some (n:Int)->chain (u.set p n) (pv.set n p) a (A++B)
 |a,[],[],⟨h1,h2,h3,h4⟩,x,h0,t,g=>by
  rw[t]at h2;rw[g]at h3;obtain rfl:p=a:=by injection h2 with h2;omega
  obtain rfl:n=0:=by injection h3 with h3;omega
  refine⟨?_,?_⟩;·rw[vy (yw.1 h1).1];rfl
  ·rw[vy (yw.1 h4).1]
 |a,[],b::B,⟨h1,h2,h3,h4,j⟩,x,h0,t,g=>by
  rw[t]at h2;rw[g]at h3;obtain rfl:p=a:=by injection h2 with h2;omega
  obtain rfl:n=b:=by injection h3 with h3;omega
  refine⟨?_,?_,?_⟩;·rw[vy (yw.1 h1).1]
  ·rw[vy (yw.1 h4).1]
  ·exact qIy (by grind) (qIx (by grind) (by grind) j)
 |a,c::A,B,h,x,h0,t,g=>by
  obtain⟨l,m,w,y,r,q⟩:=qLH h.2.2;have d:=chain_cut h.2.2 (by grind) (by grind) t g;rw[t]at w;rw[g]at y;obtain rfl:p=l:=by injection w with w;omega
  obtain rfl:n=m:=by injection y with y;omega
  have H:p∈c::A:=by rw[r];exact List.getLast_mem _
  have J:n∈B++[0]:=by rw[q];exact List.head_mem _
  refine⟨?_,?_,d⟩;·rw[vZ (by grind)];exact h.1
  ·rw[vZ (by grind)];exact h.2.1
theorem qGc{g pv:List Int}{i n:Nat}{L:List Nat}(h:chain g pv 0 L)(hi:i∉0::L)(x:(0::L).Nodup)(h0:g[0]?=some (n:Int))(w:i<g.length)(y:i<pv.length):
  chain ((g.set i n).set 0 i) ((pv.set i 0).set n i) 0 (i::L):=by
 cases L with
 |nil=>
  obtain⟨h1,h2⟩:=h;rw[h0]at h1;obtain rfl:n=0:=by injection h1 with h1;omega
  have t:=(yw.1 h0).1;have u:=(yw.1 h2).1;refine⟨?_,?_,?_,?_⟩<;>grind
 |cons b L=>
  obtain⟨h1,h2,h3⟩:=h;rw[h0]at h1;obtain rfl:n=b:=by injection h1 with h1;omega
  have t:=(yw.1 h0).1;have u:=(yw.1 h2).1;refine⟨by grind,by grind,by grind,by grind,?_⟩;exact qIy (by grind) (qIy (by grind) (qIx (by grind) (by grind) (qIx (by grind) (by grind) h3)))
theorem qKB{h pv:List Int}:∀{a:Nat}{L:List Nat},chain h pv a L->pv[0]?=some (((a::L).getLast (by simp):Nat):Int)
 |a,[],⟨_,h2⟩=>h2
 |a,b::L,⟨_,_,h3⟩=>by rw[vz (by simp)];exact qKB h3
end Go.Proofs
namespace Go.Proofs
structure CaI (k:Nat)(c B N P:List Int)(L:List Nat)(f:Int->Option Int):Prop where
 bl:B.length=L.length+1
 nl:N.length=B.length
 pl:P.length=B.length
 ring:chain N P 0 L
 nd:L.Nodup
 rng:∀s∈L,1<=s/\s<B.length
 cl:c.length=L.length
 at_:∀(i:Nat)(s:Nat)(b:Int),L[i]?=some s->c[i]?=some b->B[s]?=some b/\f b=some (s:Int)
 cn:c.Nodup
 no:∀b,b∉c->f b=none
 cap:c.length<=k
section
variable{k:Nat}{c B N P:List Int}{L:List Nat}{f:Int->Option Int}{b:Int}
theorem CaI.new(h:1<=k):CaI k [] [-1] [0] [0] [] λ_=>none:=⟨rfl,rfl,rfl,⟨rfl,rfl⟩,vx,by simp,rfl,by simp,vx,λ_ _=>rfl,by simp⟩
theorem CaI.hit(h:CaI k c B N P L f)(t:b∈c):∃(i s:Nat),c[i]?=some b/\L[i]?=some s/\f b=some (s:Int):=by
 obtain⟨i,g⟩:=List.mem_iff_getElem?.1 t;have u:=(yw.1 g).1;have hs:=yv (l:=L) (i:=i) (by rw[<-h.cl];exact u);exact⟨i,_,g,hs,(h.at_ i _ b hs g).2⟩
theorem CaI.dec(h:CaI k c B N P L f):(f b).isSome=decide (b∈c):=by
 by_cases g:b∈c
 ·obtain⟨i,s,-,-,e⟩:=h.hit g;simp_all
 ·rw[h.no b g,decide_eq_false g];rfl
theorem qGs{α:Type}{l:List α}{i:Nat}{x:α}(h:l[i]?=some x):l=l.take i++x::l.drop (i+1):=by
 obtain⟨g,rfl⟩:=yw.1 h;simp_all
theorem CaI.zero(h:CaI k c B N P L f):0∉L/\(0::L).Nodup:=by
 have h0:0∉L:=λg=>by have:=h.rng 0 g;omega
 exact⟨h0,yT.2 ⟨h0,h.nd⟩⟩
theorem CaI.head(h:CaI k c B N P L f):∃n:Nat,N[0]?=some (n:Int)/\n<B.length:=by
 have g:=h.ring;cases t:L with
 |nil=>rw[t]at g;exact⟨0,g.1,by rw[h.bl];omega⟩
 |cons s u=>
  rw[t]at g;exact⟨s,g.1,(h.rng s (by rw[t];simp)).2⟩
theorem CaI.around(h:CaI k c B N P L f){i s:Nat}(hs:L[i]?=some s):∃p n:Nat,P[s]?=some (p:Int)/\N[s]?=some (n:Int)/\p<B.length/\n<B.length/\chain (N.set p n) (P.set n p) 0 (L.take i++L.drop (i+1)):=by
 have e:=qGs hs;have g:=h.ring;obtain⟨h0,h1⟩:=h.zero;rw[e]at g h0 h1;obtain⟨p,n,u,w,l,m⟩:=qLH g;have y:p∈0::L.take i:=by grind
 have j:n∈L.drop (i+1)++[0]:=by grind
 have lt:∀x,x∈L∨x=0->x<B.length:=λx t=>by
  rcases t with t|rfl;·exact(h.rng x t).2
  ·rw[h.bl];omega
 refine⟨p,n,u,w,lt p ?_,lt n ?_,chain_cut g h1 h0 u w⟩;·grind
 grind
theorem erase_at{c:List Int}(h:c.Nodup){i:Nat}(hi:c[i]?=some b):c.erase b=c.take i++c.drop (i+1):=by
 have e:=qGs hi;grind
theorem get_cut{α:Type}{l:List α}{i j:Nat}(hi:i<l.length):(l.take i++l.drop (i+1))[j]?=if j<i then l[j]? else l[j+1]?:=by
 grind
theorem CaI.touch(h:CaI k c B N P L f){i s p n q:Nat}(r:c[i]?=some b)(hs:L[i]?=some s)(G:chain (N.set p n) (P.set n p) 0 (L.take i++L.drop (i+1)))(h0:(N.set p n)[0]?=some (q:Int)):
  CaI k (b::c.erase b) B (((N.set p n).set s q).set 0 s) (((P.set n p).set s 0).set q s) (s::(L.take i++L.drop (i+1))) f:=by
 have a:=(yw.1 hs).1;have d:=xv hs;have H:=h.rng s d;have e:=qGs hs;obtain⟨z0,Z⟩:=h.zero;have J:=h.nd;rw[e]at J z0 Z;have Y:=h.cl;have W:=erase_at h.cn r;have w:∀x∈L.take i++L.drop (i+1),x∈L:=λx m=>by
  grind
 have nd2:(s::(L.take i++L.drop (i+1))).Nodup:=by grind
 have len2:(L.take i++L.drop (i+1)).length+1=L.length:=by grind
 refine⟨by rw[zy,len2];exact h.bl,by simp[h.nl],by simp[h.pl],qGc G (by grind) (by grind) h0 (by simp[h.nl];omega) (by simp[h.pl];omega),nd2,λx m=>?_,?_,λj t y l g=>?_,?_,λy g=>h.no y λQ=>g ?_,?_⟩
 ·rcases yC.1 m with rfl|m;·exact H
  ·exact h.rng x (w x m)
 ·grind
 ·cases j with
  |zero=>cases l;cases g;exact h.at_ i s b hs r
  |succ j=>
   rw[xO,get_cut a]at l;rw[xO,W,get_cut (by omega)]at g;split at l;·rename_i u;rw[if_pos u]at g;exact h.at_ j t y l g
   ·rename_i u;rw[if_neg u]at g;exact h.at_ _ t y l g
 ·exact nodup_mtf h.cn
 ·grind
 ·have:=mtf_len_mem (xv r);unfold mtf at this;rw[this];exact h.cap
theorem CaI.room(h:CaI k c B N P L f)(m:b∉c)(a:c.length<k){q:Nat}(h0:(N++[0])[0]?=some (q:Int)):
  CaI k (b::c) (B++[b]) (((N++[0]).set B.length q).set 0 (B.length:Nat)) (((P++[0]).set B.length 0).set q (B.length:Nat)) (B.length::L) (λx=>if x=b then some (B.length:Int)else f x):=by
 obtain⟨z0,r⟩:=h.zero;have w:=h.bl;have u:B.length∉0::L:=λhm=>by
  rcases yC.1 hm with e|e;·omega
  ·have:=h.rng _ e;omega
 refine⟨by simp[w],by simp[h.nl],by simp[h.pl],qGc (chain_app h.ring) u r h0 (by simp[h.nl]) (by simp[h.pl]),yT.2 ⟨λh=>u (by simp[h]),h.nd⟩,λx u=>?_,by simp[h.cl],λj t y l g=>?_,yT.2 ⟨m,h.cn⟩,λy g=>?_,by grind⟩
 ·rw[List.length_append,List.length_singleton];rcases yC.1 u with rfl|u;·omega
  ·have:=h.rng x u;omega
 ·cases j with
  |zero=>
   simp_all
  |succ j=>
   rw[xO]at l g;obtain⟨d,H⟩:=h.at_ j t y l g;grind
 ·have g:¬(y=b∨y∈c):=by simpa using g
  rw[not_or]at g;show(if y=b then _ else f y)=none;rw[if_neg g.1];exact h.no y g.2
theorem CaI.full(h:CaI k c B N P L f)(M:b∉c)(hk:1<=k)(hf:c.length=k):∃(s p n:Nat)(o:Int),P[0]?=some (s:Int)/\1<=s/\s<B.length/\B[s]?=some o/\P[s]?=some (p:Int)/\N[s]?=some (n:Int)/\p<B.length/\n<B.length/\∀q:Nat,(N.set p n)[0]?=some (q:Int)->
  CaI k (b::c.take (k-1)) (B.set s b) (((N.set p n).set s q).set 0 s) (((P.set n p).set s 0).set q s) (s::L.take (k-1)) (λx=>if x=b then some (s:Int)else if x=o then none else f x):=by
 have C:=h.cl;have D:k-1<L.length:=by omega
 have hs:=yv D;obtain⟨s,J⟩:∃s,s=L[k-1]:=⟨_,rfl⟩;rw[<-J]at hs;have G:=yv (l:=c) (i:=k-1) (by omega);obtain⟨o,Z⟩:∃o,o=c[k-1]'(by omega):=⟨_,rfl⟩;rw[<-Z]at G;obtain⟨p,n,K,T,U,k4,k5⟩:=h.around hs;rw[vw (by omega),List.append_nil]at k5;have Y:=xv hs;have u:=h.rng s Y;obtain⟨b1,b2⟩:=h.at_ _ s o hs G;obtain⟨z0,z1⟩:=h.zero;have e:=qGs hs;rw[vw (by omega)]at e;have X:=qGs G;rw[vw (by omega)]at X;have r:=qKB h.ring;have w:(0::L).getLast (by simp)=s:=by
  grind
 rw[w]at r;have a:=h.nd;rw[e]at a;have d:=h.cn;rw[X]at d;have W:s∉L.take (k-1):=λhm=>by
  grind
 have Q:o∉c.take (k-1):=λhm=>by
  grind
 have H:b∉c.take (k-1):=λhm=>M (vu hm);have hob:o≠b:=λe=>M (by grind);refine⟨s,p,n,o,r,u.1,u.2,b1,K,T,U,k4,λq hq=>⟨?_,by simp[h.nl],by simp[h.pl],?_,yT.2 ⟨W,(vt.1 a).1⟩,λx O=>?_,?_,λj t y m g=>?_,yT.2 ⟨H,(vt.1 d).1⟩,λy g=>?_,?_⟩⟩;·rw[xj,zy,List.length_take];have:=h.bl;omega
 ·grind[qGc,yT,vu,vt]
 ·rw[xj];rcases yC.1 O with rfl|O;·exact u
  ·exact h.rng x (vu O)
 ·grind
 ·cases j with
  |zero=>
   grind
  |succ j=>
   rw[xO]at m g;have ht:=xv m;have hyc:=xv g;rw[List.getElem?_take]at m g;split at m
   ·rename_i I;rw[if_pos I]at g;obtain⟨r1,r2⟩:=h.at_ j t y m g;refine⟨?_,?_⟩;·grind
    ·rw[if_neg λe=>H (by grind),if_neg λe=>Q (by grind)];exact r2
   ·cases m
 ·have g:¬(y=b∨y∈c.take (k-1)):=by simpa using g
  rw[not_or]at g;show(if y=b then _ else if y=o then none else f y)=none;rw[if_neg g.1];split;·rfl
  ·rename_i ho;refine h.no y λhm=>?_;grind
 grind
end
end Go.Proofs
namespace Go.Proofs
open Go Go.Sx
attribute [local irreducible] Go.Sx.Tri
structure Sl3 where
 b:Sl
 n:Sl
 p:Sl
def crow(k n:Int)(mb:Nat)(F:Sl3):List Value:=[.int .i64 k,.int .i64 n,.map (some mb),F.b.v,F.n.v,F.p.v]
theorem qFu(l:List Int)(i:Nat)(x:Int):(l.flatMap qAf).set i (.int .i64 x)=(l.set i x).flatMap qAf:=by rw[qAN,qAN,List.map_set]
theorem qFv(l:List Int):(l.flatMap qAf).length=l.length:=by rw[qAN,List.length_map]
structure CaL (V0 V:Mem)(p:Nat)(k n:Int)(mb:Nat)(F S:Sl3)(B N P:List Int)(f:Int->Option Int):Prop where
 at_:V p=some (.cells (crow k n mb F).toArray 134 (0,0))
 mp:qGh (xe .i64) V mb λb=>(f b).map (xe .i64)
 p0:V0 p=none
 m0:V0 mb=none
 bo:Sx.Own V0 V 3 1 S.b (B.flatMap qAf)
 no:Sx.Own V0 V 3 1 S.n (N.flatMap qAf)
 po:Sx.Own V0 V 3 1 S.p (P.flatMap qAf)
 bn:∀c,Blk S.b c->¬Blk S.n c
 bp:∀c,Blk S.b c->¬Blk S.p c
 np:∀c,Blk S.n c->¬Blk S.p c
section
variable{V0 V V':Mem}{p mb:Nat}{k n:Int}{F S:Sl3}{B N P:List Int}{f:Int->Option Int}
theorem CaL.pm(h:CaL V0 V p k n mb F S B N P f):p≠mb:=λe=>by
 obtain⟨es,c,h1,-⟩:=h.mp.at_;rw[<-e,h.at_]at h1;cases h1
theorem CaL.nB(h:CaL V0 V p k n mb F S B N P f):(¬Blk S.b p/\¬Blk S.n p/\¬Blk S.p p)/\(¬Blk S.b mb/\¬Blk S.n mb/\¬Blk S.p mb):=by
 have g:∀{s:Sl}{vs:List Value},Sx.Own V0 V 3 1 s vs->¬Blk s p/\¬Blk s mb:=λ{s vs} o=>by
  refine⟨λt=>?_,λt=>?_⟩
  ·obtain⟨u,w⟩:=Own.some o t;rw[h.at_]at w;simp_all
  ·obtain⟨u,w⟩:=Own.some o t;obtain⟨es,c,h1,-⟩:=h.mp.at_;simp_all
 exact⟨⟨(g h.bo).1,(g h.no).1,(g h.po).1⟩,(g h.bo).2,(g h.no).2,(g h.po).2⟩
theorem CaL.sub(h:CaL V0 V p k n mb F S B N P f):V0.sub V:=h.bo.sub
theorem CaL.cell(h:CaL V0 V p k n mb F S B N P f)(i m:Nat)(hi:i+m<=6):V.rowp (sa p) i m=some (((crow k n mb F).drop i).take m):=qAd h.at_ i m hi
theorem qEW{W t:Mem}{b:Nat}{g:Int->Option Value}(h:qGh (xe .i64) W b g)(u:t b=W b):qGh (xe .i64) t b g:=by
 obtain⟨es,c,h1,h2⟩:=h.at_;exact⟨es,c,by grind,h2⟩
theorem CaL.setN(h:CaL V0 V p k n mb F S B N P f){i:Nat}(hi:i<N.length){x:Int}{q:Mem->Prop}(l:∀V',CaL V0 V' p k n mb F S B (N.set i x) P f->q V'):StT (qAa S.n.p (i*1)) 0 [.int .i64 x] V q:=by
 rw[vq];obtain⟨⟨b1,b2,b3⟩,a,m,d⟩:=h.nB;refine Own.store h.no (by rw[qFv];exact hi) λV' t u=>l V' ?_;rw[qFu]at t;exact⟨by rw[u p b2];exact h.at_,qEW h.mp (u mb m),h.p0,h.m0,Own.moveB h.bo t.sub λg w y j=>by rw[u g (h.bn g y)];exact j,t,Own.moveB h.po t.sub λg w y j=>by rw[u g λr=>h.np g r y];exact j,h.bn,h.bp,h.np⟩
theorem CaL.setP(h:CaL V0 V p k n mb F S B N P f){i:Nat}(hi:i<P.length){x:Int}{q:Mem->Prop}(l:∀V',CaL V0 V' p k n mb F S B N (P.set i x) f->q V'):StT (qAa S.p.p (i*1)) 0 [.int .i64 x] V q:=by
 rw[vq];obtain⟨⟨b1,b2,b3⟩,r,a,m⟩:=h.nB;refine Own.store h.po (by rw[qFv];exact hi) λV' t u=>l V' ?_;rw[qFu]at t;exact⟨by rw[u p b3];exact h.at_,qEW h.mp (u mb m),h.p0,h.m0,Own.moveB h.bo t.sub λg w y j=>by rw[u g (h.bp g y)];exact j,Own.moveB h.no t.sub λg w y j=>by rw[u g (h.np g y)];exact j,t,h.bn,h.bp,h.np⟩
theorem CaL.setB(h:CaL V0 V p k n mb F S B N P f){i:Nat}(hi:i<B.length){x:Int}{q:Mem->Prop}(m:∀V',CaL V0 V' p k n mb F S (B.set i x) N P f->q V'):StT (qAa S.b.p (i*1)) 0 [.int .i64 x] V q:=by
 rw[vq];obtain⟨⟨b1,b2,b3⟩,r,a,d⟩:=h.nB;refine Own.store h.bo (by rw[qFv];exact hi) λV' t u=>m V' ?_;rw[qFu]at t;exact⟨by rw[u p b1];exact h.at_,qEW h.mp (u mb r),h.p0,h.m0,t,Own.moveB h.no t.sub λg w y j=>by rw[u g λl=>h.bn g l y];exact j,Own.moveB h.po t.sub λg w y j=>by rw[u g λl=>h.bp g l y];exact j,h.bn,h.bp,h.np⟩
theorem CaL.put(h:CaL V0 V p k n mb F S B N P f)(g:Int):CaL V0 (V.set p (.cells (crow k g mb F).toArray 134 (0,0))) p k g mb F S B N P f:=by
 obtain⟨⟨b1,b2,b3⟩,-⟩:=h.nB;exact⟨Mem.set_same _ _ _,qEW h.mp (Mem.set_ne h.pm.symm),h.p0,h.m0,h.bo.put b1 h.p0 _,h.no.put b2 h.p0 _,h.po.put b3 h.p0 _,h.bn,h.bp,h.np⟩
theorem CaL.map(h:CaL V0 V p k n mb F S B N P f){o:Obj}{g:Int->Option Int}(hm:qGh (xe .i64) (V.set mb o) mb λb=>(g b).map (xe .i64)):CaL V0 (V.set mb o) p k n mb F S B N P g:=by
 obtain⟨-,t,u,w⟩:=h.nB;exact⟨by rw[Mem.set_ne h.pm];exact h.at_,hm,h.p0,h.m0,h.bo.put t h.m0 _,h.no.put u h.m0 _,h.po.put w h.m0 _,h.bn,h.bp,h.np⟩
theorem qFT{W V V1:Mem}{s s':Sl}{xs:List Value}(o:Sx.Own W V 3 1 s xs){ys:List Value}(h:Sx.Own (V.but s) V1 3 1 s' ys):Sx.Own W V1 3 1 s' ys/\(∀c,¬Blk s c->V c≠none->V1 c=V c)/\∀c,Blk s' c->Blk s c∨V c=none:=by
 refine⟨h.narrow o.sub_but,λc g hv=>?_,λc g=>?_⟩
 ·cases e:V c with
  |none=>grind
  |some x=>exact h.sub _ _ (Mem.but_at e g)
 ·have h0:=Own.none0 h g;by_cases t:Blk s c;·exact .inl t
  ·right;cases hv:V c with
   |none=>rfl
   |some o=>grind[Mem.but_at]
theorem CaL.pushB(h:CaL V0 V p k n mb F S B N P f){V1:Mem}{s':Sl}{x:Int}(o:Sx.Own (V.but S.b) V1 3 1 s' ((B++[x]).flatMap qAf)):CaL V0 V1 p k n mb F ⟨s',S.n,S.p⟩ (B++[x]) N P f:=by
 obtain⟨⟨b1,b2,b3⟩,m,d,H⟩:=h.nB;obtain⟨w,y,r⟩:=qFT h.bo o;have some:∀{s:Sl}{vs:List Value},Sx.Own V0 V 3 1 s vs->∀c,Blk s c->V c≠none:=λ{s vs} o c u=>by grind[Own.some]
 have j:∀{s:Sl}{vs:List Value},Sx.Own V0 V 3 1 s vs->(∀c,Blk S.b c->¬Blk s c)->Sx.Own V0 V1 3 1 s vs:=λ{s vs} o l=>Own.moveB o w.sub λg q J u=>by grind
 have t:∀{s:Sl}{vs:List Value},Sx.Own V0 V 3 1 s vs->(∀c,Blk S.b c->¬Blk s c)->∀c,Blk s' c->¬Blk s c:=λ{s vs} o l c u hs=>(r c u).elim (λa=>l c a hs) (some o c hs);have em:V mb≠none:=by obtain⟨es,c,h1,-⟩:=h.mp.at_;rw[h1];simp
 exact⟨by rw[y p b1 (by rw[h.at_];simp)];exact h.at_,qEW h.mp (y mb m em),h.p0,h.m0,w,j h.no h.bn,j h.po h.bp,t h.no h.bn,t h.po h.bp,h.np⟩
theorem CaL.pushN(h:CaL V0 V p k n mb F S B N P f){V1:Mem}{s':Sl}{x:Int}(o:Sx.Own (V.but S.n) V1 3 1 s' ((N++[x]).flatMap qAf)):CaL V0 V1 p k n mb F ⟨S.b,s',S.p⟩ B (N++[x]) P f:=by
 obtain⟨⟨b1,b2,b3⟩,d,m,H⟩:=h.nB;obtain⟨w,y,r⟩:=qFT h.no o;have some:∀{s:Sl}{vs:List Value},Sx.Own V0 V 3 1 s vs->∀c,Blk s c->V c≠none:=λ{s vs} o c u=>by grind[Own.some]
 have j:∀{s:Sl}{vs:List Value},Sx.Own V0 V 3 1 s vs->(∀c,Blk S.n c->¬Blk s c)->Sx.Own V0 V1 3 1 s vs:=λ{s vs} o l=>Own.moveB o w.sub λg q J u=>by grind
 have t:∀{s:Sl}{vs:List Value},Sx.Own V0 V 3 1 s vs->(∀c,Blk S.n c->¬Blk s c)->∀c,Blk s' c->¬Blk s c:=λ{s vs} o l c u hs=>(r c u).elim (λa=>l c a hs) (some o c hs);have em:V mb≠none:=by obtain⟨es,c,h1,-⟩:=h.mp.at_;rw[h1];simp
 have nb:∀c,Blk S.n c->¬Blk S.b c:=λc h1 h2=>h.bn c h2 h1;exact⟨by rw[y p b2 (by rw[h.at_];simp)];exact h.at_,qEW h.mp (y mb m em),h.p0,h.m0,j h.bo nb,w,j h.po h.np,λc h1 h2=>t h.bo nb c h2 h1,h.bp,t h.po h.np⟩
theorem CaL.pushP(h:CaL V0 V p k n mb F S B N P f){V1:Mem}{s':Sl}{x:Int}(o:Sx.Own (V.but S.p) V1 3 1 s' ((P++[x]).flatMap qAf)):CaL V0 V1 p k n mb F ⟨S.b,S.n,s'⟩ B N (P++[x]) f:=by
 obtain⟨⟨b1,b2,b3⟩,J,G,q⟩:=h.nB;obtain⟨w,y,a⟩:=qFT h.po o;have some:∀{s:Sl}{vs:List Value},Sx.Own V0 V 3 1 s vs->∀c,Blk s c->V c≠none:=λ{s vs} o c u=>by grind[Own.some]
 have j:∀{s:Sl}{vs:List Value},Sx.Own V0 V 3 1 s vs->(∀c,Blk S.p c->¬Blk s c)->Sx.Own V0 V1 3 1 s vs:=λ{s vs} o l=>Own.moveB o w.sub λg d Z u=>by grind
 have t:∀{s:Sl}{vs:List Value},Sx.Own V0 V 3 1 s vs->(∀c,Blk S.p c->¬Blk s c)->∀c,Blk s' c->¬Blk s c:=λ{s vs} o l c u hs=>(a c u).elim (λH=>l c H hs) (some o c hs);have em:V mb≠none:=by obtain⟨es,c,h1,-⟩:=h.mp.at_;rw[h1];simp
 have m:∀c,Blk S.p c->¬Blk S.b c:=λc h1 h2=>h.bp c h2 h1;have r:∀c,Blk S.p c->¬Blk S.n c:=λc h1 h2=>h.np c h2 h1;exact⟨by rw[y p b3 (by rw[h.at_];simp)];exact h.at_,qEW h.mp (y mb q em),h.p0,h.m0,j h.bo m,j h.no r,w,h.bn,λc h1 h2=>t h.bo m c h2 h1,λc h1 h2=>t h.no r c h2 h1⟩
theorem CaL.fields(h:CaL V0 V p k n mb F S B N P f)(G:Sl3):CaL V0 (V.set p (.cells (crow k n mb G).toArray 134 (0,0))) p k n mb G S B N P f:=by
 obtain⟨⟨b1,b2,b3⟩,-⟩:=h.nB;exact⟨Mem.set_same _ _ _,qEW h.mp (Mem.set_ne h.pm.symm),h.p0,h.m0,h.bo.put b1 h.p0 _,h.no.put b2 h.p0 _,h.po.put b3 h.p0 _,h.bn,h.bp,h.np⟩
def CaAt(p:Nat)(k:Nat)(c:List Int)(n:Nat)(V0 V:Mem):Prop:=∃mb S B N P L f,CaL V0 V p k n mb S S B N P f/\CaI k c B N P L f
end
end Go.Proofs
namespace Go.Proofs
def tch(k:Nat)(c:List Int)(b:Int):List Int:=if b∈c then b::c.erase b else b::c.take (k-1)
def tchL(k:Nat)(c l:List Int):List Int:=l.foldl (tch k) c
def qJQ(k:Nat):List Int->List Int->Nat
 |_,[]=>0
 |c,b::l=>(if b∈c then 0 else 1)+qJQ k (tch k c b) l
theorem qJc(k:Nat):∀(l c:List Int)(b:Int),qJQ k c (l++[b])=qJQ k c l+if b∈tchL k c l then 0 else 1
 |[],c,b=>by
  simp only[List.nil_append,qJQ,Nat.add_zero,Nat.zero_add];rfl
 |x::l,c,b=>by
  rw[List.cons_append,qJQ,qJQ,qJc k l (tch k c x) b,Nat.add_assoc];rfl
theorem tchL_snoc(k:Nat)(c l:List Int)(b:Int):tchL k c (l++[b])=tch k (tchL k c l) b:=by grind[tchL]
theorem tch_len{k:Nat}(g:0<k){c:List Int}(h:c.length<=k)(b:Int):(tch k c b).length<=k:=by
 grind[tch,mtf]
theorem qLl(k:Nat):∀l c:List Int,qJQ k c l<=l.length
 |[],_=>yU _
 |b::l,c=>by
  rw[qJQ,zy];have:=qLl k l (tch k c b);split<;>omega
end Go.Proofs
namespace Go.Proofs
open Go Go.Sx
attribute [local irreducible] Go.Sx.Tri
section
variable{V0 V:Mem}{p mb:Nat}{k n:Int}{S:Sl3}{B N P:List Int}{f:Int->Option Int}
theorem qCD{s:Sl}{xs:List Int}(h:qAc V s 1 (xs.map qAf)){i:Nat}{x:Int}(g:xs[i]?=some x):¬s.p=none/\(0:Int)<=(i:Int)/\(i:Int)<(s.n:Int)/\V.rowp s.p (i*1) 1=some [.int .i64 x]:=by
 have u:=h.n_eq;have w:=(yw.1 g).1;obtain⟨y,-,t,-,-,h1,h2,h3⟩:=h.get (i:=i) (by omega);rw[g]at t;cases t;exact⟨h1,h2,by omega,h3⟩
theorem c99(h:CaL V0 V p k n mb S S B N P f){s a b:Nat}(j:P[s]?=some (a:Int))(l:N[s]?=some (b:Int))(m:a<N.length)(r:b<P.length):
  Tri xD 99 #[pv p,.int .i64 s] V λe V'=>e=.returned (.tuple #[])/\CaL V0 V' p k n mb S S B (N.set a b) (P.set b a) f:=by
 refine x99 ?_;obtain⟨g,t,u,w⟩:=qCD (h.no.rows (λ_=>rfl) (by decide)) l;obtain⟨p1,y,p3,x⟩:=qCD (h.po.rows (λ_=>rfl) (by decide)) j;have q:=(h.no.rows (row:=qAf) (xs:=N) (λ_=>rfl) (by decide)).n_eq;have d:=(h.po.rows (row:=qAf) (xs:=P) (λ_=>rfl) (by decide)).n_eq;refine⟨nn,nn,_,h.cell 4 1 (by decide),nn,nn,_,h.cell 5 1 (by decide),p1,y,p3,_,x,nn,nn,_,h.cell 5 1 (by decide),nn,nn,_,h.cell 4 1 (by decide),g,t,u,_,w,nn,nn,_,h.cell 4 1 (by decide),g,t,u,_,w,nn,nn,_,h.cell 5 1 (by decide),p1,y,p3,_,x,g,by omega,by omega,h.setN m λV1 h1=>⟨p1,by omega,by omega,h1.setP r λV2 h2=>⟨rfl,h2⟩⟩⟩
theorem c100(h:CaL V0 V p k n mb S S B N P f){s q:Nat}(h0:N[0]?=some (q:Int))(u:s<N.length)(t:s<P.length)(J:q<P.length)(hs:s≠0):
  Tri xD 100 #[pv p,.int .i64 s] V λe V'=>e=.returned (.tuple #[])/\CaL V0 V' p k n mb S S B ((N.set s q).set 0 s) ((P.set s 0).set q s) f:=by
 refine x100 ?_;obtain⟨g,w,y,j⟩:=qCD (h.no.rows (λ_=>rfl) (by decide)) h0;have l:=(h.no.rows (row:=qAf) (xs:=N) (λ_=>rfl) (by decide)).n_eq;have m:=(h.po.rows (row:=qAf) (xs:=P) (λ_=>rfl) (by decide)).n_eq;obtain⟨p1,-⟩:=qCD (h.po.rows (λ_=>rfl) (by decide)) (yv t);refine⟨nn,nn,_,h.cell 4 1 (by decide),nn,nn,_,h.cell 5 1 (by decide),nn,nn,_,h.cell 4 1 (by decide),g,w,y,_,j,g,by omega,by omega,h.setN u λV1 h1=>⟨p1,by omega,by omega,h1.setP t λV2 h2=>?_⟩⟩;obtain⟨r,a,d,H⟩:=qCD (h2.no.rows (λ_=>rfl) (by decide)) (i:=0) (x:=q) (by simp_all);refine⟨nn,nn,_,h2.cell 5 1 (by decide),nn,nn,_,h2.cell 4 1 (by decide),r,a,d,_,H,nn,nn,_,h2.cell 4 1 (by decide),p1,by omega,by omega,h2.setP (by simp_all) λG h3=>⟨g,by omega,by omega,h3.setN (i:=0) (by simp_all) λZ h4=>⟨rfl,h4⟩⟩⟩
end
section
variable{V0 V:Mem}{p k n:Nat}{c:List Int}
theorem c90(h:CaAt p k c n V0 V):PP 90 [pv p] V (.int .i64 n):=by
 obtain⟨mb,S,B,N,P,L,f,h,-⟩:=h;refine x90 ?_;exact⟨λh=>absurd h nn,λ_=>⟨nn,nn,_,h.cell 1 1 (by decide),rfl,rfl⟩⟩
theorem c53{m:Int}:Tri xD 53 #[.int .i64 m] V λe V'=>(¬(1<=m/\m<=1000)/\e=.returned (.tuple #[.pointer none,.int .i64 2])/\V'=V)∨((1<=m/\m<=1000)/\∃p,e=.returned (.tuple #[pv p,.int .i64 0])/\CaAt p m.toNat [] 0 V V'):=by
 refine x53 ?_;refine⟨λh=>.inl ⟨λY=>by omega,rfl,rfl⟩,λh=>⟨λh2=>.inl ⟨λY=>by omega,rfl,rfl⟩,λh2=>?_⟩⟩;have hm:1<=m/\m<=1000:=by
  omega
 refine GenK.makeMap λmb u=>⟨some mb,rfl,λb1 h1 b2 w b3 h3 p Z=>.inr ⟨hm,p,rfl,?_⟩⟩;obtain⟨k,rfl⟩:∃k:Nat,m=(k:Int):=⟨m.toNat,by omega⟩;have r:=Mem.sub_new u (.map #[] 0);have q:=Mem.sub_new h1 (.cells #[.int .i64 (-1)] 3 (0,0));have y:=Mem.sub_new w (.cells #[.int .i64 0] 3 (0,0));have a:=Mem.sub_new h3 (.cells #[.int .i64 0] 3 (0,0));have none0:∀{A U:Mem}{b:Nat},A.sub U->U b=none->A b=none:=λ{A U b} hs d=>by
  cases e:A b with
  |none=>rfl
  |some o=>rw[hs _ _ e]at d;cases d
 have one:∀{W U:Mem}{b:Nat}{x:Int},W b=none->W.sub U->U b=some (.cells #[.int .i64 x] 3 (0,0))->Sx.Own W U 3 1 ⟨some ⟨b,0,none⟩,1,1⟩ ([x].flatMap qAf):=λ{W U b x} h0 hs d=>⟨hs,rfl,.inr ⟨b,_,rfl,h0,d,yU _,(show 1<=maxLen by decide),rfl,rfl⟩⟩;have sa:V.sub _:=r.trans (q.trans (y.trans a));have t:=Mem.sub_new Z (.cells (crow k 0 mb ⟨⟨some ⟨b1,0,none⟩,1,1⟩,⟨some ⟨b2,0,none⟩,1,1⟩,⟨some ⟨b3,0,none⟩,1,1⟩⟩).toArray 134 (0,0));have g:∀{b c:Nat},Blk ⟨some ⟨b,0,none⟩,1,1⟩ c->c=b:=λ{b c} h=>by
  have:=h.2;grind
 have H:b1≠b2:=λe=>by grind[Mem.set_same]
 have J:b1≠b3:=λe=>by rw[<-e]at h3;rw[y _ _ mss]at h3;cases h3
 have G:b2≠b3:=λe=>by grind[Mem.set_same]
 refine⟨mb,⟨⟨some ⟨b1,0,none⟩,1,1⟩,⟨some ⟨b2,0,none⟩,1,1⟩,⟨some ⟨b3,0,none⟩,1,1⟩⟩,[-1],[0],[0],[],λ_=>none,⟨Mem.set_same _ _ _,((qGh.made V mb).sub (q.trans (y.trans (a.trans t)))).congr λ_=>rfl,none0 sa Z,u,one (none0 r h1) (sa.trans t) ?_,one (none0 (r.trans q) w) (sa.trans t) ?_,one (none0 (r.trans (q.trans y)) h3) (sa.trans t) ?_,λc j l=>H ((g j).symm.trans (g l)),λc j l=>J ((g j).symm.trans (g l)),λc j l=>G ((g j).symm.trans (g l))⟩,?_⟩;·exact(y.trans (a.trans t)) _ _ mss
 ·exact(a.trans t) _ _ mss
 ·exact t _ _ mss
 grind[Int.toNat_natCast,CaI.new]
end
end Go.Proofs
