/- Part 27: no statement of the seat is proved here. -/
import Derived.Test.YtgdmkmfchcflpaaGreatDoorPe23
set_option linter.unusedVariables false
set_option linter.unusedSimpArgs false
namespace Go.Proofs
open Go Go.Sx
set_option maxRecDepth 100000
section
variable{V:Mem}{R:RP}
theorem Pp{a:Int}{b:Sl}{c d:Int}{g:KB}{i j k l o p q r:Sl}(h:TT 41 #[uA #[uI a,uL b,uI c,uI d],uD g i j k l o p q,uL r] V λe V1=>∃s u y z A B,e=rT #[uA #[uI s,uL u,uI y,uI z],uI A,uI B]/\R (rT #[uA #[uI s,uL u,uI y,uI z],uI B]) V1):TT 12 #[uA #[uI a,uL b,uI c,uI d],uD g i j k l o p q,uL r] V R:=Ae Tryz.func12 h
end
end Go.Proofs
namespace Go.Proofs
open Go Go.Sx
attribute [local irreducible] Go.Sx.Tri
section
variable{V:Mem}{d:Ds}{m:Mm}{k:Dk}{s l:Sl}{ms:List Mm}{b:List Int}{n:Int}
theorem JY[z:Tab V](f:Ds.Ok V d)(t:Bt V s k.data)(g:k.data.length<=2147483648)(u:CT V l ms):Tri Tryz.prog 12 #[k.v s,d.v,l.v] V λe V'=>V.sub V'/\∃s':Sl,e=.returned (.tuple #[(CU d k ms).1.v s',.int .i64 (CU d k ms).2.2])/\Bt V' s' (CU d k ms).1.data:=by
 refine Pp ?_;refine Tri.mono (MK f t g u) ?_;rintro _ V1 ⟨w,s',rfl,h⟩;exact⟨_,_,_,_,_,_,rfl,w,s',rfl,h⟩
end
end Go.Proofs
