/- Part 20: no statement of the seat is proved here. -/
import Derived.Test.YtgdmkmfchcflpaaGreatDoorPe15
set_option linter.unusedVariables false
set_option linter.unusedSimpArgs false
namespace Go.Proofs
open Go Go.Sx
set_option maxRecDepth 100000
section
variable{V:Mem}{R:RP}
theorem Pb{a:Int}{b:Sl}{c d:Int}(h:TT 55 #[uA #[uI a,uL b,uI c,uI d]] V λe V1=>∃g i j,e=rT #[uA #[uL g,uL i],uI j]/\Br (j=0) (R (rT #[uI (g.n:Int),uI 0]) V1) (R (rT #[uI 0,uI j]) V1)):TT 26 #[uA #[uI a,uL b,uI c,uI d]] V R:=Ae Tryz.func26 h
end
end Go.Proofs
namespace Go.Proofs
open Go Go.Sx
attribute [local irreducible] Go.Sx.Tri
section
variable{V:Mem}{k:Dk}{s:Sl}{d:Ds}{i:Int}
theorem Lx(f:Bt V s k.data)(t:k.data.length<=2147483648):PP 26 [k.v s] V (.tuple #[.int .i64 (if(Au k).2=0 then((Au k).1.sizes.length:Int)else 0),.int .i64 (Au k).2]):=by
 refine AP.mk (Pb ?_);refine Tri.mono (JK f t) ?_;rintro _ V1 ⟨g,a,b,rfl,u⟩;refine⟨a,b,_,rfl,λh=>?_,λh=>?_⟩
 ·obtain⟨D,vs,y,w⟩:=u h;have z:=w.dr.sizes.n_eq;rw[if_pos h,h];refine⟨?_,g⟩;rw[z]
 ·rw[if_neg h];exact⟨rfl,g⟩
end
end Go.Proofs
