/- Part 23: no statement of the seat is proved here. -/
import Derived.Test.YtmdkfdmecbimcaaGreatDoorPd16
import Derived.Test.YtmdkfdmecbimcaaGreatDoorPd17
set_option linter.unusedVariables false
set_option linter.unusedSimpArgs false
namespace Go.Proofs
open Go Go.Sx
attribute [local irreducible] Go.Sx.Tri
section
variable{V:Mem}{d:Ds}{l:Sl}{xs:List Sq}{a b:Int}
theorem LL{s:PsS}(h:Bm s a):s.vs[a.toNat]?=some (Bo s a):=by
 have k:a.toNat<s.vs.length:=by have:=h.1;have:=h.2;omega
 simp_all[List.getElem?_eq_getElem,Gw]
end
end Go.Proofs
