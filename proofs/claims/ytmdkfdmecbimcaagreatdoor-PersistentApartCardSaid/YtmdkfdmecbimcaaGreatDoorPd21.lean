/- Part 21: no statement of the seat is proved here. -/
import Derived.Test.YtmdkfdmecbimcaaGreatDoorPd19
set_option linter.unusedVariables false
set_option linter.unusedSimpArgs false
namespace Go.Proofs
open Go Go.Sx
set_option maxRecDepth 100000
section
variable{V:Mem}{R:RP}
theorem Pz{a:Option Addr}(h:Br (a=none) (R (rV (uI 0)) V) (N2 a (∃b,V.rowp a 11 1=some [uI b]/\R (rV (uI b)) V))):TT 15 #[uP a] V R:=Ae Tryz.func15 h
end
end Go.Proofs
