/-
  DERIVED. GIVEN WITH THE SEED: THE CARDS: each row of YtginfholjbbgeaaGreatDoorRows.lean that lists a variable, with what it lists TIED to the program's text (the seventh form; the later family's looks); each row that meets fmt, with fmt's text TOLD by the authors' own Lean function (tested against real Go, not proved from fmt's source: count such statements apart). THE CARD IS WHAT COUNTS. Prove the row's statement (the work); the ties are given (YtginfholjbbgeaaGreatDoorTie.lean); close each card by the builder's one call (the guide's Derived/Test/ToyasCard.lean, 'card_holds'). Laid BY PROGRAM, IN A SANDBOX (cutbox-door.mjs). By AI agents, Wed Nov 11 2026. No macro, syntax, notation, axiom, sorry.
-/
import Derived.Test.YtginfholjbbgeaaGreatDoorRows
import GoSem.ClaimSeven
namespace Go.Proofs.YtginfholjbbgeaaGreatDoor
namespace Rows

/-- THE TIED CARD OF 'heartwoodlaw37.RollbackFollows'. -/
def rollbackFollowsCard : Claim7 := { stood := { row := rollbackFollowsRow, standIns := [], harness := (true, "8a34b34c9555a74b4ad7b6e16f2445f87ac74f55192dd3ae28995b84c1f8d283"), looks := true }, kinds := [], alts := [], laidByText := true, laidKinds := [.listed, .data], laidTests := true, laidLooks := .later }
def RollbackFollowsCardSaid : Prop := Claim7.holds Tryz.pinned (.plain (OpenSpec.ofChange rollbackFollowsSpec)) rollbackFollowsCard

/-- THE TIED CARD OF 'heartwoodlaw37.RollbackAtomic'. -/
def rollbackAtomicCard : Claim7 := { stood := { row := rollbackAtomicRow, standIns := [], harness := (true, "8a34b34c9555a74b4ad7b6e16f2445f87ac74f55192dd3ae28995b84c1f8d283"), looks := true }, kinds := [], alts := [], laidByText := true, laidKinds := [.listed, .data], laidTests := true, laidLooks := .later }
def RollbackAtomicCardSaid : Prop := Claim7.holds Tryz.pinned (.plain (OpenSpec.ofChange rollbackAtomicSpec)) rollbackAtomicCard

/-- THE TIED CARD OF 'heartwoodlaw37.RollbackTurns'. -/
def rollbackTurnsCard : Claim7 := { stood := { row := rollbackTurnsRow, standIns := [], harness := (true, "8a34b34c9555a74b4ad7b6e16f2445f87ac74f55192dd3ae28995b84c1f8d283"), looks := true }, kinds := [], alts := [], laidByText := true, laidKinds := [.listed, .data], laidTests := true, laidLooks := .later }
def RollbackTurnsCardSaid : Prop := Claim7.holds Tryz.pinned (.plain (OpenSpec.ofChange rollbackTurnsSpec)) rollbackTurnsCard

/-- THE SECOND FORM's CARD OF 'heartwoodlaw37.RollbackFollows'. -/
def rollbackFollowsUptoCard : Claim7 := { stood := { row := rollbackFollowsUptoRow, standIns := [], harness := (true, "8a34b34c9555a74b4ad7b6e16f2445f87ac74f55192dd3ae28995b84c1f8d283"), looks := true }, kinds := [], alts := [], laidByText := true, laidKinds := [.listed, .data], laidTests := true, laidLooks := .later }
def RollbackFollowsUptoCardSaid : Prop := Claim7.holds Tryz.pinned (.plain (OpenSpec.upto rollbackFollowsSpec)) rollbackFollowsUptoCard

/-- THE SECOND FORM's CARD OF 'heartwoodlaw37.RollbackAtomic'. -/
def rollbackAtomicUptoCard : Claim7 := { stood := { row := rollbackAtomicUptoRow, standIns := [], harness := (true, "8a34b34c9555a74b4ad7b6e16f2445f87ac74f55192dd3ae28995b84c1f8d283"), looks := true }, kinds := [], alts := [], laidByText := true, laidKinds := [.listed, .data], laidTests := true, laidLooks := .later }
def RollbackAtomicUptoCardSaid : Prop := Claim7.holds Tryz.pinned (.plain (OpenSpec.upto rollbackAtomicSpec)) rollbackAtomicUptoCard

/-- THE SECOND FORM's CARD OF 'heartwoodlaw37.RollbackTurns'. -/
def rollbackTurnsUptoCard : Claim7 := { stood := { row := rollbackTurnsUptoRow, standIns := [], harness := (true, "8a34b34c9555a74b4ad7b6e16f2445f87ac74f55192dd3ae28995b84c1f8d283"), looks := true }, kinds := [], alts := [], laidByText := true, laidKinds := [.listed, .data], laidTests := true, laidLooks := .later }
def RollbackTurnsUptoCardSaid : Prop := Claim7.holds Tryz.pinned (.plain (OpenSpec.upto rollbackTurnsSpec)) rollbackTurnsUptoCard
end Rows
end Go.Proofs.YtginfholjbbgeaaGreatDoor
