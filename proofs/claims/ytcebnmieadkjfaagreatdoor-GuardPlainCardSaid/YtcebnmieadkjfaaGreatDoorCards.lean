/-
  DERIVED. GIVEN WITH THE SEED: THE CARDS: each row of YtcebnmieadkjfaaGreatDoorRows.lean that lists a variable, with what it lists TIED to the program's text (the seventh form; the later family's looks); each row that meets fmt, with fmt's text TOLD by the authors' own Lean function (tested against real Go, not proved from fmt's source: count such statements apart). THE CARD IS WHAT COUNTS. Prove the row's statement (the work); the ties are given (YtcebnmieadkjfaaGreatDoorTie.lean); close each card by the builder's one call (the guide's Derived/Test/ToyasCard.lean, 'card_holds'). Laid BY PROGRAM, IN A SANDBOX (cutbox-door.mjs). By AI agents, Wed Nov 11 2026. No macro, syntax, notation, axiom, sorry.
-/
import Derived.Test.YtcebnmieadkjfaaGreatDoorRows
import GoSem.ClaimSeven
namespace Go.Proofs.YtcebnmieadkjfaaGreatDoor
namespace Rows

/-- THE TIED CARD OF 'heartwoodlaw18.GuardPlain'. -/
def guardPlainCard : Claim7 := { stood := { row := guardPlainRow, standIns := [], harness := (true, "f2889a6f2b0e5a6ea401e41f2f7bd0c46c20323cde478dd572aa74aed6002ee4"), looks := true }, kinds := [], alts := [], laidByText := true, laidKinds := [.listed, .data], laidTests := true, laidLooks := .later }
def GuardPlainCardSaid : Prop := Claim7.holds Tryz.pinned (.plain (OpenSpec.ofChange guardPlainSpec)) guardPlainCard

/-- THE SECOND FORM's CARD OF 'heartwoodlaw18.GuardPlain'. -/
def guardPlainUptoCard : Claim7 := { stood := { row := guardPlainUptoRow, standIns := [], harness := (true, "f2889a6f2b0e5a6ea401e41f2f7bd0c46c20323cde478dd572aa74aed6002ee4"), looks := true }, kinds := [], alts := [], laidByText := true, laidKinds := [.listed, .data], laidTests := true, laidLooks := .later }
def GuardPlainUptoCardSaid : Prop := Claim7.holds Tryz.pinned (.plain (OpenSpec.upto guardPlainSpec)) guardPlainUptoCard
end Rows
end Go.Proofs.YtcebnmieadkjfaaGreatDoor
