/-
  DERIVED. GIVEN WITH THE SEED: THE CARDS: each row of YtkebnkjegieagaaGreatDoorRows.lean that lists a variable, with what it lists TIED to the program's text (the seventh form; the later family's looks); each row that meets fmt, with fmt's text TOLD by the authors' own Lean function (tested against real Go, not proved from fmt's source: count such statements apart). THE CARD IS WHAT COUNTS. Prove the row's statement (the work); the ties are given (YtkebnkjegieagaaGreatDoorTie.lean); close each card by the builder's one call (the guide's Derived/Test/ToyasCard.lean, 'card_holds'). Laid BY PROGRAM, IN A SANDBOX (cutbox-door.mjs). By AI agents, Wed Nov 11 2026. No macro, syntax, notation, axiom, sorry.
-/
import Derived.Test.YtkebnkjegieagaaGreatDoorRows
import GoSem.ClaimSeven
namespace Go.Proofs.YtkebnkjegieagaaGreatDoor
namespace Rows

/-- THE TIED CARD OF 'heartwoodlaw18.GuardRuns'. -/
def guardRunsCard : Claim7 := { stood := { row := guardRunsRow, standIns := [], harness := (true, "d18e7ec0b62029c8899e74f6be6398170469de21da93098eb43adbf3bef1c512"), looks := true }, kinds := [], alts := [], laidByText := true, laidKinds := [.listed, .data], laidTests := true, laidLooks := .later }
def GuardRunsCardSaid : Prop := Claim7.holds Tryz.pinned (.plain (OpenSpec.ofChange guardRunsSpec)) guardRunsCard

/-- THE TIED CARD OF 'heartwoodlaw18.GuardScripts'. -/
def guardScriptsCard : Claim7 := { stood := { row := guardScriptsRow, standIns := [], harness := (true, "d18e7ec0b62029c8899e74f6be6398170469de21da93098eb43adbf3bef1c512"), looks := true }, kinds := [], alts := [], laidByText := true, laidKinds := [.listed, .data], laidTests := true, laidLooks := .later }
def GuardScriptsCardSaid : Prop := Claim7.holds Tryz.pinned (.plain (OpenSpec.ofChange guardScriptsSpec)) guardScriptsCard

/-- THE SECOND FORM's CARD OF 'heartwoodlaw18.GuardRuns'. -/
def guardRunsUptoCard : Claim7 := { stood := { row := guardRunsUptoRow, standIns := [], harness := (true, "d18e7ec0b62029c8899e74f6be6398170469de21da93098eb43adbf3bef1c512"), looks := true }, kinds := [], alts := [], laidByText := true, laidKinds := [.listed, .data], laidTests := true, laidLooks := .later }
def GuardRunsUptoCardSaid : Prop := Claim7.holds Tryz.pinned (.plain (OpenSpec.upto guardRunsSpec)) guardRunsUptoCard

/-- THE SECOND FORM's CARD OF 'heartwoodlaw18.GuardScripts'. -/
def guardScriptsUptoCard : Claim7 := { stood := { row := guardScriptsUptoRow, standIns := [], harness := (true, "d18e7ec0b62029c8899e74f6be6398170469de21da93098eb43adbf3bef1c512"), looks := true }, kinds := [], alts := [], laidByText := true, laidKinds := [.listed, .data], laidTests := true, laidLooks := .later }
def GuardScriptsUptoCardSaid : Prop := Claim7.holds Tryz.pinned (.plain (OpenSpec.upto guardScriptsSpec)) guardScriptsUptoCard
end Rows
end Go.Proofs.YtkebnkjegieagaaGreatDoor
