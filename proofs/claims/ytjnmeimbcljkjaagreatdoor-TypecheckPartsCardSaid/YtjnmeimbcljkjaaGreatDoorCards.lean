/-
  DERIVED. GIVEN WITH THE SEED: THE CARDS: each row of YtjnmeimbcljkjaaGreatDoorRows.lean that lists a variable, with what it lists TIED to the program's text (the seventh form; the later family's looks); each row that meets fmt, with fmt's text TOLD by the authors' own Lean function (tested against real Go, not proved from fmt's source: count such statements apart). THE CARD IS WHAT COUNTS. Prove the row's statement (the work); the ties are given (YtjnmeimbcljkjaaGreatDoorTie.lean); close each card by the builder's one call (the guide's Derived/Test/ToyasCard.lean, 'card_holds'). Laid BY PROGRAM, IN A SANDBOX (cutbox-door.mjs). By AI agents, Wed Nov 11 2026. No macro, syntax, notation, axiom, sorry.
-/
import Derived.Test.YtjnmeimbcljkjaaGreatDoorRows
import GoSem.ClaimSeven
namespace Go.Proofs.YtjnmeimbcljkjaaGreatDoor
namespace Rows

/-- THE TIED CARD OF 'heartwoodlaw11.TypecheckChecks'. -/
def typecheckChecksCard : Claim7 := { stood := { row := typecheckChecksRow, standIns := [], harness := (true, "9d1f30e800623809e43fe6bcff0b0c9c520e8f6b7a3ee806e5d4159c35b5c072"), looks := false }, kinds := [], alts := [], laidByText := true, laidKinds := [.listed, .data], laidTests := true, laidLooks := .later }
def TypecheckChecksCardSaid : Prop := Claim7.holds Tryz.pinned (.plain (OpenSpec.ofChange typecheckChecksSpec)) typecheckChecksCard

/-- THE TIED CARD OF 'heartwoodlaw11.TypecheckExprs'. -/
def typecheckExprsCard : Claim7 := { stood := { row := typecheckExprsRow, standIns := [], harness := (true, "9d1f30e800623809e43fe6bcff0b0c9c520e8f6b7a3ee806e5d4159c35b5c072"), looks := false }, kinds := [], alts := [], laidByText := true, laidKinds := [.listed, .data], laidTests := true, laidLooks := .later }
def TypecheckExprsCardSaid : Prop := Claim7.holds Tryz.pinned (.plain (OpenSpec.ofChange typecheckExprsSpec)) typecheckExprsCard

/-- THE TIED CARD OF 'heartwoodlaw11.TypecheckLess'. -/
def typecheckLessCard : Claim7 := { stood := { row := typecheckLessRow, standIns := [], harness := (true, "9d1f30e800623809e43fe6bcff0b0c9c520e8f6b7a3ee806e5d4159c35b5c072"), looks := false }, kinds := [], alts := [], laidByText := true, laidKinds := [.listed, .data], laidTests := true, laidLooks := .later }
def TypecheckLessCardSaid : Prop := Claim7.holds Tryz.pinned (.plain (OpenSpec.ofChange typecheckLessSpec)) typecheckLessCard

/-- THE TIED CARD OF 'heartwoodlaw11.TypecheckDeclared'. -/
def typecheckDeclaredCard : Claim7 := { stood := { row := typecheckDeclaredRow, standIns := [], harness := (true, "9d1f30e800623809e43fe6bcff0b0c9c520e8f6b7a3ee806e5d4159c35b5c072"), looks := false }, kinds := [], alts := [], laidByText := true, laidKinds := [.listed, .data], laidTests := true, laidLooks := .later }
def TypecheckDeclaredCardSaid : Prop := Claim7.holds Tryz.pinned (.plain (OpenSpec.ofChange typecheckDeclaredSpec)) typecheckDeclaredCard

/-- THE TIED CARD OF 'heartwoodlaw11.TypecheckFormulas'. -/
def typecheckFormulasCard : Claim7 := { stood := { row := typecheckFormulasRow, standIns := [], harness := (true, "9d1f30e800623809e43fe6bcff0b0c9c520e8f6b7a3ee806e5d4159c35b5c072"), looks := false }, kinds := [], alts := [], laidByText := true, laidKinds := [.listed, .data], laidTests := true, laidLooks := .later }
def TypecheckFormulasCardSaid : Prop := Claim7.holds Tryz.pinned (.plain (OpenSpec.ofChange typecheckFormulasSpec)) typecheckFormulasCard

/-- THE TIED CARD OF 'heartwoodlaw11.TypecheckParts'. -/
def typecheckPartsCard : Claim7 := { stood := { row := typecheckPartsRow, standIns := [], harness := (true, "9d1f30e800623809e43fe6bcff0b0c9c520e8f6b7a3ee806e5d4159c35b5c072"), looks := false }, kinds := [], alts := [], laidByText := true, laidKinds := [.listed, .data], laidTests := true, laidLooks := .later }
def TypecheckPartsCardSaid : Prop := Claim7.holds Tryz.pinned (.plain (OpenSpec.ofChange typecheckPartsSpec)) typecheckPartsCard

/-- THE TIED CARD OF 'heartwoodlaw11.TypecheckEntries'. -/
def typecheckEntriesCard : Claim7 := { stood := { row := typecheckEntriesRow, standIns := [], harness := (true, "9d1f30e800623809e43fe6bcff0b0c9c520e8f6b7a3ee806e5d4159c35b5c072"), looks := false }, kinds := [], alts := [], laidByText := true, laidKinds := [.listed, .data], laidTests := true, laidLooks := .later }
def TypecheckEntriesCardSaid : Prop := Claim7.holds Tryz.pinned (.plain (OpenSpec.ofChange typecheckEntriesSpec)) typecheckEntriesCard

/-- THE SECOND FORM's CARD OF 'heartwoodlaw11.TypecheckChecks'. -/
def typecheckChecksUptoCard : Claim7 := { stood := { row := typecheckChecksUptoRow, standIns := [], harness := (true, "9d1f30e800623809e43fe6bcff0b0c9c520e8f6b7a3ee806e5d4159c35b5c072"), looks := false }, kinds := [], alts := [], laidByText := true, laidKinds := [.listed, .data], laidTests := true, laidLooks := .later }
def TypecheckChecksUptoCardSaid : Prop := Claim7.holds Tryz.pinned (.plain (OpenSpec.upto typecheckChecksSpec)) typecheckChecksUptoCard

/-- THE SECOND FORM's CARD OF 'heartwoodlaw11.TypecheckExprs'. -/
def typecheckExprsUptoCard : Claim7 := { stood := { row := typecheckExprsUptoRow, standIns := [], harness := (true, "9d1f30e800623809e43fe6bcff0b0c9c520e8f6b7a3ee806e5d4159c35b5c072"), looks := false }, kinds := [], alts := [], laidByText := true, laidKinds := [.listed, .data], laidTests := true, laidLooks := .later }
def TypecheckExprsUptoCardSaid : Prop := Claim7.holds Tryz.pinned (.plain (OpenSpec.upto typecheckExprsSpec)) typecheckExprsUptoCard

/-- THE SECOND FORM's CARD OF 'heartwoodlaw11.TypecheckLess'. -/
def typecheckLessUptoCard : Claim7 := { stood := { row := typecheckLessUptoRow, standIns := [], harness := (true, "9d1f30e800623809e43fe6bcff0b0c9c520e8f6b7a3ee806e5d4159c35b5c072"), looks := false }, kinds := [], alts := [], laidByText := true, laidKinds := [.listed, .data], laidTests := true, laidLooks := .later }
def TypecheckLessUptoCardSaid : Prop := Claim7.holds Tryz.pinned (.plain (OpenSpec.upto typecheckLessSpec)) typecheckLessUptoCard

/-- THE SECOND FORM's CARD OF 'heartwoodlaw11.TypecheckDeclared'. -/
def typecheckDeclaredUptoCard : Claim7 := { stood := { row := typecheckDeclaredUptoRow, standIns := [], harness := (true, "9d1f30e800623809e43fe6bcff0b0c9c520e8f6b7a3ee806e5d4159c35b5c072"), looks := false }, kinds := [], alts := [], laidByText := true, laidKinds := [.listed, .data], laidTests := true, laidLooks := .later }
def TypecheckDeclaredUptoCardSaid : Prop := Claim7.holds Tryz.pinned (.plain (OpenSpec.upto typecheckDeclaredSpec)) typecheckDeclaredUptoCard

/-- THE SECOND FORM's CARD OF 'heartwoodlaw11.TypecheckFormulas'. -/
def typecheckFormulasUptoCard : Claim7 := { stood := { row := typecheckFormulasUptoRow, standIns := [], harness := (true, "9d1f30e800623809e43fe6bcff0b0c9c520e8f6b7a3ee806e5d4159c35b5c072"), looks := false }, kinds := [], alts := [], laidByText := true, laidKinds := [.listed, .data], laidTests := true, laidLooks := .later }
def TypecheckFormulasUptoCardSaid : Prop := Claim7.holds Tryz.pinned (.plain (OpenSpec.upto typecheckFormulasSpec)) typecheckFormulasUptoCard

/-- THE SECOND FORM's CARD OF 'heartwoodlaw11.TypecheckParts'. -/
def typecheckPartsUptoCard : Claim7 := { stood := { row := typecheckPartsUptoRow, standIns := [], harness := (true, "9d1f30e800623809e43fe6bcff0b0c9c520e8f6b7a3ee806e5d4159c35b5c072"), looks := false }, kinds := [], alts := [], laidByText := true, laidKinds := [.listed, .data], laidTests := true, laidLooks := .later }
def TypecheckPartsUptoCardSaid : Prop := Claim7.holds Tryz.pinned (.plain (OpenSpec.upto typecheckPartsSpec)) typecheckPartsUptoCard

/-- THE SECOND FORM's CARD OF 'heartwoodlaw11.TypecheckEntries'. -/
def typecheckEntriesUptoCard : Claim7 := { stood := { row := typecheckEntriesUptoRow, standIns := [], harness := (true, "9d1f30e800623809e43fe6bcff0b0c9c520e8f6b7a3ee806e5d4159c35b5c072"), looks := false }, kinds := [], alts := [], laidByText := true, laidKinds := [.listed, .data], laidTests := true, laidLooks := .later }
def TypecheckEntriesUptoCardSaid : Prop := Claim7.holds Tryz.pinned (.plain (OpenSpec.upto typecheckEntriesSpec)) typecheckEntriesUptoCard
end Rows
end Go.Proofs.YtjnmeimbcljkjaaGreatDoor
