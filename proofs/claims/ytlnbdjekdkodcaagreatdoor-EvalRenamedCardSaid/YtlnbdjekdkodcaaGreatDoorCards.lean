/-
  DERIVED. GIVEN WITH THE SEED: THE CARDS: each row of YtlnbdjekdkodcaaGreatDoorRows.lean that lists a variable, with what it lists TIED to the program's text (the seventh form; the later family's looks); each row that meets fmt, with fmt's text TOLD by the authors' own Lean function (tested against real Go, not proved from fmt's source: count such statements apart). THE CARD IS WHAT COUNTS. Prove the row's statement (the work); the ties are given (YtlnbdjekdkodcaaGreatDoorTie.lean); close each card by the builder's one call (the guide's Derived/Test/ToyasCard.lean, 'card_holds'). Laid BY PROGRAM, IN A SANDBOX (cutbox-door.mjs). By AI agents, Wed Nov 11 2026. No macro, syntax, notation, axiom, sorry.
-/
import Derived.Test.YtlnbdjekdkodcaaGreatDoorRows
import GoSem.ClaimSeven
namespace Go.Proofs.YtlnbdjekdkodcaaGreatDoor
namespace Rows

/-- THE TIED CARD OF 'heartwoodlaw13.EvalRuns'. -/
def evalRunsCard : Claim7 := { stood := { row := evalRunsRow, standIns := [], harness := (true, "e8f03e452401f98403ad32101dfffe4b1ed7a0e025f6f434af036d036f2309e4"), looks := true }, kinds := [], alts := [], laidByText := true, laidKinds := [.listed, .data], laidTests := true, laidLooks := .later }
def EvalRunsCardSaid : Prop := Claim7.holds Tryz.pinned (.plain (OpenSpec.ofChange evalRunsSpec)) evalRunsCard

/-- THE TIED CARD OF 'heartwoodlaw13.EvalCounts'. -/
def evalCountsCard : Claim7 := { stood := { row := evalCountsRow, standIns := [], harness := (true, "e8f03e452401f98403ad32101dfffe4b1ed7a0e025f6f434af036d036f2309e4"), looks := true }, kinds := [], alts := [], laidByText := true, laidKinds := [.listed, .data], laidTests := true, laidLooks := .later }
def EvalCountsCardSaid : Prop := Claim7.holds Tryz.pinned (.plain (OpenSpec.ofChange evalCountsSpec)) evalCountsCard

/-- THE TIED CARD OF 'heartwoodlaw13.EvalTraces'. -/
def evalTracesCard : Claim7 := { stood := { row := evalTracesRow, standIns := [], harness := (true, "e8f03e452401f98403ad32101dfffe4b1ed7a0e025f6f434af036d036f2309e4"), looks := true }, kinds := [], alts := [], laidByText := true, laidKinds := [.listed, .data], laidTests := true, laidLooks := .later }
def EvalTracesCardSaid : Prop := Claim7.holds Tryz.pinned (.plain (OpenSpec.ofChange evalTracesSpec)) evalTracesCard

/-- THE TIED CARD OF 'heartwoodlaw13.EvalFuel'. -/
def evalFuelCard : Claim7 := { stood := { row := evalFuelRow, standIns := [], harness := (true, "e8f03e452401f98403ad32101dfffe4b1ed7a0e025f6f434af036d036f2309e4"), looks := true }, kinds := [], alts := [], laidByText := true, laidKinds := [.listed, .data], laidTests := true, laidLooks := .later }
def EvalFuelCardSaid : Prop := Claim7.holds Tryz.pinned (.plain (OpenSpec.ofChange evalFuelSpec)) evalFuelCard

/-- THE TIED CARD OF 'heartwoodlaw13.EvalScripts'. -/
def evalScriptsCard : Claim7 := { stood := { row := evalScriptsRow, standIns := [], harness := (true, "e8f03e452401f98403ad32101dfffe4b1ed7a0e025f6f434af036d036f2309e4"), looks := true }, kinds := [], alts := [], laidByText := true, laidKinds := [.listed, .data], laidTests := true, laidLooks := .later }
def EvalScriptsCardSaid : Prop := Claim7.holds Tryz.pinned (.plain (OpenSpec.ofChange evalScriptsSpec)) evalScriptsCard

/-- THE TIED CARD OF 'heartwoodlaw13.EvalRenamed'. -/
def evalRenamedCard : Claim7 := { stood := { row := evalRenamedRow, standIns := [], harness := (true, "e8f03e452401f98403ad32101dfffe4b1ed7a0e025f6f434af036d036f2309e4"), looks := true }, kinds := [], alts := [], laidByText := true, laidKinds := [.listed, .data], laidTests := true, laidLooks := .later }
def EvalRenamedCardSaid : Prop := Claim7.holds Tryz.pinned (.plain (OpenSpec.ofChange evalRenamedSpec)) evalRenamedCard

/-- THE SECOND FORM's CARD OF 'heartwoodlaw13.EvalRuns'. -/
def evalRunsUptoCard : Claim7 := { stood := { row := evalRunsUptoRow, standIns := [], harness := (true, "e8f03e452401f98403ad32101dfffe4b1ed7a0e025f6f434af036d036f2309e4"), looks := true }, kinds := [], alts := [], laidByText := true, laidKinds := [.listed, .data], laidTests := true, laidLooks := .later }
def EvalRunsUptoCardSaid : Prop := Claim7.holds Tryz.pinned (.plain (OpenSpec.upto evalRunsSpec)) evalRunsUptoCard

/-- THE SECOND FORM's CARD OF 'heartwoodlaw13.EvalCounts'. -/
def evalCountsUptoCard : Claim7 := { stood := { row := evalCountsUptoRow, standIns := [], harness := (true, "e8f03e452401f98403ad32101dfffe4b1ed7a0e025f6f434af036d036f2309e4"), looks := true }, kinds := [], alts := [], laidByText := true, laidKinds := [.listed, .data], laidTests := true, laidLooks := .later }
def EvalCountsUptoCardSaid : Prop := Claim7.holds Tryz.pinned (.plain (OpenSpec.upto evalCountsSpec)) evalCountsUptoCard

/-- THE SECOND FORM's CARD OF 'heartwoodlaw13.EvalTraces'. -/
def evalTracesUptoCard : Claim7 := { stood := { row := evalTracesUptoRow, standIns := [], harness := (true, "e8f03e452401f98403ad32101dfffe4b1ed7a0e025f6f434af036d036f2309e4"), looks := true }, kinds := [], alts := [], laidByText := true, laidKinds := [.listed, .data], laidTests := true, laidLooks := .later }
def EvalTracesUptoCardSaid : Prop := Claim7.holds Tryz.pinned (.plain (OpenSpec.upto evalTracesSpec)) evalTracesUptoCard

/-- THE SECOND FORM's CARD OF 'heartwoodlaw13.EvalFuel'. -/
def evalFuelUptoCard : Claim7 := { stood := { row := evalFuelUptoRow, standIns := [], harness := (true, "e8f03e452401f98403ad32101dfffe4b1ed7a0e025f6f434af036d036f2309e4"), looks := true }, kinds := [], alts := [], laidByText := true, laidKinds := [.listed, .data], laidTests := true, laidLooks := .later }
def EvalFuelUptoCardSaid : Prop := Claim7.holds Tryz.pinned (.plain (OpenSpec.upto evalFuelSpec)) evalFuelUptoCard

/-- THE SECOND FORM's CARD OF 'heartwoodlaw13.EvalScripts'. -/
def evalScriptsUptoCard : Claim7 := { stood := { row := evalScriptsUptoRow, standIns := [], harness := (true, "e8f03e452401f98403ad32101dfffe4b1ed7a0e025f6f434af036d036f2309e4"), looks := true }, kinds := [], alts := [], laidByText := true, laidKinds := [.listed, .data], laidTests := true, laidLooks := .later }
def EvalScriptsUptoCardSaid : Prop := Claim7.holds Tryz.pinned (.plain (OpenSpec.upto evalScriptsSpec)) evalScriptsUptoCard

/-- THE SECOND FORM's CARD OF 'heartwoodlaw13.EvalRenamed'. -/
def evalRenamedUptoCard : Claim7 := { stood := { row := evalRenamedUptoRow, standIns := [], harness := (true, "e8f03e452401f98403ad32101dfffe4b1ed7a0e025f6f434af036d036f2309e4"), looks := true }, kinds := [], alts := [], laidByText := true, laidKinds := [.listed, .data], laidTests := true, laidLooks := .later }
def EvalRenamedUptoCardSaid : Prop := Claim7.holds Tryz.pinned (.plain (OpenSpec.upto evalRenamedSpec)) evalRenamedUptoCard
end Rows
end Go.Proofs.YtlnbdjekdkodcaaGreatDoor
