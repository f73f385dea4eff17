/-
  DERIVED. GIVEN WITH THE SEED: THE CARDS: each row of YtnoompnjibfbfaaGreatDoorRows.lean that lists a variable, with what it lists TIED to the program's text (the seventh form; the later family's looks); each row that meets fmt, with fmt's text TOLD by the authors' own Lean function (tested against real Go, not proved from fmt's source: count such statements apart). THE CARD IS WHAT COUNTS. Prove the row's statement (the work); the ties are given (YtnoompnjibfbfaaGreatDoorTie.lean); close each card by the builder's one call (the guide's Derived/Test/ToyasCard.lean, 'card_holds'). Laid BY PROGRAM, IN A SANDBOX (cutbox-door.mjs). By AI agents, Wed Nov 11 2026. No macro, syntax, notation, axiom, sorry.
-/
import Derived.Test.YtnoompnjibfbfaaGreatDoorRows
import GoSem.ClaimSeven
namespace Go.Proofs.YtnoompnjibfbfaaGreatDoor
namespace Rows

/-- THE TIED CARD OF 'heartwoodlaw16.InvariantMeasures'. -/
def invariantMeasuresCard : Claim7 := { stood := { row := invariantMeasuresRow, standIns := [], harness := (true, "10bbb982ba03098cd0a081cca9579fae35aa2e0dabaeb76ad56d839499cac84f"), looks := true }, kinds := [], alts := [], laidByText := true, laidKinds := [.listed, .data], laidTests := true, laidLooks := .later }
def InvariantMeasuresCardSaid : Prop := Claim7.holds Tryz.pinned (.plain (OpenSpec.ofChange invariantMeasuresSpec)) invariantMeasuresCard

/-- THE TIED CARD OF 'heartwoodlaw16.InvariantMoved'. -/
def invariantMovedCard : Claim7 := { stood := { row := invariantMovedRow, standIns := [], harness := (true, "10bbb982ba03098cd0a081cca9579fae35aa2e0dabaeb76ad56d839499cac84f"), looks := true }, kinds := [], alts := [], laidByText := true, laidKinds := [.listed, .data], laidTests := true, laidLooks := .later }
def InvariantMovedCardSaid : Prop := Claim7.holds Tryz.pinned (.plain (OpenSpec.ofChange invariantMovedSpec)) invariantMovedCard

/-- THE TIED CARD OF 'heartwoodlaw16.InvariantLists'. -/
def invariantListsCard : Claim7 := { stood := { row := invariantListsRow, standIns := [], harness := (true, "10bbb982ba03098cd0a081cca9579fae35aa2e0dabaeb76ad56d839499cac84f"), looks := true }, kinds := [], alts := [], laidByText := true, laidKinds := [.listed, .data], laidTests := true, laidLooks := .later }
def InvariantListsCardSaid : Prop := Claim7.holds Tryz.pinned (.plain (OpenSpec.ofChange invariantListsSpec)) invariantListsCard

/-- THE TIED CARD OF 'heartwoodlaw16.InvariantChecks'. -/
def invariantChecksCard : Claim7 := { stood := { row := invariantChecksRow, standIns := [], harness := (true, "10bbb982ba03098cd0a081cca9579fae35aa2e0dabaeb76ad56d839499cac84f"), looks := true }, kinds := [], alts := [], laidByText := true, laidKinds := [.listed, .data], laidTests := true, laidLooks := .later }
def InvariantChecksCardSaid : Prop := Claim7.holds Tryz.pinned (.plain (OpenSpec.ofChange invariantChecksSpec)) invariantChecksCard

/-- THE TIED CARD OF 'heartwoodlaw16.InvariantHolds'. -/
def invariantHoldsCard : Claim7 := { stood := { row := invariantHoldsRow, standIns := [], harness := (true, "10bbb982ba03098cd0a081cca9579fae35aa2e0dabaeb76ad56d839499cac84f"), looks := true }, kinds := [], alts := [], laidByText := true, laidKinds := [.listed, .data], laidTests := true, laidLooks := .later }
def InvariantHoldsCardSaid : Prop := Claim7.holds Tryz.pinned (.plain (OpenSpec.ofChange invariantHoldsSpec)) invariantHoldsCard

/-- THE TIED CARD OF 'heartwoodlaw16.InvariantExprs'. -/
def invariantExprsCard : Claim7 := { stood := { row := invariantExprsRow, standIns := [], harness := (true, "10bbb982ba03098cd0a081cca9579fae35aa2e0dabaeb76ad56d839499cac84f"), looks := true }, kinds := [], alts := [], laidByText := true, laidKinds := [.listed, .data], laidTests := true, laidLooks := .later }
def InvariantExprsCardSaid : Prop := Claim7.holds Tryz.pinned (.plain (OpenSpec.ofChange invariantExprsSpec)) invariantExprsCard

/-- THE TIED CARD OF 'heartwoodlaw16.InvariantUnfolds'. -/
def invariantUnfoldsCard : Claim7 := { stood := { row := invariantUnfoldsRow, standIns := [], harness := (true, "10bbb982ba03098cd0a081cca9579fae35aa2e0dabaeb76ad56d839499cac84f"), looks := true }, kinds := [], alts := [], laidByText := true, laidKinds := [.listed, .data], laidTests := true, laidLooks := .later }
def InvariantUnfoldsCardSaid : Prop := Claim7.holds Tryz.pinned (.plain (OpenSpec.ofChange invariantUnfoldsSpec)) invariantUnfoldsCard

/-- THE SECOND FORM's CARD OF 'heartwoodlaw16.InvariantMeasures'. -/
def invariantMeasuresUptoCard : Claim7 := { stood := { row := invariantMeasuresUptoRow, standIns := [], harness := (true, "10bbb982ba03098cd0a081cca9579fae35aa2e0dabaeb76ad56d839499cac84f"), looks := true }, kinds := [], alts := [], laidByText := true, laidKinds := [.listed, .data], laidTests := true, laidLooks := .later }
def InvariantMeasuresUptoCardSaid : Prop := Claim7.holds Tryz.pinned (.plain (OpenSpec.upto invariantMeasuresSpec)) invariantMeasuresUptoCard

/-- THE SECOND FORM's CARD OF 'heartwoodlaw16.InvariantMoved'. -/
def invariantMovedUptoCard : Claim7 := { stood := { row := invariantMovedUptoRow, standIns := [], harness := (true, "10bbb982ba03098cd0a081cca9579fae35aa2e0dabaeb76ad56d839499cac84f"), looks := true }, kinds := [], alts := [], laidByText := true, laidKinds := [.listed, .data], laidTests := true, laidLooks := .later }
def InvariantMovedUptoCardSaid : Prop := Claim7.holds Tryz.pinned (.plain (OpenSpec.upto invariantMovedSpec)) invariantMovedUptoCard

/-- THE SECOND FORM's CARD OF 'heartwoodlaw16.InvariantLists'. -/
def invariantListsUptoCard : Claim7 := { stood := { row := invariantListsUptoRow, standIns := [], harness := (true, "10bbb982ba03098cd0a081cca9579fae35aa2e0dabaeb76ad56d839499cac84f"), looks := true }, kinds := [], alts := [], laidByText := true, laidKinds := [.listed, .data], laidTests := true, laidLooks := .later }
def InvariantListsUptoCardSaid : Prop := Claim7.holds Tryz.pinned (.plain (OpenSpec.upto invariantListsSpec)) invariantListsUptoCard

/-- THE SECOND FORM's CARD OF 'heartwoodlaw16.InvariantChecks'. -/
def invariantChecksUptoCard : Claim7 := { stood := { row := invariantChecksUptoRow, standIns := [], harness := (true, "10bbb982ba03098cd0a081cca9579fae35aa2e0dabaeb76ad56d839499cac84f"), looks := true }, kinds := [], alts := [], laidByText := true, laidKinds := [.listed, .data], laidTests := true, laidLooks := .later }
def InvariantChecksUptoCardSaid : Prop := Claim7.holds Tryz.pinned (.plain (OpenSpec.upto invariantChecksSpec)) invariantChecksUptoCard

/-- THE SECOND FORM's CARD OF 'heartwoodlaw16.InvariantHolds'. -/
def invariantHoldsUptoCard : Claim7 := { stood := { row := invariantHoldsUptoRow, standIns := [], harness := (true, "10bbb982ba03098cd0a081cca9579fae35aa2e0dabaeb76ad56d839499cac84f"), looks := true }, kinds := [], alts := [], laidByText := true, laidKinds := [.listed, .data], laidTests := true, laidLooks := .later }
def InvariantHoldsUptoCardSaid : Prop := Claim7.holds Tryz.pinned (.plain (OpenSpec.upto invariantHoldsSpec)) invariantHoldsUptoCard

/-- THE SECOND FORM's CARD OF 'heartwoodlaw16.InvariantExprs'. -/
def invariantExprsUptoCard : Claim7 := { stood := { row := invariantExprsUptoRow, standIns := [], harness := (true, "10bbb982ba03098cd0a081cca9579fae35aa2e0dabaeb76ad56d839499cac84f"), looks := true }, kinds := [], alts := [], laidByText := true, laidKinds := [.listed, .data], laidTests := true, laidLooks := .later }
def InvariantExprsUptoCardSaid : Prop := Claim7.holds Tryz.pinned (.plain (OpenSpec.upto invariantExprsSpec)) invariantExprsUptoCard

/-- THE SECOND FORM's CARD OF 'heartwoodlaw16.InvariantUnfolds'. -/
def invariantUnfoldsUptoCard : Claim7 := { stood := { row := invariantUnfoldsUptoRow, standIns := [], harness := (true, "10bbb982ba03098cd0a081cca9579fae35aa2e0dabaeb76ad56d839499cac84f"), looks := true }, kinds := [], alts := [], laidByText := true, laidKinds := [.listed, .data], laidTests := true, laidLooks := .later }
def InvariantUnfoldsUptoCardSaid : Prop := Claim7.holds Tryz.pinned (.plain (OpenSpec.upto invariantUnfoldsSpec)) invariantUnfoldsUptoCard
end Rows
end Go.Proofs.YtnoompnjibfbfaaGreatDoor
