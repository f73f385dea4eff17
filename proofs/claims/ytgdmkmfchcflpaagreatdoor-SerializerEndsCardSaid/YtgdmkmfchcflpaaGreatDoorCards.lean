/-
  DERIVED. GIVEN WITH THE SEED: THE CARDS: each row of YtgdmkmfchcflpaaGreatDoorRows.lean that lists a variable, with what it lists TIED to the program's text (the seventh form; the later family's looks); each row that meets fmt, with fmt's text TOLD by the authors' own Lean function (tested against real Go, not proved from fmt's source: count such statements apart). THE CARD IS WHAT COUNTS. Prove the row's statement (the work); the ties are given (YtgdmkmfchcflpaaGreatDoorTie.lean); close each card by the builder's one call (the guide's Derived/Test/ToyasCard.lean, 'card_holds'). Laid BY PROGRAM, IN A SANDBOX (cutbox-door.mjs). By AI agents, Wed Nov 11 2026. No macro, syntax, notation, axiom, sorry.
-/
import Derived.Test.YtgdmkmfchcflpaaGreatDoorRows
import GoSem.ClaimSeven
namespace Go.Proofs.YtgdmkmfchcflpaaGreatDoor
namespace Rows

/-- THE TIED CARD OF 'heartwoodlaw53.SerializerKeeps'. -/
def serializerKeepsCard : Claim7 := { stood := { row := serializerKeepsRow, standIns := [], harness := (true, "3bd207a272a8885aebe866ee4164e02c7dde111f027890948da3109e9f894133"), looks := false }, kinds := [], alts := [], laidByText := true, laidKinds := [.listed, .data], laidTests := true, laidLooks := .later }
def SerializerKeepsCardSaid : Prop := Claim7.holds Tryz.pinned (.plain (OpenSpec.ofChange serializerKeepsSpec)) serializerKeepsCard

/-- THE TIED CARD OF 'heartwoodlaw53.SerializerCodes'. -/
def serializerCodesCard : Claim7 := { stood := { row := serializerCodesRow, standIns := [], harness := (true, "3bd207a272a8885aebe866ee4164e02c7dde111f027890948da3109e9f894133"), looks := false }, kinds := [], alts := [], laidByText := true, laidKinds := [.listed, .data], laidTests := true, laidLooks := .later }
def SerializerCodesCardSaid : Prop := Claim7.holds Tryz.pinned (.plain (OpenSpec.ofChange serializerCodesSpec)) serializerCodesCard

/-- THE TIED CARD OF 'heartwoodlaw53.SerializerEnds'. -/
def serializerEndsCard : Claim7 := { stood := { row := serializerEndsRow, standIns := [], harness := (true, "3bd207a272a8885aebe866ee4164e02c7dde111f027890948da3109e9f894133"), looks := false }, kinds := [], alts := [], laidByText := true, laidKinds := [.listed, .data], laidTests := true, laidLooks := .later }
def SerializerEndsCardSaid : Prop := Claim7.holds Tryz.pinned (.plain (OpenSpec.ofChange serializerEndsSpec)) serializerEndsCard

/-- THE TIED CARD OF 'heartwoodlaw53.SerializerShares'. -/
def serializerSharesCard : Claim7 := { stood := { row := serializerSharesRow, standIns := [], harness := (true, "3bd207a272a8885aebe866ee4164e02c7dde111f027890948da3109e9f894133"), looks := false }, kinds := [], alts := [], laidByText := true, laidKinds := [.listed, .data], laidTests := true, laidLooks := .later }
def SerializerSharesCardSaid : Prop := Claim7.holds Tryz.pinned (.plain (OpenSpec.ofChange serializerSharesSpec)) serializerSharesCard

/-- THE TIED CARD OF 'heartwoodlaw53.SerializerSurvives'. -/
def serializerSurvivesCard : Claim7 := { stood := { row := serializerSurvivesRow, standIns := [], harness := (true, "3bd207a272a8885aebe866ee4164e02c7dde111f027890948da3109e9f894133"), looks := false }, kinds := [], alts := [], laidByText := true, laidKinds := [.listed, .data], laidTests := true, laidLooks := .later }
def SerializerSurvivesCardSaid : Prop := Claim7.holds Tryz.pinned (.plain (OpenSpec.ofChange serializerSurvivesSpec)) serializerSurvivesCard

/-- THE SECOND FORM's CARD OF 'heartwoodlaw53.SerializerKeeps'. -/
def serializerKeepsUptoCard : Claim7 := { stood := { row := serializerKeepsUptoRow, standIns := [], harness := (true, "3bd207a272a8885aebe866ee4164e02c7dde111f027890948da3109e9f894133"), looks := false }, kinds := [], alts := [], laidByText := true, laidKinds := [.listed, .data], laidTests := true, laidLooks := .later }
def SerializerKeepsUptoCardSaid : Prop := Claim7.holds Tryz.pinned (.plain (OpenSpec.upto serializerKeepsSpec)) serializerKeepsUptoCard

/-- THE SECOND FORM's CARD OF 'heartwoodlaw53.SerializerCodes'. -/
def serializerCodesUptoCard : Claim7 := { stood := { row := serializerCodesUptoRow, standIns := [], harness := (true, "3bd207a272a8885aebe866ee4164e02c7dde111f027890948da3109e9f894133"), looks := false }, kinds := [], alts := [], laidByText := true, laidKinds := [.listed, .data], laidTests := true, laidLooks := .later }
def SerializerCodesUptoCardSaid : Prop := Claim7.holds Tryz.pinned (.plain (OpenSpec.upto serializerCodesSpec)) serializerCodesUptoCard

/-- THE SECOND FORM's CARD OF 'heartwoodlaw53.SerializerEnds'. -/
def serializerEndsUptoCard : Claim7 := { stood := { row := serializerEndsUptoRow, standIns := [], harness := (true, "3bd207a272a8885aebe866ee4164e02c7dde111f027890948da3109e9f894133"), looks := false }, kinds := [], alts := [], laidByText := true, laidKinds := [.listed, .data], laidTests := true, laidLooks := .later }
def SerializerEndsUptoCardSaid : Prop := Claim7.holds Tryz.pinned (.plain (OpenSpec.upto serializerEndsSpec)) serializerEndsUptoCard

/-- THE SECOND FORM's CARD OF 'heartwoodlaw53.SerializerShares'. -/
def serializerSharesUptoCard : Claim7 := { stood := { row := serializerSharesUptoRow, standIns := [], harness := (true, "3bd207a272a8885aebe866ee4164e02c7dde111f027890948da3109e9f894133"), looks := false }, kinds := [], alts := [], laidByText := true, laidKinds := [.listed, .data], laidTests := true, laidLooks := .later }
def SerializerSharesUptoCardSaid : Prop := Claim7.holds Tryz.pinned (.plain (OpenSpec.upto serializerSharesSpec)) serializerSharesUptoCard

/-- THE SECOND FORM's CARD OF 'heartwoodlaw53.SerializerSurvives'. -/
def serializerSurvivesUptoCard : Claim7 := { stood := { row := serializerSurvivesUptoRow, standIns := [], harness := (true, "3bd207a272a8885aebe866ee4164e02c7dde111f027890948da3109e9f894133"), looks := false }, kinds := [], alts := [], laidByText := true, laidKinds := [.listed, .data], laidTests := true, laidLooks := .later }
def SerializerSurvivesUptoCardSaid : Prop := Claim7.holds Tryz.pinned (.plain (OpenSpec.upto serializerSurvivesSpec)) serializerSurvivesUptoCard
end Rows
end Go.Proofs.YtgdmkmfchcflpaaGreatDoor
