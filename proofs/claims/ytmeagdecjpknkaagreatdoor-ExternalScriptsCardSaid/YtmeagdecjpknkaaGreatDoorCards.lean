/-
  DERIVED. GIVEN WITH THE SEED: THE CARDS: each row of YtmeagdecjpknkaaGreatDoorRows.lean that lists a variable, with what it lists TIED to the program's text (the seventh form; the later family's looks); each row that meets fmt, with fmt's text TOLD by the authors' own Lean function (tested against real Go, not proved from fmt's source: count such statements apart). THE CARD IS WHAT COUNTS. Prove the row's statement (the work); the ties are given (YtmeagdecjpknkaaGreatDoorTie.lean); close each card by the builder's one call (the guide's Derived/Test/ToyasCard.lean, 'card_holds'). Laid BY PROGRAM, IN A SANDBOX (cutbox-door.mjs). By AI agents, Wed Nov 11 2026. No macro, syntax, notation, axiom, sorry.
-/
import Derived.Test.YtmeagdecjpknkaaGreatDoorRows
import GoSem.ClaimSeven
namespace Go.Proofs.YtmeagdecjpknkaaGreatDoor
namespace Rows

/-- THE TIED CARD OF 'heartwoodlaw42.ExternalPlaces'. -/
def externalPlacesCard : Claim7 := { stood := { row := externalPlacesRow, standIns := [], harness := (true, "99e446f510d6d5fdedf0a2dd7c0fcbc4cb61f4f1aa15e0f86652079d8e99abc7"), looks := true }, kinds := [], alts := [], laidByText := true, laidKinds := [.listed, .data], laidTests := true, laidLooks := .later }
def ExternalPlacesCardSaid : Prop := Claim7.holds Tryz.pinned (.plain (OpenSpec.ofChange externalPlacesSpec)) externalPlacesCard

/-- THE TIED CARD OF 'heartwoodlaw42.ExternalRuns'. -/
def externalRunsCard : Claim7 := { stood := { row := externalRunsRow, standIns := [], harness := (true, "99e446f510d6d5fdedf0a2dd7c0fcbc4cb61f4f1aa15e0f86652079d8e99abc7"), looks := true }, kinds := [], alts := [], laidByText := true, laidKinds := [.listed, .data], laidTests := true, laidLooks := .later }
def ExternalRunsCardSaid : Prop := Claim7.holds Tryz.pinned (.plain (OpenSpec.ofChange externalRunsSpec)) externalRunsCard

/-- THE TIED CARD OF 'heartwoodlaw42.ExternalPlain'. -/
def externalPlainCard : Claim7 := { stood := { row := externalPlainRow, standIns := [], harness := (true, "99e446f510d6d5fdedf0a2dd7c0fcbc4cb61f4f1aa15e0f86652079d8e99abc7"), looks := true }, kinds := [], alts := [], laidByText := true, laidKinds := [.listed, .data], laidTests := true, laidLooks := .later }
def ExternalPlainCardSaid : Prop := Claim7.holds Tryz.pinned (.plain (OpenSpec.ofChange externalPlainSpec)) externalPlainCard

/-- THE TIED CARD OF 'heartwoodlaw42.ExternalScripts'. -/
def externalScriptsCard : Claim7 := { stood := { row := externalScriptsRow, standIns := [], harness := (true, "99e446f510d6d5fdedf0a2dd7c0fcbc4cb61f4f1aa15e0f86652079d8e99abc7"), looks := true }, kinds := [], alts := [], laidByText := true, laidKinds := [.listed, .data], laidTests := true, laidLooks := .later }
def ExternalScriptsCardSaid : Prop := Claim7.holds Tryz.pinned (.plain (OpenSpec.ofChange externalScriptsSpec)) externalScriptsCard

/-- THE TIED CARD OF 'heartwoodlaw42.ExternalTidy'. -/
def externalTidyCard : Claim7 := { stood := { row := externalTidyRow, standIns := [], harness := (true, "99e446f510d6d5fdedf0a2dd7c0fcbc4cb61f4f1aa15e0f86652079d8e99abc7"), looks := true }, kinds := [], alts := [], laidByText := true, laidKinds := [.listed, .data], laidTests := true, laidLooks := .later }
def ExternalTidyCardSaid : Prop := Claim7.holds Tryz.pinned (.plain (OpenSpec.ofChange externalTidySpec)) externalTidyCard

/-- THE TIED CARD OF 'heartwoodlaw42.ExternalGreater'. -/
def externalGreaterCard : Claim7 := { stood := { row := externalGreaterRow, standIns := [], harness := (true, "99e446f510d6d5fdedf0a2dd7c0fcbc4cb61f4f1aa15e0f86652079d8e99abc7"), looks := true }, kinds := [], alts := [], laidByText := true, laidKinds := [.listed, .data], laidTests := true, laidLooks := .later }
def ExternalGreaterCardSaid : Prop := Claim7.holds Tryz.pinned (.plain (OpenSpec.ofChange externalGreaterSpec)) externalGreaterCard

/-- THE SECOND FORM's CARD OF 'heartwoodlaw42.ExternalPlaces'. -/
def externalPlacesUptoCard : Claim7 := { stood := { row := externalPlacesUptoRow, standIns := [], harness := (true, "99e446f510d6d5fdedf0a2dd7c0fcbc4cb61f4f1aa15e0f86652079d8e99abc7"), looks := true }, kinds := [], alts := [], laidByText := true, laidKinds := [.listed, .data], laidTests := true, laidLooks := .later }
def ExternalPlacesUptoCardSaid : Prop := Claim7.holds Tryz.pinned (.plain (OpenSpec.upto externalPlacesSpec)) externalPlacesUptoCard

/-- THE SECOND FORM's CARD OF 'heartwoodlaw42.ExternalRuns'. -/
def externalRunsUptoCard : Claim7 := { stood := { row := externalRunsUptoRow, standIns := [], harness := (true, "99e446f510d6d5fdedf0a2dd7c0fcbc4cb61f4f1aa15e0f86652079d8e99abc7"), looks := true }, kinds := [], alts := [], laidByText := true, laidKinds := [.listed, .data], laidTests := true, laidLooks := .later }
def ExternalRunsUptoCardSaid : Prop := Claim7.holds Tryz.pinned (.plain (OpenSpec.upto externalRunsSpec)) externalRunsUptoCard

/-- THE SECOND FORM's CARD OF 'heartwoodlaw42.ExternalPlain'. -/
def externalPlainUptoCard : Claim7 := { stood := { row := externalPlainUptoRow, standIns := [], harness := (true, "99e446f510d6d5fdedf0a2dd7c0fcbc4cb61f4f1aa15e0f86652079d8e99abc7"), looks := true }, kinds := [], alts := [], laidByText := true, laidKinds := [.listed, .data], laidTests := true, laidLooks := .later }
def ExternalPlainUptoCardSaid : Prop := Claim7.holds Tryz.pinned (.plain (OpenSpec.upto externalPlainSpec)) externalPlainUptoCard

/-- THE SECOND FORM's CARD OF 'heartwoodlaw42.ExternalScripts'. -/
def externalScriptsUptoCard : Claim7 := { stood := { row := externalScriptsUptoRow, standIns := [], harness := (true, "99e446f510d6d5fdedf0a2dd7c0fcbc4cb61f4f1aa15e0f86652079d8e99abc7"), looks := true }, kinds := [], alts := [], laidByText := true, laidKinds := [.listed, .data], laidTests := true, laidLooks := .later }
def ExternalScriptsUptoCardSaid : Prop := Claim7.holds Tryz.pinned (.plain (OpenSpec.upto externalScriptsSpec)) externalScriptsUptoCard

/-- THE SECOND FORM's CARD OF 'heartwoodlaw42.ExternalTidy'. -/
def externalTidyUptoCard : Claim7 := { stood := { row := externalTidyUptoRow, standIns := [], harness := (true, "99e446f510d6d5fdedf0a2dd7c0fcbc4cb61f4f1aa15e0f86652079d8e99abc7"), looks := true }, kinds := [], alts := [], laidByText := true, laidKinds := [.listed, .data], laidTests := true, laidLooks := .later }
def ExternalTidyUptoCardSaid : Prop := Claim7.holds Tryz.pinned (.plain (OpenSpec.upto externalTidySpec)) externalTidyUptoCard

/-- THE SECOND FORM's CARD OF 'heartwoodlaw42.ExternalGreater'. -/
def externalGreaterUptoCard : Claim7 := { stood := { row := externalGreaterUptoRow, standIns := [], harness := (true, "99e446f510d6d5fdedf0a2dd7c0fcbc4cb61f4f1aa15e0f86652079d8e99abc7"), looks := true }, kinds := [], alts := [], laidByText := true, laidKinds := [.listed, .data], laidTests := true, laidLooks := .later }
def ExternalGreaterUptoCardSaid : Prop := Claim7.holds Tryz.pinned (.plain (OpenSpec.upto externalGreaterSpec)) externalGreaterUptoCard
end Rows
end Go.Proofs.YtmeagdecjpknkaaGreatDoor
