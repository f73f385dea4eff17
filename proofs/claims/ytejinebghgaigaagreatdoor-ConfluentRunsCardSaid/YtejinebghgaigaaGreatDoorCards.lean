/-
  DERIVED. GIVEN WITH THE SEED: THE CARDS: each row of YtejinebghgaigaaGreatDoorRows.lean that lists a variable, with what it lists TIED to the program's text (the seventh form; the later family's looks); each row that meets fmt, with fmt's text TOLD by the authors' own Lean function (tested against real Go, not proved from fmt's source: count such statements apart). THE CARD IS WHAT COUNTS. Prove the row's statement (the work); the ties are given (YtejinebghgaigaaGreatDoorTie.lean); close each card by the builder's one call (the guide's Derived/Test/ToyasCard.lean, 'card_holds'). Laid BY PROGRAM, IN A SANDBOX (cutbox-door.mjs). By AI agents, Wed Nov 11 2026. No macro, syntax, notation, axiom, sorry.
-/
import Derived.Test.YtejinebghgaigaaGreatDoorRows
import GoSem.ClaimSeven
namespace Go.Proofs.YtejinebghgaigaaGreatDoor
namespace Rows

/-- THE TIED CARD OF 'heartwoodlaw40.ConfluentDoubles'. -/
def confluentDoublesCard : Claim7 := { stood := { row := confluentDoublesRow, standIns := [], harness := (true, "a359887999f03d526b0199056f0a049eb93740affa981db22f417ad67e0f51f7"), looks := true }, kinds := [], alts := [], laidByText := true, laidKinds := [.listed, .data], laidTests := true, laidLooks := .later }
def ConfluentDoublesCardSaid : Prop := Claim7.holds Tryz.pinned (.plain (OpenSpec.ofChange confluentDoublesSpec)) confluentDoublesCard

/-- THE TIED CARD OF 'heartwoodlaw40.ConfluentPlays'. -/
def confluentPlaysCard : Claim7 := { stood := { row := confluentPlaysRow, standIns := [], harness := (true, "a359887999f03d526b0199056f0a049eb93740affa981db22f417ad67e0f51f7"), looks := true }, kinds := [], alts := [], laidByText := true, laidKinds := [.listed, .data], laidTests := true, laidLooks := .later }
def ConfluentPlaysCardSaid : Prop := Claim7.holds Tryz.pinned (.plain (OpenSpec.ofChange confluentPlaysSpec)) confluentPlaysCard

/-- THE TIED CARD OF 'heartwoodlaw40.ConfluentSnapshots'. -/
def confluentSnapshotsCard : Claim7 := { stood := { row := confluentSnapshotsRow, standIns := [], harness := (true, "a359887999f03d526b0199056f0a049eb93740affa981db22f417ad67e0f51f7"), looks := true }, kinds := [], alts := [], laidByText := true, laidKinds := [.listed, .data], laidTests := true, laidLooks := .later }
def ConfluentSnapshotsCardSaid : Prop := Claim7.holds Tryz.pinned (.plain (OpenSpec.ofChange confluentSnapshotsSpec)) confluentSnapshotsCard

/-- THE TIED CARD OF 'heartwoodlaw40.ConfluentRuns'. -/
def confluentRunsCard : Claim7 := { stood := { row := confluentRunsRow, standIns := [], harness := (true, "a359887999f03d526b0199056f0a049eb93740affa981db22f417ad67e0f51f7"), looks := true }, kinds := [], alts := [], laidByText := true, laidKinds := [.listed, .data], laidTests := true, laidLooks := .later }
def ConfluentRunsCardSaid : Prop := Claim7.holds Tryz.pinned (.plain (OpenSpec.ofChange confluentRunsSpec)) confluentRunsCard

/-- THE TIED CARD OF 'heartwoodlaw40.ConfluentApart'. -/
def confluentApartCard : Claim7 := { stood := { row := confluentApartRow, standIns := [], harness := (true, "a359887999f03d526b0199056f0a049eb93740affa981db22f417ad67e0f51f7"), looks := true }, kinds := [], alts := [], laidByText := true, laidKinds := [.listed, .data], laidTests := true, laidLooks := .later }
def ConfluentApartCardSaid : Prop := Claim7.holds Tryz.pinned (.plain (OpenSpec.ofChange confluentApartSpec)) confluentApartCard

/-- THE TIED CARD OF 'heartwoodlaw40.ConfluentStays'. -/
def confluentStaysCard : Claim7 := { stood := { row := confluentStaysRow, standIns := [], harness := (true, "a359887999f03d526b0199056f0a049eb93740affa981db22f417ad67e0f51f7"), looks := true }, kinds := [], alts := [], laidByText := true, laidKinds := [.listed, .data], laidTests := true, laidLooks := .later }
def ConfluentStaysCardSaid : Prop := Claim7.holds Tryz.pinned (.plain (OpenSpec.ofChange confluentStaysSpec)) confluentStaysCard

/-- THE SECOND FORM's CARD OF 'heartwoodlaw40.ConfluentDoubles'. -/
def confluentDoublesUptoCard : Claim7 := { stood := { row := confluentDoublesUptoRow, standIns := [], harness := (true, "a359887999f03d526b0199056f0a049eb93740affa981db22f417ad67e0f51f7"), looks := true }, kinds := [], alts := [], laidByText := true, laidKinds := [.listed, .data], laidTests := true, laidLooks := .later }
def ConfluentDoublesUptoCardSaid : Prop := Claim7.holds Tryz.pinned (.plain (OpenSpec.upto confluentDoublesSpec)) confluentDoublesUptoCard

/-- THE SECOND FORM's CARD OF 'heartwoodlaw40.ConfluentPlays'. -/
def confluentPlaysUptoCard : Claim7 := { stood := { row := confluentPlaysUptoRow, standIns := [], harness := (true, "a359887999f03d526b0199056f0a049eb93740affa981db22f417ad67e0f51f7"), looks := true }, kinds := [], alts := [], laidByText := true, laidKinds := [.listed, .data], laidTests := true, laidLooks := .later }
def ConfluentPlaysUptoCardSaid : Prop := Claim7.holds Tryz.pinned (.plain (OpenSpec.upto confluentPlaysSpec)) confluentPlaysUptoCard

/-- THE SECOND FORM's CARD OF 'heartwoodlaw40.ConfluentSnapshots'. -/
def confluentSnapshotsUptoCard : Claim7 := { stood := { row := confluentSnapshotsUptoRow, standIns := [], harness := (true, "a359887999f03d526b0199056f0a049eb93740affa981db22f417ad67e0f51f7"), looks := true }, kinds := [], alts := [], laidByText := true, laidKinds := [.listed, .data], laidTests := true, laidLooks := .later }
def ConfluentSnapshotsUptoCardSaid : Prop := Claim7.holds Tryz.pinned (.plain (OpenSpec.upto confluentSnapshotsSpec)) confluentSnapshotsUptoCard

/-- THE SECOND FORM's CARD OF 'heartwoodlaw40.ConfluentRuns'. -/
def confluentRunsUptoCard : Claim7 := { stood := { row := confluentRunsUptoRow, standIns := [], harness := (true, "a359887999f03d526b0199056f0a049eb93740affa981db22f417ad67e0f51f7"), looks := true }, kinds := [], alts := [], laidByText := true, laidKinds := [.listed, .data], laidTests := true, laidLooks := .later }
def ConfluentRunsUptoCardSaid : Prop := Claim7.holds Tryz.pinned (.plain (OpenSpec.upto confluentRunsSpec)) confluentRunsUptoCard

/-- THE SECOND FORM's CARD OF 'heartwoodlaw40.ConfluentApart'. -/
def confluentApartUptoCard : Claim7 := { stood := { row := confluentApartUptoRow, standIns := [], harness := (true, "a359887999f03d526b0199056f0a049eb93740affa981db22f417ad67e0f51f7"), looks := true }, kinds := [], alts := [], laidByText := true, laidKinds := [.listed, .data], laidTests := true, laidLooks := .later }
def ConfluentApartUptoCardSaid : Prop := Claim7.holds Tryz.pinned (.plain (OpenSpec.upto confluentApartSpec)) confluentApartUptoCard

/-- THE SECOND FORM's CARD OF 'heartwoodlaw40.ConfluentStays'. -/
def confluentStaysUptoCard : Claim7 := { stood := { row := confluentStaysUptoRow, standIns := [], harness := (true, "a359887999f03d526b0199056f0a049eb93740affa981db22f417ad67e0f51f7"), looks := true }, kinds := [], alts := [], laidByText := true, laidKinds := [.listed, .data], laidTests := true, laidLooks := .later }
def ConfluentStaysUptoCardSaid : Prop := Claim7.holds Tryz.pinned (.plain (OpenSpec.upto confluentStaysSpec)) confluentStaysUptoCard
end Rows
end Go.Proofs.YtejinebghgaigaaGreatDoor
