/-
  DERIVED. GIVEN WITH THE SEED: THE CARDS: each row of YtmdkfdmecbimcaaGreatDoorRows.lean that lists a variable, with what it lists TIED to the program's text (the seventh form; the later family's looks); each row that meets fmt, with fmt's text TOLD by the authors' own Lean function (tested against real Go, not proved from fmt's source: count such statements apart). THE CARD IS WHAT COUNTS. Prove the row's statement (the work); the ties are given (YtmdkfdmecbimcaaGreatDoorTie.lean); close each card by the builder's one call (the guide's Derived/Test/ToyasCard.lean, 'card_holds'). Laid BY PROGRAM, IN A SANDBOX (cutbox-door.mjs). By AI agents, Wed Nov 11 2026. No macro, syntax, notation, axiom, sorry.
-/
import Derived.Test.YtmdkfdmecbimcaaGreatDoorRows
import GoSem.ClaimSeven
namespace Go.Proofs.YtmdkfdmecbimcaaGreatDoor
namespace Rows

/-- THE TIED CARD OF 'heartwoodlaw36.PersistentSnapshots'. -/
def persistentSnapshotsCard : Claim7 := { stood := { row := persistentSnapshotsRow, standIns := [], harness := (true, "e07cc6ac13b378ed68c263a1b335f1bd3e83bdd203d679267bb8e5ef9e72052c"), looks := true }, kinds := [], alts := [], laidByText := true, laidKinds := [.listed, .data], laidTests := true, laidLooks := .later }
def PersistentSnapshotsCardSaid : Prop := Claim7.holds Tryz.pinned (.plain (OpenSpec.ofChange persistentSnapshotsSpec)) persistentSnapshotsCard

/-- THE TIED CARD OF 'heartwoodlaw36.PersistentCalls'. -/
def persistentCallsCard : Claim7 := { stood := { row := persistentCallsRow, standIns := [], harness := (true, "e07cc6ac13b378ed68c263a1b335f1bd3e83bdd203d679267bb8e5ef9e72052c"), looks := true }, kinds := [], alts := [], laidByText := true, laidKinds := [.listed, .data], laidTests := true, laidLooks := .later }
def PersistentCallsCardSaid : Prop := Claim7.holds Tryz.pinned (.plain (OpenSpec.ofChange persistentCallsSpec)) persistentCallsCard

/-- THE TIED CARD OF 'heartwoodlaw36.PersistentSpace'. -/
def persistentSpaceCard : Claim7 := { stood := { row := persistentSpaceRow, standIns := [], harness := (true, "e07cc6ac13b378ed68c263a1b335f1bd3e83bdd203d679267bb8e5ef9e72052c"), looks := true }, kinds := [], alts := [], laidByText := true, laidKinds := [.listed, .data], laidTests := true, laidLooks := .later }
def PersistentSpaceCardSaid : Prop := Claim7.holds Tryz.pinned (.plain (OpenSpec.ofChange persistentSpaceSpec)) persistentSpaceCard

/-- THE TIED CARD OF 'heartwoodlaw36.PersistentStays'. -/
def persistentStaysCard : Claim7 := { stood := { row := persistentStaysRow, standIns := [], harness := (true, "e07cc6ac13b378ed68c263a1b335f1bd3e83bdd203d679267bb8e5ef9e72052c"), looks := true }, kinds := [], alts := [], laidByText := true, laidKinds := [.listed, .data], laidTests := true, laidLooks := .later }
def PersistentStaysCardSaid : Prop := Claim7.holds Tryz.pinned (.plain (OpenSpec.ofChange persistentStaysSpec)) persistentStaysCard

/-- THE TIED CARD OF 'heartwoodlaw36.PersistentApart'. -/
def persistentApartCard : Claim7 := { stood := { row := persistentApartRow, standIns := [], harness := (true, "e07cc6ac13b378ed68c263a1b335f1bd3e83bdd203d679267bb8e5ef9e72052c"), looks := true }, kinds := [], alts := [], laidByText := true, laidKinds := [.listed, .data], laidTests := true, laidLooks := .later }
def PersistentApartCardSaid : Prop := Claim7.holds Tryz.pinned (.plain (OpenSpec.ofChange persistentApartSpec)) persistentApartCard

/-- THE SECOND FORM's CARD OF 'heartwoodlaw36.PersistentSnapshots'. -/
def persistentSnapshotsUptoCard : Claim7 := { stood := { row := persistentSnapshotsUptoRow, standIns := [], harness := (true, "e07cc6ac13b378ed68c263a1b335f1bd3e83bdd203d679267bb8e5ef9e72052c"), looks := true }, kinds := [], alts := [], laidByText := true, laidKinds := [.listed, .data], laidTests := true, laidLooks := .later }
def PersistentSnapshotsUptoCardSaid : Prop := Claim7.holds Tryz.pinned (.plain (OpenSpec.upto persistentSnapshotsSpec)) persistentSnapshotsUptoCard

/-- THE SECOND FORM's CARD OF 'heartwoodlaw36.PersistentCalls'. -/
def persistentCallsUptoCard : Claim7 := { stood := { row := persistentCallsUptoRow, standIns := [], harness := (true, "e07cc6ac13b378ed68c263a1b335f1bd3e83bdd203d679267bb8e5ef9e72052c"), looks := true }, kinds := [], alts := [], laidByText := true, laidKinds := [.listed, .data], laidTests := true, laidLooks := .later }
def PersistentCallsUptoCardSaid : Prop := Claim7.holds Tryz.pinned (.plain (OpenSpec.upto persistentCallsSpec)) persistentCallsUptoCard

/-- THE SECOND FORM's CARD OF 'heartwoodlaw36.PersistentSpace'. -/
def persistentSpaceUptoCard : Claim7 := { stood := { row := persistentSpaceUptoRow, standIns := [], harness := (true, "e07cc6ac13b378ed68c263a1b335f1bd3e83bdd203d679267bb8e5ef9e72052c"), looks := true }, kinds := [], alts := [], laidByText := true, laidKinds := [.listed, .data], laidTests := true, laidLooks := .later }
def PersistentSpaceUptoCardSaid : Prop := Claim7.holds Tryz.pinned (.plain (OpenSpec.upto persistentSpaceSpec)) persistentSpaceUptoCard

/-- THE SECOND FORM's CARD OF 'heartwoodlaw36.PersistentStays'. -/
def persistentStaysUptoCard : Claim7 := { stood := { row := persistentStaysUptoRow, standIns := [], harness := (true, "e07cc6ac13b378ed68c263a1b335f1bd3e83bdd203d679267bb8e5ef9e72052c"), looks := true }, kinds := [], alts := [], laidByText := true, laidKinds := [.listed, .data], laidTests := true, laidLooks := .later }
def PersistentStaysUptoCardSaid : Prop := Claim7.holds Tryz.pinned (.plain (OpenSpec.upto persistentStaysSpec)) persistentStaysUptoCard

/-- THE SECOND FORM's CARD OF 'heartwoodlaw36.PersistentApart'. -/
def persistentApartUptoCard : Claim7 := { stood := { row := persistentApartUptoRow, standIns := [], harness := (true, "e07cc6ac13b378ed68c263a1b335f1bd3e83bdd203d679267bb8e5ef9e72052c"), looks := true }, kinds := [], alts := [], laidByText := true, laidKinds := [.listed, .data], laidTests := true, laidLooks := .later }
def PersistentApartUptoCardSaid : Prop := Claim7.holds Tryz.pinned (.plain (OpenSpec.upto persistentApartSpec)) persistentApartUptoCard
end Rows
end Go.Proofs.YtmdkfdmecbimcaaGreatDoor
