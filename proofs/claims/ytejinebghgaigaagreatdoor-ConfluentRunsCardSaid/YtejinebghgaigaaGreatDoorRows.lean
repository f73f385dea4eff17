/-
  NARROWER THAN 'FOR EVERY INPUT', by the rows' own cells (each row's printed sentence says how): ConfluentDoubles: laid · ConfluentPlays: loops, laid · ConfluentSnapshots: loops, laid · ConfluentRuns: loops, laid · ConfluentApart: loops, laid · ConfluentStays: loops, laid.
  DERIVED. THE GIVEN ROWS OF THIS SEAT. 6 by the template 'for every input the law returns true; each argument reads behind the call as it read before'; 0 by the template 'total and deterministic' (their statements: YtejinebghgaigaaGreatDoorTotals.lean).
  GIVEN WITH THE SEED: the statements are not yours to turn. If you find one false, say at which input.
  Laid BY PROGRAM, IN A SANDBOX (cutbox-rows.mjs): the forced cells as the released guide's own fill.sh prints them over the translation 5a0bb7776c5a2c80… (all of the seat's roots in one cut). By AI agents, Wed Nov 11 2026. No macro, syntax, notation, axiom, sorry.
-/
import Derived.Test.YtejinebghgaigaaGreatDoorChecked
import GoSem.Claim
import GoSem.ClaimJoined
import GoSem.ClaimMapViews
import Derived.JoinedTies
import Derived.KernelRfl
namespace Go.Proofs.YtejinebghgaigaaGreatDoor
/- THE CELL 'sum', in the pinned program and in every row, IS THE sha256 OF THE DUMP (.gsa) THAT YtejinebghgaigaaGreatDoorProg.lean LOADS. Nothing in Lean hashes anything: it is a label: what it is worth is what the hold of that sum in a sandbox is worth. -/
noncomputable def Tryz.pinned : Pinned := { name := "ytejinebghgaigaagreatdoor", sum := "5a0bb7776c5a2c805d8916ee3e3298e7d3d679bdab9479dbca3f4897c3c2bbbd", checked := Tryz.checked }
namespace Rows
def none {H : Type} : Left H := { results := [], args := [] }

/- WHAT THE LISTED PACKAGE-LEVEL VARIABLES READ AS WHEN THE CALL BEGINS. Each datum BY PROGRAM (the guide's laid-datum.mjs) off the statement by which the dump's own 'gosem.cut.vars' lays the variable. In a bare row this is a premise. The card (YtejinebghgaigaaGreatDoorCards.lean) ties it to the program's text. -/
def laid_unicode_White_Space {H : Type} : DataW H := .ptr (.agg [.slice [.agg [.lit (.int .u16 9), .lit (.int .u16 13), .lit (.int .u16 1)], .agg [.lit (.int .u16 32), .lit (.int .u16 133), .lit (.int .u16 101)], .agg [.lit (.int .u16 160), .lit (.int .u16 5760), .lit (.int .u16 5600)], .agg [.lit (.int .u16 8192), .lit (.int .u16 8202), .lit (.int .u16 1)], .agg [.lit (.int .u16 8232), .lit (.int .u16 8233), .lit (.int .u16 1)], .agg [.lit (.int .u16 8239), .lit (.int .u16 8287), .lit (.int .u16 48)], .agg [.lit (.int .u16 12288), .lit (.int .u16 12288), .lit (.int .u16 1)]] [], .nil, .lit (.int .i64 2)])
def laid_strings_asciiSpace {H : Type} : DataW H := .agg [.lit (.int .u8 0), .lit (.int .u8 0), .lit (.int .u8 0), .lit (.int .u8 0), .lit (.int .u8 0), .lit (.int .u8 0), .lit (.int .u8 0), .lit (.int .u8 0), .lit (.int .u8 0), .lit (.int .u8 1), .lit (.int .u8 1), .lit (.int .u8 1), .lit (.int .u8 1), .lit (.int .u8 1), .lit (.int .u8 0), .lit (.int .u8 0), .lit (.int .u8 0), .lit (.int .u8 0), .lit (.int .u8 0), .lit (.int .u8 0), .lit (.int .u8 0), .lit (.int .u8 0), .lit (.int .u8 0), .lit (.int .u8 0), .lit (.int .u8 0), .lit (.int .u8 0), .lit (.int .u8 0), .lit (.int .u8 0), .lit (.int .u8 0), .lit (.int .u8 0), .lit (.int .u8 0), .lit (.int .u8 0), .lit (.int .u8 1), .lit (.int .u8 0), .lit (.int .u8 0), .lit (.int .u8 0), .lit (.int .u8 0), .lit (.int .u8 0), .lit (.int .u8 0), .lit (.int .u8 0), .lit (.int .u8 0), .lit (.int .u8 0), .lit (.int .u8 0), .lit (.int .u8 0), .lit (.int .u8 0), .lit (.int .u8 0), .lit (.int .u8 0), .lit (.int .u8 0), .lit (.int .u8 0), .lit (.int .u8 0), .lit (.int .u8 0), .lit (.int .u8 0), .lit (.int .u8 0), .lit (.int .u8 0), .lit (.int .u8 0), .lit (.int .u8 0), .lit (.int .u8 0), .lit (.int .u8 0), .lit (.int .u8 0), .lit (.int .u8 0), .lit (.int .u8 0), .lit (.int .u8 0), .lit (.int .u8 0), .lit (.int .u8 0), .lit (.int .u8 0), .lit (.int .u8 0), .lit (.int .u8 0), .lit (.int .u8 0), .lit (.int .u8 0), .lit (.int .u8 0), .lit (.int .u8 0), .lit (.int .u8 0), .lit (.int .u8 0), .lit (.int .u8 0), .lit (.int .u8 0), .lit (.int .u8 0), .lit (.int .u8 0), .lit (.int .u8 0), .lit (.int .u8 0), .lit (.int .u8 0), .lit (.int .u8 0), .lit (.int .u8 0), .lit (.int .u8 0), .lit (.int .u8 0), .lit (.int .u8 0), .lit (.int .u8 0), .lit (.int .u8 0), .lit (.int .u8 0), .lit (.int .u8 0), .lit (.int .u8 0), .lit (.int .u8 0), .lit (.int .u8 0), .lit (.int .u8 0), .lit (.int .u8 0), .lit (.int .u8 0), .lit (.int .u8 0), .lit (.int .u8 0), .lit (.int .u8 0), .lit (.int .u8 0), .lit (.int .u8 0), .lit (.int .u8 0), .lit (.int .u8 0), .lit (.int .u8 0), .lit (.int .u8 0), .lit (.int .u8 0), .lit (.int .u8 0), .lit (.int .u8 0), .lit (.int .u8 0), .lit (.int .u8 0), .lit (.int .u8 0), .lit (.int .u8 0), .lit (.int .u8 0), .lit (.int .u8 0), .lit (.int .u8 0), .lit (.int .u8 0), .lit (.int .u8 0), .lit (.int .u8 0), .lit (.int .u8 0), .lit (.int .u8 0), .lit (.int .u8 0), .lit (.int .u8 0), .lit (.int .u8 0), .lit (.int .u8 0), .lit (.int .u8 0), .lit (.int .u8 0), .lit (.int .u8 0), .lit (.int .u8 0), .lit (.int .u8 0), .lit (.int .u8 0), .lit (.int .u8 0), .lit (.int .u8 0), .lit (.int .u8 0), .lit (.int .u8 0), .lit (.int .u8 0), .lit (.int .u8 0), .lit (.int .u8 0), .lit (.int .u8 0), .lit (.int .u8 0), .lit (.int .u8 0), .lit (.int .u8 0), .lit (.int .u8 0), .lit (.int .u8 0), .lit (.int .u8 0), .lit (.int .u8 0), .lit (.int .u8 0), .lit (.int .u8 0), .lit (.int .u8 0), .lit (.int .u8 0), .lit (.int .u8 0), .lit (.int .u8 0), .lit (.int .u8 0), .lit (.int .u8 0), .lit (.int .u8 0), .lit (.int .u8 0), .lit (.int .u8 0), .lit (.int .u8 0), .lit (.int .u8 0), .lit (.int .u8 0), .lit (.int .u8 0), .lit (.int .u8 0), .lit (.int .u8 0), .lit (.int .u8 0), .lit (.int .u8 0), .lit (.int .u8 0), .lit (.int .u8 0), .lit (.int .u8 0), .lit (.int .u8 0), .lit (.int .u8 0), .lit (.int .u8 0), .lit (.int .u8 0), .lit (.int .u8 0), .lit (.int .u8 0), .lit (.int .u8 0), .lit (.int .u8 0), .lit (.int .u8 0), .lit (.int .u8 0), .lit (.int .u8 0), .lit (.int .u8 0), .lit (.int .u8 0), .lit (.int .u8 0), .lit (.int .u8 0), .lit (.int .u8 0), .lit (.int .u8 0), .lit (.int .u8 0), .lit (.int .u8 0), .lit (.int .u8 0), .lit (.int .u8 0), .lit (.int .u8 0), .lit (.int .u8 0), .lit (.int .u8 0), .lit (.int .u8 0), .lit (.int .u8 0), .lit (.int .u8 0), .lit (.int .u8 0), .lit (.int .u8 0), .lit (.int .u8 0), .lit (.int .u8 0), .lit (.int .u8 0), .lit (.int .u8 0), .lit (.int .u8 0), .lit (.int .u8 0), .lit (.int .u8 0), .lit (.int .u8 0), .lit (.int .u8 0), .lit (.int .u8 0), .lit (.int .u8 0), .lit (.int .u8 0), .lit (.int .u8 0), .lit (.int .u8 0), .lit (.int .u8 0), .lit (.int .u8 0), .lit (.int .u8 0), .lit (.int .u8 0), .lit (.int .u8 0), .lit (.int .u8 0), .lit (.int .u8 0), .lit (.int .u8 0), .lit (.int .u8 0), .lit (.int .u8 0), .lit (.int .u8 0), .lit (.int .u8 0), .lit (.int .u8 0), .lit (.int .u8 0), .lit (.int .u8 0), .lit (.int .u8 0), .lit (.int .u8 0), .lit (.int .u8 0), .lit (.int .u8 0), .lit (.int .u8 0), .lit (.int .u8 0), .lit (.int .u8 0), .lit (.int .u8 0), .lit (.int .u8 0), .lit (.int .u8 0), .lit (.int .u8 0), .lit (.int .u8 0), .lit (.int .u8 0), .lit (.int .u8 0), .lit (.int .u8 0), .lit (.int .u8 0), .lit (.int .u8 0), .lit (.int .u8 0), .lit (.int .u8 0), .lit (.int .u8 0), .lit (.int .u8 0), .lit (.int .u8 0), .lit (.int .u8 0), .lit (.int .u8 0), .lit (.int .u8 0), .lit (.int .u8 0), .lit (.int .u8 0), .lit (.int .u8 0), .lit (.int .u8 0), .lit (.int .u8 0), .lit (.int .u8 0), .lit (.int .u8 0)]

/-- 'heartwoodlaw40.ConfluentDoubles': WHATEVER THE INPUT: true; the input reads as it did. -/
def confluentDoublesSpec : ChangeSpec := { name := "confluentDoubles", fn := fun _ => fun
  | [d1, d2] => { results := [.lit (.bool true)], args := [d1, d2] }
  | _ => none }
def confluentDoublesRow : OpenClaim := { program := "ytejinebghgaigaagreatdoor", sum := "5a0bb7776c5a2c805d8916ee3e3298e7d3d679bdab9479dbca3f4897c3c2bbbd", func := "heartwood/heartwoodlaw40.ConfluentDoubles", spec := "confluentDoubles", unfollowed := true, recurses := true, named := ["strings.asciiSpace", "unicode.White_Space"], apart := false, laid := [("unicode.White_Space", laid_unicode_White_Space), ("strings.asciiSpace", laid_strings_asciiSpace)] }
def ConfluentDoublesSaid : Prop := confluentDoublesRow.holds Tryz.pinned (OpenSpec.ofChange confluentDoublesSpec)

/-- ITS FALSE NEIGHBOUR: 'it returns false'. Refute it at one input. -/
def confluentDoublesWrong : ChangeSpec := { name := "confluentDoubles", fn := fun _ => fun
  | [d1, d2] => { results := [.lit (.bool false)], args := [d1, d2] }
  | _ => none }
def ConfluentDoublesWrongFalsely : Prop := confluentDoublesRow.holds Tryz.pinned (OpenSpec.ofChange confluentDoublesWrong)

/-- 'heartwoodlaw40.ConfluentPlays': WHATEVER THE INPUT: true; the input reads as it did. -/
def confluentPlaysSpec : ChangeSpec := { name := "confluentPlays", fn := fun _ => fun
  | [d1, d2, d3] => { results := [.lit (.bool true)], args := [d1, d2, d3] }
  | _ => none }
def confluentPlaysRow : OpenClaim := { program := "ytejinebghgaigaagreatdoor", sum := "5a0bb7776c5a2c805d8916ee3e3298e7d3d679bdab9479dbca3f4897c3c2bbbd", func := "heartwood/heartwoodlaw40.ConfluentPlays", spec := "confluentPlays", unfollowed := true, recurses := true, named := ["strings.asciiSpace", "unicode.White_Space"], loops := true, apart := false, laid := [("unicode.White_Space", laid_unicode_White_Space), ("strings.asciiSpace", laid_strings_asciiSpace)] }
def ConfluentPlaysSaid : Prop := confluentPlaysRow.holds Tryz.pinned (OpenSpec.ofChange confluentPlaysSpec)

/-- ITS FALSE NEIGHBOUR: 'it returns false'. Refute it at one input. -/
def confluentPlaysWrong : ChangeSpec := { name := "confluentPlays", fn := fun _ => fun
  | [d1, d2, d3] => { results := [.lit (.bool false)], args := [d1, d2, d3] }
  | _ => none }
def ConfluentPlaysWrongFalsely : Prop := confluentPlaysRow.holds Tryz.pinned (OpenSpec.ofChange confluentPlaysWrong)

/-- 'heartwoodlaw40.ConfluentSnapshots': WHATEVER THE INPUT: true; the input reads as it did. -/
def confluentSnapshotsSpec : ChangeSpec := { name := "confluentSnapshots", fn := fun _ => fun
  | [d1, d2, d3] => { results := [.lit (.bool true)], args := [d1, d2, d3] }
  | _ => none }
def confluentSnapshotsRow : OpenClaim := { program := "ytejinebghgaigaagreatdoor", sum := "5a0bb7776c5a2c805d8916ee3e3298e7d3d679bdab9479dbca3f4897c3c2bbbd", func := "heartwood/heartwoodlaw40.ConfluentSnapshots", spec := "confluentSnapshots", unfollowed := true, recurses := true, named := ["strings.asciiSpace", "unicode.White_Space"], loops := true, apart := false, laid := [("unicode.White_Space", laid_unicode_White_Space), ("strings.asciiSpace", laid_strings_asciiSpace)] }
def ConfluentSnapshotsSaid : Prop := confluentSnapshotsRow.holds Tryz.pinned (OpenSpec.ofChange confluentSnapshotsSpec)

/-- ITS FALSE NEIGHBOUR: 'it returns false'. Refute it at one input. -/
def confluentSnapshotsWrong : ChangeSpec := { name := "confluentSnapshots", fn := fun _ => fun
  | [d1, d2, d3] => { results := [.lit (.bool false)], args := [d1, d2, d3] }
  | _ => none }
def ConfluentSnapshotsWrongFalsely : Prop := confluentSnapshotsRow.holds Tryz.pinned (OpenSpec.ofChange confluentSnapshotsWrong)

/-- 'heartwoodlaw40.ConfluentRuns': WHATEVER THE INPUT: true; the input reads as it did. -/
def confluentRunsSpec : ChangeSpec := { name := "confluentRuns", fn := fun _ => fun
  | [d1, d2, d3, d4, d5] => { results := [.lit (.bool true)], args := [d1, d2, d3, d4, d5] }
  | _ => none }
def confluentRunsRow : OpenClaim := { program := "ytejinebghgaigaagreatdoor", sum := "5a0bb7776c5a2c805d8916ee3e3298e7d3d679bdab9479dbca3f4897c3c2bbbd", func := "heartwood/heartwoodlaw40.ConfluentRuns", spec := "confluentRuns", unfollowed := true, recurses := true, named := ["strings.asciiSpace", "unicode.White_Space"], loops := true, apart := false, laid := [("unicode.White_Space", laid_unicode_White_Space), ("strings.asciiSpace", laid_strings_asciiSpace)] }
def ConfluentRunsSaid : Prop := confluentRunsRow.holds Tryz.pinned (OpenSpec.ofChange confluentRunsSpec)

/-- ITS FALSE NEIGHBOUR: 'it returns false'. Refute it at one input. -/
def confluentRunsWrong : ChangeSpec := { name := "confluentRuns", fn := fun _ => fun
  | [d1, d2, d3, d4, d5] => { results := [.lit (.bool false)], args := [d1, d2, d3, d4, d5] }
  | _ => none }
def ConfluentRunsWrongFalsely : Prop := confluentRunsRow.holds Tryz.pinned (OpenSpec.ofChange confluentRunsWrong)

/-- 'heartwoodlaw40.ConfluentApart': WHATEVER THE INPUT: true; the input reads as it did. -/
def confluentApartSpec : ChangeSpec := { name := "confluentApart", fn := fun _ => fun
  | [d1, d2] => { results := [.lit (.bool true)], args := [d1, d2] }
  | _ => none }
def confluentApartRow : OpenClaim := { program := "ytejinebghgaigaagreatdoor", sum := "5a0bb7776c5a2c805d8916ee3e3298e7d3d679bdab9479dbca3f4897c3c2bbbd", func := "heartwood/heartwoodlaw40.ConfluentApart", spec := "confluentApart", unfollowed := true, recurses := true, named := ["strings.asciiSpace", "unicode.White_Space"], loops := true, apart := false, laid := [("unicode.White_Space", laid_unicode_White_Space), ("strings.asciiSpace", laid_strings_asciiSpace)] }
def ConfluentApartSaid : Prop := confluentApartRow.holds Tryz.pinned (OpenSpec.ofChange confluentApartSpec)

/-- ITS FALSE NEIGHBOUR: 'it returns false'. Refute it at one input. -/
def confluentApartWrong : ChangeSpec := { name := "confluentApart", fn := fun _ => fun
  | [d1, d2] => { results := [.lit (.bool false)], args := [d1, d2] }
  | _ => none }
def ConfluentApartWrongFalsely : Prop := confluentApartRow.holds Tryz.pinned (OpenSpec.ofChange confluentApartWrong)

/-- 'heartwoodlaw40.ConfluentStays': WHATEVER THE INPUT: true; the input reads as it did. -/
def confluentStaysSpec : ChangeSpec := { name := "confluentStays", fn := fun _ => fun
  | [d1, d2, d3] => { results := [.lit (.bool true)], args := [d1, d2, d3] }
  | _ => none }
def confluentStaysRow : OpenClaim := { program := "ytejinebghgaigaagreatdoor", sum := "5a0bb7776c5a2c805d8916ee3e3298e7d3d679bdab9479dbca3f4897c3c2bbbd", func := "heartwood/heartwoodlaw40.ConfluentStays", spec := "confluentStays", unfollowed := true, recurses := true, named := ["strings.asciiSpace", "unicode.White_Space"], loops := true, apart := false, laid := [("unicode.White_Space", laid_unicode_White_Space), ("strings.asciiSpace", laid_strings_asciiSpace)] }
def ConfluentStaysSaid : Prop := confluentStaysRow.holds Tryz.pinned (OpenSpec.ofChange confluentStaysSpec)

/-- ITS FALSE NEIGHBOUR: 'it returns false'. Refute it at one input. -/
def confluentStaysWrong : ChangeSpec := { name := "confluentStays", fn := fun _ => fun
  | [d1, d2, d3] => { results := [.lit (.bool false)], args := [d1, d2, d3] }
  | _ => none }
def ConfluentStaysWrongFalsely : Prop := confluentStaysRow.holds Tryz.pinned (OpenSpec.ofChange confluentStaysWrong)

/- THE SECOND FORM. 'bulk': how many values and letters a reading holds, each counted each time it is reached (what is shared counts as often as it is met; a slice's spare places count too). A statement '..UptoSaid' is the law's where the arguments, and the package variables that the reading takes, are together of bulk at most 1048576: NARROWER than '..Said'. Prove '..Said' where nothing that the law and all that it calls make is longer than what came in: it says more and counts as full. Else prove '..UptoSaid'. A law counts once. -/
mutual
def uptoBulk {H : Type} : DataW H → Nat
  | .lit (.string bytes) => bytes.length + 1
  | .lit _ => 1
  | .nil => 1
  | .ptr d => uptoBulk d + 1
  | .slice elems spare => uptoBulkAll elems + uptoBulkAll spare + 1
  | .agg parts => uptoBulkAll parts + 1
  | .iface _ d => uptoBulk d + 1
  | .map entries => uptoBulkEntries entries + 1
  | .held _ => 1
def uptoBulkAll {H : Type} : List (DataW H) → Nat
  | [] => 0
  | d :: r => uptoBulk d + uptoBulkAll r
def uptoBulkEntries {H : Type} : List (Lit × DataW H) → Nat
  | [] => 0
  | x :: r => uptoBulkEntry x + uptoBulkEntries r
def uptoBulkEntry {H : Type} : Lit × DataW H → Nat
  | (.string bytes, d) => bytes.length + uptoBulk d + 1
  | (_, d) => uptoBulk d + 1
 end
def uptoSmall : (H : Type) → List (DataW H) → Bool := fun _ ds => decide (uptoBulkAll ds ≤ 1048576)
def OpenSpec.upto (s : _root_.Go.ChangeSpec) : _root_.Go.OpenSpec := { _root_.Go.OpenSpec.ofChange s with cond := some uptoSmall }

/-- 'heartwoodlaw40.ConfluentDoubles', WHERE WHAT IT READS IS OF BULK AT MOST 1048576: true; the input reads as it did. -/
def confluentDoublesUptoRow : OpenClaim := { program := "ytejinebghgaigaagreatdoor", sum := "5a0bb7776c5a2c805d8916ee3e3298e7d3d679bdab9479dbca3f4897c3c2bbbd", func := "heartwood/heartwoodlaw40.ConfluentDoubles", spec := "confluentDoubles", unfollowed := true, recurses := true, named := ["strings.asciiSpace", "unicode.White_Space"], apart := false, laid := [("unicode.White_Space", laid_unicode_White_Space), ("strings.asciiSpace", laid_strings_asciiSpace)], narrowed := true }
def ConfluentDoublesUptoSaid : Prop := confluentDoublesUptoRow.holds Tryz.pinned (OpenSpec.upto confluentDoublesSpec)

/-- 'heartwoodlaw40.ConfluentPlays', WHERE WHAT IT READS IS OF BULK AT MOST 1048576: true; the input reads as it did. -/
def confluentPlaysUptoRow : OpenClaim := { program := "ytejinebghgaigaagreatdoor", sum := "5a0bb7776c5a2c805d8916ee3e3298e7d3d679bdab9479dbca3f4897c3c2bbbd", func := "heartwood/heartwoodlaw40.ConfluentPlays", spec := "confluentPlays", unfollowed := true, recurses := true, named := ["strings.asciiSpace", "unicode.White_Space"], loops := true, apart := false, laid := [("unicode.White_Space", laid_unicode_White_Space), ("strings.asciiSpace", laid_strings_asciiSpace)], narrowed := true }
def ConfluentPlaysUptoSaid : Prop := confluentPlaysUptoRow.holds Tryz.pinned (OpenSpec.upto confluentPlaysSpec)

/-- 'heartwoodlaw40.ConfluentSnapshots', WHERE WHAT IT READS IS OF BULK AT MOST 1048576: true; the input reads as it did. -/
def confluentSnapshotsUptoRow : OpenClaim := { program := "ytejinebghgaigaagreatdoor", sum := "5a0bb7776c5a2c805d8916ee3e3298e7d3d679bdab9479dbca3f4897c3c2bbbd", func := "heartwood/heartwoodlaw40.ConfluentSnapshots", spec := "confluentSnapshots", unfollowed := true, recurses := true, named := ["strings.asciiSpace", "unicode.White_Space"], loops := true, apart := false, laid := [("unicode.White_Space", laid_unicode_White_Space), ("strings.asciiSpace", laid_strings_asciiSpace)], narrowed := true }
def ConfluentSnapshotsUptoSaid : Prop := confluentSnapshotsUptoRow.holds Tryz.pinned (OpenSpec.upto confluentSnapshotsSpec)

/-- 'heartwoodlaw40.ConfluentRuns', WHERE WHAT IT READS IS OF BULK AT MOST 1048576: true; the input reads as it did. -/
def confluentRunsUptoRow : OpenClaim := { program := "ytejinebghgaigaagreatdoor", sum := "5a0bb7776c5a2c805d8916ee3e3298e7d3d679bdab9479dbca3f4897c3c2bbbd", func := "heartwood/heartwoodlaw40.ConfluentRuns", spec := "confluentRuns", unfollowed := true, recurses := true, named := ["strings.asciiSpace", "unicode.White_Space"], loops := true, apart := false, laid := [("unicode.White_Space", laid_unicode_White_Space), ("strings.asciiSpace", laid_strings_asciiSpace)], narrowed := true }
def ConfluentRunsUptoSaid : Prop := confluentRunsUptoRow.holds Tryz.pinned (OpenSpec.upto confluentRunsSpec)

/-- 'heartwoodlaw40.ConfluentApart', WHERE WHAT IT READS IS OF BULK AT MOST 1048576: true; the input reads as it did. -/
def confluentApartUptoRow : OpenClaim := { program := "ytejinebghgaigaagreatdoor", sum := "5a0bb7776c5a2c805d8916ee3e3298e7d3d679bdab9479dbca3f4897c3c2bbbd", func := "heartwood/heartwoodlaw40.ConfluentApart", spec := "confluentApart", unfollowed := true, recurses := true, named := ["strings.asciiSpace", "unicode.White_Space"], loops := true, apart := false, laid := [("unicode.White_Space", laid_unicode_White_Space), ("strings.asciiSpace", laid_strings_asciiSpace)], narrowed := true }
def ConfluentApartUptoSaid : Prop := confluentApartUptoRow.holds Tryz.pinned (OpenSpec.upto confluentApartSpec)

/-- 'heartwoodlaw40.ConfluentStays', WHERE WHAT IT READS IS OF BULK AT MOST 1048576: true; the input reads as it did. -/
def confluentStaysUptoRow : OpenClaim := { program := "ytejinebghgaigaagreatdoor", sum := "5a0bb7776c5a2c805d8916ee3e3298e7d3d679bdab9479dbca3f4897c3c2bbbd", func := "heartwood/heartwoodlaw40.ConfluentStays", spec := "confluentStays", unfollowed := true, recurses := true, named := ["strings.asciiSpace", "unicode.White_Space"], loops := true, apart := false, laid := [("unicode.White_Space", laid_unicode_White_Space), ("strings.asciiSpace", laid_strings_asciiSpace)], narrowed := true }
def ConfluentStaysUptoSaid : Prop := confluentStaysUptoRow.holds Tryz.pinned (OpenSpec.upto confluentStaysSpec)

end Rows
end Go.Proofs.YtejinebghgaigaaGreatDoor
