/-
  NARROWER THAN 'FOR EVERY INPUT', by the rows' own cells (each row's printed sentence says how): InvariantMeasures: loops, laid · InvariantMoved: loops, laid · InvariantLists: laid · InvariantChecks: loops, laid · InvariantHolds: loops, laid · InvariantExprs: loops, laid · InvariantUnfolds: loops, laid.
  DERIVED. THE GIVEN ROWS OF THIS SEAT. 7 by the template 'for every input the law returns true; each argument reads behind the call as it read before'; 0 by the template 'total and deterministic' (their statements: YtnoompnjibfbfaaGreatDoorTotals.lean).
  GIVEN WITH THE SEED: the statements are not yours to turn. If you find one false, say at which input.
  Laid BY PROGRAM, IN A SANDBOX (cutbox-rows.mjs): the forced cells as the released guide's own fill.sh prints them over the translation 0dce8764b69826f5… (all of the seat's roots in one cut). By AI agents, Wed Nov 11 2026. No macro, syntax, notation, axiom, sorry.
-/
import Derived.Test.YtnoompnjibfbfaaGreatDoorChecked
import GoSem.Claim
import GoSem.ClaimJoined
import GoSem.ClaimMapViews
import Derived.JoinedTies
import Derived.KernelRfl
namespace Go.Proofs.YtnoompnjibfbfaaGreatDoor
/- THE CELL 'sum', in the pinned program and in every row, IS THE sha256 OF THE DUMP (.gsa) THAT YtnoompnjibfbfaaGreatDoorProg.lean LOADS. Nothing in Lean hashes anything: it is a label: what it is worth is what the hold of that sum in a sandbox is worth. -/
noncomputable def Tryz.pinned : Pinned := { name := "ytnoompnjibfbfaagreatdoor", sum := "0dce8764b69826f5c6abc7fb3fa5f287847e73e501380f88709bf7d886b3136a", checked := Tryz.checked }
namespace Rows
def none {H : Type} : Left H := { results := [], args := [] }

/- WHAT THE LISTED PACKAGE-LEVEL VARIABLES READ AS WHEN THE CALL BEGINS. Each datum BY PROGRAM (the guide's laid-datum.mjs) off the statement by which the dump's own 'gosem.cut.vars' lays the variable. In a bare row this is a premise. The card (YtnoompnjibfbfaaGreatDoorCards.lean) ties it to the program's text. -/
def laid_unicode_White_Space {H : Type} : DataW H := .ptr (.agg [.slice [.agg [.lit (.int .u16 9), .lit (.int .u16 13), .lit (.int .u16 1)], .agg [.lit (.int .u16 32), .lit (.int .u16 133), .lit (.int .u16 101)], .agg [.lit (.int .u16 160), .lit (.int .u16 5760), .lit (.int .u16 5600)], .agg [.lit (.int .u16 8192), .lit (.int .u16 8202), .lit (.int .u16 1)], .agg [.lit (.int .u16 8232), .lit (.int .u16 8233), .lit (.int .u16 1)], .agg [.lit (.int .u16 8239), .lit (.int .u16 8287), .lit (.int .u16 48)], .agg [.lit (.int .u16 12288), .lit (.int .u16 12288), .lit (.int .u16 1)]] [], .nil, .lit (.int .i64 2)])
def laid_strings_asciiSpace {H : Type} : DataW H := .agg [.lit (.int .u8 0), .lit (.int .u8 0), .lit (.int .u8 0), .lit (.int .u8 0), .lit (.int .u8 0), .lit (.int .u8 0), .lit (.int .u8 0), .lit (.int .u8 0), .lit (.int .u8 0), .lit (.int .u8 1), .lit (.int .u8 1), .lit (.int .u8 1), .lit (.int .u8 1), .lit (.int .u8 1), .lit (.int .u8 0), .lit (.int .u8 0), .lit (.int .u8 0), .lit (.int .u8 0), .lit (.int .u8 0), .lit (.int .u8 0), .lit (.int .u8 0), .lit (.int .u8 0), .lit (.int .u8 0), .lit (.int .u8 0), .lit (.int .u8 0), .lit (.int .u8 0), .lit (.int .u8 0), .lit (.int .u8 0), .lit (.int .u8 0), .lit (.int .u8 0), .lit (.int .u8 0), .lit (.int .u8 0), .lit (.int .u8 1), .lit (.int .u8 0), .lit (.int .u8 0), .lit (.int .u8 0), .lit (.int .u8 0), .lit (.int .u8 0), .lit (.int .u8 0), .lit (.int .u8 0), .lit (.int .u8 0), .lit (.int .u8 0), .lit (.int .u8 0), .lit (.int .u8 0), .lit (.int .u8 0), .lit (.int .u8 0), .lit (.int .u8 0), .lit (.int .u8 0), .lit (.int .u8 0), .lit (.int .u8 0), .lit (.int .u8 0), .lit (.int .u8 0), .lit (.int .u8 0), .lit (.int .u8 0), .lit (.int .u8 0), .lit (.int .u8 0), .lit (.int .u8 0), .lit (.int .u8 0), .lit (.int .u8 0), .lit (.int .u8 0), .lit (.int .u8 0), .lit (.int .u8 0), .lit (.int .u8 0), .lit (.int .u8 0), .lit (.int .u8 0), .lit (.int .u8 0), .lit (.int .u8 0), .lit (.int .u8 0), .lit (.int .u8 0), .lit (.int .u8 0), .lit (.int .u8 0), .lit (.int .u8 0), .lit (.int .u8 0), .lit (.int .u8 0), .lit (.int .u8 0), .lit (.int .u8 0), .lit (.int .u8 0), .lit (.int .u8 0), .lit (.int .u8 0), .lit (.int .u8 0), .lit (.int .u8 0), .lit (.int .u8 0), .lit (.int .u8 0), .lit (.int .u8 0), .lit (.int .u8 0), .lit (.int .u8 0), .lit (.int .u8 0), .lit (.int .u8 0), .lit (.int .u8 0), .lit (.int .u8 0), .lit (.int .u8 0), .lit (.int .u8 0), .lit (.int .u8 0), .lit (.int .u8 0), .lit (.int .u8 0), .lit (.int .u8 0), .lit (.int .u8 0), .lit (.int .u8 0), .lit (.int .u8 0), .lit (.int .u8 0), .lit (.int .u8 0), .lit (.int .u8 0), .lit (.int .u8 0), .lit (.int .u8 0), .lit (.int .u8 0), .lit (.int .u8 0), .lit (.int .u8 0), .lit (.int .u8 0), .lit (.int .u8 0), .lit (.int .u8 0), .lit (.int .u8 0), .lit (.int .u8 0), .lit (.int .u8 0), .lit (.int .u8 0), .lit (.int .u8 0), .lit (.int .u8 0), .lit (.int .u8 0), .lit (.int .u8 0), .lit (.int .u8 0), .lit (.int .u8 0), .lit (.int .u8 0), .lit (.int .u8 0), .lit (.int .u8 0), .lit (.int .u8 0), .lit (.int .u8 0), .lit (.int .u8 0), .lit (.int .u8 0), .lit (.int .u8 0), .lit (.int .u8 0), .lit (.int .u8 0), .lit (.int .u8 0), .lit (.int .u8 0), .lit (.int .u8 0), .lit (.int .u8 0), .lit (.int .u8 0), .lit (.int .u8 0), .lit (.int .u8 0), .lit (.int .u8 0), .lit (.int .u8 0), .lit (.int .u8 0), .lit (.int .u8 0), .lit (.int .u8 0), .lit (.int .u8 0), .lit (.int .u8 0), .lit (.int .u8 0), .lit (.int .u8 0), .lit (.int .u8 0), .lit (.int .u8 0), .lit (.int .u8 0), .lit (.int .u8 0), .lit (.int .u8 0), .lit (.int .u8 0), .lit (.int .u8 0), .lit (.int .u8 0), .lit (.int .u8 0), .lit (.int .u8 0), .lit (.int .u8 0), .lit (.int .u8 0), .lit (.int .u8 0), .lit (.int .u8 0), .lit (.int .u8 0), .lit (.int .u8 0), .lit (.int .u8 0), .lit (.int .u8 0), .lit (.int .u8 0), .lit (.int .u8 0), .lit (.int .u8 0), .lit (.int .u8 0), .lit (.int .u8 0), .lit (.int .u8 0), .lit (.int .u8 0), .lit (.int .u8 0), .lit (.int .u8 0), .lit (.int .u8 0), .lit (.int .u8 0), .lit (.int .u8 0), .lit (.int .u8 0), .lit (.int .u8 0), .lit (.int .u8 0), .lit (.int .u8 0), .lit (.int .u8 0), .lit (.int .u8 0), .lit (.int .u8 0), .lit (.int .u8 0), .lit (.int .u8 0), .lit (.int .u8 0), .lit (.int .u8 0), .lit (.int .u8 0), .lit (.int .u8 0), .lit (.int .u8 0), .lit (.int .u8 0), .lit (.int .u8 0), .lit (.int .u8 0), .lit (.int .u8 0), .lit (.int .u8 0), .lit (.int .u8 0), .lit (.int .u8 0), .lit (.int .u8 0), .lit (.int .u8 0), .lit (.int .u8 0), .lit (.int .u8 0), .lit (.int .u8 0), .lit (.int .u8 0), .lit (.int .u8 0), .lit (.int .u8 0), .lit (.int .u8 0), .lit (.int .u8 0), .lit (.int .u8 0), .lit (.int .u8 0), .lit (.int .u8 0), .lit (.int .u8 0), .lit (.int .u8 0), .lit (.int .u8 0), .lit (.int .u8 0), .lit (.int .u8 0), .lit (.int .u8 0), .lit (.int .u8 0), .lit (.int .u8 0), .lit (.int .u8 0), .lit (.int .u8 0), .lit (.int .u8 0), .lit (.int .u8 0), .lit (.int .u8 0), .lit (.int .u8 0), .lit (.int .u8 0), .lit (.int .u8 0), .lit (.int .u8 0), .lit (.int .u8 0), .lit (.int .u8 0), .lit (.int .u8 0), .lit (.int .u8 0), .lit (.int .u8 0), .lit (.int .u8 0), .lit (.int .u8 0), .lit (.int .u8 0), .lit (.int .u8 0), .lit (.int .u8 0), .lit (.int .u8 0), .lit (.int .u8 0), .lit (.int .u8 0), .lit (.int .u8 0), .lit (.int .u8 0), .lit (.int .u8 0), .lit (.int .u8 0), .lit (.int .u8 0), .lit (.int .u8 0), .lit (.int .u8 0), .lit (.int .u8 0), .lit (.int .u8 0), .lit (.int .u8 0), .lit (.int .u8 0), .lit (.int .u8 0), .lit (.int .u8 0), .lit (.int .u8 0), .lit (.int .u8 0), .lit (.int .u8 0)]

/-- 'heartwoodlaw16.InvariantMeasures': WHATEVER THE INPUT: true; the input reads as it did. -/
def invariantMeasuresSpec : ChangeSpec := { name := "invariantMeasures", fn := fun _ => fun
  | [d1, d2, d3, d4] => { results := [.lit (.bool true)], args := [d1, d2, d3, d4] }
  | _ => none }
def invariantMeasuresRow : OpenClaim := { program := "ytnoompnjibfbfaagreatdoor", sum := "0dce8764b69826f5c6abc7fb3fa5f287847e73e501380f88709bf7d886b3136a", func := "heartwood/heartwoodlaw16.InvariantMeasures", spec := "invariantMeasures", unfollowed := true, recurses := true, named := ["strings.asciiSpace", "unicode.White_Space"], loops := true, plainKeys := false, apart := false, laid := [("unicode.White_Space", laid_unicode_White_Space), ("strings.asciiSpace", laid_strings_asciiSpace)] }
def InvariantMeasuresSaid : Prop := invariantMeasuresRow.holds Tryz.pinned (OpenSpec.ofChange invariantMeasuresSpec)

/-- ITS FALSE NEIGHBOUR: 'it returns false'. Refute it at one input. -/
def invariantMeasuresWrong : ChangeSpec := { name := "invariantMeasures", fn := fun _ => fun
  | [d1, d2, d3, d4] => { results := [.lit (.bool false)], args := [d1, d2, d3, d4] }
  | _ => none }
def InvariantMeasuresWrongFalsely : Prop := invariantMeasuresRow.holds Tryz.pinned (OpenSpec.ofChange invariantMeasuresWrong)

/-- 'heartwoodlaw16.InvariantMoved': WHATEVER THE INPUT: true; the input reads as it did. -/
def invariantMovedSpec : ChangeSpec := { name := "invariantMoved", fn := fun _ => fun
  | [d1, d2, d3] => { results := [.lit (.bool true)], args := [d1, d2, d3] }
  | _ => none }
def invariantMovedRow : OpenClaim := { program := "ytnoompnjibfbfaagreatdoor", sum := "0dce8764b69826f5c6abc7fb3fa5f287847e73e501380f88709bf7d886b3136a", func := "heartwood/heartwoodlaw16.InvariantMoved", spec := "invariantMoved", unfollowed := true, recurses := true, named := ["strings.asciiSpace", "unicode.White_Space"], loops := true, plainKeys := false, apart := false, laid := [("unicode.White_Space", laid_unicode_White_Space), ("strings.asciiSpace", laid_strings_asciiSpace)] }
def InvariantMovedSaid : Prop := invariantMovedRow.holds Tryz.pinned (OpenSpec.ofChange invariantMovedSpec)

/-- ITS FALSE NEIGHBOUR: 'it returns false'. Refute it at one input. -/
def invariantMovedWrong : ChangeSpec := { name := "invariantMoved", fn := fun _ => fun
  | [d1, d2, d3] => { results := [.lit (.bool false)], args := [d1, d2, d3] }
  | _ => none }
def InvariantMovedWrongFalsely : Prop := invariantMovedRow.holds Tryz.pinned (OpenSpec.ofChange invariantMovedWrong)

/-- 'heartwoodlaw16.InvariantLists': WHATEVER THE INPUT: true; the input reads as it did. -/
def invariantListsSpec : ChangeSpec := { name := "invariantLists", fn := fun _ => fun
  | [d1, d2] => { results := [.lit (.bool true)], args := [d1, d2] }
  | _ => none }
def invariantListsRow : OpenClaim := { program := "ytnoompnjibfbfaagreatdoor", sum := "0dce8764b69826f5c6abc7fb3fa5f287847e73e501380f88709bf7d886b3136a", func := "heartwood/heartwoodlaw16.InvariantLists", spec := "invariantLists", unfollowed := true, recurses := true, named := ["strings.asciiSpace", "unicode.White_Space"], plainKeys := false, apart := false, laid := [("unicode.White_Space", laid_unicode_White_Space), ("strings.asciiSpace", laid_strings_asciiSpace)] }
def InvariantListsSaid : Prop := invariantListsRow.holds Tryz.pinned (OpenSpec.ofChange invariantListsSpec)

/-- ITS FALSE NEIGHBOUR: 'it returns false'. Refute it at one input. -/
def invariantListsWrong : ChangeSpec := { name := "invariantLists", fn := fun _ => fun
  | [d1, d2] => { results := [.lit (.bool false)], args := [d1, d2] }
  | _ => none }
def InvariantListsWrongFalsely : Prop := invariantListsRow.holds Tryz.pinned (OpenSpec.ofChange invariantListsWrong)

/-- 'heartwoodlaw16.InvariantChecks': WHATEVER THE INPUT: true; the input reads as it did. -/
def invariantChecksSpec : ChangeSpec := { name := "invariantChecks", fn := fun _ => fun
  | [d1, d2] => { results := [.lit (.bool true)], args := [d1, d2] }
  | _ => none }
def invariantChecksRow : OpenClaim := { program := "ytnoompnjibfbfaagreatdoor", sum := "0dce8764b69826f5c6abc7fb3fa5f287847e73e501380f88709bf7d886b3136a", func := "heartwood/heartwoodlaw16.InvariantChecks", spec := "invariantChecks", unfollowed := true, recurses := true, named := ["strings.asciiSpace", "unicode.White_Space"], loops := true, plainKeys := false, apart := false, laid := [("unicode.White_Space", laid_unicode_White_Space), ("strings.asciiSpace", laid_strings_asciiSpace)] }
def InvariantChecksSaid : Prop := invariantChecksRow.holds Tryz.pinned (OpenSpec.ofChange invariantChecksSpec)

/-- ITS FALSE NEIGHBOUR: 'it returns false'. Refute it at one input. -/
def invariantChecksWrong : ChangeSpec := { name := "invariantChecks", fn := fun _ => fun
  | [d1, d2] => { results := [.lit (.bool false)], args := [d1, d2] }
  | _ => none }
def InvariantChecksWrongFalsely : Prop := invariantChecksRow.holds Tryz.pinned (OpenSpec.ofChange invariantChecksWrong)

/-- 'heartwoodlaw16.InvariantHolds': WHATEVER THE INPUT: true; the input reads as it did. -/
def invariantHoldsSpec : ChangeSpec := { name := "invariantHolds", fn := fun _ => fun
  | [d1, d2, d3, d4] => { results := [.lit (.bool true)], args := [d1, d2, d3, d4] }
  | _ => none }
def invariantHoldsRow : OpenClaim := { program := "ytnoompnjibfbfaagreatdoor", sum := "0dce8764b69826f5c6abc7fb3fa5f287847e73e501380f88709bf7d886b3136a", func := "heartwood/heartwoodlaw16.InvariantHolds", spec := "invariantHolds", unfollowed := true, recurses := true, named := ["strings.asciiSpace", "unicode.White_Space"], loops := true, plainKeys := false, apart := false, laid := [("unicode.White_Space", laid_unicode_White_Space), ("strings.asciiSpace", laid_strings_asciiSpace)] }
def InvariantHoldsSaid : Prop := invariantHoldsRow.holds Tryz.pinned (OpenSpec.ofChange invariantHoldsSpec)

/-- ITS FALSE NEIGHBOUR: 'it returns false'. Refute it at one input. -/
def invariantHoldsWrong : ChangeSpec := { name := "invariantHolds", fn := fun _ => fun
  | [d1, d2, d3, d4] => { results := [.lit (.bool false)], args := [d1, d2, d3, d4] }
  | _ => none }
def InvariantHoldsWrongFalsely : Prop := invariantHoldsRow.holds Tryz.pinned (OpenSpec.ofChange invariantHoldsWrong)

/-- 'heartwoodlaw16.InvariantExprs': WHATEVER THE INPUT: true; the input reads as it did. -/
def invariantExprsSpec : ChangeSpec := { name := "invariantExprs", fn := fun _ => fun
  | [d1, d2, d3, d4] => { results := [.lit (.bool true)], args := [d1, d2, d3, d4] }
  | _ => none }
def invariantExprsRow : OpenClaim := { program := "ytnoompnjibfbfaagreatdoor", sum := "0dce8764b69826f5c6abc7fb3fa5f287847e73e501380f88709bf7d886b3136a", func := "heartwood/heartwoodlaw16.InvariantExprs", spec := "invariantExprs", unfollowed := true, recurses := true, named := ["strings.asciiSpace", "unicode.White_Space"], loops := true, plainKeys := false, apart := false, laid := [("unicode.White_Space", laid_unicode_White_Space), ("strings.asciiSpace", laid_strings_asciiSpace)] }
def InvariantExprsSaid : Prop := invariantExprsRow.holds Tryz.pinned (OpenSpec.ofChange invariantExprsSpec)

/-- ITS FALSE NEIGHBOUR: 'it returns false'. Refute it at one input. -/
def invariantExprsWrong : ChangeSpec := { name := "invariantExprs", fn := fun _ => fun
  | [d1, d2, d3, d4] => { results := [.lit (.bool false)], args := [d1, d2, d3, d4] }
  | _ => none }
def InvariantExprsWrongFalsely : Prop := invariantExprsRow.holds Tryz.pinned (OpenSpec.ofChange invariantExprsWrong)

/-- 'heartwoodlaw16.InvariantUnfolds': WHATEVER THE INPUT: true; the input reads as it did. -/
def invariantUnfoldsSpec : ChangeSpec := { name := "invariantUnfolds", fn := fun _ => fun
  | [d1, d2, d3, d4] => { results := [.lit (.bool true)], args := [d1, d2, d3, d4] }
  | _ => none }
def invariantUnfoldsRow : OpenClaim := { program := "ytnoompnjibfbfaagreatdoor", sum := "0dce8764b69826f5c6abc7fb3fa5f287847e73e501380f88709bf7d886b3136a", func := "heartwood/heartwoodlaw16.InvariantUnfolds", spec := "invariantUnfolds", unfollowed := true, recurses := true, named := ["strings.asciiSpace", "unicode.White_Space"], loops := true, plainKeys := false, apart := false, laid := [("unicode.White_Space", laid_unicode_White_Space), ("strings.asciiSpace", laid_strings_asciiSpace)] }
def InvariantUnfoldsSaid : Prop := invariantUnfoldsRow.holds Tryz.pinned (OpenSpec.ofChange invariantUnfoldsSpec)

/-- ITS FALSE NEIGHBOUR: 'it returns false'. Refute it at one input. -/
def invariantUnfoldsWrong : ChangeSpec := { name := "invariantUnfolds", fn := fun _ => fun
  | [d1, d2, d3, d4] => { results := [.lit (.bool false)], args := [d1, d2, d3, d4] }
  | _ => none }
def InvariantUnfoldsWrongFalsely : Prop := invariantUnfoldsRow.holds Tryz.pinned (OpenSpec.ofChange invariantUnfoldsWrong)

/- THE SECOND FORM. 'bulk': how many values and letters a reading holds, each counted each time it is reached (what is shared counts as often as it is met; a slice's spare places count too). A statement '..UptoSaid' is the law's where the arguments, and the package variables that the reading takes, are together of bulk at most 1048576: NARROWER than '..Said'. Prove '..Said' where nothing that the law and all that it calls make is longer than what came in: it says more and counts as full. Else prove '..UptoSaid'. A law counts once. -/
mutual
def uptoBulk {H : Type} : DataW H → Nat
  | .lit (.string bytes) => bytes.length + 1
  | .lit _ => 1
  | .nil => 1
  | .ptr d => uptoBulk d + 1
  | .slice elems spare => uptoBulkAll elems + uptoBulkAll spare + 1
  | .agg parts => uptoBulkAll parts + 1
  | .iface _ d => uptoBulk d + 1
  | .map entries => uptoBulkEntries entries + 1
  | .held _ => 1
def uptoBulkAll {H : Type} : List (DataW H) → Nat
  | [] => 0
  | d :: r => uptoBulk d + uptoBulkAll r
def uptoBulkEntries {H : Type} : List (Lit × DataW H) → Nat
  | [] => 0
  | x :: r => uptoBulkEntry x + uptoBulkEntries r
def uptoBulkEntry {H : Type} : Lit × DataW H → Nat
  | (.string bytes, d) => bytes.length + uptoBulk d + 1
  | (_, d) => uptoBulk d + 1
 end
def uptoSmall : (H : Type) → List (DataW H) → Bool := fun _ ds => decide (uptoBulkAll ds ≤ 1048576)
def OpenSpec.upto (s : _root_.Go.ChangeSpec) : _root_.Go.OpenSpec := { _root_.Go.OpenSpec.ofChange s with cond := some uptoSmall }

/-- 'heartwoodlaw16.InvariantMeasures', WHERE WHAT IT READS IS OF BULK AT MOST 1048576: true; the input reads as it did. -/
def invariantMeasuresUptoRow : OpenClaim := { program := "ytnoompnjibfbfaagreatdoor", sum := "0dce8764b69826f5c6abc7fb3fa5f287847e73e501380f88709bf7d886b3136a", func := "heartwood/heartwoodlaw16.InvariantMeasures", spec := "invariantMeasures", unfollowed := true, recurses := true, named := ["strings.asciiSpace", "unicode.White_Space"], loops := true, plainKeys := false, apart := false, laid := [("unicode.White_Space", laid_unicode_White_Space), ("strings.asciiSpace", laid_strings_asciiSpace)], narrowed := true }
def InvariantMeasuresUptoSaid : Prop := invariantMeasuresUptoRow.holds Tryz.pinned (OpenSpec.upto invariantMeasuresSpec)

/-- 'heartwoodlaw16.InvariantMoved', WHERE WHAT IT READS IS OF BULK AT MOST 1048576: true; the input reads as it did. -/
def invariantMovedUptoRow : OpenClaim := { program := "ytnoompnjibfbfaagreatdoor", sum := "0dce8764b69826f5c6abc7fb3fa5f287847e73e501380f88709bf7d886b3136a", func := "heartwood/heartwoodlaw16.InvariantMoved", spec := "invariantMoved", unfollowed := true, recurses := true, named := ["strings.asciiSpace", "unicode.White_Space"], loops := true, plainKeys := false, apart := false, laid := [("unicode.White_Space", laid_unicode_White_Space), ("strings.asciiSpace", laid_strings_asciiSpace)], narrowed := true }
def InvariantMovedUptoSaid : Prop := invariantMovedUptoRow.holds Tryz.pinned (OpenSpec.upto invariantMovedSpec)

/-- 'heartwoodlaw16.InvariantLists', WHERE WHAT IT READS IS OF BULK AT MOST 1048576: true; the input reads as it did. -/
def invariantListsUptoRow : OpenClaim := { program := "ytnoompnjibfbfaagreatdoor", sum := "0dce8764b69826f5c6abc7fb3fa5f287847e73e501380f88709bf7d886b3136a", func := "heartwood/heartwoodlaw16.InvariantLists", spec := "invariantLists", unfollowed := true, recurses := true, named := ["strings.asciiSpace", "unicode.White_Space"], plainKeys := false, apart := false, laid := [("unicode.White_Space", laid_unicode_White_Space), ("strings.asciiSpace", laid_strings_asciiSpace)], narrowed := true }
def InvariantListsUptoSaid : Prop := invariantListsUptoRow.holds Tryz.pinned (OpenSpec.upto invariantListsSpec)

/-- 'heartwoodlaw16.InvariantChecks', WHERE WHAT IT READS IS OF BULK AT MOST 1048576: true; the input reads as it did. -/
def invariantChecksUptoRow : OpenClaim := { program := "ytnoompnjibfbfaagreatdoor", sum := "0dce8764b69826f5c6abc7fb3fa5f287847e73e501380f88709bf7d886b3136a", func := "heartwood/heartwoodlaw16.InvariantChecks", spec := "invariantChecks", unfollowed := true, recurses := true, named := ["strings.asciiSpace", "unicode.White_Space"], loops := true, plainKeys := false, apart := false, laid := [("unicode.White_Space", laid_unicode_White_Space), ("strings.asciiSpace", laid_strings_asciiSpace)], narrowed := true }
def InvariantChecksUptoSaid : Prop := invariantChecksUptoRow.holds Tryz.pinned (OpenSpec.upto invariantChecksSpec)

/-- 'heartwoodlaw16.InvariantHolds', WHERE WHAT IT READS IS OF BULK AT MOST 1048576: true; the input reads as it did. -/
def invariantHoldsUptoRow : OpenClaim := { program := "ytnoompnjibfbfaagreatdoor", sum := "0dce8764b69826f5c6abc7fb3fa5f287847e73e501380f88709bf7d886b3136a", func := "heartwood/heartwoodlaw16.InvariantHolds", spec := "invariantHolds", unfollowed := true, recurses := true, named := ["strings.asciiSpace", "unicode.White_Space"], loops := true, plainKeys := false, apart := false, laid := [("unicode.White_Space", laid_unicode_White_Space), ("strings.asciiSpace", laid_strings_asciiSpace)], narrowed := true }
def InvariantHoldsUptoSaid : Prop := invariantHoldsUptoRow.holds Tryz.pinned (OpenSpec.upto invariantHoldsSpec)

/-- 'heartwoodlaw16.InvariantExprs', WHERE WHAT IT READS IS OF BULK AT MOST 1048576: true; the input reads as it did. -/
def invariantExprsUptoRow : OpenClaim := { program := "ytnoompnjibfbfaagreatdoor", sum := "0dce8764b69826f5c6abc7fb3fa5f287847e73e501380f88709bf7d886b3136a", func := "heartwood/heartwoodlaw16.InvariantExprs", spec := "invariantExprs", unfollowed := true, recurses := true, named := ["strings.asciiSpace", "unicode.White_Space"], loops := true, plainKeys := false, apart := false, laid := [("unicode.White_Space", laid_unicode_White_Space), ("strings.asciiSpace", laid_strings_asciiSpace)], narrowed := true }
def InvariantExprsUptoSaid : Prop := invariantExprsUptoRow.holds Tryz.pinned (OpenSpec.upto invariantExprsSpec)

/-- 'heartwoodlaw16.InvariantUnfolds', WHERE WHAT IT READS IS OF BULK AT MOST 1048576: true; the input reads as it did. -/
def invariantUnfoldsUptoRow : OpenClaim := { program := "ytnoompnjibfbfaagreatdoor", sum := "0dce8764b69826f5c6abc7fb3fa5f287847e73e501380f88709bf7d886b3136a", func := "heartwood/heartwoodlaw16.InvariantUnfolds", spec := "invariantUnfolds", unfollowed := true, recurses := true, named := ["strings.asciiSpace", "unicode.White_Space"], loops := true, plainKeys := false, apart := false, laid := [("unicode.White_Space", laid_unicode_White_Space), ("strings.asciiSpace", laid_strings_asciiSpace)], narrowed := true }
def InvariantUnfoldsUptoSaid : Prop := invariantUnfoldsUptoRow.holds Tryz.pinned (OpenSpec.upto invariantUnfoldsSpec)

end Rows
end Go.Proofs.YtnoompnjibfbfaaGreatDoor
