/-
  NARROWER THAN 'FOR EVERY INPUT', by the rows' own cells (each row's printed sentence says how): TypecheckChecks: loops, laid · TypecheckExprs: loops, laid · TypecheckLess: loops, laid · TypecheckDeclared: loops, laid · TypecheckFormulas: loops, laid · TypecheckParts: loops, laid · TypecheckEntries: loops, laid.
  DERIVED. THE GIVEN ROWS OF THIS SEAT. 7 by the template 'for every input the law returns true; each argument reads behind the call as it read before'; 0 by the template 'total and deterministic' (their statements: YtjnmeimbcljkjaaGreatDoorTotals.lean).
  GIVEN WITH THE SEED: the statements are not yours to turn. If you find one false, say at which input.
  Laid BY PROGRAM, IN A SANDBOX (cutbox-rows.mjs): the forced cells as the released guide's own fill.sh prints them over the translation 301582fb1a01a3bf… (all of the seat's roots in one cut). By AI agents, Wed Nov 11 2026. No macro, syntax, notation, axiom, sorry.
-/
import Derived.Test.YtjnmeimbcljkjaaGreatDoorChecked
import GoSem.Claim
import GoSem.ClaimJoined
import GoSem.ClaimMapViews
import Derived.JoinedTies
import Derived.KernelRfl
namespace Go.Proofs.YtjnmeimbcljkjaaGreatDoor
/- THE CELL 'sum', in the pinned program and in every row, IS THE sha256 OF THE DUMP (.gsa) THAT YtjnmeimbcljkjaaGreatDoorProg.lean LOADS. Nothing in Lean hashes anything: it is a label: what it is worth is what the hold of that sum in a sandbox is worth. -/
noncomputable def Tryz.pinned : Pinned := { name := "ytjnmeimbcljkjaagreatdoor", sum := "301582fb1a01a3bf87acb0a3defd149a4f09a4c22170304babdc9ea81039c389", checked := Tryz.checked }
namespace Rows
def none {H : Type} : Left H := { results := [], args := [] }

/- WHAT THE LISTED PACKAGE-LEVEL VARIABLES READ AS WHEN THE CALL BEGINS. Each datum BY PROGRAM (the guide's laid-datum.mjs) off the statement by which the dump's own 'gosem.cut.vars' lays the variable. In a bare row this is a premise. The card (YtjnmeimbcljkjaaGreatDoorCards.lean) ties it to the program's text. -/
def laid_unicode_White_Space {H : Type} : DataW H := .ptr (.agg [.slice [.agg [.lit (.int .u16 9), .lit (.int .u16 13), .lit (.int .u16 1)], .agg [.lit (.int .u16 32), .lit (.int .u16 133), .lit (.int .u16 101)], .agg [.lit (.int .u16 160), .lit (.int .u16 5760), .lit (.int .u16 5600)], .agg [.lit (.int .u16 8192), .lit (.int .u16 8202), .lit (.int .u16 1)], .agg [.lit (.int .u16 8232), .lit (.int .u16 8233), .lit (.int .u16 1)], .agg [.lit (.int .u16 8239), .lit (.int .u16 8287), .lit (.int .u16 48)], .agg [.lit (.int .u16 12288), .lit (.int .u16 12288), .lit (.int .u16 1)]] [], .nil, .lit (.int .i64 2)])
def laid_strings_asciiSpace {H : Type} : DataW H := .agg [.lit (.int .u8 0), .lit (.int .u8 0), .lit (.int .u8 0), .lit (.int .u8 0), .lit (.int .u8 0), .lit (.int .u8 0), .lit (.int .u8 0), .lit (.int .u8 0), .lit (.int .u8 0), .lit (.int .u8 1), .lit (.int .u8 1), .lit (.int .u8 1), .lit (.int .u8 1), .lit (.int .u8 1), .lit (.int .u8 0), .lit (.int .u8 0), .lit (.int .u8 0), .lit (.int .u8 0), .lit (.int .u8 0), .lit (.int .u8 0), .lit (.int .u8 0), .lit (.int .u8 0), .lit (.int .u8 0), .lit (.int .u8 0), .lit (.int .u8 0), .lit (.int .u8 0), .lit (.int .u8 0), .lit (.int .u8 0), .lit (.int .u8 0), .lit (.int .u8 0), .lit (.int .u8 0), .lit (.int .u8 0), .lit (.int .u8 1), .lit (.int .u8 0), .lit (.int .u8 0), .lit (.int .u8 0), .lit (.int .u8 0), .lit (.int .u8 0), .lit (.int .u8 0), .lit (.int .u8 0), .lit (.int .u8 0), .lit (.int .u8 0), .lit (.int .u8 0), .lit (.int .u8 0), .lit (.int .u8 0), .lit (.int .u8 0), .lit (.int .u8 0), .lit (.int .u8 0), .lit (.int .u8 0), .lit (.int .u8 0), .lit (.int .u8 0), .lit (.int .u8 0), .lit (.int .u8 0), .lit (.int .u8 0), .lit (.int .u8 0), .lit (.int .u8 0), .lit (.int .u8 0), .lit (.int .u8 0), .lit (.int .u8 0), .lit (.int .u8 0), .lit (.int .u8 0), .lit (.int .u8 0), .lit (.int .u8 0), .lit (.int .u8 0), .lit (.int .u8 0), .lit (.int .u8 0), .lit (.int .u8 0), .lit (.int .u8 0), .lit (.int .u8 0), .lit (.int .u8 0), .lit (.int .u8 0), .lit (.int .u8 0), .lit (.int .u8 0), .lit (.int .u8 0), .lit (.int .u8 0), .lit (.int .u8 0), .lit (.int .u8 0), .lit (.int .u8 0), .lit (.int .u8 0), .lit (.int .u8 0), .lit (.int .u8 0), .lit (.int .u8 0), .lit (.int .u8 0), .lit (.int .u8 0), .lit (.int .u8 0), .lit (.int .u8 0), .lit (.int .u8 0), .lit (.int .u8 0), .lit (.int .u8 0), .lit (.int .u8 0), .lit (.int .u8 0), .lit (.int .u8 0), .lit (.int .u8 0), .lit (.int .u8 0), .lit (.int .u8 0), .lit (.int .u8 0), .lit (.int .u8 0), .lit (.int .u8 0), .lit (.int .u8 0), .lit (.int .u8 0), .lit (.int .u8 0), .lit (.int .u8 0), .lit (.int .u8 0), .lit (.int .u8 0), .lit (.int .u8 0), .lit (.int .u8 0), .lit (.int .u8 0), .lit (.int .u8 0), .lit (.int .u8 0), .lit (.int .u8 0), .lit (.int .u8 0), .lit (.int .u8 0), .lit (.int .u8 0), .lit (.int .u8 0), .lit (.int .u8 0), .lit (.int .u8 0), .lit (.int .u8 0), .lit (.int .u8 0), .lit (.int .u8 0), .lit (.int .u8 0), .lit (.int .u8 0), .lit (.int .u8 0), .lit (.int .u8 0), .lit (.int .u8 0), .lit (.int .u8 0), .lit (.int .u8 0), .lit (.int .u8 0), .lit (.int .u8 0), .lit (.int .u8 0), .lit (.int .u8 0), .lit (.int .u8 0), .lit (.int .u8 0), .lit (.int .u8 0), .lit (.int .u8 0), .lit (.int .u8 0), .lit (.int .u8 0), .lit (.int .u8 0), .lit (.int .u8 0), .lit (.int .u8 0), .lit (.int .u8 0), .lit (.int .u8 0), .lit (.int .u8 0), .lit (.int .u8 0), .lit (.int .u8 0), .lit (.int .u8 0), .lit (.int .u8 0), .lit (.int .u8 0), .lit (.int .u8 0), .lit (.int .u8 0), .lit (.int .u8 0), .lit (.int .u8 0), .lit (.int .u8 0), .lit (.int .u8 0), .lit (.int .u8 0), .lit (.int .u8 0), .lit (.int .u8 0), .lit (.int .u8 0), .lit (.int .u8 0), .lit (.int .u8 0), .lit (.int .u8 0), .lit (.int .u8 0), .lit (.int .u8 0), .lit (.int .u8 0), .lit (.int .u8 0), .lit (.int .u8 0), .lit (.int .u8 0), .lit (.int .u8 0), .lit (.int .u8 0), .lit (.int .u8 0), .lit (.int .u8 0), .lit (.int .u8 0), .lit (.int .u8 0), .lit (.int .u8 0), .lit (.int .u8 0), .lit (.int .u8 0), .lit (.int .u8 0), .lit (.int .u8 0), .lit (.int .u8 0), .lit (.int .u8 0), .lit (.int .u8 0), .lit (.int .u8 0), .lit (.int .u8 0), .lit (.int .u8 0), .lit (.int .u8 0), .lit (.int .u8 0), .lit (.int .u8 0), .lit (.int .u8 0), .lit (.int .u8 0), .lit (.int .u8 0), .lit (.int .u8 0), .lit (.int .u8 0), .lit (.int .u8 0), .lit (.int .u8 0), .lit (.int .u8 0), .lit (.int .u8 0), .lit (.int .u8 0), .lit (.int .u8 0), .lit (.int .u8 0), .lit (.int .u8 0), .lit (.int .u8 0), .lit (.int .u8 0), .lit (.int .u8 0), .lit (.int .u8 0), .lit (.int .u8 0), .lit (.int .u8 0), .lit (.int .u8 0), .lit (.int .u8 0), .lit (.int .u8 0), .lit (.int .u8 0), .lit (.int .u8 0), .lit (.int .u8 0), .lit (.int .u8 0), .lit (.int .u8 0), .lit (.int .u8 0), .lit (.int .u8 0), .lit (.int .u8 0), .lit (.int .u8 0), .lit (.int .u8 0), .lit (.int .u8 0), .lit (.int .u8 0), .lit (.int .u8 0), .lit (.int .u8 0), .lit (.int .u8 0), .lit (.int .u8 0), .lit (.int .u8 0), .lit (.int .u8 0), .lit (.int .u8 0), .lit (.int .u8 0), .lit (.int .u8 0), .lit (.int .u8 0), .lit (.int .u8 0), .lit (.int .u8 0), .lit (.int .u8 0), .lit (.int .u8 0), .lit (.int .u8 0), .lit (.int .u8 0), .lit (.int .u8 0), .lit (.int .u8 0), .lit (.int .u8 0), .lit (.int .u8 0), .lit (.int .u8 0), .lit (.int .u8 0), .lit (.int .u8 0), .lit (.int .u8 0), .lit (.int .u8 0), .lit (.int .u8 0), .lit (.int .u8 0), .lit (.int .u8 0), .lit (.int .u8 0), .lit (.int .u8 0), .lit (.int .u8 0), .lit (.int .u8 0), .lit (.int .u8 0), .lit (.int .u8 0), .lit (.int .u8 0), .lit (.int .u8 0)]

/-- 'heartwoodlaw11.TypecheckChecks': WHATEVER THE INPUT: true; the input reads as it did. -/
def typecheckChecksSpec : ChangeSpec := { name := "typecheckChecks", fn := fun _ => fun
  | [d] => { results := [.lit (.bool true)], args := [d] }
  | _ => none }
def typecheckChecksRow : OpenClaim := { program := "ytjnmeimbcljkjaagreatdoor", sum := "301582fb1a01a3bf87acb0a3defd149a4f09a4c22170304babdc9ea81039c389", func := "heartwood/heartwoodlaw11.TypecheckChecks", spec := "typecheckChecks", unfollowed := true, recurses := true, named := ["strings.asciiSpace", "unicode.White_Space"], loops := true, apart := false, laid := [("unicode.White_Space", laid_unicode_White_Space), ("strings.asciiSpace", laid_strings_asciiSpace)] }
def TypecheckChecksSaid : Prop := typecheckChecksRow.holds Tryz.pinned (OpenSpec.ofChange typecheckChecksSpec)

/-- ITS FALSE NEIGHBOUR: 'it returns false'. Refute it at one input. -/
def typecheckChecksWrong : ChangeSpec := { name := "typecheckChecks", fn := fun _ => fun
  | [d] => { results := [.lit (.bool false)], args := [d] }
  | _ => none }
def TypecheckChecksWrongFalsely : Prop := typecheckChecksRow.holds Tryz.pinned (OpenSpec.ofChange typecheckChecksWrong)

/-- 'heartwoodlaw11.TypecheckExprs': WHATEVER THE INPUT: true; the input reads as it did. -/
def typecheckExprsSpec : ChangeSpec := { name := "typecheckExprs", fn := fun _ => fun
  | [d1, d2, d3] => { results := [.lit (.bool true)], args := [d1, d2, d3] }
  | _ => none }
def typecheckExprsRow : OpenClaim := { program := "ytjnmeimbcljkjaagreatdoor", sum := "301582fb1a01a3bf87acb0a3defd149a4f09a4c22170304babdc9ea81039c389", func := "heartwood/heartwoodlaw11.TypecheckExprs", spec := "typecheckExprs", unfollowed := true, recurses := true, named := ["strings.asciiSpace", "unicode.White_Space"], loops := true, apart := false, laid := [("unicode.White_Space", laid_unicode_White_Space), ("strings.asciiSpace", laid_strings_asciiSpace)] }
def TypecheckExprsSaid : Prop := typecheckExprsRow.holds Tryz.pinned (OpenSpec.ofChange typecheckExprsSpec)

/-- ITS FALSE NEIGHBOUR: 'it returns false'. Refute it at one input. -/
def typecheckExprsWrong : ChangeSpec := { name := "typecheckExprs", fn := fun _ => fun
  | [d1, d2, d3] => { results := [.lit (.bool false)], args := [d1, d2, d3] }
  | _ => none }
def TypecheckExprsWrongFalsely : Prop := typecheckExprsRow.holds Tryz.pinned (OpenSpec.ofChange typecheckExprsWrong)

/-- 'heartwoodlaw11.TypecheckLess': WHATEVER THE INPUT: true; the input reads as it did. -/
def typecheckLessSpec : ChangeSpec := { name := "typecheckLess", fn := fun _ => fun
  | [d1, d2, d3, d4] => { results := [.lit (.bool true)], args := [d1, d2, d3, d4] }
  | _ => none }
def typecheckLessRow : OpenClaim := { program := "ytjnmeimbcljkjaagreatdoor", sum := "301582fb1a01a3bf87acb0a3defd149a4f09a4c22170304babdc9ea81039c389", func := "heartwood/heartwoodlaw11.TypecheckLess", spec := "typecheckLess", unfollowed := true, recurses := true, named := ["strings.asciiSpace", "unicode.White_Space"], loops := true, apart := false, laid := [("unicode.White_Space", laid_unicode_White_Space), ("strings.asciiSpace", laid_strings_asciiSpace)] }
def TypecheckLessSaid : Prop := typecheckLessRow.holds Tryz.pinned (OpenSpec.ofChange typecheckLessSpec)

/-- ITS FALSE NEIGHBOUR: 'it returns false'. Refute it at one input. -/
def typecheckLessWrong : ChangeSpec := { name := "typecheckLess", fn := fun _ => fun
  | [d1, d2, d3, d4] => { results := [.lit (.bool false)], args := [d1, d2, d3, d4] }
  | _ => none }
def TypecheckLessWrongFalsely : Prop := typecheckLessRow.holds Tryz.pinned (OpenSpec.ofChange typecheckLessWrong)

/-- 'heartwoodlaw11.TypecheckDeclared': WHATEVER THE INPUT: true; the input reads as it did. -/
def typecheckDeclaredSpec : ChangeSpec := { name := "typecheckDeclared", fn := fun _ => fun
  | [d1, d2] => { results := [.lit (.bool true)], args := [d1, d2] }
  | _ => none }
def typecheckDeclaredRow : OpenClaim := { program := "ytjnmeimbcljkjaagreatdoor", sum := "301582fb1a01a3bf87acb0a3defd149a4f09a4c22170304babdc9ea81039c389", func := "heartwood/heartwoodlaw11.TypecheckDeclared", spec := "typecheckDeclared", unfollowed := true, recurses := true, named := ["strings.asciiSpace", "unicode.White_Space"], loops := true, apart := false, laid := [("unicode.White_Space", laid_unicode_White_Space), ("strings.asciiSpace", laid_strings_asciiSpace)] }
def TypecheckDeclaredSaid : Prop := typecheckDeclaredRow.holds Tryz.pinned (OpenSpec.ofChange typecheckDeclaredSpec)

/-- ITS FALSE NEIGHBOUR: 'it returns false'. Refute it at one input. -/
def typecheckDeclaredWrong : ChangeSpec := { name := "typecheckDeclared", fn := fun _ => fun
  | [d1, d2] => { results := [.lit (.bool false)], args := [d1, d2] }
  | _ => none }
def TypecheckDeclaredWrongFalsely : Prop := typecheckDeclaredRow.holds Tryz.pinned (OpenSpec.ofChange typecheckDeclaredWrong)

/-- 'heartwoodlaw11.TypecheckFormulas': WHATEVER THE INPUT: true; the input reads as it did. -/
def typecheckFormulasSpec : ChangeSpec := { name := "typecheckFormulas", fn := fun _ => fun
  | [d1, d2, d3] => { results := [.lit (.bool true)], args := [d1, d2, d3] }
  | _ => none }
def typecheckFormulasRow : OpenClaim := { program := "ytjnmeimbcljkjaagreatdoor", sum := "301582fb1a01a3bf87acb0a3defd149a4f09a4c22170304babdc9ea81039c389", func := "heartwood/heartwoodlaw11.TypecheckFormulas", spec := "typecheckFormulas", unfollowed := true, recurses := true, named := ["strings.asciiSpace", "unicode.White_Space"], loops := true, apart := false, laid := [("unicode.White_Space", laid_unicode_White_Space), ("strings.asciiSpace", laid_strings_asciiSpace)] }
def TypecheckFormulasSaid : Prop := typecheckFormulasRow.holds Tryz.pinned (OpenSpec.ofChange typecheckFormulasSpec)

/-- ITS FALSE NEIGHBOUR: 'it returns false'. Refute it at one input. -/
def typecheckFormulasWrong : ChangeSpec := { name := "typecheckFormulas", fn := fun _ => fun
  | [d1, d2, d3] => { results := [.lit (.bool false)], args := [d1, d2, d3] }
  | _ => none }
def TypecheckFormulasWrongFalsely : Prop := typecheckFormulasRow.holds Tryz.pinned (OpenSpec.ofChange typecheckFormulasWrong)

/-- 'heartwoodlaw11.TypecheckParts': WHATEVER THE INPUT: true; the input reads as it did. -/
def typecheckPartsSpec : ChangeSpec := { name := "typecheckParts", fn := fun _ => fun
  | [d1, d2, d3, d4, d5] => { results := [.lit (.bool true)], args := [d1, d2, d3, d4, d5] }
  | _ => none }
def typecheckPartsRow : OpenClaim := { program := "ytjnmeimbcljkjaagreatdoor", sum := "301582fb1a01a3bf87acb0a3defd149a4f09a4c22170304babdc9ea81039c389", func := "heartwood/heartwoodlaw11.TypecheckParts", spec := "typecheckParts", unfollowed := true, recurses := true, named := ["strings.asciiSpace", "unicode.White_Space"], loops := true, apart := false, laid := [("unicode.White_Space", laid_unicode_White_Space), ("strings.asciiSpace", laid_strings_asciiSpace)] }
def TypecheckPartsSaid : Prop := typecheckPartsRow.holds Tryz.pinned (OpenSpec.ofChange typecheckPartsSpec)

/-- ITS FALSE NEIGHBOUR: 'it returns false'. Refute it at one input. -/
def typecheckPartsWrong : ChangeSpec := { name := "typecheckParts", fn := fun _ => fun
  | [d1, d2, d3, d4, d5] => { results := [.lit (.bool false)], args := [d1, d2, d3, d4, d5] }
  | _ => none }
def TypecheckPartsWrongFalsely : Prop := typecheckPartsRow.holds Tryz.pinned (OpenSpec.ofChange typecheckPartsWrong)

/-- 'heartwoodlaw11.TypecheckEntries': WHATEVER THE INPUT: true; the input reads as it did. -/
def typecheckEntriesSpec : ChangeSpec := { name := "typecheckEntries", fn := fun _ => fun
  | [d] => { results := [.lit (.bool true)], args := [d] }
  | _ => none }
def typecheckEntriesRow : OpenClaim := { program := "ytjnmeimbcljkjaagreatdoor", sum := "301582fb1a01a3bf87acb0a3defd149a4f09a4c22170304babdc9ea81039c389", func := "heartwood/heartwoodlaw11.TypecheckEntries", spec := "typecheckEntries", unfollowed := true, recurses := true, named := ["strings.asciiSpace", "unicode.White_Space"], loops := true, apart := false, laid := [("unicode.White_Space", laid_unicode_White_Space), ("strings.asciiSpace", laid_strings_asciiSpace)] }
def TypecheckEntriesSaid : Prop := typecheckEntriesRow.holds Tryz.pinned (OpenSpec.ofChange typecheckEntriesSpec)

/-- ITS FALSE NEIGHBOUR: 'it returns false'. Refute it at one input. -/
def typecheckEntriesWrong : ChangeSpec := { name := "typecheckEntries", fn := fun _ => fun
  | [d] => { results := [.lit (.bool false)], args := [d] }
  | _ => none }
def TypecheckEntriesWrongFalsely : Prop := typecheckEntriesRow.holds Tryz.pinned (OpenSpec.ofChange typecheckEntriesWrong)

/- THE SECOND FORM. 'bulk': how many values and letters a reading holds, each counted each time it is reached (what is shared counts as often as it is met; a slice's spare places count too). A statement '..UptoSaid' is the law's where the arguments, and the package variables that the reading takes, are together of bulk at most 1048576: NARROWER than '..Said'. Prove '..Said' where nothing that the law and all that it calls make is longer than what came in: it says more and counts as full. Else prove '..UptoSaid'. A law counts once. -/
mutual
def uptoBulk {H : Type} : DataW H → Nat
  | .lit (.string bytes) => bytes.length + 1
  | .lit _ => 1
  | .nil => 1
  | .ptr d => uptoBulk d + 1
  | .slice elems spare => uptoBulkAll elems + uptoBulkAll spare + 1
  | .agg parts => uptoBulkAll parts + 1
  | .iface _ d => uptoBulk d + 1
  | .map entries => uptoBulkEntries entries + 1
  | .held _ => 1
def uptoBulkAll {H : Type} : List (DataW H) → Nat
  | [] => 0
  | d :: r => uptoBulk d + uptoBulkAll r
def uptoBulkEntries {H : Type} : List (Lit × DataW H) → Nat
  | [] => 0
  | x :: r => uptoBulkEntry x + uptoBulkEntries r
def uptoBulkEntry {H : Type} : Lit × DataW H → Nat
  | (.string bytes, d) => bytes.length + uptoBulk d + 1
  | (_, d) => uptoBulk d + 1
 end
def uptoSmall : (H : Type) → List (DataW H) → Bool := fun _ ds => decide (uptoBulkAll ds ≤ 1048576)
def OpenSpec.upto (s : _root_.Go.ChangeSpec) : _root_.Go.OpenSpec := { _root_.Go.OpenSpec.ofChange s with cond := some uptoSmall }

/-- 'heartwoodlaw11.TypecheckChecks', WHERE WHAT IT READS IS OF BULK AT MOST 1048576: true; the input reads as it did. -/
def typecheckChecksUptoRow : OpenClaim := { program := "ytjnmeimbcljkjaagreatdoor", sum := "301582fb1a01a3bf87acb0a3defd149a4f09a4c22170304babdc9ea81039c389", func := "heartwood/heartwoodlaw11.TypecheckChecks", spec := "typecheckChecks", unfollowed := true, recurses := true, named := ["strings.asciiSpace", "unicode.White_Space"], loops := true, apart := false, laid := [("unicode.White_Space", laid_unicode_White_Space), ("strings.asciiSpace", laid_strings_asciiSpace)], narrowed := true }
def TypecheckChecksUptoSaid : Prop := typecheckChecksUptoRow.holds Tryz.pinned (OpenSpec.upto typecheckChecksSpec)

/-- 'heartwoodlaw11.TypecheckExprs', WHERE WHAT IT READS IS OF BULK AT MOST 1048576: true; the input reads as it did. -/
def typecheckExprsUptoRow : OpenClaim := { program := "ytjnmeimbcljkjaagreatdoor", sum := "301582fb1a01a3bf87acb0a3defd149a4f09a4c22170304babdc9ea81039c389", func := "heartwood/heartwoodlaw11.TypecheckExprs", spec := "typecheckExprs", unfollowed := true, recurses := true, named := ["strings.asciiSpace", "unicode.White_Space"], loops := true, apart := false, laid := [("unicode.White_Space", laid_unicode_White_Space), ("strings.asciiSpace", laid_strings_asciiSpace)], narrowed := true }
def TypecheckExprsUptoSaid : Prop := typecheckExprsUptoRow.holds Tryz.pinned (OpenSpec.upto typecheckExprsSpec)

/-- 'heartwoodlaw11.TypecheckLess', WHERE WHAT IT READS IS OF BULK AT MOST 1048576: true; the input reads as it did. -/
def typecheckLessUptoRow : OpenClaim := { program := "ytjnmeimbcljkjaagreatdoor", sum := "301582fb1a01a3bf87acb0a3defd149a4f09a4c22170304babdc9ea81039c389", func := "heartwood/heartwoodlaw11.TypecheckLess", spec := "typecheckLess", unfollowed := true, recurses := true, named := ["strings.asciiSpace", "unicode.White_Space"], loops := true, apart := false, laid := [("unicode.White_Space", laid_unicode_White_Space), ("strings.asciiSpace", laid_strings_asciiSpace)], narrowed := true }
def TypecheckLessUptoSaid : Prop := typecheckLessUptoRow.holds Tryz.pinned (OpenSpec.upto typecheckLessSpec)

/-- 'heartwoodlaw11.TypecheckDeclared', WHERE WHAT IT READS IS OF BULK AT MOST 1048576: true; the input reads as it did. -/
def typecheckDeclaredUptoRow : OpenClaim := { program := "ytjnmeimbcljkjaagreatdoor", sum := "301582fb1a01a3bf87acb0a3defd149a4f09a4c22170304babdc9ea81039c389", func := "heartwood/heartwoodlaw11.TypecheckDeclared", spec := "typecheckDeclared", unfollowed := true, recurses := true, named := ["strings.asciiSpace", "unicode.White_Space"], loops := true, apart := false, laid := [("unicode.White_Space", laid_unicode_White_Space), ("strings.asciiSpace", laid_strings_asciiSpace)], narrowed := true }
def TypecheckDeclaredUptoSaid : Prop := typecheckDeclaredUptoRow.holds Tryz.pinned (OpenSpec.upto typecheckDeclaredSpec)

/-- 'heartwoodlaw11.TypecheckFormulas', WHERE WHAT IT READS IS OF BULK AT MOST 1048576: true; the input reads as it did. -/
def typecheckFormulasUptoRow : OpenClaim := { program := "ytjnmeimbcljkjaagreatdoor", sum := "301582fb1a01a3bf87acb0a3defd149a4f09a4c22170304babdc9ea81039c389", func := "heartwood/heartwoodlaw11.TypecheckFormulas", spec := "typecheckFormulas", unfollowed := true, recurses := true, named := ["strings.asciiSpace", "unicode.White_Space"], loops := true, apart := false, laid := [("unicode.White_Space", laid_unicode_White_Space), ("strings.asciiSpace", laid_strings_asciiSpace)], narrowed := true }
def TypecheckFormulasUptoSaid : Prop := typecheckFormulasUptoRow.holds Tryz.pinned (OpenSpec.upto typecheckFormulasSpec)

/-- 'heartwoodlaw11.TypecheckParts', WHERE WHAT IT READS IS OF BULK AT MOST 1048576: true; the input reads as it did. -/
def typecheckPartsUptoRow : OpenClaim := { program := "ytjnmeimbcljkjaagreatdoor", sum := "301582fb1a01a3bf87acb0a3defd149a4f09a4c22170304babdc9ea81039c389", func := "heartwood/heartwoodlaw11.TypecheckParts", spec := "typecheckParts", unfollowed := true, recurses := true, named := ["strings.asciiSpace", "unicode.White_Space"], loops := true, apart := false, laid := [("unicode.White_Space", laid_unicode_White_Space), ("strings.asciiSpace", laid_strings_asciiSpace)], narrowed := true }
def TypecheckPartsUptoSaid : Prop := typecheckPartsUptoRow.holds Tryz.pinned (OpenSpec.upto typecheckPartsSpec)

/-- 'heartwoodlaw11.TypecheckEntries', WHERE WHAT IT READS IS OF BULK AT MOST 1048576: true; the input reads as it did. -/
def typecheckEntriesUptoRow : OpenClaim := { program := "ytjnmeimbcljkjaagreatdoor", sum := "301582fb1a01a3bf87acb0a3defd149a4f09a4c22170304babdc9ea81039c389", func := "heartwood/heartwoodlaw11.TypecheckEntries", spec := "typecheckEntries", unfollowed := true, recurses := true, named := ["strings.asciiSpace", "unicode.White_Space"], loops := true, apart := false, laid := [("unicode.White_Space", laid_unicode_White_Space), ("strings.asciiSpace", laid_strings_asciiSpace)], narrowed := true }
def TypecheckEntriesUptoSaid : Prop := typecheckEntriesUptoRow.holds Tryz.pinned (OpenSpec.upto typecheckEntriesSpec)

end Rows
end Go.Proofs.YtjnmeimbcljkjaaGreatDoor
