/-
  NARROWER THAN 'FOR EVERY INPUT', by the rows' own cells (each row's printed sentence says how): JudgeDerives: loops, laid · JudgeAgrees: loops, laid · JudgeClean: loops, laid · JudgeFlaws: loops, laid · JudgeKnown: laid · JudgeAudits: loops, laid.
  DERIVED. THE GIVEN ROWS OF THIS SEAT. 6 by the template 'for every input the law returns true; each argument reads behind the call as it read before'; 0 by the template 'total and deterministic' (their statements: YtibgbgjocbaflaaGreatDoorTotals.lean).
  GIVEN WITH THE SEED: the statements are not yours to turn. If you find one false, say at which input.
  Laid BY PROGRAM, IN A SANDBOX (cutbox-rows.mjs): the forced cells as the released guide's own fill.sh prints them over the translation ec960b80403548d7… (all of the seat's roots in one cut). By AI agents, Wed Nov 11 2026. No macro, syntax, notation, axiom, sorry.
-/
import Derived.Test.YtibgbgjocbaflaaGreatDoorChecked
import GoSem.PinnedTables
import GoSem.Claim
import GoSem.ClaimJoined
import GoSem.ClaimMapViews
import Derived.JoinedTies
import Derived.KernelRfl
namespace Go.Proofs.YtibgbgjocbaflaaGreatDoor
/- THE CELL 'sum', in the pinned program and in every row, IS THE sha256 OF THE DUMP (.gsa) THAT YtibgbgjocbaflaaGreatDoorProg.lean LOADS. Nothing in Lean hashes anything: it is a label: what it is worth is what the hold of that sum in a sandbox is worth. -/
noncomputable def Tryz.pinned : Pinned := { name := "ytibgbgjocbaflaagreatdoor", sum := "ec960b80403548d7a5952f7117ae75f977a455e8f73a705bc03b85d892fb6cf0", checked := Tryz.checked }
namespace Rows
def none {H : Type} : Left H := { results := [], args := [] }

/- WHAT THE LISTED PACKAGE-LEVEL VARIABLES READ AS WHEN THE CALL BEGINS. Each datum BY PROGRAM (the guide's laid-datum.mjs) off the statement by which the dump's own 'gosem.cut.vars' lays the variable. In a bare row this is a premise. The card (YtibgbgjocbaflaaGreatDoorCards.lean) ties it to the program's text. -/
def laid_math_bits_deBruijn64tab {H : Type} : DataW H := .agg [.lit (.int .u8 0), .lit (.int .u8 1), .lit (.int .u8 56), .lit (.int .u8 2), .lit (.int .u8 57), .lit (.int .u8 49), .lit (.int .u8 28), .lit (.int .u8 3), .lit (.int .u8 61), .lit (.int .u8 58), .lit (.int .u8 42), .lit (.int .u8 50), .lit (.int .u8 38), .lit (.int .u8 29), .lit (.int .u8 17), .lit (.int .u8 4), .lit (.int .u8 62), .lit (.int .u8 47), .lit (.int .u8 59), .lit (.int .u8 36), .lit (.int .u8 45), .lit (.int .u8 43), .lit (.int .u8 51), .lit (.int .u8 22), .lit (.int .u8 53), .lit (.int .u8 39), .lit (.int .u8 33), .lit (.int .u8 30), .lit (.int .u8 24), .lit (.int .u8 18), .lit (.int .u8 12), .lit (.int .u8 5), .lit (.int .u8 63), .lit (.int .u8 55), .lit (.int .u8 48), .lit (.int .u8 27), .lit (.int .u8 60), .lit (.int .u8 41), .lit (.int .u8 37), .lit (.int .u8 16), .lit (.int .u8 46), .lit (.int .u8 35), .lit (.int .u8 44), .lit (.int .u8 21), .lit (.int .u8 52), .lit (.int .u8 32), .lit (.int .u8 23), .lit (.int .u8 11), .lit (.int .u8 54), .lit (.int .u8 26), .lit (.int .u8 40), .lit (.int .u8 15), .lit (.int .u8 34), .lit (.int .u8 20), .lit (.int .u8 31), .lit (.int .u8 10), .lit (.int .u8 25), .lit (.int .u8 14), .lit (.int .u8 19), .lit (.int .u8 9), .lit (.int .u8 13), .lit (.int .u8 8), .lit (.int .u8 7), .lit (.int .u8 6)]
def laid_unicode_utf8_acceptRanges {H : Type} : DataW H := .agg [.agg [.lit (.int .u8 128), .lit (.int .u8 191)], .agg [.lit (.int .u8 160), .lit (.int .u8 191)], .agg [.lit (.int .u8 128), .lit (.int .u8 159)], .agg [.lit (.int .u8 144), .lit (.int .u8 191)], .agg [.lit (.int .u8 128), .lit (.int .u8 143)], .agg [.lit (.int .u8 0), .lit (.int .u8 0)], .agg [.lit (.int .u8 0), .lit (.int .u8 0)], .agg [.lit (.int .u8 0), .lit (.int .u8 0)], .agg [.lit (.int .u8 0), .lit (.int .u8 0)], .agg [.lit (.int .u8 0), .lit (.int .u8 0)], .agg [.lit (.int .u8 0), .lit (.int .u8 0)], .agg [.lit (.int .u8 0), .lit (.int .u8 0)], .agg [.lit (.int .u8 0), .lit (.int .u8 0)], .agg [.lit (.int .u8 0), .lit (.int .u8 0)], .agg [.lit (.int .u8 0), .lit (.int .u8 0)], .agg [.lit (.int .u8 0), .lit (.int .u8 0)]]
def laid_ablaut_judge_uses {H : Type} : DataW H := .map [(.int .i64 1, .lit (.int .i64 9)), (.int .i64 2, .lit (.int .i64 11)), (.int .i64 3, .lit (.int .i64 7)), (.int .i64 4, .lit (.int .i64 6)), (.int .i64 5, .lit (.int .i64 6)), (.int .i64 6, .lit (.int .i64 17)), (.int .i64 7, .lit (.int .i64 0)), (.int .i64 8, .lit (.int .i64 0)), (.int .i64 20, .lit (.int .i64 3)), (.int .i64 21, .lit (.int .i64 2)), (.int .i64 22, .lit (.int .i64 0)), (.int .i64 23, .lit (.int .i64 0)), (.int .i64 24, .lit (.int .i64 0)), (.int .i64 25, .lit (.int .i64 0))]
/-- One of Go's own tables, pinned by name: the form's constant. -/
def laid_unicode_utf8_first : DataW Unit := Go.Pinned.utf8First
def laid_ablaut_judge_questions {H : Type} : DataW H := .iface "func table" (.slice [.agg [.lit (.int .i64 20), .iface "func" (.lit (.string [97, 98, 108, 97, 117, 116, 47, 106, 117, 100, 103, 101, 46, 113, 117, 101, 115, 116, 105, 111, 110, 115, 36, 49]))], .agg [.lit (.int .i64 21), .iface "func" (.lit (.string [97, 98, 108, 97, 117, 116, 47, 106, 117, 100, 103, 101, 46, 113, 117, 101, 115, 116, 105, 111, 110, 115, 36, 50]))], .agg [.lit (.int .i64 22), .iface "func" (.lit (.string [97, 98, 108, 97, 117, 116, 47, 106, 117, 100, 103, 101, 46, 113, 117, 101, 115, 116, 105, 111, 110, 115, 36, 51]))], .agg [.lit (.int .i64 23), .iface "func" (.lit (.string [97, 98, 108, 97, 117, 116, 47, 106, 117, 100, 103, 101, 46, 113, 117, 101, 115, 116, 105, 111, 110, 115, 36, 52]))], .agg [.lit (.int .i64 24), .iface "func" (.lit (.string [97, 98, 108, 97, 117, 116, 47, 106, 117, 100, 103, 101, 46, 113, 117, 101, 115, 116, 105, 111, 110, 115, 36, 53]))]] [])

/-- 'ablautlaw46.JudgeDerives': WHATEVER THE INPUT: true; the input reads as it did. -/
def judgeDerivesSpec : ChangeSpec := { name := "judgeDerives", fn := fun _ => fun
  | [d1, d2] => { results := [.lit (.bool true)], args := [d1, d2] }
  | _ => none }
def judgeDerivesRow : OpenClaim := { program := "ytibgbgjocbaflaagreatdoor", sum := "ec960b80403548d7a5952f7117ae75f977a455e8f73a705bc03b85d892fb6cf0", func := "ablaut/ablautlaw46.JudgeDerives", spec := "judgeDerives", inPlace := ["internal/bytealg.IndexByteString", "internal/bytealg.IndexString", "slices.overlaps[int]", "slices.overlaps[ablaut/api.Sound]"], unfollowed := true, recurses := true, named := ["unicode/utf8.first", "unicode/utf8.acceptRanges", "math/bits.deBruijn64tab", "ablaut/judge.uses", "internal/bytealg.MaxLen"], loops := true, plainKeys := false, apart := false, laid := [("math/bits.deBruijn64tab", laid_math_bits_deBruijn64tab), ("unicode/utf8.acceptRanges", laid_unicode_utf8_acceptRanges), ("ablaut/judge.uses", laid_ablaut_judge_uses), ("unicode/utf8.first", laid_unicode_utf8_first)] }
def JudgeDerivesSaid : Prop := judgeDerivesRow.holds Tryz.pinned (OpenSpec.ofChange judgeDerivesSpec)

/-- ITS FALSE NEIGHBOUR: 'it returns false'. Refute it at one input. -/
def judgeDerivesWrong : ChangeSpec := { name := "judgeDerives", fn := fun _ => fun
  | [d1, d2] => { results := [.lit (.bool false)], args := [d1, d2] }
  | _ => none }
def JudgeDerivesWrongFalsely : Prop := judgeDerivesRow.holds Tryz.pinned (OpenSpec.ofChange judgeDerivesWrong)

/-- 'ablautlaw46.JudgeAgrees': WHATEVER THE INPUT: true; the input reads as it did. -/
def judgeAgreesSpec : ChangeSpec := { name := "judgeAgrees", fn := fun _ => fun
  | [d1, d2, d3] => { results := [.lit (.bool true)], args := [d1, d2, d3] }
  | _ => none }
def judgeAgreesRow : OpenClaim := { program := "ytibgbgjocbaflaagreatdoor", sum := "ec960b80403548d7a5952f7117ae75f977a455e8f73a705bc03b85d892fb6cf0", func := "ablaut/ablautlaw46.JudgeAgrees", spec := "judgeAgrees", inPlace := ["internal/bytealg.IndexByteString", "internal/bytealg.IndexString", "slices.overlaps[int]", "slices.overlaps[ablaut/api.Sound]"], unfollowed := true, recurses := true, named := ["unicode/utf8.first", "unicode/utf8.acceptRanges", "math/bits.deBruijn64tab", "ablaut/judge.uses", "internal/bytealg.MaxLen"], loops := true, plainKeys := false, apart := false, laid := [("math/bits.deBruijn64tab", laid_math_bits_deBruijn64tab), ("unicode/utf8.acceptRanges", laid_unicode_utf8_acceptRanges), ("ablaut/judge.uses", laid_ablaut_judge_uses), ("unicode/utf8.first", laid_unicode_utf8_first)] }
def JudgeAgreesSaid : Prop := judgeAgreesRow.holds Tryz.pinned (OpenSpec.ofChange judgeAgreesSpec)

/-- ITS FALSE NEIGHBOUR: 'it returns false'. Refute it at one input. -/
def judgeAgreesWrong : ChangeSpec := { name := "judgeAgrees", fn := fun _ => fun
  | [d1, d2, d3] => { results := [.lit (.bool false)], args := [d1, d2, d3] }
  | _ => none }
def JudgeAgreesWrongFalsely : Prop := judgeAgreesRow.holds Tryz.pinned (OpenSpec.ofChange judgeAgreesWrong)

/-- 'ablautlaw46.JudgeClean': WHATEVER THE INPUT: true; the input reads as it did. -/
def judgeCleanSpec : ChangeSpec := { name := "judgeClean", fn := fun _ => fun
  | [d] => { results := [.lit (.bool true)], args := [d] }
  | _ => none }
def judgeCleanRow : OpenClaim := { program := "ytibgbgjocbaflaagreatdoor", sum := "ec960b80403548d7a5952f7117ae75f977a455e8f73a705bc03b85d892fb6cf0", func := "ablaut/ablautlaw46.JudgeClean", spec := "judgeClean", inPlace := ["internal/bytealg.IndexByteString", "internal/bytealg.IndexString", "slices.overlaps[int]", "slices.overlaps[ablaut/api.Sound]"], unfollowed := true, recurses := true, named := ["unicode/utf8.first", "unicode/utf8.acceptRanges", "math/bits.deBruijn64tab", "ablaut/judge.uses", "internal/bytealg.MaxLen"], loops := true, plainKeys := false, apart := false, laid := [("math/bits.deBruijn64tab", laid_math_bits_deBruijn64tab), ("unicode/utf8.acceptRanges", laid_unicode_utf8_acceptRanges), ("ablaut/judge.uses", laid_ablaut_judge_uses), ("unicode/utf8.first", laid_unicode_utf8_first)] }
def JudgeCleanSaid : Prop := judgeCleanRow.holds Tryz.pinned (OpenSpec.ofChange judgeCleanSpec)

/-- ITS FALSE NEIGHBOUR: 'it returns false'. Refute it at one input. -/
def judgeCleanWrong : ChangeSpec := { name := "judgeClean", fn := fun _ => fun
  | [d] => { results := [.lit (.bool false)], args := [d] }
  | _ => none }
def JudgeCleanWrongFalsely : Prop := judgeCleanRow.holds Tryz.pinned (OpenSpec.ofChange judgeCleanWrong)

/-- 'ablautlaw46.JudgeFlaws': WHATEVER THE INPUT: true; the input reads as it did. -/
def judgeFlawsSpec : ChangeSpec := { name := "judgeFlaws", fn := fun _ => fun
  | [d1, d2, d3] => { results := [.lit (.bool true)], args := [d1, d2, d3] }
  | _ => none }
def judgeFlawsRow : OpenClaim := { program := "ytibgbgjocbaflaagreatdoor", sum := "ec960b80403548d7a5952f7117ae75f977a455e8f73a705bc03b85d892fb6cf0", func := "ablaut/ablautlaw46.JudgeFlaws", spec := "judgeFlaws", inPlace := ["internal/bytealg.IndexByteString", "internal/bytealg.IndexString", "slices.overlaps[int]", "slices.overlaps[ablaut/api.Sound]"], unfollowed := true, recurses := true, named := ["unicode/utf8.first", "unicode/utf8.acceptRanges", "math/bits.deBruijn64tab", "ablaut/judge.uses", "internal/bytealg.MaxLen"], loops := true, plainKeys := false, apart := false, laid := [("math/bits.deBruijn64tab", laid_math_bits_deBruijn64tab), ("unicode/utf8.acceptRanges", laid_unicode_utf8_acceptRanges), ("ablaut/judge.uses", laid_ablaut_judge_uses), ("unicode/utf8.first", laid_unicode_utf8_first)] }
def JudgeFlawsSaid : Prop := judgeFlawsRow.holds Tryz.pinned (OpenSpec.ofChange judgeFlawsSpec)

/-- ITS FALSE NEIGHBOUR: 'it returns false'. Refute it at one input. -/
def judgeFlawsWrong : ChangeSpec := { name := "judgeFlaws", fn := fun _ => fun
  | [d1, d2, d3] => { results := [.lit (.bool false)], args := [d1, d2, d3] }
  | _ => none }
def JudgeFlawsWrongFalsely : Prop := judgeFlawsRow.holds Tryz.pinned (OpenSpec.ofChange judgeFlawsWrong)

/-- 'ablautlaw46.JudgeKnown': WHATEVER THE INPUT: true; the input reads as it did. -/
def judgeKnownSpec : ChangeSpec := { name := "judgeKnown", fn := fun _ => fun
  | [] => { results := [.lit (.bool true)], args := [] }
  | _ => none }
def judgeKnownRow : OpenClaim := { program := "ytibgbgjocbaflaagreatdoor", sum := "ec960b80403548d7a5952f7117ae75f977a455e8f73a705bc03b85d892fb6cf0", func := "ablaut/ablautlaw46.JudgeKnown", spec := "judgeKnown", inPlace := ["slices.overlaps[ablaut/api.Sound]", "slices.overlaps[int]", "internal/bytealg.IndexByteString", "internal/bytealg.IndexString"], unfollowed := true, recurses := true, named := ["ablaut/judge.uses", "math/bits.deBruijn64tab", "unicode/utf8.first", "unicode/utf8.acceptRanges", "ablaut/judge.questions", "internal/bytealg.MaxLen"], plainKeys := false, apart := false, laid := [("math/bits.deBruijn64tab", laid_math_bits_deBruijn64tab), ("unicode/utf8.acceptRanges", laid_unicode_utf8_acceptRanges), ("ablaut/judge.uses", laid_ablaut_judge_uses), ("ablaut/judge.questions", laid_ablaut_judge_questions), ("unicode/utf8.first", laid_unicode_utf8_first)] }
def JudgeKnownSaid : Prop := judgeKnownRow.holds Tryz.pinned (OpenSpec.ofChange judgeKnownSpec)

/-- ITS FALSE NEIGHBOUR: 'it returns false'. Refute it at one input. -/
def judgeKnownWrong : ChangeSpec := { name := "judgeKnown", fn := fun _ => fun
  | [] => { results := [.lit (.bool false)], args := [] }
  | _ => none }
def JudgeKnownWrongFalsely : Prop := judgeKnownRow.holds Tryz.pinned (OpenSpec.ofChange judgeKnownWrong)

/-- 'ablautlaw46.JudgeAudits': WHATEVER THE INPUT: true; the input reads as it did. -/
def judgeAuditsSpec : ChangeSpec := { name := "judgeAudits", fn := fun _ => fun
  | [d1, d2, d3] => { results := [.lit (.bool true)], args := [d1, d2, d3] }
  | _ => none }
def judgeAuditsRow : OpenClaim := { program := "ytibgbgjocbaflaagreatdoor", sum := "ec960b80403548d7a5952f7117ae75f977a455e8f73a705bc03b85d892fb6cf0", func := "ablaut/ablautlaw46.JudgeAudits", spec := "judgeAudits", inPlace := ["internal/bytealg.IndexByteString", "internal/bytealg.IndexString", "slices.overlaps[int]", "slices.overlaps[ablaut/api.Sound]"], unfollowed := true, recurses := true, named := ["unicode/utf8.first", "unicode/utf8.acceptRanges", "math/bits.deBruijn64tab", "ablaut/judge.uses", "ablaut/judge.questions", "internal/bytealg.MaxLen"], loops := true, plainKeys := false, apart := false, laid := [("math/bits.deBruijn64tab", laid_math_bits_deBruijn64tab), ("unicode/utf8.acceptRanges", laid_unicode_utf8_acceptRanges), ("ablaut/judge.uses", laid_ablaut_judge_uses), ("ablaut/judge.questions", laid_ablaut_judge_questions), ("unicode/utf8.first", laid_unicode_utf8_first)] }
def JudgeAuditsSaid : Prop := judgeAuditsRow.holds Tryz.pinned (OpenSpec.ofChange judgeAuditsSpec)

/-- ITS FALSE NEIGHBOUR: 'it returns false'. Refute it at one input. -/
def judgeAuditsWrong : ChangeSpec := { name := "judgeAudits", fn := fun _ => fun
  | [d1, d2, d3] => { results := [.lit (.bool false)], args := [d1, d2, d3] }
  | _ => none }
def JudgeAuditsWrongFalsely : Prop := judgeAuditsRow.holds Tryz.pinned (OpenSpec.ofChange judgeAuditsWrong)

/- THE SECOND FORM. 'bulk': how many values and letters a reading holds, each counted each time it is reached (what is shared counts as often as it is met; a slice's spare places count too). A statement '..UptoSaid' is the law's where the arguments, and the package variables that the reading takes, are together of bulk at most 1048576: NARROWER than '..Said'. Prove '..Said' where nothing that the law and all that it calls make is longer than what came in: it says more and counts as full. Else prove '..UptoSaid'. A law counts once. -/
mutual
def uptoBulk {H : Type} : DataW H → Nat
  | .lit (.string bytes) => bytes.length + 1
  | .lit _ => 1
  | .nil => 1
  | .ptr d => uptoBulk d + 1
  | .slice elems spare => uptoBulkAll elems + uptoBulkAll spare + 1
  | .agg parts => uptoBulkAll parts + 1
  | .iface _ d => uptoBulk d + 1
  | .map entries => uptoBulkEntries entries + 1
  | .held _ => 1
def uptoBulkAll {H : Type} : List (DataW H) → Nat
  | [] => 0
  | d :: r => uptoBulk d + uptoBulkAll r
def uptoBulkEntries {H : Type} : List (Lit × DataW H) → Nat
  | [] => 0
  | x :: r => uptoBulkEntry x + uptoBulkEntries r
def uptoBulkEntry {H : Type} : Lit × DataW H → Nat
  | (.string bytes, d) => bytes.length + uptoBulk d + 1
  | (_, d) => uptoBulk d + 1
 end
def uptoSmall : (H : Type) → List (DataW H) → Bool := fun _ ds => decide (uptoBulkAll ds ≤ 1048576)
def OpenSpec.upto (s : _root_.Go.ChangeSpec) : _root_.Go.OpenSpec := { _root_.Go.OpenSpec.ofChange s with cond := some uptoSmall }

/-- 'ablautlaw46.JudgeDerives', WHERE WHAT IT READS IS OF BULK AT MOST 1048576: true; the input reads as it did. -/
def judgeDerivesUptoRow : OpenClaim := { program := "ytibgbgjocbaflaagreatdoor", sum := "ec960b80403548d7a5952f7117ae75f977a455e8f73a705bc03b85d892fb6cf0", func := "ablaut/ablautlaw46.JudgeDerives", spec := "judgeDerives", inPlace := ["internal/bytealg.IndexByteString", "internal/bytealg.IndexString", "slices.overlaps[int]", "slices.overlaps[ablaut/api.Sound]"], unfollowed := true, recurses := true, named := ["unicode/utf8.first", "unicode/utf8.acceptRanges", "math/bits.deBruijn64tab", "ablaut/judge.uses", "internal/bytealg.MaxLen"], loops := true, plainKeys := false, apart := false, laid := [("math/bits.deBruijn64tab", laid_math_bits_deBruijn64tab), ("unicode/utf8.acceptRanges", laid_unicode_utf8_acceptRanges), ("ablaut/judge.uses", laid_ablaut_judge_uses), ("unicode/utf8.first", laid_unicode_utf8_first)], narrowed := true }
def JudgeDerivesUptoSaid : Prop := judgeDerivesUptoRow.holds Tryz.pinned (OpenSpec.upto judgeDerivesSpec)

/-- 'ablautlaw46.JudgeAgrees', WHERE WHAT IT READS IS OF BULK AT MOST 1048576: true; the input reads as it did. -/
def judgeAgreesUptoRow : OpenClaim := { program := "ytibgbgjocbaflaagreatdoor", sum := "ec960b80403548d7a5952f7117ae75f977a455e8f73a705bc03b85d892fb6cf0", func := "ablaut/ablautlaw46.JudgeAgrees", spec := "judgeAgrees", inPlace := ["internal/bytealg.IndexByteString", "internal/bytealg.IndexString", "slices.overlaps[int]", "slices.overlaps[ablaut/api.Sound]"], unfollowed := true, recurses := true, named := ["unicode/utf8.first", "unicode/utf8.acceptRanges", "math/bits.deBruijn64tab", "ablaut/judge.uses", "internal/bytealg.MaxLen"], loops := true, plainKeys := false, apart := false, laid := [("math/bits.deBruijn64tab", laid_math_bits_deBruijn64tab), ("unicode/utf8.acceptRanges", laid_unicode_utf8_acceptRanges), ("ablaut/judge.uses", laid_ablaut_judge_uses), ("unicode/utf8.first", laid_unicode_utf8_first)], narrowed := true }
def JudgeAgreesUptoSaid : Prop := judgeAgreesUptoRow.holds Tryz.pinned (OpenSpec.upto judgeAgreesSpec)

/-- 'ablautlaw46.JudgeClean', WHERE WHAT IT READS IS OF BULK AT MOST 1048576: true; the input reads as it did. -/
def judgeCleanUptoRow : OpenClaim := { program := "ytibgbgjocbaflaagreatdoor", sum := "ec960b80403548d7a5952f7117ae75f977a455e8f73a705bc03b85d892fb6cf0", func := "ablaut/ablautlaw46.JudgeClean", spec := "judgeClean", inPlace := ["internal/bytealg.IndexByteString", "internal/bytealg.IndexString", "slices.overlaps[int]", "slices.overlaps[ablaut/api.Sound]"], unfollowed := true, recurses := true, named := ["unicode/utf8.first", "unicode/utf8.acceptRanges", "math/bits.deBruijn64tab", "ablaut/judge.uses", "internal/bytealg.MaxLen"], loops := true, plainKeys := false, apart := false, laid := [("math/bits.deBruijn64tab", laid_math_bits_deBruijn64tab), ("unicode/utf8.acceptRanges", laid_unicode_utf8_acceptRanges), ("ablaut/judge.uses", laid_ablaut_judge_uses), ("unicode/utf8.first", laid_unicode_utf8_first)], narrowed := true }
def JudgeCleanUptoSaid : Prop := judgeCleanUptoRow.holds Tryz.pinned (OpenSpec.upto judgeCleanSpec)

/-- 'ablautlaw46.JudgeFlaws', WHERE WHAT IT READS IS OF BULK AT MOST 1048576: true; the input reads as it did. -/
def judgeFlawsUptoRow : OpenClaim := { program := "ytibgbgjocbaflaagreatdoor", sum := "ec960b80403548d7a5952f7117ae75f977a455e8f73a705bc03b85d892fb6cf0", func := "ablaut/ablautlaw46.JudgeFlaws", spec := "judgeFlaws", inPlace := ["internal/bytealg.IndexByteString", "internal/bytealg.IndexString", "slices.overlaps[int]", "slices.overlaps[ablaut/api.Sound]"], unfollowed := true, recurses := true, named := ["unicode/utf8.first", "unicode/utf8.acceptRanges", "math/bits.deBruijn64tab", "ablaut/judge.uses", "internal/bytealg.MaxLen"], loops := true, plainKeys := false, apart := false, laid := [("math/bits.deBruijn64tab", laid_math_bits_deBruijn64tab), ("unicode/utf8.acceptRanges", laid_unicode_utf8_acceptRanges), ("ablaut/judge.uses", laid_ablaut_judge_uses), ("unicode/utf8.first", laid_unicode_utf8_first)], narrowed := true }
def JudgeFlawsUptoSaid : Prop := judgeFlawsUptoRow.holds Tryz.pinned (OpenSpec.upto judgeFlawsSpec)

/-- 'ablautlaw46.JudgeKnown', WHERE WHAT IT READS IS OF BULK AT MOST 1048576: true; the input reads as it did. -/
def judgeKnownUptoRow : OpenClaim := { program := "ytibgbgjocbaflaagreatdoor", sum := "ec960b80403548d7a5952f7117ae75f977a455e8f73a705bc03b85d892fb6cf0", func := "ablaut/ablautlaw46.JudgeKnown", spec := "judgeKnown", inPlace := ["slices.overlaps[ablaut/api.Sound]", "slices.overlaps[int]", "internal/bytealg.IndexByteString", "internal/bytealg.IndexString"], unfollowed := true, recurses := true, named := ["ablaut/judge.uses", "math/bits.deBruijn64tab", "unicode/utf8.first", "unicode/utf8.acceptRanges", "ablaut/judge.questions", "internal/bytealg.MaxLen"], plainKeys := false, apart := false, laid := [("math/bits.deBruijn64tab", laid_math_bits_deBruijn64tab), ("unicode/utf8.acceptRanges", laid_unicode_utf8_acceptRanges), ("ablaut/judge.uses", laid_ablaut_judge_uses), ("ablaut/judge.questions", laid_ablaut_judge_questions), ("unicode/utf8.first", laid_unicode_utf8_first)], narrowed := true }
def JudgeKnownUptoSaid : Prop := judgeKnownUptoRow.holds Tryz.pinned (OpenSpec.upto judgeKnownSpec)

/-- 'ablautlaw46.JudgeAudits', WHERE WHAT IT READS IS OF BULK AT MOST 1048576: true; the input reads as it did. -/
def judgeAuditsUptoRow : OpenClaim := { program := "ytibgbgjocbaflaagreatdoor", sum := "ec960b80403548d7a5952f7117ae75f977a455e8f73a705bc03b85d892fb6cf0", func := "ablaut/ablautlaw46.JudgeAudits", spec := "judgeAudits", inPlace := ["internal/bytealg.IndexByteString", "internal/bytealg.IndexString", "slices.overlaps[int]", "slices.overlaps[ablaut/api.Sound]"], unfollowed := true, recurses := true, named := ["unicode/utf8.first", "unicode/utf8.acceptRanges", "math/bits.deBruijn64tab", "ablaut/judge.uses", "ablaut/judge.questions", "internal/bytealg.MaxLen"], loops := true, plainKeys := false, apart := false, laid := [("math/bits.deBruijn64tab", laid_math_bits_deBruijn64tab), ("unicode/utf8.acceptRanges", laid_unicode_utf8_acceptRanges), ("ablaut/judge.uses", laid_ablaut_judge_uses), ("ablaut/judge.questions", laid_ablaut_judge_questions), ("unicode/utf8.first", laid_unicode_utf8_first)], narrowed := true }
def JudgeAuditsUptoSaid : Prop := judgeAuditsUptoRow.holds Tryz.pinned (OpenSpec.upto judgeAuditsSpec)

end Rows
end Go.Proofs.YtibgbgjocbaflaaGreatDoor
