/-
  NARROWER THAN 'FOR EVERY INPUT', by the rows' own cells (each row's printed sentence says how): DependNames: loops, laid · DependSums: laid · DependChanges: loops, laid · DependOrder: loops, laid · DependBody: loops, laid.
  DERIVED. THE GIVEN ROWS OF THIS SEAT. 5 by the template 'for every input the law returns true; each argument reads behind the call as it read before'; 0 by the template 'total and deterministic' (their statements: YtankopenjcbeeaaGreatDoorTotals.lean).
  GIVEN WITH THE SEED: the statements are not yours to turn. If you find one false, say at which input.
  Laid BY PROGRAM, IN A SANDBOX (cutbox-rows.mjs): the forced cells as the released guide's own fill.sh prints them over the translation 76a3edb194b90b89… (all of the seat's roots in one cut). By AI agents, Wed Nov 11 2026. No macro, syntax, notation, axiom, sorry.
-/
import Derived.Test.YtankopenjcbeeaaGreatDoorChecked
import GoSem.Claim
import GoSem.ClaimJoined
import GoSem.ClaimMapViews
import Derived.JoinedTies
import Derived.KernelRfl
namespace Go.Proofs.YtankopenjcbeeaaGreatDoor
/- THE CELL 'sum', in the pinned program and in every row, IS THE sha256 OF THE DUMP (.gsa) THAT YtankopenjcbeeaaGreatDoorProg.lean LOADS. Nothing in Lean hashes anything: it is a label: what it is worth is what the hold of that sum in a sandbox is worth. -/
noncomputable def Tryz.pinned : Pinned := { name := "ytankopenjcbeeaagreatdoor", sum := "76a3edb194b90b89d7d221c1584f05024c72f868a44be1dcbf479f0c9dcfe2f8", checked := Tryz.checked }
namespace Rows
def none {H : Type} : Left H := { results := [], args := [] }

/- WHAT THE LISTED PACKAGE-LEVEL VARIABLES READ AS WHEN THE CALL BEGINS. Each datum BY PROGRAM (the guide's laid-datum.mjs) off the statement by which the dump's own 'gosem.cut.vars' lays the variable. In a bare row this is a premise. The card (YtankopenjcbeeaaGreatDoorCards.lean) ties it to the program's text. -/
def laid_math_bits_deBruijn32tab {H : Type} : DataW H := .agg [.lit (.int .u8 0), .lit (.int .u8 1), .lit (.int .u8 28), .lit (.int .u8 2), .lit (.int .u8 29), .lit (.int .u8 14), .lit (.int .u8 24), .lit (.int .u8 3), .lit (.int .u8 30), .lit (.int .u8 22), .lit (.int .u8 20), .lit (.int .u8 15), .lit (.int .u8 25), .lit (.int .u8 17), .lit (.int .u8 4), .lit (.int .u8 8), .lit (.int .u8 31), .lit (.int .u8 27), .lit (.int .u8 13), .lit (.int .u8 23), .lit (.int .u8 21), .lit (.int .u8 19), .lit (.int .u8 16), .lit (.int .u8 7), .lit (.int .u8 26), .lit (.int .u8 12), .lit (.int .u8 18), .lit (.int .u8 6), .lit (.int .u8 11), .lit (.int .u8 5), .lit (.int .u8 10), .lit (.int .u8 9)]
def laid_math_bits_deBruijn64tab {H : Type} : DataW H := .agg [.lit (.int .u8 0), .lit (.int .u8 1), .lit (.int .u8 56), .lit (.int .u8 2), .lit (.int .u8 57), .lit (.int .u8 49), .lit (.int .u8 28), .lit (.int .u8 3), .lit (.int .u8 61), .lit (.int .u8 58), .lit (.int .u8 42), .lit (.int .u8 50), .lit (.int .u8 38), .lit (.int .u8 29), .lit (.int .u8 17), .lit (.int .u8 4), .lit (.int .u8 62), .lit (.int .u8 47), .lit (.int .u8 59), .lit (.int .u8 36), .lit (.int .u8 45), .lit (.int .u8 43), .lit (.int .u8 51), .lit (.int .u8 22), .lit (.int .u8 53), .lit (.int .u8 39), .lit (.int .u8 33), .lit (.int .u8 30), .lit (.int .u8 24), .lit (.int .u8 18), .lit (.int .u8 12), .lit (.int .u8 5), .lit (.int .u8 63), .lit (.int .u8 55), .lit (.int .u8 48), .lit (.int .u8 27), .lit (.int .u8 60), .lit (.int .u8 41), .lit (.int .u8 37), .lit (.int .u8 16), .lit (.int .u8 46), .lit (.int .u8 35), .lit (.int .u8 44), .lit (.int .u8 21), .lit (.int .u8 52), .lit (.int .u8 32), .lit (.int .u8 23), .lit (.int .u8 11), .lit (.int .u8 54), .lit (.int .u8 26), .lit (.int .u8 40), .lit (.int .u8 15), .lit (.int .u8 34), .lit (.int .u8 20), .lit (.int .u8 31), .lit (.int .u8 10), .lit (.int .u8 25), .lit (.int .u8 14), .lit (.int .u8 19), .lit (.int .u8 9), .lit (.int .u8 13), .lit (.int .u8 8), .lit (.int .u8 7), .lit (.int .u8 6)]
def laid_internal_strconv_uint64pow10 {H : Type} : DataW H := .agg [.lit (.int .u64 1), .lit (.int .u64 10), .lit (.int .u64 100), .lit (.int .u64 1000), .lit (.int .u64 10000), .lit (.int .u64 100000), .lit (.int .u64 1000000), .lit (.int .u64 10000000), .lit (.int .u64 100000000), .lit (.int .u64 1000000000), .lit (.int .u64 10000000000), .lit (.int .u64 100000000000), .lit (.int .u64 1000000000000), .lit (.int .u64 10000000000000), .lit (.int .u64 100000000000000), .lit (.int .u64 1000000000000000), .lit (.int .u64 10000000000000000), .lit (.int .u64 100000000000000000), .lit (.int .u64 1000000000000000000), .lit (.int .u64 10000000000000000000)]
def laid_liquidcheck_names_keywords {H : Type} : DataW H := .agg [.lit (.string [97, 110, 100]), .lit (.string [97, 115, 115, 117, 109, 101]), .lit (.string [98, 111, 111, 108]), .lit (.string [98, 111, 117, 110, 100]), .lit (.string [99, 97, 115, 101]), .lit (.string [99, 101, 108, 108]), .lit (.string [99, 108, 97, 115, 115]), .lit (.string [100, 97, 116, 97]), .lit (.string [100, 101, 102]), .lit (.string [100, 105, 118]), .lit (.string [101, 108, 115, 101]), .lit (.string [101, 110, 100]), .lit (.string [102, 97, 108, 115, 101]), .lit (.string [102, 111, 114, 97, 108, 108]), .lit (.string [102, 117, 110]), .lit (.string [103, 101, 116]), .lit (.string [105, 102]), .lit (.string [105, 110]), .lit (.string [105, 110, 115, 116]), .lit (.string [105, 110, 116]), .lit (.string [105, 110, 118, 97, 114, 105, 97, 110, 116]), .lit (.string [108, 101, 116]), .lit (.string [109, 97, 116, 99, 104]), .lit (.string [109, 101, 97, 115, 117, 114, 101]), .lit (.string [109, 101, 116, 114, 105, 99]), .lit (.string [109, 111, 100]), .lit (.string [109, 117]), .lit (.string [110, 101, 119]), .lit (.string [110, 111, 116]), .lit (.string [111, 102]), .lit (.string [111, 114]), .lit (.string [113, 117, 97, 108]), .lit (.string [114, 101, 102, 108, 101, 99, 116]), .lit (.string [115, 101, 116]), .lit (.string [116, 104, 101, 110]), .lit (.string [116, 114, 117, 101]), .lit (.string [117, 115, 101]), .lit (.string [118]), .lit (.string [118, 97, 108]), .lit (.string [116, 97, 103]), .lit (.string [119, 104, 101, 114, 101]), .lit (.string [119, 105, 116, 104])]
def laid_liquidcheck_print_signs {H : Type} : DataW H := .agg [.lit (.string []), .lit (.string []), .lit (.string []), .lit (.string []), .lit (.string []), .lit (.string []), .lit (.string []), .lit (.string []), .lit (.string []), .lit (.string []), .lit (.string [43]), .lit (.string [45]), .lit (.string [42]), .lit (.string [100, 105, 118]), .lit (.string [109, 111, 100]), .lit (.string []), .lit (.string [61, 61]), .lit (.string [60]), .lit (.string [60, 61]), .lit (.string [38, 38]), .lit (.string [124, 124])]

/-- 'liquidchecklaw54.DependNames': WHATEVER THE INPUT: true; the input reads as it did. -/
def dependNamesSpec : ChangeSpec := { name := "dependNames", fn := fun _ => fun
  | [d1, d2] => { results := [.lit (.bool true)], args := [d1, d2] }
  | _ => none }
def dependNamesRow : OpenClaim := { program := "ytankopenjcbeeaagreatdoor", sum := "76a3edb194b90b89d7d221c1584f05024c72f868a44be1dcbf479f0c9dcfe2f8", func := "liquidcheck/liquidchecklaw54.DependNames", spec := "dependNames", inPlace := ["internal/abi.NoEscape", "internal/bytealg.MakeNoZero"], unfollowed := true, recurses := true, named := ["liquidcheck/names.keywords", "internal/strconv.uint64pow10", "math/bits.deBruijn32tab", "math/bits.deBruijn64tab", "liquidcheck/print.signs"], loops := true, apart := false, laid := [("math/bits.deBruijn32tab", laid_math_bits_deBruijn32tab), ("math/bits.deBruijn64tab", laid_math_bits_deBruijn64tab), ("internal/strconv.uint64pow10", laid_internal_strconv_uint64pow10), ("liquidcheck/names.keywords", laid_liquidcheck_names_keywords), ("liquidcheck/print.signs", laid_liquidcheck_print_signs)] }
def DependNamesSaid : Prop := dependNamesRow.holds Tryz.pinned (OpenSpec.ofChange dependNamesSpec)

/-- ITS FALSE NEIGHBOUR: 'it returns false'. Refute it at one input. -/
def dependNamesWrong : ChangeSpec := { name := "dependNames", fn := fun _ => fun
  | [d1, d2] => { results := [.lit (.bool false)], args := [d1, d2] }
  | _ => none }
def DependNamesWrongFalsely : Prop := dependNamesRow.holds Tryz.pinned (OpenSpec.ofChange dependNamesWrong)

/-- 'liquidchecklaw54.DependSums': WHATEVER THE INPUT: true; the input reads as it did. -/
def dependSumsSpec : ChangeSpec := { name := "dependSums", fn := fun _ => fun
  | [d] => { results := [.lit (.bool true)], args := [d] }
  | _ => none }
def dependSumsRow : OpenClaim := { program := "ytankopenjcbeeaagreatdoor", sum := "76a3edb194b90b89d7d221c1584f05024c72f868a44be1dcbf479f0c9dcfe2f8", func := "liquidcheck/liquidchecklaw54.DependSums", spec := "dependSums", inPlace := ["internal/abi.NoEscape", "internal/bytealg.MakeNoZero"], unfollowed := true, recurses := true, named := ["liquidcheck/names.keywords", "internal/strconv.uint64pow10", "math/bits.deBruijn32tab", "math/bits.deBruijn64tab", "liquidcheck/print.signs"], apart := false, laid := [("math/bits.deBruijn32tab", laid_math_bits_deBruijn32tab), ("math/bits.deBruijn64tab", laid_math_bits_deBruijn64tab), ("internal/strconv.uint64pow10", laid_internal_strconv_uint64pow10), ("liquidcheck/names.keywords", laid_liquidcheck_names_keywords), ("liquidcheck/print.signs", laid_liquidcheck_print_signs)] }
def DependSumsSaid : Prop := dependSumsRow.holds Tryz.pinned (OpenSpec.ofChange dependSumsSpec)

/-- ITS FALSE NEIGHBOUR: 'it returns false'. Refute it at one input. -/
def dependSumsWrong : ChangeSpec := { name := "dependSums", fn := fun _ => fun
  | [d] => { results := [.lit (.bool false)], args := [d] }
  | _ => none }
def DependSumsWrongFalsely : Prop := dependSumsRow.holds Tryz.pinned (OpenSpec.ofChange dependSumsWrong)

/-- 'liquidchecklaw54.DependChanges': WHATEVER THE INPUT: true; the input reads as it did. -/
def dependChangesSpec : ChangeSpec := { name := "dependChanges", fn := fun _ => fun
  | [d1, d2] => { results := [.lit (.bool true)], args := [d1, d2] }
  | _ => none }
def dependChangesRow : OpenClaim := { program := "ytankopenjcbeeaagreatdoor", sum := "76a3edb194b90b89d7d221c1584f05024c72f868a44be1dcbf479f0c9dcfe2f8", func := "liquidcheck/liquidchecklaw54.DependChanges", spec := "dependChanges", inPlace := ["internal/abi.NoEscape", "internal/bytealg.MakeNoZero"], unfollowed := true, recurses := true, named := ["liquidcheck/names.keywords", "internal/strconv.uint64pow10", "math/bits.deBruijn32tab", "math/bits.deBruijn64tab", "liquidcheck/print.signs"], loops := true, apart := false, laid := [("math/bits.deBruijn32tab", laid_math_bits_deBruijn32tab), ("math/bits.deBruijn64tab", laid_math_bits_deBruijn64tab), ("internal/strconv.uint64pow10", laid_internal_strconv_uint64pow10), ("liquidcheck/names.keywords", laid_liquidcheck_names_keywords), ("liquidcheck/print.signs", laid_liquidcheck_print_signs)] }
def DependChangesSaid : Prop := dependChangesRow.holds Tryz.pinned (OpenSpec.ofChange dependChangesSpec)

/-- ITS FALSE NEIGHBOUR: 'it returns false'. Refute it at one input. -/
def dependChangesWrong : ChangeSpec := { name := "dependChanges", fn := fun _ => fun
  | [d1, d2] => { results := [.lit (.bool false)], args := [d1, d2] }
  | _ => none }
def DependChangesWrongFalsely : Prop := dependChangesRow.holds Tryz.pinned (OpenSpec.ofChange dependChangesWrong)

/-- 'liquidchecklaw54.DependOrder': WHATEVER THE INPUT: true; the input reads as it did. -/
def dependOrderSpec : ChangeSpec := { name := "dependOrder", fn := fun _ => fun
  | [d] => { results := [.lit (.bool true)], args := [d] }
  | _ => none }
def dependOrderRow : OpenClaim := { program := "ytankopenjcbeeaagreatdoor", sum := "76a3edb194b90b89d7d221c1584f05024c72f868a44be1dcbf479f0c9dcfe2f8", func := "liquidcheck/liquidchecklaw54.DependOrder", spec := "dependOrder", inPlace := ["internal/abi.NoEscape", "internal/bytealg.MakeNoZero"], unfollowed := true, recurses := true, named := ["liquidcheck/names.keywords", "internal/strconv.uint64pow10", "math/bits.deBruijn32tab", "math/bits.deBruijn64tab", "liquidcheck/print.signs"], loops := true, apart := false, laid := [("math/bits.deBruijn32tab", laid_math_bits_deBruijn32tab), ("math/bits.deBruijn64tab", laid_math_bits_deBruijn64tab), ("internal/strconv.uint64pow10", laid_internal_strconv_uint64pow10), ("liquidcheck/names.keywords", laid_liquidcheck_names_keywords), ("liquidcheck/print.signs", laid_liquidcheck_print_signs)] }
def DependOrderSaid : Prop := dependOrderRow.holds Tryz.pinned (OpenSpec.ofChange dependOrderSpec)

/-- ITS FALSE NEIGHBOUR: 'it returns false'. Refute it at one input. -/
def dependOrderWrong : ChangeSpec := { name := "dependOrder", fn := fun _ => fun
  | [d] => { results := [.lit (.bool false)], args := [d] }
  | _ => none }
def DependOrderWrongFalsely : Prop := dependOrderRow.holds Tryz.pinned (OpenSpec.ofChange dependOrderWrong)

/-- 'liquidchecklaw54.DependBody': WHATEVER THE INPUT: true; the input reads as it did. -/
def dependBodySpec : ChangeSpec := { name := "dependBody", fn := fun _ => fun
  | [d1, d2, d3] => { results := [.lit (.bool true)], args := [d1, d2, d3] }
  | _ => none }
def dependBodyRow : OpenClaim := { program := "ytankopenjcbeeaagreatdoor", sum := "76a3edb194b90b89d7d221c1584f05024c72f868a44be1dcbf479f0c9dcfe2f8", func := "liquidcheck/liquidchecklaw54.DependBody", spec := "dependBody", inPlace := ["internal/abi.NoEscape", "internal/bytealg.MakeNoZero"], unfollowed := true, recurses := true, named := ["liquidcheck/names.keywords", "internal/strconv.uint64pow10", "math/bits.deBruijn32tab", "math/bits.deBruijn64tab", "liquidcheck/print.signs"], loops := true, apart := false, laid := [("math/bits.deBruijn32tab", laid_math_bits_deBruijn32tab), ("math/bits.deBruijn64tab", laid_math_bits_deBruijn64tab), ("internal/strconv.uint64pow10", laid_internal_strconv_uint64pow10), ("liquidcheck/names.keywords", laid_liquidcheck_names_keywords), ("liquidcheck/print.signs", laid_liquidcheck_print_signs)] }
def DependBodySaid : Prop := dependBodyRow.holds Tryz.pinned (OpenSpec.ofChange dependBodySpec)

/-- ITS FALSE NEIGHBOUR: 'it returns false'. Refute it at one input. -/
def dependBodyWrong : ChangeSpec := { name := "dependBody", fn := fun _ => fun
  | [d1, d2, d3] => { results := [.lit (.bool false)], args := [d1, d2, d3] }
  | _ => none }
def DependBodyWrongFalsely : Prop := dependBodyRow.holds Tryz.pinned (OpenSpec.ofChange dependBodyWrong)

/- THE SECOND FORM. 'bulk': how many values and letters a reading holds, each counted each time it is reached (what is shared counts as often as it is met; a slice's spare places count too). A statement '..UptoSaid' is the law's where the arguments, and the package variables that the reading takes, are together of bulk at most 1048576: NARROWER than '..Said'. Prove '..Said' where nothing that the law and all that it calls make is longer than what came in: it says more and counts as full. Else prove '..UptoSaid'. A law counts once. -/
mutual
def uptoBulk {H : Type} : DataW H → Nat
  | .lit (.string bytes) => bytes.length + 1
  | .lit _ => 1
  | .nil => 1
  | .ptr d => uptoBulk d + 1
  | .slice elems spare => uptoBulkAll elems + uptoBulkAll spare + 1
  | .agg parts => uptoBulkAll parts + 1
  | .iface _ d => uptoBulk d + 1
  | .map entries => uptoBulkEntries entries + 1
  | .held _ => 1
def uptoBulkAll {H : Type} : List (DataW H) → Nat
  | [] => 0
  | d :: r => uptoBulk d + uptoBulkAll r
def uptoBulkEntries {H : Type} : List (Lit × DataW H) → Nat
  | [] => 0
  | x :: r => uptoBulkEntry x + uptoBulkEntries r
def uptoBulkEntry {H : Type} : Lit × DataW H → Nat
  | (.string bytes, d) => bytes.length + uptoBulk d + 1
  | (_, d) => uptoBulk d + 1
 end
def uptoSmall : (H : Type) → List (DataW H) → Bool := fun _ ds => decide (uptoBulkAll ds ≤ 1048576)
def OpenSpec.upto (s : _root_.Go.ChangeSpec) : _root_.Go.OpenSpec := { _root_.Go.OpenSpec.ofChange s with cond := some uptoSmall }

/-- 'liquidchecklaw54.DependNames', WHERE WHAT IT READS IS OF BULK AT MOST 1048576: true; the input reads as it did. -/
def dependNamesUptoRow : OpenClaim := { program := "ytankopenjcbeeaagreatdoor", sum := "76a3edb194b90b89d7d221c1584f05024c72f868a44be1dcbf479f0c9dcfe2f8", func := "liquidcheck/liquidchecklaw54.DependNames", spec := "dependNames", inPlace := ["internal/abi.NoEscape", "internal/bytealg.MakeNoZero"], unfollowed := true, recurses := true, named := ["liquidcheck/names.keywords", "internal/strconv.uint64pow10", "math/bits.deBruijn32tab", "math/bits.deBruijn64tab", "liquidcheck/print.signs"], loops := true, apart := false, laid := [("math/bits.deBruijn32tab", laid_math_bits_deBruijn32tab), ("math/bits.deBruijn64tab", laid_math_bits_deBruijn64tab), ("internal/strconv.uint64pow10", laid_internal_strconv_uint64pow10), ("liquidcheck/names.keywords", laid_liquidcheck_names_keywords), ("liquidcheck/print.signs", laid_liquidcheck_print_signs)], narrowed := true }
def DependNamesUptoSaid : Prop := dependNamesUptoRow.holds Tryz.pinned (OpenSpec.upto dependNamesSpec)

/-- 'liquidchecklaw54.DependSums', WHERE WHAT IT READS IS OF BULK AT MOST 1048576: true; the input reads as it did. -/
def dependSumsUptoRow : OpenClaim := { program := "ytankopenjcbeeaagreatdoor", sum := "76a3edb194b90b89d7d221c1584f05024c72f868a44be1dcbf479f0c9dcfe2f8", func := "liquidcheck/liquidchecklaw54.DependSums", spec := "dependSums", inPlace := ["internal/abi.NoEscape", "internal/bytealg.MakeNoZero"], unfollowed := true, recurses := true, named := ["liquidcheck/names.keywords", "internal/strconv.uint64pow10", "math/bits.deBruijn32tab", "math/bits.deBruijn64tab", "liquidcheck/print.signs"], apart := false, laid := [("math/bits.deBruijn32tab", laid_math_bits_deBruijn32tab), ("math/bits.deBruijn64tab", laid_math_bits_deBruijn64tab), ("internal/strconv.uint64pow10", laid_internal_strconv_uint64pow10), ("liquidcheck/names.keywords", laid_liquidcheck_names_keywords), ("liquidcheck/print.signs", laid_liquidcheck_print_signs)], narrowed := true }
def DependSumsUptoSaid : Prop := dependSumsUptoRow.holds Tryz.pinned (OpenSpec.upto dependSumsSpec)

/-- 'liquidchecklaw54.DependChanges', WHERE WHAT IT READS IS OF BULK AT MOST 1048576: true; the input reads as it did. -/
def dependChangesUptoRow : OpenClaim := { program := "ytankopenjcbeeaagreatdoor", sum := "76a3edb194b90b89d7d221c1584f05024c72f868a44be1dcbf479f0c9dcfe2f8", func := "liquidcheck/liquidchecklaw54.DependChanges", spec := "dependChanges", inPlace := ["internal/abi.NoEscape", "internal/bytealg.MakeNoZero"], unfollowed := true, recurses := true, named := ["liquidcheck/names.keywords", "internal/strconv.uint64pow10", "math/bits.deBruijn32tab", "math/bits.deBruijn64tab", "liquidcheck/print.signs"], loops := true, apart := false, laid := [("math/bits.deBruijn32tab", laid_math_bits_deBruijn32tab), ("math/bits.deBruijn64tab", laid_math_bits_deBruijn64tab), ("internal/strconv.uint64pow10", laid_internal_strconv_uint64pow10), ("liquidcheck/names.keywords", laid_liquidcheck_names_keywords), ("liquidcheck/print.signs", laid_liquidcheck_print_signs)], narrowed := true }
def DependChangesUptoSaid : Prop := dependChangesUptoRow.holds Tryz.pinned (OpenSpec.upto dependChangesSpec)

/-- 'liquidchecklaw54.DependOrder', WHERE WHAT IT READS IS OF BULK AT MOST 1048576: true; the input reads as it did. -/
def dependOrderUptoRow : OpenClaim := { program := "ytankopenjcbeeaagreatdoor", sum := "76a3edb194b90b89d7d221c1584f05024c72f868a44be1dcbf479f0c9dcfe2f8", func := "liquidcheck/liquidchecklaw54.DependOrder", spec := "dependOrder", inPlace := ["internal/abi.NoEscape", "internal/bytealg.MakeNoZero"], unfollowed := true, recurses := true, named := ["liquidcheck/names.keywords", "internal/strconv.uint64pow10", "math/bits.deBruijn32tab", "math/bits.deBruijn64tab", "liquidcheck/print.signs"], loops := true, apart := false, laid := [("math/bits.deBruijn32tab", laid_math_bits_deBruijn32tab), ("math/bits.deBruijn64tab", laid_math_bits_deBruijn64tab), ("internal/strconv.uint64pow10", laid_internal_strconv_uint64pow10), ("liquidcheck/names.keywords", laid_liquidcheck_names_keywords), ("liquidcheck/print.signs", laid_liquidcheck_print_signs)], narrowed := true }
def DependOrderUptoSaid : Prop := dependOrderUptoRow.holds Tryz.pinned (OpenSpec.upto dependOrderSpec)

/-- 'liquidchecklaw54.DependBody', WHERE WHAT IT READS IS OF BULK AT MOST 1048576: true; the input reads as it did. -/
def dependBodyUptoRow : OpenClaim := { program := "ytankopenjcbeeaagreatdoor", sum := "76a3edb194b90b89d7d221c1584f05024c72f868a44be1dcbf479f0c9dcfe2f8", func := "liquidcheck/liquidchecklaw54.DependBody", spec := "dependBody", inPlace := ["internal/abi.NoEscape", "internal/bytealg.MakeNoZero"], unfollowed := true, recurses := true, named := ["liquidcheck/names.keywords", "internal/strconv.uint64pow10", "math/bits.deBruijn32tab", "math/bits.deBruijn64tab", "liquidcheck/print.signs"], loops := true, apart := false, laid := [("math/bits.deBruijn32tab", laid_math_bits_deBruijn32tab), ("math/bits.deBruijn64tab", laid_math_bits_deBruijn64tab), ("internal/strconv.uint64pow10", laid_internal_strconv_uint64pow10), ("liquidcheck/names.keywords", laid_liquidcheck_names_keywords), ("liquidcheck/print.signs", laid_liquidcheck_print_signs)], narrowed := true }
def DependBodyUptoSaid : Prop := dependBodyUptoRow.holds Tryz.pinned (OpenSpec.upto dependBodySpec)

end Rows
end Go.Proofs.YtankopenjcbeeaaGreatDoor
