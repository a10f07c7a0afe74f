/-
  WHAT IS PROVED: facts about the program's types and tables. Conditions: none. Printed by gen.py out of the seat's translation.
-/
import Derived.Test.YtgiimiklbabhcaaDoorSatE
import Derived.Test.YtgiimiklbabhcaaDoorChecked
namespace Go.Proofs.YtgiimiklbabhcaaDoor
open Go
set_option linter.unusedVariables false
set_option maxRecDepth 100000

noncomputable abbrev Pg := Tryd.prog
theorem mixed : Pg.follows .mixedOrders = true := by kernel_rfl
theorem co9 : Pg.cellsOf 9 = 1 := by kernel_rfl
theorem sT26 : SlT Pg 26 9 cS := ⟨Tryd.underlying26, fun _ => co9.symm, by kernel_rfl, by rw [co9]; decide, by kernel_rfl, of_decide_eq_true (by kernel_rfl), oneS, clS⟩
theorem co5 : Pg.cellsOf 5 = 1 := by kernel_rfl
theorem sT45 : SlT Pg 45 5 (cI .u8) := ⟨Tryd.underlying45, fun _ => co5.symm, by kernel_rfl, by rw [co5]; decide, by kernel_rfl, of_decide_eq_true (by kernel_rfl), (oneI .u8), (clI .u8)⟩
theorem sc9 : (Pg.underlying 9).any scalD = true := by kernel_rfl
theorem zv4 : pzeroV Pg 4 = some (PVal.bool false) := by kernel_rfl
def names_keywords : List Str := [([97, 110, 100] : Str), ([97, 115, 115, 117, 109, 101] : Str), ([98, 111, 111, 108] : Str), ([98, 111, 117, 110, 100] : Str), ([99, 97, 115, 101] : Str), ([99, 101, 108, 108] : Str), ([99, 108, 97, 115, 115] : Str), ([100, 97, 116, 97] : Str), ([100, 101, 102] : Str), ([100, 105, 118] : Str), ([101, 108, 115, 101] : Str), ([101, 110, 100] : Str), ([102, 97, 108, 115, 101] : Str), ([102, 111, 114, 97, 108, 108] : Str), ([102, 117, 110] : Str), ([103, 101, 116] : Str), ([105, 102] : Str), ([105, 110] : Str), ([105, 110, 115, 116] : Str), ([105, 110, 116] : Str), ([105, 110, 118, 97, 114, 105, 97, 110, 116] : Str), ([108, 101, 116] : Str), ([109, 97, 116, 99, 104] : Str), ([109, 101, 97, 115, 117, 114, 101] : Str), ([109, 101, 116, 114, 105, 99] : Str), ([109, 111, 100] : Str), ([109, 117] : Str), ([110, 101, 119] : Str), ([110, 111, 116] : Str), ([111, 102] : Str), ([111, 114] : Str), ([113, 117, 97, 108] : Str), ([114, 101, 102, 108, 101, 99, 116] : Str), ([115, 101, 116] : Str), ([116, 104, 101, 110] : Str), ([116, 114, 117, 101] : Str), ([117, 115, 101] : Str), ([118] : Str), ([118, 97, 108] : Str), ([116, 97, 103] : Str), ([119, 104, 101, 114, 101] : Str), ([119, 105, 116, 104] : Str)]
theorem co33 : Pg.cellsOf 33 = 42 := by kernel_rfl
theorem names_keywords_ld : plook Pg 33 (names_keywords.map PVal.str) = some (.agg (names_keywords.map PVal.str)) := by kernel_rfl
theorem names_keywords_ix {k : IntKind} {i : Int} {x : Str} (h : idx names_keywords i = some x) : pindex Pg 33 (.agg (names_keywords.map PVal.str)) (.int k i) = some (PVal.str x) := arrIx Tryd.underlying33 co9 (by kernel_rfl) (by kernel_rfl) (by kernel_rfl) h
def internal_strconv_uint64pow10 : List Int := [1, 10, 100, 1000, 10000, 100000, 1000000, 10000000, 100000000, 1000000000, 10000000000, 100000000000, 1000000000000, 10000000000000, 100000000000000, 1000000000000000, 10000000000000000, 100000000000000000, 1000000000000000000, 10000000000000000000]
theorem co75 : Pg.cellsOf 75 = 20 := by kernel_rfl
theorem co62 : Pg.cellsOf 62 = 1 := by kernel_rfl
theorem internal_strconv_uint64pow10_ld : plook Pg 75 (internal_strconv_uint64pow10.map (PVal.int .u64)) = some (.agg (internal_strconv_uint64pow10.map (PVal.int .u64))) := by kernel_rfl
theorem internal_strconv_uint64pow10_ix {k : IntKind} {i : Int} {x : Int} (h : idx internal_strconv_uint64pow10 i = some x) : pindex Pg 75 (.agg (internal_strconv_uint64pow10.map (PVal.int .u64))) (.int k i) = some ((PVal.int .u64) x) := arrIx Tryd.underlying75 co62 (by kernel_rfl) (by kernel_rfl) (by kernel_rfl) h
def math_bits_deBruijn32tab : List Int := [0, 1, 28, 2, 29, 14, 24, 3, 30, 22, 20, 15, 25, 17, 4, 8, 31, 27, 13, 23, 21, 19, 16, 7, 26, 12, 18, 6, 11, 5, 10, 9]
theorem co81 : Pg.cellsOf 81 = 32 := by kernel_rfl
theorem math_bits_deBruijn32tab_ld : plook Pg 81 (math_bits_deBruijn32tab.map (PVal.int .u8)) = some (.agg (math_bits_deBruijn32tab.map (PVal.int .u8))) := by kernel_rfl
theorem math_bits_deBruijn32tab_ix {k : IntKind} {i : Int} {x : Int} (h : idx math_bits_deBruijn32tab i = some x) : pindex Pg 81 (.agg (math_bits_deBruijn32tab.map (PVal.int .u8))) (.int k i) = some ((PVal.int .u8) x) := arrIx Tryd.underlying81 co5 (by kernel_rfl) (by kernel_rfl) (by kernel_rfl) h
def math_bits_deBruijn64tab : List Int := [0, 1, 56, 2, 57, 49, 28, 3, 61, 58, 42, 50, 38, 29, 17, 4, 62, 47, 59, 36, 45, 43, 51, 22, 53, 39, 33, 30, 24, 18, 12, 5, 63, 55, 48, 27, 60, 41, 37, 16, 46, 35, 44, 21, 52, 32, 23, 11, 54, 26, 40, 15, 34, 20, 31, 10, 25, 14, 19, 9, 13, 8, 7, 6]
theorem co82 : Pg.cellsOf 82 = 64 := by kernel_rfl
theorem math_bits_deBruijn64tab_ld : plook Pg 82 (math_bits_deBruijn64tab.map (PVal.int .u8)) = some (.agg (math_bits_deBruijn64tab.map (PVal.int .u8))) := by kernel_rfl
theorem math_bits_deBruijn64tab_ix {k : IntKind} {i : Int} {x : Int} (h : idx math_bits_deBruijn64tab i = some x) : pindex Pg 82 (.agg (math_bits_deBruijn64tab.map (PVal.int .u8))) (.int k i) = some ((PVal.int .u8) x) := arrIx Tryd.underlying82 co5 (by kernel_rfl) (by kernel_rfl) (by kernel_rfl) h
def GE : List (Nat × List PVal) := [(0, names_keywords.map PVal.str), (1, internal_strconv_uint64pow10.map (PVal.int .u64)), (2, math_bits_deBruijn32tab.map (PVal.int .u8)), (3, math_bits_deBruijn64tab.map (PVal.int .u8))]
end Go.Proofs.YtgiimiklbabhcaaDoor
