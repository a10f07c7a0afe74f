/-
  WHAT IS PROVED: what functions come to, as functions of plain data: names.Check, names.Core, names.Keyword, names.Title, names.alphanumeric, names.capital, names.cut, names.digit, names.errno, names.name, names.sized, names.small, names.title, names.word. Conditions: none. Printed by gen.py out of the seat's translation.
-/
import Derived.Test.YtgiimiklbabhcaaDoorGL
namespace Go.Proofs.YtgiimiklbabhcaaDoor
open Go
set_option linter.unusedVariables false
set_option maxRecDepth 100000

/-! liquidcheck/names.Keyword -/
noncomputable def b10 : Code := Tryd.f10.body.getD .skip
def A10 : List Nat := []
noncomputable def names_Keyword_L1_S (s : Str) (t6 : Int) : PSt := ⟨[.str s, u, u, u, u, .agg (names_keywords.map PVal.str), .int .i64 t6, u, u, u, u, u, u], [], []⟩
noncomputable def names_Keyword_L1_o0 (s : Str) (o : Unit) : PSt := ⟨[u, u, .bool true, u, u, u, u, u, u, u, u, u, u], [], []⟩
noncomputable def names_Keyword_L1_o1 (s : Str) (o : Unit) : PSt := ⟨[u, u, u, u, u, u, u, u, u, u, u, u, u], [], []⟩
noncomputable def names_Keyword_L1_e (o : (Unit) ⊕ (Unit)) : Exit := match o with
  | (.inl _) => .ret
  | (.inr _) => .exit 0
noncomputable def names_Keyword_L1_s (s : Str) (o : (Unit) ⊕ (Unit)) : PSt := match o with
  | (.inl o) => names_Keyword_L1_o0 s o
  | (.inr o) => names_Keyword_L1_o1 s o
noncomputable def names_Keyword_L1_b (s : Str) (t6 : Int) : Option ((Int) ⊕ ((Unit) ⊕ (Unit))) :=
  if (decide (t6 < 42)) = true then
    (idx names_keywords t6).bind fun x2 =>
    if (x2 == s) = true then
      some (.inr (.inl ()))
    else
      some (.inl (w64 (t6 + 1)))
  else
    some (.inr (.inr ()))
noncomputable def names_Keyword_L1 (s : Str) (t6 : Int) : Option ((Unit) ⊕ (Unit)) := loop (fun (zz : Int) => names_Keyword_L1_b s zz) t6
theorem names_Keyword_L1_bok (s : Str) (t6 : Int) {y : (Int) ⊕ ((Unit) ⊕ (Unit))} (h : names_Keyword_L1_b s t6 = some y) :
    Sat Pg GE 0 (codeAt b10 [true, false, true, true, true]) (LQ (fun (zz : Int) => names_Keyword_L1_S s zz) names_Keyword_L1_e (names_Keyword_L1_s s) y) (names_Keyword_L1_S s t6) := by
  rcases ifs h with ⟨c1, h⟩ | ⟨c1, h⟩
  · obtain ⟨x2, bx2, h⟩ := bnd h
    rcases ifs h with ⟨c3, h⟩ | ⟨c3, h⟩
    · obtain rfl := lf h
      exact over (A := A10) mixed [.g 0 true, .v (.str x2), .g 0 true] (by intro hx; cases hx) (Eq.mp (by kernel_rfl) (aI c1 <| aI (names_keywords_ix (k := .i64) bx2) <| aI c3 <| aI (rE (names_Keyword_L1_e (.inl ()))) <| fr (names_Keyword_L1_s s (.inl ()))))
    · obtain rfl := lf h
      exact next (A := A10) mixed [.g 0 true, .v (.str x2), .g 0 false] (Eq.mp (by kernel_rfl) (aI c1 <| aI (names_keywords_ix (k := .i64) bx2) <| aI c3 <| aI (rE .normal) <| fr (names_Keyword_L1_S s (w64 (t6 + 1)))))
  · obtain rfl := lf h
    exact over (A := A10) mixed [.g 0 false] (by intro hx; cases hx) (Eq.mp (by kernel_rfl) (aI c1 <| aI (rE (names_Keyword_L1_e (.inr ()))) <| fr (names_Keyword_L1_s s (.inr ()))))
theorem names_Keyword_L1_ok (s : Str) (t6 : Int) {x : (Unit) ⊕ (Unit)} (h : names_Keyword_L1 s t6 = some x) :
    Sat Pg GE 0 (.loop (codeAt b10 [true, false, true, true, true])) (EX (names_Keyword_L1_e x) (names_Keyword_L1_s s x)) (names_Keyword_L1_S s t6) :=
  Sat.loop (S := fun (zz : Int) => names_Keyword_L1_S s zz) h fun zz y hy => names_Keyword_L1_bok s zz hy
noncomputable def names_Keyword (s : Str) : Option (Bool) :=
  (names_Keyword_L1 s 0).bind fun o4 => match o4 with
  | (.inl o4) =>
    some true
  | (.inr o4) =>
    some false
theorem names_Keyword_ok {s : Str} {r : Bool} (h : names_Keyword s = some r) : CC Pg GE 10 [.str s] (.bool r) [] := by
  obtain ⟨o4, bo4, h⟩ := bnd h
  rcases o4 with o4 | o4
  · obtain rfl := lf h
    exact C.ev (A := A10) mixed Tryd.call10 Tryd.func10 (c := b10) rfl (aI trivial trivial) [.v (.agg (names_keywords.map PVal.str)), .pc (names_Keyword_L1_S s 0) (.ret) (names_Keyword_L1_s s (.inl o4))] (Eq.mp (by kernel_rfl) (aI names_keywords_ld <| aI (fr (names_Keyword_L1_S s 0)) <| aI (names_Keyword_L1_ok s 0 bo4) <| aI (rP (.bool true)) <| trivial))
  · obtain rfl := lf h
    exact C.ev (A := A10) mixed Tryd.call10 Tryd.func10 (c := b10) rfl (aI trivial trivial) [.v (.agg (names_keywords.map PVal.str)), .pc (names_Keyword_L1_S s 0) (.exit 0) (names_Keyword_L1_s s (.inr o4))] (Eq.mp (by kernel_rfl) (aI names_keywords_ld <| aI (fr (names_Keyword_L1_S s 0)) <| aI (names_Keyword_L1_ok s 0 bo4) <| aI (rP (.bool false)) <| trivial))

/-! liquidcheck/names.sized -/
noncomputable def b36 : Code := Tryd.f36.body.getD .skip
def A36 : List Nat := []
noncomputable def names_sized (s : Str) : Option (Bool) :=
  if (decide ((s.length : Int) ≥ 1)) = true then
    some (decide ((s.length : Int) ≤ 24))
  else
    some false
theorem names_sized_ok {s : Str} {r : Bool} (h : names_sized s = some r) : CC Pg GE 36 [.str s] (.bool r) [] := by
  rcases ifs h with ⟨c1, h⟩ | ⟨c1, h⟩
  · obtain rfl := lf h
    exact C.ev (A := A36) mixed Tryd.call36 Tryd.func36 (c := b36) rfl (aI trivial trivial) [.v (.int .i64 (s.length : Int)), .g 4 true, .v (.int .i64 (s.length : Int))] (Eq.mp (by kernel_rfl) (aI (strLn Tryd.underlying9 s) <| aI c1 <| aI (strLn Tryd.underlying9 s) <| aI (rP (.bool (decide ((s.length : Int) ≤ 24)))) <| trivial))
  · obtain rfl := lf h
    exact C.ev (A := A36) mixed Tryd.call36 Tryd.func36 (c := b36) rfl (aI trivial trivial) [.v (.int .i64 (s.length : Int)), .g 4 false] (Eq.mp (by kernel_rfl) (aI (strLn Tryd.underlying9 s) <| aI c1 <| aI (rP (.bool false)) <| trivial))

/-! liquidcheck/names.small -/
noncomputable def b47 : Code := Tryd.f47.body.getD .skip
def A47 : List Nat := []
noncomputable def names_small (c : Int) : Option (Bool) :=
  if (decide (97 ≤ c)) = true then
    some (decide (c ≤ 122))
  else
    some false
theorem names_small_ok {c : Int} {r : Bool} (h : names_small c = some r) : CC Pg GE 47 [.int .u8 c] (.bool r) [] := by
  rcases ifs h with ⟨c1, h⟩ | ⟨c1, h⟩
  · obtain rfl := lf h
    exact C.ev (A := A47) mixed Tryd.call47 Tryd.func47 (c := b47) rfl (aI trivial trivial) [.g 3 true] (Eq.mp (by kernel_rfl) (aI c1 <| aI (rP (.bool (decide (c ≤ 122)))) <| trivial))
  · obtain rfl := lf h
    exact C.ev (A := A47) mixed Tryd.call47 Tryd.func47 (c := b47) rfl (aI trivial trivial) [.g 3 false] (Eq.mp (by kernel_rfl) (aI c1 <| aI (rP (.bool false)) <| trivial))

/-! liquidcheck/names.digit -/
noncomputable def b48 : Code := Tryd.f48.body.getD .skip
def A48 : List Nat := []
noncomputable def names_digit (c : Int) : Option (Bool) :=
  if (decide (48 ≤ c)) = true then
    some (decide (c ≤ 57))
  else
    some false
theorem names_digit_ok {c : Int} {r : Bool} (h : names_digit c = some r) : CC Pg GE 48 [.int .u8 c] (.bool r) [] := by
  rcases ifs h with ⟨c1, h⟩ | ⟨c1, h⟩
  · obtain rfl := lf h
    exact C.ev (A := A48) mixed Tryd.call48 Tryd.func48 (c := b48) rfl (aI trivial trivial) [.g 3 true] (Eq.mp (by kernel_rfl) (aI c1 <| aI (rP (.bool (decide (c ≤ 57)))) <| trivial))
  · obtain rfl := lf h
    exact C.ev (A := A48) mixed Tryd.call48 Tryd.func48 (c := b48) rfl (aI trivial trivial) [.g 3 false] (Eq.mp (by kernel_rfl) (aI c1 <| aI (rP (.bool false)) <| trivial))

/-! liquidcheck/names.name -/
noncomputable def b30 : Code := Tryd.f30.body.getD .skip
def A30 : List Nat := []
noncomputable def names_name_J1_S (s : Str) : PSt := ⟨[.str s, u, u, u, u, u, u, u, u, u, u, u, u, u, u, u, u, u, u, u, u, u, u, u, u, u, u, u, u, u, u, u, u, u, u, u, u, u, u, u, u], [], []⟩
noncomputable def names_name_J1_o0 (s : Str) (o : Bool) : PSt := ⟨[.str s, u, u, u, u, u, u, u, u, u, u, u, u, u, u, u, .bool o, u, u, u, u, u, u, u, u, u, u, u, u, u, u, u, u, u, u, u, u, u, u, u, u], [], []⟩
noncomputable def names_name_J1_e (_ : (Bool)) : Exit := .normal
noncomputable def names_name_J1_s (s : Str) (o : (Bool)) : PSt := names_name_J1_o0 s o
noncomputable def names_name_J1 (s : Str) : Option ((Bool)) :=
  (names_sized s).bind fun r1 =>
  if (!r1) = true then
    some true
  else
    (idxS s 0).bind fun c3 =>
    (names_small c3).bind fun r4 =>
    if (!r4) = true then
      some true
    else
      (names_Keyword s).bind fun r6 =>
      some r6
theorem names_name_J1_ok (s : Str) {x : (Bool)} (h : names_name_J1 s = some x) :
    Sat Pg GE 0 (codeAt b30 [true, false, false]) (EX (names_name_J1_e x) (names_name_J1_s s x)) (names_name_J1_S s) := by
  obtain ⟨r1, br1, h⟩ := bnd h
  rcases ifs h with ⟨c2, h⟩ | ⟨c2, h⟩
  · obtain rfl := lf h
    exact piece (A := A30) mixed [.c (.bool r1) [], .g 4 true] (Eq.mp (by kernel_rfl) (aI (names_sized_ok br1) <| aI c2 <| aI (rE (names_name_J1_e true)) <| fr (names_name_J1_s s true)))
  · obtain ⟨c3, bc3, h⟩ := bnd h
    obtain ⟨r4, br4, h⟩ := bnd h
    rcases ifs h with ⟨c5, h⟩ | ⟨c5, h⟩
    · obtain rfl := lf h
      exact piece (A := A30) mixed [.c (.bool r1) [], .g 4 false, .v (.int .u8 c3), .c (.bool r4) [], .g 10 true] (Eq.mp (by kernel_rfl) (aI (names_sized_ok br1) <| aI c2 <| aI (strIx (k := .i64) Tryd.underlying9 bc3) <| aI (names_small_ok br4) <| aI c5 <| aI (rE (names_name_J1_e true)) <| fr (names_name_J1_s s true)))
    · obtain ⟨r6, br6, h⟩ := bnd h
      obtain rfl := lf h
      exact piece (A := A30) mixed [.c (.bool r1) [], .g 4 false, .v (.int .u8 c3), .c (.bool r4) [], .g 10 false, .c (.bool r6) []] (Eq.mp (by kernel_rfl) (aI (names_sized_ok br1) <| aI c2 <| aI (strIx (k := .i64) Tryd.underlying9 bc3) <| aI (names_small_ok br4) <| aI c5 <| aI (names_Keyword_ok br6) <| aI (rE (names_name_J1_e r6)) <| fr (names_name_J1_s s r6)))
noncomputable def names_name_L2_S (s : Str) (i : Int) : PSt := ⟨[.str s, u, u, .int .i64 i, u, u, u, u, u, u, u, u, u, u, u, u, u, u, u, u, u, u, u, u, u, u, u, u, u, u, u, u, u, u, u, u, u, u, u, u, u], [], []⟩
noncomputable def names_name_L2_o0 (s : Str) (o : Unit) : PSt := ⟨[u, u, .bool false, u, u, u, u, u, u, u, u, u, u, u, u, u, u, u, u, u, u, u, u, u, u, u, u, u, u, u, u, u, u, u, u, u, u, u, u, u, u], [], []⟩
noncomputable def names_name_L2_o1 (s : Str) (o : Unit) : PSt := ⟨[u, u, u, u, u, u, u, u, u, u, u, u, u, u, u, u, u, u, u, u, u, u, u, u, u, u, u, u, u, u, u, u, u, u, u, u, u, u, u, u, u], [], []⟩
noncomputable def names_name_L2_e (o : (Unit) ⊕ (Unit)) : Exit := match o with
  | (.inl _) => .ret
  | (.inr _) => .exit 0
noncomputable def names_name_L2_s (s : Str) (o : (Unit) ⊕ (Unit)) : PSt := match o with
  | (.inl o) => names_name_L2_o0 s o
  | (.inr o) => names_name_L2_o1 s o
noncomputable def names_name_J3_S (s : Str) (i : Int) : PSt := ⟨[.str s, u, u, .int .i64 i, u, u, u, u, u, u, u, u, u, u, u, u, u, u, u, u, u, u, u, u, u, u, u, u, u, u, u, u, u, u, u, u, u, u, u, u, u], [], []⟩
noncomputable def names_name_J3_o0 (s : Str) (i : Int) (o : Bool) : PSt := ⟨[.str s, u, u, .int .i64 i, u, u, u, u, u, u, u, u, u, u, u, u, u, u, u, u, u, u, u, u, u, u, u, u, u, u, u, u, u, u, u, u, u, u, u, u, .bool o], [], []⟩
noncomputable def names_name_J3_e (_ : (Bool)) : Exit := .normal
noncomputable def names_name_J3_s (s : Str) (i : Int) (o : (Bool)) : PSt := names_name_J3_o0 s i o
noncomputable def names_name_J3 (s : Str) (i : Int) : Option ((Bool)) :=
  (idxS s i).bind fun c10 =>
  (names_small c10).bind fun r11 =>
  if (!r11) = true then
    (idxS s i).bind fun c13 =>
    (names_digit c13).bind fun r14 =>
    if (!r14) = true then
      (idxS s i).bind fun c16 =>
      some (c16 != 95)
    else
      some false
  else
    some false
theorem names_name_J3_ok (s : Str) (i : Int) {x : (Bool)} (h : names_name_J3 s i = some x) :
    Sat Pg GE 0 (codeAt b30 [true, true, false, true, true, true, true, false, true, false]) (EX (names_name_J3_e x) (names_name_J3_s s i x)) (names_name_J3_S s i) := by
  obtain ⟨c10, bc10, h⟩ := bnd h
  obtain ⟨r11, br11, h⟩ := bnd h
  rcases ifs h with ⟨c12, h⟩ | ⟨c12, h⟩
  · obtain ⟨c13, bc13, h⟩ := bnd h
    obtain ⟨r14, br14, h⟩ := bnd h
    rcases ifs h with ⟨c15, h⟩ | ⟨c15, h⟩
    · obtain ⟨c16, bc16, h⟩ := bnd h
      obtain rfl := lf h
      exact piece (A := A30) mixed [.v (.int .u8 c10), .c (.bool r11) [], .g 6 true, .v (.int .u8 c13), .c (.bool r14) [], .g 13 true, .v (.int .u8 c16)] (Eq.mp (by kernel_rfl) (aI (strIx (k := .i64) Tryd.underlying9 bc10) <| aI (names_small_ok br11) <| aI c12 <| aI (strIx (k := .i64) Tryd.underlying9 bc13) <| aI (names_digit_ok br14) <| aI c15 <| aI (strIx (k := .i64) Tryd.underlying9 bc16) <| aI (rE (names_name_J3_e (c16 != 95))) <| fr (names_name_J3_s s i (c16 != 95))))
    · obtain rfl := lf h
      exact piece (A := A30) mixed [.v (.int .u8 c10), .c (.bool r11) [], .g 6 true, .v (.int .u8 c13), .c (.bool r14) [], .g 13 false] (Eq.mp (by kernel_rfl) (aI (strIx (k := .i64) Tryd.underlying9 bc10) <| aI (names_small_ok br11) <| aI c12 <| aI (strIx (k := .i64) Tryd.underlying9 bc13) <| aI (names_digit_ok br14) <| aI c15 <| aI (rE (names_name_J3_e false)) <| fr (names_name_J3_s s i false)))
  · obtain rfl := lf h
    exact piece (A := A30) mixed [.v (.int .u8 c10), .c (.bool r11) [], .g 6 false] (Eq.mp (by kernel_rfl) (aI (strIx (k := .i64) Tryd.underlying9 bc10) <| aI (names_small_ok br11) <| aI c12 <| aI (rE (names_name_J3_e false)) <| fr (names_name_J3_s s i false)))
noncomputable def names_name_L2_b (s : Str) (i : Int) : Option ((Int) ⊕ ((Unit) ⊕ (Unit))) :=
  if (decide (i < (s.length : Int))) = true then
    (names_name_J3 s i).bind fun o17 =>
    if o17 = true then
      some (.inr (.inl ()))
    else
      some (.inl (w64 (i + 1)))
  else
    some (.inr (.inr ()))
noncomputable def names_name_L2 (s : Str) (i : Int) : Option ((Unit) ⊕ (Unit)) := loop (fun (zz : Int) => names_name_L2_b s zz) i
theorem names_name_L2_bok (s : Str) (i : Int) {y : (Int) ⊕ ((Unit) ⊕ (Unit))} (h : names_name_L2_b s i = some y) :
    Sat Pg GE 0 (codeAt b30 [true, true, false, true, true, true]) (LQ (fun (zz : Int) => names_name_L2_S s zz) names_name_L2_e (names_name_L2_s s) y) (names_name_L2_S s i) := by
  rcases ifs h with ⟨c9, h⟩ | ⟨c9, h⟩
  · obtain ⟨o17, bo17, h⟩ := bnd h
    rcases ifs h with ⟨c18, h⟩ | ⟨c18, h⟩
    · obtain rfl := lf h
      exact over (A := A30) mixed [.v (.int .i64 (s.length : Int)), .g 0 true, .pa 1, .pc (names_name_J3_S s i) (.normal) (names_name_J3_s s i o17), .g 0 true] (by intro hx; cases hx) (Eq.mp (by kernel_rfl) (aI (strLn Tryd.underlying9 s) <| aI c9 <| aI (fr (names_name_J3_S s i)) <| aI (names_name_J3_ok s i bo17) <| aI c18 <| aI (rE (names_name_L2_e (.inl ()))) <| fr (names_name_L2_s s (.inl ()))))
    · obtain rfl := lf h
      exact next (A := A30) mixed [.v (.int .i64 (s.length : Int)), .g 0 true, .pa 1, .pc (names_name_J3_S s i) (.normal) (names_name_J3_s s i o17), .g 0 false] (Eq.mp (by kernel_rfl) (aI (strLn Tryd.underlying9 s) <| aI c9 <| aI (fr (names_name_J3_S s i)) <| aI (names_name_J3_ok s i bo17) <| aI c18 <| aI (rE .normal) <| fr (names_name_L2_S s (w64 (i + 1)))))
  · obtain rfl := lf h
    exact over (A := A30) mixed [.v (.int .i64 (s.length : Int)), .g 0 false] (by intro hx; cases hx) (Eq.mp (by kernel_rfl) (aI (strLn Tryd.underlying9 s) <| aI c9 <| aI (rE (names_name_L2_e (.inr ()))) <| fr (names_name_L2_s s (.inr ()))))
theorem names_name_L2_ok (s : Str) (i : Int) {x : (Unit) ⊕ (Unit)} (h : names_name_L2 s i = some x) :
    Sat Pg GE 0 (.loop (codeAt b30 [true, true, false, true, true, true])) (EX (names_name_L2_e x) (names_name_L2_s s x)) (names_name_L2_S s i) :=
  Sat.loop (S := fun (zz : Int) => names_name_L2_S s zz) h fun zz y hy => names_name_L2_bok s zz hy
noncomputable def names_name (s : Str) : Option (Bool) :=
  (names_name_J1 s).bind fun o7 =>
  if o7 = true then
    some false
  else
    (names_name_L2 s 1).bind fun o19 => match o19 with
    | (.inl o19) =>
      some false
    | (.inr o19) =>
      some true
theorem names_name_ok {s : Str} {r : Bool} (h : names_name s = some r) : CC Pg GE 30 [.str s] (.bool r) [] := by
  obtain ⟨o7, bo7, h⟩ := bnd h
  rcases ifs h with ⟨c8, h⟩ | ⟨c8, h⟩
  · obtain rfl := lf h
    exact C.ev (A := A30) mixed Tryd.call30 Tryd.func30 (c := b30) rfl (aI trivial trivial) [.pa 2, .pc (names_name_J1_S s) (.normal) (names_name_J1_s s o7), .g 0 true] (Eq.mp (by kernel_rfl) (aI (fr (names_name_J1_S s)) <| aI (names_name_J1_ok s bo7) <| aI c8 <| aI (rP (.bool false)) <| trivial))
  · obtain ⟨o19, bo19, h⟩ := bnd h
    rcases o19 with o19 | o19
    · obtain rfl := lf h
      exact C.ev (A := A30) mixed Tryd.call30 Tryd.func30 (c := b30) rfl (aI trivial trivial) [.pa 2, .pc (names_name_J1_S s) (.normal) (names_name_J1_s s o7), .g 0 false, .pc (names_name_L2_S s 1) (.ret) (names_name_L2_s s (.inl o19))] (Eq.mp (by kernel_rfl) (aI (fr (names_name_J1_S s)) <| aI (names_name_J1_ok s bo7) <| aI c8 <| aI (fr (names_name_L2_S s 1)) <| aI (names_name_L2_ok s 1 bo19) <| aI (rP (.bool false)) <| trivial))
    · obtain rfl := lf h
      exact C.ev (A := A30) mixed Tryd.call30 Tryd.func30 (c := b30) rfl (aI trivial trivial) [.pa 2, .pc (names_name_J1_S s) (.normal) (names_name_J1_s s o7), .g 0 false, .pc (names_name_L2_S s 1) (.exit 0) (names_name_L2_s s (.inr o19))] (Eq.mp (by kernel_rfl) (aI (fr (names_name_J1_S s)) <| aI (names_name_J1_ok s bo7) <| aI c8 <| aI (fr (names_name_L2_S s 1)) <| aI (names_name_L2_ok s 1 bo19) <| aI (rP (.bool true)) <| trivial))

/-! liquidcheck/names.errno -/
noncomputable def b29 : Code := Tryd.f29.body.getD .skip
def A29 : List Nat := []
noncomputable def names_errno (ok : Bool) : Option (Int) :=
  if ok = true then
    some 0
  else
    some 3
theorem names_errno_ok {ok : Bool} {r : Int} (h : names_errno ok = some r) : CC Pg GE 29 [.bool ok] (.int .i64 r) [] := by
  rcases ifs h with ⟨c1, h⟩ | ⟨c1, h⟩
  · obtain rfl := lf h
    exact C.ev (A := A29) mixed Tryd.call29 Tryd.func29 (c := b29) rfl (aI trivial trivial) [.g 0 true] (Eq.mp (by kernel_rfl) (aI c1 <| aI (rP (.int .i64 0)) <| trivial))
  · obtain rfl := lf h
    exact C.ev (A := A29) mixed Tryd.call29 Tryd.func29 (c := b29) rfl (aI trivial trivial) [.g 0 false] (Eq.mp (by kernel_rfl) (aI c1 <| aI (rP (.int .i64 3)) <| trivial))

/-! liquidcheck/names.Check -/
noncomputable def b12 : Code := Tryd.f12.body.getD .skip
def A12 : List Nat := []
noncomputable def names_Check (s : Str) : Option (Int) :=
  (names_name s).bind fun r1 =>
  (names_errno r1).bind fun r2 =>
  some r2
theorem names_Check_ok {s : Str} {r : Int} (h : names_Check s = some r) : CC Pg GE 12 [.str s] (.int .i64 r) [] := by
  obtain ⟨r1, br1, h⟩ := bnd h
  obtain ⟨r2, br2, h⟩ := bnd h
  obtain rfl := lf h
  exact C.ev (A := A12) mixed Tryd.call12 Tryd.func12 (c := b12) rfl (aI trivial trivial) [.c (.bool r1) [], .c (.int .i64 r2) []] (Eq.mp (by kernel_rfl) (aI (names_name_ok br1) <| aI (names_errno_ok br2) <| aI (rP (.int .i64 r2)) <| trivial))

/-! liquidcheck/names.capital -/
noncomputable def b49 : Code := Tryd.f49.body.getD .skip
def A49 : List Nat := []
noncomputable def names_capital (c : Int) : Option (Bool) :=
  if (decide (65 ≤ c)) = true then
    some (decide (c ≤ 90))
  else
    some false
theorem names_capital_ok {c : Int} {r : Bool} (h : names_capital c = some r) : CC Pg GE 49 [.int .u8 c] (.bool r) [] := by
  rcases ifs h with ⟨c1, h⟩ | ⟨c1, h⟩
  · obtain rfl := lf h
    exact C.ev (A := A49) mixed Tryd.call49 Tryd.func49 (c := b49) rfl (aI trivial trivial) [.g 3 true] (Eq.mp (by kernel_rfl) (aI c1 <| aI (rP (.bool (decide (c ≤ 90)))) <| trivial))
  · obtain rfl := lf h
    exact C.ev (A := A49) mixed Tryd.call49 Tryd.func49 (c := b49) rfl (aI trivial trivial) [.g 3 false] (Eq.mp (by kernel_rfl) (aI c1 <| aI (rP (.bool false)) <| trivial))

/-! liquidcheck/names.alphanumeric -/
noncomputable def b37 : Code := Tryd.f37.body.getD .skip
def A37 : List Nat := []
noncomputable def names_alphanumeric_L1_S (s : Str) (i : Int) : PSt := ⟨[.str s, u, u, .int .i64 i, u, u, u, u, u, u, u, u, u, u, u, u, u, u, u, u, u, u, u, u, u, u, u, u, u], [], []⟩
noncomputable def names_alphanumeric_L1_o0 (s : Str) (o : Unit) : PSt := ⟨[u, u, .bool false, u, u, u, u, u, u, u, u, u, u, u, u, u, u, u, u, u, u, u, u, u, u, u, u, u, u], [], []⟩
noncomputable def names_alphanumeric_L1_o1 (s : Str) (o : Unit) : PSt := ⟨[u, u, u, u, u, u, u, u, u, u, u, u, u, u, u, u, u, u, u, u, u, u, u, u, u, u, u, u, u], [], []⟩
noncomputable def names_alphanumeric_L1_e (o : (Unit) ⊕ (Unit)) : Exit := match o with
  | (.inl _) => .ret
  | (.inr _) => .exit 0
noncomputable def names_alphanumeric_L1_s (s : Str) (o : (Unit) ⊕ (Unit)) : PSt := match o with
  | (.inl o) => names_alphanumeric_L1_o0 s o
  | (.inr o) => names_alphanumeric_L1_o1 s o
noncomputable def names_alphanumeric_J2_S (s : Str) (i : Int) : PSt := ⟨[.str s, u, u, .int .i64 i, u, u, u, u, u, u, u, u, u, u, u, u, u, u, u, u, u, u, u, u, u, u, u, u, u], [], []⟩
noncomputable def names_alphanumeric_J2_o0 (s : Str) (i : Int) (o : Bool) : PSt := ⟨[.str s, u, u, .int .i64 i, u, u, u, u, u, u, u, u, u, u, u, u, u, u, u, u, u, u, u, u, u, u, u, u, .bool o], [], []⟩
noncomputable def names_alphanumeric_J2_e (_ : (Bool)) : Exit := .normal
noncomputable def names_alphanumeric_J2_s (s : Str) (i : Int) (o : (Bool)) : PSt := names_alphanumeric_J2_o0 s i o
noncomputable def names_alphanumeric_J2 (s : Str) (i : Int) : Option ((Bool)) :=
  (idxS s i).bind fun c2 =>
  (names_small c2).bind fun r3 =>
  if (!r3) = true then
    (idxS s i).bind fun c5 =>
    (names_capital c5).bind fun r6 =>
    if (!r6) = true then
      (idxS s i).bind fun c8 =>
      (names_digit c8).bind fun r9 =>
      some (!r9)
    else
      some false
  else
    some false
theorem names_alphanumeric_J2_ok (s : Str) (i : Int) {x : (Bool)} (h : names_alphanumeric_J2 s i = some x) :
    Sat Pg GE 0 (codeAt b37 [true, false, true, true, true, true, false, true, false]) (EX (names_alphanumeric_J2_e x) (names_alphanumeric_J2_s s i x)) (names_alphanumeric_J2_S s i) := by
  obtain ⟨c2, bc2, h⟩ := bnd h
  obtain ⟨r3, br3, h⟩ := bnd h
  rcases ifs h with ⟨c4, h⟩ | ⟨c4, h⟩
  · obtain ⟨c5, bc5, h⟩ := bnd h
    obtain ⟨r6, br6, h⟩ := bnd h
    rcases ifs h with ⟨c7, h⟩ | ⟨c7, h⟩
    · obtain ⟨c8, bc8, h⟩ := bnd h
      obtain ⟨r9, br9, h⟩ := bnd h
      obtain rfl := lf h
      exact piece (A := A37) mixed [.v (.int .u8 c2), .c (.bool r3) [], .g 6 true, .v (.int .u8 c5), .c (.bool r6) [], .g 13 true, .v (.int .u8 c8), .c (.bool r9) []] (Eq.mp (by kernel_rfl) (aI (strIx (k := .i64) Tryd.underlying9 bc2) <| aI (names_small_ok br3) <| aI c4 <| aI (strIx (k := .i64) Tryd.underlying9 bc5) <| aI (names_capital_ok br6) <| aI c7 <| aI (strIx (k := .i64) Tryd.underlying9 bc8) <| aI (names_digit_ok br9) <| aI (rE (names_alphanumeric_J2_e (!r9))) <| fr (names_alphanumeric_J2_s s i (!r9))))
    · obtain rfl := lf h
      exact piece (A := A37) mixed [.v (.int .u8 c2), .c (.bool r3) [], .g 6 true, .v (.int .u8 c5), .c (.bool r6) [], .g 13 false] (Eq.mp (by kernel_rfl) (aI (strIx (k := .i64) Tryd.underlying9 bc2) <| aI (names_small_ok br3) <| aI c4 <| aI (strIx (k := .i64) Tryd.underlying9 bc5) <| aI (names_capital_ok br6) <| aI c7 <| aI (rE (names_alphanumeric_J2_e false)) <| fr (names_alphanumeric_J2_s s i false)))
  · obtain rfl := lf h
    exact piece (A := A37) mixed [.v (.int .u8 c2), .c (.bool r3) [], .g 6 false] (Eq.mp (by kernel_rfl) (aI (strIx (k := .i64) Tryd.underlying9 bc2) <| aI (names_small_ok br3) <| aI c4 <| aI (rE (names_alphanumeric_J2_e false)) <| fr (names_alphanumeric_J2_s s i false)))
noncomputable def names_alphanumeric_L1_b (s : Str) (i : Int) : Option ((Int) ⊕ ((Unit) ⊕ (Unit))) :=
  if (decide (i < (s.length : Int))) = true then
    (names_alphanumeric_J2 s i).bind fun o10 =>
    if o10 = true then
      some (.inr (.inl ()))
    else
      some (.inl (w64 (i + 1)))
  else
    some (.inr (.inr ()))
noncomputable def names_alphanumeric_L1 (s : Str) (i : Int) : Option ((Unit) ⊕ (Unit)) := loop (fun (zz : Int) => names_alphanumeric_L1_b s zz) i
theorem names_alphanumeric_L1_bok (s : Str) (i : Int) {y : (Int) ⊕ ((Unit) ⊕ (Unit))} (h : names_alphanumeric_L1_b s i = some y) :
    Sat Pg GE 0 (codeAt b37 [true, false, true, true, true]) (LQ (fun (zz : Int) => names_alphanumeric_L1_S s zz) names_alphanumeric_L1_e (names_alphanumeric_L1_s s) y) (names_alphanumeric_L1_S s i) := by
  rcases ifs h with ⟨c1, h⟩ | ⟨c1, h⟩
  · obtain ⟨o10, bo10, h⟩ := bnd h
    rcases ifs h with ⟨c11, h⟩ | ⟨c11, h⟩
    · obtain rfl := lf h
      exact over (A := A37) mixed [.v (.int .i64 (s.length : Int)), .g 0 true, .pa 1, .pc (names_alphanumeric_J2_S s i) (.normal) (names_alphanumeric_J2_s s i o10), .g 0 true] (by intro hx; cases hx) (Eq.mp (by kernel_rfl) (aI (strLn Tryd.underlying9 s) <| aI c1 <| aI (fr (names_alphanumeric_J2_S s i)) <| aI (names_alphanumeric_J2_ok s i bo10) <| aI c11 <| aI (rE (names_alphanumeric_L1_e (.inl ()))) <| fr (names_alphanumeric_L1_s s (.inl ()))))
    · obtain rfl := lf h
      exact next (A := A37) mixed [.v (.int .i64 (s.length : Int)), .g 0 true, .pa 1, .pc (names_alphanumeric_J2_S s i) (.normal) (names_alphanumeric_J2_s s i o10), .g 0 false] (Eq.mp (by kernel_rfl) (aI (strLn Tryd.underlying9 s) <| aI c1 <| aI (fr (names_alphanumeric_J2_S s i)) <| aI (names_alphanumeric_J2_ok s i bo10) <| aI c11 <| aI (rE .normal) <| fr (names_alphanumeric_L1_S s (w64 (i + 1)))))
  · obtain rfl := lf h
    exact over (A := A37) mixed [.v (.int .i64 (s.length : Int)), .g 0 false] (by intro hx; cases hx) (Eq.mp (by kernel_rfl) (aI (strLn Tryd.underlying9 s) <| aI c1 <| aI (rE (names_alphanumeric_L1_e (.inr ()))) <| fr (names_alphanumeric_L1_s s (.inr ()))))
theorem names_alphanumeric_L1_ok (s : Str) (i : Int) {x : (Unit) ⊕ (Unit)} (h : names_alphanumeric_L1 s i = some x) :
    Sat Pg GE 0 (.loop (codeAt b37 [true, false, true, true, true])) (EX (names_alphanumeric_L1_e x) (names_alphanumeric_L1_s s x)) (names_alphanumeric_L1_S s i) :=
  Sat.loop (S := fun (zz : Int) => names_alphanumeric_L1_S s zz) h fun zz y hy => names_alphanumeric_L1_bok s zz hy
noncomputable def names_alphanumeric (s : Str) : Option (Bool) :=
  (names_alphanumeric_L1 s 0).bind fun o12 => match o12 with
  | (.inl o12) =>
    some false
  | (.inr o12) =>
    some true
theorem names_alphanumeric_ok {s : Str} {r : Bool} (h : names_alphanumeric s = some r) : CC Pg GE 37 [.str s] (.bool r) [] := by
  obtain ⟨o12, bo12, h⟩ := bnd h
  rcases o12 with o12 | o12
  · obtain rfl := lf h
    exact C.ev (A := A37) mixed Tryd.call37 Tryd.func37 (c := b37) rfl (aI trivial trivial) [.pc (names_alphanumeric_L1_S s 0) (.ret) (names_alphanumeric_L1_s s (.inl o12))] (Eq.mp (by kernel_rfl) (aI (fr (names_alphanumeric_L1_S s 0)) <| aI (names_alphanumeric_L1_ok s 0 bo12) <| aI (rP (.bool false)) <| trivial))
  · obtain rfl := lf h
    exact C.ev (A := A37) mixed Tryd.call37 Tryd.func37 (c := b37) rfl (aI trivial trivial) [.pc (names_alphanumeric_L1_S s 0) (.exit 0) (names_alphanumeric_L1_s s (.inr o12))] (Eq.mp (by kernel_rfl) (aI (fr (names_alphanumeric_L1_S s 0)) <| aI (names_alphanumeric_L1_ok s 0 bo12) <| aI (rP (.bool true)) <| trivial))

/-! liquidcheck/names.title -/
noncomputable def b33 : Code := Tryd.f33.body.getD .skip
def A33 : List Nat := []
noncomputable def names_title_J1_S (s : Str) : PSt := ⟨[.str s, u, u, u, u, u, u, u, u, u, u, u, u, u, u, u, u, u, u, u, u, u, u, u, u, u, u, u, u, u, u], [], []⟩
noncomputable def names_title_J1_o0 (s : Str) (o : Bool) : PSt := ⟨[.str s, u, u, u, u, u, u, u, u, u, u, u, u, u, u, u, .bool o, u, u, u, u, u, u, u, u, u, u, u, u, u, u], [], []⟩
noncomputable def names_title_J1_e (_ : (Bool)) : Exit := .normal
noncomputable def names_title_J1_s (s : Str) (o : (Bool)) : PSt := names_title_J1_o0 s o
noncomputable def names_title_J1 (s : Str) : Option ((Bool)) :=
  (names_sized s).bind fun r1 =>
  if (!r1) = true then
    some true
  else
    (idxS s 0).bind fun c3 =>
    (names_capital c3).bind fun r4 =>
    if (!r4) = true then
      some true
    else
      (names_alphanumeric s).bind fun r6 =>
      some (!r6)
theorem names_title_J1_ok (s : Str) {x : (Bool)} (h : names_title_J1 s = some x) :
    Sat Pg GE 0 (codeAt b33 [true, false, false]) (EX (names_title_J1_e x) (names_title_J1_s s x)) (names_title_J1_S s) := by
  obtain ⟨r1, br1, h⟩ := bnd h
  rcases ifs h with ⟨c2, h⟩ | ⟨c2, h⟩
  · obtain rfl := lf h
    exact piece (A := A33) mixed [.c (.bool r1) [], .g 4 true] (Eq.mp (by kernel_rfl) (aI (names_sized_ok br1) <| aI c2 <| aI (rE (names_title_J1_e true)) <| fr (names_title_J1_s s true)))
  · obtain ⟨c3, bc3, h⟩ := bnd h
    obtain ⟨r4, br4, h⟩ := bnd h
    rcases ifs h with ⟨c5, h⟩ | ⟨c5, h⟩
    · obtain rfl := lf h
      exact piece (A := A33) mixed [.c (.bool r1) [], .g 4 false, .v (.int .u8 c3), .c (.bool r4) [], .g 10 true] (Eq.mp (by kernel_rfl) (aI (names_sized_ok br1) <| aI c2 <| aI (strIx (k := .i64) Tryd.underlying9 bc3) <| aI (names_capital_ok br4) <| aI c5 <| aI (rE (names_title_J1_e true)) <| fr (names_title_J1_s s true)))
    · obtain ⟨r6, br6, h⟩ := bnd h
      obtain rfl := lf h
      exact piece (A := A33) mixed [.c (.bool r1) [], .g 4 false, .v (.int .u8 c3), .c (.bool r4) [], .g 10 false, .c (.bool r6) []] (Eq.mp (by kernel_rfl) (aI (names_sized_ok br1) <| aI c2 <| aI (strIx (k := .i64) Tryd.underlying9 bc3) <| aI (names_capital_ok br4) <| aI c5 <| aI (names_alphanumeric_ok br6) <| aI (rE (names_title_J1_e (!r6))) <| fr (names_title_J1_s s (!r6))))
noncomputable def names_title (s : Str) : Option (Bool) :=
  (names_title_J1 s).bind fun o7 =>
  if o7 = true then
    some false
  else
    if (!(s == ([73, 110, 116] : Str))) = true then
      if (!(s == ([66, 111, 111, 108] : Str))) = true then
        if (!(s == ([67, 101, 108, 108] : Str))) = true then
          some (!(s == ([70, 117, 110] : Str)))
        else
          some false
      else
        some false
    else
      some false
theorem names_title_ok {s : Str} {r : Bool} (h : names_title s = some r) : CC Pg GE 33 [.str s] (.bool r) [] := by
  obtain ⟨o7, bo7, h⟩ := bnd h
  rcases ifs h with ⟨c8, h⟩ | ⟨c8, h⟩
  · obtain rfl := lf h
    exact C.ev (A := A33) mixed Tryd.call33 Tryd.func33 (c := b33) rfl (aI trivial trivial) [.pa 2, .pc (names_title_J1_S s) (.normal) (names_title_J1_s s o7), .g 0 true] (Eq.mp (by kernel_rfl) (aI (fr (names_title_J1_S s)) <| aI (names_title_J1_ok s bo7) <| aI c8 <| aI (rP (.bool false)) <| trivial))
  · rcases ifs h with ⟨c9, h⟩ | ⟨c9, h⟩
    · rcases ifs h with ⟨c10, h⟩ | ⟨c10, h⟩
      · rcases ifs h with ⟨c11, h⟩ | ⟨c11, h⟩
        · obtain rfl := lf h
          exact C.ev (A := A33) mixed Tryd.call33 Tryd.func33 (c := b33) rfl (aI trivial trivial) [.pa 2, .pc (names_title_J1_S s) (.normal) (names_title_J1_s s o7), .g 0 false, .g 3 true, .g 7 true, .g 11 true] (Eq.mp (by kernel_rfl) (aI (fr (names_title_J1_S s)) <| aI (names_title_J1_ok s bo7) <| aI c8 <| aI c9 <| aI c10 <| aI c11 <| aI (rP (.bool (!(s == ([70, 117, 110] : Str))))) <| trivial))
        · obtain rfl := lf h
          exact C.ev (A := A33) mixed Tryd.call33 Tryd.func33 (c := b33) rfl (aI trivial trivial) [.pa 2, .pc (names_title_J1_S s) (.normal) (names_title_J1_s s o7), .g 0 false, .g 3 true, .g 7 true, .g 11 false] (Eq.mp (by kernel_rfl) (aI (fr (names_title_J1_S s)) <| aI (names_title_J1_ok s bo7) <| aI c8 <| aI c9 <| aI c10 <| aI c11 <| aI (rP (.bool false)) <| trivial))
      · obtain rfl := lf h
        exact C.ev (A := A33) mixed Tryd.call33 Tryd.func33 (c := b33) rfl (aI trivial trivial) [.pa 2, .pc (names_title_J1_S s) (.normal) (names_title_J1_s s o7), .g 0 false, .g 3 true, .g 7 false] (Eq.mp (by kernel_rfl) (aI (fr (names_title_J1_S s)) <| aI (names_title_J1_ok s bo7) <| aI c8 <| aI c9 <| aI c10 <| aI (rP (.bool false)) <| trivial))
    · obtain rfl := lf h
      exact C.ev (A := A33) mixed Tryd.call33 Tryd.func33 (c := b33) rfl (aI trivial trivial) [.pa 2, .pc (names_title_J1_S s) (.normal) (names_title_J1_s s o7), .g 0 false, .g 3 false] (Eq.mp (by kernel_rfl) (aI (fr (names_title_J1_S s)) <| aI (names_title_J1_ok s bo7) <| aI c8 <| aI c9 <| aI (rP (.bool false)) <| trivial))

/-! liquidcheck/names.Title -/
noncomputable def b14 : Code := Tryd.f14.body.getD .skip
def A14 : List Nat := []
noncomputable def names_Title (s : Str) : Option (Int) :=
  (names_title s).bind fun r1 =>
  (names_errno r1).bind fun r2 =>
  some r2
theorem names_Title_ok {s : Str} {r : Int} (h : names_Title s = some r) : CC Pg GE 14 [.str s] (.int .i64 r) [] := by
  obtain ⟨r1, br1, h⟩ := bnd h
  obtain ⟨r2, br2, h⟩ := bnd h
  obtain rfl := lf h
  exact C.ev (A := A14) mixed Tryd.call14 Tryd.func14 (c := b14) rfl (aI trivial trivial) [.c (.bool r1) [], .c (.int .i64 r2) []] (Eq.mp (by kernel_rfl) (aI (names_title_ok br1) <| aI (names_errno_ok br2) <| aI (rP (.int .i64 r2)) <| trivial))

/-! liquidcheck/names.cut -/
noncomputable def b35 : Code := Tryd.f35.body.getD .skip
def A35 : List Nat := [23]
noncomputable def names_cut_L1_S (s : Str) (i : Int) : PSt := ⟨[.str s, u, u, u, u, .int .i64 i, u, u, u, u, u, u, u, u, u, u, u, u, u, u, u, u, u, u], [], []⟩
noncomputable def names_cut_L1_o0 (s : Str) (o : Str × Str) : PSt := ⟨[u, u, .str o.1, .str o.2, .bool true, u, u, u, u, u, u, u, u, u, u, u, u, u, u, u, u, u, u, u], [], []⟩
noncomputable def names_cut_L1_o1 (s : Str) (o : Unit) : PSt := ⟨[.str s, u, u, u, u, u, u, u, u, u, u, u, u, u, u, u, u, u, u, u, u, u, u, u], [], []⟩
noncomputable def names_cut_L1_e (o : (Str × Str) ⊕ (Unit)) : Exit := match o with
  | (.inl _) => .ret
  | (.inr _) => .exit 0
noncomputable def names_cut_L1_s (s : Str) (o : (Str × Str) ⊕ (Unit)) : PSt := match o with
  | (.inl o) => names_cut_L1_o0 s o
  | (.inr o) => names_cut_L1_o1 s o
noncomputable def names_cut_L1_b (s : Str) (i : Int) : Option ((Int) ⊕ ((Str × Str) ⊕ (Unit))) :=
  if (decide (i < (s.length : Int))) = true then
    (idxS s i).bind fun c2 =>
    if (c2 == 46) = true then
      (slc s none (some i)).bind fun s4 =>
      (slc s (some (w64 (i + 1))) none).bind fun s5 =>
      some (.inr (.inl (s4, s5)))
    else
      some (.inl (w64 (i + 1)))
  else
    some (.inr (.inr ()))
noncomputable def names_cut_L1 (s : Str) (i : Int) : Option ((Str × Str) ⊕ (Unit)) := loop (fun (zz : Int) => names_cut_L1_b s zz) i
theorem names_cut_L1_bok (s : Str) (i : Int) {y : (Int) ⊕ ((Str × Str) ⊕ (Unit))} (h : names_cut_L1_b s i = some y) :
    Sat Pg GE 0 (codeAt b35 [true, false, true, true, true]) (LQ (fun (zz : Int) => names_cut_L1_S s zz) names_cut_L1_e (names_cut_L1_s s) y) (names_cut_L1_S s i) := by
  rcases ifs h with ⟨c1, h⟩ | ⟨c1, h⟩
  · obtain ⟨c2, bc2, h⟩ := bnd h
    rcases ifs h with ⟨c3, h⟩ | ⟨c3, h⟩
    · obtain ⟨s4, bs4, h⟩ := bnd h
      obtain ⟨s5, bs5, h⟩ := bnd h
      obtain rfl := lf h
      exact over (A := A35) mixed [.v (.int .i64 (s.length : Int)), .g 0 true, .v (.int .u8 c2), .g 0 true, .dr [0, 0, 3, 0, 0, 16, 56, 7, 255, 511], .v (.str s4), .v (.str s5)] (by intro hx; cases hx) (Eq.mp (by kernel_rfl) (aI (strLn Tryd.underlying9 s) <| aI c1 <| aI (strIx (k := .i64) Tryd.underlying9 bc2) <| aI c3 <| aI (strSc Tryd.underlying9 bs4) <| aI (strSc Tryd.underlying9 bs5) <| aI (rE (names_cut_L1_e (.inl (s4, s5)))) <| fr (names_cut_L1_s s (.inl (s4, s5)))))
    · obtain rfl := lf h
      exact next (A := A35) mixed [.v (.int .i64 (s.length : Int)), .g 0 true, .v (.int .u8 c2), .g 0 false] (Eq.mp (by kernel_rfl) (aI (strLn Tryd.underlying9 s) <| aI c1 <| aI (strIx (k := .i64) Tryd.underlying9 bc2) <| aI c3 <| aI (rE .normal) <| fr (names_cut_L1_S s (w64 (i + 1)))))
  · obtain rfl := lf h
    exact over (A := A35) mixed [.v (.int .i64 (s.length : Int)), .g 0 false] (by intro hx; cases hx) (Eq.mp (by kernel_rfl) (aI (strLn Tryd.underlying9 s) <| aI c1 <| aI (rE (names_cut_L1_e (.inr ()))) <| fr (names_cut_L1_s s (.inr ()))))
theorem names_cut_L1_ok (s : Str) (i : Int) {x : (Str × Str) ⊕ (Unit)} (h : names_cut_L1 s i = some x) :
    Sat Pg GE 0 (.loop (codeAt b35 [true, false, true, true, true])) (EX (names_cut_L1_e x) (names_cut_L1_s s x)) (names_cut_L1_S s i) :=
  Sat.loop (S := fun (zz : Int) => names_cut_L1_S s zz) h fun zz y hy => names_cut_L1_bok s zz hy
noncomputable def names_cut (s : Str) : Option (Str × Str × Bool) :=
  (names_cut_L1 s 0).bind fun o6 => match o6 with
  | (.inl o6) =>
    some (o6.1, o6.2, true)
  | (.inr o6) =>
    some (s, ([] : Str), false)
theorem names_cut_ok {s : Str} {r : Str × Str × Bool} (h : names_cut s = some r) : CC Pg GE 35 [.str s] (.tuple [.str r.1, .str r.2.1, .bool r.2.2]) [] := by
  obtain ⟨o6, bo6, h⟩ := bnd h
  rcases o6 with o6 | o6
  · obtain rfl := lf h
    exact C.ev (A := A35) mixed Tryd.call35 Tryd.func35 (c := b35) rfl (aI trivial trivial) [.pc (names_cut_L1_S s 0) (.ret) (names_cut_L1_s s (.inl o6))] (Eq.mp (by kernel_rfl) (aI (fr (names_cut_L1_S s 0)) <| aI (names_cut_L1_ok s 0 bo6) <| aI (rP (.tuple [.str o6.1, .str o6.2, .bool true])) <| (aI trivial (aI trivial (aI trivial trivial)))))
  · obtain rfl := lf h
    exact C.ev (A := A35) mixed Tryd.call35 Tryd.func35 (c := b35) rfl (aI trivial trivial) [.pc (names_cut_L1_S s 0) (.exit 0) (names_cut_L1_s s (.inr o6))] (Eq.mp (by kernel_rfl) (aI (fr (names_cut_L1_S s 0)) <| aI (names_cut_L1_ok s 0 bo6) <| aI (rP (.tuple [.str s, .str ([] : Str), .bool false])) <| (aI trivial (aI trivial (aI trivial trivial)))))

/-! liquidcheck/names.word -/
noncomputable def b38 : Code := Tryd.f38.body.getD .skip
def A38 : List Nat := []
noncomputable def names_word_L1_S (s : Str) (i : Int) : PSt := ⟨[.str s, u, u, .int .i64 i, u, u, u, u, u, u, u, u, u, u, u, u, u, u, u, u, u, u, u, u, u, u, u, u, u, u, u, u], [], []⟩
noncomputable def names_word_L1_o0 (s : Str) (o : Unit) : PSt := ⟨[u, u, .bool false, u, u, u, u, u, u, u, u, u, u, u, u, u, u, u, u, u, u, u, u, u, u, u, u, u, u, u, u, u], [], []⟩
noncomputable def names_word_L1_o1 (s : Str) (o : Unit) : PSt := ⟨[u, u, u, u, u, u, u, u, u, u, u, u, u, u, u, u, u, u, u, u, u, u, u, u, u, u, u, u, u, u, u, u], [], []⟩
noncomputable def names_word_L1_e (o : (Unit) ⊕ (Unit)) : Exit := match o with
  | (.inl _) => .ret
  | (.inr _) => .exit 0
noncomputable def names_word_L1_s (s : Str) (o : (Unit) ⊕ (Unit)) : PSt := match o with
  | (.inl o) => names_word_L1_o0 s o
  | (.inr o) => names_word_L1_o1 s o
noncomputable def names_word_J2_S (s : Str) (i : Int) : PSt := ⟨[.str s, u, u, .int .i64 i, u, u, u, u, u, u, u, u, u, u, u, u, u, u, u, u, u, u, u, u, u, u, u, u, u, u, u, u], [], []⟩
noncomputable def names_word_J2_o0 (s : Str) (i : Int) (o : Bool) : PSt := ⟨[.str s, u, u, .int .i64 i, u, u, u, u, u, u, u, u, u, u, u, u, u, u, u, u, u, u, u, u, u, u, u, u, u, u, u, .bool o], [], []⟩
noncomputable def names_word_J2_e (_ : (Bool)) : Exit := .normal
noncomputable def names_word_J2_s (s : Str) (i : Int) (o : (Bool)) : PSt := names_word_J2_o0 s i o
noncomputable def names_word_J2 (s : Str) (i : Int) : Option ((Bool)) :=
  (idxS s i).bind fun c2 =>
  (names_small c2).bind fun r3 =>
  if (!r3) = true then
    if (i == 0) = true then
      some true
    else
      (idxS s i).bind fun c6 =>
      (names_digit c6).bind fun r7 =>
      if (!r7) = true then
        (idxS s i).bind fun c9 =>
        some (c9 != 95)
      else
        some false
  else
    some false
theorem names_word_J2_ok (s : Str) (i : Int) {x : (Bool)} (h : names_word_J2 s i = some x) :
    Sat Pg GE 0 (codeAt b38 [true, false, true, true, true, true, false, true, false]) (EX (names_word_J2_e x) (names_word_J2_s s i x)) (names_word_J2_S s i) := by
  obtain ⟨c2, bc2, h⟩ := bnd h
  obtain ⟨r3, br3, h⟩ := bnd h
  rcases ifs h with ⟨c4, h⟩ | ⟨c4, h⟩
  · rcases ifs h with ⟨c5, h⟩ | ⟨c5, h⟩
    · obtain rfl := lf h
      exact piece (A := A38) mixed [.v (.int .u8 c2), .c (.bool r3) [], .g 6 true, .g 9 true] (Eq.mp (by kernel_rfl) (aI (strIx (k := .i64) Tryd.underlying9 bc2) <| aI (names_small_ok br3) <| aI c4 <| aI c5 <| aI (rE (names_word_J2_e true)) <| fr (names_word_J2_s s i true)))
    · obtain ⟨c6, bc6, h⟩ := bnd h
      obtain ⟨r7, br7, h⟩ := bnd h
      rcases ifs h with ⟨c8, h⟩ | ⟨c8, h⟩
      · obtain ⟨c9, bc9, h⟩ := bnd h
        obtain rfl := lf h
        exact piece (A := A38) mixed [.v (.int .u8 c2), .c (.bool r3) [], .g 6 true, .g 9 false, .v (.int .u8 c6), .c (.bool r7) [], .g 15 true, .v (.int .u8 c9)] (Eq.mp (by kernel_rfl) (aI (strIx (k := .i64) Tryd.underlying9 bc2) <| aI (names_small_ok br3) <| aI c4 <| aI c5 <| aI (strIx (k := .i64) Tryd.underlying9 bc6) <| aI (names_digit_ok br7) <| aI c8 <| aI (strIx (k := .i64) Tryd.underlying9 bc9) <| aI (rE (names_word_J2_e (c9 != 95))) <| fr (names_word_J2_s s i (c9 != 95))))
      · obtain rfl := lf h
        exact piece (A := A38) mixed [.v (.int .u8 c2), .c (.bool r3) [], .g 6 true, .g 9 false, .v (.int .u8 c6), .c (.bool r7) [], .g 15 false] (Eq.mp (by kernel_rfl) (aI (strIx (k := .i64) Tryd.underlying9 bc2) <| aI (names_small_ok br3) <| aI c4 <| aI c5 <| aI (strIx (k := .i64) Tryd.underlying9 bc6) <| aI (names_digit_ok br7) <| aI c8 <| aI (rE (names_word_J2_e false)) <| fr (names_word_J2_s s i false)))
  · obtain rfl := lf h
    exact piece (A := A38) mixed [.v (.int .u8 c2), .c (.bool r3) [], .g 6 false] (Eq.mp (by kernel_rfl) (aI (strIx (k := .i64) Tryd.underlying9 bc2) <| aI (names_small_ok br3) <| aI c4 <| aI (rE (names_word_J2_e false)) <| fr (names_word_J2_s s i false)))
noncomputable def names_word_L1_b (s : Str) (i : Int) : Option ((Int) ⊕ ((Unit) ⊕ (Unit))) :=
  if (decide (i < (s.length : Int))) = true then
    (names_word_J2 s i).bind fun o10 =>
    if o10 = true then
      some (.inr (.inl ()))
    else
      some (.inl (w64 (i + 1)))
  else
    some (.inr (.inr ()))
noncomputable def names_word_L1 (s : Str) (i : Int) : Option ((Unit) ⊕ (Unit)) := loop (fun (zz : Int) => names_word_L1_b s zz) i
theorem names_word_L1_bok (s : Str) (i : Int) {y : (Int) ⊕ ((Unit) ⊕ (Unit))} (h : names_word_L1_b s i = some y) :
    Sat Pg GE 0 (codeAt b38 [true, false, true, true, true]) (LQ (fun (zz : Int) => names_word_L1_S s zz) names_word_L1_e (names_word_L1_s s) y) (names_word_L1_S s i) := by
  rcases ifs h with ⟨c1, h⟩ | ⟨c1, h⟩
  · obtain ⟨o10, bo10, h⟩ := bnd h
    rcases ifs h with ⟨c11, h⟩ | ⟨c11, h⟩
    · obtain rfl := lf h
      exact over (A := A38) mixed [.v (.int .i64 (s.length : Int)), .g 0 true, .pa 1, .pc (names_word_J2_S s i) (.normal) (names_word_J2_s s i o10), .g 0 true] (by intro hx; cases hx) (Eq.mp (by kernel_rfl) (aI (strLn Tryd.underlying9 s) <| aI c1 <| aI (fr (names_word_J2_S s i)) <| aI (names_word_J2_ok s i bo10) <| aI c11 <| aI (rE (names_word_L1_e (.inl ()))) <| fr (names_word_L1_s s (.inl ()))))
    · obtain rfl := lf h
      exact next (A := A38) mixed [.v (.int .i64 (s.length : Int)), .g 0 true, .pa 1, .pc (names_word_J2_S s i) (.normal) (names_word_J2_s s i o10), .g 0 false] (Eq.mp (by kernel_rfl) (aI (strLn Tryd.underlying9 s) <| aI c1 <| aI (fr (names_word_J2_S s i)) <| aI (names_word_J2_ok s i bo10) <| aI c11 <| aI (rE .normal) <| fr (names_word_L1_S s (w64 (i + 1)))))
  · obtain rfl := lf h
    exact over (A := A38) mixed [.v (.int .i64 (s.length : Int)), .g 0 false] (by intro hx; cases hx) (Eq.mp (by kernel_rfl) (aI (strLn Tryd.underlying9 s) <| aI c1 <| aI (rE (names_word_L1_e (.inr ()))) <| fr (names_word_L1_s s (.inr ()))))
theorem names_word_L1_ok (s : Str) (i : Int) {x : (Unit) ⊕ (Unit)} (h : names_word_L1 s i = some x) :
    Sat Pg GE 0 (.loop (codeAt b38 [true, false, true, true, true])) (EX (names_word_L1_e x) (names_word_L1_s s x)) (names_word_L1_S s i) :=
  Sat.loop (S := fun (zz : Int) => names_word_L1_S s zz) h fun zz y hy => names_word_L1_bok s zz hy
noncomputable def names_word (s : Str) : Option (Bool) :=
  (names_word_L1 s 0).bind fun o12 => match o12 with
  | (.inl o12) =>
    some false
  | (.inr o12) =>
    some true
theorem names_word_ok {s : Str} {r : Bool} (h : names_word s = some r) : CC Pg GE 38 [.str s] (.bool r) [] := by
  obtain ⟨o12, bo12, h⟩ := bnd h
  rcases o12 with o12 | o12
  · obtain rfl := lf h
    exact C.ev (A := A38) mixed Tryd.call38 Tryd.func38 (c := b38) rfl (aI trivial trivial) [.pc (names_word_L1_S s 0) (.ret) (names_word_L1_s s (.inl o12))] (Eq.mp (by kernel_rfl) (aI (fr (names_word_L1_S s 0)) <| aI (names_word_L1_ok s 0 bo12) <| aI (rP (.bool false)) <| trivial))
  · obtain rfl := lf h
    exact C.ev (A := A38) mixed Tryd.call38 Tryd.func38 (c := b38) rfl (aI trivial trivial) [.pc (names_word_L1_S s 0) (.exit 0) (names_word_L1_s s (.inr o12))] (Eq.mp (by kernel_rfl) (aI (fr (names_word_L1_S s 0)) <| aI (names_word_L1_ok s 0 bo12) <| aI (rP (.bool true)) <| trivial))

/-! liquidcheck/names.Core -/
noncomputable def b16 : Code := Tryd.f16.body.getD .skip
def A16 : List Nat := []
noncomputable def names_Core_J1_S (first : Str) (rest : Str) (more : Bool) : PSt := ⟨[u, u, u, .str first, .str rest, .bool more, u, u, u, u, u, u, u, u, u, u, u, u, u, u, u, u, u, u, u, u, u, u, u, u, u, u, u, u, u, u, u, u, u, u, u, u, u, u, u, u, u, u, u, u, u, u], [], []⟩
noncomputable def names_Core_J1_o0 (first : Str) (rest : Str) (more : Bool) (o : Bool) : PSt := ⟨[u, u, u, u, .str rest, .bool more, u, u, u, u, u, u, u, u, u, u, u, u, u, u, u, u, u, u, u, u, u, u, u, u, u, .bool o, u, u, u, u, u, u, u, u, u, u, u, u, u, u, u, u, u, u, u, u], [], []⟩
noncomputable def names_Core_J1_e (_ : (Bool)) : Exit := .normal
noncomputable def names_Core_J1_s (first : Str) (rest : Str) (more : Bool) (o : (Bool)) : PSt := names_Core_J1_o0 first rest more o
noncomputable def names_Core_J1 (first : Str) (more : Bool) : Option ((Bool)) :=
  (names_name first).bind fun r3 =>
  if (!r3) = true then
    (names_title first).bind fun r5 =>
    if (!r5) = true then
      if (!(first == ([118] : Str))) = true then
        some true
      else
        some (!more)
    else
      some false
  else
    some false
theorem names_Core_J1_ok (first : Str) (rest : Str) (more : Bool) {x : (Bool)} (h : names_Core_J1 first more = some x) :
    Sat Pg GE 0 (codeAt b16 [true, true, true, false, false]) (EX (names_Core_J1_e x) (names_Core_J1_s first rest more x)) (names_Core_J1_S first rest more) := by
  obtain ⟨r3, br3, h⟩ := bnd h
  rcases ifs h with ⟨c4, h⟩ | ⟨c4, h⟩
  · obtain ⟨r5, br5, h⟩ := bnd h
    rcases ifs h with ⟨c6, h⟩ | ⟨c6, h⟩
    · rcases ifs h with ⟨c7, h⟩ | ⟨c7, h⟩
      · obtain rfl := lf h
        exact piece (A := A16) mixed [.c (.bool r3) [], .g 4 true, .c (.bool r5) [], .g 9 true, .g 12 true] (Eq.mp (by kernel_rfl) (aI (names_name_ok br3) <| aI c4 <| aI (names_title_ok br5) <| aI c6 <| aI c7 <| aI (rE (names_Core_J1_e true)) <| fr (names_Core_J1_s first rest more true)))
      · obtain rfl := lf h
        exact piece (A := A16) mixed [.c (.bool r3) [], .g 4 true, .c (.bool r5) [], .g 9 true, .g 12 false] (Eq.mp (by kernel_rfl) (aI (names_name_ok br3) <| aI c4 <| aI (names_title_ok br5) <| aI c6 <| aI c7 <| aI (rE (names_Core_J1_e (!more))) <| fr (names_Core_J1_s first rest more (!more))))
    · obtain rfl := lf h
      exact piece (A := A16) mixed [.c (.bool r3) [], .g 4 true, .c (.bool r5) [], .g 9 false] (Eq.mp (by kernel_rfl) (aI (names_name_ok br3) <| aI c4 <| aI (names_title_ok br5) <| aI c6 <| aI (rE (names_Core_J1_e false)) <| fr (names_Core_J1_s first rest more false)))
  · obtain rfl := lf h
    exact piece (A := A16) mixed [.c (.bool r3) [], .g 4 false] (Eq.mp (by kernel_rfl) (aI (names_name_ok br3) <| aI c4 <| aI (rE (names_Core_J1_e false)) <| fr (names_Core_J1_s first rest more false)))
noncomputable def names_Core_L2_S (rest : Str) (more : Bool) : PSt := ⟨[u, u, u, u, .str rest, .bool more, u, u, u, u, u, u, u, u, u, u, u, u, u, u, u, u, u, u, u, u, u, u, u, u, u, u, u, u, u, u, u, u, u, u, u, u, u, u, u, u, u, u, u, u, u, u], [], []⟩
noncomputable def names_Core_L2_o0 (o : Unit) : PSt := ⟨[u, u, .int .i64 3, u, u, u, u, u, u, u, u, u, u, u, u, u, u, u, u, u, u, u, u, u, u, u, u, u, u, u, u, u, u, u, u, u, u, u, u, u, u, u, u, u, u, u, u, u, u, u, u, u], [], []⟩
noncomputable def names_Core_L2_o1 (o : Unit) : PSt := ⟨[u, u, u, u, u, u, u, u, u, u, u, u, u, u, u, u, u, u, u, u, u, u, u, u, u, u, u, u, u, u, u, u, u, u, u, u, u, u, u, u, u, u, u, u, u, u, u, u, u, u, u, u], [], []⟩
noncomputable def names_Core_L2_e (o : (Unit) ⊕ (Unit)) : Exit := match o with
  | (.inl _) => .ret
  | (.inr _) => .exit 0
noncomputable def names_Core_L2_s (o : (Unit) ⊕ (Unit)) : PSt := match o with
  | (.inl o) => names_Core_L2_o0 o
  | (.inr o) => names_Core_L2_o1 o
noncomputable def names_Core_J3_S (rest : Str) (more : Bool) (part : Str) : PSt := ⟨[u, u, u, u, .str rest, .bool more, .str part, u, u, u, u, u, u, u, u, u, u, u, u, u, u, u, u, u, u, u, u, u, u, u, u, u, u, u, u, u, u, u, u, u, u, u, u, u, u, u, u, u, u, u, u, u], [], []⟩
noncomputable def names_Core_J3_o0 (rest : Str) (more : Bool) (part : Str) (o : Bool) : PSt := ⟨[u, u, u, u, .str rest, .bool more, u, u, u, u, u, u, u, u, u, u, u, u, u, u, u, u, u, u, u, u, u, u, u, u, u, u, u, u, u, u, u, u, u, u, u, u, u, u, u, u, u, u, u, u, u, .bool o], [], []⟩
noncomputable def names_Core_J3_e (_ : (Bool)) : Exit := .normal
noncomputable def names_Core_J3_s (rest : Str) (more : Bool) (part : Str) (o : (Bool)) : PSt := names_Core_J3_o0 rest more part o
noncomputable def names_Core_J3 (part : Str) : Option ((Bool)) :=
  (names_sized part).bind fun r12 =>
  if (!r12) = true then
    some true
  else
    (names_alphanumeric part).bind fun r14 =>
    if (!r14) = true then
      (names_word part).bind fun r16 =>
      some (!r16)
    else
      some false
theorem names_Core_J3_ok (rest : Str) (more : Bool) (part : Str) {x : (Bool)} (h : names_Core_J3 part = some x) :
    Sat Pg GE 0 (codeAt b16 [true, true, true, true, false, true, true, true, true, true, true, false]) (EX (names_Core_J3_e x) (names_Core_J3_s rest more part x)) (names_Core_J3_S rest more part) := by
  obtain ⟨r12, br12, h⟩ := bnd h
  rcases ifs h with ⟨c13, h⟩ | ⟨c13, h⟩
  · obtain rfl := lf h
    exact piece (A := A16) mixed [.c (.bool r12) [], .g 4 true] (Eq.mp (by kernel_rfl) (aI (names_sized_ok br12) <| aI c13 <| aI (rE (names_Core_J3_e true)) <| fr (names_Core_J3_s rest more part true)))
  · obtain ⟨r14, br14, h⟩ := bnd h
    rcases ifs h with ⟨c15, h⟩ | ⟨c15, h⟩
    · obtain ⟨r16, br16, h⟩ := bnd h
      obtain rfl := lf h
      exact piece (A := A16) mixed [.c (.bool r12) [], .g 4 false, .c (.bool r14) [], .g 8 true, .c (.bool r16) []] (Eq.mp (by kernel_rfl) (aI (names_sized_ok br12) <| aI c13 <| aI (names_alphanumeric_ok br14) <| aI c15 <| aI (names_word_ok br16) <| aI (rE (names_Core_J3_e (!r16))) <| fr (names_Core_J3_s rest more part (!r16))))
    · obtain rfl := lf h
      exact piece (A := A16) mixed [.c (.bool r12) [], .g 4 false, .c (.bool r14) [], .g 8 false] (Eq.mp (by kernel_rfl) (aI (names_sized_ok br12) <| aI c13 <| aI (names_alphanumeric_ok br14) <| aI c15 <| aI (rE (names_Core_J3_e false)) <| fr (names_Core_J3_s rest more part false)))
noncomputable def names_Core_L2_b (rest : Str) (more : Bool) : Option ((Str × Bool) ⊕ ((Unit) ⊕ (Unit))) :=
  if more = true then
    (names_cut rest).bind fun r11 =>
    (names_Core_J3 r11.1).bind fun o17 =>
    if o17 = true then
      some (.inr (.inl ()))
    else
      some (.inl (r11.2.1, r11.2.2))
  else
    some (.inr (.inr ()))
noncomputable def names_Core_L2 (rest : Str) (more : Bool) : Option ((Unit) ⊕ (Unit)) := loop (fun (zz : Str × Bool) => names_Core_L2_b zz.1 zz.2) (rest, more)
theorem names_Core_L2_bok (rest : Str) (more : Bool) {y : (Str × Bool) ⊕ ((Unit) ⊕ (Unit))} (h : names_Core_L2_b rest more = some y) :
    Sat Pg GE 0 (codeAt b16 [true, true, true, true, false, true, true]) (LQ (fun (zz : Str × Bool) => names_Core_L2_S zz.1 zz.2) names_Core_L2_e (names_Core_L2_s) y) (names_Core_L2_S rest more) := by
  rcases ifs h with ⟨c10, h⟩ | ⟨c10, h⟩
  · obtain ⟨r11, br11, h⟩ := bnd h
    obtain ⟨o17, bo17, h⟩ := bnd h
    rcases ifs h with ⟨c18, h⟩ | ⟨c18, h⟩
    · obtain rfl := lf h
      exact over (A := A16) mixed [.g 0 true, .c (.tuple [.str r11.1, .str r11.2.1, .bool r11.2.2]) [], .pa 0, .pc (names_Core_J3_S r11.2.1 r11.2.2 r11.1) (.normal) (names_Core_J3_s r11.2.1 r11.2.2 r11.1 o17), .g 0 true] (by intro hx; cases hx) (Eq.mp (by kernel_rfl) (aI c10 <| aI (names_cut_ok br11) <| aI (fr (names_Core_J3_S r11.2.1 r11.2.2 r11.1)) <| aI (names_Core_J3_ok r11.2.1 r11.2.2 r11.1 bo17) <| aI c18 <| aI (rE (names_Core_L2_e (.inl ()))) <| fr (names_Core_L2_s (.inl ()))))
    · obtain rfl := lf h
      exact next (A := A16) mixed [.g 0 true, .c (.tuple [.str r11.1, .str r11.2.1, .bool r11.2.2]) [], .pa 0, .pc (names_Core_J3_S r11.2.1 r11.2.2 r11.1) (.normal) (names_Core_J3_s r11.2.1 r11.2.2 r11.1 o17), .g 0 false] (Eq.mp (by kernel_rfl) (aI c10 <| aI (names_cut_ok br11) <| aI (fr (names_Core_J3_S r11.2.1 r11.2.2 r11.1)) <| aI (names_Core_J3_ok r11.2.1 r11.2.2 r11.1 bo17) <| aI c18 <| aI (rE .normal) <| fr (names_Core_L2_S r11.2.1 r11.2.2)))
  · obtain rfl := lf h
    exact over (A := A16) mixed [.g 0 false] (by intro hx; cases hx) (Eq.mp (by kernel_rfl) (aI c10 <| aI (rE (names_Core_L2_e (.inr ()))) <| fr (names_Core_L2_s (.inr ()))))
theorem names_Core_L2_ok (rest : Str) (more : Bool) {x : (Unit) ⊕ (Unit)} (h : names_Core_L2 rest more = some x) :
    Sat Pg GE 0 (.loop (codeAt b16 [true, true, true, true, false, true, true])) (EX (names_Core_L2_e x) (names_Core_L2_s x)) (names_Core_L2_S rest more) :=
  Sat.loop (S := fun (zz : Str × Bool) => names_Core_L2_S zz.1 zz.2) h fun zz y hy => names_Core_L2_bok zz.1 zz.2 hy
noncomputable def names_Core (s : Str) : Option (Int) :=
  if (decide ((s.length : Int) > 120)) = true then
    some 3
  else
    (names_cut s).bind fun r2 =>
    (names_Core_J1 r2.1 r2.2.2).bind fun o8 =>
    if o8 = true then
      some 3
    else
      (names_Core_L2 r2.2.1 r2.2.2).bind fun o19 => match o19 with
      | (.inl o19) =>
        some 3
      | (.inr o19) =>
        some 0
theorem names_Core_ok {s : Str} {r : Int} (h : names_Core s = some r) : CC Pg GE 16 [.str s] (.int .i64 r) [] := by
  rcases ifs h with ⟨c1, h⟩ | ⟨c1, h⟩
  · obtain rfl := lf h
    exact C.ev (A := A16) mixed Tryd.call16 Tryd.func16 (c := b16) rfl (aI trivial trivial) [.v (.int .i64 (s.length : Int)), .g 0 true] (Eq.mp (by kernel_rfl) (aI (strLn Tryd.underlying9 s) <| aI c1 <| aI (rP (.int .i64 3)) <| trivial))
  · obtain ⟨r2, br2, h⟩ := bnd h
    obtain ⟨o8, bo8, h⟩ := bnd h
    rcases ifs h with ⟨c9, h⟩ | ⟨c9, h⟩
    · obtain rfl := lf h
      exact C.ev (A := A16) mixed Tryd.call16 Tryd.func16 (c := b16) rfl (aI trivial trivial) [.v (.int .i64 (s.length : Int)), .g 0 false, .c (.tuple [.str r2.1, .str r2.2.1, .bool r2.2.2]) [], .pa 1, .pc (names_Core_J1_S r2.1 r2.2.1 r2.2.2) (.normal) (names_Core_J1_s r2.1 r2.2.1 r2.2.2 o8), .g 0 true] (Eq.mp (by kernel_rfl) (aI (strLn Tryd.underlying9 s) <| aI c1 <| aI (names_cut_ok br2) <| aI (fr (names_Core_J1_S r2.1 r2.2.1 r2.2.2)) <| aI (names_Core_J1_ok r2.1 r2.2.1 r2.2.2 bo8) <| aI c9 <| aI (rP (.int .i64 3)) <| trivial))
    · obtain ⟨o19, bo19, h⟩ := bnd h
      rcases o19 with o19 | o19
      · obtain rfl := lf h
        exact C.ev (A := A16) mixed Tryd.call16 Tryd.func16 (c := b16) rfl (aI trivial trivial) [.v (.int .i64 (s.length : Int)), .g 0 false, .c (.tuple [.str r2.1, .str r2.2.1, .bool r2.2.2]) [], .pa 1, .pc (names_Core_J1_S r2.1 r2.2.1 r2.2.2) (.normal) (names_Core_J1_s r2.1 r2.2.1 r2.2.2 o8), .g 0 false, .pc (names_Core_L2_S r2.2.1 r2.2.2) (.ret) (names_Core_L2_s (.inl o19))] (Eq.mp (by kernel_rfl) (aI (strLn Tryd.underlying9 s) <| aI c1 <| aI (names_cut_ok br2) <| aI (fr (names_Core_J1_S r2.1 r2.2.1 r2.2.2)) <| aI (names_Core_J1_ok r2.1 r2.2.1 r2.2.2 bo8) <| aI c9 <| aI (fr (names_Core_L2_S r2.2.1 r2.2.2)) <| aI (names_Core_L2_ok r2.2.1 r2.2.2 bo19) <| aI (rP (.int .i64 3)) <| trivial))
      · obtain rfl := lf h
        exact C.ev (A := A16) mixed Tryd.call16 Tryd.func16 (c := b16) rfl (aI trivial trivial) [.v (.int .i64 (s.length : Int)), .g 0 false, .c (.tuple [.str r2.1, .str r2.2.1, .bool r2.2.2]) [], .pa 1, .pc (names_Core_J1_S r2.1 r2.2.1 r2.2.2) (.normal) (names_Core_J1_s r2.1 r2.2.1 r2.2.2 o8), .g 0 false, .pc (names_Core_L2_S r2.2.1 r2.2.2) (.exit 0) (names_Core_L2_s (.inr o19))] (Eq.mp (by kernel_rfl) (aI (strLn Tryd.underlying9 s) <| aI c1 <| aI (names_cut_ok br2) <| aI (fr (names_Core_J1_S r2.1 r2.2.1 r2.2.2)) <| aI (names_Core_J1_ok r2.1 r2.2.1 r2.2.2 bo8) <| aI c9 <| aI (fr (names_Core_L2_S r2.2.1 r2.2.2)) <| aI (names_Core_L2_ok r2.2.1 r2.2.2 bo19) <| aI (rP (.int .i64 0)) <| trivial))
end Go.Proofs.YtgiimiklbabhcaaDoor
