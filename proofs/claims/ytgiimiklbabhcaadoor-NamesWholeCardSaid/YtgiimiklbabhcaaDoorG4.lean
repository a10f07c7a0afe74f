/-
  WHAT IS PROVED: what functions come to, as functions of plain data: liquidchecklaw04.NamesApart, liquidchecklaw04.NamesFresh, liquidchecklaw04.NamesUnion, liquidcheckref04.Fresh, liquidcheckref04.Union, liquidcheckref04.put, names.Distinct. Conditions: none. Printed by gen.py out of the seat's translation.
-/
import Derived.Test.YtgiimiklbabhcaaDoorG3
namespace Go.Proofs.YtgiimiklbabhcaaDoor
open Go
set_option linter.unusedVariables false
set_option maxRecDepth 100000

/-! liquidcheck/liquidcheckref04.Fresh -/
noncomputable def b20 : Code := Tryd.f20.body.getD .skip
def A20 : List Nat := [7, 18]
noncomputable def R04_Fresh_L1_S (used : (List Str)) (base : Str) (s : Str) (n : Int) : PSt := ⟨[sl cS used, .str base, u, u, u, .str s, .int .i64 n, u, u, u, u, u, u, u, u, u, u, u, u], [], []⟩
noncomputable def R04_Fresh_L1_o0 (used : (List Str)) (base : Str) (o : Str) : PSt := ⟨[u, u, u, u, u, .str o, u, u, u, u, u, u, u, u, u, u, u, u, u], [], []⟩
noncomputable def R04_Fresh_L1_e (_ : (Str)) : Exit := .exit 0
noncomputable def R04_Fresh_L1_s (used : (List Str)) (base : Str) (o : (Str)) : PSt := R04_Fresh_L1_o0 used base o
noncomputable def R04_Fresh_L1_b (used : (List Str)) (base : Str) (s : Str) (n : Int) : Option ((Str × Int) ⊕ ((Str))) :=
  (R04_Find used s).bind fun r1 =>
  if (decide (r1 ≥ 0)) = true then
    (R01_Text n).bind fun r3 =>
    (cat base r3).bind fun s4 =>
    some (.inl (s4, w64 (n + 1)))
  else
    some (.inr s)
noncomputable def R04_Fresh_L1 (used : (List Str)) (base : Str) (s : Str) (n : Int) : Option ((Str)) := loop (fun (zz : Str × Int) => R04_Fresh_L1_b used base zz.1 zz.2) (s, n)
theorem R04_Fresh_L1_bok (used : (List Str)) (base : Str) (s : Str) (n : Int) {y : (Str × Int) ⊕ ((Str))} (h : R04_Fresh_L1_b used base s n = some y) :
    Sat Pg GE 0 (codeAt b20 [true, true, false, true, true, true]) (LQ (fun (zz : Str × Int) => R04_Fresh_L1_S used base zz.1 zz.2) R04_Fresh_L1_e (R04_Fresh_L1_s used base) y) (R04_Fresh_L1_S used base s n) := by
  obtain ⟨r1, br1, h⟩ := bnd h
  rcases ifs h with ⟨c2, h⟩ | ⟨c2, h⟩
  · obtain ⟨r3, br3, h⟩ := bnd h
    obtain ⟨s4, bs4, h⟩ := bnd h
    obtain rfl := lf h
    exact next (A := A20) mixed [.c (.int .i64 r1) [], .g 0 true, .c (.str r3) [], .v (.str s4)] (Eq.mp (by kernel_rfl) (aI (R04_Find_ok br1) <| aI c2 <| aI (R01_Text_ok br3) <| aI (strCat (P := Pg) (t := 9) bs4) <| aI (rE .normal) <| fr (R04_Fresh_L1_S used base s4 (w64 (n + 1)))))
  · obtain rfl := lf h
    exact over (A := A20) mixed [.c (.int .i64 r1) [], .g 0 false] (by intro hx; cases hx) (Eq.mp (by kernel_rfl) (aI (R04_Find_ok br1) <| aI c2 <| aI (rE (R04_Fresh_L1_e s)) <| fr (R04_Fresh_L1_s used base s)))
theorem R04_Fresh_L1_ok (used : (List Str)) (base : Str) (s : Str) (n : Int) {x : (Str)} (h : R04_Fresh_L1 used base s n = some x) :
    Sat Pg GE 0 (.loop (codeAt b20 [true, true, false, true, true, true])) (EX (R04_Fresh_L1_e x) (R04_Fresh_L1_s used base x)) (R04_Fresh_L1_S used base s n) :=
  Sat.loop (S := fun (zz : Str × Int) => R04_Fresh_L1_S used base zz.1 zz.2) h fun zz y hy => R04_Fresh_L1_bok used base zz.1 zz.2 hy
noncomputable def R04_Fresh (used : (List Str)) (base : Str) : Option (Str) :=
  (R04_Fresh_L1 used base base 1).bind fun o5 =>
  some o5
theorem R04_Fresh_ok {used : (List Str)} {base : Str} {r : Str} (h : R04_Fresh used base = some r) : CC Pg GE 20 [sl cS used, .str base] (.str r) [] := by
  obtain ⟨o5, bo5, h⟩ := bnd h
  obtain rfl := lf h
  exact C.ev (A := A20) mixed Tryd.call20 Tryd.func20 (c := b20) rfl (aI (cl_sl clS used) (aI trivial trivial)) [.pc (R04_Fresh_L1_S used base base 1) (.exit 0) (R04_Fresh_L1_s used base o5)] (Eq.mp (by kernel_rfl) (aI (fr (R04_Fresh_L1_S used base base 1)) <| aI (R04_Fresh_L1_ok used base base 1 bo5) <| aI (rP (.str o5)) <| trivial))

/-! liquidcheck/liquidchecklaw04.NamesFresh -/
noncomputable def b4 : Code := Tryd.f4.body.getD .skip
def A4 : List Nat := []
noncomputable def W04_NamesFresh (used : (List Str)) (base : Str) : Option (Bool) :=
  (W04_few used).bind fun r1 =>
  if (!r1) = true then
    (W04_alive).bind fun r3 =>
    some r3
  else
    (names_Fresh used base).bind fun r4 =>
    (R04_Fresh used base).bind fun r5 =>
    if (r4 == r5) = true then
      (names_Find used r4).bind fun r7 =>
      if (r7 == (-1)) = true then
        (W04_alive).bind fun r9 =>
        some r9
      else
        some false
    else
      some false
theorem W04_NamesFresh_ok {used : (List Str)} {base : Str} {r : Bool} (h : W04_NamesFresh used base = some r) : CC Pg GE 4 [sl cS used, .str base] (.bool r) [] := by
  obtain ⟨r1, br1, h⟩ := bnd h
  rcases ifs h with ⟨c2, h⟩ | ⟨c2, h⟩
  · obtain ⟨r3, br3, h⟩ := bnd h
    obtain rfl := lf h
    exact C.ev (A := A4) mixed Tryd.call4 Tryd.func4 (c := b4) rfl (aI (cl_sl clS used) (aI trivial trivial)) [.c (.bool r1) [], .g 0 true, .c (.bool r3) []] (Eq.mp (by kernel_rfl) (aI (W04_few_ok br1) <| aI c2 <| aI (W04_alive_ok br3) <| aI (rP (.bool r3)) <| trivial))
  · obtain ⟨r4, br4, h⟩ := bnd h
    obtain ⟨r5, br5, h⟩ := bnd h
    rcases ifs h with ⟨c6, h⟩ | ⟨c6, h⟩
    · obtain ⟨r7, br7, h⟩ := bnd h
      rcases ifs h with ⟨c8, h⟩ | ⟨c8, h⟩
      · obtain ⟨r9, br9, h⟩ := bnd h
        obtain rfl := lf h
        exact C.ev (A := A4) mixed Tryd.call4 Tryd.func4 (c := b4) rfl (aI (cl_sl clS used) (aI trivial trivial)) [.c (.bool r1) [], .g 0 false, .c (.str r4) [], .c (.str r5) [], .g 6 true, .c (.int .i64 r7) [], .g 12 true, .c (.bool r9) []] (Eq.mp (by kernel_rfl) (aI (W04_few_ok br1) <| aI c2 <| aI (names_Fresh_ok br4) <| aI (R04_Fresh_ok br5) <| aI c6 <| aI (names_Find_ok br7) <| aI c8 <| aI (W04_alive_ok br9) <| aI (rP (.bool r9)) <| trivial))
      · obtain rfl := lf h
        exact C.ev (A := A4) mixed Tryd.call4 Tryd.func4 (c := b4) rfl (aI (cl_sl clS used) (aI trivial trivial)) [.c (.bool r1) [], .g 0 false, .c (.str r4) [], .c (.str r5) [], .g 6 true, .c (.int .i64 r7) [], .g 12 false] (Eq.mp (by kernel_rfl) (aI (W04_few_ok br1) <| aI c2 <| aI (names_Fresh_ok br4) <| aI (R04_Fresh_ok br5) <| aI c6 <| aI (names_Find_ok br7) <| aI c8 <| aI (rP (.bool false)) <| trivial))
    · obtain rfl := lf h
      exact C.ev (A := A4) mixed Tryd.call4 Tryd.func4 (c := b4) rfl (aI (cl_sl clS used) (aI trivial trivial)) [.c (.bool r1) [], .g 0 false, .c (.str r4) [], .c (.str r5) [], .g 6 false] (Eq.mp (by kernel_rfl) (aI (W04_few_ok br1) <| aI c2 <| aI (names_Fresh_ok br4) <| aI (R04_Fresh_ok br5) <| aI c6 <| aI (rP (.bool false)) <| trivial))

/-! liquidcheck/liquidcheckref04.put -/
noncomputable def b46 : Code := Tryd.f46.body.getD .skip
def A46 : List Nat := [19, 28, 46, 51]
noncomputable def R04_put_L1_S (v : (List Str)) (s : Str) (out : (List Str)) (i : Int) : PSt := ⟨[sl cS v, .str s, u, u, u, sl cS out, .int .i64 i, u, u, u, u, u, u, u, u, u, u, u, u, u, u, u, u, u, u, u, u, u, u, u, u, u, u, u, u, u, u, u, u, u, u, u, u, u, u, u, u, u, u, u, u, u], [], [((5, 0), 9)]⟩
noncomputable def R04_put_L1_o0 (v : (List Str)) (s : Str) (o : (List Str) × Int) : PSt := ⟨[sl cS v, .str s, u, u, u, sl cS o.1, .int .i64 o.2, u, u, u, u, u, u, u, u, u, u, u, u, u, u, u, u, u, u, u, u, u, u, u, u, u, u, u, u, u, u, u, u, u, u, u, u, u, u, u, u, u, u, u, u, u], [], [((5, 0), 9)]⟩
noncomputable def R04_put_L1_e (_ : ((List Str) × Int)) : Exit := .exit 0
noncomputable def R04_put_L1_s (v : (List Str)) (s : Str) (o : ((List Str) × Int)) : PSt := R04_put_L1_o0 v s o
noncomputable def R04_put_J2_S (v : (List Str)) (s : Str) (out : (List Str)) (i : Int) : PSt := ⟨[sl cS v, .str s, u, u, u, sl cS out, .int .i64 i, u, u, u, u, u, u, u, u, u, u, u, u, u, u, u, u, u, u, u, u, u, u, u, u, u, u, u, u, u, u, u, u, u, u, u, u, u, u, u, u, u, u, u, u, u], [], [((5, 0), 9)]⟩
noncomputable def R04_put_J2_o0 (v : (List Str)) (s : Str) (out : (List Str)) (i : Int) (o : Bool) : PSt := ⟨[sl cS v, .str s, u, u, u, sl cS out, .int .i64 i, u, u, u, u, u, u, u, u, u, u, u, .bool o, u, u, u, u, u, u, u, u, u, u, u, u, u, u, u, u, u, u, u, u, u, u, u, u, u, u, u, u, u, u, u, u, u], [], [((5, 0), 9)]⟩
noncomputable def R04_put_J2_e (_ : (Bool)) : Exit := .normal
noncomputable def R04_put_J2_s (v : (List Str)) (s : Str) (out : (List Str)) (i : Int) (o : (Bool)) : PSt := R04_put_J2_o0 v s out i o
noncomputable def R04_put_J2 (v : (List Str)) (s : Str) (i : Int) : Option ((Bool)) :=
  if (decide (i < (v.length : Int))) = true then
    (idx v i).bind fun x2 =>
    some (Op.bytesLess x2 s)
  else
    some false
theorem R04_put_J2_ok (v : (List Str)) (s : Str) (out : (List Str)) (i : Int) {x : (Bool)} (h : R04_put_J2 v s i = some x) :
    Sat Pg GE 0 (codeAt b46 [true, true, true, false, true, true, false, false]) (EX (R04_put_J2_e x) (R04_put_J2_s v s out i x)) (R04_put_J2_S v s out i) := by
  rcases ifs h with ⟨c1, h⟩ | ⟨c1, h⟩
  · obtain ⟨x2, bx2, h⟩ := bnd h
    obtain rfl := lf h
    exact piece (A := A46) mixed [.v (.int .i64 (v.length : Int)), .g 5 true, .v (.eptr (cS x2)), .v (.str x2)] (Eq.mp (by kernel_rfl) (aI (sT26.ln v) <| aI c1 <| aI (sT26.ia (k := .i64) bx2) <| aI (plook1 sc9 (.str x2) []) <| aI (rE (R04_put_J2_e (Op.bytesLess x2 s))) <| fr (R04_put_J2_s v s out i (Op.bytesLess x2 s))))
  · obtain rfl := lf h
    exact piece (A := A46) mixed [.v (.int .i64 (v.length : Int)), .g 5 false] (Eq.mp (by kernel_rfl) (aI (sT26.ln v) <| aI c1 <| aI (rE (R04_put_J2_e false)) <| fr (R04_put_J2_s v s out i false)))
noncomputable def R04_put_L1_b (v : (List Str)) (s : Str) (out : (List Str)) (i : Int) : Option (((List Str) × Int) ⊕ (((List Str) × Int))) :=
  (R04_put_J2 v s i).bind fun o3 =>
  if o3 = true then
    (idx v i).bind fun x5 =>
    (app out ([x5] : List Str)).bind fun l6 =>
    some (.inl (l6, w64 (i + 1)))
  else
    some (.inr (out, i))
noncomputable def R04_put_L1 (v : (List Str)) (s : Str) (out : (List Str)) (i : Int) : Option (((List Str) × Int)) := loop (fun (zz : (List Str) × Int) => R04_put_L1_b v s zz.1 zz.2) (out, i)
theorem R04_put_L1_bok (v : (List Str)) (s : Str) (out : (List Str)) (i : Int) {y : ((List Str) × Int) ⊕ (((List Str) × Int))} (h : R04_put_L1_b v s out i = some y) :
    Sat Pg GE 0 (codeAt b46 [true, true, true, false, true, true]) (LQ (fun (zz : (List Str) × Int) => R04_put_L1_S v s zz.1 zz.2) R04_put_L1_e (R04_put_L1_s v s) y) (R04_put_L1_S v s out i) := by
  obtain ⟨o3, bo3, h⟩ := bnd h
  rcases ifs h with ⟨c4, h⟩ | ⟨c4, h⟩
  · obtain ⟨x5, bx5, h⟩ := bnd h
    obtain ⟨l6, bl6, h⟩ := bnd h
    obtain rfl := lf h
    exact next (A := A46) mixed [.pa 1, .pc (R04_put_J2_S v s out i) (.normal) (R04_put_J2_s v s out i o3), .g 0 true, .v (.eptr (cS x5)), .v (.str x5), .v (sl cS ([x5] : List Str)), .v (sl cS l6)] (Eq.mp (by kernel_rfl) (aI (fr (R04_put_J2_S v s out i)) <| aI (R04_put_J2_ok v s out i bo3) <| aI c4 <| aI (sT26.ia (k := .i64) bx5) <| aI (plook1 sc9 (.str x5) []) <| aI (sT26.mk' (v := PVal.str) pcS ([x5] : List Str) 1 (by kernel_rfl)) <| aI (sT26.ap bl6) <| aI (rE .normal) <| fr (R04_put_L1_S v s l6 (w64 (i + 1)))))
  · obtain rfl := lf h
    exact over (A := A46) mixed [.pa 1, .pc (R04_put_J2_S v s out i) (.normal) (R04_put_J2_s v s out i o3), .g 0 false] (by intro hx; cases hx) (Eq.mp (by kernel_rfl) (aI (fr (R04_put_J2_S v s out i)) <| aI (R04_put_J2_ok v s out i bo3) <| aI c4 <| aI (rE (R04_put_L1_e (out, i))) <| fr (R04_put_L1_s v s (out, i))))
theorem R04_put_L1_ok (v : (List Str)) (s : Str) (out : (List Str)) (i : Int) {x : ((List Str) × Int)} (h : R04_put_L1 v s out i = some x) :
    Sat Pg GE 0 (.loop (codeAt b46 [true, true, true, false, true, true])) (EX (R04_put_L1_e x) (R04_put_L1_s v s x)) (R04_put_L1_S v s out i) :=
  Sat.loop (S := fun (zz : (List Str) × Int) => R04_put_L1_S v s zz.1 zz.2) h fun zz y hy => R04_put_L1_bok v s zz.1 zz.2 hy
noncomputable def R04_put_J3_S (v : (List Str)) (s : Str) (out : (List Str)) (i : Int) : PSt := ⟨[sl cS v, .str s, u, u, u, sl cS out, .int .i64 i, u, u, u, u, u, u, u, u, u, u, u, u, u, u, u, u, u, u, u, u, u, u, u, u, u, u, u, u, u, u, u, u, u, u, u, u, u, u, u, u, u, u, u, u, u], [], [((5, 0), 9)]⟩
noncomputable def R04_put_J3_o0 (v : (List Str)) (s : Str) (out : (List Str)) (i : Int) (o : Int) : PSt := ⟨[sl cS v, u, u, u, u, sl cS out, .int .i64 o, u, u, u, u, u, u, u, u, u, u, u, u, u, u, u, u, u, u, u, u, u, u, u, u, u, u, u, u, u, u, u, u, u, u, u, u, u, u, u, u, u, u, u, u, u], [], [((5, 0), 9)]⟩
noncomputable def R04_put_J3_e (_ : (Int)) : Exit := .normal
noncomputable def R04_put_J3_s (v : (List Str)) (s : Str) (out : (List Str)) (i : Int) (o : (Int)) : PSt := R04_put_J3_o0 v s out i o
noncomputable def R04_put_J4_S (v : (List Str)) (s : Str) (out : (List Str)) (i : Int) : PSt := ⟨[sl cS v, .str s, u, u, u, sl cS out, .int .i64 i, u, u, u, u, u, u, u, u, u, u, u, u, u, u, u, u, u, u, u, u, u, u, u, u, u, u, u, u, u, u, u, u, u, u, u, u, u, u, u, u, u, u, u, u, u], [], [((5, 0), 9)]⟩
noncomputable def R04_put_J4_o0 (v : (List Str)) (s : Str) (out : (List Str)) (i : Int) (o : Bool) : PSt := ⟨[sl cS v, u, u, u, u, sl cS out, .int .i64 i, u, u, u, u, u, u, u, u, u, u, u, u, u, u, u, u, u, u, u, u, u, u, u, u, u, u, u, u, u, u, u, u, u, u, u, u, .bool o, u, u, u, u, u, u, u, u], [], [((5, 0), 9)]⟩
noncomputable def R04_put_J4_e (_ : (Bool)) : Exit := .normal
noncomputable def R04_put_J4_s (v : (List Str)) (s : Str) (out : (List Str)) (i : Int) (o : (Bool)) : PSt := R04_put_J4_o0 v s out i o
noncomputable def R04_put_J4 (v : (List Str)) (s : Str) (i : Int) : Option ((Bool)) :=
  if (decide (i < (v.length : Int))) = true then
    (idx v i).bind fun x10 =>
    some (x10 == s)
  else
    some false
theorem R04_put_J4_ok (v : (List Str)) (s : Str) (out : (List Str)) (i : Int) {x : (Bool)} (h : R04_put_J4 v s i = some x) :
    Sat Pg GE 0 (codeAt b46 [true, true, true, true, true, false, false]) (EX (R04_put_J4_e x) (R04_put_J4_s v s out i x)) (R04_put_J4_S v s out i) := by
  rcases ifs h with ⟨c9, h⟩ | ⟨c9, h⟩
  · obtain ⟨x10, bx10, h⟩ := bnd h
    obtain rfl := lf h
    exact piece (A := A46) mixed [.v (.int .i64 (v.length : Int)), .g 5 true, .v (.eptr (cS x10)), .v (.str x10)] (Eq.mp (by kernel_rfl) (aI (sT26.ln v) <| aI c9 <| aI (sT26.ia (k := .i64) bx10) <| aI (plook1 sc9 (.str x10) []) <| aI (rE (R04_put_J4_e (x10 == s))) <| fr (R04_put_J4_s v s out i (x10 == s))))
  · obtain rfl := lf h
    exact piece (A := A46) mixed [.v (.int .i64 (v.length : Int)), .g 5 false] (Eq.mp (by kernel_rfl) (aI (sT26.ln v) <| aI c9 <| aI (rE (R04_put_J4_e false)) <| fr (R04_put_J4_s v s out i false)))
noncomputable def R04_put_J3 (v : (List Str)) (s : Str) (i : Int) : Option ((Int)) :=
  (R04_put_J4 v s i).bind fun o11 =>
  if o11 = true then
    some (w64 (i + 1))
  else
    some i
theorem R04_put_J3_ok (v : (List Str)) (s : Str) (out : (List Str)) (i : Int) {x : (Int)} (h : R04_put_J3 v s i = some x) :
    Sat Pg GE 0 (codeAt b46 [true, true, true, true, true, false]) (EX (R04_put_J3_e x) (R04_put_J3_s v s out i x)) (R04_put_J3_S v s out i) := by
  obtain ⟨o11, bo11, h⟩ := bnd h
  rcases ifs h with ⟨c12, h⟩ | ⟨c12, h⟩
  · obtain rfl := lf h
    exact piece (A := A46) mixed [.pa 0, .pc (R04_put_J4_S v s out i) (.normal) (R04_put_J4_s v s out i o11), .g 0 true] (Eq.mp (by kernel_rfl) (aI (fr (R04_put_J4_S v s out i)) <| aI (R04_put_J4_ok v s out i bo11) <| aI c12 <| aI (rE (R04_put_J3_e (w64 (i + 1)))) <| fr (R04_put_J3_s v s out i (w64 (i + 1)))))
  · obtain rfl := lf h
    exact piece (A := A46) mixed [.pa 0, .pc (R04_put_J4_S v s out i) (.normal) (R04_put_J4_s v s out i o11), .g 0 false] (Eq.mp (by kernel_rfl) (aI (fr (R04_put_J4_S v s out i)) <| aI (R04_put_J4_ok v s out i bo11) <| aI c12 <| aI (rE (R04_put_J3_e i)) <| fr (R04_put_J3_s v s out i i)))
noncomputable def R04_put (a : (List Str)) (s : Str) : Option ((List Str)) :=
  (R04_put_L1 a s ([] : List Str) 0).bind fun o7 =>
  (app o7.1 ([s] : List Str)).bind fun l8 =>
  (R04_put_J3 a s o7.2).bind fun o13 =>
  (slc a (some o13) none).bind fun l14 =>
  (app l8 l14).bind fun l15 =>
  some l15
theorem R04_put_ok {a : (List Str)} {s : Str} {r : (List Str)} (h : R04_put a s = some r) : CC Pg GE 46 [sl cS a, .str s] (sl cS r) [(0, 9)] := by
  obtain ⟨o7, bo7, h⟩ := bnd h
  obtain ⟨l8, bl8, h⟩ := bnd h
  obtain ⟨o13, bo13, h⟩ := bnd h
  obtain ⟨l14, bl14, h⟩ := bnd h
  obtain ⟨l15, bl15, h⟩ := bnd h
  obtain rfl := lf h
  exact C.ev (A := A46) mixed Tryd.call46 Tryd.func46 (c := b46) rfl (aI (cl_sl clS a) (aI trivial trivial)) [.pc (R04_put_L1_S a s ([] : List Str) 0) (.exit 0) (R04_put_L1_s a s o7), .v (sl cS ([s] : List Str)), .v (sl cS l8), .pa 0, .pc (R04_put_J3_S a s l8 o7.2) (.normal) (R04_put_J3_s a s l8 o7.2 o13), .v (sl cS l14), .v (sl cS l15)] (Eq.mp (by kernel_rfl) (aI (fr (R04_put_L1_S a s ([] : List Str) 0)) <| aI (R04_put_L1_ok a s ([] : List Str) 0 bo7) <| aI (sT26.mk' (v := PVal.str) pcS ([s] : List Str) 1 (by kernel_rfl)) <| aI (sT26.ap bl8) <| aI (fr (R04_put_J3_S a s l8 o7.2)) <| aI (R04_put_J3_ok a s l8 o7.2 bo13) <| aI (sT26.sc bl14) <| aI (sT26.ap bl15) <| aI (rP (sl cS l15)) <| (cl_sl clS l15)))

/-! liquidcheck/liquidcheckref04.Union -/
noncomputable def b24 : Code := Tryd.f24.body.getD .skip
def A24 : List Nat := [12, 24, 32]
noncomputable def R04_Union_L1_S (v : (List Str)) (v2 : (List Str)) (out : (List Str)) (t9 : Int) (t10 : Int) : PSt := ⟨[sl cS v, sl cS v2, u, u, u, sl cS out, u, u, u, .int .i64 t9, .int .i64 t10, u, u, u, u, u, u, u, u, u, u, u, u, u, u, u, u, u, u, u, u, u, u], [], [((5, 0), 9)]⟩
noncomputable def R04_Union_L1_o0 (v : (List Str)) (v2 : (List Str)) (t9 : Int) (o : (List Str)) : PSt := ⟨[u, sl cS v2, u, u, u, sl cS o, u, u, u, u, u, u, u, u, u, u, u, u, u, u, u, u, u, u, u, u, u, u, u, u, u, u, u], [], [((5, 0), 9)]⟩
noncomputable def R04_Union_L1_e (_ : ((List Str))) : Exit := .exit 0
noncomputable def R04_Union_L1_s (v : (List Str)) (v2 : (List Str)) (t9 : Int) (o : ((List Str))) : PSt := R04_Union_L1_o0 v v2 t9 o
noncomputable def R04_Union_L1_b (v : (List Str)) (t9 : Int) (out : (List Str)) (t10 : Int) : Option (((List Str) × Int) ⊕ (((List Str)))) :=
  if (decide (t10 < t9)) = true then
    (idx v t10).bind fun x2 =>
    (R04_put out x2).bind fun r3 =>
    some (.inl (r3, w64 (t10 + 1)))
  else
    some (.inr out)
noncomputable def R04_Union_L1 (v : (List Str)) (t9 : Int) (out : (List Str)) (t10 : Int) : Option (((List Str))) := loop (fun (zz : (List Str) × Int) => R04_Union_L1_b v t9 zz.1 zz.2) (out, t10)
theorem R04_Union_L1_bok (v : (List Str)) (v2 : (List Str)) (out : (List Str)) (t9 : Int) (t10 : Int) {y : ((List Str) × Int) ⊕ (((List Str)))} (h : R04_Union_L1_b v t9 out t10 = some y) :
    Sat Pg GE 0 (codeAt b24 [true, true, false, true, true, true]) (LQ (fun (zz : (List Str) × Int) => R04_Union_L1_S v v2 zz.1 t9 zz.2) R04_Union_L1_e (R04_Union_L1_s v v2 t9) y) (R04_Union_L1_S v v2 out t9 t10) := by
  rcases ifs h with ⟨c1, h⟩ | ⟨c1, h⟩
  · obtain ⟨x2, bx2, h⟩ := bnd h
    obtain ⟨r3, br3, h⟩ := bnd h
    obtain rfl := lf h
    exact next (A := A24) mixed [.g 0 true, .v (.eptr (cS x2)), .v (.str x2), .c (sl cS r3) [(0, 9)]] (Eq.mp (by kernel_rfl) (aI c1 <| aI (sT26.ia (k := .i64) bx2) <| aI (plook1 sc9 (.str x2) []) <| aI (R04_put_ok br3) <| aI (rE .normal) <| fr (R04_Union_L1_S v v2 r3 t9 (w64 (t10 + 1)))))
  · obtain rfl := lf h
    exact over (A := A24) mixed [.g 0 false] (by intro hx; cases hx) (Eq.mp (by kernel_rfl) (aI c1 <| aI (rE (R04_Union_L1_e out)) <| fr (R04_Union_L1_s v v2 t9 out)))
theorem R04_Union_L1_ok (v : (List Str)) (v2 : (List Str)) (out : (List Str)) (t9 : Int) (t10 : Int) {x : ((List Str))} (h : R04_Union_L1 v t9 out t10 = some x) :
    Sat Pg GE 0 (.loop (codeAt b24 [true, true, false, true, true, true])) (EX (R04_Union_L1_e x) (R04_Union_L1_s v v2 t9 x)) (R04_Union_L1_S v v2 out t9 t10) :=
  Sat.loop (S := fun (zz : (List Str) × Int) => R04_Union_L1_S v v2 zz.1 t9 zz.2) h fun zz y hy => R04_Union_L1_bok v v2 zz.1 t9 zz.2 hy
noncomputable def R04_Union_L2_S (v : (List Str)) (out : (List Str)) (t21 : Int) (t22 : Int) : PSt := ⟨[u, sl cS v, u, u, u, sl cS out, u, u, u, u, u, u, u, u, u, u, u, u, u, u, u, .int .i64 t21, .int .i64 t22, u, u, u, u, u, u, u, u, u, u], [], [((5, 0), 9)]⟩
noncomputable def R04_Union_L2_o0 (v : (List Str)) (t21 : Int) (o : (List Str)) : PSt := ⟨[u, u, u, u, u, sl cS o, u, u, u, u, u, u, u, u, u, u, u, u, u, u, u, u, u, u, u, u, u, u, u, u, u, u, u], [], [((5, 0), 9)]⟩
noncomputable def R04_Union_L2_e (_ : ((List Str))) : Exit := .exit 2
noncomputable def R04_Union_L2_s (v : (List Str)) (t21 : Int) (o : ((List Str))) : PSt := R04_Union_L2_o0 v t21 o
noncomputable def R04_Union_L2_b (v : (List Str)) (t21 : Int) (out : (List Str)) (t22 : Int) : Option (((List Str) × Int) ⊕ (((List Str)))) :=
  if (decide (t22 < t21)) = true then
    (idx v t22).bind fun x6 =>
    (R04_put out x6).bind fun r7 =>
    some (.inl (r7, w64 (t22 + 1)))
  else
    some (.inr out)
noncomputable def R04_Union_L2 (v : (List Str)) (t21 : Int) (out : (List Str)) (t22 : Int) : Option (((List Str))) := loop (fun (zz : (List Str) × Int) => R04_Union_L2_b v t21 zz.1 zz.2) (out, t22)
theorem R04_Union_L2_bok (v : (List Str)) (out : (List Str)) (t21 : Int) (t22 : Int) {y : ((List Str) × Int) ⊕ (((List Str)))} (h : R04_Union_L2_b v t21 out t22 = some y) :
    Sat Pg GE 0 (codeAt b24 [true, true, true, false, true, true, true]) (LQ (fun (zz : (List Str) × Int) => R04_Union_L2_S v zz.1 t21 zz.2) R04_Union_L2_e (R04_Union_L2_s v t21) y) (R04_Union_L2_S v out t21 t22) := by
  rcases ifs h with ⟨c5, h⟩ | ⟨c5, h⟩
  · obtain ⟨x6, bx6, h⟩ := bnd h
    obtain ⟨r7, br7, h⟩ := bnd h
    obtain rfl := lf h
    exact next (A := A24) mixed [.g 0 true, .v (.eptr (cS x6)), .v (.str x6), .c (sl cS r7) [(0, 9)]] (Eq.mp (by kernel_rfl) (aI c5 <| aI (sT26.ia (k := .i64) bx6) <| aI (plook1 sc9 (.str x6) []) <| aI (R04_put_ok br7) <| aI (rE .normal) <| fr (R04_Union_L2_S v r7 t21 (w64 (t22 + 1)))))
  · obtain rfl := lf h
    exact over (A := A24) mixed [.g 0 false] (by intro hx; cases hx) (Eq.mp (by kernel_rfl) (aI c5 <| aI (rE (R04_Union_L2_e out)) <| fr (R04_Union_L2_s v t21 out)))
theorem R04_Union_L2_ok (v : (List Str)) (out : (List Str)) (t21 : Int) (t22 : Int) {x : ((List Str))} (h : R04_Union_L2 v t21 out t22 = some x) :
    Sat Pg GE 0 (.loop (codeAt b24 [true, true, true, false, true, true, true])) (EX (R04_Union_L2_e x) (R04_Union_L2_s v t21 x)) (R04_Union_L2_S v out t21 t22) :=
  Sat.loop (S := fun (zz : (List Str) × Int) => R04_Union_L2_S v zz.1 t21 zz.2) h fun zz y hy => R04_Union_L2_bok v zz.1 t21 zz.2 hy
noncomputable def R04_Union (a : (List Str)) (a2 : (List Str)) : Option ((List Str)) :=
  (R04_Union_L1 a (a.length : Int) ([] : List Str) 0).bind fun o4 =>
  (R04_Union_L2 a2 (a2.length : Int) o4 0).bind fun o8 =>
  some o8
theorem R04_Union_ok {a : (List Str)} {a2 : (List Str)} {r : (List Str)} (h : R04_Union a a2 = some r) : CC Pg GE 24 [sl cS a, sl cS a2] (sl cS r) [(0, 9)] := by
  obtain ⟨o4, bo4, h⟩ := bnd h
  obtain ⟨o8, bo8, h⟩ := bnd h
  obtain rfl := lf h
  exact C.ev (A := A24) mixed Tryd.call24 Tryd.func24 (c := b24) rfl (aI (cl_sl clS a) (aI (cl_sl clS a2) trivial)) [.v (.int .i64 (a.length : Int)), .pc (R04_Union_L1_S a a2 ([] : List Str) (a.length : Int) 0) (.exit 0) (R04_Union_L1_s a a2 (a.length : Int) o4), .v (.int .i64 (a2.length : Int)), .pc (R04_Union_L2_S a2 o4 (a2.length : Int) 0) (.exit 2) (R04_Union_L2_s a2 (a2.length : Int) o8)] (Eq.mp (by kernel_rfl) (aI (sT26.ln a) <| aI (fr (R04_Union_L1_S a a2 ([] : List Str) (a.length : Int) 0)) <| aI (R04_Union_L1_ok a a2 ([] : List Str) (a.length : Int) 0 bo4) <| aI (sT26.ln a2) <| aI (fr (R04_Union_L2_S a2 o4 (a2.length : Int) 0)) <| aI (R04_Union_L2_ok a2 o4 (a2.length : Int) 0 bo8) <| aI (rP (sl cS o8)) <| (cl_sl clS o8)))

/-! liquidcheck/liquidchecklaw04.NamesUnion -/
noncomputable def b5 : Code := Tryd.f5.body.getD .skip
def A5 : List Nat := [24, 25]
noncomputable def W04_NamesUnion_J1_S (v : (List Str)) (v2 : (List Str)) : PSt := ⟨[sl cS v, sl cS v2, u, u, u, u, u, u, u, u, u, u, u, u, u, u, u, u, u, u, u, u, u, u, u, u, u, u, u, u, u, u, u, u, u, u, u, u, u, u, u, u, u, u, u, u, u, u, u, u, u, u], [], []⟩
noncomputable def W04_NamesUnion_J1_o0 (v : (List Str)) (v2 : (List Str)) (o : Bool) : PSt := ⟨[sl cS v, sl cS v2, u, u, u, u, u, u, u, u, u, u, u, u, u, .bool o, u, u, u, u, u, u, u, u, u, u, u, u, u, u, u, u, u, u, u, u, u, u, u, u, u, u, u, u, u, u, u, u, u, u, u, u], [], []⟩
noncomputable def W04_NamesUnion_J1_e (_ : (Bool)) : Exit := .normal
noncomputable def W04_NamesUnion_J1_s (v : (List Str)) (v2 : (List Str)) (o : (Bool)) : PSt := W04_NamesUnion_J1_o0 v v2 o
noncomputable def W04_NamesUnion_J1 (v : (List Str)) (v2 : (List Str)) : Option ((Bool)) :=
  (W04_few v).bind fun r1 =>
  if (!r1) = true then
    some true
  else
    (W04_few v2).bind fun r3 =>
    some (!r3)
theorem W04_NamesUnion_J1_ok (v : (List Str)) (v2 : (List Str)) {x : (Bool)} (h : W04_NamesUnion_J1 v v2 = some x) :
    Sat Pg GE 0 (codeAt b5 [true, false, false]) (EX (W04_NamesUnion_J1_e x) (W04_NamesUnion_J1_s v v2 x)) (W04_NamesUnion_J1_S v v2) := by
  obtain ⟨r1, br1, h⟩ := bnd h
  rcases ifs h with ⟨c2, h⟩ | ⟨c2, h⟩
  · obtain rfl := lf h
    exact piece (A := A5) mixed [.c (.bool r1) [], .g 4 true] (Eq.mp (by kernel_rfl) (aI (W04_few_ok br1) <| aI c2 <| aI (rE (W04_NamesUnion_J1_e true)) <| fr (W04_NamesUnion_J1_s v v2 true)))
  · obtain ⟨r3, br3, h⟩ := bnd h
    obtain rfl := lf h
    exact piece (A := A5) mixed [.c (.bool r1) [], .g 4 false, .c (.bool r3) []] (Eq.mp (by kernel_rfl) (aI (W04_few_ok br1) <| aI c2 <| aI (W04_few_ok br3) <| aI (rE (W04_NamesUnion_J1_e (!r3))) <| fr (W04_NamesUnion_J1_s v v2 (!r3))))
noncomputable def W04_NamesUnion_L2_S (v : (List Str)) (v2 : (List Str)) (v3 : (List Str)) (turned : (List Str)) (t21 : Int) (t22 : Int) : PSt := ⟨[sl cS v, sl cS v2, u, u, u, sl cS v3, sl cS turned, u, u, u, u, u, u, u, u, u, u, u, u, u, u, .int .i64 t21, .int .i64 t22, u, u, u, u, u, u, u, u, u, u, u, u, u, u, u, u, u, u, u, u, u, u, u, u, u, u, u, u, u], [], [((5, 0), 9), ((6, 0), 9)]⟩
noncomputable def W04_NamesUnion_L2_o0 (v : (List Str)) (v2 : (List Str)) (v3 : (List Str)) (t21 : Int) (o : (List Str)) : PSt := ⟨[sl cS v, sl cS v2, u, u, u, sl cS v3, sl cS o, u, u, u, u, u, u, u, u, u, u, u, u, u, u, u, u, u, u, u, u, u, u, u, u, u, u, u, u, u, u, u, u, u, u, u, u, u, u, u, u, u, u, u, u, u], [], [((5, 0), 9), ((6, 0), 9)]⟩
noncomputable def W04_NamesUnion_L2_e (_ : ((List Str))) : Exit := .exit 0
noncomputable def W04_NamesUnion_L2_s (v : (List Str)) (v2 : (List Str)) (v3 : (List Str)) (t21 : Int) (o : ((List Str))) : PSt := W04_NamesUnion_L2_o0 v v2 v3 t21 o
noncomputable def W04_NamesUnion_L2_b (v : (List Str)) (t21 : Int) (turned : (List Str)) (t22 : Int) : Option (((List Str) × Int) ⊕ (((List Str)))) :=
  if (decide (t22 < t21)) = true then
    (idx v (w64 ((w64 ((v.length : Int) - 1)) - t22))).bind fun x9 =>
    (app turned ([x9] : List Str)).bind fun l10 =>
    some (.inl (l10, w64 (t22 + 1)))
  else
    some (.inr turned)
noncomputable def W04_NamesUnion_L2 (v : (List Str)) (t21 : Int) (turned : (List Str)) (t22 : Int) : Option (((List Str))) := loop (fun (zz : (List Str) × Int) => W04_NamesUnion_L2_b v t21 zz.1 zz.2) (turned, t22)
theorem W04_NamesUnion_L2_bok (v : (List Str)) (v2 : (List Str)) (v3 : (List Str)) (turned : (List Str)) (t21 : Int) (t22 : Int) {y : ((List Str) × Int) ⊕ (((List Str)))} (h : W04_NamesUnion_L2_b v t21 turned t22 = some y) :
    Sat Pg GE 0 (codeAt b5 [true, true, true, true, false, true, true, true]) (LQ (fun (zz : (List Str) × Int) => W04_NamesUnion_L2_S v v2 v3 zz.1 t21 zz.2) W04_NamesUnion_L2_e (W04_NamesUnion_L2_s v v2 v3 t21) y) (W04_NamesUnion_L2_S v v2 v3 turned t21 t22) := by
  rcases ifs h with ⟨c8, h⟩ | ⟨c8, h⟩
  · obtain ⟨x9, bx9, h⟩ := bnd h
    obtain ⟨l10, bl10, h⟩ := bnd h
    obtain rfl := lf h
    exact next (A := A5) mixed [.g 0 true, .v (.int .i64 (v.length : Int)), .v (.eptr (cS x9)), .v (.str x9), .v (sl cS ([x9] : List Str)), .v (sl cS l10)] (Eq.mp (by kernel_rfl) (aI c8 <| aI (sT26.ln v) <| aI (sT26.ia (k := .i64) bx9) <| aI (plook1 sc9 (.str x9) []) <| aI (sT26.mk' (v := PVal.str) pcS ([x9] : List Str) 1 (by kernel_rfl)) <| aI (sT26.ap bl10) <| aI (rE .normal) <| fr (W04_NamesUnion_L2_S v v2 v3 l10 t21 (w64 (t22 + 1)))))
  · obtain rfl := lf h
    exact over (A := A5) mixed [.g 0 false] (by intro hx; cases hx) (Eq.mp (by kernel_rfl) (aI c8 <| aI (rE (W04_NamesUnion_L2_e turned)) <| fr (W04_NamesUnion_L2_s v v2 v3 t21 turned)))
theorem W04_NamesUnion_L2_ok (v : (List Str)) (v2 : (List Str)) (v3 : (List Str)) (turned : (List Str)) (t21 : Int) (t22 : Int) {x : ((List Str))} (h : W04_NamesUnion_L2 v t21 turned t22 = some x) :
    Sat Pg GE 0 (.loop (codeAt b5 [true, true, true, true, false, true, true, true])) (EX (W04_NamesUnion_L2_e x) (W04_NamesUnion_L2_s v v2 v3 t21 x)) (W04_NamesUnion_L2_S v v2 v3 turned t21 t22) :=
  Sat.loop (S := fun (zz : (List Str) × Int) => W04_NamesUnion_L2_S v v2 v3 zz.1 t21 zz.2) h fun zz y hy => W04_NamesUnion_L2_bok v v2 v3 zz.1 t21 zz.2 hy
noncomputable def W04_NamesUnion (a : (List Str)) (a2 : (List Str)) : Option (Bool) :=
  (W04_NamesUnion_J1 a a2).bind fun o4 =>
  if o4 = true then
    (W04_alive).bind fun r6 =>
    some r6
  else
    (names_Union a a2).bind fun r7 =>
    (W04_NamesUnion_L2 a (a.length : Int) ([] : List Str) 0).bind fun o11 =>
    (R04_Union a a2).bind fun r12 =>
    (R04_Same r7 r12).bind fun r13 =>
    if r13 = true then
      (names_Union a2 o11).bind fun r15 =>
      (R04_Same r15 r7).bind fun r16 =>
      if r16 = true then
        (W04_alive).bind fun r18 =>
        some r18
      else
        some false
    else
      some false
theorem W04_NamesUnion_ok {a : (List Str)} {a2 : (List Str)} {r : Bool} (h : W04_NamesUnion a a2 = some r) : CC Pg GE 5 [sl cS a, sl cS a2] (.bool r) [] := by
  obtain ⟨o4, bo4, h⟩ := bnd h
  rcases ifs h with ⟨c5, h⟩ | ⟨c5, h⟩
  · obtain ⟨r6, br6, h⟩ := bnd h
    obtain rfl := lf h
    exact C.ev (A := A5) mixed Tryd.call5 Tryd.func5 (c := b5) rfl (aI (cl_sl clS a) (aI (cl_sl clS a2) trivial)) [.pa 2, .pc (W04_NamesUnion_J1_S a a2) (.normal) (W04_NamesUnion_J1_s a a2 o4), .g 0 true, .c (.bool r6) []] (Eq.mp (by kernel_rfl) (aI (fr (W04_NamesUnion_J1_S a a2)) <| aI (W04_NamesUnion_J1_ok a a2 bo4) <| aI c5 <| aI (W04_alive_ok br6) <| aI (rP (.bool r6)) <| trivial))
  · obtain ⟨r7, br7, h⟩ := bnd h
    obtain ⟨o11, bo11, h⟩ := bnd h
    obtain ⟨r12, br12, h⟩ := bnd h
    obtain ⟨r13, br13, h⟩ := bnd h
    rcases ifs h with ⟨c14, h⟩ | ⟨c14, h⟩
    · obtain ⟨r15, br15, h⟩ := bnd h
      obtain ⟨r16, br16, h⟩ := bnd h
      rcases ifs h with ⟨c17, h⟩ | ⟨c17, h⟩
      · obtain ⟨r18, br18, h⟩ := bnd h
        obtain rfl := lf h
        exact C.ev (A := A5) mixed Tryd.call5 Tryd.func5 (c := b5) rfl (aI (cl_sl clS a) (aI (cl_sl clS a2) trivial)) [.pa 2, .pc (W04_NamesUnion_J1_S a a2) (.normal) (W04_NamesUnion_J1_s a a2 o4), .g 0 false, .c (sl cS r7) [(0, 9)], .v (.int .i64 (a.length : Int)), .pc (W04_NamesUnion_L2_S a a2 r7 ([] : List Str) (a.length : Int) 0) (.exit 0) (W04_NamesUnion_L2_s a a2 r7 (a.length : Int) o11), .c (sl cS r12) [(0, 9)], .c (.bool r13) [], .g 6 true, .c (sl cS r15) [(0, 9)], .c (.bool r16) [], .g 13 true, .c (.bool r18) []] (Eq.mp (by kernel_rfl) (aI (fr (W04_NamesUnion_J1_S a a2)) <| aI (W04_NamesUnion_J1_ok a a2 bo4) <| aI c5 <| aI (names_Union_ok br7) <| aI (sT26.ln a) <| aI (fr (W04_NamesUnion_L2_S a a2 r7 ([] : List Str) (a.length : Int) 0)) <| aI (W04_NamesUnion_L2_ok a a2 r7 ([] : List Str) (a.length : Int) 0 bo11) <| aI (R04_Union_ok br12) <| aI (R04_Same_ok br13) <| aI c14 <| aI (names_Union_ok br15) <| aI (R04_Same_ok br16) <| aI c17 <| aI (W04_alive_ok br18) <| aI (rP (.bool r18)) <| trivial))
      · obtain rfl := lf h
        exact C.ev (A := A5) mixed Tryd.call5 Tryd.func5 (c := b5) rfl (aI (cl_sl clS a) (aI (cl_sl clS a2) trivial)) [.pa 2, .pc (W04_NamesUnion_J1_S a a2) (.normal) (W04_NamesUnion_J1_s a a2 o4), .g 0 false, .c (sl cS r7) [(0, 9)], .v (.int .i64 (a.length : Int)), .pc (W04_NamesUnion_L2_S a a2 r7 ([] : List Str) (a.length : Int) 0) (.exit 0) (W04_NamesUnion_L2_s a a2 r7 (a.length : Int) o11), .c (sl cS r12) [(0, 9)], .c (.bool r13) [], .g 6 true, .c (sl cS r15) [(0, 9)], .c (.bool r16) [], .g 13 false] (Eq.mp (by kernel_rfl) (aI (fr (W04_NamesUnion_J1_S a a2)) <| aI (W04_NamesUnion_J1_ok a a2 bo4) <| aI c5 <| aI (names_Union_ok br7) <| aI (sT26.ln a) <| aI (fr (W04_NamesUnion_L2_S a a2 r7 ([] : List Str) (a.length : Int) 0)) <| aI (W04_NamesUnion_L2_ok a a2 r7 ([] : List Str) (a.length : Int) 0 bo11) <| aI (R04_Union_ok br12) <| aI (R04_Same_ok br13) <| aI c14 <| aI (names_Union_ok br15) <| aI (R04_Same_ok br16) <| aI c17 <| aI (rP (.bool false)) <| trivial))
    · obtain rfl := lf h
      exact C.ev (A := A5) mixed Tryd.call5 Tryd.func5 (c := b5) rfl (aI (cl_sl clS a) (aI (cl_sl clS a2) trivial)) [.pa 2, .pc (W04_NamesUnion_J1_S a a2) (.normal) (W04_NamesUnion_J1_s a a2 o4), .g 0 false, .c (sl cS r7) [(0, 9)], .v (.int .i64 (a.length : Int)), .pc (W04_NamesUnion_L2_S a a2 r7 ([] : List Str) (a.length : Int) 0) (.exit 0) (W04_NamesUnion_L2_s a a2 r7 (a.length : Int) o11), .c (sl cS r12) [(0, 9)], .c (.bool r13) [], .g 6 false] (Eq.mp (by kernel_rfl) (aI (fr (W04_NamesUnion_J1_S a a2)) <| aI (W04_NamesUnion_J1_ok a a2 bo4) <| aI c5 <| aI (names_Union_ok br7) <| aI (sT26.ln a) <| aI (fr (W04_NamesUnion_L2_S a a2 r7 ([] : List Str) (a.length : Int) 0)) <| aI (W04_NamesUnion_L2_ok a a2 r7 ([] : List Str) (a.length : Int) 0 bo11) <| aI (R04_Union_ok br12) <| aI (R04_Same_ok br13) <| aI c14 <| aI (rP (.bool false)) <| trivial))

/-! liquidcheck/liquidchecklaw04.NamesApart -/
noncomputable def b6 : Code := Tryd.f6.body.getD .skip
def A6 : List Nat := []
noncomputable def W04_NamesApart_J1_S (s : Str) (name : Bool) (title : Bool) (core : Bool) : PSt := ⟨[.str s, u, u, .bool name, .bool title, .bool core, u, u, u, u, u, u, u, u, u, u, u, u, u, u, u, u, u, u, u, u, u, u, u, u, u, u, u, u, u, u, u, u, u, u, u, u, u, u, u, u, u, u, u, u, u, u, u, u, u, u, u, u, u, u, u, u, u, u, u, u, u, u, u, u, u, u, u, u], [], []⟩
noncomputable def W04_NamesApart_J1_o0 (s : Str) (name : Bool) (title : Bool) (core : Bool) (o : Bool) : PSt := ⟨[.str s, u, u, u, u, .bool core, u, u, u, u, u, u, u, u, u, u, u, u, u, u, u, u, u, u, u, u, u, u, u, u, u, u, u, u, u, u, u, u, u, u, u, u, u, u, u, .bool o, u, u, u, u, u, u, u, u, u, u, u, u, u, u, u, u, u, u, u, u, u, u, u, u, u, u, u, u], [], []⟩
noncomputable def W04_NamesApart_J1_e (_ : (Bool)) : Exit := .normal
noncomputable def W04_NamesApart_J1_s (s : Str) (name : Bool) (title : Bool) (core : Bool) (o : (Bool)) : PSt := W04_NamesApart_J1_o0 s name title core o
noncomputable def W04_NamesApart_J1 (s : Str) (name : Bool) (title : Bool) (core : Bool) : Option ((Bool)) :=
  if name = true then
    if title = true then
      some true
    else
      (names_Keyword s).bind fun r8 =>
      if r8 = true then
        if name = true then
          some true
        else
          if title = true then
            some true
          else
            if core = true then
              some true
            else
              if name = true then
                some (!core)
              else
                if title = true then
                  some (!core)
                else
                  some false
      else
        if name = true then
          some (!core)
        else
          if title = true then
            some (!core)
          else
            some false
  else
    (names_Keyword s).bind fun r17 =>
    if r17 = true then
      if name = true then
        some true
      else
        if title = true then
          some true
        else
          if core = true then
            some true
          else
            if name = true then
              some (!core)
            else
              if title = true then
                some (!core)
              else
                some false
    else
      if name = true then
        some (!core)
      else
        if title = true then
          some (!core)
        else
          some false
theorem W04_NamesApart_J1_ok (s : Str) (name : Bool) (title : Bool) (core : Bool) {x : (Bool)} (h : W04_NamesApart_J1 s name title core = some x) :
    Sat Pg GE 0 (codeAt b6 [true, true, true, false, false]) (EX (W04_NamesApart_J1_e x) (W04_NamesApart_J1_s s name title core x)) (W04_NamesApart_J1_S s name title core) := by
  rcases ifs h with ⟨c6, h⟩ | ⟨c6, h⟩
  · rcases ifs h with ⟨c7, h⟩ | ⟨c7, h⟩
    · obtain rfl := lf h
      exact piece (A := A6) mixed [.g 2 true, .g 5 true] (Eq.mp (by kernel_rfl) (aI c6 <| aI c7 <| aI (rE (W04_NamesApart_J1_e true)) <| fr (W04_NamesApart_J1_s s name title core true)))
    · obtain ⟨r8, br8, h⟩ := bnd h
      rcases ifs h with ⟨c9, h⟩ | ⟨c9, h⟩
      · rcases ifs h with ⟨c10, h⟩ | ⟨c10, h⟩
        · obtain rfl := lf h
          exact piece (A := A6) mixed [.g 2 true, .g 5 false, .c (.bool r8) [], .g 8 true, .g 10 true] (Eq.mp (by kernel_rfl) (aI c6 <| aI c7 <| aI (names_Keyword_ok br8) <| aI c9 <| aI c10 <| aI (rE (W04_NamesApart_J1_e true)) <| fr (W04_NamesApart_J1_s s name title core true)))
        · rcases ifs h with ⟨c11, h⟩ | ⟨c11, h⟩
          · obtain rfl := lf h
            exact piece (A := A6) mixed [.g 2 true, .g 5 false, .c (.bool r8) [], .g 8 true, .g 10 false, .g 13 true] (Eq.mp (by kernel_rfl) (aI c6 <| aI c7 <| aI (names_Keyword_ok br8) <| aI c9 <| aI c10 <| aI c11 <| aI (rE (W04_NamesApart_J1_e true)) <| fr (W04_NamesApart_J1_s s name title core true)))
          · rcases ifs h with ⟨c12, h⟩ | ⟨c12, h⟩
            · obtain rfl := lf h
              exact piece (A := A6) mixed [.g 2 true, .g 5 false, .c (.bool r8) [], .g 8 true, .g 10 false, .g 13 false, .g 18 true] (Eq.mp (by kernel_rfl) (aI c6 <| aI c7 <| aI (names_Keyword_ok br8) <| aI c9 <| aI c10 <| aI c11 <| aI c12 <| aI (rE (W04_NamesApart_J1_e true)) <| fr (W04_NamesApart_J1_s s name title core true)))
            · rcases ifs h with ⟨c13, h⟩ | ⟨c13, h⟩
              · obtain rfl := lf h
                exact piece (A := A6) mixed [.g 2 true, .g 5 false, .c (.bool r8) [], .g 8 true, .g 10 false, .g 13 false, .g 18 false, .g 20 true] (Eq.mp (by kernel_rfl) (aI c6 <| aI c7 <| aI (names_Keyword_ok br8) <| aI c9 <| aI c10 <| aI c11 <| aI c12 <| aI c13 <| aI (rE (W04_NamesApart_J1_e (!core))) <| fr (W04_NamesApart_J1_s s name title core (!core))))
              · rcases ifs h with ⟨c14, h⟩ | ⟨c14, h⟩
                · obtain rfl := lf h
                  exact piece (A := A6) mixed [.g 2 true, .g 5 false, .c (.bool r8) [], .g 8 true, .g 10 false, .g 13 false, .g 18 false, .g 20 false, .g 23 true] (Eq.mp (by kernel_rfl) (aI c6 <| aI c7 <| aI (names_Keyword_ok br8) <| aI c9 <| aI c10 <| aI c11 <| aI c12 <| aI c13 <| aI c14 <| aI (rE (W04_NamesApart_J1_e (!core))) <| fr (W04_NamesApart_J1_s s name title core (!core))))
                · obtain rfl := lf h
                  exact piece (A := A6) mixed [.g 2 true, .g 5 false, .c (.bool r8) [], .g 8 true, .g 10 false, .g 13 false, .g 18 false, .g 20 false, .g 23 false] (Eq.mp (by kernel_rfl) (aI c6 <| aI c7 <| aI (names_Keyword_ok br8) <| aI c9 <| aI c10 <| aI c11 <| aI c12 <| aI c13 <| aI c14 <| aI (rE (W04_NamesApart_J1_e false)) <| fr (W04_NamesApart_J1_s s name title core false)))
      · rcases ifs h with ⟨c15, h⟩ | ⟨c15, h⟩
        · obtain rfl := lf h
          exact piece (A := A6) mixed [.g 2 true, .g 5 false, .c (.bool r8) [], .g 8 false, .g 20 true] (Eq.mp (by kernel_rfl) (aI c6 <| aI c7 <| aI (names_Keyword_ok br8) <| aI c9 <| aI c15 <| aI (rE (W04_NamesApart_J1_e (!core))) <| fr (W04_NamesApart_J1_s s name title core (!core))))
        · rcases ifs h with ⟨c16, h⟩ | ⟨c16, h⟩
          · obtain rfl := lf h
            exact piece (A := A6) mixed [.g 2 true, .g 5 false, .c (.bool r8) [], .g 8 false, .g 20 false, .g 23 true] (Eq.mp (by kernel_rfl) (aI c6 <| aI c7 <| aI (names_Keyword_ok br8) <| aI c9 <| aI c15 <| aI c16 <| aI (rE (W04_NamesApart_J1_e (!core))) <| fr (W04_NamesApart_J1_s s name title core (!core))))
          · obtain rfl := lf h
            exact piece (A := A6) mixed [.g 2 true, .g 5 false, .c (.bool r8) [], .g 8 false, .g 20 false, .g 23 false] (Eq.mp (by kernel_rfl) (aI c6 <| aI c7 <| aI (names_Keyword_ok br8) <| aI c9 <| aI c15 <| aI c16 <| aI (rE (W04_NamesApart_J1_e false)) <| fr (W04_NamesApart_J1_s s name title core false)))
  · obtain ⟨r17, br17, h⟩ := bnd h
    rcases ifs h with ⟨c18, h⟩ | ⟨c18, h⟩
    · rcases ifs h with ⟨c19, h⟩ | ⟨c19, h⟩
      · obtain rfl := lf h
        exact piece (A := A6) mixed [.g 2 false, .c (.bool r17) [], .g 8 true, .g 10 true] (Eq.mp (by kernel_rfl) (aI c6 <| aI (names_Keyword_ok br17) <| aI c18 <| aI c19 <| aI (rE (W04_NamesApart_J1_e true)) <| fr (W04_NamesApart_J1_s s name title core true)))
      · rcases ifs h with ⟨c20, h⟩ | ⟨c20, h⟩
        · obtain rfl := lf h
          exact piece (A := A6) mixed [.g 2 false, .c (.bool r17) [], .g 8 true, .g 10 false, .g 13 true] (Eq.mp (by kernel_rfl) (aI c6 <| aI (names_Keyword_ok br17) <| aI c18 <| aI c19 <| aI c20 <| aI (rE (W04_NamesApart_J1_e true)) <| fr (W04_NamesApart_J1_s s name title core true)))
        · rcases ifs h with ⟨c21, h⟩ | ⟨c21, h⟩
          · obtain rfl := lf h
            exact piece (A := A6) mixed [.g 2 false, .c (.bool r17) [], .g 8 true, .g 10 false, .g 13 false, .g 18 true] (Eq.mp (by kernel_rfl) (aI c6 <| aI (names_Keyword_ok br17) <| aI c18 <| aI c19 <| aI c20 <| aI c21 <| aI (rE (W04_NamesApart_J1_e true)) <| fr (W04_NamesApart_J1_s s name title core true)))
          · rcases ifs h with ⟨c22, h⟩ | ⟨c22, h⟩
            · obtain rfl := lf h
              exact piece (A := A6) mixed [.g 2 false, .c (.bool r17) [], .g 8 true, .g 10 false, .g 13 false, .g 18 false, .g 20 true] (Eq.mp (by kernel_rfl) (aI c6 <| aI (names_Keyword_ok br17) <| aI c18 <| aI c19 <| aI c20 <| aI c21 <| aI c22 <| aI (rE (W04_NamesApart_J1_e (!core))) <| fr (W04_NamesApart_J1_s s name title core (!core))))
            · rcases ifs h with ⟨c23, h⟩ | ⟨c23, h⟩
              · obtain rfl := lf h
                exact piece (A := A6) mixed [.g 2 false, .c (.bool r17) [], .g 8 true, .g 10 false, .g 13 false, .g 18 false, .g 20 false, .g 23 true] (Eq.mp (by kernel_rfl) (aI c6 <| aI (names_Keyword_ok br17) <| aI c18 <| aI c19 <| aI c20 <| aI c21 <| aI c22 <| aI c23 <| aI (rE (W04_NamesApart_J1_e (!core))) <| fr (W04_NamesApart_J1_s s name title core (!core))))
              · obtain rfl := lf h
                exact piece (A := A6) mixed [.g 2 false, .c (.bool r17) [], .g 8 true, .g 10 false, .g 13 false, .g 18 false, .g 20 false, .g 23 false] (Eq.mp (by kernel_rfl) (aI c6 <| aI (names_Keyword_ok br17) <| aI c18 <| aI c19 <| aI c20 <| aI c21 <| aI c22 <| aI c23 <| aI (rE (W04_NamesApart_J1_e false)) <| fr (W04_NamesApart_J1_s s name title core false)))
    · rcases ifs h with ⟨c24, h⟩ | ⟨c24, h⟩
      · obtain rfl := lf h
        exact piece (A := A6) mixed [.g 2 false, .c (.bool r17) [], .g 8 false, .g 20 true] (Eq.mp (by kernel_rfl) (aI c6 <| aI (names_Keyword_ok br17) <| aI c18 <| aI c24 <| aI (rE (W04_NamesApart_J1_e (!core))) <| fr (W04_NamesApart_J1_s s name title core (!core))))
      · rcases ifs h with ⟨c25, h⟩ | ⟨c25, h⟩
        · obtain rfl := lf h
          exact piece (A := A6) mixed [.g 2 false, .c (.bool r17) [], .g 8 false, .g 20 false, .g 23 true] (Eq.mp (by kernel_rfl) (aI c6 <| aI (names_Keyword_ok br17) <| aI c18 <| aI c24 <| aI c25 <| aI (rE (W04_NamesApart_J1_e (!core))) <| fr (W04_NamesApart_J1_s s name title core (!core))))
        · obtain rfl := lf h
          exact piece (A := A6) mixed [.g 2 false, .c (.bool r17) [], .g 8 false, .g 20 false, .g 23 false] (Eq.mp (by kernel_rfl) (aI c6 <| aI (names_Keyword_ok br17) <| aI c18 <| aI c24 <| aI c25 <| aI (rE (W04_NamesApart_J1_e false)) <| fr (W04_NamesApart_J1_s s name title core false)))
noncomputable def W04_NamesApart (s : Str) : Option (Bool) :=
  if (decide ((s.length : Int) > 10000)) = true then
    (W04_alive).bind fun r2 =>
    some r2
  else
    (names_Check s).bind fun r3 =>
    (names_Title s).bind fun r4 =>
    (names_Core s).bind fun r5 =>
    (W04_NamesApart_J1 s (r3 == 0) (r4 == 0) (r5 == 0)).bind fun o26 =>
    if o26 = true then
      some false
    else
      if (!(r5 == 0)) = true then
        (W04_alive).bind fun r29 =>
        some r29
      else
        if (decide ((s.length : Int) > 118)) = true then
          (W04_alive).bind fun r31 =>
          some r31
        else
          (cat s ([46, 97] : Str)).bind fun s32 =>
          (names_Core s32).bind fun r33 =>
          if (r33 == 0) = true then
            (cat s ([46] : Str)).bind fun s35 =>
            (names_Core s35).bind fun r36 =>
            if (r36 == 3) = true then
              (cat s ([46, 95] : Str)).bind fun s38 =>
              (names_Core s38).bind fun r39 =>
              if (r39 == 3) = true then
                (W04_alive).bind fun r41 =>
                some r41
              else
                some false
            else
              some false
          else
            some false
theorem W04_NamesApart_ok {s : Str} {r : Bool} (h : W04_NamesApart s = some r) : CC Pg GE 6 [.str s] (.bool r) [] := by
  rcases ifs h with ⟨c1, h⟩ | ⟨c1, h⟩
  · obtain ⟨r2, br2, h⟩ := bnd h
    obtain rfl := lf h
    exact C.ev (A := A6) mixed Tryd.call6 Tryd.func6 (c := b6) rfl (aI trivial trivial) [.v (.int .i64 (s.length : Int)), .g 0 true, .c (.bool r2) []] (Eq.mp (by kernel_rfl) (aI (strLn Tryd.underlying9 s) <| aI c1 <| aI (W04_alive_ok br2) <| aI (rP (.bool r2)) <| trivial))
  · obtain ⟨r3, br3, h⟩ := bnd h
    obtain ⟨r4, br4, h⟩ := bnd h
    obtain ⟨r5, br5, h⟩ := bnd h
    obtain ⟨o26, bo26, h⟩ := bnd h
    rcases ifs h with ⟨c27, h⟩ | ⟨c27, h⟩
    · obtain rfl := lf h
      exact C.ev (A := A6) mixed Tryd.call6 Tryd.func6 (c := b6) rfl (aI trivial trivial) [.v (.int .i64 (s.length : Int)), .g 0 false, .c (.int .i64 r3) [], .c (.int .i64 r4) [], .c (.int .i64 r5) [], .pa 1, .pc (W04_NamesApart_J1_S s (r3 == 0) (r4 == 0) (r5 == 0)) (.normal) (W04_NamesApart_J1_s s (r3 == 0) (r4 == 0) (r5 == 0) o26), .g 0 true] (Eq.mp (by kernel_rfl) (aI (strLn Tryd.underlying9 s) <| aI c1 <| aI (names_Check_ok br3) <| aI (names_Title_ok br4) <| aI (names_Core_ok br5) <| aI (fr (W04_NamesApart_J1_S s (r3 == 0) (r4 == 0) (r5 == 0))) <| aI (W04_NamesApart_J1_ok s (r3 == 0) (r4 == 0) (r5 == 0) bo26) <| aI c27 <| aI (rP (.bool false)) <| trivial))
    · rcases ifs h with ⟨c28, h⟩ | ⟨c28, h⟩
      · obtain ⟨r29, br29, h⟩ := bnd h
        obtain rfl := lf h
        exact C.ev (A := A6) mixed Tryd.call6 Tryd.func6 (c := b6) rfl (aI trivial trivial) [.v (.int .i64 (s.length : Int)), .g 0 false, .c (.int .i64 r3) [], .c (.int .i64 r4) [], .c (.int .i64 r5) [], .pa 1, .pc (W04_NamesApart_J1_S s (r3 == 0) (r4 == 0) (r5 == 0)) (.normal) (W04_NamesApart_J1_s s (r3 == 0) (r4 == 0) (r5 == 0) o26), .g 0 false, .g 3 true, .c (.bool r29) []] (Eq.mp (by kernel_rfl) (aI (strLn Tryd.underlying9 s) <| aI c1 <| aI (names_Check_ok br3) <| aI (names_Title_ok br4) <| aI (names_Core_ok br5) <| aI (fr (W04_NamesApart_J1_S s (r3 == 0) (r4 == 0) (r5 == 0))) <| aI (W04_NamesApart_J1_ok s (r3 == 0) (r4 == 0) (r5 == 0) bo26) <| aI c27 <| aI c28 <| aI (W04_alive_ok br29) <| aI (rP (.bool r29)) <| trivial))
      · rcases ifs h with ⟨c30, h⟩ | ⟨c30, h⟩
        · obtain ⟨r31, br31, h⟩ := bnd h
          obtain rfl := lf h
          exact C.ev (A := A6) mixed Tryd.call6 Tryd.func6 (c := b6) rfl (aI trivial trivial) [.v (.int .i64 (s.length : Int)), .g 0 false, .c (.int .i64 r3) [], .c (.int .i64 r4) [], .c (.int .i64 r5) [], .pa 1, .pc (W04_NamesApart_J1_S s (r3 == 0) (r4 == 0) (r5 == 0)) (.normal) (W04_NamesApart_J1_s s (r3 == 0) (r4 == 0) (r5 == 0) o26), .g 0 false, .g 3 false, .v (.int .i64 (s.length : Int)), .g 8 true, .c (.bool r31) []] (Eq.mp (by kernel_rfl) (aI (strLn Tryd.underlying9 s) <| aI c1 <| aI (names_Check_ok br3) <| aI (names_Title_ok br4) <| aI (names_Core_ok br5) <| aI (fr (W04_NamesApart_J1_S s (r3 == 0) (r4 == 0) (r5 == 0))) <| aI (W04_NamesApart_J1_ok s (r3 == 0) (r4 == 0) (r5 == 0) bo26) <| aI c27 <| aI c28 <| aI (strLn Tryd.underlying9 s) <| aI c30 <| aI (W04_alive_ok br31) <| aI (rP (.bool r31)) <| trivial))
        · obtain ⟨s32, bs32, h⟩ := bnd h
          obtain ⟨r33, br33, h⟩ := bnd h
          rcases ifs h with ⟨c34, h⟩ | ⟨c34, h⟩
          · obtain ⟨s35, bs35, h⟩ := bnd h
            obtain ⟨r36, br36, h⟩ := bnd h
            rcases ifs h with ⟨c37, h⟩ | ⟨c37, h⟩
            · obtain ⟨s38, bs38, h⟩ := bnd h
              obtain ⟨r39, br39, h⟩ := bnd h
              rcases ifs h with ⟨c40, h⟩ | ⟨c40, h⟩
              · obtain ⟨r41, br41, h⟩ := bnd h
                obtain rfl := lf h
                exact C.ev (A := A6) mixed Tryd.call6 Tryd.func6 (c := b6) rfl (aI trivial trivial) [.v (.int .i64 (s.length : Int)), .g 0 false, .c (.int .i64 r3) [], .c (.int .i64 r4) [], .c (.int .i64 r5) [], .pa 1, .pc (W04_NamesApart_J1_S s (r3 == 0) (r4 == 0) (r5 == 0)) (.normal) (W04_NamesApart_J1_s s (r3 == 0) (r4 == 0) (r5 == 0) o26), .g 0 false, .g 3 false, .v (.int .i64 (s.length : Int)), .g 8 false, .v (.str s32), .c (.int .i64 r33) [], .g 13 true, .v (.str s35), .c (.int .i64 r36) [], .g 19 true, .v (.str s38), .c (.int .i64 r39) [], .g 26 true, .c (.bool r41) []] (Eq.mp (by kernel_rfl) (aI (strLn Tryd.underlying9 s) <| aI c1 <| aI (names_Check_ok br3) <| aI (names_Title_ok br4) <| aI (names_Core_ok br5) <| aI (fr (W04_NamesApart_J1_S s (r3 == 0) (r4 == 0) (r5 == 0))) <| aI (W04_NamesApart_J1_ok s (r3 == 0) (r4 == 0) (r5 == 0) bo26) <| aI c27 <| aI c28 <| aI (strLn Tryd.underlying9 s) <| aI c30 <| aI (strCat (P := Pg) (t := 9) bs32) <| aI (names_Core_ok br33) <| aI c34 <| aI (strCat (P := Pg) (t := 9) bs35) <| aI (names_Core_ok br36) <| aI c37 <| aI (strCat (P := Pg) (t := 9) bs38) <| aI (names_Core_ok br39) <| aI c40 <| aI (W04_alive_ok br41) <| aI (rP (.bool r41)) <| trivial))
              · obtain rfl := lf h
                exact C.ev (A := A6) mixed Tryd.call6 Tryd.func6 (c := b6) rfl (aI trivial trivial) [.v (.int .i64 (s.length : Int)), .g 0 false, .c (.int .i64 r3) [], .c (.int .i64 r4) [], .c (.int .i64 r5) [], .pa 1, .pc (W04_NamesApart_J1_S s (r3 == 0) (r4 == 0) (r5 == 0)) (.normal) (W04_NamesApart_J1_s s (r3 == 0) (r4 == 0) (r5 == 0) o26), .g 0 false, .g 3 false, .v (.int .i64 (s.length : Int)), .g 8 false, .v (.str s32), .c (.int .i64 r33) [], .g 13 true, .v (.str s35), .c (.int .i64 r36) [], .g 19 true, .v (.str s38), .c (.int .i64 r39) [], .g 26 false] (Eq.mp (by kernel_rfl) (aI (strLn Tryd.underlying9 s) <| aI c1 <| aI (names_Check_ok br3) <| aI (names_Title_ok br4) <| aI (names_Core_ok br5) <| aI (fr (W04_NamesApart_J1_S s (r3 == 0) (r4 == 0) (r5 == 0))) <| aI (W04_NamesApart_J1_ok s (r3 == 0) (r4 == 0) (r5 == 0) bo26) <| aI c27 <| aI c28 <| aI (strLn Tryd.underlying9 s) <| aI c30 <| aI (strCat (P := Pg) (t := 9) bs32) <| aI (names_Core_ok br33) <| aI c34 <| aI (strCat (P := Pg) (t := 9) bs35) <| aI (names_Core_ok br36) <| aI c37 <| aI (strCat (P := Pg) (t := 9) bs38) <| aI (names_Core_ok br39) <| aI c40 <| aI (rP (.bool false)) <| trivial))
            · obtain rfl := lf h
              exact C.ev (A := A6) mixed Tryd.call6 Tryd.func6 (c := b6) rfl (aI trivial trivial) [.v (.int .i64 (s.length : Int)), .g 0 false, .c (.int .i64 r3) [], .c (.int .i64 r4) [], .c (.int .i64 r5) [], .pa 1, .pc (W04_NamesApart_J1_S s (r3 == 0) (r4 == 0) (r5 == 0)) (.normal) (W04_NamesApart_J1_s s (r3 == 0) (r4 == 0) (r5 == 0) o26), .g 0 false, .g 3 false, .v (.int .i64 (s.length : Int)), .g 8 false, .v (.str s32), .c (.int .i64 r33) [], .g 13 true, .v (.str s35), .c (.int .i64 r36) [], .g 19 false] (Eq.mp (by kernel_rfl) (aI (strLn Tryd.underlying9 s) <| aI c1 <| aI (names_Check_ok br3) <| aI (names_Title_ok br4) <| aI (names_Core_ok br5) <| aI (fr (W04_NamesApart_J1_S s (r3 == 0) (r4 == 0) (r5 == 0))) <| aI (W04_NamesApart_J1_ok s (r3 == 0) (r4 == 0) (r5 == 0) bo26) <| aI c27 <| aI c28 <| aI (strLn Tryd.underlying9 s) <| aI c30 <| aI (strCat (P := Pg) (t := 9) bs32) <| aI (names_Core_ok br33) <| aI c34 <| aI (strCat (P := Pg) (t := 9) bs35) <| aI (names_Core_ok br36) <| aI c37 <| aI (rP (.bool false)) <| trivial))
          · obtain rfl := lf h
            exact C.ev (A := A6) mixed Tryd.call6 Tryd.func6 (c := b6) rfl (aI trivial trivial) [.v (.int .i64 (s.length : Int)), .g 0 false, .c (.int .i64 r3) [], .c (.int .i64 r4) [], .c (.int .i64 r5) [], .pa 1, .pc (W04_NamesApart_J1_S s (r3 == 0) (r4 == 0) (r5 == 0)) (.normal) (W04_NamesApart_J1_s s (r3 == 0) (r4 == 0) (r5 == 0) o26), .g 0 false, .g 3 false, .v (.int .i64 (s.length : Int)), .g 8 false, .v (.str s32), .c (.int .i64 r33) [], .g 13 false] (Eq.mp (by kernel_rfl) (aI (strLn Tryd.underlying9 s) <| aI c1 <| aI (names_Check_ok br3) <| aI (names_Title_ok br4) <| aI (names_Core_ok br5) <| aI (fr (W04_NamesApart_J1_S s (r3 == 0) (r4 == 0) (r5 == 0))) <| aI (W04_NamesApart_J1_ok s (r3 == 0) (r4 == 0) (r5 == 0) bo26) <| aI c27 <| aI c28 <| aI (strLn Tryd.underlying9 s) <| aI c30 <| aI (strCat (P := Pg) (t := 9) bs32) <| aI (names_Core_ok br33) <| aI c34 <| aI (rP (.bool false)) <| trivial))

/-! liquidcheck/names.Distinct -/
noncomputable def b26 : Code := Tryd.f26.body.getD .skip
def A26 : List Nat := []
noncomputable def names_Distinct_L1_S (t7 : (List Str)) (t8 : Int) (t9 : Int) (m0 : (List (Str × Bool))) : PSt := ⟨[u, u, u, .mapr 0, u, u, u, sl cS t7, .int .i64 t8, .int .i64 t9, u, u, u, u, u, u, u, u, u], [.map (encM PVal.bool m0)], []⟩
noncomputable def names_Distinct_L1_o0 (t7 : (List Str)) (t8 : Int) (o : (List (Str × Bool))) : PSt := ⟨[u, u, .bool false, u, u, u, u, u, u, u, u, u, u, u, u, u, u, u, u], [.map (encM PVal.bool o)], []⟩
noncomputable def names_Distinct_L1_o1 (t7 : (List Str)) (t8 : Int) (o : (List (Str × Bool))) : PSt := ⟨[u, u, u, u, u, u, u, u, u, u, u, u, u, u, u, u, u, u, u], [.map (encM PVal.bool o)], []⟩
noncomputable def names_Distinct_L1_e (o : ((List (Str × Bool))) ⊕ ((List (Str × Bool)))) : Exit := match o with
  | (.inl _) => .ret
  | (.inr _) => .exit 0
noncomputable def names_Distinct_L1_s (t7 : (List Str)) (t8 : Int) (o : ((List (Str × Bool))) ⊕ ((List (Str × Bool)))) : PSt := match o with
  | (.inl o) => names_Distinct_L1_o0 t7 t8 o
  | (.inr o) => names_Distinct_L1_o1 t7 t8 o
noncomputable def names_Distinct_L1_b (t7 : (List Str)) (t8 : Int) (t9 : Int) (m0 : (List (Str × Bool))) : Option ((Int × (List (Str × Bool))) ⊕ (((List (Str × Bool))) ⊕ ((List (Str × Bool))))) :=
  if (decide (t9 < t8)) = true then
    (idx t7 t9).bind fun x2 =>
    if ((mget m0 x2).getD false) = true then
      some (.inr (.inl m0))
    else
      some (.inl (w64 (t9 + 1), mput m0 x2 true))
  else
    some (.inr (.inr m0))
noncomputable def names_Distinct_L1 (t7 : (List Str)) (t8 : Int) (t9 : Int) (m0 : (List (Str × Bool))) : Option (((List (Str × Bool))) ⊕ ((List (Str × Bool)))) := loop (fun (zz : Int × (List (Str × Bool))) => names_Distinct_L1_b t7 t8 zz.1 zz.2) (t9, m0)
theorem names_Distinct_L1_bok (t7 : (List Str)) (t8 : Int) (t9 : Int) (m0 : (List (Str × Bool))) {y : (Int × (List (Str × Bool))) ⊕ (((List (Str × Bool))) ⊕ ((List (Str × Bool))))} (h : names_Distinct_L1_b t7 t8 t9 m0 = some y) :
    Sat Pg GE 0 (codeAt b26 [true, true, false, true, true, true]) (LQ (fun (zz : Int × (List (Str × Bool))) => names_Distinct_L1_S t7 t8 zz.1 zz.2) names_Distinct_L1_e (names_Distinct_L1_s t7 t8) y) (names_Distinct_L1_S t7 t8 t9 m0) := by
  rcases ifs h with ⟨c1, h⟩ | ⟨c1, h⟩
  · obtain ⟨x2, bx2, h⟩ := bnd h
    rcases ifs h with ⟨c3, h⟩ | ⟨c3, h⟩
    · obtain rfl := lf h
      exact over (A := A26) mixed [.g 0 true, .v (.eptr (cS x2)), .v (.str x2), .v (.bool ((mget m0 x2).getD false)), .g 0 true] (by intro hx; cases hx) (Eq.mp (by kernel_rfl) (aI c1 <| aI (sT26.ia (k := .i64) bx2) <| aI (plook1 sc9 (.str x2) []) <| aI (mapGet (f := PVal.bool) Tryd.underlying40 Tryd.underlying9 zv4 m0 x2) <| aI c3 <| aI (rE (names_Distinct_L1_e (.inl m0))) <| fr (names_Distinct_L1_s t7 t8 (.inl m0))))
    · obtain rfl := lf h
      exact next (A := A26) mixed [.g 0 true, .v (.eptr (cS x2)), .v (.str x2), .v (.bool ((mget m0 x2).getD false)), .g 0 false, .w 0 (.map (encM PVal.bool (mput m0 x2 true)))] (Eq.mp (by kernel_rfl) (aI c1 <| aI (sT26.ia (k := .i64) bx2) <| aI (plook1 sc9 (.str x2) []) <| aI (mapGet (f := PVal.bool) Tryd.underlying40 Tryd.underlying9 zv4 m0 x2) <| aI c3 <| aI (mapPut (f := PVal.bool) Tryd.underlying40 Tryd.underlying9 m0 x2 true) <| aI (rE .normal) <| fr (names_Distinct_L1_S t7 t8 (w64 (t9 + 1)) (mput m0 x2 true))))
  · obtain rfl := lf h
    exact over (A := A26) mixed [.g 0 false] (by intro hx; cases hx) (Eq.mp (by kernel_rfl) (aI c1 <| aI (rE (names_Distinct_L1_e (.inr m0))) <| fr (names_Distinct_L1_s t7 t8 (.inr m0))))
theorem names_Distinct_L1_ok (t7 : (List Str)) (t8 : Int) (t9 : Int) (m0 : (List (Str × Bool))) {x : ((List (Str × Bool))) ⊕ ((List (Str × Bool)))} (h : names_Distinct_L1 t7 t8 t9 m0 = some x) :
    Sat Pg GE 0 (.loop (codeAt b26 [true, true, false, true, true, true])) (EX (names_Distinct_L1_e x) (names_Distinct_L1_s t7 t8 x)) (names_Distinct_L1_S t7 t8 t9 m0) :=
  Sat.loop (S := fun (zz : Int × (List (Str × Bool))) => names_Distinct_L1_S t7 t8 zz.1 zz.2) h fun zz y hy => names_Distinct_L1_bok t7 t8 zz.1 zz.2 hy
noncomputable def names_Distinct (a : (List Str)) : Option (Bool) :=
  (names_Distinct_L1 a (a.length : Int) 0 ([] : List (Str × Bool))).bind fun o4 => match o4 with
  | (.inl o4) =>
    some false
  | (.inr o4) =>
    some true
theorem names_Distinct_ok {a : (List Str)} {r : Bool} (h : names_Distinct a = some r) : CC Pg GE 26 [sl cS a] (.bool r) [] := by
  obtain ⟨o4, bo4, h⟩ := bnd h
  rcases o4 with o4 | o4
  · obtain rfl := lf h
    exact C.ev (A := A26) mixed Tryd.call26 Tryd.func26 (c := b26) rfl (aI (cl_sl clS a) trivial) [.v (.int .i64 (a.length : Int)), .pc (names_Distinct_L1_S a (a.length : Int) 0 ([] : List (Str × Bool))) (.ret) (names_Distinct_L1_s a (a.length : Int) (.inl o4))] (Eq.mp (by kernel_rfl) (aI (sT26.ln a) <| aI (fr (names_Distinct_L1_S a (a.length : Int) 0 ([] : List (Str × Bool)))) <| aI (names_Distinct_L1_ok a (a.length : Int) 0 ([] : List (Str × Bool)) bo4) <| aI (rP (.bool false)) <| trivial))
  · obtain rfl := lf h
    exact C.ev (A := A26) mixed Tryd.call26 Tryd.func26 (c := b26) rfl (aI (cl_sl clS a) trivial) [.v (.int .i64 (a.length : Int)), .pc (names_Distinct_L1_S a (a.length : Int) 0 ([] : List (Str × Bool))) (.exit 0) (names_Distinct_L1_s a (a.length : Int) (.inr o4))] (Eq.mp (by kernel_rfl) (aI (sT26.ln a) <| aI (fr (names_Distinct_L1_S a (a.length : Int) 0 ([] : List (Str × Bool)))) <| aI (names_Distinct_L1_ok a (a.length : Int) 0 ([] : List (Str × Bool)) bo4) <| aI (rP (.bool true)) <| trivial))
end Go.Proofs.YtgiimiklbabhcaaDoor
