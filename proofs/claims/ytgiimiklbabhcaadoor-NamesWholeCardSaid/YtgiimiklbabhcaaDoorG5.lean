/-
  WHAT IS PROVED: what functions come to, as functions of plain data: liquidchecklaw04.NamesLists, liquidchecklaw04.NamesWhole, liquidcheckref04.Distinct. Conditions: none. Printed by gen.py out of the seat's translation.
-/
import Derived.Test.YtgiimiklbabhcaaDoorG4
namespace Go.Proofs.YtgiimiklbabhcaaDoor
open Go
set_option linter.unusedVariables false
set_option maxRecDepth 100000

/-! liquidcheck/liquidcheckref04.Distinct -/
noncomputable def b27 : Code := Tryd.f27.body.getD .skip
def A27 : List Nat := [8]
noncomputable def R04_Distinct_L1_S (v : (List Str)) (t5 : Int) (t6 : Int) : PSt := ⟨[sl cS v, u, u, u, u, .int .i64 t5, .int .i64 t6, u, u, u, u, u, u, u, u, u, u, u], [], []⟩
noncomputable def R04_Distinct_L1_o0 (v : (List Str)) (t5 : Int) (o : Unit) : PSt := ⟨[u, u, .bool false, u, u, u, u, u, u, u, u, u, u, u, u, u, u, u], [], []⟩
noncomputable def R04_Distinct_L1_o1 (v : (List Str)) (t5 : Int) (o : Unit) : PSt := ⟨[u, u, u, u, u, u, u, u, u, u, u, u, u, u, u, u, u, u], [], []⟩
noncomputable def R04_Distinct_L1_e (o : (Unit) ⊕ (Unit)) : Exit := match o with
  | (.inl _) => .ret
  | (.inr _) => .exit 0
noncomputable def R04_Distinct_L1_s (v : (List Str)) (t5 : Int) (o : (Unit) ⊕ (Unit)) : PSt := match o with
  | (.inl o) => R04_Distinct_L1_o0 v t5 o
  | (.inr o) => R04_Distinct_L1_o1 v t5 o
noncomputable def R04_Distinct_L1_b (v : (List Str)) (t5 : Int) (t6 : Int) : Option ((Int) ⊕ ((Unit) ⊕ (Unit))) :=
  if (decide (t6 < t5)) = true then
    (idx v t6).bind fun x2 =>
    (R04_Find v x2).bind fun r3 =>
    if (r3 != t6) = true then
      some (.inr (.inl ()))
    else
      some (.inl (w64 (t6 + 1)))
  else
    some (.inr (.inr ()))
noncomputable def R04_Distinct_L1 (v : (List Str)) (t5 : Int) (t6 : Int) : Option ((Unit) ⊕ (Unit)) := loop (fun (zz : Int) => R04_Distinct_L1_b v t5 zz) t6
theorem R04_Distinct_L1_bok (v : (List Str)) (t5 : Int) (t6 : Int) {y : (Int) ⊕ ((Unit) ⊕ (Unit))} (h : R04_Distinct_L1_b v t5 t6 = some y) :
    Sat Pg GE 0 (codeAt b27 [true, false, true, true, true]) (LQ (fun (zz : Int) => R04_Distinct_L1_S v t5 zz) R04_Distinct_L1_e (R04_Distinct_L1_s v t5) y) (R04_Distinct_L1_S v t5 t6) := by
  rcases ifs h with ⟨c1, h⟩ | ⟨c1, h⟩
  · obtain ⟨x2, bx2, h⟩ := bnd h
    obtain ⟨r3, br3, h⟩ := bnd h
    rcases ifs h with ⟨c4, h⟩ | ⟨c4, h⟩
    · obtain rfl := lf h
      exact over (A := A27) mixed [.g 0 true, .v (.eptr (cS x2)), .v (.str x2), .c (.int .i64 r3) [], .g 0 true] (by intro hx; cases hx) (Eq.mp (by kernel_rfl) (aI c1 <| aI (sT26.ia (k := .i64) bx2) <| aI (plook1 sc9 (.str x2) []) <| aI (R04_Find_ok br3) <| aI c4 <| aI (rE (R04_Distinct_L1_e (.inl ()))) <| fr (R04_Distinct_L1_s v t5 (.inl ()))))
    · obtain rfl := lf h
      exact next (A := A27) mixed [.g 0 true, .v (.eptr (cS x2)), .v (.str x2), .c (.int .i64 r3) [], .g 0 false] (Eq.mp (by kernel_rfl) (aI c1 <| aI (sT26.ia (k := .i64) bx2) <| aI (plook1 sc9 (.str x2) []) <| aI (R04_Find_ok br3) <| aI c4 <| aI (rE .normal) <| fr (R04_Distinct_L1_S v t5 (w64 (t6 + 1)))))
  · obtain rfl := lf h
    exact over (A := A27) mixed [.g 0 false] (by intro hx; cases hx) (Eq.mp (by kernel_rfl) (aI c1 <| aI (rE (R04_Distinct_L1_e (.inr ()))) <| fr (R04_Distinct_L1_s v t5 (.inr ()))))
theorem R04_Distinct_L1_ok (v : (List Str)) (t5 : Int) (t6 : Int) {x : (Unit) ⊕ (Unit)} (h : R04_Distinct_L1 v t5 t6 = some x) :
    Sat Pg GE 0 (.loop (codeAt b27 [true, false, true, true, true])) (EX (R04_Distinct_L1_e x) (R04_Distinct_L1_s v t5 x)) (R04_Distinct_L1_S v t5 t6) :=
  Sat.loop (S := fun (zz : Int) => R04_Distinct_L1_S v t5 zz) h fun zz y hy => R04_Distinct_L1_bok v t5 zz hy
noncomputable def R04_Distinct (a : (List Str)) : Option (Bool) :=
  (R04_Distinct_L1 a (a.length : Int) 0).bind fun o5 => match o5 with
  | (.inl o5) =>
    some false
  | (.inr o5) =>
    some true
theorem R04_Distinct_ok {a : (List Str)} {r : Bool} (h : R04_Distinct a = some r) : CC Pg GE 27 [sl cS a] (.bool r) [] := by
  obtain ⟨o5, bo5, h⟩ := bnd h
  rcases o5 with o5 | o5
  · obtain rfl := lf h
    exact C.ev (A := A27) mixed Tryd.call27 Tryd.func27 (c := b27) rfl (aI (cl_sl clS a) trivial) [.v (.int .i64 (a.length : Int)), .pc (R04_Distinct_L1_S a (a.length : Int) 0) (.ret) (R04_Distinct_L1_s a (a.length : Int) (.inl o5))] (Eq.mp (by kernel_rfl) (aI (sT26.ln a) <| aI (fr (R04_Distinct_L1_S a (a.length : Int) 0)) <| aI (R04_Distinct_L1_ok a (a.length : Int) 0 bo5) <| aI (rP (.bool false)) <| trivial))
  · obtain rfl := lf h
    exact C.ev (A := A27) mixed Tryd.call27 Tryd.func27 (c := b27) rfl (aI (cl_sl clS a) trivial) [.v (.int .i64 (a.length : Int)), .pc (R04_Distinct_L1_S a (a.length : Int) 0) (.exit 0) (R04_Distinct_L1_s a (a.length : Int) (.inr o5))] (Eq.mp (by kernel_rfl) (aI (sT26.ln a) <| aI (fr (R04_Distinct_L1_S a (a.length : Int) 0)) <| aI (R04_Distinct_L1_ok a (a.length : Int) 0 bo5) <| aI (rP (.bool true)) <| trivial))

/-! liquidcheck/liquidchecklaw04.NamesLists -/
noncomputable def b7 : Code := Tryd.f7.body.getD .skip
def A7 : List Nat := []
noncomputable def W04_NamesLists (a : (List Str)) (s : Str) : Option (Bool) :=
  (W04_few a).bind fun r1 =>
  if (!r1) = true then
    (W04_alive).bind fun r3 =>
    some r3
  else
    (names_Find a s).bind fun r4 =>
    (R04_Find a s).bind fun r5 =>
    if (r4 == r5) = true then
      (names_Distinct a).bind fun r7 =>
      (R04_Distinct a).bind fun r8 =>
      if (r7 == r8) = true then
        (W04_alive).bind fun r10 =>
        some r10
      else
        some false
    else
      some false
theorem W04_NamesLists_ok {a : (List Str)} {s : Str} {r : Bool} (h : W04_NamesLists a s = some r) : CC Pg GE 7 [sl cS a, .str s] (.bool r) [] := by
  obtain ⟨r1, br1, h⟩ := bnd h
  rcases ifs h with ⟨c2, h⟩ | ⟨c2, h⟩
  · obtain ⟨r3, br3, h⟩ := bnd h
    obtain rfl := lf h
    exact C.ev (A := A7) mixed Tryd.call7 Tryd.func7 (c := b7) rfl (aI (cl_sl clS a) (aI trivial trivial)) [.c (.bool r1) [], .g 4 true, .c (.bool r3) []] (Eq.mp (by kernel_rfl) (aI (W04_few_ok br1) <| aI c2 <| aI (W04_alive_ok br3) <| aI (rP (.bool r3)) <| trivial))
  · obtain ⟨r4, br4, h⟩ := bnd h
    obtain ⟨r5, br5, h⟩ := bnd h
    rcases ifs h with ⟨c6, h⟩ | ⟨c6, h⟩
    · obtain ⟨r7, br7, h⟩ := bnd h
      obtain ⟨r8, br8, h⟩ := bnd h
      rcases ifs h with ⟨c9, h⟩ | ⟨c9, h⟩
      · obtain ⟨r10, br10, h⟩ := bnd h
        obtain rfl := lf h
        exact C.ev (A := A7) mixed Tryd.call7 Tryd.func7 (c := b7) rfl (aI (cl_sl clS a) (aI trivial trivial)) [.c (.bool r1) [], .g 4 false, .c (.int .i64 r4) [], .c (.int .i64 r5) [], .g 12 true, .c (.bool r7) [], .c (.bool r8) [], .g 20 true, .c (.bool r10) []] (Eq.mp (by kernel_rfl) (aI (W04_few_ok br1) <| aI c2 <| aI (names_Find_ok br4) <| aI (R04_Find_ok br5) <| aI c6 <| aI (names_Distinct_ok br7) <| aI (R04_Distinct_ok br8) <| aI c9 <| aI (W04_alive_ok br10) <| aI (rP (.bool r10)) <| trivial))
      · obtain rfl := lf h
        exact C.ev (A := A7) mixed Tryd.call7 Tryd.func7 (c := b7) rfl (aI (cl_sl clS a) (aI trivial trivial)) [.c (.bool r1) [], .g 4 false, .c (.int .i64 r4) [], .c (.int .i64 r5) [], .g 12 true, .c (.bool r7) [], .c (.bool r8) [], .g 20 false] (Eq.mp (by kernel_rfl) (aI (W04_few_ok br1) <| aI c2 <| aI (names_Find_ok br4) <| aI (R04_Find_ok br5) <| aI c6 <| aI (names_Distinct_ok br7) <| aI (R04_Distinct_ok br8) <| aI c9 <| aI (rP (.bool false)) <| trivial))
    · obtain rfl := lf h
      exact C.ev (A := A7) mixed Tryd.call7 Tryd.func7 (c := b7) rfl (aI (cl_sl clS a) (aI trivial trivial)) [.c (.bool r1) [], .g 4 false, .c (.int .i64 r4) [], .c (.int .i64 r5) [], .g 12 false] (Eq.mp (by kernel_rfl) (aI (W04_few_ok br1) <| aI c2 <| aI (names_Find_ok br4) <| aI (R04_Find_ok br5) <| aI c6 <| aI (rP (.bool false)) <| trivial))

/-! liquidcheck/liquidchecklaw04.NamesWhole -/
noncomputable def b8 : Code := Tryd.f8.body.getD .skip
def A8 : List Nat := [25]
noncomputable def W04_NamesWhole_J1_S (v : (List Str)) (v2 : (List Str)) : PSt := ⟨[sl cS v, sl cS v2, u, u, u, u, u, u, u, u, u, u, u, u, u, u, u, u, u, u, u, u, u, u, u, u, u, u, u, u, u, u, u, u, u, u, u, u, u, u, u, u, u, u, u, u, u, u, u, u, u, u, u, u, u, u, u, u, u, u, u, u, u, u, u, u, u, u, u, u, u, u, u, u, u, u, u, u, u], [], []⟩
noncomputable def W04_NamesWhole_J1_o0 (v : (List Str)) (v2 : (List Str)) (o : Bool) : PSt := ⟨[sl cS v, sl cS v2, u, u, u, u, u, u, u, u, u, u, u, u, u, u, .bool o, u, u, u, u, u, u, u, u, u, u, u, u, u, u, u, u, u, u, u, u, u, u, u, u, u, u, u, u, u, u, u, u, u, u, u, u, u, u, u, u, u, u, u, u, u, u, u, u, u, u, u, u, u, u, u, u, u, u, u, u, u, u], [], []⟩
noncomputable def W04_NamesWhole_J1_e (_ : (Bool)) : Exit := .normal
noncomputable def W04_NamesWhole_J1_s (v : (List Str)) (v2 : (List Str)) (o : (Bool)) : PSt := W04_NamesWhole_J1_o0 v v2 o
noncomputable def W04_NamesWhole_J1 (v : (List Str)) (v2 : (List Str)) : Option ((Bool)) :=
  (W04_few v).bind fun r1 =>
  if (!r1) = true then
    some true
  else
    (W04_few v2).bind fun r3 =>
    some (!r3)
theorem W04_NamesWhole_J1_ok (v : (List Str)) (v2 : (List Str)) {x : (Bool)} (h : W04_NamesWhole_J1 v v2 = some x) :
    Sat Pg GE 0 (codeAt b8 [true, false, false]) (EX (W04_NamesWhole_J1_e x) (W04_NamesWhole_J1_s v v2 x)) (W04_NamesWhole_J1_S v v2) := by
  obtain ⟨r1, br1, h⟩ := bnd h
  rcases ifs h with ⟨c2, h⟩ | ⟨c2, h⟩
  · obtain rfl := lf h
    exact piece (A := A8) mixed [.c (.bool r1) [], .g 4 true] (Eq.mp (by kernel_rfl) (aI (W04_few_ok br1) <| aI c2 <| aI (rE (W04_NamesWhole_J1_e true)) <| fr (W04_NamesWhole_J1_s v v2 true)))
  · obtain ⟨r3, br3, h⟩ := bnd h
    obtain rfl := lf h
    exact piece (A := A8) mixed [.c (.bool r1) [], .g 4 false, .c (.bool r3) []] (Eq.mp (by kernel_rfl) (aI (W04_few_ok br1) <| aI c2 <| aI (W04_few_ok br3) <| aI (rE (W04_NamesWhole_J1_e (!r3))) <| fr (W04_NamesWhole_J1_s v v2 (!r3))))
noncomputable def W04_NamesWhole_L2_S (v : (List Str)) (v2 : (List Str)) (v3 : (List Str)) (t22 : Int) (t23 : Int) : PSt := ⟨[sl cS v, sl cS v2, u, u, u, sl cS v3, u, u, u, u, u, u, u, u, u, u, u, u, u, u, u, u, .int .i64 t22, .int .i64 t23, u, u, u, u, u, u, u, u, u, u, u, u, u, u, u, u, u, u, u, u, u, u, u, u, u, u, u, u, u, u, u, u, u, u, u, u, u, u, u, u, u, u, u, u, u, u, u, u, u, u, u, u, u, u, u], [], [((5, 0), 9)]⟩
noncomputable def W04_NamesWhole_L2_o0 (v : (List Str)) (v2 : (List Str)) (v3 : (List Str)) (t22 : Int) (o : Unit) : PSt := ⟨[u, u, u, u, .bool false, u, u, u, u, u, u, u, u, u, u, u, u, u, u, u, u, u, u, u, u, u, u, u, u, u, u, u, u, u, u, u, u, u, u, u, u, u, u, u, u, u, u, u, u, u, u, u, u, u, u, u, u, u, u, u, u, u, u, u, u, u, u, u, u, u, u, u, u, u, u, u, u, u, u], [], []⟩
noncomputable def W04_NamesWhole_L2_o1 (v : (List Str)) (v2 : (List Str)) (v3 : (List Str)) (t22 : Int) (o : Unit) : PSt := ⟨[sl cS v, sl cS v2, u, u, u, sl cS v3, u, u, u, u, u, u, u, u, u, u, u, u, u, u, u, u, u, u, u, u, u, u, u, u, u, u, u, u, u, u, u, u, u, u, u, u, u, u, u, u, u, u, u, u, u, u, u, u, u, u, u, u, u, u, u, u, u, u, u, u, u, u, u, u, u, u, u, u, u, u, u, u, u], [], [((5, 0), 9)]⟩
noncomputable def W04_NamesWhole_L2_e (o : (Unit) ⊕ (Unit)) : Exit := match o with
  | (.inl _) => .ret
  | (.inr _) => .exit 0
noncomputable def W04_NamesWhole_L2_s (v : (List Str)) (v2 : (List Str)) (v3 : (List Str)) (t22 : Int) (o : (Unit) ⊕ (Unit)) : PSt := match o with
  | (.inl o) => W04_NamesWhole_L2_o0 v v2 v3 t22 o
  | (.inr o) => W04_NamesWhole_L2_o1 v v2 v3 t22 o
noncomputable def W04_NamesWhole_J3_S (v : (List Str)) (v2 : (List Str)) (v3 : (List Str)) (i : Int) (t22 : Int) : PSt := ⟨[sl cS v, sl cS v2, u, u, u, sl cS v3, .int .i64 i, u, u, u, u, u, u, u, u, u, u, u, u, u, u, u, .int .i64 t22, .int .i64 i, u, u, u, u, u, u, u, u, u, u, u, u, u, u, u, u, u, u, u, u, u, u, u, u, u, u, u, u, u, u, u, u, u, u, u, u, u, u, u, u, u, u, u, u, u, u, u, u, u, u, u, u, u, u, u], [], [((5, 0), 9)]⟩
noncomputable def W04_NamesWhole_J3_o0 (v : (List Str)) (v2 : (List Str)) (v3 : (List Str)) (i : Int) (t22 : Int) (o : Bool) : PSt := ⟨[sl cS v, sl cS v2, u, u, u, sl cS v3, u, u, u, u, u, u, u, u, u, u, u, u, u, u, u, u, .int .i64 t22, .int .i64 i, u, u, u, u, u, u, u, u, u, u, u, u, u, u, u, u, u, u, u, u, u, u, u, u, u, u, u, u, u, u, u, u, u, .bool o, u, u, u, u, u, u, u, u, u, u, u, u, u, u, u, u, u, u, u, u, u], [], [((5, 0), 9)]⟩
noncomputable def W04_NamesWhole_J3_e (_ : (Bool)) : Exit := .normal
noncomputable def W04_NamesWhole_J3_s (v : (List Str)) (v2 : (List Str)) (v3 : (List Str)) (i : Int) (t22 : Int) (o : (Bool)) : PSt := W04_NamesWhole_J3_o0 v v2 v3 i t22 o
noncomputable def W04_NamesWhole_J3 (v : (List Str)) (v2 : (List Str)) (v3 : (List Str)) (i : Int) : Option ((Bool)) :=
  if (decide (i > 0)) = true then
    (idx v3 (w64 (i - 1))).bind fun x10 =>
    (idx v3 i).bind fun x11 =>
    if (!(Op.bytesLess x10 x11)) = true then
      some true
    else
      (idx v3 i).bind fun x13 =>
      (names_Find v x13).bind fun r14 =>
      if (decide (r14 < 0)) = true then
        (idx v3 i).bind fun x16 =>
        (names_Find v2 x16).bind fun r17 =>
        some (decide (r17 < 0))
      else
        some false
  else
    (idx v3 i).bind fun x18 =>
    (names_Find v x18).bind fun r19 =>
    if (decide (r19 < 0)) = true then
      (idx v3 i).bind fun x21 =>
      (names_Find v2 x21).bind fun r22 =>
      some (decide (r22 < 0))
    else
      some false
theorem W04_NamesWhole_J3_ok (v : (List Str)) (v2 : (List Str)) (v3 : (List Str)) (i : Int) (t22 : Int) {x : (Bool)} (h : W04_NamesWhole_J3 v v2 v3 i = some x) :
    Sat Pg GE 0 (codeAt b8 [true, true, true, false, true, true, true, true, true, false, true, true, false]) (EX (W04_NamesWhole_J3_e x) (W04_NamesWhole_J3_s v v2 v3 i t22 x)) (W04_NamesWhole_J3_S v v2 v3 i t22) := by
  rcases ifs h with ⟨c9, h⟩ | ⟨c9, h⟩
  · obtain ⟨x10, bx10, h⟩ := bnd h
    obtain ⟨x11, bx11, h⟩ := bnd h
    rcases ifs h with ⟨c12, h⟩ | ⟨c12, h⟩
    · obtain rfl := lf h
      exact piece (A := A8) mixed [.dr [0, 1, 3, 7, 7, 23, 63, 127, 7, 7, 775, 1799, 4095, 8191, 16383, 32767, 32767, 32767, 229375, 491519, 1048575, 2097151, 4194303, 8388607, 8388607, 8388607, 58720255, 125829119, 268435455, 536870911, 1073741823, 2147483647], .g 3 true, .v (.eptr (cS x10)), .v (.str x10), .v (.eptr (cS x11)), .v (.str x11), .g 15 true] (Eq.mp (by kernel_rfl) (aI c9 <| aI (sT26.ia (k := .i64) bx10) <| aI (plook1 sc9 (.str x10) []) <| aI (sT26.ia (k := .i64) bx11) <| aI (plook1 sc9 (.str x11) []) <| aI c12 <| aI (rE (W04_NamesWhole_J3_e true)) <| fr (W04_NamesWhole_J3_s v v2 v3 i t22 true)))
    · obtain ⟨x13, bx13, h⟩ := bnd h
      obtain ⟨r14, br14, h⟩ := bnd h
      rcases ifs h with ⟨c15, h⟩ | ⟨c15, h⟩
      · obtain ⟨x16, bx16, h⟩ := bnd h
        obtain ⟨r17, br17, h⟩ := bnd h
        obtain rfl := lf h
        exact piece (A := A8) mixed [.dr [0, 1, 3, 7, 7, 23, 63, 127, 7, 7, 775, 1799, 4095, 8191, 16383, 32767, 32767, 32767, 229375, 491519, 1048575, 2097151, 4194303, 8388607, 8388607, 8388607, 58720255, 125829119, 268435455, 536870911, 1073741823, 2147483647], .g 3 true, .v (.eptr (cS x10)), .v (.str x10), .v (.eptr (cS x11)), .v (.str x11), .g 15 false, .v (.eptr (cS x13)), .v (.str x13), .c (.int .i64 r14) [], .g 23 true, .v (.eptr (cS x16)), .v (.str x16), .c (.int .i64 r17) []] (Eq.mp (by kernel_rfl) (aI c9 <| aI (sT26.ia (k := .i64) bx10) <| aI (plook1 sc9 (.str x10) []) <| aI (sT26.ia (k := .i64) bx11) <| aI (plook1 sc9 (.str x11) []) <| aI c12 <| aI (sT26.ia (k := .i64) bx13) <| aI (plook1 sc9 (.str x13) []) <| aI (names_Find_ok br14) <| aI c15 <| aI (sT26.ia (k := .i64) bx16) <| aI (plook1 sc9 (.str x16) []) <| aI (names_Find_ok br17) <| aI (rE (W04_NamesWhole_J3_e (decide (r17 < 0)))) <| fr (W04_NamesWhole_J3_s v v2 v3 i t22 (decide (r17 < 0)))))
      · obtain rfl := lf h
        exact piece (A := A8) mixed [.dr [0, 1, 3, 7, 7, 23, 63, 127, 7, 7, 775, 1799, 4095, 8191, 16383, 32767, 32767, 32767, 229375, 491519, 1048575, 2097151, 4194303, 8388607, 8388607, 8388607, 58720255, 125829119, 268435455, 536870911, 1073741823, 2147483647], .g 3 true, .v (.eptr (cS x10)), .v (.str x10), .v (.eptr (cS x11)), .v (.str x11), .g 15 false, .v (.eptr (cS x13)), .v (.str x13), .c (.int .i64 r14) [], .g 23 false] (Eq.mp (by kernel_rfl) (aI c9 <| aI (sT26.ia (k := .i64) bx10) <| aI (plook1 sc9 (.str x10) []) <| aI (sT26.ia (k := .i64) bx11) <| aI (plook1 sc9 (.str x11) []) <| aI c12 <| aI (sT26.ia (k := .i64) bx13) <| aI (plook1 sc9 (.str x13) []) <| aI (names_Find_ok br14) <| aI c15 <| aI (rE (W04_NamesWhole_J3_e false)) <| fr (W04_NamesWhole_J3_s v v2 v3 i t22 false)))
  · obtain ⟨x18, bx18, h⟩ := bnd h
    obtain ⟨r19, br19, h⟩ := bnd h
    rcases ifs h with ⟨c20, h⟩ | ⟨c20, h⟩
    · obtain ⟨x21, bx21, h⟩ := bnd h
      obtain ⟨r22, br22, h⟩ := bnd h
      obtain rfl := lf h
      exact piece (A := A8) mixed [.dr [0, 1, 3, 7, 7, 23, 63, 127, 7, 7, 775, 1799, 4095, 8191, 16383, 32767, 32767, 32767, 229375, 491519, 1048575, 2097151, 4194303, 8388607, 8388607, 8388607, 58720255, 125829119, 268435455, 536870911, 1073741823, 2147483647], .g 3 false, .v (.eptr (cS x18)), .v (.str x18), .c (.int .i64 r19) [], .g 23 true, .v (.eptr (cS x21)), .v (.str x21), .c (.int .i64 r22) []] (Eq.mp (by kernel_rfl) (aI c9 <| aI (sT26.ia (k := .i64) bx18) <| aI (plook1 sc9 (.str x18) []) <| aI (names_Find_ok br19) <| aI c20 <| aI (sT26.ia (k := .i64) bx21) <| aI (plook1 sc9 (.str x21) []) <| aI (names_Find_ok br22) <| aI (rE (W04_NamesWhole_J3_e (decide (r22 < 0)))) <| fr (W04_NamesWhole_J3_s v v2 v3 i t22 (decide (r22 < 0)))))
    · obtain rfl := lf h
      exact piece (A := A8) mixed [.dr [0, 1, 3, 7, 7, 23, 63, 127, 7, 7, 775, 1799, 4095, 8191, 16383, 32767, 32767, 32767, 229375, 491519, 1048575, 2097151, 4194303, 8388607, 8388607, 8388607, 58720255, 125829119, 268435455, 536870911, 1073741823, 2147483647], .g 3 false, .v (.eptr (cS x18)), .v (.str x18), .c (.int .i64 r19) [], .g 23 false] (Eq.mp (by kernel_rfl) (aI c9 <| aI (sT26.ia (k := .i64) bx18) <| aI (plook1 sc9 (.str x18) []) <| aI (names_Find_ok br19) <| aI c20 <| aI (rE (W04_NamesWhole_J3_e false)) <| fr (W04_NamesWhole_J3_s v v2 v3 i t22 false)))
noncomputable def W04_NamesWhole_L2_b (v : (List Str)) (v2 : (List Str)) (v3 : (List Str)) (t22 : Int) (t23 : Int) : Option ((Int) ⊕ ((Unit) ⊕ (Unit))) :=
  if (decide (t23 < t22)) = true then
    (W04_NamesWhole_J3 v v2 v3 t23).bind fun o23 =>
    if o23 = true then
      some (.inr (.inl ()))
    else
      some (.inl (w64 (t23 + 1)))
  else
    some (.inr (.inr ()))
noncomputable def W04_NamesWhole_L2 (v : (List Str)) (v2 : (List Str)) (v3 : (List Str)) (t22 : Int) (t23 : Int) : Option ((Unit) ⊕ (Unit)) := loop (fun (zz : Int) => W04_NamesWhole_L2_b v v2 v3 t22 zz) t23
theorem W04_NamesWhole_L2_bok (v : (List Str)) (v2 : (List Str)) (v3 : (List Str)) (t22 : Int) (t23 : Int) {y : (Int) ⊕ ((Unit) ⊕ (Unit))} (h : W04_NamesWhole_L2_b v v2 v3 t22 t23 = some y) :
    Sat Pg GE 0 (codeAt b8 [true, true, true, false, true, true, true]) (LQ (fun (zz : Int) => W04_NamesWhole_L2_S v v2 v3 t22 zz) W04_NamesWhole_L2_e (W04_NamesWhole_L2_s v v2 v3 t22) y) (W04_NamesWhole_L2_S v v2 v3 t22 t23) := by
  rcases ifs h with ⟨c8, h⟩ | ⟨c8, h⟩
  · obtain ⟨o23, bo23, h⟩ := bnd h
    rcases ifs h with ⟨c24, h⟩ | ⟨c24, h⟩
    · obtain rfl := lf h
      exact over (A := A8) mixed [.g 0 true, .pa 2, .pc (W04_NamesWhole_J3_S v v2 v3 t23 t22) (.normal) (W04_NamesWhole_J3_s v v2 v3 t23 t22 o23), .g 0 true] (by intro hx; cases hx) (Eq.mp (by kernel_rfl) (aI c8 <| aI (fr (W04_NamesWhole_J3_S v v2 v3 t23 t22)) <| aI (W04_NamesWhole_J3_ok v v2 v3 t23 t22 bo23) <| aI c24 <| aI (rE (W04_NamesWhole_L2_e (.inl ()))) <| fr (W04_NamesWhole_L2_s v v2 v3 t22 (.inl ()))))
    · obtain rfl := lf h
      exact next (A := A8) mixed [.g 0 true, .pa 2, .pc (W04_NamesWhole_J3_S v v2 v3 t23 t22) (.normal) (W04_NamesWhole_J3_s v v2 v3 t23 t22 o23), .g 0 false] (Eq.mp (by kernel_rfl) (aI c8 <| aI (fr (W04_NamesWhole_J3_S v v2 v3 t23 t22)) <| aI (W04_NamesWhole_J3_ok v v2 v3 t23 t22 bo23) <| aI c24 <| aI (rE .normal) <| fr (W04_NamesWhole_L2_S v v2 v3 t22 (w64 (t23 + 1)))))
  · obtain rfl := lf h
    exact over (A := A8) mixed [.g 0 false] (by intro hx; cases hx) (Eq.mp (by kernel_rfl) (aI c8 <| aI (rE (W04_NamesWhole_L2_e (.inr ()))) <| fr (W04_NamesWhole_L2_s v v2 v3 t22 (.inr ()))))
theorem W04_NamesWhole_L2_ok (v : (List Str)) (v2 : (List Str)) (v3 : (List Str)) (t22 : Int) (t23 : Int) {x : (Unit) ⊕ (Unit)} (h : W04_NamesWhole_L2 v v2 v3 t22 t23 = some x) :
    Sat Pg GE 0 (.loop (codeAt b8 [true, true, true, false, true, true, true])) (EX (W04_NamesWhole_L2_e x) (W04_NamesWhole_L2_s v v2 v3 t22 x)) (W04_NamesWhole_L2_S v v2 v3 t22 t23) :=
  Sat.loop (S := fun (zz : Int) => W04_NamesWhole_L2_S v v2 v3 t22 zz) h fun zz y hy => W04_NamesWhole_L2_bok v v2 v3 t22 zz hy
noncomputable def W04_NamesWhole_L4_S (v : (List Str)) (t63 : (List Str)) (t64 : Int) (t65 : Int) : PSt := ⟨[u, u, u, u, u, sl cS v, u, u, u, u, u, u, u, u, u, u, u, u, u, u, u, u, u, u, u, u, u, u, u, u, u, u, u, u, u, u, u, u, u, u, u, u, u, u, u, u, u, u, u, u, u, u, u, u, u, u, u, u, u, u, u, u, u, sl cS t63, .int .i64 t64, .int .i64 t65, u, u, u, u, u, u, u, u, u, u, u, u, u], [], [((5, 0), 9), ((63, 0), 9)]⟩
noncomputable def W04_NamesWhole_L4_o0 (v : (List Str)) (t63 : (List Str)) (t64 : Int) (o : Unit) : PSt := ⟨[u, u, u, u, .bool false, u, u, u, u, u, u, u, u, u, u, u, u, u, u, u, u, u, u, u, u, u, u, u, u, u, u, u, u, u, u, u, u, u, u, u, u, u, u, u, u, u, u, u, u, u, u, u, u, u, u, u, u, u, u, u, u, u, u, u, u, u, u, u, u, u, u, u, u, u, u, u, u, u, u], [], []⟩
noncomputable def W04_NamesWhole_L4_o1 (v : (List Str)) (t63 : (List Str)) (t64 : Int) (o : Unit) : PSt := ⟨[u, u, u, u, u, sl cS v, u, u, u, u, u, u, u, u, u, u, u, u, u, u, u, u, u, u, u, u, u, u, u, u, u, u, u, u, u, u, u, u, u, u, u, u, u, u, u, u, u, u, u, u, u, u, u, u, u, u, u, u, u, u, u, u, u, u, u, u, u, u, u, u, u, u, u, u, u, u, u, u, u], [], [((5, 0), 9)]⟩
noncomputable def W04_NamesWhole_L4_e (o : (Unit) ⊕ (Unit)) : Exit := match o with
  | (.inl _) => .ret
  | (.inr _) => .exit 2
noncomputable def W04_NamesWhole_L4_s (v : (List Str)) (t63 : (List Str)) (t64 : Int) (o : (Unit) ⊕ (Unit)) : PSt := match o with
  | (.inl o) => W04_NamesWhole_L4_o0 v t63 t64 o
  | (.inr o) => W04_NamesWhole_L4_o1 v t63 t64 o
noncomputable def W04_NamesWhole_L4_b (v : (List Str)) (t63 : (List Str)) (t64 : Int) (t65 : Int) : Option ((Int) ⊕ ((Unit) ⊕ (Unit))) :=
  if (decide (t65 < t64)) = true then
    (idx t63 t65).bind fun x29 =>
    (names_Find v x29).bind fun r30 =>
    if (decide (r30 < 0)) = true then
      some (.inr (.inl ()))
    else
      some (.inl (w64 (t65 + 1)))
  else
    some (.inr (.inr ()))
noncomputable def W04_NamesWhole_L4 (v : (List Str)) (t63 : (List Str)) (t64 : Int) (t65 : Int) : Option ((Unit) ⊕ (Unit)) := loop (fun (zz : Int) => W04_NamesWhole_L4_b v t63 t64 zz) t65
theorem W04_NamesWhole_L4_bok (v : (List Str)) (t63 : (List Str)) (t64 : Int) (t65 : Int) {y : (Int) ⊕ ((Unit) ⊕ (Unit))} (h : W04_NamesWhole_L4_b v t63 t64 t65 = some y) :
    Sat Pg GE 0 (codeAt b8 [true, true, true, true, false, true, true, true]) (LQ (fun (zz : Int) => W04_NamesWhole_L4_S v t63 t64 zz) W04_NamesWhole_L4_e (W04_NamesWhole_L4_s v t63 t64) y) (W04_NamesWhole_L4_S v t63 t64 t65) := by
  rcases ifs h with ⟨c28, h⟩ | ⟨c28, h⟩
  · obtain ⟨x29, bx29, h⟩ := bnd h
    obtain ⟨r30, br30, h⟩ := bnd h
    rcases ifs h with ⟨c31, h⟩ | ⟨c31, h⟩
    · obtain rfl := lf h
      exact over (A := A8) mixed [.g 0 true, .v (.eptr (cS x29)), .v (.str x29), .c (.int .i64 r30) [], .g 0 true] (by intro hx; cases hx) (Eq.mp (by kernel_rfl) (aI c28 <| aI (sT26.ia (k := .i64) bx29) <| aI (plook1 sc9 (.str x29) []) <| aI (names_Find_ok br30) <| aI c31 <| aI (rE (W04_NamesWhole_L4_e (.inl ()))) <| fr (W04_NamesWhole_L4_s v t63 t64 (.inl ()))))
    · obtain rfl := lf h
      exact next (A := A8) mixed [.g 0 true, .v (.eptr (cS x29)), .v (.str x29), .c (.int .i64 r30) [], .g 0 false] (Eq.mp (by kernel_rfl) (aI c28 <| aI (sT26.ia (k := .i64) bx29) <| aI (plook1 sc9 (.str x29) []) <| aI (names_Find_ok br30) <| aI c31 <| aI (rE .normal) <| fr (W04_NamesWhole_L4_S v t63 t64 (w64 (t65 + 1)))))
  · obtain rfl := lf h
    exact over (A := A8) mixed [.g 0 false] (by intro hx; cases hx) (Eq.mp (by kernel_rfl) (aI c28 <| aI (rE (W04_NamesWhole_L4_e (.inr ()))) <| fr (W04_NamesWhole_L4_s v t63 t64 (.inr ()))))
theorem W04_NamesWhole_L4_ok (v : (List Str)) (t63 : (List Str)) (t64 : Int) (t65 : Int) {x : (Unit) ⊕ (Unit)} (h : W04_NamesWhole_L4 v t63 t64 t65 = some x) :
    Sat Pg GE 0 (.loop (codeAt b8 [true, true, true, true, false, true, true, true])) (EX (W04_NamesWhole_L4_e x) (W04_NamesWhole_L4_s v t63 t64 x)) (W04_NamesWhole_L4_S v t63 t64 t65) :=
  Sat.loop (S := fun (zz : Int) => W04_NamesWhole_L4_S v t63 t64 zz) h fun zz y hy => W04_NamesWhole_L4_bok v t63 t64 zz hy
noncomputable def W04_NamesWhole (a : (List Str)) (a2 : (List Str)) : Option (Bool) :=
  (W04_NamesWhole_J1 a a2).bind fun o4 =>
  if o4 = true then
    (W04_alive).bind fun r6 =>
    some r6
  else
    (names_Union a a2).bind fun r7 =>
    (W04_NamesWhole_L2 a a2 r7 (r7.length : Int) 0).bind fun o25 => match o25 with
    | (.inl o25) =>
      some false
    | (.inr o25) =>
      (app ([] : List Str) a).bind fun l26 =>
      (app l26 a2).bind fun l27 =>
      (W04_NamesWhole_L4 r7 l27 (l27.length : Int) 0).bind fun o32 => match o32 with
      | (.inl o32) =>
        some false
      | (.inr o32) =>
        (names_Distinct r7).bind fun r33 =>
        if r33 = true then
          (W04_alive).bind fun r35 =>
          some r35
        else
          some false
theorem W04_NamesWhole_ok {a : (List Str)} {a2 : (List Str)} {r : Bool} (h : W04_NamesWhole a a2 = some r) : CC Pg GE 8 [sl cS a, sl cS a2] (.bool r) [] := by
  obtain ⟨o4, bo4, h⟩ := bnd h
  rcases ifs h with ⟨c5, h⟩ | ⟨c5, h⟩
  · obtain ⟨r6, br6, h⟩ := bnd h
    obtain rfl := lf h
    exact C.ev (A := A8) mixed Tryd.call8 Tryd.func8 (c := b8) rfl (aI (cl_sl clS a) (aI (cl_sl clS a2) trivial)) [.pa 2, .pc (W04_NamesWhole_J1_S a a2) (.normal) (W04_NamesWhole_J1_s a a2 o4), .g 0 true, .c (.bool r6) []] (Eq.mp (by kernel_rfl) (aI (fr (W04_NamesWhole_J1_S a a2)) <| aI (W04_NamesWhole_J1_ok a a2 bo4) <| aI c5 <| aI (W04_alive_ok br6) <| aI (rP (.bool r6)) <| trivial))
  · obtain ⟨r7, br7, h⟩ := bnd h
    obtain ⟨o25, bo25, h⟩ := bnd h
    rcases o25 with o25 | o25
    · obtain rfl := lf h
      exact C.ev (A := A8) mixed Tryd.call8 Tryd.func8 (c := b8) rfl (aI (cl_sl clS a) (aI (cl_sl clS a2) trivial)) [.pa 2, .pc (W04_NamesWhole_J1_S a a2) (.normal) (W04_NamesWhole_J1_s a a2 o4), .g 0 false, .c (sl cS r7) [(0, 9)], .v (.int .i64 (r7.length : Int)), .pc (W04_NamesWhole_L2_S a a2 r7 (r7.length : Int) 0) (.ret) (W04_NamesWhole_L2_s a a2 r7 (r7.length : Int) (.inl o25))] (Eq.mp (by kernel_rfl) (aI (fr (W04_NamesWhole_J1_S a a2)) <| aI (W04_NamesWhole_J1_ok a a2 bo4) <| aI c5 <| aI (names_Union_ok br7) <| aI (sT26.ln r7) <| aI (fr (W04_NamesWhole_L2_S a a2 r7 (r7.length : Int) 0)) <| aI (W04_NamesWhole_L2_ok a a2 r7 (r7.length : Int) 0 bo25) <| aI (rP (.bool false)) <| trivial))
    · obtain ⟨l26, bl26, h⟩ := bnd h
      obtain ⟨l27, bl27, h⟩ := bnd h
      obtain ⟨o32, bo32, h⟩ := bnd h
      rcases o32 with o32 | o32
      · obtain rfl := lf h
        exact C.ev (A := A8) mixed Tryd.call8 Tryd.func8 (c := b8) rfl (aI (cl_sl clS a) (aI (cl_sl clS a2) trivial)) [.pa 2, .pc (W04_NamesWhole_J1_S a a2) (.normal) (W04_NamesWhole_J1_s a a2 o4), .g 0 false, .c (sl cS r7) [(0, 9)], .v (.int .i64 (r7.length : Int)), .pc (W04_NamesWhole_L2_S a a2 r7 (r7.length : Int) 0) (.exit 0) (W04_NamesWhole_L2_s a a2 r7 (r7.length : Int) (.inr o25)), .v (sl cS ([] : List Str)), .v (sl cS l26), .v (sl cS l27), .v (.int .i64 (l27.length : Int)), .pc (W04_NamesWhole_L4_S r7 l27 (l27.length : Int) 0) (.ret) (W04_NamesWhole_L4_s r7 l27 (l27.length : Int) (.inl o32))] (Eq.mp (by kernel_rfl) (aI (fr (W04_NamesWhole_J1_S a a2)) <| aI (W04_NamesWhole_J1_ok a a2 bo4) <| aI c5 <| aI (names_Union_ok br7) <| aI (sT26.ln r7) <| aI (fr (W04_NamesWhole_L2_S a a2 r7 (r7.length : Int) 0)) <| aI (W04_NamesWhole_L2_ok a a2 r7 (r7.length : Int) 0 bo25) <| aI (sT26.mk' (v := PVal.str) pcS ([] : List Str) 0 (by kernel_rfl)) <| aI (sT26.ap bl26) <| aI (sT26.ap bl27) <| aI (sT26.ln l27) <| aI (fr (W04_NamesWhole_L4_S r7 l27 (l27.length : Int) 0)) <| aI (W04_NamesWhole_L4_ok r7 l27 (l27.length : Int) 0 bo32) <| aI (rP (.bool false)) <| trivial))
      · obtain ⟨r33, br33, h⟩ := bnd h
        rcases ifs h with ⟨c34, h⟩ | ⟨c34, h⟩
        · obtain ⟨r35, br35, h⟩ := bnd h
          obtain rfl := lf h
          exact C.ev (A := A8) mixed Tryd.call8 Tryd.func8 (c := b8) rfl (aI (cl_sl clS a) (aI (cl_sl clS a2) trivial)) [.pa 2, .pc (W04_NamesWhole_J1_S a a2) (.normal) (W04_NamesWhole_J1_s a a2 o4), .g 0 false, .c (sl cS r7) [(0, 9)], .v (.int .i64 (r7.length : Int)), .pc (W04_NamesWhole_L2_S a a2 r7 (r7.length : Int) 0) (.exit 0) (W04_NamesWhole_L2_s a a2 r7 (r7.length : Int) (.inr o25)), .v (sl cS ([] : List Str)), .v (sl cS l26), .v (sl cS l27), .v (.int .i64 (l27.length : Int)), .pc (W04_NamesWhole_L4_S r7 l27 (l27.length : Int) 0) (.exit 2) (W04_NamesWhole_L4_s r7 l27 (l27.length : Int) (.inr o32)), .c (.bool r33) [], .g 3 true, .c (.bool r35) []] (Eq.mp (by kernel_rfl) (aI (fr (W04_NamesWhole_J1_S a a2)) <| aI (W04_NamesWhole_J1_ok a a2 bo4) <| aI c5 <| aI (names_Union_ok br7) <| aI (sT26.ln r7) <| aI (fr (W04_NamesWhole_L2_S a a2 r7 (r7.length : Int) 0)) <| aI (W04_NamesWhole_L2_ok a a2 r7 (r7.length : Int) 0 bo25) <| aI (sT26.mk' (v := PVal.str) pcS ([] : List Str) 0 (by kernel_rfl)) <| aI (sT26.ap bl26) <| aI (sT26.ap bl27) <| aI (sT26.ln l27) <| aI (fr (W04_NamesWhole_L4_S r7 l27 (l27.length : Int) 0)) <| aI (W04_NamesWhole_L4_ok r7 l27 (l27.length : Int) 0 bo32) <| aI (names_Distinct_ok br33) <| aI c34 <| aI (W04_alive_ok br35) <| aI (rP (.bool r35)) <| trivial))
        · obtain rfl := lf h
          exact C.ev (A := A8) mixed Tryd.call8 Tryd.func8 (c := b8) rfl (aI (cl_sl clS a) (aI (cl_sl clS a2) trivial)) [.pa 2, .pc (W04_NamesWhole_J1_S a a2) (.normal) (W04_NamesWhole_J1_s a a2 o4), .g 0 false, .c (sl cS r7) [(0, 9)], .v (.int .i64 (r7.length : Int)), .pc (W04_NamesWhole_L2_S a a2 r7 (r7.length : Int) 0) (.exit 0) (W04_NamesWhole_L2_s a a2 r7 (r7.length : Int) (.inr o25)), .v (sl cS ([] : List Str)), .v (sl cS l26), .v (sl cS l27), .v (.int .i64 (l27.length : Int)), .pc (W04_NamesWhole_L4_S r7 l27 (l27.length : Int) 0) (.exit 2) (W04_NamesWhole_L4_s r7 l27 (l27.length : Int) (.inr o32)), .c (.bool r33) [], .g 3 false] (Eq.mp (by kernel_rfl) (aI (fr (W04_NamesWhole_J1_S a a2)) <| aI (W04_NamesWhole_J1_ok a a2 bo4) <| aI c5 <| aI (names_Union_ok br7) <| aI (sT26.ln r7) <| aI (fr (W04_NamesWhole_L2_S a a2 r7 (r7.length : Int) 0)) <| aI (W04_NamesWhole_L2_ok a a2 r7 (r7.length : Int) 0 bo25) <| aI (sT26.mk' (v := PVal.str) pcS ([] : List Str) 0 (by kernel_rfl)) <| aI (sT26.ap bl26) <| aI (sT26.ap bl27) <| aI (sT26.ln l27) <| aI (fr (W04_NamesWhole_L4_S r7 l27 (l27.length : Int) 0)) <| aI (W04_NamesWhole_L4_ok r7 l27 (l27.length : Int) 0 bo32) <| aI (names_Distinct_ok br33) <| aI c34 <| aI (rP (.bool false)) <| trivial))
end Go.Proofs.YtgiimiklbabhcaaDoor
