/-
  WHAT IS PROVED: what functions come to, as functions of plain data: liquidchecklaw04.NamesKinds, liquidchecklaw04.few, liquidcheckref01.Text, liquidcheckref04.Core, liquidcheckref04.Title, liquidcheckref04.part, liquidcheckref04.parts. Conditions: none. Printed by gen.py out of the seat's translation.
-/
import Derived.Test.YtgiimiklbabhcaaDoorG2
namespace Go.Proofs.YtgiimiklbabhcaaDoor
open Go
set_option linter.unusedVariables false
set_option maxRecDepth 100000

/-! liquidcheck/liquidcheckref04.Title -/
noncomputable def b15 : Code := Tryd.f15.body.getD .skip
def A15 : List Nat := [38]
noncomputable def R04_Title_J1_S (s : Str) : PSt := ⟨[.str s, u, u, u, u, u, u, u, u, u, u, u, u, u, u, u, u, u, u, u, u, u, u, u, u, u, u, u, u, u, u, u, u, u, u, u, u, u, u, u, u, u, u, u, u, u, u, u, u, u, u, u, u, u, u, u, u, u, u], [], []⟩
noncomputable def R04_Title_J1_o0 (s : Str) (o : Bool) : PSt := ⟨[.str s, u, u, u, u, u, u, u, u, u, u, u, u, u, u, u, u, u, u, u, u, u, u, u, u, u, u, u, u, u, u, u, u, .bool o, u, u, u, u, u, u, u, u, u, u, u, u, u, u, u, u, u, u, u, u, u, u, u, u, u], [], []⟩
noncomputable def R04_Title_J1_e (_ : (Bool)) : Exit := .normal
noncomputable def R04_Title_J1_s (s : Str) (o : (Bool)) : PSt := R04_Title_J1_o0 s o
noncomputable def R04_Title_J1 (s : Str) : Option ((Bool)) :=
  if (decide ((s.length : Int) < 1)) = true then
    some true
  else
    if (decide ((s.length : Int) > 24)) = true then
      some true
    else
      (idxS s 0).bind fun c3 =>
      (R04_capital c3).bind fun r4 =>
      if (!r4) = true then
        some true
      else
        if (s == ([73, 110, 116] : Str)) = true then
          some true
        else
          if (s == ([66, 111, 111, 108] : Str)) = true then
            some true
          else
            if (s == ([67, 101, 108, 108] : Str)) = true then
              some true
            else
              some (s == ([70, 117, 110] : Str))
theorem R04_Title_J1_ok (s : Str) {x : (Bool)} (h : R04_Title_J1 s = some x) :
    Sat Pg GE 0 (codeAt b15 [true, false, false]) (EX (R04_Title_J1_e x) (R04_Title_J1_s s x)) (R04_Title_J1_S s) := by
  rcases ifs h with ⟨c1, h⟩ | ⟨c1, h⟩
  · obtain rfl := lf h
    exact piece (A := A15) mixed [.v (.int .i64 (s.length : Int)), .g 4 true] (Eq.mp (by kernel_rfl) (aI (strLn Tryd.underlying9 s) <| aI c1 <| aI (rE (R04_Title_J1_e true)) <| fr (R04_Title_J1_s s true)))
  · rcases ifs h with ⟨c2, h⟩ | ⟨c2, h⟩
    · obtain rfl := lf h
      exact piece (A := A15) mixed [.v (.int .i64 (s.length : Int)), .g 4 false, .v (.int .i64 (s.length : Int)), .g 9 true] (Eq.mp (by kernel_rfl) (aI (strLn Tryd.underlying9 s) <| aI c1 <| aI (strLn Tryd.underlying9 s) <| aI c2 <| aI (rE (R04_Title_J1_e true)) <| fr (R04_Title_J1_s s true)))
    · obtain ⟨c3, bc3, h⟩ := bnd h
      obtain ⟨r4, br4, h⟩ := bnd h
      rcases ifs h with ⟨c5, h⟩ | ⟨c5, h⟩
      · obtain rfl := lf h
        exact piece (A := A15) mixed [.v (.int .i64 (s.length : Int)), .g 4 false, .v (.int .i64 (s.length : Int)), .g 9 false, .v (.int .u8 c3), .c (.bool r4) [], .g 15 true] (Eq.mp (by kernel_rfl) (aI (strLn Tryd.underlying9 s) <| aI c1 <| aI (strLn Tryd.underlying9 s) <| aI c2 <| aI (strIx (k := .i64) Tryd.underlying9 bc3) <| aI (R04_capital_ok br4) <| aI c5 <| aI (rE (R04_Title_J1_e true)) <| fr (R04_Title_J1_s s true)))
      · rcases ifs h with ⟨c6, h⟩ | ⟨c6, h⟩
        · obtain rfl := lf h
          exact piece (A := A15) mixed [.v (.int .i64 (s.length : Int)), .g 4 false, .v (.int .i64 (s.length : Int)), .g 9 false, .v (.int .u8 c3), .c (.bool r4) [], .g 15 false, .g 19 true] (Eq.mp (by kernel_rfl) (aI (strLn Tryd.underlying9 s) <| aI c1 <| aI (strLn Tryd.underlying9 s) <| aI c2 <| aI (strIx (k := .i64) Tryd.underlying9 bc3) <| aI (R04_capital_ok br4) <| aI c5 <| aI c6 <| aI (rE (R04_Title_J1_e true)) <| fr (R04_Title_J1_s s true)))
        · rcases ifs h with ⟨c7, h⟩ | ⟨c7, h⟩
          · obtain rfl := lf h
            exact piece (A := A15) mixed [.v (.int .i64 (s.length : Int)), .g 4 false, .v (.int .i64 (s.length : Int)), .g 9 false, .v (.int .u8 c3), .c (.bool r4) [], .g 15 false, .g 19 false, .g 23 true] (Eq.mp (by kernel_rfl) (aI (strLn Tryd.underlying9 s) <| aI c1 <| aI (strLn Tryd.underlying9 s) <| aI c2 <| aI (strIx (k := .i64) Tryd.underlying9 bc3) <| aI (R04_capital_ok br4) <| aI c5 <| aI c6 <| aI c7 <| aI (rE (R04_Title_J1_e true)) <| fr (R04_Title_J1_s s true)))
          · rcases ifs h with ⟨c8, h⟩ | ⟨c8, h⟩
            · obtain rfl := lf h
              exact piece (A := A15) mixed [.v (.int .i64 (s.length : Int)), .g 4 false, .v (.int .i64 (s.length : Int)), .g 9 false, .v (.int .u8 c3), .c (.bool r4) [], .g 15 false, .g 19 false, .g 23 false, .g 27 true] (Eq.mp (by kernel_rfl) (aI (strLn Tryd.underlying9 s) <| aI c1 <| aI (strLn Tryd.underlying9 s) <| aI c2 <| aI (strIx (k := .i64) Tryd.underlying9 bc3) <| aI (R04_capital_ok br4) <| aI c5 <| aI c6 <| aI c7 <| aI c8 <| aI (rE (R04_Title_J1_e true)) <| fr (R04_Title_J1_s s true)))
            · obtain rfl := lf h
              exact piece (A := A15) mixed [.v (.int .i64 (s.length : Int)), .g 4 false, .v (.int .i64 (s.length : Int)), .g 9 false, .v (.int .u8 c3), .c (.bool r4) [], .g 15 false, .g 19 false, .g 23 false, .g 27 false] (Eq.mp (by kernel_rfl) (aI (strLn Tryd.underlying9 s) <| aI c1 <| aI (strLn Tryd.underlying9 s) <| aI c2 <| aI (strIx (k := .i64) Tryd.underlying9 bc3) <| aI (R04_capital_ok br4) <| aI c5 <| aI c6 <| aI c7 <| aI c8 <| aI (rE (R04_Title_J1_e (s == ([70, 117, 110] : Str)))) <| fr (R04_Title_J1_s s (s == ([70, 117, 110] : Str)))))
noncomputable def R04_Title_L2_S (s : Str) (t35 : Int) (t36 : Int) : PSt := ⟨[.str s, u, u, u, u, u, u, u, u, u, u, u, u, u, u, u, u, u, u, u, u, u, u, u, u, u, u, u, u, u, u, u, u, u, u, .int .i64 t35, .int .i64 t36, u, u, u, u, u, u, u, u, u, u, u, u, u, u, u, u, u, u, u, u, u, u], [], []⟩
noncomputable def R04_Title_L2_o0 (s : Str) (t35 : Int) (o : Unit) : PSt := ⟨[u, u, .int .i64 3, u, u, u, u, u, u, u, u, u, u, u, u, u, u, u, u, u, u, u, u, u, u, u, u, u, u, u, u, u, u, u, u, u, u, u, u, u, u, u, u, u, u, u, u, u, u, u, u, u, u, u, u, u, u, u, u], [], []⟩
noncomputable def R04_Title_L2_o1 (s : Str) (t35 : Int) (o : Unit) : PSt := ⟨[u, u, u, u, u, u, u, u, u, u, u, u, u, u, u, u, u, u, u, u, u, u, u, u, u, u, u, u, u, u, u, u, u, u, u, u, u, u, u, u, u, u, u, u, u, u, u, u, u, u, u, u, u, u, u, u, u, u, u], [], []⟩
noncomputable def R04_Title_L2_e (o : (Unit) ⊕ (Unit)) : Exit := match o with
  | (.inl _) => .ret
  | (.inr _) => .exit 0
noncomputable def R04_Title_L2_s (s : Str) (t35 : Int) (o : (Unit) ⊕ (Unit)) : PSt := match o with
  | (.inl o) => R04_Title_L2_o0 s t35 o
  | (.inr o) => R04_Title_L2_o1 s t35 o
noncomputable def R04_Title_J3_S (s : Str) (i : Int) (t35 : Int) : PSt := ⟨[.str s, u, u, .int .i64 i, u, u, u, u, u, u, u, u, u, u, u, u, u, u, u, u, u, u, u, u, u, u, u, u, u, u, u, u, u, u, u, .int .i64 t35, .int .i64 i, u, u, u, u, u, u, u, u, u, u, u, u, u, u, u, u, u, u, u, u, u, u], [], []⟩
noncomputable def R04_Title_J3_o0 (s : Str) (i : Int) (t35 : Int) (o : Bool) : PSt := ⟨[.str s, u, u, u, u, u, u, u, u, u, u, u, u, u, u, u, u, u, u, u, u, u, u, u, u, u, u, u, u, u, u, u, u, u, u, .int .i64 t35, .int .i64 i, u, u, u, u, u, u, u, u, u, u, u, u, u, u, u, u, u, u, u, u, .bool o, u], [], []⟩
noncomputable def R04_Title_J3_e (_ : (Bool)) : Exit := .normal
noncomputable def R04_Title_J3_s (s : Str) (i : Int) (t35 : Int) (o : (Bool)) : PSt := R04_Title_J3_o0 s i t35 o
noncomputable def R04_Title_J3 (s : Str) (i : Int) : Option ((Bool)) :=
  (idxS s i).bind fun c12 =>
  (R04_small c12).bind fun r13 =>
  if (!r13) = true then
    (idxS s i).bind fun c15 =>
    (R04_capital c15).bind fun r16 =>
    if (!r16) = true then
      (idxS s i).bind fun c18 =>
      (R04_digit c18).bind fun r19 =>
      some (!r19)
    else
      some false
  else
    some false
theorem R04_Title_J3_ok (s : Str) (i : Int) (t35 : Int) {x : (Bool)} (h : R04_Title_J3 s i = some x) :
    Sat Pg GE 0 (codeAt b15 [true, true, false, true, true, true, true, true, false, true, true, false]) (EX (R04_Title_J3_e x) (R04_Title_J3_s s i t35 x)) (R04_Title_J3_S s i t35) := by
  obtain ⟨c12, bc12, h⟩ := bnd h
  obtain ⟨r13, br13, h⟩ := bnd h
  rcases ifs h with ⟨c14, h⟩ | ⟨c14, h⟩
  · obtain ⟨c15, bc15, h⟩ := bnd h
    obtain ⟨r16, br16, h⟩ := bnd h
    rcases ifs h with ⟨c17, h⟩ | ⟨c17, h⟩
    · obtain ⟨c18, bc18, h⟩ := bnd h
      obtain ⟨r19, br19, h⟩ := bnd h
      obtain rfl := lf h
      exact piece (A := A15) mixed [.v (.int .u8 c12), .c (.bool r13) [], .g 6 true, .v (.int .u8 c15), .c (.bool r16) [], .g 13 true, .v (.int .u8 c18), .c (.bool r19) []] (Eq.mp (by kernel_rfl) (aI (strIx (k := .i64) Tryd.underlying9 bc12) <| aI (R04_small_ok br13) <| aI c14 <| aI (strIx (k := .i64) Tryd.underlying9 bc15) <| aI (R04_capital_ok br16) <| aI c17 <| aI (strIx (k := .i64) Tryd.underlying9 bc18) <| aI (R04_digit_ok br19) <| aI (rE (R04_Title_J3_e (!r19))) <| fr (R04_Title_J3_s s i t35 (!r19))))
    · obtain rfl := lf h
      exact piece (A := A15) mixed [.v (.int .u8 c12), .c (.bool r13) [], .g 6 true, .v (.int .u8 c15), .c (.bool r16) [], .g 13 false] (Eq.mp (by kernel_rfl) (aI (strIx (k := .i64) Tryd.underlying9 bc12) <| aI (R04_small_ok br13) <| aI c14 <| aI (strIx (k := .i64) Tryd.underlying9 bc15) <| aI (R04_capital_ok br16) <| aI c17 <| aI (rE (R04_Title_J3_e false)) <| fr (R04_Title_J3_s s i t35 false)))
  · obtain rfl := lf h
    exact piece (A := A15) mixed [.v (.int .u8 c12), .c (.bool r13) [], .g 6 false] (Eq.mp (by kernel_rfl) (aI (strIx (k := .i64) Tryd.underlying9 bc12) <| aI (R04_small_ok br13) <| aI c14 <| aI (rE (R04_Title_J3_e false)) <| fr (R04_Title_J3_s s i t35 false)))
noncomputable def R04_Title_L2_b (s : Str) (t35 : Int) (t36 : Int) : Option ((Int) ⊕ ((Unit) ⊕ (Unit))) :=
  if (decide (t36 < t35)) = true then
    (R04_Title_J3 s t36).bind fun o20 =>
    if o20 = true then
      some (.inr (.inl ()))
    else
      some (.inl (w64 (t36 + 1)))
  else
    some (.inr (.inr ()))
noncomputable def R04_Title_L2 (s : Str) (t35 : Int) (t36 : Int) : Option ((Unit) ⊕ (Unit)) := loop (fun (zz : Int) => R04_Title_L2_b s t35 zz) t36
theorem R04_Title_L2_bok (s : Str) (t35 : Int) (t36 : Int) {y : (Int) ⊕ ((Unit) ⊕ (Unit))} (h : R04_Title_L2_b s t35 t36 = some y) :
    Sat Pg GE 0 (codeAt b15 [true, true, false, true, true, true]) (LQ (fun (zz : Int) => R04_Title_L2_S s t35 zz) R04_Title_L2_e (R04_Title_L2_s s t35) y) (R04_Title_L2_S s t35 t36) := by
  rcases ifs h with ⟨c11, h⟩ | ⟨c11, h⟩
  · obtain ⟨o20, bo20, h⟩ := bnd h
    rcases ifs h with ⟨c21, h⟩ | ⟨c21, h⟩
    · obtain rfl := lf h
      exact over (A := A15) mixed [.g 0 true, .pa 2, .pc (R04_Title_J3_S s t36 t35) (.normal) (R04_Title_J3_s s t36 t35 o20), .g 0 true] (by intro hx; cases hx) (Eq.mp (by kernel_rfl) (aI c11 <| aI (fr (R04_Title_J3_S s t36 t35)) <| aI (R04_Title_J3_ok s t36 t35 bo20) <| aI c21 <| aI (rE (R04_Title_L2_e (.inl ()))) <| fr (R04_Title_L2_s s t35 (.inl ()))))
    · obtain rfl := lf h
      exact next (A := A15) mixed [.g 0 true, .pa 2, .pc (R04_Title_J3_S s t36 t35) (.normal) (R04_Title_J3_s s t36 t35 o20), .g 0 false] (Eq.mp (by kernel_rfl) (aI c11 <| aI (fr (R04_Title_J3_S s t36 t35)) <| aI (R04_Title_J3_ok s t36 t35 bo20) <| aI c21 <| aI (rE .normal) <| fr (R04_Title_L2_S s t35 (w64 (t36 + 1)))))
  · obtain rfl := lf h
    exact over (A := A15) mixed [.g 0 false] (by intro hx; cases hx) (Eq.mp (by kernel_rfl) (aI c11 <| aI (rE (R04_Title_L2_e (.inr ()))) <| fr (R04_Title_L2_s s t35 (.inr ()))))
theorem R04_Title_L2_ok (s : Str) (t35 : Int) (t36 : Int) {x : (Unit) ⊕ (Unit)} (h : R04_Title_L2 s t35 t36 = some x) :
    Sat Pg GE 0 (.loop (codeAt b15 [true, true, false, true, true, true])) (EX (R04_Title_L2_e x) (R04_Title_L2_s s t35 x)) (R04_Title_L2_S s t35 t36) :=
  Sat.loop (S := fun (zz : Int) => R04_Title_L2_S s t35 zz) h fun zz y hy => R04_Title_L2_bok s t35 zz hy
noncomputable def R04_Title (s : Str) : Option (Int) :=
  (R04_Title_J1 s).bind fun o9 =>
  if o9 = true then
    some 3
  else
    (R04_Title_L2 s (s.length : Int) 0).bind fun o22 => match o22 with
    | (.inl o22) =>
      some 3
    | (.inr o22) =>
      some 0
theorem R04_Title_ok {s : Str} {r : Int} (h : R04_Title s = some r) : CC Pg GE 15 [.str s] (.int .i64 r) [] := by
  obtain ⟨o9, bo9, h⟩ := bnd h
  rcases ifs h with ⟨c10, h⟩ | ⟨c10, h⟩
  · obtain rfl := lf h
    exact C.ev (A := A15) mixed Tryd.call15 Tryd.func15 (c := b15) rfl (aI trivial trivial) [.pa 2, .pc (R04_Title_J1_S s) (.normal) (R04_Title_J1_s s o9), .g 0 true] (Eq.mp (by kernel_rfl) (aI (fr (R04_Title_J1_S s)) <| aI (R04_Title_J1_ok s bo9) <| aI c10 <| aI (rP (.int .i64 3)) <| trivial))
  · obtain ⟨o22, bo22, h⟩ := bnd h
    rcases o22 with o22 | o22
    · obtain rfl := lf h
      exact C.ev (A := A15) mixed Tryd.call15 Tryd.func15 (c := b15) rfl (aI trivial trivial) [.pa 2, .pc (R04_Title_J1_S s) (.normal) (R04_Title_J1_s s o9), .g 0 false, .v (.int .i64 (s.length : Int)), .pc (R04_Title_L2_S s (s.length : Int) 0) (.ret) (R04_Title_L2_s s (s.length : Int) (.inl o22))] (Eq.mp (by kernel_rfl) (aI (fr (R04_Title_J1_S s)) <| aI (R04_Title_J1_ok s bo9) <| aI c10 <| aI (strLn Tryd.underlying9 s) <| aI (fr (R04_Title_L2_S s (s.length : Int) 0)) <| aI (R04_Title_L2_ok s (s.length : Int) 0 bo22) <| aI (rP (.int .i64 3)) <| trivial))
    · obtain rfl := lf h
      exact C.ev (A := A15) mixed Tryd.call15 Tryd.func15 (c := b15) rfl (aI trivial trivial) [.pa 2, .pc (R04_Title_J1_S s) (.normal) (R04_Title_J1_s s o9), .g 0 false, .v (.int .i64 (s.length : Int)), .pc (R04_Title_L2_S s (s.length : Int) 0) (.exit 0) (R04_Title_L2_s s (s.length : Int) (.inr o22))] (Eq.mp (by kernel_rfl) (aI (fr (R04_Title_J1_S s)) <| aI (R04_Title_J1_ok s bo9) <| aI c10 <| aI (strLn Tryd.underlying9 s) <| aI (fr (R04_Title_L2_S s (s.length : Int) 0)) <| aI (R04_Title_L2_ok s (s.length : Int) 0 bo22) <| aI (rP (.int .i64 0)) <| trivial))

/-! liquidcheck/liquidcheckref04.parts -/
noncomputable def b39 : Code := Tryd.f39.body.getD .skip
def A39 : List Nat := [10, 15, 25]
noncomputable def R04_parts_L1_S (s : Str) (out : (List Str)) (begin : Int) (t7 : Int) (t8 : Int) : PSt := ⟨[.str s, u, u, sl cS out, .int .i64 begin, u, u, .int .i64 t7, .int .i64 t8, u, u, u, u, u, u, u, u, u, u, u, u, u, u, u, u, u, u, u, u, u, u], [], [((3, 0), 9)]⟩
noncomputable def R04_parts_L1_o0 (s : Str) (t7 : Int) (o : (List Str) × Int) : PSt := ⟨[.str s, u, u, sl cS o.1, .int .i64 o.2, u, u, u, u, u, u, u, u, u, u, u, u, u, u, u, u, u, u, u, u, u, u, u, u, u, u], [], [((3, 0), 9)]⟩
noncomputable def R04_parts_L1_e (_ : ((List Str) × Int)) : Exit := .exit 0
noncomputable def R04_parts_L1_s (s : Str) (t7 : Int) (o : ((List Str) × Int)) : PSt := R04_parts_L1_o0 s t7 o
noncomputable def R04_parts_L1_b (s : Str) (t7 : Int) (out : (List Str)) (begin : Int) (t8 : Int) : Option (((List Str) × Int × Int) ⊕ (((List Str) × Int))) :=
  if (decide (t8 < t7)) = true then
    (idxS s t8).bind fun c2 =>
    if (c2 == 46) = true then
      (slc s (some begin) (some t8)).bind fun s4 =>
      (app out ([s4] : List Str)).bind fun l5 =>
      some (.inl (l5, w64 (t8 + 1), w64 (t8 + 1)))
    else
      some (.inl (out, begin, w64 (t8 + 1)))
  else
    some (.inr (out, begin))
noncomputable def R04_parts_L1 (s : Str) (t7 : Int) (out : (List Str)) (begin : Int) (t8 : Int) : Option (((List Str) × Int)) := loop (fun (zz : (List Str) × Int × Int) => R04_parts_L1_b s t7 zz.1 zz.2.1 zz.2.2) (out, begin, t8)
theorem R04_parts_L1_bok (s : Str) (out : (List Str)) (begin : Int) (t7 : Int) (t8 : Int) {y : ((List Str) × Int × Int) ⊕ (((List Str) × Int))} (h : R04_parts_L1_b s t7 out begin t8 = some y) :
    Sat Pg GE 0 (codeAt b39 [true, true, true, false, true, true, true]) (LQ (fun (zz : (List Str) × Int × Int) => R04_parts_L1_S s zz.1 zz.2.1 t7 zz.2.2) R04_parts_L1_e (R04_parts_L1_s s t7) y) (R04_parts_L1_S s out begin t7 t8) := by
  rcases ifs h with ⟨c1, h⟩ | ⟨c1, h⟩
  · obtain ⟨c2, bc2, h⟩ := bnd h
    rcases ifs h with ⟨c3, h⟩ | ⟨c3, h⟩
    · obtain ⟨s4, bs4, h⟩ := bnd h
      obtain ⟨l5, bl5, h⟩ := bnd h
      obtain rfl := lf h
      exact next (A := A39) mixed [.g 0 true, .v (.int .u8 c2), .g 0 true, .v (.str s4), .v (sl cS ([s4] : List Str)), .v (sl cS l5)] (Eq.mp (by kernel_rfl) (aI c1 <| aI (strIx (k := .i64) Tryd.underlying9 bc2) <| aI c3 <| aI (strSc Tryd.underlying9 bs4) <| aI (sT26.mk' (v := PVal.str) pcS ([s4] : List Str) 1 (by kernel_rfl)) <| aI (sT26.ap bl5) <| aI (rE .normal) <| fr (R04_parts_L1_S s l5 (w64 (t8 + 1)) t7 (w64 (t8 + 1)))))
    · obtain rfl := lf h
      exact next (A := A39) mixed [.g 0 true, .v (.int .u8 c2), .g 0 false] (Eq.mp (by kernel_rfl) (aI c1 <| aI (strIx (k := .i64) Tryd.underlying9 bc2) <| aI c3 <| aI (rE .normal) <| fr (R04_parts_L1_S s out begin t7 (w64 (t8 + 1)))))
  · obtain rfl := lf h
    exact over (A := A39) mixed [.g 0 false] (by intro hx; cases hx) (Eq.mp (by kernel_rfl) (aI c1 <| aI (rE (R04_parts_L1_e (out, begin))) <| fr (R04_parts_L1_s s t7 (out, begin))))
theorem R04_parts_L1_ok (s : Str) (out : (List Str)) (begin : Int) (t7 : Int) (t8 : Int) {x : ((List Str) × Int)} (h : R04_parts_L1 s t7 out begin t8 = some x) :
    Sat Pg GE 0 (.loop (codeAt b39 [true, true, true, false, true, true, true])) (EX (R04_parts_L1_e x) (R04_parts_L1_s s t7 x)) (R04_parts_L1_S s out begin t7 t8) :=
  Sat.loop (S := fun (zz : (List Str) × Int × Int) => R04_parts_L1_S s zz.1 zz.2.1 t7 zz.2.2) h fun zz y hy => R04_parts_L1_bok s zz.1 zz.2.1 t7 zz.2.2 hy
noncomputable def R04_parts (s : Str) : Option ((List Str)) :=
  (R04_parts_L1 s (s.length : Int) ([] : List Str) 0 0).bind fun o6 =>
  (slc s (some o6.2) none).bind fun s7 =>
  (app o6.1 ([s7] : List Str)).bind fun l8 =>
  some l8
theorem R04_parts_ok {s : Str} {r : (List Str)} (h : R04_parts s = some r) : CC Pg GE 39 [.str s] (sl cS r) [(0, 9)] := by
  obtain ⟨o6, bo6, h⟩ := bnd h
  obtain ⟨s7, bs7, h⟩ := bnd h
  obtain ⟨l8, bl8, h⟩ := bnd h
  obtain rfl := lf h
  exact C.ev (A := A39) mixed Tryd.call39 Tryd.func39 (c := b39) rfl (aI trivial trivial) [.v (.int .i64 (s.length : Int)), .pc (R04_parts_L1_S s ([] : List Str) 0 (s.length : Int) 0) (.exit 0) (R04_parts_L1_s s (s.length : Int) o6), .v (.str s7), .v (sl cS ([s7] : List Str)), .v (sl cS l8)] (Eq.mp (by kernel_rfl) (aI (strLn Tryd.underlying9 s) <| aI (fr (R04_parts_L1_S s ([] : List Str) 0 (s.length : Int) 0)) <| aI (R04_parts_L1_ok s ([] : List Str) 0 (s.length : Int) 0 bo6) <| aI (strSc Tryd.underlying9 bs7) <| aI (sT26.mk' (v := PVal.str) pcS ([s7] : List Str) 1 (by kernel_rfl)) <| aI (sT26.ap bl8) <| aI (rP (sl cS l8)) <| (cl_sl clS l8)))

/-! liquidcheck/liquidcheckref04.part -/
noncomputable def b40 : Code := Tryd.f40.body.getD .skip
def A40 : List Nat := [21]
noncomputable def R04_part_J1_S (p : Str) : PSt := ⟨[.str p, u, u, u, u, u, u, u, u, u, u, u, u, u, u, u, u, u, u, u, u, u, u, u, u, u, u, u, u, u, u, u, u, u, u, u, u, u, u, u, u, u, u, u, u, u, u, u, u, u, u, u, u, u, u, u, u, u, u, u, u, u, u, u, u], [], []⟩
noncomputable def R04_part_J1_o0 (p : Str) (o : Bool) : PSt := ⟨[.str p, u, u, u, u, u, u, u, u, u, u, u, u, .bool o, u, u, u, u, u, u, u, u, u, u, u, u, u, u, u, u, u, u, u, u, u, u, u, u, u, u, u, u, u, u, u, u, u, u, u, u, u, u, u, u, u, u, u, u, u, u, u, u, u, u, u], [], []⟩
noncomputable def R04_part_J1_e (_ : (Bool)) : Exit := .normal
noncomputable def R04_part_J1_s (p : Str) (o : (Bool)) : PSt := R04_part_J1_o0 p o
noncomputable def R04_part_J1 (p : Str) : Option ((Bool)) :=
  if (decide ((p.length : Int) < 1)) = true then
    some true
  else
    some (decide ((p.length : Int) > 24))
theorem R04_part_J1_ok (p : Str) {x : (Bool)} (h : R04_part_J1 p = some x) :
    Sat Pg GE 0 (codeAt b40 [true, false, false]) (EX (R04_part_J1_e x) (R04_part_J1_s p x)) (R04_part_J1_S p) := by
  rcases ifs h with ⟨c1, h⟩ | ⟨c1, h⟩
  · obtain rfl := lf h
    exact piece (A := A40) mixed [.v (.int .i64 (p.length : Int)), .g 4 true] (Eq.mp (by kernel_rfl) (aI (strLn Tryd.underlying9 p) <| aI c1 <| aI (rE (R04_part_J1_e true)) <| fr (R04_part_J1_s p true)))
  · obtain rfl := lf h
    exact piece (A := A40) mixed [.v (.int .i64 (p.length : Int)), .g 4 false, .v (.int .i64 (p.length : Int))] (Eq.mp (by kernel_rfl) (aI (strLn Tryd.underlying9 p) <| aI c1 <| aI (strLn Tryd.underlying9 p) <| aI (rE (R04_part_J1_e (decide ((p.length : Int) > 24)))) <| fr (R04_part_J1_s p (decide ((p.length : Int) > 24)))))
noncomputable def R04_part_L2_S (p : Str) (plain : Bool) (word : Bool) (t18 : Int) (t19 : Int) : PSt := ⟨[.str p, u, u, .bool plain, .bool word, u, u, u, u, u, u, u, u, u, u, u, u, u, .int .i64 t18, .int .i64 t19, u, u, u, u, u, u, u, u, u, u, u, u, u, u, u, u, u, u, u, u, u, u, u, u, u, u, u, u, u, u, u, u, u, u, u, u, u, u, u, u, u, u, u, u, u], [], []⟩
noncomputable def R04_part_L2_o0 (p : Str) (t18 : Int) (o : Bool × Bool) : PSt := ⟨[u, u, u, .bool o.1, .bool o.2, u, u, u, u, u, u, u, u, u, u, u, u, u, u, u, u, u, u, u, u, u, u, u, u, u, u, u, u, u, u, u, u, u, u, u, u, u, u, u, u, u, u, u, u, u, u, u, u, u, u, u, u, u, u, u, u, u, u, u, u], [], []⟩
noncomputable def R04_part_L2_e (_ : (Bool × Bool)) : Exit := .exit 0
noncomputable def R04_part_L2_s (p : Str) (t18 : Int) (o : (Bool × Bool)) : PSt := R04_part_L2_o0 p t18 o
noncomputable def R04_part_J3_S (p : Str) (plain : Bool) (word : Bool) (i : Int) (t18 : Int) : PSt := ⟨[.str p, u, u, .bool plain, .bool word, .int .i64 i, u, u, u, u, u, u, u, u, u, u, u, u, .int .i64 t18, .int .i64 i, u, u, u, u, u, u, u, u, u, u, u, u, u, u, u, u, u, u, u, u, u, u, u, u, u, u, u, u, u, u, u, u, u, u, u, u, u, u, u, u, u, u, u, u, u], [], []⟩
noncomputable def R04_part_J3_o0 (p : Str) (plain : Bool) (word : Bool) (i : Int) (t18 : Int) (o : Bool) : PSt := ⟨[.str p, u, u, .bool o, .bool word, .int .i64 i, u, u, u, u, u, u, u, u, u, u, u, u, .int .i64 t18, .int .i64 i, u, u, u, u, u, u, u, u, u, u, u, u, u, u, u, u, u, u, u, u, u, u, u, u, u, u, u, u, u, u, u, u, u, u, u, u, u, u, u, u, u, u, u, u, u], [], []⟩
noncomputable def R04_part_J3_e (_ : (Bool)) : Exit := .normal
noncomputable def R04_part_J3_s (p : Str) (plain : Bool) (word : Bool) (i : Int) (t18 : Int) (o : (Bool)) : PSt := R04_part_J3_o0 p plain word i t18 o
noncomputable def R04_part_J3 (p : Str) (plain : Bool) (i : Int) : Option ((Bool)) :=
  if plain = true then
    (idxS p i).bind fun c8 =>
    (R04_small c8).bind fun r9 =>
    if r9 = true then
      some true
    else
      (idxS p i).bind fun c11 =>
      (R04_capital c11).bind fun r12 =>
      if r12 = true then
        some true
      else
        (idxS p i).bind fun c14 =>
        (R04_digit c14).bind fun r15 =>
        some r15
  else
    some false
theorem R04_part_J3_ok (p : Str) (plain : Bool) (word : Bool) (i : Int) (t18 : Int) {x : (Bool)} (h : R04_part_J3 p plain i = some x) :
    Sat Pg GE 0 (codeAt b40 [true, true, true, true, false, true, true, true, true, true, false, true, true, false]) (EX (R04_part_J3_e x) (R04_part_J3_s p plain word i t18 x)) (R04_part_J3_S p plain word i t18) := by
  rcases ifs h with ⟨c7, h⟩ | ⟨c7, h⟩
  · obtain ⟨c8, bc8, h⟩ := bnd h
    obtain ⟨r9, br9, h⟩ := bnd h
    rcases ifs h with ⟨c10, h⟩ | ⟨c10, h⟩
    · obtain rfl := lf h
      exact piece (A := A40) mixed [.g 2 true, .v (.int .u8 c8), .c (.bool r9) [], .g 7 true] (Eq.mp (by kernel_rfl) (aI c7 <| aI (strIx (k := .i64) Tryd.underlying9 bc8) <| aI (R04_small_ok br9) <| aI c10 <| aI (rE (R04_part_J3_e true)) <| fr (R04_part_J3_s p plain word i t18 true)))
    · obtain ⟨c11, bc11, h⟩ := bnd h
      obtain ⟨r12, br12, h⟩ := bnd h
      rcases ifs h with ⟨c13, h⟩ | ⟨c13, h⟩
      · obtain rfl := lf h
        exact piece (A := A40) mixed [.g 2 true, .v (.int .u8 c8), .c (.bool r9) [], .g 7 false, .v (.int .u8 c11), .c (.bool r12) [], .g 13 true] (Eq.mp (by kernel_rfl) (aI c7 <| aI (strIx (k := .i64) Tryd.underlying9 bc8) <| aI (R04_small_ok br9) <| aI c10 <| aI (strIx (k := .i64) Tryd.underlying9 bc11) <| aI (R04_capital_ok br12) <| aI c13 <| aI (rE (R04_part_J3_e true)) <| fr (R04_part_J3_s p plain word i t18 true)))
      · obtain ⟨c14, bc14, h⟩ := bnd h
        obtain ⟨r15, br15, h⟩ := bnd h
        obtain rfl := lf h
        exact piece (A := A40) mixed [.g 2 true, .v (.int .u8 c8), .c (.bool r9) [], .g 7 false, .v (.int .u8 c11), .c (.bool r12) [], .g 13 false, .v (.int .u8 c14), .c (.bool r15) []] (Eq.mp (by kernel_rfl) (aI c7 <| aI (strIx (k := .i64) Tryd.underlying9 bc8) <| aI (R04_small_ok br9) <| aI c10 <| aI (strIx (k := .i64) Tryd.underlying9 bc11) <| aI (R04_capital_ok br12) <| aI c13 <| aI (strIx (k := .i64) Tryd.underlying9 bc14) <| aI (R04_digit_ok br15) <| aI (rE (R04_part_J3_e r15)) <| fr (R04_part_J3_s p plain word i t18 r15)))
  · obtain rfl := lf h
    exact piece (A := A40) mixed [.g 2 false] (Eq.mp (by kernel_rfl) (aI c7 <| aI (rE (R04_part_J3_e false)) <| fr (R04_part_J3_s p plain word i t18 false)))
noncomputable def R04_part_L2_b (p : Str) (t18 : Int) (plain : Bool) (word : Bool) (t19 : Int) : Option ((Bool × Bool × Int) ⊕ ((Bool × Bool))) :=
  if (decide (t19 < t18)) = true then
    (R04_part_J3 p plain t19).bind fun o16 =>
    if word = true then
      (idxS p t19).bind fun c18 =>
      (R04_small c18).bind fun r19 =>
      if r19 = true then
        some (.inl (o16, true, w64 (t19 + 1)))
      else
        (idxS p t19).bind fun c21 =>
        (R04_digit c21).bind fun r22 =>
        if r22 = true then
          some (.inl (o16, true, w64 (t19 + 1)))
        else
          (idxS p t19).bind fun c24 =>
          some (.inl (o16, c24 == 95, w64 (t19 + 1)))
    else
      some (.inl (o16, false, w64 (t19 + 1)))
  else
    some (.inr (plain, word))
noncomputable def R04_part_L2 (p : Str) (t18 : Int) (plain : Bool) (word : Bool) (t19 : Int) : Option ((Bool × Bool)) := loop (fun (zz : Bool × Bool × Int) => R04_part_L2_b p t18 zz.1 zz.2.1 zz.2.2) (plain, word, t19)
theorem R04_part_L2_bok (p : Str) (plain : Bool) (word : Bool) (t18 : Int) (t19 : Int) {y : (Bool × Bool × Int) ⊕ ((Bool × Bool))} (h : R04_part_L2_b p t18 plain word t19 = some y) :
    Sat Pg GE 0 (codeAt b40 [true, true, true, true, false, true, true, true]) (LQ (fun (zz : Bool × Bool × Int) => R04_part_L2_S p zz.1 zz.2.1 t18 zz.2.2) R04_part_L2_e (R04_part_L2_s p t18) y) (R04_part_L2_S p plain word t18 t19) := by
  rcases ifs h with ⟨c6, h⟩ | ⟨c6, h⟩
  · obtain ⟨o16, bo16, h⟩ := bnd h
    rcases ifs h with ⟨c17, h⟩ | ⟨c17, h⟩
    · obtain ⟨c18, bc18, h⟩ := bnd h
      obtain ⟨r19, br19, h⟩ := bnd h
      rcases ifs h with ⟨c20, h⟩ | ⟨c20, h⟩
      · obtain rfl := lf h
        exact next (A := A40) mixed [.g 0 true, .pa 2, .pc (R04_part_J3_S p plain word t19 t18) (.normal) (R04_part_J3_s p plain word t19 t18 o16), .g 2 true, .v (.int .u8 c18), .c (.bool r19) [], .g 7 true] (Eq.mp (by kernel_rfl) (aI c6 <| aI (fr (R04_part_J3_S p plain word t19 t18)) <| aI (R04_part_J3_ok p plain word t19 t18 bo16) <| aI c17 <| aI (strIx (k := .i64) Tryd.underlying9 bc18) <| aI (R04_small_ok br19) <| aI c20 <| aI (rE .normal) <| fr (R04_part_L2_S p o16 true t18 (w64 (t19 + 1)))))
      · obtain ⟨c21, bc21, h⟩ := bnd h
        obtain ⟨r22, br22, h⟩ := bnd h
        rcases ifs h with ⟨c23, h⟩ | ⟨c23, h⟩
        · obtain rfl := lf h
          exact next (A := A40) mixed [.g 0 true, .pa 2, .pc (R04_part_J3_S p plain word t19 t18) (.normal) (R04_part_J3_s p plain word t19 t18 o16), .g 2 true, .v (.int .u8 c18), .c (.bool r19) [], .g 7 false, .v (.int .u8 c21), .c (.bool r22) [], .g 13 true] (Eq.mp (by kernel_rfl) (aI c6 <| aI (fr (R04_part_J3_S p plain word t19 t18)) <| aI (R04_part_J3_ok p plain word t19 t18 bo16) <| aI c17 <| aI (strIx (k := .i64) Tryd.underlying9 bc18) <| aI (R04_small_ok br19) <| aI c20 <| aI (strIx (k := .i64) Tryd.underlying9 bc21) <| aI (R04_digit_ok br22) <| aI c23 <| aI (rE .normal) <| fr (R04_part_L2_S p o16 true t18 (w64 (t19 + 1)))))
        · obtain ⟨c24, bc24, h⟩ := bnd h
          obtain rfl := lf h
          exact next (A := A40) mixed [.g 0 true, .pa 2, .pc (R04_part_J3_S p plain word t19 t18) (.normal) (R04_part_J3_s p plain word t19 t18 o16), .g 2 true, .v (.int .u8 c18), .c (.bool r19) [], .g 7 false, .v (.int .u8 c21), .c (.bool r22) [], .g 13 false, .v (.int .u8 c24)] (Eq.mp (by kernel_rfl) (aI c6 <| aI (fr (R04_part_J3_S p plain word t19 t18)) <| aI (R04_part_J3_ok p plain word t19 t18 bo16) <| aI c17 <| aI (strIx (k := .i64) Tryd.underlying9 bc18) <| aI (R04_small_ok br19) <| aI c20 <| aI (strIx (k := .i64) Tryd.underlying9 bc21) <| aI (R04_digit_ok br22) <| aI c23 <| aI (strIx (k := .i64) Tryd.underlying9 bc24) <| aI (rE .normal) <| fr (R04_part_L2_S p o16 (c24 == 95) t18 (w64 (t19 + 1)))))
    · obtain rfl := lf h
      exact next (A := A40) mixed [.g 0 true, .pa 2, .pc (R04_part_J3_S p plain word t19 t18) (.normal) (R04_part_J3_s p plain word t19 t18 o16), .g 2 false] (Eq.mp (by kernel_rfl) (aI c6 <| aI (fr (R04_part_J3_S p plain word t19 t18)) <| aI (R04_part_J3_ok p plain word t19 t18 bo16) <| aI c17 <| aI (rE .normal) <| fr (R04_part_L2_S p o16 false t18 (w64 (t19 + 1)))))
  · obtain rfl := lf h
    exact over (A := A40) mixed [.g 0 false] (by intro hx; cases hx) (Eq.mp (by kernel_rfl) (aI c6 <| aI (rE (R04_part_L2_e (plain, word))) <| fr (R04_part_L2_s p t18 (plain, word))))
theorem R04_part_L2_ok (p : Str) (plain : Bool) (word : Bool) (t18 : Int) (t19 : Int) {x : (Bool × Bool)} (h : R04_part_L2 p t18 plain word t19 = some x) :
    Sat Pg GE 0 (.loop (codeAt b40 [true, true, true, true, false, true, true, true])) (EX (R04_part_L2_e x) (R04_part_L2_s p t18 x)) (R04_part_L2_S p plain word t18 t19) :=
  Sat.loop (S := fun (zz : Bool × Bool × Int) => R04_part_L2_S p zz.1 zz.2.1 t18 zz.2.2) h fun zz y hy => R04_part_L2_bok p zz.1 zz.2.1 t18 zz.2.2 hy
noncomputable def R04_part (p : Str) : Option (Bool) :=
  (R04_part_J1 p).bind fun o2 =>
  if o2 = true then
    some false
  else
    (idxS p 0).bind fun c4 =>
    (R04_small c4).bind fun r5 =>
    (R04_part_L2 p (p.length : Int) true r5 0).bind fun o25 =>
    if o25.1 = true then
      some true
    else
      some o25.2
theorem R04_part_ok {p : Str} {r : Bool} (h : R04_part p = some r) : CC Pg GE 40 [.str p] (.bool r) [] := by
  obtain ⟨o2, bo2, h⟩ := bnd h
  rcases ifs h with ⟨c3, h⟩ | ⟨c3, h⟩
  · obtain rfl := lf h
    exact C.ev (A := A40) mixed Tryd.call40 Tryd.func40 (c := b40) rfl (aI trivial trivial) [.pa 2, .pc (R04_part_J1_S p) (.normal) (R04_part_J1_s p o2), .g 0 true] (Eq.mp (by kernel_rfl) (aI (fr (R04_part_J1_S p)) <| aI (R04_part_J1_ok p bo2) <| aI c3 <| aI (rP (.bool false)) <| trivial))
  · obtain ⟨c4, bc4, h⟩ := bnd h
    obtain ⟨r5, br5, h⟩ := bnd h
    obtain ⟨o25, bo25, h⟩ := bnd h
    rcases ifs h with ⟨c26, h⟩ | ⟨c26, h⟩
    · obtain rfl := lf h
      exact C.ev (A := A40) mixed Tryd.call40 Tryd.func40 (c := b40) rfl (aI trivial trivial) [.pa 2, .pc (R04_part_J1_S p) (.normal) (R04_part_J1_s p o2), .g 0 false, .v (.int .u8 c4), .c (.bool r5) [], .v (.int .i64 (p.length : Int)), .pc (R04_part_L2_S p true r5 (p.length : Int) 0) (.exit 0) (R04_part_L2_s p (p.length : Int) o25), .g 2 true] (Eq.mp (by kernel_rfl) (aI (fr (R04_part_J1_S p)) <| aI (R04_part_J1_ok p bo2) <| aI c3 <| aI (strIx (k := .i64) Tryd.underlying9 bc4) <| aI (R04_small_ok br5) <| aI (strLn Tryd.underlying9 p) <| aI (fr (R04_part_L2_S p true r5 (p.length : Int) 0)) <| aI (R04_part_L2_ok p true r5 (p.length : Int) 0 bo25) <| aI c26 <| aI (rP (.bool true)) <| trivial))
    · obtain rfl := lf h
      exact C.ev (A := A40) mixed Tryd.call40 Tryd.func40 (c := b40) rfl (aI trivial trivial) [.pa 2, .pc (R04_part_J1_S p) (.normal) (R04_part_J1_s p o2), .g 0 false, .v (.int .u8 c4), .c (.bool r5) [], .v (.int .i64 (p.length : Int)), .pc (R04_part_L2_S p true r5 (p.length : Int) 0) (.exit 0) (R04_part_L2_s p (p.length : Int) o25), .g 2 false] (Eq.mp (by kernel_rfl) (aI (fr (R04_part_J1_S p)) <| aI (R04_part_J1_ok p bo2) <| aI c3 <| aI (strIx (k := .i64) Tryd.underlying9 bc4) <| aI (R04_small_ok br5) <| aI (strLn Tryd.underlying9 p) <| aI (fr (R04_part_L2_S p true r5 (p.length : Int) 0)) <| aI (R04_part_L2_ok p true r5 (p.length : Int) 0 bo25) <| aI c26 <| aI (rP (.bool o25.2)) <| trivial))

/-! liquidcheck/liquidcheckref04.Core -/
noncomputable def b17 : Code := Tryd.f17.body.getD .skip
def A17 : List Nat := []
noncomputable def R04_Core_J1_S (v : (List Str)) : PSt := ⟨[u, u, u, sl cS v, u, u, u, u, u, u, u, u, u, u, u, u, u, u, u, u, u, u, u, u, u, u, u, u, u, u, u, u, u, u, u, u, u, u, u, u, u, u, u, u, u], [], [((3, 0), 9)]⟩
noncomputable def R04_Core_J1_o0 (v : (List Str)) (o : Bool) : PSt := ⟨[u, u, u, sl cS v, u, u, u, u, u, u, u, u, u, u, u, u, u, u, u, u, u, u, u, u, u, u, u, u, u, u, u, u, u, .bool o, u, u, u, u, u, u, u, u, u, u, u], [], [((3, 0), 9)]⟩
noncomputable def R04_Core_J1_e (_ : (Bool)) : Exit := .normal
noncomputable def R04_Core_J1_s (v : (List Str)) (o : (Bool)) : PSt := R04_Core_J1_o0 v o
noncomputable def R04_Core_J1 (v : (List Str)) : Option ((Bool)) :=
  (idx v 0).bind fun x3 =>
  (R04_Check x3).bind fun r4 =>
  if (r4 != 0) = true then
    (idx v 0).bind fun x6 =>
    (R04_Title x6).bind fun r7 =>
    if (r7 != 0) = true then
      (idx v 0).bind fun x9 =>
      if (!(x9 == ([118] : Str))) = true then
        some true
      else
        some ((v.length : Int) == 1)
    else
      some false
  else
    some false
theorem R04_Core_J1_ok (v : (List Str)) {x : (Bool)} (h : R04_Core_J1 v = some x) :
    Sat Pg GE 0 (codeAt b17 [true, true, true, false, false]) (EX (R04_Core_J1_e x) (R04_Core_J1_s v x)) (R04_Core_J1_S v) := by
  obtain ⟨x3, bx3, h⟩ := bnd h
  obtain ⟨r4, br4, h⟩ := bnd h
  rcases ifs h with ⟨c5, h⟩ | ⟨c5, h⟩
  · obtain ⟨x6, bx6, h⟩ := bnd h
    obtain ⟨r7, br7, h⟩ := bnd h
    rcases ifs h with ⟨c8, h⟩ | ⟨c8, h⟩
    · obtain ⟨x9, bx9, h⟩ := bnd h
      rcases ifs h with ⟨c10, h⟩ | ⟨c10, h⟩
      · obtain rfl := lf h
        exact piece (A := A17) mixed [.v (.eptr (cS x3)), .v (.str x3), .c (.int .i64 r4) [], .g 6 true, .v (.eptr (cS x6)), .v (.str x6), .c (.int .i64 r7) [], .g 13 true, .v (.eptr (cS x9)), .v (.str x9), .g 18 true] (Eq.mp (by kernel_rfl) (aI (sT26.ia (k := .i64) bx3) <| aI (plook1 sc9 (.str x3) []) <| aI (R04_Check_ok br4) <| aI c5 <| aI (sT26.ia (k := .i64) bx6) <| aI (plook1 sc9 (.str x6) []) <| aI (R04_Title_ok br7) <| aI c8 <| aI (sT26.ia (k := .i64) bx9) <| aI (plook1 sc9 (.str x9) []) <| aI c10 <| aI (rE (R04_Core_J1_e true)) <| fr (R04_Core_J1_s v true)))
      · obtain rfl := lf h
        exact piece (A := A17) mixed [.v (.eptr (cS x3)), .v (.str x3), .c (.int .i64 r4) [], .g 6 true, .v (.eptr (cS x6)), .v (.str x6), .c (.int .i64 r7) [], .g 13 true, .v (.eptr (cS x9)), .v (.str x9), .g 18 false, .v (.int .i64 (v.length : Int))] (Eq.mp (by kernel_rfl) (aI (sT26.ia (k := .i64) bx3) <| aI (plook1 sc9 (.str x3) []) <| aI (R04_Check_ok br4) <| aI c5 <| aI (sT26.ia (k := .i64) bx6) <| aI (plook1 sc9 (.str x6) []) <| aI (R04_Title_ok br7) <| aI c8 <| aI (sT26.ia (k := .i64) bx9) <| aI (plook1 sc9 (.str x9) []) <| aI c10 <| aI (sT26.ln v) <| aI (rE (R04_Core_J1_e ((v.length : Int) == 1))) <| fr (R04_Core_J1_s v ((v.length : Int) == 1))))
    · obtain rfl := lf h
      exact piece (A := A17) mixed [.v (.eptr (cS x3)), .v (.str x3), .c (.int .i64 r4) [], .g 6 true, .v (.eptr (cS x6)), .v (.str x6), .c (.int .i64 r7) [], .g 13 false] (Eq.mp (by kernel_rfl) (aI (sT26.ia (k := .i64) bx3) <| aI (plook1 sc9 (.str x3) []) <| aI (R04_Check_ok br4) <| aI c5 <| aI (sT26.ia (k := .i64) bx6) <| aI (plook1 sc9 (.str x6) []) <| aI (R04_Title_ok br7) <| aI c8 <| aI (rE (R04_Core_J1_e false)) <| fr (R04_Core_J1_s v false)))
  · obtain rfl := lf h
    exact piece (A := A17) mixed [.v (.eptr (cS x3)), .v (.str x3), .c (.int .i64 r4) [], .g 6 false] (Eq.mp (by kernel_rfl) (aI (sT26.ia (k := .i64) bx3) <| aI (plook1 sc9 (.str x3) []) <| aI (R04_Check_ok br4) <| aI c5 <| aI (rE (R04_Core_J1_e false)) <| fr (R04_Core_J1_s v false)))
noncomputable def R04_Core_L2_S (t35 : (List Str)) (t36 : Int) (t37 : Int) : PSt := ⟨[u, u, u, u, u, u, u, u, u, u, u, u, u, u, u, u, u, u, u, u, u, u, u, u, u, u, u, u, u, u, u, u, u, u, u, sl cS t35, .int .i64 t36, .int .i64 t37, u, u, u, u, u, u, u], [], []⟩
noncomputable def R04_Core_L2_o0 (t35 : (List Str)) (t36 : Int) (o : Unit) : PSt := ⟨[u, u, .int .i64 3, u, u, u, u, u, u, u, u, u, u, u, u, u, u, u, u, u, u, u, u, u, u, u, u, u, u, u, u, u, u, u, u, u, u, u, u, u, u, u, u, u, u], [], []⟩
noncomputable def R04_Core_L2_o1 (t35 : (List Str)) (t36 : Int) (o : Unit) : PSt := ⟨[u, u, u, u, u, u, u, u, u, u, u, u, u, u, u, u, u, u, u, u, u, u, u, u, u, u, u, u, u, u, u, u, u, u, u, u, u, u, u, u, u, u, u, u, u], [], []⟩
noncomputable def R04_Core_L2_e (o : (Unit) ⊕ (Unit)) : Exit := match o with
  | (.inl _) => .ret
  | (.inr _) => .exit 0
noncomputable def R04_Core_L2_s (t35 : (List Str)) (t36 : Int) (o : (Unit) ⊕ (Unit)) : PSt := match o with
  | (.inl o) => R04_Core_L2_o0 t35 t36 o
  | (.inr o) => R04_Core_L2_o1 t35 t36 o
noncomputable def R04_Core_L2_b (t35 : (List Str)) (t36 : Int) (t37 : Int) : Option ((Int) ⊕ ((Unit) ⊕ (Unit))) :=
  if (decide (t37 < t36)) = true then
    (idx t35 t37).bind fun x15 =>
    (R04_part x15).bind fun r16 =>
    if (!r16) = true then
      some (.inr (.inl ()))
    else
      some (.inl (w64 (t37 + 1)))
  else
    some (.inr (.inr ()))
noncomputable def R04_Core_L2 (t35 : (List Str)) (t36 : Int) (t37 : Int) : Option ((Unit) ⊕ (Unit)) := loop (fun (zz : Int) => R04_Core_L2_b t35 t36 zz) t37
theorem R04_Core_L2_bok (t35 : (List Str)) (t36 : Int) (t37 : Int) {y : (Int) ⊕ ((Unit) ⊕ (Unit))} (h : R04_Core_L2_b t35 t36 t37 = some y) :
    Sat Pg GE 0 (codeAt b17 [true, true, true, true, false, true, true, true]) (LQ (fun (zz : Int) => R04_Core_L2_S t35 t36 zz) R04_Core_L2_e (R04_Core_L2_s t35 t36) y) (R04_Core_L2_S t35 t36 t37) := by
  rcases ifs h with ⟨c14, h⟩ | ⟨c14, h⟩
  · obtain ⟨x15, bx15, h⟩ := bnd h
    obtain ⟨r16, br16, h⟩ := bnd h
    rcases ifs h with ⟨c17, h⟩ | ⟨c17, h⟩
    · obtain rfl := lf h
      exact over (A := A17) mixed [.g 0 true, .v (.eptr (cS x15)), .v (.str x15), .c (.bool r16) [], .g 0 true] (by intro hx; cases hx) (Eq.mp (by kernel_rfl) (aI c14 <| aI (sT26.ia (k := .i64) bx15) <| aI (plook1 sc9 (.str x15) []) <| aI (R04_part_ok br16) <| aI c17 <| aI (rE (R04_Core_L2_e (.inl ()))) <| fr (R04_Core_L2_s t35 t36 (.inl ()))))
    · obtain rfl := lf h
      exact next (A := A17) mixed [.g 0 true, .v (.eptr (cS x15)), .v (.str x15), .c (.bool r16) [], .g 0 false] (Eq.mp (by kernel_rfl) (aI c14 <| aI (sT26.ia (k := .i64) bx15) <| aI (plook1 sc9 (.str x15) []) <| aI (R04_part_ok br16) <| aI c17 <| aI (rE .normal) <| fr (R04_Core_L2_S t35 t36 (w64 (t37 + 1)))))
  · obtain rfl := lf h
    exact over (A := A17) mixed [.g 0 false] (by intro hx; cases hx) (Eq.mp (by kernel_rfl) (aI c14 <| aI (rE (R04_Core_L2_e (.inr ()))) <| fr (R04_Core_L2_s t35 t36 (.inr ()))))
theorem R04_Core_L2_ok (t35 : (List Str)) (t36 : Int) (t37 : Int) {x : (Unit) ⊕ (Unit)} (h : R04_Core_L2 t35 t36 t37 = some x) :
    Sat Pg GE 0 (.loop (codeAt b17 [true, true, true, true, false, true, true, true])) (EX (R04_Core_L2_e x) (R04_Core_L2_s t35 t36 x)) (R04_Core_L2_S t35 t36 t37) :=
  Sat.loop (S := fun (zz : Int) => R04_Core_L2_S t35 t36 zz) h fun zz y hy => R04_Core_L2_bok t35 t36 zz hy
noncomputable def R04_Core (s : Str) : Option (Int) :=
  if (decide ((s.length : Int) > 120)) = true then
    some 3
  else
    (R04_parts s).bind fun r2 =>
    (R04_Core_J1 r2).bind fun o11 =>
    if o11 = true then
      some 3
    else
      (slc r2 (some 1) none).bind fun l13 =>
      (R04_Core_L2 l13 (l13.length : Int) 0).bind fun o18 => match o18 with
      | (.inl o18) =>
        some 3
      | (.inr o18) =>
        some 0
theorem R04_Core_ok {s : Str} {r : Int} (h : R04_Core s = some r) : CC Pg GE 17 [.str s] (.int .i64 r) [] := by
  rcases ifs h with ⟨c1, h⟩ | ⟨c1, h⟩
  · obtain rfl := lf h
    exact C.ev (A := A17) mixed Tryd.call17 Tryd.func17 (c := b17) rfl (aI trivial trivial) [.v (.int .i64 (s.length : Int)), .g 0 true] (Eq.mp (by kernel_rfl) (aI (strLn Tryd.underlying9 s) <| aI c1 <| aI (rP (.int .i64 3)) <| trivial))
  · obtain ⟨r2, br2, h⟩ := bnd h
    obtain ⟨o11, bo11, h⟩ := bnd h
    rcases ifs h with ⟨c12, h⟩ | ⟨c12, h⟩
    · obtain rfl := lf h
      exact C.ev (A := A17) mixed Tryd.call17 Tryd.func17 (c := b17) rfl (aI trivial trivial) [.v (.int .i64 (s.length : Int)), .g 0 false, .c (sl cS r2) [(0, 9)], .pa 1, .pc (R04_Core_J1_S r2) (.normal) (R04_Core_J1_s r2 o11), .g 0 true] (Eq.mp (by kernel_rfl) (aI (strLn Tryd.underlying9 s) <| aI c1 <| aI (R04_parts_ok br2) <| aI (fr (R04_Core_J1_S r2)) <| aI (R04_Core_J1_ok r2 bo11) <| aI c12 <| aI (rP (.int .i64 3)) <| trivial))
    · obtain ⟨l13, bl13, h⟩ := bnd h
      obtain ⟨o18, bo18, h⟩ := bnd h
      rcases o18 with o18 | o18
      · obtain rfl := lf h
        exact C.ev (A := A17) mixed Tryd.call17 Tryd.func17 (c := b17) rfl (aI trivial trivial) [.v (.int .i64 (s.length : Int)), .g 0 false, .c (sl cS r2) [(0, 9)], .pa 1, .pc (R04_Core_J1_S r2) (.normal) (R04_Core_J1_s r2 o11), .g 0 false, .v (sl cS l13), .v (.int .i64 (l13.length : Int)), .pc (R04_Core_L2_S l13 (l13.length : Int) 0) (.ret) (R04_Core_L2_s l13 (l13.length : Int) (.inl o18))] (Eq.mp (by kernel_rfl) (aI (strLn Tryd.underlying9 s) <| aI c1 <| aI (R04_parts_ok br2) <| aI (fr (R04_Core_J1_S r2)) <| aI (R04_Core_J1_ok r2 bo11) <| aI c12 <| aI (sT26.sc bl13) <| aI (sT26.ln l13) <| aI (fr (R04_Core_L2_S l13 (l13.length : Int) 0)) <| aI (R04_Core_L2_ok l13 (l13.length : Int) 0 bo18) <| aI (rP (.int .i64 3)) <| trivial))
      · obtain rfl := lf h
        exact C.ev (A := A17) mixed Tryd.call17 Tryd.func17 (c := b17) rfl (aI trivial trivial) [.v (.int .i64 (s.length : Int)), .g 0 false, .c (sl cS r2) [(0, 9)], .pa 1, .pc (R04_Core_J1_S r2) (.normal) (R04_Core_J1_s r2 o11), .g 0 false, .v (sl cS l13), .v (.int .i64 (l13.length : Int)), .pc (R04_Core_L2_S l13 (l13.length : Int) 0) (.exit 0) (R04_Core_L2_s l13 (l13.length : Int) (.inr o18))] (Eq.mp (by kernel_rfl) (aI (strLn Tryd.underlying9 s) <| aI c1 <| aI (R04_parts_ok br2) <| aI (fr (R04_Core_J1_S r2)) <| aI (R04_Core_J1_ok r2 bo11) <| aI c12 <| aI (sT26.sc bl13) <| aI (sT26.ln l13) <| aI (fr (R04_Core_L2_S l13 (l13.length : Int) 0)) <| aI (R04_Core_L2_ok l13 (l13.length : Int) 0 bo18) <| aI (rP (.int .i64 0)) <| trivial))

/-! liquidcheck/liquidchecklaw04.NamesKinds -/
noncomputable def b3 : Code := Tryd.f3.body.getD .skip
def A3 : List Nat := []
noncomputable def W04_NamesKinds (s : Str) : Option (Bool) :=
  if (decide ((s.length : Int) > 10000)) = true then
    (W04_alive).bind fun r2 =>
    some r2
  else
    (names_Keyword s).bind fun r3 =>
    (R04_Keyword s).bind fun r4 =>
    if (r3 == r4) = true then
      (names_Check s).bind fun r6 =>
      (R04_Check s).bind fun r7 =>
      if (r6 == r7) = true then
        (names_Title s).bind fun r9 =>
        (R04_Title s).bind fun r10 =>
        if (r9 == r10) = true then
          (names_Core s).bind fun r12 =>
          (R04_Core s).bind fun r13 =>
          if (r12 == r13) = true then
            (W04_alive).bind fun r15 =>
            some r15
          else
            some false
        else
          some false
      else
        some false
    else
      some false
theorem W04_NamesKinds_ok {s : Str} {r : Bool} (h : W04_NamesKinds s = some r) : CC Pg GE 3 [.str s] (.bool r) [] := by
  rcases ifs h with ⟨c1, h⟩ | ⟨c1, h⟩
  · obtain ⟨r2, br2, h⟩ := bnd h
    obtain rfl := lf h
    exact C.ev (A := A3) mixed Tryd.call3 Tryd.func3 (c := b3) rfl (aI trivial trivial) [.v (.int .i64 (s.length : Int)), .g 0 true, .c (.bool r2) []] (Eq.mp (by kernel_rfl) (aI (strLn Tryd.underlying9 s) <| aI c1 <| aI (W04_alive_ok br2) <| aI (rP (.bool r2)) <| trivial))
  · obtain ⟨r3, br3, h⟩ := bnd h
    obtain ⟨r4, br4, h⟩ := bnd h
    rcases ifs h with ⟨c5, h⟩ | ⟨c5, h⟩
    · obtain ⟨r6, br6, h⟩ := bnd h
      obtain ⟨r7, br7, h⟩ := bnd h
      rcases ifs h with ⟨c8, h⟩ | ⟨c8, h⟩
      · obtain ⟨r9, br9, h⟩ := bnd h
        obtain ⟨r10, br10, h⟩ := bnd h
        rcases ifs h with ⟨c11, h⟩ | ⟨c11, h⟩
        · obtain ⟨r12, br12, h⟩ := bnd h
          obtain ⟨r13, br13, h⟩ := bnd h
          rcases ifs h with ⟨c14, h⟩ | ⟨c14, h⟩
          · obtain ⟨r15, br15, h⟩ := bnd h
            obtain rfl := lf h
            exact C.ev (A := A3) mixed Tryd.call3 Tryd.func3 (c := b3) rfl (aI trivial trivial) [.v (.int .i64 (s.length : Int)), .g 0 false, .c (.bool r3) [], .c (.bool r4) [], .g 6 true, .c (.int .i64 r6) [], .c (.int .i64 r7) [], .g 13 true, .c (.int .i64 r9) [], .c (.int .i64 r10) [], .g 20 true, .c (.int .i64 r12) [], .c (.int .i64 r13) [], .g 27 true, .c (.bool r15) []] (Eq.mp (by kernel_rfl) (aI (strLn Tryd.underlying9 s) <| aI c1 <| aI (names_Keyword_ok br3) <| aI (R04_Keyword_ok br4) <| aI c5 <| aI (names_Check_ok br6) <| aI (R04_Check_ok br7) <| aI c8 <| aI (names_Title_ok br9) <| aI (R04_Title_ok br10) <| aI c11 <| aI (names_Core_ok br12) <| aI (R04_Core_ok br13) <| aI c14 <| aI (W04_alive_ok br15) <| aI (rP (.bool r15)) <| trivial))
          · obtain rfl := lf h
            exact C.ev (A := A3) mixed Tryd.call3 Tryd.func3 (c := b3) rfl (aI trivial trivial) [.v (.int .i64 (s.length : Int)), .g 0 false, .c (.bool r3) [], .c (.bool r4) [], .g 6 true, .c (.int .i64 r6) [], .c (.int .i64 r7) [], .g 13 true, .c (.int .i64 r9) [], .c (.int .i64 r10) [], .g 20 true, .c (.int .i64 r12) [], .c (.int .i64 r13) [], .g 27 false] (Eq.mp (by kernel_rfl) (aI (strLn Tryd.underlying9 s) <| aI c1 <| aI (names_Keyword_ok br3) <| aI (R04_Keyword_ok br4) <| aI c5 <| aI (names_Check_ok br6) <| aI (R04_Check_ok br7) <| aI c8 <| aI (names_Title_ok br9) <| aI (R04_Title_ok br10) <| aI c11 <| aI (names_Core_ok br12) <| aI (R04_Core_ok br13) <| aI c14 <| aI (rP (.bool false)) <| trivial))
        · obtain rfl := lf h
          exact C.ev (A := A3) mixed Tryd.call3 Tryd.func3 (c := b3) rfl (aI trivial trivial) [.v (.int .i64 (s.length : Int)), .g 0 false, .c (.bool r3) [], .c (.bool r4) [], .g 6 true, .c (.int .i64 r6) [], .c (.int .i64 r7) [], .g 13 true, .c (.int .i64 r9) [], .c (.int .i64 r10) [], .g 20 false] (Eq.mp (by kernel_rfl) (aI (strLn Tryd.underlying9 s) <| aI c1 <| aI (names_Keyword_ok br3) <| aI (R04_Keyword_ok br4) <| aI c5 <| aI (names_Check_ok br6) <| aI (R04_Check_ok br7) <| aI c8 <| aI (names_Title_ok br9) <| aI (R04_Title_ok br10) <| aI c11 <| aI (rP (.bool false)) <| trivial))
      · obtain rfl := lf h
        exact C.ev (A := A3) mixed Tryd.call3 Tryd.func3 (c := b3) rfl (aI trivial trivial) [.v (.int .i64 (s.length : Int)), .g 0 false, .c (.bool r3) [], .c (.bool r4) [], .g 6 true, .c (.int .i64 r6) [], .c (.int .i64 r7) [], .g 13 false] (Eq.mp (by kernel_rfl) (aI (strLn Tryd.underlying9 s) <| aI c1 <| aI (names_Keyword_ok br3) <| aI (R04_Keyword_ok br4) <| aI c5 <| aI (names_Check_ok br6) <| aI (R04_Check_ok br7) <| aI c8 <| aI (rP (.bool false)) <| trivial))
    · obtain rfl := lf h
      exact C.ev (A := A3) mixed Tryd.call3 Tryd.func3 (c := b3) rfl (aI trivial trivial) [.v (.int .i64 (s.length : Int)), .g 0 false, .c (.bool r3) [], .c (.bool r4) [], .g 6 false] (Eq.mp (by kernel_rfl) (aI (strLn Tryd.underlying9 s) <| aI c1 <| aI (names_Keyword_ok br3) <| aI (R04_Keyword_ok br4) <| aI c5 <| aI (rP (.bool false)) <| trivial))

/-! liquidcheck/liquidchecklaw04.few -/
noncomputable def b18 : Code := Tryd.f18.body.getD .skip
def A18 : List Nat := [8]
noncomputable def W04_few_L1_S (v : (List Str)) (t5 : Int) (t6 : Int) : PSt := ⟨[sl cS v, u, u, u, u, .int .i64 t5, .int .i64 t6, u, u, u, u, u, u, u, u, u, u, u, u], [], []⟩
noncomputable def W04_few_L1_o0 (v : (List Str)) (t5 : Int) (o : Unit) : PSt := ⟨[u, u, .bool false, u, u, u, u, u, u, u, u, u, u, u, u, u, u, u, u], [], []⟩
noncomputable def W04_few_L1_o1 (v : (List Str)) (t5 : Int) (o : Unit) : PSt := ⟨[sl cS v, u, u, u, u, u, u, u, u, u, u, u, u, u, u, u, u, u, u], [], []⟩
noncomputable def W04_few_L1_e (o : (Unit) ⊕ (Unit)) : Exit := match o with
  | (.inl _) => .ret
  | (.inr _) => .exit 0
noncomputable def W04_few_L1_s (v : (List Str)) (t5 : Int) (o : (Unit) ⊕ (Unit)) : PSt := match o with
  | (.inl o) => W04_few_L1_o0 v t5 o
  | (.inr o) => W04_few_L1_o1 v t5 o
noncomputable def W04_few_L1_b (v : (List Str)) (t5 : Int) (t6 : Int) : Option ((Int) ⊕ ((Unit) ⊕ (Unit))) :=
  if (decide (t6 < t5)) = true then
    (idx v t6).bind fun x2 =>
    if (decide ((x2.length : Int) > 300)) = true then
      some (.inr (.inl ()))
    else
      some (.inl (w64 (t6 + 1)))
  else
    some (.inr (.inr ()))
noncomputable def W04_few_L1 (v : (List Str)) (t5 : Int) (t6 : Int) : Option ((Unit) ⊕ (Unit)) := loop (fun (zz : Int) => W04_few_L1_b v t5 zz) t6
theorem W04_few_L1_bok (v : (List Str)) (t5 : Int) (t6 : Int) {y : (Int) ⊕ ((Unit) ⊕ (Unit))} (h : W04_few_L1_b v t5 t6 = some y) :
    Sat Pg GE 0 (codeAt b18 [true, false, true, true, true]) (LQ (fun (zz : Int) => W04_few_L1_S v t5 zz) W04_few_L1_e (W04_few_L1_s v t5) y) (W04_few_L1_S v t5 t6) := by
  rcases ifs h with ⟨c1, h⟩ | ⟨c1, h⟩
  · obtain ⟨x2, bx2, h⟩ := bnd h
    rcases ifs h with ⟨c3, h⟩ | ⟨c3, h⟩
    · obtain rfl := lf h
      exact over (A := A18) mixed [.g 0 true, .v (.eptr (cS x2)), .v (.str x2), .v (.int .i64 (x2.length : Int)), .g 0 true] (by intro hx; cases hx) (Eq.mp (by kernel_rfl) (aI c1 <| aI (sT26.ia (k := .i64) bx2) <| aI (plook1 sc9 (.str x2) []) <| aI (strLn Tryd.underlying9 x2) <| aI c3 <| aI (rE (W04_few_L1_e (.inl ()))) <| fr (W04_few_L1_s v t5 (.inl ()))))
    · obtain rfl := lf h
      exact next (A := A18) mixed [.g 0 true, .v (.eptr (cS x2)), .v (.str x2), .v (.int .i64 (x2.length : Int)), .g 0 false] (Eq.mp (by kernel_rfl) (aI c1 <| aI (sT26.ia (k := .i64) bx2) <| aI (plook1 sc9 (.str x2) []) <| aI (strLn Tryd.underlying9 x2) <| aI c3 <| aI (rE .normal) <| fr (W04_few_L1_S v t5 (w64 (t6 + 1)))))
  · obtain rfl := lf h
    exact over (A := A18) mixed [.g 0 false] (by intro hx; cases hx) (Eq.mp (by kernel_rfl) (aI c1 <| aI (rE (W04_few_L1_e (.inr ()))) <| fr (W04_few_L1_s v t5 (.inr ()))))
theorem W04_few_L1_ok (v : (List Str)) (t5 : Int) (t6 : Int) {x : (Unit) ⊕ (Unit)} (h : W04_few_L1 v t5 t6 = some x) :
    Sat Pg GE 0 (.loop (codeAt b18 [true, false, true, true, true])) (EX (W04_few_L1_e x) (W04_few_L1_s v t5 x)) (W04_few_L1_S v t5 t6) :=
  Sat.loop (S := fun (zz : Int) => W04_few_L1_S v t5 zz) h fun zz y hy => W04_few_L1_bok v t5 zz hy
noncomputable def W04_few (a : (List Str)) : Option (Bool) :=
  (W04_few_L1 a (a.length : Int) 0).bind fun o4 => match o4 with
  | (.inl o4) =>
    some false
  | (.inr o4) =>
    some (decide ((a.length : Int) ≤ 300))
theorem W04_few_ok {a : (List Str)} {r : Bool} (h : W04_few a = some r) : CC Pg GE 18 [sl cS a] (.bool r) [] := by
  obtain ⟨o4, bo4, h⟩ := bnd h
  rcases o4 with o4 | o4
  · obtain rfl := lf h
    exact C.ev (A := A18) mixed Tryd.call18 Tryd.func18 (c := b18) rfl (aI (cl_sl clS a) trivial) [.v (.int .i64 (a.length : Int)), .pc (W04_few_L1_S a (a.length : Int) 0) (.ret) (W04_few_L1_s a (a.length : Int) (.inl o4))] (Eq.mp (by kernel_rfl) (aI (sT26.ln a) <| aI (fr (W04_few_L1_S a (a.length : Int) 0)) <| aI (W04_few_L1_ok a (a.length : Int) 0 bo4) <| aI (rP (.bool false)) <| trivial))
  · obtain rfl := lf h
    exact C.ev (A := A18) mixed Tryd.call18 Tryd.func18 (c := b18) rfl (aI (cl_sl clS a) trivial) [.v (.int .i64 (a.length : Int)), .pc (W04_few_L1_S a (a.length : Int) 0) (.exit 0) (W04_few_L1_s a (a.length : Int) (.inr o4)), .v (.int .i64 (a.length : Int))] (Eq.mp (by kernel_rfl) (aI (sT26.ln a) <| aI (fr (W04_few_L1_S a (a.length : Int) 0)) <| aI (W04_few_L1_ok a (a.length : Int) 0 bo4) <| aI (sT26.ln a) <| aI (rP (.bool (decide ((a.length : Int) ≤ 300)))) <| trivial))

/-! liquidcheck/liquidcheckref01.Text -/
noncomputable def b42 : Code := Tryd.f42.body.getD .skip
def A42 : List Nat := [8, 30]
noncomputable def R01_Text_L1_S (n : Int) (s : Str) (m : Int) : PSt := ⟨[.int .i64 n, u, u, .str s, .int .i64 m, u, u, u, u, u, u, u, u, u, u, u, u, u, u, u, u, u, u, u, u, u, u, u, u, u, u], [], []⟩
noncomputable def R01_Text_L1_o0 (n : Int) (o : Str) : PSt := ⟨[.int .i64 n, u, u, .str o, u, u, u, u, u, u, u, u, u, u, u, u, u, u, u, u, u, u, u, u, u, u, u, u, u, u, u], [], []⟩
noncomputable def R01_Text_L1_e (_ : (Str)) : Exit := .exit 0
noncomputable def R01_Text_L1_s (n : Int) (o : (Str)) : PSt := R01_Text_L1_o0 n o
noncomputable def R01_Text_J2_S (n : Int) (s : Str) (m : Int) (d : Int) : PSt := ⟨[.int .i64 n, u, u, .str s, .int .i64 m, .int .i64 d, u, u, u, u, u, u, u, u, u, u, u, u, u, u, u, u, u, u, u, u, u, u, u, u, u], [], []⟩
noncomputable def R01_Text_J2_o0 (n : Int) (s : Str) (m : Int) (d : Int) (o : Int) : PSt := ⟨[.int .i64 n, u, u, .str s, .int .i64 m, .int .i64 o, u, u, u, u, u, u, u, u, u, u, u, u, u, u, u, u, u, u, u, u, u, u, u, u, u], [], []⟩
noncomputable def R01_Text_J2_e (_ : (Int)) : Exit := .normal
noncomputable def R01_Text_J2_s (n : Int) (s : Str) (m : Int) (d : Int) (o : (Int)) : PSt := R01_Text_J2_o0 n s m d o
noncomputable def R01_Text_J2 (d : Int) : Option ((Int)) :=
  if (decide (d < 0)) = true then
    some (IntKind.i64.wrap (0 - d))
  else
    some d
theorem R01_Text_J2_ok (n : Int) (s : Str) (m : Int) (d : Int) {x : (Int)} (h : R01_Text_J2 d = some x) :
    Sat Pg GE 0 (codeAt b42 [true, true, true, false, true, true, true, true, false, true, true, false]) (EX (R01_Text_J2_e x) (R01_Text_J2_s n s m d x)) (R01_Text_J2_S n s m d) := by
  rcases ifs h with ⟨c4, h⟩ | ⟨c4, h⟩
  · obtain rfl := lf h
    exact piece (A := A42) mixed [.g 0 true] (Eq.mp (by kernel_rfl) (aI c4 <| aI (rE (R01_Text_J2_e (IntKind.i64.wrap (0 - d)))) <| fr (R01_Text_J2_s n s m d (IntKind.i64.wrap (0 - d)))))
  · obtain rfl := lf h
    exact piece (A := A42) mixed [.g 0 false] (Eq.mp (by kernel_rfl) (aI c4 <| aI (rE (R01_Text_J2_e d)) <| fr (R01_Text_J2_s n s m d d)))
noncomputable def R01_Text_L1_b (s : Str) (m : Int) : Option ((Str × Int) ⊕ ((Str))) :=
  if (m != 0) = true then
    (re m 10).bind fun q3 =>
    (R01_Text_J2 q3).bind fun o5 =>
    (bytesStr ([IntKind.u8.wrap (w64 (48 + o5))] : List Int)).bind fun s6 =>
    (cat s6 s).bind fun s7 =>
    (qu .i64 m 10).bind fun q8 =>
    some (.inl (s7, q8))
  else
    some (.inr s)
noncomputable def R01_Text_L1 (s : Str) (m : Int) : Option ((Str)) := loop (fun (zz : Str × Int) => R01_Text_L1_b zz.1 zz.2) (s, m)
theorem R01_Text_L1_bok (n : Int) (s : Str) (m : Int) {y : (Str × Int) ⊕ ((Str))} (h : R01_Text_L1_b s m = some y) :
    Sat Pg GE 0 (codeAt b42 [true, true, true, false, true, true, true]) (LQ (fun (zz : Str × Int) => R01_Text_L1_S n zz.1 zz.2) R01_Text_L1_e (R01_Text_L1_s n) y) (R01_Text_L1_S n s m) := by
  rcases ifs h with ⟨c2, h⟩ | ⟨c2, h⟩
  · obtain ⟨q3, bq3, h⟩ := bnd h
    obtain ⟨o5, bo5, h⟩ := bnd h
    obtain ⟨s6, bs6, h⟩ := bnd h
    obtain ⟨s7, bs7, h⟩ := bnd h
    obtain ⟨q8, bq8, h⟩ := bnd h
    obtain rfl := lf h
    exact next (A := A42) mixed [.g 0 true, .v (.int .i64 q3), .pa 0, .pc (R01_Text_J2_S n s m q3) (.normal) (R01_Text_J2_s n s m q3 o5), .v (.int .u8 (IntKind.u8.wrap (w64 (48 + o5)))), .v (sl (cI .u8) ([IntKind.u8.wrap (w64 (48 + o5))] : List Int)), .v (.str s6), .v (.str s7), .v (.int .i64 q8)] (Eq.mp (by kernel_rfl) (aI c2 <| aI (binRe (P := Pg) (t := 3) (k := .i64) bq3) <| aI (fr (R01_Text_J2_S n s m q3)) <| aI (R01_Text_J2_ok n s m q3 bo5) <| aI (cvI Tryd.underlying3 Tryd.underlying5 (w64 (48 + o5))) <| aI (sT45.mk' (v := (PVal.int .u8)) (pcI .u8) ([IntKind.u8.wrap (w64 (48 + o5))] : List Int) 1 (by kernel_rfl)) <| aI (cvB Tryd.underlying45 Tryd.underlying9 Tryd.underlying5 bs6) <| aI (strCat (P := Pg) (t := 9) bs7) <| aI (binQu (P := Pg) (t := 3) bq8) <| aI (rE .normal) <| fr (R01_Text_L1_S n s7 q8)))
  · obtain rfl := lf h
    exact over (A := A42) mixed [.g 0 false] (by intro hx; cases hx) (Eq.mp (by kernel_rfl) (aI c2 <| aI (rE (R01_Text_L1_e s)) <| fr (R01_Text_L1_s n s)))
theorem R01_Text_L1_ok (n : Int) (s : Str) (m : Int) {x : (Str)} (h : R01_Text_L1 s m = some x) :
    Sat Pg GE 0 (.loop (codeAt b42 [true, true, true, false, true, true, true])) (EX (R01_Text_L1_e x) (R01_Text_L1_s n x)) (R01_Text_L1_S n s m) :=
  Sat.loop (S := fun (zz : Str × Int) => R01_Text_L1_S n zz.1 zz.2) h fun zz y hy => R01_Text_L1_bok n zz.1 zz.2 hy
noncomputable def R01_Text (n : Int) : Option (Str) :=
  if (n == 0) = true then
    some ([48] : Str)
  else
    (R01_Text_L1 ([] : Str) n).bind fun o9 =>
    if (decide (n < 0)) = true then
      (cat ([45] : Str) o9).bind fun s11 =>
      some s11
    else
      some o9
theorem R01_Text_ok {n : Int} {r : Str} (h : R01_Text n = some r) : CC Pg GE 42 [.int .i64 n] (.str r) [] := by
  rcases ifs h with ⟨c1, h⟩ | ⟨c1, h⟩
  · obtain rfl := lf h
    exact C.ev (A := A42) mixed Tryd.call42 Tryd.func42 (c := b42) rfl (aI trivial trivial) [.g 0 true] (Eq.mp (by kernel_rfl) (aI c1 <| aI (rP (.str ([48] : Str))) <| trivial))
  · obtain ⟨o9, bo9, h⟩ := bnd h
    rcases ifs h with ⟨c10, h⟩ | ⟨c10, h⟩
    · obtain ⟨s11, bs11, h⟩ := bnd h
      obtain rfl := lf h
      exact C.ev (A := A42) mixed Tryd.call42 Tryd.func42 (c := b42) rfl (aI trivial trivial) [.g 0 false, .pc (R01_Text_L1_S n ([] : Str) n) (.exit 0) (R01_Text_L1_s n o9), .g 0 true, .v (.str s11)] (Eq.mp (by kernel_rfl) (aI c1 <| aI (fr (R01_Text_L1_S n ([] : Str) n)) <| aI (R01_Text_L1_ok n ([] : Str) n bo9) <| aI c10 <| aI (strCat (P := Pg) (t := 9) bs11) <| aI (rP (.str s11)) <| trivial))
    · obtain rfl := lf h
      exact C.ev (A := A42) mixed Tryd.call42 Tryd.func42 (c := b42) rfl (aI trivial trivial) [.g 0 false, .pc (R01_Text_L1_S n ([] : Str) n) (.exit 0) (R01_Text_L1_s n o9), .g 0 false] (Eq.mp (by kernel_rfl) (aI c1 <| aI (fr (R01_Text_L1_S n ([] : Str) n)) <| aI (R01_Text_L1_ok n ([] : Str) n bo9) <| aI c10 <| aI (rP (.str o9)) <| trivial))
end Go.Proofs.YtgiimiklbabhcaaDoor
