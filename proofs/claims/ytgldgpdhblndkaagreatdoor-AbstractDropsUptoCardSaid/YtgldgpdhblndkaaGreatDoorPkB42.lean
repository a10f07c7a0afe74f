/-
  WHAT IS PROVED: parts of the proof, put together by a program out of smaller texts (G13; PlB). Conditions: none.
-/
import Derived.Test.YtgldgpdhblndkaaGreatDoorPkB41
import Derived.Test.YtgldgpdhblndkaaGreatDoorPkB31
namespace Go.Proofs.YtgldgpdhblndkaaGreatDoor
open Go
set_option linter.unusedVariables false
set_option maxRecDepth 100000
noncomputable def b76 : Code := Tryz.f76.body.getD .skip
def A76 : List Nat := []
noncomputable def R07_And_L1_S (t7 : (List tPred)) (t8 : Int) (t9 : Int) (m : Int) (m2 : Str) (m3 : Int) (m4 : (List tPred)) (m5 : Int) (m6 : Str) (m7 : Int) (m8 : (List tPred)) : PSt := stt 28 [(2, .bptr 0 0), (3, .bptr 1 0), (7, sl c_tPred t7), (8, .int .i64 t8), (9, .int .i64 t9)] [.cells [.int .i64 m, .str m2, .int .i64 m3, sl c_tPred m4] [(3, 31)], .cells [.int .i64 m5, .str m6, .int .i64 m7, sl c_tPred m8] []] []
noncomputable def R07_And_L1_e (o : (Int × Str × Int × (List tPred) × Int × Str × Int × (List tPred)) ⊕ (Int × Str × Int × (List tPred) × Int × Str × Int × (List tPred))) : Exit := match o with
  | (.inl _) => .ret
  | (.inr _) => .exit 0
noncomputable def R07_And_L1_s (t7 : (List tPred)) (t8 : Int) (o : (Int × Str × Int × (List tPred) × Int × Str × Int × (List tPred)) ⊕ (Int × Str × Int × (List tPred) × Int × Str × Int × (List tPred))) : PSt := match o with
  | (.inl o) => stt 28 [(2, .bptr 0 0)] [.cells [.int .i64 o.1, .str o.2.1, .int .i64 o.2.2.1, sl c_tPred o.2.2.2.1] [(3, 31)], .cells [.int .i64 o.2.2.2.2.1, .str o.2.2.2.2.2.1, .int .i64 o.2.2.2.2.2.2.1, sl c_tPred o.2.2.2.2.2.2.2] []] []
  | (.inr o) => stt 28 [(2, .bptr 0 0), (3, .bptr 1 0)] [.cells [.int .i64 o.1, .str o.2.1, .int .i64 o.2.2.1, sl c_tPred o.2.2.2.1] [(3, 31)], .cells [.int .i64 o.2.2.2.2.1, .str o.2.2.2.2.2.1, .int .i64 o.2.2.2.2.2.2.1, sl c_tPred o.2.2.2.2.2.2.2] []] []
noncomputable def R07_And_L1_b (t7 : (List tPred)) (t8 : Int) (t9 : Int) (m : Int) (m2 : Str) (m3 : Int) (m4 : (List tPred)) (m5 : Int) (m6 : Str) (m7 : Int) (m8 : (List tPred)) : Option ((Int × Int × Str × Int × (List tPred) × Int × Str × Int × (List tPred)) ⊕ ((Int × Str × Int × (List tPred) × Int × Str × Int × (List tPred)) ⊕ (Int × Str × Int × (List tPred) × Int × Str × Int × (List tPred)))) :=
  if (decide (t9 < t8)) = true then
    (idx t7 t9).bind fun x3 =>
    (R07_False).bind fun r4 =>
    (R07_Same x3 r4).bind fun r5 =>
    if r5 = true then
      (R07_False).bind fun r7 =>
      some (.inr (.inl (r7.Op, r7.Name, r7.N, r7.Kids, m5, m6, m7, m8)))
    else
      (R07_Void x3).bind fun r8 =>
      if r8 = true then
        some (.inl (w64 (t9 + 1), m, m2, m3, m4, m5, m6, m7, m8))
      else
        (R07_Void (⟨m5, m6, m7, m8⟩ : tPred)).bind fun r10 =>
        if r10 = true then
          some (.inl (w64 (t9 + 1), m, m2, m3, m4, x3.Op, x3.Name, x3.N, x3.Kids))
        else
          some (.inl (w64 (t9 + 1), m, m2, m3, m4, 15, ([] : Str), 0, ([(⟨m5, m6, m7, m8⟩ : tPred), x3] : List tPred)))
  else
    some (.inr (.inr (m, m2, m3, m4, m5, m6, m7, m8)))
noncomputable def R07_And_L1 (t7 : (List tPred)) (t8 : Int) (t9 : Int) (m : Int) (m2 : Str) (m3 : Int) (m4 : (List tPred)) (m5 : Int) (m6 : Str) (m7 : Int) (m8 : (List tPred)) : Option ((Int × Str × Int × (List tPred) × Int × Str × Int × (List tPred)) ⊕ (Int × Str × Int × (List tPred) × Int × Str × Int × (List tPred))) := loop (fun (zz : Int × Int × Str × Int × (List tPred) × Int × Str × Int × (List tPred)) => R07_And_L1_b t7 t8 zz.1 zz.2.1 zz.2.2.1 zz.2.2.2.1 zz.2.2.2.2.1 zz.2.2.2.2.2.1 zz.2.2.2.2.2.2.1 zz.2.2.2.2.2.2.2.1 zz.2.2.2.2.2.2.2.2) (t9, m, m2, m3, m4, m5, m6, m7, m8)
theorem R07_And_L1_bok (t7 : (List tPred)) (t8 : Int) (t9 : Int) (m : Int) (m2 : Str) (m3 : Int) (m4 : (List tPred)) (m5 : Int) (m6 : Str) (m7 : Int) (m8 : (List tPred)) {y : (Int × Int × Str × Int × (List tPred) × Int × Str × Int × (List tPred)) ⊕ ((Int × Str × Int × (List tPred) × Int × Str × Int × (List tPred)) ⊕ (Int × Str × Int × (List tPred) × Int × Str × Int × (List tPred)))} (h : R07_And_L1_b t7 t8 t9 m m2 m3 m4 m5 m6 m7 m8 = some y) :
    Sat Pg GE 0 (cA b76 119) (LQ (fun (zz : Int × Int × Str × Int × (List tPred) × Int × Str × Int × (List tPred)) => R07_And_L1_S t7 t8 zz.1 zz.2.1 zz.2.2.1 zz.2.2.2.1 zz.2.2.2.2.1 zz.2.2.2.2.2.1 zz.2.2.2.2.2.2.1 zz.2.2.2.2.2.2.2.1 zz.2.2.2.2.2.2.2.2) R07_And_L1_e (R07_And_L1_s t7 t8) y) (R07_And_L1_S t7 t8 t9 m m2 m3 m4 m5 m6 m7 m8) := by
  rcases ifs h with ⟨c2, h⟩ | ⟨c2, h⟩
  · obtain ⟨x3, bx3, h⟩ := bnd h
    obtain ⟨r4, br4, h⟩ := bnd h
    obtain ⟨r5, br5, h⟩ := bnd h
    rcases ifs h with ⟨c6, h⟩ | ⟨c6, h⟩
    · obtain ⟨r7, br7, h⟩ := bnd h
      obtain rfl := lf h
      have z := sg 0 c2 <| sv (sT29.ia (k := .i64) bx3) <| sv (lk_tPred x3) <| sx pz31 <| sx (pcx_tPred x3) <| sdr [0, 0, 3] <| sv (lkx_tPred x3 []) <| sca (R07_False_ok br4) <| sca (R07_Same_ok br5) <| sg 0 c6 <| sca (R07_False_ok br7) <| sy (ex_tPred r7) <| eFx 0 (R07_And_L1_e (.inl (r7.Op, r7.Name, r7.N, r7.Kids, m5, m6, m7, m8))) (R07_And_L1_s t7 t8 (.inl (r7.Op, r7.Name, r7.N, r7.Kids, m5, m6, m7, m8))) rfl (cl_tm (aI (lt_of rfl) trivial)) (aI (aI trivial (aI trivial (aI trivial (aI (up (cl_sl cl_tPred r7.Kids)) trivial)))) (aI (aI trivial (aI trivial (aI trivial (aI (up (cl_sl cl_tPred m8)) trivial)))) trivial))
      exact overxp (A := A76) mixed (by intro hx; cases hx) z (by kernel_rfl)
    · obtain ⟨r8, br8, h⟩ := bnd h
      rcases ifs h with ⟨c9, h⟩ | ⟨c9, h⟩
      · obtain rfl := lf h
        have z := sg 0 c2 <| sv (sT29.ia (k := .i64) bx3) <| sv (lk_tPred x3) <| sx pz31 <| sx (pcx_tPred x3) <| sdr [0, 0, 3] <| sv (lkx_tPred x3 []) <| sca (R07_False_ok br4) <| sca (R07_Same_ok br5) <| sg 0 c6 <| sv (lkx_tPred x3 []) <| sca (R07_Void_ok br8) <| sg 0 c9 <| eFx 0 .normal (R07_And_L1_S t7 t8 (w64 (t9 + 1)) m m2 m3 m4 m5 m6 m7 m8) rfl (cl_tm (aI (lt_of rfl) (aI (lt_of rfl) (aI (up (cl_sl cl_tPred t7)) (aI trivial (aI trivial trivial)))))) (aI (aI trivial (aI trivial (aI trivial (aI (up (cl_sl cl_tPred m4)) trivial)))) (aI (aI trivial (aI trivial (aI trivial (aI (up (cl_sl cl_tPred m8)) trivial)))) trivial))
        exact nextxp (A := A76) mixed z (by kernel_rfl)
      · obtain ⟨r10, br10, h⟩ := bnd h
        rcases ifs h with ⟨c11, h⟩ | ⟨c11, h⟩
        · obtain rfl := lf h
          have z := sg 0 c2 <| sv (sT29.ia (k := .i64) bx3) <| sv (lk_tPred x3) <| sx pz31 <| sx (pcx_tPred x3) <| sdr [0, 0, 3] <| sv (lkx_tPred x3 []) <| sca (R07_False_ok br4) <| sca (R07_Same_ok br5) <| sg 0 c6 <| sv (lkx_tPred x3 []) <| sca (R07_Void_ok br8) <| sg 0 c9 <| sv (lkx_tPred (⟨m5, m6, m7, m8⟩ : tPred) []) <| sca (R07_Void_ok br10) <| sg 0 c11 <| sv (lkx_tPred x3 []) <| sx (pcx_tPred x3) <| eFx 0 .normal (R07_And_L1_S t7 t8 (w64 (t9 + 1)) m m2 m3 m4 x3.Op x3.Name x3.N x3.Kids) rfl (cl_tm (aI (lt_of rfl) (aI (lt_of rfl) (aI (up (cl_sl cl_tPred t7)) (aI trivial (aI trivial trivial)))))) (aI (aI trivial (aI trivial (aI trivial (aI (up (cl_sl cl_tPred m4)) trivial)))) (aI (aI trivial (aI trivial (aI trivial (aI (up (cl_sl cl_tPred x3.Kids)) trivial)))) trivial))
          exact nextxp (A := A76) mixed z (by kernel_rfl)
        · obtain rfl := lf h
          have z := sg 0 c2 <| sv (sT29.ia (k := .i64) bx3) <| sv (lk_tPred x3) <| sx pz31 <| sx (pcx_tPred x3) <| sdr [0, 0, 3] <| sv (lkx_tPred x3 []) <| sca (R07_False_ok br4) <| sca (R07_Same_ok br5) <| sg 0 c6 <| sv (lkx_tPred x3 []) <| sca (R07_Void_ok br8) <| sg 0 c9 <| sv (lkx_tPred (⟨m5, m6, m7, m8⟩ : tPred) []) <| sca (R07_Void_ok br10) <| sg 0 c11 <| sv (lkx_tPred (⟨m5, m6, m7, m8⟩ : tPred) []) <| sv (lkx_tPred x3 []) <| sv (sT29.mk' (v := v_tPred) pcA_tPred ([(⟨m5, m6, m7, m8⟩ : tPred), x3] : List tPred) 2 (by kernel_rfl)) <| sv (bu_tPred_0_3 15 ([(⟨m5, m6, m7, m8⟩ : tPred), x3] : List tPred)) <| sx (pcx_tPred (⟨15, ([] : Str), 0, ([(⟨m5, m6, m7, m8⟩ : tPred), x3] : List tPred)⟩ : tPred)) <| eFx 0 .normal (R07_And_L1_S t7 t8 (w64 (t9 + 1)) m m2 m3 m4 15 ([] : Str) 0 ([(⟨m5, m6, m7, m8⟩ : tPred), x3] : List tPred)) rfl (cl_tm (aI (lt_of rfl) (aI (lt_of rfl) (aI (up (cl_sl cl_tPred t7)) (aI trivial (aI trivial trivial)))))) (aI (aI trivial (aI trivial (aI trivial (aI (up (cl_sl cl_tPred m4)) trivial)))) (aI (aI trivial (aI trivial (aI trivial (aI (up (cl_sl cl_tPred ([(⟨m5, m6, m7, m8⟩ : tPred), x3] : List tPred))) trivial)))) trivial))
          exact nextxp (A := A76) mixed z (by kernel_rfl)
  · obtain rfl := lf h
    have z := sg 0 c2 <| eF (R07_And_L1_e (.inr (m, m2, m3, m4, m5, m6, m7, m8))) (R07_And_L1_s t7 t8 (.inr (m, m2, m3, m4, m5, m6, m7, m8)))
    exact overp (A := A76) mixed (by intro hx; cases hx) z (by kernel_rfl)
theorem R07_And_L1_ok (t7 : (List tPred)) (t8 : Int) (t9 : Int) (m : Int) (m2 : Str) (m3 : Int) (m4 : (List tPred)) (m5 : Int) (m6 : Str) (m7 : Int) (m8 : (List tPred)) {x : (Int × Str × Int × (List tPred) × Int × Str × Int × (List tPred)) ⊕ (Int × Str × Int × (List tPred) × Int × Str × Int × (List tPred))} (h : R07_And_L1 t7 t8 t9 m m2 m3 m4 m5 m6 m7 m8 = some x) :
    Sat Pg GE 0 (.loop (cA b76 119)) (EX (R07_And_L1_e x) (R07_And_L1_s t7 t8 x)) (R07_And_L1_S t7 t8 t9 m m2 m3 m4 m5 m6 m7 m8) :=
  Sat.loop (S := fun (zz : Int × Int × Str × Int × (List tPred) × Int × Str × Int × (List tPred)) => R07_And_L1_S t7 t8 zz.1 zz.2.1 zz.2.2.1 zz.2.2.2.1 zz.2.2.2.2.1 zz.2.2.2.2.2.1 zz.2.2.2.2.2.2.1 zz.2.2.2.2.2.2.2.1 zz.2.2.2.2.2.2.2.2) (ex := R07_And_L1_e) (s := (t9, m, m2, m3, m4, m5, m6, m7, m8)) h fun zz y hy => R07_And_L1_bok t7 t8 zz.1 zz.2.1 zz.2.2.1 zz.2.2.2.1 zz.2.2.2.2.1 zz.2.2.2.2.2.1 zz.2.2.2.2.2.2.1 zz.2.2.2.2.2.2.2.1 zz.2.2.2.2.2.2.2.2 hy
noncomputable def R07_And (a : (List tPred)) : Option (tPred) :=
  (R07_True).bind fun r1 =>
  (R07_And_L1 a (a.length : Int) 0 0 ([] : Str) 0 ([] : List tPred) r1.Op r1.Name r1.N r1.Kids).bind fun o12 => match o12 with
  | (.inl o12) =>
    some (⟨o12.1, o12.2.1, o12.2.2.1, o12.2.2.2.1⟩ : tPred)
  | (.inr o12) =>
    some (⟨o12.2.2.2.2.1, o12.2.2.2.2.2.1, o12.2.2.2.2.2.2.1, o12.2.2.2.2.2.2.2⟩ : tPred)
theorem R07_And_ok {a : (List tPred)} {r : tPred} (h : R07_And a = some r) : CC Pg GE 76 [sl c_tPred a] (.agg (c_tPred r)) [] := by
  obtain ⟨r1, br1, h⟩ := bnd h
  obtain ⟨o12, bo12, h⟩ := bnd h
  rcases o12 with o12 | o12
  · obtain rfl := lf h
    have z := sx pz31 <| sca (R07_True_ok br1) <| sx pz31 <| sy (ex_tPred r1) <| svn (sT29.ln a) <| spc (e := .ret) (s1 := R07_And_L1_s a (a.length : Int) (.inl o12)) (R07_And_L1_ok a (a.length : Int) 0 0 ([] : Str) 0 ([] : List tPred) r1.Op r1.Name r1.N r1.Kids bo12) <| en (aI (rex_tPred (⟨o12.1, o12.2.1, o12.2.2.1, o12.2.2.2.1⟩ : tPred)) <| (cl_tPred (⟨o12.1, o12.2.1, o12.2.2.1, o12.2.2.2.1⟩ : tPred)))
    exact C.evp (A := A76) mixed Tryz.call76 Tryz.func76 (c := b76) rfl (aI (cl_sl cl_tPred a) trivial) z (by kernel_rfl)
  · obtain rfl := lf h
    have z := sx pz31 <| sca (R07_True_ok br1) <| sx pz31 <| sy (ex_tPred r1) <| svn (sT29.ln a) <| spc (e := .exit 0) (s1 := R07_And_L1_s a (a.length : Int) (.inr o12)) (R07_And_L1_ok a (a.length : Int) 0 0 ([] : Str) 0 ([] : List tPred) r1.Op r1.Name r1.N r1.Kids bo12) <| sv (lkx_tPred (⟨o12.2.2.2.2.1, o12.2.2.2.2.2.1, o12.2.2.2.2.2.2.1, o12.2.2.2.2.2.2.2⟩ : tPred) []) <| sx (pcx_tPred (⟨o12.2.2.2.2.1, o12.2.2.2.2.2.1, o12.2.2.2.2.2.2.1, o12.2.2.2.2.2.2.2⟩ : tPred)) <| en (aI (rex_tPred (⟨o12.2.2.2.2.1, o12.2.2.2.2.2.1, o12.2.2.2.2.2.2.1, o12.2.2.2.2.2.2.2⟩ : tPred)) <| (cl_tPred (⟨o12.2.2.2.2.1, o12.2.2.2.2.2.1, o12.2.2.2.2.2.2.1, o12.2.2.2.2.2.2.2⟩ : tPred)))
    exact C.evp (A := A76) mixed Tryz.call76 Tryz.func76 (c := b76) rfl (aI (cl_sl cl_tPred a) trivial) z (by kernel_rfl)
noncomputable def b26 : Code := Tryz.f26.body.getD .skip
def A26 : List Nat := [19]
noncomputable def R35_Drop_L1_S (names : (List Str)) (out : (List tPred)) (t9 : (List tPred)) (t10 : Int) (t11 : Int) (m : (List tPred)) : PSt := stt 26 [(1, sl cS names), (4, .bptr 1 0), (5, sl c_tPred out), (9, sl c_tPred t9), (10, .int .i64 t10), (11, .int .i64 t11)] [.dead, .cells [.int .i64 0, .str ([] : Str), .int .i64 0, sl c_tPred m] [(3, 31)]] [((9, 0), 31), ((5, 0), 31)]
noncomputable def R35_Drop_L1_s (names : (List Str)) (t9 : (List tPred)) (t10 : Int) (m : (List tPred)) (o : (List tPred)) : PSt := stt 26 [(4, .bptr 1 0), (5, sl c_tPred o)] [.dead, .cells [.int .i64 0, .str ([] : Str), .int .i64 0, sl c_tPred m] [(3, 31)]] [((5, 0), 31)]
noncomputable def R35_Drop_L1_b (names : (List Str)) (t9 : (List tPred)) (t10 : Int) (out : (List tPred)) (t11 : Int) : Option (((List tPred) × Int) ⊕ (((List tPred)))) :=
  if (decide (t11 < t10)) = true then
    (idx t9 t11).bind fun x3 =>
    (R35_applies x3 names).bind fun r4 =>
    if (!r4) = true then
      (app out ([x3] : List tPred)).bind fun l6 =>
      some (.inl (l6, w64 (t11 + 1)))
    else
      some (.inl (out, w64 (t11 + 1)))
  else
    some (.inr out)
noncomputable def R35_Drop_L1 (names : (List Str)) (t9 : (List tPred)) (t10 : Int) (out : (List tPred)) (t11 : Int) : Option (((List tPred))) := loop (fun (zz : (List tPred) × Int) => R35_Drop_L1_b names t9 t10 zz.1 zz.2) (out, t11)
theorem R35_Drop_L1_bok (names : (List Str)) (out : (List tPred)) (t9 : (List tPred)) (t10 : Int) (t11 : Int) (m : (List tPred)) {y : ((List tPred) × Int) ⊕ (((List tPred)))} (h : R35_Drop_L1_b names t9 t10 out t11 = some y) :
    Sat Pg GE 0 (cA b26 119) (LQ (fun (zz : (List tPred) × Int) => R35_Drop_L1_S names zz.1 t9 t10 zz.2 m) (fun _ => .exit 0) (R35_Drop_L1_s names t9 t10 m) y) (R35_Drop_L1_S names out t9 t10 t11 m) := by
  rcases ifs h with ⟨c2, h⟩ | ⟨c2, h⟩
  · obtain ⟨x3, bx3, h⟩ := bnd h
    obtain ⟨r4, br4, h⟩ := bnd h
    rcases ifs h with ⟨c5, h⟩ | ⟨c5, h⟩
    · obtain ⟨l6, bl6, h⟩ := bnd h
      obtain rfl := lf h
      have z := sg 0 c2 <| sv (sT29.ia (k := .i64) bx3) <| sv (lk_tPred x3) <| sx pz31 <| sx (pcx_tPred x3) <| sv (lkx_tPred x3 []) <| sca (R35_applies_ok br4) <| sg 0 c5 <| sv (lkx_tPred x3 []) <| sv (sT29.mk' (v := v_tPred) pcA_tPred ([x3] : List tPred) 1 (by kernel_rfl)) <| sv (sT29.ap bl6) <| eFx 0 .normal (R35_Drop_L1_S names l6 t9 t10 (w64 (t11 + 1)) m) rfl (cl_tm (aI (up (cl_sl clS names)) (aI (lt_of rfl) (aI (up (cl_sl cl_tPred l6)) (aI (up (cl_sl cl_tPred t9)) (aI trivial (aI trivial trivial))))))) (aI trivial (aI (aI trivial (aI trivial (aI trivial (aI (up (cl_sl cl_tPred m)) trivial)))) trivial))
      exact nextxp (A := A26) mixed z (by kernel_rfl)
    · obtain rfl := lf h
      have z := sg 0 c2 <| sv (sT29.ia (k := .i64) bx3) <| sv (lk_tPred x3) <| sx pz31 <| sx (pcx_tPred x3) <| sv (lkx_tPred x3 []) <| sca (R35_applies_ok br4) <| sg 0 c5 <| eFx 0 .normal (R35_Drop_L1_S names out t9 t10 (w64 (t11 + 1)) m) rfl (cl_tm (aI (up (cl_sl clS names)) (aI (lt_of rfl) (aI (up (cl_sl cl_tPred out)) (aI (up (cl_sl cl_tPred t9)) (aI trivial (aI trivial trivial))))))) (aI trivial (aI (aI trivial (aI trivial (aI trivial (aI (up (cl_sl cl_tPred m)) trivial)))) trivial))
      exact nextxp (A := A26) mixed z (by kernel_rfl)
  · obtain rfl := lf h
    have z := sg 0 c2 <| eF (.exit 0) (R35_Drop_L1_s names t9 t10 m out)
    exact overp (A := A26) mixed (by intro hx; cases hx) z (by kernel_rfl)
theorem R35_Drop_L1_ok (names : (List Str)) (out : (List tPred)) (t9 : (List tPred)) (t10 : Int) (t11 : Int) (m : (List tPred)) {x : ((List tPred))} (h : R35_Drop_L1 names t9 t10 out t11 = some x) :
    Sat Pg GE 0 (.loop (cA b26 119)) (EX (.exit 0) (R35_Drop_L1_s names t9 t10 m x)) (R35_Drop_L1_S names out t9 t10 t11 m) :=
  Sat.loop (S := fun (zz : (List tPred) × Int) => R35_Drop_L1_S names zz.1 t9 t10 zz.2 m) (ex := (fun _ => .exit 0)) (s := (out, t11)) h fun zz y hy => R35_Drop_L1_bok names zz.1 t9 t10 zz.2 m hy
noncomputable def R35_Drop (p : tPred) (names : (List Str)) : Option (tPred) :=
  (R07_Split p).bind fun r1 =>
  (R35_Drop_L1 names r1 (r1.length : Int) ([] : List tPred) 0).bind fun o7 =>
  (R07_And o7).bind fun r8 =>
  some r8
theorem R35_Drop_ok {p : tPred} {names : (List Str)} {r : tPred} (h : R35_Drop p names = some r) : CC Pg GE 26 [.agg (c_tPred p), sl cS names] (.agg (c_tPred r)) [] := by
  obtain ⟨r1, br1, h⟩ := bnd h
  obtain ⟨o7, bo7, h⟩ := bnd h
  obtain ⟨r8, br8, h⟩ := bnd h
  obtain rfl := lf h
  have z := se (pc_tPred p) <| sx pz31 <| sv (lk_tPred p) <| sca (R07_Split_ok br1) <| svn (sT29.ln r1) <| spc (R35_Drop_L1_ok names ([] : List tPred) r1 (r1.length : Int) 0 ([] : List tPred) bo7) <| sca (R07_And_ok br8) <| sx (pcx_tPred r8) <| en (aI (rex_tPred r8) <| (cl_tPred r8))
  exact C.evp (A := A26) mixed Tryz.call26 Tryz.func26 (c := b26) rfl (aI (cl_tPred p) (aI (cl_sl clS names) trivial)) z (by kernel_rfl)
noncomputable def b6 : Code := Tryz.f6.body.getD .skip
def A6 : List Nat := []
noncomputable def W35_AbstractDrops_J1_S (names : (List Str)) (p : tPred) : PSt := stt 40 [(1, sl cS names), (2, .eptr (c_tPred p))] [.dead] []
noncomputable def W35_AbstractDrops_J1_s (names : (List Str)) (p : tPred) (o : Bool) : PSt := stt 40 [(1, sl cS names), (2, .eptr (c_tPred p)), (15, .bool o)] [.dead] []
noncomputable def W35_AbstractDrops_J1 (names : (List Str)) (p : tPred) : Option ((Bool)) :=
  (R07_Nodes p).bind fun r1 =>
  if (decide (r1 > 600)) = true then
    some true
  else
    some (decide ((names.length : Int) > 20))
theorem W35_AbstractDrops_J1_ok (names : (List Str)) (p : tPred) {x : (Bool)} (h : W35_AbstractDrops_J1 names p = some x) :
    Sat Pg GE 0 (cA b6 12) (EX .normal (W35_AbstractDrops_J1_s names p x)) (W35_AbstractDrops_J1_S names p) := by
  obtain ⟨r1, br1, h⟩ := bnd h
  rcases ifs h with ⟨c2, h⟩ | ⟨c2, h⟩
  · obtain rfl := lf h
    have z := sv (lk_tPred p) <| sca (R07_Nodes_ok br1) <| sg 4 c2 <| eF .normal (W35_AbstractDrops_J1_s names p true)
    exact piecep (A := A6) mixed z (by kernel_rfl)
  · obtain rfl := lf h
    have z := sv (lk_tPred p) <| sca (R07_Nodes_ok br1) <| sg 4 c2 <| svn (sT22.ln names) <| eF .normal (W35_AbstractDrops_J1_s names p (decide ((names.length : Int) > 20)))
    exact piecep (A := A6) mixed z (by kernel_rfl)
noncomputable def W35_AbstractDrops_L2_S (names : (List Str)) (t27 : (List tPred)) (t28 : Int) (t29 : Int) (m : Int) (m2 : Str) (m3 : Int) (m4 : (List tPred)) : PSt := stt 40 [(1, sl cS names), (27, sl c_tPred t27), (28, .int .i64 t28), (29, .int .i64 t29)] [.dead, .cells [.int .i64 m, .str m2, .int .i64 m3, sl c_tPred m4] []] [((27, 0), 31)]
noncomputable def W35_AbstractDrops_L2_e (o : (Unit) ⊕ (Unit)) : Exit := match o with
  | (.inl _) => .ret
  | (.inr _) => .exit 0
noncomputable def W35_AbstractDrops_L2_s (names : (List Str)) (t27 : (List tPred)) (t28 : Int) (m : Int) (m2 : Str) (m3 : Int) (m4 : (List tPred)) (o : (Unit) ⊕ (Unit)) : PSt := match o with
  | (.inl o) => stt 40 [(4, .bool false)] [.dead, .cells [.int .i64 m, .str m2, .int .i64 m3, sl c_tPred m4] []] []
  | (.inr o) => stt 40 [] [.dead, .cells [.int .i64 m, .str m2, .int .i64 m3, sl c_tPred m4] []] []
noncomputable def W35_AbstractDrops_L2_b (names : (List Str)) (t27 : (List tPred)) (t28 : Int) (t29 : Int) : Option ((Int) ⊕ ((Unit) ⊕ (Unit))) :=
  if (decide (t29 < t28)) = true then
    (idx t27 t29).bind fun x12 =>
    (R04_Find names x12.Name).bind fun r13 =>
    if (decide (r13 ≥ 0)) = true then
      some (.inr (.inl ()))
    else
      some (.inl (w64 (t29 + 1)))
  else
    some (.inr (.inr ()))
noncomputable def W35_AbstractDrops_L2 (names : (List Str)) (t27 : (List tPred)) (t28 : Int) (t29 : Int) : Option ((Unit) ⊕ (Unit)) := loop (fun (zz : Int) => W35_AbstractDrops_L2_b names t27 t28 zz) t29
theorem W35_AbstractDrops_L2_bok (names : (List Str)) (t27 : (List tPred)) (t28 : Int) (t29 : Int) (m : Int) (m2 : Str) (m3 : Int) (m4 : (List tPred)) {y : (Int) ⊕ ((Unit) ⊕ (Unit))} (h : W35_AbstractDrops_L2_b names t27 t28 t29 = some y) :
    Sat Pg GE 0 (cA b6 503) (LQ (fun (zz : Int) => W35_AbstractDrops_L2_S names t27 t28 zz m m2 m3 m4) W35_AbstractDrops_L2_e (W35_AbstractDrops_L2_s names t27 t28 m m2 m3 m4) y) (W35_AbstractDrops_L2_S names t27 t28 t29 m m2 m3 m4) := by
  rcases ifs h with ⟨c11, h⟩ | ⟨c11, h⟩
  · obtain ⟨x12, bx12, h⟩ := bnd h
    obtain ⟨r13, br13, h⟩ := bnd h
    rcases ifs h with ⟨c14, h⟩ | ⟨c14, h⟩
    · obtain rfl := lf h
      have z := sg 0 c11 <| sv (sT29.ia (k := .i64) bx12) <| sv (lk_tPred x12) <| sx pz31 <| sx (pcx_tPred x12) <| ss <| sca (R04_Find_ok br13) <| sg 0 c14 <| eFx 0 (W35_AbstractDrops_L2_e (.inl ())) (W35_AbstractDrops_L2_s names t27 t28 m m2 m3 m4 (.inl ())) rfl (cl_tm (aI trivial trivial)) (aI trivial (aI (aI trivial (aI trivial (aI trivial (aI (up (cl_sl cl_tPred m4)) trivial)))) trivial))
      exact overxp (A := A6) mixed (by intro hx; cases hx) z (by kernel_rfl)
    · obtain rfl := lf h
      have z := sg 0 c11 <| sv (sT29.ia (k := .i64) bx12) <| sv (lk_tPred x12) <| sx pz31 <| sx (pcx_tPred x12) <| ss <| sca (R04_Find_ok br13) <| sg 0 c14 <| eFx 0 .normal (W35_AbstractDrops_L2_S names t27 t28 (w64 (t29 + 1)) m m2 m3 m4) rfl (cl_tm (aI (up (cl_sl clS names)) (aI (up (cl_sl cl_tPred t27)) (aI trivial (aI trivial trivial))))) (aI trivial (aI (aI trivial (aI trivial (aI trivial (aI (up (cl_sl cl_tPred m4)) trivial)))) trivial))
      exact nextxp (A := A6) mixed z (by kernel_rfl)
  · obtain rfl := lf h
    have z := sg 0 c11 <| eF (W35_AbstractDrops_L2_e (.inr ())) (W35_AbstractDrops_L2_s names t27 t28 m m2 m3 m4 (.inr ()))
    exact overp (A := A6) mixed (by intro hx; cases hx) z (by kernel_rfl)
theorem W35_AbstractDrops_L2_ok (names : (List Str)) (t27 : (List tPred)) (t28 : Int) (t29 : Int) (m : Int) (m2 : Str) (m3 : Int) (m4 : (List tPred)) {x : (Unit) ⊕ (Unit)} (h : W35_AbstractDrops_L2 names t27 t28 t29 = some x) :
    Sat Pg GE 0 (.loop (cA b6 503)) (EX (W35_AbstractDrops_L2_e x) (W35_AbstractDrops_L2_s names t27 t28 m m2 m3 m4 x)) (W35_AbstractDrops_L2_S names t27 t28 t29 m m2 m3 m4) :=
  Sat.loop (S := fun (zz : Int) => W35_AbstractDrops_L2_S names t27 t28 zz m m2 m3 m4) (ex := W35_AbstractDrops_L2_e) (s := t29) h fun zz y hy => W35_AbstractDrops_L2_bok names t27 t28 zz m m2 m3 m4 hy
noncomputable def W35_AbstractDrops (p : tPred) (names : (List Str)) : Option (Bool) :=
  (W35_AbstractDrops_J1 names p).bind fun o3 =>
  if o3 = true then
    (W35_alive).bind fun r5 =>
    some r5
  else
    (abstract_Drop p names).bind fun r6 =>
    (R35_Drop p names).bind fun r7 =>
    (R07_Same r6 r7).bind fun r8 =>
    if (!r8) = true then
      some false
    else
      (R07_Apps r6).bind fun r10 =>
      (W35_AbstractDrops_L2 names r10 (r10.length : Int) 0).bind fun o15 => match o15 with
      | (.inl o15) =>
        some false
      | (.inr o15) =>
        (W35_alive).bind fun r16 =>
        some r16
theorem W35_AbstractDrops_ok {p : tPred} {names : (List Str)} {r : Bool} (h : W35_AbstractDrops p names = some r) : CC Pg GE 6 [.agg (c_tPred p), sl cS names] (.bool r) [] := by
  obtain ⟨o3, bo3, h⟩ := bnd h
  rcases ifs h with ⟨c4, h⟩ | ⟨c4, h⟩
  · obtain ⟨r5, br5, h⟩ := bnd h
    obtain rfl := lf h
    have z := se (pc_tPred p) <| spa 1 <| spc (W35_AbstractDrops_J1_ok names p bo3) <| sg 0 c4 <| sca (W35_alive_ok br5) <| en (aI (rP (.bool r5)) <| trivial)
    exact C.evp (A := A6) mixed Tryz.call6 Tryz.func6 (c := b6) rfl (aI (cl_tPred p) (aI (cl_sl clS names) trivial)) z (by kernel_rfl)
  · obtain ⟨r6, br6, h⟩ := bnd h
    obtain ⟨r7, br7, h⟩ := bnd h
    obtain ⟨r8, br8, h⟩ := bnd h
    rcases ifs h with ⟨c9, h⟩ | ⟨c9, h⟩
    · obtain rfl := lf h
      have z := se (pc_tPred p) <| spa 1 <| spc (W35_AbstractDrops_J1_ok names p bo3) <| sg 0 c4 <| sv (lk_tPred p) <| sca (abstract_Drop_ok br6) <| sx pz31 <| sx (pcx_tPred r6) <| sdr [0, 0, 0, 6, 15, 31] <| sv (lkx_tPred r6 []) <| sv (lk_tPred p) <| sca (R35_Drop_ok br7) <| sca (R07_Same_ok br8) <| sg 0 c9 <| en (aI (rP (.bool false)) <| trivial)
      exact C.evp (A := A6) mixed Tryz.call6 Tryz.func6 (c := b6) rfl (aI (cl_tPred p) (aI (cl_sl clS names) trivial)) z (by kernel_rfl)
    · obtain ⟨r10, br10, h⟩ := bnd h
      obtain ⟨o15, bo15, h⟩ := bnd h
      rcases o15 with o15 | o15
      · obtain rfl := lf h
        have z := se (pc_tPred p) <| spa 1 <| spc (W35_AbstractDrops_J1_ok names p bo3) <| sg 0 c4 <| sv (lk_tPred p) <| sca (abstract_Drop_ok br6) <| sx pz31 <| sx (pcx_tPred r6) <| sdr [0, 0, 0, 6, 15, 31] <| sv (lkx_tPred r6 []) <| sv (lk_tPred p) <| sca (R35_Drop_ok br7) <| sca (R07_Same_ok br8) <| sg 0 c9 <| sv (lkx_tPred r6 []) <| sca (R07_Apps_ok br10) <| svn (sT29.ln r10) <| spc (e := .ret) (s1 := W35_AbstractDrops_L2_s names r10 (r10.length : Int) r6.Op r6.Name r6.N r6.Kids (.inl o15)) (W35_AbstractDrops_L2_ok names r10 (r10.length : Int) 0 r6.Op r6.Name r6.N r6.Kids bo15) <| en (aI (rP (.bool false)) <| trivial)
        exact C.evp (A := A6) mixed Tryz.call6 Tryz.func6 (c := b6) rfl (aI (cl_tPred p) (aI (cl_sl clS names) trivial)) z (by kernel_rfl)
      · obtain ⟨r16, br16, h⟩ := bnd h
        obtain rfl := lf h
        have z := se (pc_tPred p) <| spa 1 <| spc (W35_AbstractDrops_J1_ok names p bo3) <| sg 0 c4 <| sv (lk_tPred p) <| sca (abstract_Drop_ok br6) <| sx pz31 <| sx (pcx_tPred r6) <| sdr [0, 0, 0, 6, 15, 31] <| sv (lkx_tPred r6 []) <| sv (lk_tPred p) <| sca (R35_Drop_ok br7) <| sca (R07_Same_ok br8) <| sg 0 c9 <| sv (lkx_tPred r6 []) <| sca (R07_Apps_ok br10) <| svn (sT29.ln r10) <| spc (e := .exit 0) (s1 := W35_AbstractDrops_L2_s names r10 (r10.length : Int) r6.Op r6.Name r6.N r6.Kids (.inr o15)) (W35_AbstractDrops_L2_ok names r10 (r10.length : Int) 0 r6.Op r6.Name r6.N r6.Kids bo15) <| sca (W35_alive_ok br16) <| en (aI (rP (.bool r16)) <| trivial)
        exact C.evp (A := A6) mixed Tryz.call6 Tryz.func6 (c := b6) rfl (aI (cl_tPred p) (aI (cl_sl clS names) trivial)) z (by kernel_rfl)
end Go.Proofs.YtgldgpdhblndkaaGreatDoor
namespace Go.Proofs.YtgldgpdhblndkaaGreatDoor
open Go
set_option linter.unusedVariables false
theorem runL_map {α β X : Type} (g : α → β) (e : List β → X) : ∀ (l : List α) (i : Nat) (s : List β), runL (fun _ x (s : List β) => (Sum.inl (s ++ [g x]) : List β ⊕ X)) e l i s = e (s ++ l.map g)
  | [], i, s => by simp [runL]
  | x :: l, i, s => by
    unfold runL
    simp only
    rw [runL_map g e l (i + 1) (s ++ [g x])]
    simp
theorem loop_map {α β τ X : Type} (l : List α) (hl : l.length < 9223372036854775808) (mk : Int → List β → τ) (body : τ → Option (τ ⊕ X)) (g : α → β) (e : List β → X)
    (hin : ∀ (i : Nat) (h : i < l.length) s, s.length = i → body (mk i s) = some (.inl (mk (w64 ((i : Int) + 1)) (s ++ [g l[i]])))) (hend : ∀ s, body (mk l.length s) = some (.inr (e s))) : loop body (mk 0 []) = some (e (l.map g)) := by
  have := loop_run l hl mk body (fun i s => s.length = i) (fun _ x s => .inl (s ++ [g x])) e (fun i h s hs => ⟨hin i h s hs, fun s' hs' => by cases hs'; simp [hs]⟩) (fun s _ => hend s) 0 [] (Nat.zero_le _) rfl
  rw [runL_map] at this
  exact this
theorem loop_all {α X : Type} (l : List α) (hl : l.length < 9223372036854775808) (body : Int → Option (Int ⊕ X)) (e : X)
    (hin : ∀ (i : Nat) (h : i < l.length), body i = some (.inl (w64 ((i : Int) + 1)))) (hend : body l.length = some (.inr e)) : loop body (0 : Int) = some e := by
  have := loop_any l hl body (fun _ => false) e e (fun i h => by rw [hin i h]; rfl) hend 0 (Nat.zero_le _)
  simpa using this
end Go.Proofs.YtgldgpdhblndkaaGreatDoor
