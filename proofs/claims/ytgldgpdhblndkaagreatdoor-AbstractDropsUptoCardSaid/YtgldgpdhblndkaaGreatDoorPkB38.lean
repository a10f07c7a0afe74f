/-
  WHAT IS PROVED: parts of the proof, put together by a program out of smaller texts (G6). Conditions: none.
-/
import Derived.Test.YtgldgpdhblndkaaGreatDoorPkB37
namespace Go.Proofs.YtgldgpdhblndkaaGreatDoor
open Go
set_option linter.unusedVariables false
set_option maxRecDepth 100000
noncomputable def b44 : Code := Tryz.f44.body.getD .skip
def A44 : List Nat := []
noncomputable def R07_Void (p : tPred) : Option (Bool) :=
  (R07_True).bind fun r1 =>
  (R07_Same p r1).bind fun r2 =>
  if r2 = true then
    some true
  else
    (R07_Same p (⟨0, ([] : Str), 0, ([] : List tPred)⟩ : tPred)).bind fun r4 =>
    some r4
theorem R07_Void_ok {p : tPred} {r : Bool} (h : R07_Void p = some r) : CC Pg GE 44 [.agg (c_tPred p)] (.bool r) [] := by
  obtain ⟨r1, br1, h⟩ := bnd h
  obtain ⟨r2, br2, h⟩ := bnd h
  rcases ifs h with ⟨c3, h⟩ | ⟨c3, h⟩
  · obtain rfl := lf h
    have z := se (pc_tPred p) <| sdr [0, 0, 3, 7, 15, 15, 63, 127, 255] <| sv (lk_tPred p) <| sca (R07_True_ok br1) <| sca (R07_Same_ok br2) <| sg 4 c3 <| en (aI (rP (.bool true)) <| trivial)
    exact C.evp (A := A44) mixed Tryz.call44 Tryz.func44 (c := b44) rfl (aI (cl_tPred p) trivial) z (by kernel_rfl)
  · obtain ⟨r4, br4, h⟩ := bnd h
    obtain rfl := lf h
    have z := se (pc_tPred p) <| sdr [0, 0, 3, 7, 15, 15, 63, 127, 255] <| sv (lk_tPred p) <| sca (R07_True_ok br1) <| sca (R07_Same_ok br2) <| sg 4 c3 <| sv (lk_tPred p) <| sb (bu_tPred_n ) (bn_tPred_n ) <| sca (R07_Same_ok br4) <| en (aI (rP (.bool r4)) <| trivial)
    exact C.evp (A := A44) mixed Tryz.call44 Tryz.func44 (c := b44) rfl (aI (cl_tPred p) trivial) z (by kernel_rfl)
noncomputable def b48 : Code := Tryz.f48.body.getD .skip
def A48 : List Nat := []
noncomputable def R32_same (a : tPred) (a2 : tPred) : Option (Bool) :=
  (R07_Void a).bind fun r1 =>
  if r1 = true then
    (R07_Void a2).bind fun r3 =>
    if r3 = true then
      some true
    else
      (R07_Same a a2).bind fun r5 =>
      some r5
  else
    (R07_Same a a2).bind fun r6 =>
    some r6
theorem R32_same_ok {a : tPred} {a2 : tPred} {r : Bool} (h : R32_same a a2 = some r) : CC Pg GE 48 [.agg (c_tPred a), .agg (c_tPred a2)] (.bool r) [] := by
  obtain ⟨r1, br1, h⟩ := bnd h
  rcases ifs h with ⟨c2, h⟩ | ⟨c2, h⟩
  · obtain ⟨r3, br3, h⟩ := bnd h
    rcases ifs h with ⟨c4, h⟩ | ⟨c4, h⟩
    · obtain rfl := lf h
      have z := se (pc_tPred a) <| se (pc_tPred a2) <| sv (lk_tPred a) <| sca (R07_Void_ok br1) <| sg 3 c2 <| sv (lk_tPred a2) <| sca (R07_Void_ok br3) <| sg 7 c4 <| en (aI (rP (.bool true)) <| trivial)
      exact C.evp (A := A48) mixed Tryz.call48 Tryz.func48 (c := b48) rfl (aI (cl_tPred a) (aI (cl_tPred a2) trivial)) z (by kernel_rfl)
    · obtain ⟨r5, br5, h⟩ := bnd h
      obtain rfl := lf h
      have z := se (pc_tPred a) <| se (pc_tPred a2) <| sv (lk_tPred a) <| sca (R07_Void_ok br1) <| sg 3 c2 <| sv (lk_tPred a2) <| sca (R07_Void_ok br3) <| sg 7 c4 <| sv (lk_tPred a) <| sv (lk_tPred a2) <| sca (R07_Same_ok br5) <| en (aI (rP (.bool r5)) <| trivial)
      exact C.evp (A := A48) mixed Tryz.call48 Tryz.func48 (c := b48) rfl (aI (cl_tPred a) (aI (cl_tPred a2) trivial)) z (by kernel_rfl)
  · obtain ⟨r6, br6, h⟩ := bnd h
    obtain rfl := lf h
    have z := se (pc_tPred a) <| se (pc_tPred a2) <| sv (lk_tPred a) <| sca (R07_Void_ok br1) <| sg 3 c2 <| sv (lk_tPred a) <| sv (lk_tPred a2) <| sca (R07_Same_ok br6) <| en (aI (rP (.bool r6)) <| trivial)
    exact C.evp (A := A48) mixed Tryz.call48 Tryz.func48 (c := b48) rfl (aI (cl_tPred a) (aI (cl_tPred a2) trivial)) z (by kernel_rfl)
noncomputable def b15 : Code := Tryz.f15.body.getD .skip
def A15 : List Nat := [58, 77]
noncomputable def R32_Same_J1_S (v : tType) (v2 : tType) : PSt := stt 91 [(2, .eptr (c_tType v)), (3, .eptr (c_tType v2))] [.dead, .dead] []
noncomputable def R32_Same_J1_s (v : tType) (v2 : tType) (o : Bool) : PSt := stt 91 [(2, .eptr (c_tType v)), (3, .eptr (c_tType v2)), (52, .bool o)] [.dead, .dead] []
noncomputable def R32_Same_J1 (R65 : T_R32_Same) (v : tType) (v2 : tType) : Option ((Bool)) :=
  if (v.Op != v2.Op) = true then
    some true
  else
    if (!(v.Name == v2.Name)) = true then
      some true
    else
      if ((v.Args.length : Int) != (v2.Args.length : Int)) = true then
        some true
      else
        if ((v.Preds.length : Int) != (v2.Preds.length : Int)) = true then
          some true
        else
          (R04_Same v.Names v2.Names).bind fun r5 =>
          if (!r5) = true then
            some true
          else
            (R32_same v.Pred v2.Pred).bind fun r7 =>
            some (!r7)
theorem R32_Same_J1_ok (R65 : T_R32_Same) (hR65 : H_R32_Same R65) (v : tType) (v2 : tType) {x : (Bool)} (h : R32_Same_J1 R65 v v2 = some x) :
    Sat Pg GE 0 (cA b15 12) (EX .normal (R32_Same_J1_s v v2 x)) (R32_Same_J1_S v v2) := by
  rcases ifs h with ⟨c1, h⟩ | ⟨c1, h⟩
  · obtain rfl := lf h
    have z := sv (fa_tType_33_0 v) <| sv (lf_tType_0_26 v) <| sv (fa_tType_33_0 v2) <| sv (lf_tType_0_26 v2) <| sg 6 c1 <| eF .normal (R32_Same_J1_s v v2 true)
    exact piecep (A := A15) mixed z (by kernel_rfl)
  · rcases ifs h with ⟨c2, h⟩ | ⟨c2, h⟩
    · obtain rfl := lf h
      have z := sv (fa_tType_33_0 v) <| sv (lf_tType_0_26 v) <| sv (fa_tType_33_0 v2) <| sv (lf_tType_0_26 v2) <| sg 6 c1 <| sv (fa_tType_33_1 v) <| sv (lf_tType_1_9 v) <| sv (fa_tType_33_1 v2) <| sv (lf_tType_1_9 v2) <| sg 13 c2 <| eF .normal (R32_Same_J1_s v v2 true)
      exact piecep (A := A15) mixed z (by kernel_rfl)
    · rcases ifs h with ⟨c3, h⟩ | ⟨c3, h⟩
      · obtain rfl := lf h
        have z := sv (fa_tType_33_0 v) <| sv (lf_tType_0_26 v) <| sv (fa_tType_33_0 v2) <| sv (lf_tType_0_26 v2) <| sg 6 c1 <| sv (fa_tType_33_1 v) <| sv (lf_tType_1_9 v) <| sv (fa_tType_33_1 v2) <| sv (lf_tType_1_9 v2) <| sg 13 c2 <| sv (fa_tType_33_2 v) <| sv (lf_tType_2_27 v) <| svn (sT27.ln v.Args) <| sv (fa_tType_33_2 v2) <| sv (lf_tType_2_27 v2) <| svn (sT27.ln v2.Args) <| sg 22 c3 <| eF .normal (R32_Same_J1_s v v2 true)
        exact piecep (A := A15) mixed z (by kernel_rfl)
      · rcases ifs h with ⟨c4, h⟩ | ⟨c4, h⟩
        · obtain rfl := lf h
          have z := sv (fa_tType_33_0 v) <| sv (lf_tType_0_26 v) <| sv (fa_tType_33_0 v2) <| sv (lf_tType_0_26 v2) <| sg 6 c1 <| sv (fa_tType_33_1 v) <| sv (lf_tType_1_9 v) <| sv (fa_tType_33_1 v2) <| sv (lf_tType_1_9 v2) <| sg 13 c2 <| sv (fa_tType_33_2 v) <| sv (lf_tType_2_27 v) <| svn (sT27.ln v.Args) <| sv (fa_tType_33_2 v2) <| sv (lf_tType_2_27 v2) <| svn (sT27.ln v2.Args) <| sg 22 c3 <| sv (fa_tType_33_5 v) <| sv (lf_tType_8_29 v) <| svn (sT29.ln v.Preds) <| sv (fa_tType_33_5 v2) <| sv (lf_tType_8_29 v2) <| svn (sT29.ln v2.Preds) <| sg 31 c4 <| eF .normal (R32_Same_J1_s v v2 true)
          exact piecep (A := A15) mixed z (by kernel_rfl)
        · obtain ⟨r5, br5, h⟩ := bnd h
          rcases ifs h with ⟨c6, h⟩ | ⟨c6, h⟩
          · obtain rfl := lf h
            have z := sv (fa_tType_33_0 v) <| sv (lf_tType_0_26 v) <| sv (fa_tType_33_0 v2) <| sv (lf_tType_0_26 v2) <| sg 6 c1 <| sv (fa_tType_33_1 v) <| sv (lf_tType_1_9 v) <| sv (fa_tType_33_1 v2) <| sv (lf_tType_1_9 v2) <| sg 13 c2 <| sv (fa_tType_33_2 v) <| sv (lf_tType_2_27 v) <| svn (sT27.ln v.Args) <| sv (fa_tType_33_2 v2) <| sv (lf_tType_2_27 v2) <| svn (sT27.ln v2.Args) <| sg 22 c3 <| sv (fa_tType_33_5 v) <| sv (lf_tType_8_29 v) <| svn (sT29.ln v.Preds) <| sv (fa_tType_33_5 v2) <| sv (lf_tType_8_29 v2) <| svn (sT29.ln v2.Preds) <| sg 31 c4 <| sv (fa_tType_33_3 v) <| sv (lf_tType_3_22 v) <| sv (fa_tType_33_3 v2) <| sv (lf_tType_3_22 v2) <| sca (R04_Same_ok br5) <| sg 39 c6 <| eF .normal (R32_Same_J1_s v v2 true)
            exact piecep (A := A15) mixed z (by kernel_rfl)
          · obtain ⟨r7, br7, h⟩ := bnd h
            obtain rfl := lf h
            have z := sv (fa_tType_33_0 v) <| sv (lf_tType_0_26 v) <| sv (fa_tType_33_0 v2) <| sv (lf_tType_0_26 v2) <| sg 6 c1 <| sv (fa_tType_33_1 v) <| sv (lf_tType_1_9 v) <| sv (fa_tType_33_1 v2) <| sv (lf_tType_1_9 v2) <| sg 13 c2 <| sv (fa_tType_33_2 v) <| sv (lf_tType_2_27 v) <| svn (sT27.ln v.Args) <| sv (fa_tType_33_2 v2) <| sv (lf_tType_2_27 v2) <| svn (sT27.ln v2.Args) <| sg 22 c3 <| sv (fa_tType_33_5 v) <| sv (lf_tType_8_29 v) <| svn (sT29.ln v.Preds) <| sv (fa_tType_33_5 v2) <| sv (lf_tType_8_29 v2) <| svn (sT29.ln v2.Preds) <| sg 31 c4 <| sv (fa_tType_33_3 v) <| sv (lf_tType_3_22 v) <| sv (fa_tType_33_3 v2) <| sv (lf_tType_3_22 v2) <| sca (R04_Same_ok br5) <| sg 39 c6 <| sv (fa_tType_33_4 v) <| sv (lf_tType_4_31 v) <| sv (fa_tType_33_4 v2) <| sv (lf_tType_4_31 v2) <| sca (R32_same_ok br7) <| eF .normal (R32_Same_J1_s v v2 (!r7))
            exact piecep (A := A15) mixed z (by kernel_rfl)
noncomputable def R32_Same_L2_S (v : tType) (v2 : tType) (t55 : Int) (t56 : Int) : PSt := stt 91 [(2, .eptr (c_tType v)), (3, .eptr (c_tType v2)), (55, .int .i64 t55), (56, .int .i64 t56)] [.dead, .dead] []
noncomputable def R32_Same_L2_e (o : (Unit) ⊕ (Unit)) : Exit := match o with
  | (.inl _) => .ret
  | (.inr _) => .exit 0
noncomputable def R32_Same_L2_s (v : tType) (v2 : tType) (t55 : Int) (o : (Unit) ⊕ (Unit)) : PSt := match o with
  | (.inl o) => stt 91 [(4, .bool false)] [.dead, .dead] []
  | (.inr o) => stt 91 [(2, .eptr (c_tType v)), (3, .eptr (c_tType v2))] [.dead, .dead] []
noncomputable def R32_Same_L2_b (R65 : T_R32_Same) (v : tType) (v2 : tType) (t55 : Int) (t56 : Int) : Option ((Int) ⊕ ((Unit) ⊕ (Unit))) :=
  if (decide (t56 < t55)) = true then
    (idx v.Preds t56).bind fun x11 =>
    (idx v2.Preds t56).bind fun x12 =>
    (R32_same x11 x12).bind fun r13 =>
    if (!r13) = true then
      some (.inr (.inl ()))
    else
      some (.inl (w64 (t56 + 1)))
  else
    some (.inr (.inr ()))
noncomputable def R32_Same_L2 (R65 : T_R32_Same) (v : tType) (v2 : tType) (t55 : Int) (t56 : Int) : Option ((Unit) ⊕ (Unit)) := loop (fun (zz : Int) => R32_Same_L2_b R65 v v2 t55 zz) t56
theorem R32_Same_L2_bok (R65 : T_R32_Same) (hR65 : H_R32_Same R65) (v : tType) (v2 : tType) (t55 : Int) (t56 : Int) {y : (Int) ⊕ ((Unit) ⊕ (Unit))} (h : R32_Same_L2_b R65 v v2 t55 t56 = some y) :
    Sat Pg GE 0 (cA b15 119) (LQ (fun (zz : Int) => R32_Same_L2_S v v2 t55 zz) R32_Same_L2_e (R32_Same_L2_s v v2 t55) y) (R32_Same_L2_S v v2 t55 t56) := by
  rcases ifs h with ⟨c10, h⟩ | ⟨c10, h⟩
  · obtain ⟨x11, bx11, h⟩ := bnd h
    obtain ⟨x12, bx12, h⟩ := bnd h
    obtain ⟨r13, br13, h⟩ := bnd h
    rcases ifs h with ⟨c14, h⟩ | ⟨c14, h⟩
    · obtain rfl := lf h
      have z := sg 0 c10 <| sdr [0, 1, 0, 7, 15, 0, 32, 0, 224, 480, 1023, 2047] <| sv (fa_tType_33_5 v) <| sv (lf_tType_8_29 v) <| sv (sT29.ia (k := .i64) bx11) <| sv (lk_tPred x11) <| sv (fa_tType_33_5 v2) <| sv (lf_tType_8_29 v2) <| sv (sT29.ia (k := .i64) bx12) <| sv (lk_tPred x12) <| sca (R32_same_ok br13) <| sg 0 c14 <| eF (R32_Same_L2_e (.inl ())) (R32_Same_L2_s v v2 t55 (.inl ()))
      exact overp (A := A15) mixed (by intro hx; cases hx) z (by kernel_rfl)
    · obtain rfl := lf h
      have z := sg 0 c10 <| sdr [0, 1, 0, 7, 15, 0, 32, 0, 224, 480, 1023, 2047] <| sv (fa_tType_33_5 v) <| sv (lf_tType_8_29 v) <| sv (sT29.ia (k := .i64) bx11) <| sv (lk_tPred x11) <| sv (fa_tType_33_5 v2) <| sv (lf_tType_8_29 v2) <| sv (sT29.ia (k := .i64) bx12) <| sv (lk_tPred x12) <| sca (R32_same_ok br13) <| sg 0 c14 <| eF .normal (R32_Same_L2_S v v2 t55 (w64 (t56 + 1)))
      exact nextp (A := A15) mixed z (by kernel_rfl)
  · obtain rfl := lf h
    have z := sg 0 c10 <| eF (R32_Same_L2_e (.inr ())) (R32_Same_L2_s v v2 t55 (.inr ()))
    exact overp (A := A15) mixed (by intro hx; cases hx) z (by kernel_rfl)
theorem R32_Same_L2_ok (R65 : T_R32_Same) (hR65 : H_R32_Same R65) (v : tType) (v2 : tType) (t55 : Int) (t56 : Int) {x : (Unit) ⊕ (Unit)} (h : R32_Same_L2 R65 v v2 t55 t56 = some x) :
    Sat Pg GE 0 (.loop (cA b15 119)) (EX (R32_Same_L2_e x) (R32_Same_L2_s v v2 t55 x)) (R32_Same_L2_S v v2 t55 t56) :=
  Sat.loop (S := fun (zz : Int) => R32_Same_L2_S v v2 t55 zz) (ex := R32_Same_L2_e) (s := t56) h fun zz y hy => R32_Same_L2_bok R65 hR65 v v2 t55 zz hy
noncomputable def R32_Same_L3_S (v : tType) (v2 : tType) (t74 : Int) (t75 : Int) : PSt := stt 91 [(2, .eptr (c_tType v)), (3, .eptr (c_tType v2)), (74, .int .i64 t74), (75, .int .i64 t75)] [.dead, .dead] []
noncomputable def R32_Same_L3_e (o : (Unit) ⊕ (Unit)) : Exit := match o with
  | (.inl _) => .ret
  | (.inr _) => .exit 2
noncomputable def R32_Same_L3_s (v : tType) (v2 : tType) (t74 : Int) (o : (Unit) ⊕ (Unit)) : PSt := match o with
  | (.inl o) => stt 91 [(4, .bool false)] [.dead, .dead] []
  | (.inr o) => stt 91 [] [.dead, .dead] []
noncomputable def R32_Same_L3_b (R65 : T_R32_Same) (v : tType) (v2 : tType) (t74 : Int) (t75 : Int) : Option ((Int) ⊕ ((Unit) ⊕ (Unit))) :=
  if (decide (t75 < t74)) = true then
    (idx v.Args t75).bind fun x17 =>
    (idx v2.Args t75).bind fun x18 =>
    (R65 x17 x18).bind fun r19 =>
    if (!r19) = true then
      some (.inr (.inl ()))
    else
      some (.inl (w64 (t75 + 1)))
  else
    some (.inr (.inr ()))
noncomputable def R32_Same_L3 (R65 : T_R32_Same) (v : tType) (v2 : tType) (t74 : Int) (t75 : Int) : Option ((Unit) ⊕ (Unit)) := loop (fun (zz : Int) => R32_Same_L3_b R65 v v2 t74 zz) t75
theorem R32_Same_L3_bok (R65 : T_R32_Same) (hR65 : H_R32_Same R65) (v : tType) (v2 : tType) (t74 : Int) (t75 : Int) {y : (Int) ⊕ ((Unit) ⊕ (Unit))} (h : R32_Same_L3_b R65 v v2 t74 t75 = some y) :
    Sat Pg GE 0 (cA b15 247) (LQ (fun (zz : Int) => R32_Same_L3_S v v2 t74 zz) R32_Same_L3_e (R32_Same_L3_s v v2 t74) y) (R32_Same_L3_S v v2 t74 t75) := by
  rcases ifs h with ⟨c16, h⟩ | ⟨c16, h⟩
  · obtain ⟨x17, bx17, h⟩ := bnd h
    obtain ⟨x18, bx18, h⟩ := bnd h
    obtain ⟨r19, br19, h⟩ := bnd h
    rcases ifs h with ⟨c20, h⟩ | ⟨c20, h⟩
    · obtain rfl := lf h
      have z := sg 0 c16 <| sdr [0, 1, 0, 7, 15, 0, 32, 0, 224, 480, 1023, 2047] <| sv (fa_tType_33_2 v) <| sv (lf_tType_2_27 v) <| sv (sT27.ia (k := .i64) bx17) <| sv (lk_tType x17) <| sv (fa_tType_33_2 v2) <| sv (lf_tType_2_27 v2) <| sv (sT27.ia (k := .i64) bx18) <| sv (lk_tType x18) <| sca (hR65 _ _ _ br19) <| sg 0 c20 <| eF (R32_Same_L3_e (.inl ())) (R32_Same_L3_s v v2 t74 (.inl ()))
      exact overp (A := A15) mixed (by intro hx; cases hx) z (by kernel_rfl)
    · obtain rfl := lf h
      have z := sg 0 c16 <| sdr [0, 1, 0, 7, 15, 0, 32, 0, 224, 480, 1023, 2047] <| sv (fa_tType_33_2 v) <| sv (lf_tType_2_27 v) <| sv (sT27.ia (k := .i64) bx17) <| sv (lk_tType x17) <| sv (fa_tType_33_2 v2) <| sv (lf_tType_2_27 v2) <| sv (sT27.ia (k := .i64) bx18) <| sv (lk_tType x18) <| sca (hR65 _ _ _ br19) <| sg 0 c20 <| eF .normal (R32_Same_L3_S v v2 t74 (w64 (t75 + 1)))
      exact nextp (A := A15) mixed z (by kernel_rfl)
  · obtain rfl := lf h
    have z := sg 0 c16 <| eF (R32_Same_L3_e (.inr ())) (R32_Same_L3_s v v2 t74 (.inr ()))
    exact overp (A := A15) mixed (by intro hx; cases hx) z (by kernel_rfl)
theorem R32_Same_L3_ok (R65 : T_R32_Same) (hR65 : H_R32_Same R65) (v : tType) (v2 : tType) (t74 : Int) (t75 : Int) {x : (Unit) ⊕ (Unit)} (h : R32_Same_L3 R65 v v2 t74 t75 = some x) :
    Sat Pg GE 0 (.loop (cA b15 247)) (EX (R32_Same_L3_e x) (R32_Same_L3_s v v2 t74 x)) (R32_Same_L3_S v v2 t74 t75) :=
  Sat.loop (S := fun (zz : Int) => R32_Same_L3_S v v2 t74 zz) (ex := R32_Same_L3_e) (s := t75) h fun zz y hy => R32_Same_L3_bok R65 hR65 v v2 t74 zz hy
noncomputable def R32_Same_B (R65 : T_R32_Same) (a : tType) (a2 : tType) : Option (Bool) :=
  (R32_Same_J1 R65 a a2).bind fun o8 =>
  if o8 = true then
    some false
  else
    (R32_Same_L2 R65 a a2 (a.Preds.length : Int) 0).bind fun o15 => match o15 with
    | (.inl o15) =>
      some false
    | (.inr o15) =>
      (R32_Same_L3 R65 a a2 (a.Args.length : Int) 0).bind fun o21 => match o21 with
      | (.inl o21) =>
        some false
      | (.inr o21) =>
        some true
theorem R32_Same_Bok (R65 : T_R32_Same) (hR65 : H_R32_Same R65) {a : tType} {a2 : tType} {r : Bool} (h : R32_Same_B R65 a a2 = some r) : CC Pg GE 15 [.agg (c_tType a), .agg (c_tType a2)] (.bool r) [] := by
  obtain ⟨o8, bo8, h⟩ := bnd h
  rcases ifs h with ⟨c9, h⟩ | ⟨c9, h⟩
  · obtain rfl := lf h
    have z := se (pc_tType a) <| se (pc_tType a2) <| spa 1 <| spc (R32_Same_J1_ok R65 hR65 a a2 bo8) <| sg 0 c9 <| en (aI (rP (.bool false)) <| trivial)
    exact C.evp (A := A15) mixed Tryz.call15 Tryz.func15 (c := b15) rfl (aI (cl_tType a) (aI (cl_tType a2) trivial)) z (by kernel_rfl)
  · obtain ⟨o15, bo15, h⟩ := bnd h
    rcases o15 with o15 | o15
    · obtain rfl := lf h
      have z := se (pc_tType a) <| se (pc_tType a2) <| spa 1 <| spc (R32_Same_J1_ok R65 hR65 a a2 bo8) <| sg 0 c9 <| sv (fa_tType_33_5 a) <| sv (lf_tType_8_29 a) <| svn (sT29.ln a.Preds) <| spc (e := .ret) (s1 := R32_Same_L2_s a a2 (a.Preds.length : Int) (.inl o15)) (R32_Same_L2_ok R65 hR65 a a2 (a.Preds.length : Int) 0 bo15) <| en (aI (rP (.bool false)) <| trivial)
      exact C.evp (A := A15) mixed Tryz.call15 Tryz.func15 (c := b15) rfl (aI (cl_tType a) (aI (cl_tType a2) trivial)) z (by kernel_rfl)
    · obtain ⟨o21, bo21, h⟩ := bnd h
      rcases o21 with o21 | o21
      · obtain rfl := lf h
        have z := se (pc_tType a) <| se (pc_tType a2) <| spa 1 <| spc (R32_Same_J1_ok R65 hR65 a a2 bo8) <| sg 0 c9 <| sv (fa_tType_33_5 a) <| sv (lf_tType_8_29 a) <| svn (sT29.ln a.Preds) <| spc (e := .exit 0) (s1 := R32_Same_L2_s a a2 (a.Preds.length : Int) (.inr o15)) (R32_Same_L2_ok R65 hR65 a a2 (a.Preds.length : Int) 0 bo15) <| sv (fa_tType_33_2 a) <| sv (lf_tType_2_27 a) <| svn (sT27.ln a.Args) <| spc (e := .ret) (s1 := R32_Same_L3_s a a2 (a.Args.length : Int) (.inl o21)) (R32_Same_L3_ok R65 hR65 a a2 (a.Args.length : Int) 0 bo21) <| en (aI (rP (.bool false)) <| trivial)
        exact C.evp (A := A15) mixed Tryz.call15 Tryz.func15 (c := b15) rfl (aI (cl_tType a) (aI (cl_tType a2) trivial)) z (by kernel_rfl)
      · obtain rfl := lf h
        have z := se (pc_tType a) <| se (pc_tType a2) <| spa 1 <| spc (R32_Same_J1_ok R65 hR65 a a2 bo8) <| sg 0 c9 <| sv (fa_tType_33_5 a) <| sv (lf_tType_8_29 a) <| svn (sT29.ln a.Preds) <| spc (e := .exit 0) (s1 := R32_Same_L2_s a a2 (a.Preds.length : Int) (.inr o15)) (R32_Same_L2_ok R65 hR65 a a2 (a.Preds.length : Int) 0 bo15) <| sv (fa_tType_33_2 a) <| sv (lf_tType_2_27 a) <| svn (sT27.ln a.Args) <| spc (e := .exit 2) (s1 := R32_Same_L3_s a a2 (a.Args.length : Int) (.inr o21)) (R32_Same_L3_ok R65 hR65 a a2 (a.Args.length : Int) 0 bo21) <| en (aI (rP (.bool true)) <| trivial)
        exact C.evp (A := A15) mixed Tryz.call15 Tryz.func15 (c := b15) rfl (aI (cl_tType a) (aI (cl_tType a2) trivial)) z (by kernel_rfl)
noncomputable def R32_Same_F : ((tType × tType) → Option (Bool)) → (tType × tType) → Option (Bool) := fun (rec : (tType × tType) → Option (Bool)) (x : tType × tType) => R32_Same_B (fun a a2 => rec (a, a2)) x.1 x.2
noncomputable def R32_Same (a : tType) (a2 : tType) : Option (Bool) := fixE (R32_Same_F) (a, a2)
theorem R32_Same_ok {a : tType} {a2 : tType} {r : Bool} (h : R32_Same a a2 = some r) : CC Pg GE 15 [.agg (c_tType a), .agg (c_tType a2)] (.bool r) [] :=
  fixE_ind (F := R32_Same_F) (M := fun (x : tType × tType) (r : Bool) => CC Pg GE 15 [.agg (c_tType x.1), .agg (c_tType x.2)] (.bool r) []) (fun rec hrec x r h => R32_Same_Bok _ (fun a a2 r h => hrec (a, a2) r h) h) h
abbrev T_pred_Split := (tPred → Option ((List tPred)))
abbrev H_pred_Split (R : T_pred_Split) : Prop := ∀ (p : tPred) (r : (List tPred)), R p = some r → CC Pg GE 68 [.agg (c_tPred p)] (sl c_tPred r) [(0, 31)]
noncomputable def b109 : Code := Tryz.f109.body.getD .skip
def A109 : List Nat := []
noncomputable def pred_constant (is : Bool) : Option (tPred) :=
  if is = true then
    some (⟨2, ([] : Str), 1, ([] : List tPred)⟩ : tPred)
  else
    some (⟨2, ([] : Str), 0, ([] : List tPred)⟩ : tPred)
theorem pred_constant_ok {is : Bool} {r : tPred} (h : pred_constant is = some r) : CC Pg GE 109 [.bool is] (.agg (c_tPred r)) [(3, 31)] := by
  rcases ifs h with ⟨c1, h⟩ | ⟨c1, h⟩
  · obtain rfl := lf h
    have z := sx pz31 <| sg 0 c1 <| sb (bu_tPred_0_2 2 1) (bn_tPred_0_2 2 1) <| sy (ex_tPred (⟨2, ([] : Str), 1, ([] : List tPred)⟩ : tPred)) <| en (aI (rex_tPred (⟨2, ([] : Str), 1, ([] : List tPred)⟩ : tPred)) <| aI (cl_tPred (⟨2, ([] : Str), 1, ([] : List tPred)⟩ : tPred)) <| rT)
    exact C.evp (A := A109) mixed Tryz.call109 Tryz.func109 (c := b109) rfl (aI trivial trivial) z (by kernel_rfl)
  · obtain rfl := lf h
    have z := sx pz31 <| sg 0 c1 <| sb (bu_tPred_0 2) (bn_tPred_0 2) <| sy (ex_tPred (⟨2, ([] : Str), 0, ([] : List tPred)⟩ : tPred)) <| en (aI (rex_tPred (⟨2, ([] : Str), 0, ([] : List tPred)⟩ : tPred)) <| aI (cl_tPred (⟨2, ([] : Str), 0, ([] : List tPred)⟩ : tPred)) <| rT)
    exact C.evp (A := A109) mixed Tryz.call109 Tryz.func109 (c := b109) rfl (aI trivial trivial) z (by kernel_rfl)
noncomputable def b104 : Code := Tryz.f104.body.getD .skip
def A104 : List Nat := []
noncomputable def pred_void (p : tPred) : Option (Bool) :=
  (pred_Same p (⟨0, ([] : Str), 0, ([] : List tPred)⟩ : tPred)).bind fun r1 =>
  if r1 = true then
    some true
  else
    (pred_constant true).bind fun r3 =>
    (pred_Same p r3).bind fun r4 =>
    some r4
theorem pred_void_ok {p : tPred} {r : Bool} (h : pred_void p = some r) : CC Pg GE 104 [.agg (c_tPred p)] (.bool r) [] := by
  obtain ⟨r1, br1, h⟩ := bnd h
  rcases ifs h with ⟨c2, h⟩ | ⟨c2, h⟩
  · obtain rfl := lf h
    have z := se (pc_tPred p) <| sdr [0, 0, 3, 7, 15, 15, 63, 127, 255] <| sv (lk_tPred p) <| sb (bu_tPred_n ) (bn_tPred_n ) <| sca (pred_Same_ok br1) <| sg 4 c2 <| en (aI (rP (.bool true)) <| trivial)
    exact C.evp (A := A104) mixed Tryz.call104 Tryz.func104 (c := b104) rfl (aI (cl_tPred p) trivial) z (by kernel_rfl)
  · obtain ⟨r3, br3, h⟩ := bnd h
    obtain ⟨r4, br4, h⟩ := bnd h
    obtain rfl := lf h
    have z := se (pc_tPred p) <| sdr [0, 0, 3, 7, 15, 15, 63, 127, 255] <| sv (lk_tPred p) <| sb (bu_tPred_n ) (bn_tPred_n ) <| sca (pred_Same_ok br1) <| sg 4 c2 <| sv (lk_tPred p) <| sca (pred_constant_ok br3) <| sca (pred_Same_ok br4) <| en (aI (rP (.bool r4)) <| trivial)
    exact C.evp (A := A104) mixed Tryz.call104 Tryz.func104 (c := b104) rfl (aI (cl_tPred p) trivial) z (by kernel_rfl)
noncomputable def b68 : Code := Tryz.f68.body.getD .skip
def A68 : List Nat := []
noncomputable def pred_Split_J1_S (p : tPred) : PSt := stt 28 [(1, .eptr (c_tPred p))] [.dead] []
noncomputable def pred_Split_J1_s (p : tPred) (o : Bool) : PSt := stt 28 [(1, .eptr (c_tPred p)), (11, .bool o)] [.dead] []
noncomputable def pred_Split_J1 (R72 : T_pred_Split) (p : tPred) : Option ((Bool)) :=
  if (p.Op == 15) = true then
    some ((p.Kids.length : Int) == 2)
  else
    some false
theorem pred_Split_J1_ok (R72 : T_pred_Split) (hR72 : H_pred_Split R72) (p : tPred) {x : (Bool)} (h : pred_Split_J1 R72 p = some x) :
    Sat Pg GE 0 (cA b68 12) (EX .normal (pred_Split_J1_s p x)) (pred_Split_J1_S p) := by
  rcases ifs h with ⟨c1, h⟩ | ⟨c1, h⟩
  · obtain rfl := lf h
    have z := sv (fa_tPred_31_0 p) <| sv (lf_tPred_0_28 p) <| sg 4 c1 <| sv (fa_tPred_31_3 p) <| sv (lf_tPred_3_29 p) <| svn (sT29.ln p.Kids) <| eF .normal (pred_Split_J1_s p ((p.Kids.length : Int) == 2))
    exact piecep (A := A68) mixed z (by kernel_rfl)
  · obtain rfl := lf h
    have z := sv (fa_tPred_31_0 p) <| sv (lf_tPred_0_28 p) <| sg 4 c1 <| eF .normal (pred_Split_J1_s p false)
    exact piecep (A := A68) mixed z (by kernel_rfl)
noncomputable def pred_Split_B (R72 : T_pred_Split) (p : tPred) : Option ((List tPred)) :=
  (pred_Split_J1 R72 p).bind fun o2 =>
  if o2 = true then
    (idx p.Kids 0).bind fun x4 =>
    (R72 x4).bind fun r5 =>
    (idx p.Kids 1).bind fun x6 =>
    (R72 x6).bind fun r7 =>
    (app r5 r7).bind fun l8 =>
    some l8
  else
    (pred_void p).bind fun r9 =>
    if r9 = true then
      some ([] : List tPred)
    else
      (pred_copied p).bind fun r11 =>
      some ([r11] : List tPred)
theorem pred_Split_Bok (R72 : T_pred_Split) (hR72 : H_pred_Split R72) {p : tPred} {r : (List tPred)} (h : pred_Split_B R72 p = some r) : CC Pg GE 68 [.agg (c_tPred p)] (sl c_tPred r) [(0, 31)] := by
  obtain ⟨o2, bo2, h⟩ := bnd h
  rcases ifs h with ⟨c3, h⟩ | ⟨c3, h⟩
  · obtain ⟨x4, bx4, h⟩ := bnd h
    obtain ⟨r5, br5, h⟩ := bnd h
    obtain ⟨x6, bx6, h⟩ := bnd h
    obtain ⟨r7, br7, h⟩ := bnd h
    obtain ⟨l8, bl8, h⟩ := bnd h
    obtain rfl := lf h
    have z := se (pc_tPred p) <| spa 1 <| spc (pred_Split_J1_ok R72 hR72 p bo2) <| sg 0 c3 <| sdr [0, 1, 3, 7, 15, 0, 32, 96, 224, 511, 1023, 2047] <| sv (fa_tPred_31_3 p) <| sv (lf_tPred_3_29 p) <| sv (sT29.ia (k := .i64) bx4) <| sv (lk_tPred x4) <| sca (hR72 _ _ br5) <| sv (fa_tPred_31_3 p) <| sv (lf_tPred_3_29 p) <| sv (sT29.ia (k := .i64) bx6) <| sv (lk_tPred x6) <| sca (hR72 _ _ br7) <| sv (sT29.ap bl8) <| en (aI (rP (sl c_tPred l8)) <| (cl_sl cl_tPred l8))
    exact C.evp (A := A68) mixed Tryz.call68 Tryz.func68 (c := b68) rfl (aI (cl_tPred p) trivial) z (by kernel_rfl)
  · obtain ⟨r9, br9, h⟩ := bnd h
    rcases ifs h with ⟨c10, h⟩ | ⟨c10, h⟩
    · obtain rfl := lf h
      have z := se (pc_tPred p) <| spa 1 <| spc (pred_Split_J1_ok R72 hR72 p bo2) <| sg 0 c3 <| sv (lk_tPred p) <| sca (pred_void_ok br9) <| sg 0 c10 <| en (aI (rP (sl c_tPred ([] : List tPred))) <| (cl_sl cl_tPred ([] : List tPred)))
      exact C.evp (A := A68) mixed Tryz.call68 Tryz.func68 (c := b68) rfl (aI (cl_tPred p) trivial) z (by kernel_rfl)
    · obtain ⟨r11, br11, h⟩ := bnd h
      obtain rfl := lf h
      have z := se (pc_tPred p) <| spa 1 <| spc (pred_Split_J1_ok R72 hR72 p bo2) <| sg 0 c3 <| sv (lk_tPred p) <| sca (pred_void_ok br9) <| sg 0 c10 <| sv (lk_tPred p) <| sca (pred_copied_ok br11) <| sv (sT29.mk' (v := v_tPred) pcA_tPred ([r11] : List tPred) 1 (by kernel_rfl)) <| en (aI (rP (sl c_tPred ([r11] : List tPred))) <| (cl_sl cl_tPred ([r11] : List tPred)))
      exact C.evp (A := A68) mixed Tryz.call68 Tryz.func68 (c := b68) rfl (aI (cl_tPred p) trivial) z (by kernel_rfl)
noncomputable def pred_Split_F : ((tPred) → Option ((List tPred))) → (tPred) → Option ((List tPred)) := fun (rec : tPred → Option ((List tPred))) (x : tPred) => pred_Split_B (fun p => rec p) x
noncomputable def pred_Split (p : tPred) : Option ((List tPred)) := fixE (pred_Split_F) p
theorem pred_Split_ok {p : tPred} {r : (List tPred)} (h : pred_Split p = some r) : CC Pg GE 68 [.agg (c_tPred p)] (sl c_tPred r) [(0, 31)] :=
  fixE_ind (F := pred_Split_F) (M := fun (x : tPred) (r : (List tPred)) => CC Pg GE 68 [.agg (c_tPred x)] (sl c_tPred r) [(0, 31)]) (fun rec hrec x r h => pred_Split_Bok _ (fun p r h => hrec p r h) h) h
abbrev T_pred_inner := (tPred → Int → (List tPred) → Option ((List tPred)))
abbrev H_pred_inner (R : T_pred_inner) : Prop := ∀ (p : tPred) (op : Int) (a : (List tPred)) (r : (List tPred)), R p op a = some r → C Pg GE 107 [.agg (c_tPred p), .int .i64 op, sl c_tPred a] [((2, 0), 31)] [] (sl c_tPred r) [(0, 31)] []
noncomputable def b129 : Code := Tryz.f129.body.getD .skip
def A129 : List Nat := []
noncomputable def pred_has_L1_S (v : tPred) (t9 : (List tPred)) (t10 : Int) (t11 : Int) : PSt := stt 20 [(2, .func (.func 101) [] []), (4, .eptr (c_tPred v)), (9, sl c_tPred t9), (10, .int .i64 t10), (11, .int .i64 t11)] [.dead] []
noncomputable def pred_has_L1_e (o : (Unit) ⊕ (Unit)) : Exit := match o with
  | (.inl _) => .ret
  | (.inr _) => .exit 0
noncomputable def pred_has_L1_s (v : tPred) (t9 : (List tPred)) (t10 : Int) (o : (Unit) ⊕ (Unit)) : PSt := match o with
  | (.inl o) => stt 20 [(6, .bool true)] [.dead] []
  | (.inr o) => stt 20 [] [.dead] []
noncomputable def pred_has_L1_b (v : tPred) (t9 : (List tPred)) (t10 : Int) (t11 : Int) : Option ((Int) ⊕ ((Unit) ⊕ (Unit))) :=
  if (decide (t11 < t10)) = true then
    (idx t9 t11).bind fun x2 =>
    (pred_Same v x2).bind fun r3 =>
    if r3 = true then
      some (.inr (.inl ()))
    else
      some (.inl (w64 (t11 + 1)))
  else
    some (.inr (.inr ()))
noncomputable def pred_has_L1 (v : tPred) (t9 : (List tPred)) (t10 : Int) (t11 : Int) : Option ((Unit) ⊕ (Unit)) := loop (fun (zz : Int) => pred_has_L1_b v t9 t10 zz) t11
theorem pred_has_L1_bok (v : tPred) (t9 : (List tPred)) (t10 : Int) (t11 : Int) {y : (Int) ⊕ ((Unit) ⊕ (Unit))} (h : pred_has_L1_b v t9 t10 t11 = some y) :
    Sat Pg GE 0 (cA b129 55) (LQ (fun (zz : Int) => pred_has_L1_S v t9 t10 zz) pred_has_L1_e (pred_has_L1_s v t9 t10) y) (pred_has_L1_S v t9 t10 t11) := by
  rcases ifs h with ⟨c1, h⟩ | ⟨c1, h⟩
  · obtain ⟨x2, bx2, h⟩ := bnd h
    obtain ⟨r3, br3, h⟩ := bnd h
    rcases ifs h with ⟨c4, h⟩ | ⟨c4, h⟩
    · obtain rfl := lf h
      have z := sg 0 c1 <| sv (sT29.ia (k := .i64) bx2) <| sv (lk_tPred x2) <| sx pz31 <| sx (pcx_tPred x2) <| sv (lk_tPred v) <| sv (lkx_tPred x2 []) <| sca (pred_Same_ok br3) <| sg 0 c4 <| eFx 0 (pred_has_L1_e (.inl ())) (pred_has_L1_s v t9 t10 (.inl ())) rfl (cl_tm (aI trivial trivial)) (aI trivial trivial)
      exact overxp (A := A129) mixed (by intro hx; cases hx) z (by kernel_rfl)
    · obtain rfl := lf h
      have z := sg 0 c1 <| sv (sT29.ia (k := .i64) bx2) <| sv (lk_tPred x2) <| sx pz31 <| sx (pcx_tPred x2) <| sv (lk_tPred v) <| sv (lkx_tPred x2 []) <| sca (pred_Same_ok br3) <| sg 0 c4 <| eFx 0 .normal (pred_has_L1_S v t9 t10 (w64 (t11 + 1))) rfl (cl_tm (aI (aI trivial trivial) (aI (clL_up (cl_tPred v)) (aI (up (cl_sl cl_tPred t9)) (aI trivial (aI trivial trivial)))))) (aI trivial trivial)
      exact nextxp (A := A129) mixed z (by kernel_rfl)
  · obtain rfl := lf h
    have z := sg 0 c1 <| eF (pred_has_L1_e (.inr ())) (pred_has_L1_s v t9 t10 (.inr ()))
    exact overp (A := A129) mixed (by intro hx; cases hx) z (by kernel_rfl)
theorem pred_has_L1_ok (v : tPred) (t9 : (List tPred)) (t10 : Int) (t11 : Int) {x : (Unit) ⊕ (Unit)} (h : pred_has_L1 v t9 t10 t11 = some x) :
    Sat Pg GE 0 (.loop (cA b129 55)) (EX (pred_has_L1_e x) (pred_has_L1_s v t9 t10 x)) (pred_has_L1_S v t9 t10 t11) :=
  Sat.loop (S := fun (zz : Int) => pred_has_L1_S v t9 t10 zz) (ex := pred_has_L1_e) (s := t11) h fun zz y hy => pred_has_L1_bok v t9 t10 zz hy
noncomputable def pred_has (a : (List tPred)) (a2 : tPred) : Option (Bool) :=
  (pred_has_L1 a2 a (a.length : Int) 0).bind fun o5 => match o5 with
  | (.inl o5) =>
    some true
  | (.inr o5) =>
    some false
theorem pred_has_ok {a : (List tPred)} {a2 : tPred} {r : Bool} (h : pred_has a a2 = some r) : CC Pg GE 129 [sl c_tPred a, .agg (c_tPred a2), .func (.func 101) [] []] (.bool r) [] := by
  obtain ⟨o5, bo5, h⟩ := bnd h
  rcases o5 with o5 | o5
  · obtain rfl := lf h
    have z := se (pc_tPred a2) <| svn (sT29.ln a) <| spc (e := .ret) (s1 := pred_has_L1_s a2 a (a.length : Int) (.inl o5)) (pred_has_L1_ok a2 a (a.length : Int) 0 bo5) <| en (aI (rP (.bool true)) <| trivial)
    exact C.evp (A := A129) mixed Tryz.call129 Tryz.func129 (c := b129) rfl (aI (cl_sl cl_tPred a) (aI (cl_tPred a2) (aI (aI trivial trivial) trivial))) z (by kernel_rfl)
  · obtain rfl := lf h
    have z := se (pc_tPred a2) <| svn (sT29.ln a) <| spc (e := .exit 0) (s1 := pred_has_L1_s a2 a (a.length : Int) (.inr o5)) (pred_has_L1_ok a2 a (a.length : Int) 0 bo5) <| en (aI (rP (.bool false)) <| trivial)
    exact C.evp (A := A129) mixed Tryz.call129 Tryz.func129 (c := b129) rfl (aI (cl_sl cl_tPred a) (aI (cl_tPred a2) (aI (aI trivial trivial) trivial))) z (by kernel_rfl)
noncomputable def b107 : Code := Tryz.f107.body.getD .skip
def A107 : List Nat := [18, 31, 36]
noncomputable def pred_inner_L1_S (op : Int) (v : (List tPred)) (p : tPred) (t10 : (List tPred)) (t11 : Int) (t12 : Int) : PSt := stt 37 [(1, .int .i64 op), (2, sl c_tPred v), (3, .eptr (c_tPred p)), (10, sl c_tPred t10), (11, .int .i64 t11), (12, .int .i64 t12)] [.dead] [((2, 0), 31)]
noncomputable def pred_inner_L1_s (op : Int) (p : tPred) (t10 : (List tPred)) (t11 : Int) (o : (List tPred)) : PSt := stt 37 [(1, .int .i64 op), (2, sl c_tPred o), (3, .eptr (c_tPred p))] [.dead] [((2, 0), 31)]
noncomputable def pred_inner_L1_b (R76 : T_pred_inner) (op : Int) (t10 : (List tPred)) (t11 : Int) (v : (List tPred)) (t12 : Int) : Option (((List tPred) × Int) ⊕ (((List tPred)))) :=
  if (decide (t12 < t11)) = true then
    (idx t10 t12).bind fun x2 =>
    (R76 x2 op v).bind fun r3 =>
    some (.inl (r3, w64 (t12 + 1)))
  else
    some (.inr v)
noncomputable def pred_inner_L1 (R76 : T_pred_inner) (op : Int) (t10 : (List tPred)) (t11 : Int) (v : (List tPred)) (t12 : Int) : Option (((List tPred))) := loop (fun (zz : (List tPred) × Int) => pred_inner_L1_b R76 op t10 t11 zz.1 zz.2) (v, t12)
theorem pred_inner_L1_bok (R76 : T_pred_inner) (hR76 : H_pred_inner R76) (op : Int) (v : (List tPred)) (p : tPred) (t10 : (List tPred)) (t11 : Int) (t12 : Int) {y : ((List tPred) × Int) ⊕ (((List tPred)))} (h : pred_inner_L1_b R76 op t10 t11 v t12 = some y) :
    Sat Pg GE 1000 (cA b107 55) (LQ (fun (zz : (List tPred) × Int) => pred_inner_L1_S op zz.1 p t10 t11 zz.2) (fun _ => .exit 0) (pred_inner_L1_s op p t10 t11) y) (pred_inner_L1_S op v p t10 t11 t12) := by
  rcases ifs h with ⟨c1, h⟩ | ⟨c1, h⟩
  · obtain ⟨x2, bx2, h⟩ := bnd h
    obtain ⟨r3, br3, h⟩ := bnd h
    obtain rfl := lf h
    have z := sg 0 c1 <| sv (sT29.ia (k := .i64) bx2) <| sv (lk_tPred x2) <| sx pz31 <| sx (pcx_tPred x2) <| sv (lkx_tPred x2 []) <| si (.cg ⟨[], [.agg (c_tPred x2), .int .i64 op, sl c_tPred v], [⟨2, 18, 0, 31⟩], [], [], [], [], sl c_tPred r3, sl c_tPred r3, [(0, 31)]⟩) (hR76 _ _ _ _ br3) <| sf (aI (xR [] (.agg (c_tPred x2)) (cl_tPred x2)) (aI (xR [] (.int .i64 op) trivial) (aI (xR [] (sl c_tPred v) (cl_sl cl_tPred v)) trivial))) <| sf trivial <| sf trivial <| sf (xR [] (sl c_tPred r3) (cl_sl cl_tPred r3)) <| eFx 1000 .normal (pred_inner_L1_S op r3 p t10 t11 (w64 (t12 + 1))) rfl (cl_tm (aI trivial (aI (up (cl_sl cl_tPred r3)) (aI (clL_up (cl_tPred p)) (aI (up (cl_sl cl_tPred t10)) (aI trivial (aI trivial trivial))))))) (aI trivial trivial)
    exact nextxp (A := A107) mixed z (by kernel_rfl)
  · obtain rfl := lf h
    have z := sg 0 c1 <| eF (.exit 0) (pred_inner_L1_s op p t10 t11 v)
    exact overp (A := A107) mixed (by intro hx; cases hx) z (by kernel_rfl)
theorem pred_inner_L1_ok (R76 : T_pred_inner) (hR76 : H_pred_inner R76) (op : Int) (v : (List tPred)) (p : tPred) (t10 : (List tPred)) (t11 : Int) (t12 : Int) {x : ((List tPred))} (h : pred_inner_L1 R76 op t10 t11 v t12 = some x) :
    Sat Pg GE 1000 (.loop (cA b107 55)) (EX (.exit 0) (pred_inner_L1_s op p t10 t11 x)) (pred_inner_L1_S op v p t10 t11 t12) :=
  Sat.loop (S := fun (zz : (List tPred) × Int) => pred_inner_L1_S op zz.1 p t10 t11 zz.2) (ex := (fun _ => .exit 0)) (s := (v, t12)) h fun zz y hy => pred_inner_L1_bok R76 hR76 op zz.1 p t10 t11 zz.2 hy
noncomputable def pred_inner_J2_S (op : Int) (v : (List tPred)) (p : tPred) : PSt := stt 37 [(1, .int .i64 op), (2, sl c_tPred v), (3, .eptr (c_tPred p))] [.dead] [((2, 0), 31)]
noncomputable def pred_inner_J2_s (op : Int) (v : (List tPred)) (p : tPred) (o : Bool) : PSt := stt 37 [(2, sl c_tPred v), (3, .eptr (c_tPred p)), (30, .bool o)] [.dead] [((2, 0), 31)]
noncomputable def pred_inner_J2 (R76 : T_pred_inner) (op : Int) (v : (List tPred)) (p : tPred) : Option ((Bool)) :=
  if (p.Op == op) = true then
    (pred_has v p).bind fun r6 =>
    some (!r6)
  else
    some false
theorem pred_inner_J2_ok (R76 : T_pred_inner) (hR76 : H_pred_inner R76) (op : Int) (v : (List tPred)) (p : tPred) {x : (Bool)} (h : pred_inner_J2 R76 op v p = some x) :
    Sat Pg GE 1000 (cA b107 28) (EX .normal (pred_inner_J2_s op v p x)) (pred_inner_J2_S op v p) := by
  rcases ifs h with ⟨c5, h⟩ | ⟨c5, h⟩
  · obtain ⟨r6, br6, h⟩ := bnd h
    obtain rfl := lf h
    have z := sv (fa_tPred_31_0 p) <| sv (lf_tPred_0_28 p) <| sg 5 c5 <| sv (lk_tPred p) <| sca (pred_has_ok br6) <| eF .normal (pred_inner_J2_s op v p (!r6))
    exact piecep (A := A107) mixed z (by kernel_rfl)
  · obtain rfl := lf h
    have z := sv (fa_tPred_31_0 p) <| sv (lf_tPred_0_28 p) <| sg 5 c5 <| eF .normal (pred_inner_J2_s op v p false)
    exact piecep (A := A107) mixed z (by kernel_rfl)
noncomputable def pred_inner_B (R76 : T_pred_inner) (p : tPred) (op : Int) (a : (List tPred)) : Option ((List tPred)) :=
  (pred_inner_L1 R76 op p.Kids (p.Kids.length : Int) a 0).bind fun o4 =>
  (pred_inner_J2 R76 op o4 p).bind fun o7 =>
  if o7 = true then
    (pred_copied p).bind fun r9 =>
    (app o4 ([r9] : List tPred)).bind fun l10 =>
    some l10
  else
    some o4
theorem pred_inner_Bok (R76 : T_pred_inner) (hR76 : H_pred_inner R76) {p : tPred} {op : Int} {a : (List tPred)} {r : (List tPred)} (h : pred_inner_B R76 p op a = some r) : C Pg GE 107 [.agg (c_tPred p), .int .i64 op, sl c_tPred a] [((2, 0), 31)] [] (sl c_tPred r) [(0, 31)] [] := by
  obtain ⟨o4, bo4, h⟩ := bnd h
  obtain ⟨o7, bo7, h⟩ := bnd h
  rcases ifs h with ⟨c8, h⟩ | ⟨c8, h⟩
  · obtain ⟨r9, br9, h⟩ := bnd h
    obtain ⟨l10, bl10, h⟩ := bnd h
    obtain rfl := lf h
    have z := se (pc_tPred p) <| sv (fa_tPred_31_3 p) <| sv (lf_tPred_3_29 p) <| svn (sT29.ln p.Kids) <| spc (pred_inner_L1_ok R76 hR76 op a p p.Kids (p.Kids.length : Int) 0 bo4) <| spa 1 <| spc (pred_inner_J2_ok R76 hR76 op o4 p bo7) <| sg 0 c8 <| sv (lk_tPred p) <| sca (pred_copied_ok br9) <| sv (sT29.mk' (v := v_tPred) pcA_tPred ([r9] : List tPred) 1 (by kernel_rfl)) <| sv (sT29.ap bl10) <| en (aI (rP (sl c_tPred l10)) <| aI (up (n := 0) (cl_sl cl_tPred l10)) <| aI (rL []) <| trivial)
    exact C.evGp (A := A107) mixed (m := 1000) (c := b107) rfl Tryz.call107 Tryz.func107 rfl z (by kernel_rfl)
  · obtain rfl := lf h
    have z := se (pc_tPred p) <| sv (fa_tPred_31_3 p) <| sv (lf_tPred_3_29 p) <| svn (sT29.ln p.Kids) <| spc (pred_inner_L1_ok R76 hR76 op a p p.Kids (p.Kids.length : Int) 0 bo4) <| spa 1 <| spc (pred_inner_J2_ok R76 hR76 op o4 p bo7) <| sg 0 c8 <| en (aI (rP (sl c_tPred o4)) <| aI (up (n := 0) (cl_sl cl_tPred o4)) <| aI (rL []) <| trivial)
    exact C.evGp (A := A107) mixed (m := 1000) (c := b107) rfl Tryz.call107 Tryz.func107 rfl z (by kernel_rfl)
noncomputable def pred_inner_F : ((tPred × Int × (List tPred)) → Option ((List tPred))) → (tPred × Int × (List tPred)) → Option ((List tPred)) := fun (rec : (tPred × Int × (List tPred)) → Option ((List tPred))) (x : tPred × Int × (List tPred)) => pred_inner_B (fun p op a => rec (p, op, a)) x.1 x.2.1 x.2.2
noncomputable def pred_inner (p : tPred) (op : Int) (a : (List tPred)) : Option ((List tPred)) := fixE (pred_inner_F) (p, op, a)
theorem pred_inner_ok {p : tPred} {op : Int} {a : (List tPred)} {r : (List tPred)} (h : pred_inner p op a = some r) : C Pg GE 107 [.agg (c_tPred p), .int .i64 op, sl c_tPred a] [((2, 0), 31)] [] (sl c_tPred r) [(0, 31)] [] :=
  fixE_ind (F := pred_inner_F) (M := fun (x : tPred × Int × (List tPred)) (r : (List tPred)) => C Pg GE 107 [.agg (c_tPred x.1), .int .i64 x.2.1, sl c_tPred x.2.2] [((2, 0), 31)] [] (sl c_tPred r) [(0, 31)] []) (fun rec hrec x r h => pred_inner_Bok _ (fun p op a r h => hrec (p, op, a) r h) h) h
noncomputable def b70 : Code := Tryz.f70.body.getD .skip
def A70 : List Nat := []
noncomputable def pred_Apps (p : tPred) : Option ((List tPred)) :=
  (pred_inner p 4 ([] : List tPred)).bind fun r1 =>
  some r1
theorem pred_Apps_ok {p : tPred} {r : (List tPred)} (h : pred_Apps p = some r) : CC Pg GE 70 [.agg (c_tPred p)] (sl c_tPred r) [(0, 31)] := by
  obtain ⟨r1, br1, h⟩ := bnd h
  obtain rfl := lf h
  have z := se (pc_tPred p) <| sv (lk_tPred p) <| si (.cg ⟨[], [.agg (c_tPred p), .int .i64 4, sl c_tPred ([] : List tPred)], [⟨2, 1000000, 0, 31⟩], [], [], [], [], sl c_tPred r1, sl c_tPred r1, [(0, 31)]⟩) (pred_inner_ok br1) <| sf (aI (xR [] (.agg (c_tPred p)) (cl_tPred p)) (aI (xR [] (.int .i64 4) trivial) (aI (xR [] (sl c_tPred ([] : List tPred)) (cl_sl cl_tPred ([] : List tPred))) trivial))) <| sf trivial <| sf trivial <| sf (xR [] (sl c_tPred r1) (cl_sl cl_tPred r1)) <| en (aI (rP (sl c_tPred r1)) <| (cl_sl cl_tPred r1))
  exact C.evp (A := A70) mixed Tryz.call70 Tryz.func70 (c := b70) rfl (aI (cl_tPred p) trivial) z (by kernel_rfl)
noncomputable def b71 : Code := Tryz.f71.body.getD .skip
def A71 : List Nat := []
noncomputable def abstract_Drop_1 (a : tPred) (a2 : (List Str)) : Option (Bool) :=
  (slices_Contains a2 a.Name).bind fun r1 =>
  some r1
theorem abstract_Drop_1_ok {a : tPred} {a2 : (List Str)} {r : Bool} (h : abstract_Drop_1 a a2 = some r) : CC Pg GE 71 [.agg (c_tPred a), .eptr ((cL cS) a2)] (.bool r) [] := by
  obtain ⟨r1, br1, h⟩ := bnd h
  obtain rfl := lf h
  have z := se (pc_tPred a) <| sv (plook1 sc22 (sl cS a2) []) <| sv (fa_tPred_31_1 a) <| sv (lf_tPred_1_9 a) <| sca (slices_Contains_ok br1) <| en (aI (rP (.bool r1)) <| trivial)
  exact C.evp (A := A71) mixed Tryz.call71 Tryz.func71 (c := b71) rfl (aI (cl_tPred a) (aI (clLs clS a2) trivial)) z (by kernel_rfl)
noncomputable def b106 : Code := Tryz.f106.body.getD .skip
def A106 : List Nat := [10, 17]
noncomputable def slices_IndexFunc_3_L1_S (s : (List tPred)) (v : (List Str)) (t7 : Int) (t8 : Int) : PSt := stt 19 [(0, sl c_tPred s), (1, .func (.func 71) [] [.eptr ((cL cS) v)]), (7, .int .i64 t7), (8, .int .i64 t8)] [] []
noncomputable def slices_IndexFunc_3_L1_e (o : (Int) ⊕ (Unit)) : Exit := match o with
  | (.inl _) => .ret
  | (.inr _) => .exit 0
noncomputable def slices_IndexFunc_3_L1_s (s : (List tPred)) (v : (List Str)) (t7 : Int) (o : (Int) ⊕ (Unit)) : PSt := match o with
  | (.inl o) => stt 19 [(4, .int .i64 o)] [] []
  | (.inr o) => stt 19 [] [] []
noncomputable def slices_IndexFunc_3_L1_b (s : (List tPred)) (v : (List Str)) (t7 : Int) (t8 : Int) : Option ((Int) ⊕ ((Int) ⊕ (Unit))) :=
  if (decide (t8 < t7)) = true then
    (idx s t8).bind fun x2 =>
    (abstract_Drop_1 x2 v).bind fun r3 =>
    if r3 = true then
      some (.inr (.inl t8))
    else
      some (.inl (w64 (t8 + 1)))
  else
    some (.inr (.inr ()))
noncomputable def slices_IndexFunc_3_L1 (s : (List tPred)) (v : (List Str)) (t7 : Int) (t8 : Int) : Option ((Int) ⊕ (Unit)) := loop (fun (zz : Int) => slices_IndexFunc_3_L1_b s v t7 zz) t8
theorem slices_IndexFunc_3_L1_bok (s : (List tPred)) (v : (List Str)) (t7 : Int) (t8 : Int) {y : (Int) ⊕ ((Int) ⊕ (Unit))} (h : slices_IndexFunc_3_L1_b s v t7 t8 = some y) :
    Sat Pg GE 0 (cA b106 55) (LQ (fun (zz : Int) => slices_IndexFunc_3_L1_S s v t7 zz) slices_IndexFunc_3_L1_e (slices_IndexFunc_3_L1_s s v t7) y) (slices_IndexFunc_3_L1_S s v t7 t8) := by
  rcases ifs h with ⟨c1, h⟩ | ⟨c1, h⟩
  · obtain ⟨x2, bx2, h⟩ := bnd h
    obtain ⟨r3, br3, h⟩ := bnd h
    rcases ifs h with ⟨c4, h⟩ | ⟨c4, h⟩
    · obtain rfl := lf h
      have z := sg 0 c1 <| sv (sT29.ia (k := .i64) bx2) <| sv (lk_tPred x2) <| sca (abstract_Drop_1_ok br3) <| sg 0 c4 <| eF (slices_IndexFunc_3_L1_e (.inl t8)) (slices_IndexFunc_3_L1_s s v t7 (.inl t8))
      exact overp (A := A106) mixed (by intro hx; cases hx) z (by kernel_rfl)
    · obtain rfl := lf h
      have z := sg 0 c1 <| sv (sT29.ia (k := .i64) bx2) <| sv (lk_tPred x2) <| sca (abstract_Drop_1_ok br3) <| sg 0 c4 <| eF .normal (slices_IndexFunc_3_L1_S s v t7 (w64 (t8 + 1)))
      exact nextp (A := A106) mixed z (by kernel_rfl)
  · obtain rfl := lf h
    have z := sg 0 c1 <| eF (slices_IndexFunc_3_L1_e (.inr ())) (slices_IndexFunc_3_L1_s s v t7 (.inr ()))
    exact overp (A := A106) mixed (by intro hx; cases hx) z (by kernel_rfl)
theorem slices_IndexFunc_3_L1_ok (s : (List tPred)) (v : (List Str)) (t7 : Int) (t8 : Int) {x : (Int) ⊕ (Unit)} (h : slices_IndexFunc_3_L1 s v t7 t8 = some x) :
    Sat Pg GE 0 (.loop (cA b106 55)) (EX (slices_IndexFunc_3_L1_e x) (slices_IndexFunc_3_L1_s s v t7 x)) (slices_IndexFunc_3_L1_S s v t7 t8) :=
  Sat.loop (S := fun (zz : Int) => slices_IndexFunc_3_L1_S s v t7 zz) (ex := slices_IndexFunc_3_L1_e) (s := t8) h fun zz y hy => slices_IndexFunc_3_L1_bok s v t7 zz hy
noncomputable def slices_IndexFunc_3 (s : (List tPred)) (c : (List Str)) : Option (Int) :=
  (slices_IndexFunc_3_L1 s c (s.length : Int) 0).bind fun o5 => match o5 with
  | (.inl o5) =>
    some o5
  | (.inr o5) =>
    some (-1)
theorem slices_IndexFunc_3_ok {s : (List tPred)} {c : (List Str)} {r : Int} (h : slices_IndexFunc_3 s c = some r) : CC Pg GE 106 [sl c_tPred s, .func (.func 71) [] [.eptr ((cL cS) c)]] (.int .i64 r) [] := by
  obtain ⟨o5, bo5, h⟩ := bnd h
  rcases o5 with o5 | o5
  · obtain rfl := lf h
    have z := svn (sT29.ln s) <| spc (e := .ret) (s1 := slices_IndexFunc_3_L1_s s c (s.length : Int) (.inl o5)) (slices_IndexFunc_3_L1_ok s c (s.length : Int) 0 bo5) <| en (aI (rP (.int .i64 o5)) <| trivial)
    exact C.evp (A := A106) mixed Tryz.call106 Tryz.func106 (c := b106) rfl (aI (cl_sl cl_tPred s) (aI (aI trivial (aI (clLs clS c) trivial)) trivial)) z (by kernel_rfl)
  · obtain rfl := lf h
    have z := svn (sT29.ln s) <| spc (e := .exit 0) (s1 := slices_IndexFunc_3_L1_s s c (s.length : Int) (.inr o5)) (slices_IndexFunc_3_L1_ok s c (s.length : Int) 0 bo5) <| en (aI (rP (.int .i64 (-1))) <| trivial)
    exact C.evp (A := A106) mixed Tryz.call106 Tryz.func106 (c := b106) rfl (aI (cl_sl cl_tPred s) (aI (aI trivial (aI (clLs clS c) trivial)) trivial)) z (by kernel_rfl)
noncomputable def b69 : Code := Tryz.f69.body.getD .skip
def A69 : List Nat := []
noncomputable def slices_ContainsFunc (s : (List tPred)) (c : (List Str)) : Option (Bool) :=
  (slices_IndexFunc_3 s c).bind fun r1 =>
  some (decide (r1 ≥ 0))
theorem slices_ContainsFunc_ok {s : (List tPred)} {c : (List Str)} {r : Bool} (h : slices_ContainsFunc s c = some r) : CC Pg GE 69 [sl c_tPred s, .func (.func 71) [] [.eptr ((cL cS) c)]] (.bool r) [] := by
  obtain ⟨r1, br1, h⟩ := bnd h
  obtain rfl := lf h
  have z := sca (slices_IndexFunc_3_ok br1) <| en (aI (rP (.bool (decide (r1 ≥ 0)))) <| trivial)
  exact C.evp (A := A69) mixed Tryz.call69 Tryz.func69 (c := b69) rfl (aI (cl_sl cl_tPred s) (aI (aI trivial (aI (clLs clS c) trivial)) trivial)) z (by kernel_rfl)
noncomputable def b73 : Code := Tryz.f73.body.getD .skip
def A73 : List Nat := [25]
noncomputable def pred_And_L1_S (v : Bool) (t8 : (List tPred)) (t9 : Int) (t10 : Int) (m : Int) (m2 : Str) (m3 : Int) (m4 : (List tPred)) (m5 : Int) (m6 : Str) (m7 : Int) (m8 : (List tPred)) : PSt := stt 33 [(2, .bptr 0 0), (3, .bptr 1 0), (4, .bool v), (8, sl c_tPred t8), (9, .int .i64 t9), (10, .int .i64 t10)] [.cells [.int .i64 m, .str m2, .int .i64 m3, sl c_tPred m4] [(3, 31)], .cells [.int .i64 m5, .str m6, .int .i64 m7, sl c_tPred m8] []] []
noncomputable def pred_And_L1_e (o : (Int × Str × Int × (List tPred) × Int × Str × Int × (List tPred)) ⊕ (Int × Str × Int × (List tPred) × Int × Str × Int × (List tPred))) : Exit := match o with
  | (.inl _) => .ret
  | (.inr _) => .exit 0
noncomputable def pred_And_L1_s (t8 : (List tPred)) (t9 : Int) (o : (Int × Str × Int × (List tPred) × Int × Str × Int × (List tPred)) ⊕ (Int × Str × Int × (List tPred) × Int × Str × Int × (List tPred))) : PSt := match o with
  | (.inl o) => stt 33 [(2, .bptr 0 0)] [.cells [.int .i64 o.1, .str o.2.1, .int .i64 o.2.2.1, sl c_tPred o.2.2.2.1] [(3, 31)], .cells [.int .i64 o.2.2.2.2.1, .str o.2.2.2.2.2.1, .int .i64 o.2.2.2.2.2.2.1, sl c_tPred o.2.2.2.2.2.2.2] []] []
  | (.inr o) => stt 33 [(2, .bptr 0 0), (3, .bptr 1 0)] [.cells [.int .i64 o.1, .str o.2.1, .int .i64 o.2.2.1, sl c_tPred o.2.2.2.1] [(3, 31)], .cells [.int .i64 o.2.2.2.2.1, .str o.2.2.2.2.2.1, .int .i64 o.2.2.2.2.2.2.1, sl c_tPred o.2.2.2.2.2.2.2] []] []
noncomputable def pred_And_L1_b (t8 : (List tPred)) (t9 : Int) (v : Bool) (t10 : Int) (m : Int) (m2 : Str) (m3 : Int) (m4 : (List tPred)) (m5 : Int) (m6 : Str) (m7 : Int) (m8 : (List tPred)) : Option ((Bool × Int × Int × Str × Int × (List tPred) × Int × Str × Int × (List tPred)) ⊕ ((Int × Str × Int × (List tPred) × Int × Str × Int × (List tPred)) ⊕ (Int × Str × Int × (List tPred) × Int × Str × Int × (List tPred)))) :=
  if (decide (t10 < t9)) = true then
    (idx t8 t10).bind fun x3 =>
    (pred_void x3).bind fun r4 =>
    if r4 = true then
      some (.inl (v, w64 (t10 + 1), m, m2, m3, m4, m5, m6, m7, m8))
    else
      (pred_constant false).bind fun r6 =>
      (pred_Same x3 r6).bind fun r7 =>
      if r7 = true then
        (pred_constant false).bind fun r9 =>
        some (.inr (.inl (r9.Op, r9.Name, r9.N, r9.Kids, m5, m6, m7, m8)))
      else
        if v = true then
          (pred_copied x3).bind fun r11 =>
          some (.inl (v, w64 (t10 + 1), m, m2, m3, m4, 15, ([] : Str), 0, ([(⟨m5, m6, m7, m8⟩ : tPred), r11] : List tPred)))
        else
          (pred_copied x3).bind fun r12 =>
          some (.inl (true, w64 (t10 + 1), m, m2, m3, m4, r12.Op, r12.Name, r12.N, r12.Kids))
  else
    some (.inr (.inr (m, m2, m3, m4, m5, m6, m7, m8)))
noncomputable def pred_And_L1 (t8 : (List tPred)) (t9 : Int) (v : Bool) (t10 : Int) (m : Int) (m2 : Str) (m3 : Int) (m4 : (List tPred)) (m5 : Int) (m6 : Str) (m7 : Int) (m8 : (List tPred)) : Option ((Int × Str × Int × (List tPred) × Int × Str × Int × (List tPred)) ⊕ (Int × Str × Int × (List tPred) × Int × Str × Int × (List tPred))) := loop (fun (zz : Bool × Int × Int × Str × Int × (List tPred) × Int × Str × Int × (List tPred)) => pred_And_L1_b t8 t9 zz.1 zz.2.1 zz.2.2.1 zz.2.2.2.1 zz.2.2.2.2.1 zz.2.2.2.2.2.1 zz.2.2.2.2.2.2.1 zz.2.2.2.2.2.2.2.1 zz.2.2.2.2.2.2.2.2.1 zz.2.2.2.2.2.2.2.2.2) (v, t10, m, m2, m3, m4, m5, m6, m7, m8)
theorem pred_And_L1_bok (v : Bool) (t8 : (List tPred)) (t9 : Int) (t10 : Int) (m : Int) (m2 : Str) (m3 : Int) (m4 : (List tPred)) (m5 : Int) (m6 : Str) (m7 : Int) (m8 : (List tPred)) {y : (Bool × Int × Int × Str × Int × (List tPred) × Int × Str × Int × (List tPred)) ⊕ ((Int × Str × Int × (List tPred) × Int × Str × Int × (List tPred)) ⊕ (Int × Str × Int × (List tPred) × Int × Str × Int × (List tPred)))} (h : pred_And_L1_b t8 t9 v t10 m m2 m3 m4 m5 m6 m7 m8 = some y) :
    Sat Pg GE 0 (cA b73 119) (LQ (fun (zz : Bool × Int × Int × Str × Int × (List tPred) × Int × Str × Int × (List tPred)) => pred_And_L1_S zz.1 t8 t9 zz.2.1 zz.2.2.1 zz.2.2.2.1 zz.2.2.2.2.1 zz.2.2.2.2.2.1 zz.2.2.2.2.2.2.1 zz.2.2.2.2.2.2.2.1 zz.2.2.2.2.2.2.2.2.1 zz.2.2.2.2.2.2.2.2.2) pred_And_L1_e (pred_And_L1_s t8 t9) y) (pred_And_L1_S v t8 t9 t10 m m2 m3 m4 m5 m6 m7 m8) := by
  rcases ifs h with ⟨c2, h⟩ | ⟨c2, h⟩
  · obtain ⟨x3, bx3, h⟩ := bnd h
    obtain ⟨r4, br4, h⟩ := bnd h
    rcases ifs h with ⟨c5, h⟩ | ⟨c5, h⟩
    · obtain rfl := lf h
      have z := sg 0 c2 <| sv (sT29.ia (k := .i64) bx3) <| sv (lk_tPred x3) <| sx pz31 <| sx (pcx_tPred x3) <| sv (lkx_tPred x3 []) <| sca (pred_void_ok br4) <| sg 0 c5 <| eFx 0 .normal (pred_And_L1_S v t8 t9 (w64 (t10 + 1)) m m2 m3 m4 m5 m6 m7 m8) rfl (cl_tm (aI (lt_of rfl) (aI (lt_of rfl) (aI trivial (aI (up (cl_sl cl_tPred t8)) (aI trivial (aI trivial trivial))))))) (aI (aI trivial (aI trivial (aI trivial (aI (up (cl_sl cl_tPred m4)) trivial)))) (aI (aI trivial (aI trivial (aI trivial (aI (up (cl_sl cl_tPred m8)) trivial)))) trivial))
      exact nextxp (A := A73) mixed z (by kernel_rfl)
    · obtain ⟨r6, br6, h⟩ := bnd h
      obtain ⟨r7, br7, h⟩ := bnd h
      rcases ifs h with ⟨c8, h⟩ | ⟨c8, h⟩
      · obtain ⟨r9, br9, h⟩ := bnd h
        obtain rfl := lf h
        have z := sg 0 c2 <| sv (sT29.ia (k := .i64) bx3) <| sv (lk_tPred x3) <| sx pz31 <| sx (pcx_tPred x3) <| sv (lkx_tPred x3 []) <| sca (pred_void_ok br4) <| sg 0 c5 <| sdr [0, 0, 3, 7] <| sv (lkx_tPred x3 []) <| sca (pred_constant_ok br6) <| sca (pred_Same_ok br7) <| sg 0 c8 <| sca (pred_constant_ok br9) <| sy (ex_tPred r9) <| eFx 0 (pred_And_L1_e (.inl (r9.Op, r9.Name, r9.N, r9.Kids, m5, m6, m7, m8))) (pred_And_L1_s t8 t9 (.inl (r9.Op, r9.Name, r9.N, r9.Kids, m5, m6, m7, m8))) rfl (cl_tm (aI (lt_of rfl) trivial)) (aI (aI trivial (aI trivial (aI trivial (aI (up (cl_sl cl_tPred r9.Kids)) trivial)))) (aI (aI trivial (aI trivial (aI trivial (aI (up (cl_sl cl_tPred m8)) trivial)))) trivial))
        exact overxp (A := A73) mixed (by intro hx; cases hx) z (by kernel_rfl)
      · rcases ifs h with ⟨c10, h⟩ | ⟨c10, h⟩
        · obtain ⟨r11, br11, h⟩ := bnd h
          obtain rfl := lf h
          have z := sg 0 c2 <| sv (sT29.ia (k := .i64) bx3) <| sv (lk_tPred x3) <| sx pz31 <| sx (pcx_tPred x3) <| sv (lkx_tPred x3 []) <| sca (pred_void_ok br4) <| sg 0 c5 <| sdr [0, 0, 3, 7] <| sv (lkx_tPred x3 []) <| sca (pred_constant_ok br6) <| sca (pred_Same_ok br7) <| sg 0 c8 <| sg 0 c10 <| sdr [0, 0, 2, 7, 15, 31] <| sv (lkx_tPred (⟨m5, m6, m7, m8⟩ : tPred) []) <| sv (lkx_tPred x3 []) <| sca (pred_copied_ok br11) <| sv (sT29.mk' (v := v_tPred) pcA_tPred ([(⟨m5, m6, m7, m8⟩ : tPred), r11] : List tPred) 2 (by kernel_rfl)) <| sv (bu_tPred_0_3 15 ([(⟨m5, m6, m7, m8⟩ : tPred), r11] : List tPred)) <| sx (pcx_tPred (⟨15, ([] : Str), 0, ([(⟨m5, m6, m7, m8⟩ : tPred), r11] : List tPred)⟩ : tPred)) <| eFx 0 .normal (pred_And_L1_S v t8 t9 (w64 (t10 + 1)) m m2 m3 m4 15 ([] : Str) 0 ([(⟨m5, m6, m7, m8⟩ : tPred), r11] : List tPred)) rfl (cl_tm (aI (lt_of rfl) (aI (lt_of rfl) (aI trivial (aI (up (cl_sl cl_tPred t8)) (aI trivial (aI trivial trivial))))))) (aI (aI trivial (aI trivial (aI trivial (aI (up (cl_sl cl_tPred m4)) trivial)))) (aI (aI trivial (aI trivial (aI trivial (aI (up (cl_sl cl_tPred ([(⟨m5, m6, m7, m8⟩ : tPred), r11] : List tPred))) trivial)))) trivial))
          exact nextxp (A := A73) mixed z (by kernel_rfl)
        · obtain ⟨r12, br12, h⟩ := bnd h
          obtain rfl := lf h
          have z := sg 0 c2 <| sv (sT29.ia (k := .i64) bx3) <| sv (lk_tPred x3) <| sx pz31 <| sx (pcx_tPred x3) <| sv (lkx_tPred x3 []) <| sca (pred_void_ok br4) <| sg 0 c5 <| sdr [0, 0, 3, 7] <| sv (lkx_tPred x3 []) <| sca (pred_constant_ok br6) <| sca (pred_Same_ok br7) <| sg 0 c8 <| sg 0 c10 <| sv (lkx_tPred x3 []) <| sca (pred_copied_ok br12) <| sy (ex_tPred r12) <| eFx 0 .normal (pred_And_L1_S true t8 t9 (w64 (t10 + 1)) m m2 m3 m4 r12.Op r12.Name r12.N r12.Kids) rfl (cl_tm (aI (lt_of rfl) (aI (lt_of rfl) (aI trivial (aI (up (cl_sl cl_tPred t8)) (aI trivial (aI trivial trivial))))))) (aI (aI trivial (aI trivial (aI trivial (aI (up (cl_sl cl_tPred m4)) trivial)))) (aI (aI trivial (aI trivial (aI trivial (aI (up (cl_sl cl_tPred r12.Kids)) trivial)))) trivial))
          exact nextxp (A := A73) mixed z (by kernel_rfl)
  · obtain rfl := lf h
    have z := sg 0 c2 <| eF (pred_And_L1_e (.inr (m, m2, m3, m4, m5, m6, m7, m8))) (pred_And_L1_s t8 t9 (.inr (m, m2, m3, m4, m5, m6, m7, m8)))
    exact overp (A := A73) mixed (by intro hx; cases hx) z (by kernel_rfl)
theorem pred_And_L1_ok (v : Bool) (t8 : (List tPred)) (t9 : Int) (t10 : Int) (m : Int) (m2 : Str) (m3 : Int) (m4 : (List tPred)) (m5 : Int) (m6 : Str) (m7 : Int) (m8 : (List tPred)) {x : (Int × Str × Int × (List tPred) × Int × Str × Int × (List tPred)) ⊕ (Int × Str × Int × (List tPred) × Int × Str × Int × (List tPred))} (h : pred_And_L1 t8 t9 v t10 m m2 m3 m4 m5 m6 m7 m8 = some x) :
    Sat Pg GE 0 (.loop (cA b73 119)) (EX (pred_And_L1_e x) (pred_And_L1_s t8 t9 x)) (pred_And_L1_S v t8 t9 t10 m m2 m3 m4 m5 m6 m7 m8) :=
  Sat.loop (S := fun (zz : Bool × Int × Int × Str × Int × (List tPred) × Int × Str × Int × (List tPred)) => pred_And_L1_S zz.1 t8 t9 zz.2.1 zz.2.2.1 zz.2.2.2.1 zz.2.2.2.2.1 zz.2.2.2.2.2.1 zz.2.2.2.2.2.2.1 zz.2.2.2.2.2.2.2.1 zz.2.2.2.2.2.2.2.2.1 zz.2.2.2.2.2.2.2.2.2) (ex := pred_And_L1_e) (s := (v, t10, m, m2, m3, m4, m5, m6, m7, m8)) h fun zz y hy => pred_And_L1_bok zz.1 t8 t9 zz.2.1 zz.2.2.1 zz.2.2.2.1 zz.2.2.2.2.1 zz.2.2.2.2.2.1 zz.2.2.2.2.2.2.1 zz.2.2.2.2.2.2.2.1 zz.2.2.2.2.2.2.2.2.1 zz.2.2.2.2.2.2.2.2.2 hy
noncomputable def pred_And (a : (List tPred)) : Option (tPred) :=
  (pred_constant true).bind fun r1 =>
  (pred_And_L1 a (a.length : Int) false 0 0 ([] : Str) 0 ([] : List tPred) r1.Op r1.Name r1.N r1.Kids).bind fun o13 => match o13 with
  | (.inl o13) =>
    some (⟨o13.1, o13.2.1, o13.2.2.1, o13.2.2.2.1⟩ : tPred)
  | (.inr o13) =>
    some (⟨o13.2.2.2.2.1, o13.2.2.2.2.2.1, o13.2.2.2.2.2.2.1, o13.2.2.2.2.2.2.2⟩ : tPred)
theorem pred_And_ok {a : (List tPred)} {r : tPred} (h : pred_And a = some r) : CC Pg GE 73 [sl c_tPred a] (.agg (c_tPred r)) [] := by
  obtain ⟨r1, br1, h⟩ := bnd h
  obtain ⟨o13, bo13, h⟩ := bnd h
  rcases o13 with o13 | o13
  · obtain rfl := lf h
    have z := sx pz31 <| sca (pred_constant_ok br1) <| sx pz31 <| sy (ex_tPred r1) <| svn (sT29.ln a) <| spc (e := .ret) (s1 := pred_And_L1_s a (a.length : Int) (.inl o13)) (pred_And_L1_ok false a (a.length : Int) 0 0 ([] : Str) 0 ([] : List tPred) r1.Op r1.Name r1.N r1.Kids bo13) <| en (aI (rex_tPred (⟨o13.1, o13.2.1, o13.2.2.1, o13.2.2.2.1⟩ : tPred)) <| (cl_tPred (⟨o13.1, o13.2.1, o13.2.2.1, o13.2.2.2.1⟩ : tPred)))
    exact C.evp (A := A73) mixed Tryz.call73 Tryz.func73 (c := b73) rfl (aI (cl_sl cl_tPred a) trivial) z (by kernel_rfl)
  · obtain rfl := lf h
    have z := sx pz31 <| sca (pred_constant_ok br1) <| sx pz31 <| sy (ex_tPred r1) <| svn (sT29.ln a) <| spc (e := .exit 0) (s1 := pred_And_L1_s a (a.length : Int) (.inr o13)) (pred_And_L1_ok false a (a.length : Int) 0 0 ([] : Str) 0 ([] : List tPred) r1.Op r1.Name r1.N r1.Kids bo13) <| sv (lkx_tPred (⟨o13.2.2.2.2.1, o13.2.2.2.2.2.1, o13.2.2.2.2.2.2.1, o13.2.2.2.2.2.2.2⟩ : tPred) []) <| sx (pcx_tPred (⟨o13.2.2.2.2.1, o13.2.2.2.2.2.1, o13.2.2.2.2.2.2.1, o13.2.2.2.2.2.2.2⟩ : tPred)) <| en (aI (rex_tPred (⟨o13.2.2.2.2.1, o13.2.2.2.2.2.1, o13.2.2.2.2.2.2.1, o13.2.2.2.2.2.2.2⟩ : tPred)) <| (cl_tPred (⟨o13.2.2.2.2.1, o13.2.2.2.2.2.1, o13.2.2.2.2.2.2.1, o13.2.2.2.2.2.2.2⟩ : tPred)))
    exact C.evp (A := A73) mixed Tryz.call73 Tryz.func73 (c := b73) rfl (aI (cl_sl cl_tPred a) trivial) z (by kernel_rfl)
end Go.Proofs.YtgldgpdhblndkaaGreatDoor
