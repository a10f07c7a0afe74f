/-
  WHAT IS PROVED: parts of the proof, put together by a program out of smaller texts (G2). Conditions: none.
-/
import Derived.Test.YtgldgpdhblndkaaGreatDoorPkB33
namespace Go.Proofs.YtgldgpdhblndkaaGreatDoor
open Go
set_option linter.unusedVariables false
set_option maxRecDepth 100000
noncomputable def b105 : Code := Tryz.f105.body.getD .skip
def A105 : List Nat := [21]
noncomputable def pred_copied_L1_S (t14 : (List tPred)) (t15 : Int) (t16 : Int) (m : (List tPred)) (m2 : Int) (m3 : Str) (m4 : Int) (m5 : (List tPred)) : PSt := stt 29 [(2, .bptr 1 0), (3, .bptr 2 0), (14, sl c_tPred t14), (15, .int .i64 t15), (16, .int .i64 t16)] [.dead, .cells [.int .i64 0, .str ([] : Str), .int .i64 0, sl c_tPred m] [(3, 31)], .cells [.int .i64 m2, .str m3, .int .i64 m4, sl c_tPred m5] [(3, 31)]] []
noncomputable def pred_copied_L1_s (t14 : (List tPred)) (t15 : Int) (m : (List tPred)) (m2 : Int) (m3 : Str) (m4 : Int) (o : (List tPred)) : PSt := stt 29 [(2, .bptr 1 0), (3, .bptr 2 0)] [.dead, .cells [.int .i64 0, .str ([] : Str), .int .i64 0, sl c_tPred m] [(3, 31)], .cells [.int .i64 m2, .str m3, .int .i64 m4, sl c_tPred o] [(3, 31)]] []
noncomputable def pred_copied_L1_b (R27 : T_pred_copied) (t14 : (List tPred)) (t15 : Int) (t16 : Int) (m5 : (List tPred)) : Option ((Int × (List tPred)) ⊕ (((List tPred)))) :=
  if (decide (t16 < t15)) = true then
    (idx t14 t16).bind fun x2 =>
    (R27 x2).bind fun r3 =>
    (app m5 ([r3] : List tPred)).bind fun l4 =>
    some (.inl (w64 (t16 + 1), l4))
  else
    some (.inr m5)
noncomputable def pred_copied_L1 (R27 : T_pred_copied) (t14 : (List tPred)) (t15 : Int) (t16 : Int) (m5 : (List tPred)) : Option (((List tPred))) := loop (fun (zz : Int × (List tPred)) => pred_copied_L1_b R27 t14 t15 zz.1 zz.2) (t16, m5)
theorem pred_copied_L1_bok (R27 : T_pred_copied) (hR27 : H_pred_copied R27) (t14 : (List tPred)) (t15 : Int) (t16 : Int) (m : (List tPred)) (m2 : Int) (m3 : Str) (m4 : Int) (m5 : (List tPred)) {y : (Int × (List tPred)) ⊕ (((List tPred)))} (h : pred_copied_L1_b R27 t14 t15 t16 m5 = some y) :
    Sat Pg GE 0 (cA b105 119) (LQ (fun (zz : Int × (List tPred)) => pred_copied_L1_S t14 t15 zz.1 m m2 m3 m4 zz.2) (fun _ => .exit 0) (pred_copied_L1_s t14 t15 m m2 m3 m4) y) (pred_copied_L1_S t14 t15 t16 m m2 m3 m4 m5) := by
  rcases ifs h with ⟨c1, h⟩ | ⟨c1, h⟩
  · obtain ⟨x2, bx2, h⟩ := bnd h
    obtain ⟨r3, br3, h⟩ := bnd h
    obtain ⟨l4, bl4, h⟩ := bnd h
    obtain rfl := lf h
    have z := sg 0 c1 <| sv (sT29.ia (k := .i64) bx2) <| sv (lk_tPred x2) <| sx pz31 <| sx (pcx_tPred x2) <| sdr [0, 1, 0, 4, 12, 31, 63, 127] <| sv (lkx_tPred x2 []) <| sca (hR27 _ _ br3) <| sv (sT29.mk' (v := v_tPred) pcA_tPred ([r3] : List tPred) 1 (by kernel_rfl)) <| sv (sT29.ap bl4) <| ssf (rfl : pcells (sl c_tPred l4) = some [sl c_tPred l4]) <| eFx 0 .normal (pred_copied_L1_S t14 t15 (w64 (t16 + 1)) m m2 m3 m4 l4) rfl (cl_tm (aI (lt_of rfl) (aI (lt_of rfl) (aI (up (cl_sl cl_tPred t14)) (aI trivial (aI trivial trivial)))))) (aI trivial (aI (aI trivial (aI trivial (aI trivial (aI (up (cl_sl cl_tPred m)) trivial)))) (aI (aI trivial (aI trivial (aI trivial (aI (up (cl_sl cl_tPred l4)) trivial)))) trivial)))
    exact nextxp (A := A105) mixed z (by kernel_rfl)
  · obtain rfl := lf h
    have z := sg 0 c1 <| eF (.exit 0) (pred_copied_L1_s t14 t15 m m2 m3 m4 m5)
    exact overp (A := A105) mixed (by intro hx; cases hx) z (by kernel_rfl)
theorem pred_copied_L1_ok (R27 : T_pred_copied) (hR27 : H_pred_copied R27) (t14 : (List tPred)) (t15 : Int) (t16 : Int) (m : (List tPred)) (m2 : Int) (m3 : Str) (m4 : Int) (m5 : (List tPred)) {x : ((List tPred))} (h : pred_copied_L1 R27 t14 t15 t16 m5 = some x) :
    Sat Pg GE 0 (.loop (cA b105 119)) (EX (.exit 0) (pred_copied_L1_s t14 t15 m m2 m3 m4 x)) (pred_copied_L1_S t14 t15 t16 m m2 m3 m4 m5) :=
  Sat.loop (S := fun (zz : Int × (List tPred)) => pred_copied_L1_S t14 t15 zz.1 m m2 m3 m4 zz.2) (ex := (fun _ => .exit 0)) (s := (t16, m5)) h fun zz y hy => pred_copied_L1_bok R27 hR27 t14 t15 zz.1 m m2 m3 m4 zz.2 hy
noncomputable def pred_copied_B (R27 : T_pred_copied) (p : tPred) : Option (tPred) :=
  (pred_copied_L1 R27 p.Kids (p.Kids.length : Int) 0 ([] : List tPred)).bind fun o5 =>
  some (⟨p.Op, p.Name, p.N, o5⟩ : tPred)
theorem pred_copied_Bok (R27 : T_pred_copied) (hR27 : H_pred_copied R27) {p : tPred} {r : tPred} (h : pred_copied_B R27 p = some r) : CC Pg GE 105 [.agg (c_tPred p)] (.agg (c_tPred r)) [(3, 31)] := by
  obtain ⟨o5, bo5, h⟩ := bnd h
  obtain rfl := lf h
  have z := se (pc_tPred p) <| sx pz31 <| sv (fa_tPred_31_0 p) <| sv (lf_tPred_0_28 p) <| sv (fa_tPred_31_1 p) <| sv (lf_tPred_1_9 p) <| sv (fa_tPred_31_2 p) <| sv (lf_tPred_2_3 p) <| sb (bu_tPred_0_1_2 p.Op p.Name p.N) (bn_tPred_0_1_2 p.Op p.Name p.N) <| sx pz31 <| sy (ex_tPred (⟨p.Op, p.Name, p.N, ([] : List tPred)⟩ : tPred)) <| sv (fa_tPred_31_3 p) <| sv (lf_tPred_3_29 p) <| svn (sT29.ln p.Kids) <| spc (pred_copied_L1_ok R27 hR27 p.Kids (p.Kids.length : Int) 0 ([] : List tPred) p.Op p.Name p.N ([] : List tPred) bo5) <| sz (lkx_tPred (⟨p.Op, p.Name, p.N, o5⟩ : tPred) []) <| sy (ex_tPred (⟨p.Op, p.Name, p.N, o5⟩ : tPred)) <| en (aI (rex_tPred (⟨p.Op, p.Name, p.N, o5⟩ : tPred)) <| aI (cl_tPred (⟨p.Op, p.Name, p.N, o5⟩ : tPred)) <| rT)
  exact C.evp (A := A105) mixed Tryz.call105 Tryz.func105 (c := b105) rfl (aI (cl_tPred p) trivial) z (by kernel_rfl)
noncomputable def pred_copied_F : ((tPred) → Option (tPred)) → (tPred) → Option (tPred) := fun (rec : tPred → Option (tPred)) (x : tPred) => pred_copied_B (fun p => rec p) x
noncomputable def pred_copied (p : tPred) : Option (tPred) := fixE (pred_copied_F) p
theorem pred_copied_ok {p : tPred} {r : tPred} (h : pred_copied p = some r) : CC Pg GE 105 [.agg (c_tPred p)] (.agg (c_tPred r)) [(3, 31)] :=
  fixE_ind (F := pred_copied_F) (M := fun (x : tPred) (r : tPred) => CC Pg GE 105 [.agg (c_tPred x)] (.agg (c_tPred r)) [(3, 31)]) (fun rec hrec x r h => pred_copied_Bok _ (fun p r h => hrec p r h) h) h
noncomputable def b128 : Code := Tryz.f128.body.getD .skip
def A128 : List Nat := [46]
noncomputable def pred_SubstAll_J1_S (v : (List Str)) (v2 : (List tPred)) (p : tPred) (m : (List tPred)) : PSt := stt 56 [(1, sl cS v), (2, sl c_tPred v2), (3, .eptr (c_tPred p)), (6, .bptr 1 0)] [.dead, .cells [.int .i64 0, .str ([] : Str), .int .i64 0, sl c_tPred m] [(3, 31)]] []
noncomputable def pred_SubstAll_J1_e (o : (Int × Str × Int × (List tPred)) ⊕ (Unit)) : Exit := match o with
  | (.inl _) => .ret
  | (.inr _) => .normal
noncomputable def pred_SubstAll_J1_s (v : (List Str)) (v2 : (List tPred)) (p : tPred) (m : (List tPred)) (o : (Int × Str × Int × (List tPred)) ⊕ (Unit)) : PSt := match o with
  | (.inl o) => stt 56 [(6, .bptr 1 0)] [.dead, .cells [.int .i64 o.1, .str o.2.1, .int .i64 o.2.2.1, sl c_tPred o.2.2.2] [(3, 31)]] []
  | (.inr o) => stt 56 [(1, sl cS v), (2, sl c_tPred v2), (3, .eptr (c_tPred p)), (6, .bptr 1 0)] [.dead, .cells [.int .i64 0, .str ([] : Str), .int .i64 0, sl c_tPred m] [(3, 31)]] []
noncomputable def pred_SubstAll_J2_S (v : (List Str)) (v2 : (List tPred)) (p : tPred) (i : Int) (m : (List tPred)) : PSt := stt 56 [(1, sl cS v), (2, sl c_tPred v2), (3, .eptr (c_tPred p)), (6, .bptr 1 0), (7, .int .i64 i)] [.dead, .cells [.int .i64 0, .str ([] : Str), .int .i64 0, sl c_tPred m] [(3, 31)]] []
noncomputable def pred_SubstAll_J2_s (v : (List Str)) (v2 : (List tPred)) (p : tPred) (i : Int) (m : (List tPred)) (o : Bool) : PSt := stt 56 [(1, sl cS v), (2, sl c_tPred v2), (3, .eptr (c_tPred p)), (6, .bptr 1 0), (7, .int .i64 i), (25, .bool o)] [.dead, .cells [.int .i64 0, .str ([] : Str), .int .i64 0, sl c_tPred m] [(3, 31)]] []
noncomputable def pred_SubstAll_J2 (R24 : T_pred_SubstAll) (v2 : (List tPred)) (i : Int) : Option ((Bool)) :=
  if (decide (i ≥ 0)) = true then
    some (decide (i < (v2.length : Int)))
  else
    some false
theorem pred_SubstAll_J2_ok (R24 : T_pred_SubstAll) (hR24 : H_pred_SubstAll R24) (v : (List Str)) (v2 : (List tPred)) (p : tPred) (i : Int) (m : (List tPred)) {x : (Bool)} (h : pred_SubstAll_J2 R24 v2 i = some x) :
    Sat Pg GE 0 (cA b128 106) (EX .normal (pred_SubstAll_J2_s v v2 p i m x)) (pred_SubstAll_J2_S v v2 p i m) := by
  rcases ifs h with ⟨c3, h⟩ | ⟨c3, h⟩
  · obtain rfl := lf h
    have z := sg 3 c3 <| svn (sT29.ln v2) <| eF .normal (pred_SubstAll_J2_s v v2 p i m (decide (i < (v2.length : Int))))
    exact piecep (A := A128) mixed z (by kernel_rfl)
  · obtain rfl := lf h
    have z := sg 3 c3 <| eF .normal (pred_SubstAll_J2_s v v2 p i m false)
    exact piecep (A := A128) mixed z (by kernel_rfl)
noncomputable def pred_SubstAll_J1 (R24 : T_pred_SubstAll) (v : (List Str)) (v2 : (List tPred)) (p : tPred) : Option ((Int × Str × Int × (List tPred)) ⊕ (Unit)) :=
  if (p.Op == 3) = true then
    (names_Find v p.Name).bind fun r2 =>
    (pred_SubstAll_J2 R24 v2 r2).bind fun o4 =>
    if o4 = true then
      (idx v2 r2).bind fun x6 =>
      (pred_copied x6).bind fun r7 =>
      some (.inl (r7.Op, r7.Name, r7.N, r7.Kids))
    else
      some (.inr ())
  else
    some (.inr ())
theorem pred_SubstAll_J1_ok (R24 : T_pred_SubstAll) (hR24 : H_pred_SubstAll R24) (v : (List Str)) (v2 : (List tPred)) (p : tPred) (m : (List tPred)) {x : (Int × Str × Int × (List tPred)) ⊕ (Unit)} (h : pred_SubstAll_J1 R24 v v2 p = some x) :
    Sat Pg GE 0 (cA b128 6) (EX (pred_SubstAll_J1_e x) (pred_SubstAll_J1_s v v2 p m x)) (pred_SubstAll_J1_S v v2 p m) := by
  rcases ifs h with ⟨c1, h⟩ | ⟨c1, h⟩
  · obtain ⟨r2, br2, h⟩ := bnd h
    obtain ⟨o4, bo4, h⟩ := bnd h
    rcases ifs h with ⟨c5, h⟩ | ⟨c5, h⟩
    · obtain ⟨x6, bx6, h⟩ := bnd h
      obtain ⟨r7, br7, h⟩ := bnd h
      obtain rfl := lf h
      have z := sv (fa_tPred_31_0 p) <| sv (lf_tPred_0_28 p) <| sg 0 c1 <| sv (fa_tPred_31_1 p) <| sv (lf_tPred_1_9 p) <| sca (names_Find_ok br2) <| spa 0 <| spc (pred_SubstAll_J2_ok R24 hR24 v v2 p r2 m bo4) <| sg 0 c5 <| sv (sT29.ia (k := .i64) bx6) <| sv (lk_tPred x6) <| sca (pred_copied_ok br7) <| sy (ex_tPred r7) <| eF (pred_SubstAll_J1_e (.inl (r7.Op, r7.Name, r7.N, r7.Kids))) (pred_SubstAll_J1_s v v2 p m (.inl (r7.Op, r7.Name, r7.N, r7.Kids)))
      exact piecep (A := A128) mixed z (by kernel_rfl)
    · obtain rfl := lf h
      have z := sv (fa_tPred_31_0 p) <| sv (lf_tPred_0_28 p) <| sg 0 c1 <| sv (fa_tPred_31_1 p) <| sv (lf_tPred_1_9 p) <| sca (names_Find_ok br2) <| spa 0 <| spc (pred_SubstAll_J2_ok R24 hR24 v v2 p r2 m bo4) <| sg 0 c5 <| eF (pred_SubstAll_J1_e (.inr ())) (pred_SubstAll_J1_s v v2 p m (.inr ()))
      exact piecep (A := A128) mixed z (by kernel_rfl)
  · obtain rfl := lf h
    have z := sv (fa_tPred_31_0 p) <| sv (lf_tPred_0_28 p) <| sg 0 c1 <| eF (pred_SubstAll_J1_e (.inr ())) (pred_SubstAll_J1_s v v2 p m (.inr ()))
    exact piecep (A := A128) mixed z (by kernel_rfl)
noncomputable def pred_SubstAll_L3_S (v : (List Str)) (v2 : (List tPred)) (t39 : (List tPred)) (t40 : Int) (t41 : Int) (m : (List tPred)) (m2 : Int) (m3 : Str) (m4 : Int) (m5 : (List tPred)) : PSt := stt 56 [(1, sl cS v), (2, sl c_tPred v2), (6, .bptr 1 0), (8, .bptr 2 0), (39, sl c_tPred t39), (40, .int .i64 t40), (41, .int .i64 t41)] [.dead, .cells [.int .i64 0, .str ([] : Str), .int .i64 0, sl c_tPred m] [(3, 31)], .cells [.int .i64 m2, .str m3, .int .i64 m4, sl c_tPred m5] [(3, 31)]] []
noncomputable def pred_SubstAll_L3_s (v : (List Str)) (v2 : (List tPred)) (t39 : (List tPred)) (t40 : Int) (m : (List tPred)) (m2 : Int) (m3 : Str) (m4 : Int) (o : (List tPred)) : PSt := stt 56 [(6, .bptr 1 0), (8, .bptr 2 0)] [.dead, .cells [.int .i64 0, .str ([] : Str), .int .i64 0, sl c_tPred m] [(3, 31)], .cells [.int .i64 m2, .str m3, .int .i64 m4, sl c_tPred o] [(3, 31)]] []
noncomputable def pred_SubstAll_L3_b (R24 : T_pred_SubstAll) (v : (List Str)) (v2 : (List tPred)) (t39 : (List tPred)) (t40 : Int) (t41 : Int) (m5 : (List tPred)) : Option ((Int × (List tPred)) ⊕ (((List tPred)))) :=
  if (decide (t41 < t40)) = true then
    (idx t39 t41).bind fun x10 =>
    (R24 x10 v v2).bind fun r11 =>
    (app m5 ([r11] : List tPred)).bind fun l12 =>
    some (.inl (w64 (t41 + 1), l12))
  else
    some (.inr m5)
noncomputable def pred_SubstAll_L3 (R24 : T_pred_SubstAll) (v : (List Str)) (v2 : (List tPred)) (t39 : (List tPred)) (t40 : Int) (t41 : Int) (m5 : (List tPred)) : Option (((List tPred))) := loop (fun (zz : Int × (List tPred)) => pred_SubstAll_L3_b R24 v v2 t39 t40 zz.1 zz.2) (t41, m5)
theorem pred_SubstAll_L3_bok (R24 : T_pred_SubstAll) (hR24 : H_pred_SubstAll R24) (v : (List Str)) (v2 : (List tPred)) (t39 : (List tPred)) (t40 : Int) (t41 : Int) (m : (List tPred)) (m2 : Int) (m3 : Str) (m4 : Int) (m5 : (List tPred)) {y : (Int × (List tPred)) ⊕ (((List tPred)))} (h : pred_SubstAll_L3_b R24 v v2 t39 t40 t41 m5 = some y) :
    Sat Pg GE 0 (cA b128 247) (LQ (fun (zz : Int × (List tPred)) => pred_SubstAll_L3_S v v2 t39 t40 zz.1 m m2 m3 m4 zz.2) (fun _ => .exit 0) (pred_SubstAll_L3_s v v2 t39 t40 m m2 m3 m4) y) (pred_SubstAll_L3_S v v2 t39 t40 t41 m m2 m3 m4 m5) := by
  rcases ifs h with ⟨c9, h⟩ | ⟨c9, h⟩
  · obtain ⟨x10, bx10, h⟩ := bnd h
    obtain ⟨r11, br11, h⟩ := bnd h
    obtain ⟨l12, bl12, h⟩ := bnd h
    obtain rfl := lf h
    have z := sg 0 c9 <| sv (sT29.ia (k := .i64) bx10) <| sv (lk_tPred x10) <| sx pz31 <| sx (pcx_tPred x10) <| sdr [0, 1, 0, 0, 0, 28, 60, 127, 255, 511] <| sv (lkx_tPred x10 []) <| sca (hR24 _ _ _ _ br11) <| sv (sT29.mk' (v := v_tPred) pcA_tPred ([r11] : List tPred) 1 (by kernel_rfl)) <| sv (sT29.ap bl12) <| ssf (rfl : pcells (sl c_tPred l12) = some [sl c_tPred l12]) <| eFx 0 .normal (pred_SubstAll_L3_S v v2 t39 t40 (w64 (t41 + 1)) m m2 m3 m4 l12) rfl (cl_tm (aI (up (cl_sl clS v)) (aI (up (cl_sl cl_tPred v2)) (aI (lt_of rfl) (aI (lt_of rfl) (aI (up (cl_sl cl_tPred t39)) (aI trivial (aI trivial trivial)))))))) (aI trivial (aI (aI trivial (aI trivial (aI trivial (aI (up (cl_sl cl_tPred m)) trivial)))) (aI (aI trivial (aI trivial (aI trivial (aI (up (cl_sl cl_tPred l12)) trivial)))) trivial)))
    exact nextxp (A := A128) mixed z (by kernel_rfl)
  · obtain rfl := lf h
    have z := sg 0 c9 <| eF (.exit 0) (pred_SubstAll_L3_s v v2 t39 t40 m m2 m3 m4 m5)
    exact overp (A := A128) mixed (by intro hx; cases hx) z (by kernel_rfl)
theorem pred_SubstAll_L3_ok (R24 : T_pred_SubstAll) (hR24 : H_pred_SubstAll R24) (v : (List Str)) (v2 : (List tPred)) (t39 : (List tPred)) (t40 : Int) (t41 : Int) (m : (List tPred)) (m2 : Int) (m3 : Str) (m4 : Int) (m5 : (List tPred)) {x : ((List tPred))} (h : pred_SubstAll_L3 R24 v v2 t39 t40 t41 m5 = some x) :
    Sat Pg GE 0 (.loop (cA b128 247)) (EX (.exit 0) (pred_SubstAll_L3_s v v2 t39 t40 m m2 m3 m4 x)) (pred_SubstAll_L3_S v v2 t39 t40 t41 m m2 m3 m4 m5) :=
  Sat.loop (S := fun (zz : Int × (List tPred)) => pred_SubstAll_L3_S v v2 t39 t40 zz.1 m m2 m3 m4 zz.2) (ex := (fun _ => .exit 0)) (s := (t41, m5)) h fun zz y hy => pred_SubstAll_L3_bok R24 hR24 v v2 t39 t40 zz.1 m m2 m3 m4 zz.2 hy
noncomputable def pred_SubstAll_B (R24 : T_pred_SubstAll) (p : tPred) (a : (List Str)) (a2 : (List tPred)) : Option (tPred) :=
  (pred_SubstAll_J1 R24 a a2 p).bind fun o8 => match o8 with
  | (.inl o8) =>
    some (⟨o8.1, o8.2.1, o8.2.2.1, o8.2.2.2⟩ : tPred)
  | (.inr o8) =>
    (pred_SubstAll_L3 R24 a a2 p.Kids (p.Kids.length : Int) 0 ([] : List tPred)).bind fun o13 =>
    some (⟨p.Op, p.Name, p.N, o13⟩ : tPred)
theorem pred_SubstAll_Bok (R24 : T_pred_SubstAll) (hR24 : H_pred_SubstAll R24) {p : tPred} {a : (List Str)} {a2 : (List tPred)} {r : tPred} (h : pred_SubstAll_B R24 p a a2 = some r) : CC Pg GE 128 [.agg (c_tPred p), sl cS a, sl c_tPred a2] (.agg (c_tPred r)) [(3, 31)] := by
  obtain ⟨o8, bo8, h⟩ := bnd h
  rcases o8 with o8 | o8
  · obtain rfl := lf h
    have z := se (pc_tPred p) <| sx pz31 <| spa 0 <| spc (e := .ret) (s1 := pred_SubstAll_J1_s a a2 p ([] : List tPred) (.inl o8)) (pred_SubstAll_J1_ok R24 hR24 a a2 p ([] : List tPred) bo8) <| en (aI (rex_tPred (⟨o8.1, o8.2.1, o8.2.2.1, o8.2.2.2⟩ : tPred)) <| aI (cl_tPred (⟨o8.1, o8.2.1, o8.2.2.1, o8.2.2.2⟩ : tPred)) <| rT)
    exact C.evp (A := A128) mixed Tryz.call128 Tryz.func128 (c := b128) rfl (aI (cl_tPred p) (aI (cl_sl clS a) (aI (cl_sl cl_tPred a2) trivial))) z (by kernel_rfl)
  · obtain ⟨o13, bo13, h⟩ := bnd h
    obtain rfl := lf h
    have z := se (pc_tPred p) <| sx pz31 <| spa 0 <| spc (e := .normal) (s1 := pred_SubstAll_J1_s a a2 p ([] : List tPred) (.inr o8)) (pred_SubstAll_J1_ok R24 hR24 a a2 p ([] : List tPred) bo8) <| sv (fa_tPred_31_0 p) <| sv (lf_tPred_0_28 p) <| sv (fa_tPred_31_1 p) <| sv (lf_tPred_1_9 p) <| sv (fa_tPred_31_2 p) <| sv (lf_tPred_2_3 p) <| sb (bu_tPred_0_1_2 p.Op p.Name p.N) (bn_tPred_0_1_2 p.Op p.Name p.N) <| sx pz31 <| sy (ex_tPred (⟨p.Op, p.Name, p.N, ([] : List tPred)⟩ : tPred)) <| sv (fa_tPred_31_3 p) <| sv (lf_tPred_3_29 p) <| svn (sT29.ln p.Kids) <| spc (pred_SubstAll_L3_ok R24 hR24 a a2 p.Kids (p.Kids.length : Int) 0 ([] : List tPred) p.Op p.Name p.N ([] : List tPred) bo13) <| sz (lkx_tPred (⟨p.Op, p.Name, p.N, o13⟩ : tPred) []) <| sy (ex_tPred (⟨p.Op, p.Name, p.N, o13⟩ : tPred)) <| en (aI (rex_tPred (⟨p.Op, p.Name, p.N, o13⟩ : tPred)) <| aI (cl_tPred (⟨p.Op, p.Name, p.N, o13⟩ : tPred)) <| rT)
    exact C.evp (A := A128) mixed Tryz.call128 Tryz.func128 (c := b128) rfl (aI (cl_tPred p) (aI (cl_sl clS a) (aI (cl_sl cl_tPred a2) trivial))) z (by kernel_rfl)
noncomputable def pred_SubstAll_F : ((tPred × (List Str) × (List tPred)) → Option (tPred)) → (tPred × (List Str) × (List tPred)) → Option (tPred) := fun (rec : (tPred × (List Str) × (List tPred)) → Option (tPred)) (x : tPred × (List Str) × (List tPred)) => pred_SubstAll_B (fun p a a2 => rec (p, a, a2)) x.1 x.2.1 x.2.2
noncomputable def pred_SubstAll (p : tPred) (a : (List Str)) (a2 : (List tPred)) : Option (tPred) := fixE (pred_SubstAll_F) (p, a, a2)
theorem pred_SubstAll_ok {p : tPred} {a : (List Str)} {a2 : (List tPred)} {r : tPred} (h : pred_SubstAll p a a2 = some r) : CC Pg GE 128 [.agg (c_tPred p), sl cS a, sl c_tPred a2] (.agg (c_tPred r)) [(3, 31)] :=
  fixE_ind (F := pred_SubstAll_F) (M := fun (x : tPred × (List Str) × (List tPred)) (r : tPred) => CC Pg GE 128 [.agg (c_tPred x.1), sl cS x.2.1, sl c_tPred x.2.2] (.agg (c_tPred r)) [(3, 31)]) (fun rec hrec x r h => pred_SubstAll_Bok _ (fun p a a2 r h => hrec (p, a, a2) r h) h) h
noncomputable def b102 : Code := Tryz.f102.body.getD .skip
def A102 : List Nat := []
noncomputable def pred_Subst (p : tPred) (name : Str) (a : tPred) : Option (tPred) :=
  (pred_SubstAll p ([name] : List Str) ([a] : List tPred)).bind fun r1 =>
  some r1
theorem pred_Subst_ok {p : tPred} {name : Str} {a : tPred} {r : tPred} (h : pred_Subst p name a = some r) : CC Pg GE 102 [.agg (c_tPred p), .str name, .agg (c_tPred a)] (.agg (c_tPred r)) [(3, 31)] := by
  obtain ⟨r1, br1, h⟩ := bnd h
  obtain rfl := lf h
  have z := se (pc_tPred p) <| se (pc_tPred a) <| sx pz31 <| sv (lk_tPred p) <| sv (sT22.mk' (v := PVal.str) pcS ([name] : List Str) 1 (by kernel_rfl)) <| sv (lk_tPred a) <| sv (sT29.mk' (v := v_tPred) pcA_tPred ([a] : List tPred) 1 (by kernel_rfl)) <| sca (pred_SubstAll_ok br1) <| sy (ex_tPred r1) <| en (aI (rex_tPred r1) <| aI (cl_tPred r1) <| rT)
  exact C.evp (A := A102) mixed Tryz.call102 Tryz.func102 (c := b102) rfl (aI (cl_tPred p) (aI trivial (aI (cl_tPred a) trivial))) z (by kernel_rfl)
noncomputable def b65 : Code := Tryz.f65.body.getD .skip
def A65 : List Nat := []
noncomputable def abstract_put_J1_S (p : tPred) (params : (List tVar)) (preds : (List tPred)) (m : (List tPred)) (m2 : Int) (m3 : Str) (m4 : Int) (m5 : (List tPred)) : PSt := stt 61 [(3, .eptr (c_tPred p)), (4, .eptr ((cL c_tVar) params)), (5, .eptr ((cL c_tPred) preds)), (6, .bptr 3 0), (7, .bptr 4 0)] [.dead, .dead, .dead, .cells [.int .i64 0, .str ([] : Str), .int .i64 0, sl c_tPred m] [(3, 31)], .cells [.int .i64 m2, .str m3, .int .i64 m4, sl c_tPred m5] [(3, 31)]] []
noncomputable def abstract_put_J1_s (p : tPred) (params : (List tVar)) (preds : (List tPred)) (m : (List tPred)) (m2 : Int) (m3 : Str) (m4 : Int) (m5 : (List tPred)) (o : Bool) : PSt := stt 61 [(3, .eptr (c_tPred p)), (4, .eptr ((cL c_tVar) params)), (5, .eptr ((cL c_tPred) preds)), (6, .bptr 3 0), (7, .bptr 4 0), (29, .bool o)] [.dead, .dead, .dead, .cells [.int .i64 0, .str ([] : Str), .int .i64 0, sl c_tPred m] [(3, 31)], .cells [.int .i64 m2, .str m3, .int .i64 m4, sl c_tPred m5] [(3, 31)]] []
noncomputable def abstract_put_J1 (R16 : T_abstract_put) (p : tPred) : Option ((Bool)) :=
  if (p.Op != 4) = true then
    some true
  else
    some ((p.Kids.length : Int) != 1)
theorem abstract_put_J1_ok (R16 : T_abstract_put) (hR16 : H_abstract_put R16) (p : tPred) (params : (List tVar)) (preds : (List tPred)) (m : (List tPred)) (m2 : Int) (m3 : Str) (m4 : Int) (m5 : (List tPred)) {x : (Bool)} (h : abstract_put_J1 R16 p = some x) :
    Sat Pg GE 0 (cA b65 60) (EX .normal (abstract_put_J1_s p params preds m m2 m3 m4 m5 x)) (abstract_put_J1_S p params preds m m2 m3 m4 m5) := by
  rcases ifs h with ⟨c2, h⟩ | ⟨c2, h⟩
  · obtain rfl := lf h
    have z := sv (fa_tPred_31_0 p) <| sv (lf_tPred_0_28 p) <| sg 4 c2 <| eF .normal (abstract_put_J1_s p params preds m m2 m3 m4 m5 true)
    exact piecep (A := A65) mixed z (by kernel_rfl)
  · obtain rfl := lf h
    have z := sv (fa_tPred_31_0 p) <| sv (lf_tPred_0_28 p) <| sg 4 c2 <| sv (fa_tPred_31_3 p) <| sv (lf_tPred_3_29 p) <| svn (sT29.ln p.Kids) <| eF .normal (abstract_put_J1_s p params preds m m2 m3 m4 m5 ((p.Kids.length : Int) != 1))
    exact piecep (A := A65) mixed z (by kernel_rfl)
noncomputable def abstract_put_J2_S (preds : (List tPred)) (i : Int) (m : (List tPred)) (m2 : Int) (m3 : Str) (m4 : Int) (m5 : (List tPred)) : PSt := stt 61 [(5, .eptr ((cL c_tPred) preds)), (6, .bptr 3 0), (7, .bptr 4 0), (8, .int .i64 i)] [.dead, .dead, .dead, .cells [.int .i64 0, .str ([] : Str), .int .i64 0, sl c_tPred m] [(3, 31)], .cells [.int .i64 m2, .str m3, .int .i64 m4, sl c_tPred m5] [(3, 31)]] []
noncomputable def abstract_put_J2_s (preds : (List tPred)) (i : Int) (m : (List tPred)) (m2 : Int) (m3 : Str) (m4 : Int) (m5 : (List tPred)) (o : Bool) : PSt := stt 61 [(5, .eptr ((cL c_tPred) preds)), (6, .bptr 3 0), (7, .bptr 4 0), (8, .int .i64 i), (38, .bool o)] [.dead, .dead, .dead, .cells [.int .i64 0, .str ([] : Str), .int .i64 0, sl c_tPred m] [(3, 31)], .cells [.int .i64 m2, .str m3, .int .i64 m4, sl c_tPred m5] [(3, 31)]] []
noncomputable def abstract_put_J2 (R16 : T_abstract_put) (preds : (List tPred)) (i : Int) : Option ((Bool)) :=
  if (decide (i ≥ (preds.length : Int))) = true then
    some true
  else
    (idx preds i).bind fun x8 =>
    (pred_Same x8 (⟨0, ([] : Str), 0, ([] : List tPred)⟩ : tPred)).bind fun r9 =>
    some r9
theorem abstract_put_J2_ok (R16 : T_abstract_put) (hR16 : H_abstract_put R16) (preds : (List tPred)) (i : Int) (m : (List tPred)) (m2 : Int) (m3 : Str) (m4 : Int) (m5 : (List tPred)) {x : (Bool)} (h : abstract_put_J2 R16 preds i = some x) :
    Sat Pg GE 0 (cA b65 2030) (EX .normal (abstract_put_J2_s preds i m m2 m3 m4 m5 x)) (abstract_put_J2_S preds i m m2 m3 m4 m5) := by
  rcases ifs h with ⟨c7, h⟩ | ⟨c7, h⟩
  · obtain rfl := lf h
    have z := sv (plook1 sc29 (sl c_tPred preds) []) <| svn (sT29.ln preds) <| sg 5 c7 <| eF .normal (abstract_put_J2_s preds i m m2 m3 m4 m5 true)
    exact piecep (A := A65) mixed z (by kernel_rfl)
  · obtain ⟨x8, bx8, h⟩ := bnd h
    obtain ⟨r9, br9, h⟩ := bnd h
    obtain rfl := lf h
    have z := sv (plook1 sc29 (sl c_tPred preds) []) <| svn (sT29.ln preds) <| sg 5 c7 <| sv (plook1 sc29 (sl c_tPred preds) []) <| sv (sT29.ia (k := .i64) bx8) <| sv (lk_tPred x8) <| sb (bu_tPred_n ) (bn_tPred_n ) <| sca (pred_Same_ok br9) <| eF .normal (abstract_put_J2_s preds i m m2 m3 m4 m5 r9)
    exact piecep (A := A65) mixed z (by kernel_rfl)
noncomputable def abstract_put_B (R16 : T_abstract_put) (p : tPred) (params : (List tVar)) (preds : (List tPred)) : Option (tPred) :=
  (abstract_mapped_3 R16 p.Kids params preds).bind fun r1 =>
  (abstract_put_J1 R16 p).bind fun o3 =>
  if o3 = true then
    some (⟨p.Op, p.Name, p.N, r1⟩ : tPred)
  else
    (slices_IndexFunc params p).bind fun r5 =>
    if (decide (r5 < 0)) = true then
      some (⟨p.Op, p.Name, p.N, r1⟩ : tPred)
    else
      (abstract_put_J2 R16 preds r5).bind fun o10 =>
      if o10 = true then
        some (⟨2, ([] : Str), 1, ([] : List tPred)⟩ : tPred)
      else
        (idx preds r5).bind fun x12 =>
        (idx r1 0).bind fun x13 =>
        (pred_Subst x12 ([118] : Str) x13).bind fun r14 =>
        some r14
theorem abstract_put_Bok (R16 : T_abstract_put) (hR16 : H_abstract_put R16) {p : tPred} {params : (List tVar)} {preds : (List tPred)} {r : tPred} (h : abstract_put_B R16 p params preds = some r) : CC Pg GE 65 [.agg (c_tPred p), sl c_tVar params, sl c_tPred preds] (.agg (c_tPred r)) [(3, 31)] := by
  obtain ⟨r1, br1, h⟩ := bnd h
  obtain ⟨o3, bo3, h⟩ := bnd h
  rcases ifs h with ⟨c4, h⟩ | ⟨c4, h⟩
  · obtain rfl := lf h
    have z := se (pc_tPred p) <| se (pcL c_tVar params) <| se (pcL c_tPred preds) <| sx pz31 <| sv (fa_tPred_31_0 p) <| sv (lf_tPred_0_28 p) <| sv (fa_tPred_31_1 p) <| sv (lf_tPred_1_9 p) <| sv (fa_tPred_31_2 p) <| sv (lf_tPred_2_3 p) <| sb (bu_tPred_0_1_2 p.Op p.Name p.N) (bn_tPred_0_1_2 p.Op p.Name p.N) <| sx pz31 <| sy (ex_tPred (⟨p.Op, p.Name, p.N, ([] : List tPred)⟩ : tPred)) <| sv (fa_tPred_31_3 p) <| sv (lf_tPred_3_29 p) <| sca (abstract_mapped_3_ok R16 hR16 br1) <| spa 1 <| spc (abstract_put_J1_ok R16 hR16 p params preds ([] : List tPred) p.Op p.Name p.N r1 bo3) <| sg 0 c4 <| sz (lkx_tPred (⟨p.Op, p.Name, p.N, r1⟩ : tPred) []) <| sy (ex_tPred (⟨p.Op, p.Name, p.N, r1⟩ : tPred)) <| en (aI (rex_tPred (⟨p.Op, p.Name, p.N, r1⟩ : tPred)) <| aI (cl_tPred (⟨p.Op, p.Name, p.N, r1⟩ : tPred)) <| rT)
    exact C.evp (A := A65) mixed Tryz.call65 Tryz.func65 (c := b65) rfl (aI (cl_tPred p) (aI (cl_sl cl_tVar params) (aI (cl_sl cl_tPred preds) trivial))) z (by kernel_rfl)
  · obtain ⟨r5, br5, h⟩ := bnd h
    rcases ifs h with ⟨c6, h⟩ | ⟨c6, h⟩
    · obtain rfl := lf h
      have z := se (pc_tPred p) <| se (pcL c_tVar params) <| se (pcL c_tPred preds) <| sx pz31 <| sv (fa_tPred_31_0 p) <| sv (lf_tPred_0_28 p) <| sv (fa_tPred_31_1 p) <| sv (lf_tPred_1_9 p) <| sv (fa_tPred_31_2 p) <| sv (lf_tPred_2_3 p) <| sb (bu_tPred_0_1_2 p.Op p.Name p.N) (bn_tPred_0_1_2 p.Op p.Name p.N) <| sx pz31 <| sy (ex_tPred (⟨p.Op, p.Name, p.N, ([] : List tPred)⟩ : tPred)) <| sv (fa_tPred_31_3 p) <| sv (lf_tPred_3_29 p) <| sca (abstract_mapped_3_ok R16 hR16 br1) <| spa 1 <| spc (abstract_put_J1_ok R16 hR16 p params preds ([] : List tPred) p.Op p.Name p.N r1 bo3) <| sg 0 c4 <| sv (plook1 sc36 (sl c_tVar params) []) <| sca (slices_IndexFunc_ok br5) <| sg 0 c6 <| sz (lkx_tPred (⟨p.Op, p.Name, p.N, r1⟩ : tPred) []) <| sy (ex_tPred (⟨p.Op, p.Name, p.N, r1⟩ : tPred)) <| en (aI (rex_tPred (⟨p.Op, p.Name, p.N, r1⟩ : tPred)) <| aI (cl_tPred (⟨p.Op, p.Name, p.N, r1⟩ : tPred)) <| rT)
      exact C.evp (A := A65) mixed Tryz.call65 Tryz.func65 (c := b65) rfl (aI (cl_tPred p) (aI (cl_sl cl_tVar params) (aI (cl_sl cl_tPred preds) trivial))) z (by kernel_rfl)
    · obtain ⟨o10, bo10, h⟩ := bnd h
      rcases ifs h with ⟨c11, h⟩ | ⟨c11, h⟩
      · obtain rfl := lf h
        have z := se (pc_tPred p) <| se (pcL c_tVar params) <| se (pcL c_tPred preds) <| sx pz31 <| sv (fa_tPred_31_0 p) <| sv (lf_tPred_0_28 p) <| sv (fa_tPred_31_1 p) <| sv (lf_tPred_1_9 p) <| sv (fa_tPred_31_2 p) <| sv (lf_tPred_2_3 p) <| sb (bu_tPred_0_1_2 p.Op p.Name p.N) (bn_tPred_0_1_2 p.Op p.Name p.N) <| sx pz31 <| sy (ex_tPred (⟨p.Op, p.Name, p.N, ([] : List tPred)⟩ : tPred)) <| sv (fa_tPred_31_3 p) <| sv (lf_tPred_3_29 p) <| sca (abstract_mapped_3_ok R16 hR16 br1) <| spa 1 <| spc (abstract_put_J1_ok R16 hR16 p params preds ([] : List tPred) p.Op p.Name p.N r1 bo3) <| sg 0 c4 <| sv (plook1 sc36 (sl c_tVar params) []) <| sca (slices_IndexFunc_ok br5) <| sg 0 c6 <| spa 0 <| spc (abstract_put_J2_ok R16 hR16 preds r5 ([] : List tPred) p.Op p.Name p.N r1 bo10) <| sg 0 c11 <| sb (bu_tPred_0_2 2 1) (bn_tPred_0_2 2 1) <| sy (ex_tPred (⟨2, ([] : Str), 1, ([] : List tPred)⟩ : tPred)) <| en (aI (rex_tPred (⟨2, ([] : Str), 1, ([] : List tPred)⟩ : tPred)) <| aI (cl_tPred (⟨2, ([] : Str), 1, ([] : List tPred)⟩ : tPred)) <| rT)
        exact C.evp (A := A65) mixed Tryz.call65 Tryz.func65 (c := b65) rfl (aI (cl_tPred p) (aI (cl_sl cl_tVar params) (aI (cl_sl cl_tPred preds) trivial))) z (by kernel_rfl)
      · obtain ⟨x12, bx12, h⟩ := bnd h
        obtain ⟨x13, bx13, h⟩ := bnd h
        obtain ⟨r14, br14, h⟩ := bnd h
        obtain rfl := lf h
        have z := se (pc_tPred p) <| se (pcL c_tVar params) <| se (pcL c_tPred preds) <| sx pz31 <| sv (fa_tPred_31_0 p) <| sv (lf_tPred_0_28 p) <| sv (fa_tPred_31_1 p) <| sv (lf_tPred_1_9 p) <| sv (fa_tPred_31_2 p) <| sv (lf_tPred_2_3 p) <| sb (bu_tPred_0_1_2 p.Op p.Name p.N) (bn_tPred_0_1_2 p.Op p.Name p.N) <| sx pz31 <| sy (ex_tPred (⟨p.Op, p.Name, p.N, ([] : List tPred)⟩ : tPred)) <| sv (fa_tPred_31_3 p) <| sv (lf_tPred_3_29 p) <| sca (abstract_mapped_3_ok R16 hR16 br1) <| spa 1 <| spc (abstract_put_J1_ok R16 hR16 p params preds ([] : List tPred) p.Op p.Name p.N r1 bo3) <| sg 0 c4 <| sv (plook1 sc36 (sl c_tVar params) []) <| sca (slices_IndexFunc_ok br5) <| sg 0 c6 <| spa 0 <| spc (abstract_put_J2_ok R16 hR16 preds r5 ([] : List tPred) p.Op p.Name p.N r1 bo10) <| sg 0 c11 <| sdr [0, 0, 3, 7, 0, 16, 48, 112, 255, 511] <| sv (plook1 sc29 (sl c_tPred preds) []) <| sv (sT29.ia (k := .i64) bx12) <| sv (lk_tPred x12) <| ss <| sv (sT29.ia (k := .i64) bx13) <| sv (lk_tPred x13) <| sca (pred_Subst_ok br14) <| syx (pcx_tPred r14) <| en (aI (rex_tPred r14) <| aI (cl_tPred r14) <| rT)
        exact C.evp (A := A65) mixed Tryz.call65 Tryz.func65 (c := b65) rfl (aI (cl_tPred p) (aI (cl_sl cl_tVar params) (aI (cl_sl cl_tPred preds) trivial))) z (by kernel_rfl)
noncomputable def abstract_put_F : ((tPred × (List tVar) × (List tPred)) → Option (tPred)) → (tPred × (List tVar) × (List tPred)) → Option (tPred) := fun (rec : (tPred × (List tVar) × (List tPred)) → Option (tPred)) (x : tPred × (List tVar) × (List tPred)) => abstract_put_B (fun p params preds => rec (p, params, preds)) x.1 x.2.1 x.2.2
noncomputable def abstract_put (p : tPred) (params : (List tVar)) (preds : (List tPred)) : Option (tPred) := fixE (abstract_put_F) (p, params, preds)
theorem abstract_put_ok {p : tPred} {params : (List tVar)} {preds : (List tPred)} {r : tPred} (h : abstract_put p params preds = some r) : CC Pg GE 65 [.agg (c_tPred p), sl c_tVar params, sl c_tPred preds] (.agg (c_tPred r)) [(3, 31)] :=
  fixE_ind (F := abstract_put_F) (M := fun (x : tPred × (List tVar) × (List tPred)) (r : tPred) => CC Pg GE 65 [.agg (c_tPred x.1), sl c_tVar x.2.1, sl c_tPred x.2.2] (.agg (c_tPred r)) [(3, 31)]) (fun rec hrec x r h => abstract_put_Bok _ (fun p params preds r h => hrec (p, params, preds) r h) h) h
noncomputable def b64 : Code := Tryz.f64.body.getD .skip
def A64 : List Nat := []
noncomputable def abstract_Fields_1_1 (p : tPred) (a : tData) (a2 : (List tPred)) : Option (tPred) :=
  (abstract_put p a.Preds a2).bind fun r1 =>
  some r1
theorem abstract_Fields_1_1_ok {p : tPred} {a : tData} {a2 : (List tPred)} {r : tPred} (h : abstract_Fields_1_1 p a a2 = some r) : CC Pg GE 64 [.agg (c_tPred p), .eptr (c_tData a), .eptr ((cL c_tPred) a2)] (.agg (c_tPred r)) [(3, 31)] := by
  obtain ⟨r1, br1, h⟩ := bnd h
  obtain rfl := lf h
  have z := se (pc_tPred p) <| sx pz31 <| sv (lk_tPred p) <| sv (fa_tData_61_2 a) <| sv (lf_tData_2_36 a) <| sv (plook1 sc29 (sl c_tPred a2) []) <| sca (abstract_put_ok br1) <| sy (ex_tPred r1) <| en (aI (rex_tPred r1) <| aI (cl_tPred r1) <| rT)
  exact C.evp (A := A64) mixed Tryz.call64 Tryz.func64 (c := b64) rfl (aI (cl_tPred p) (aI (cl_tData a) (aI (clLs cl_tPred a2) trivial))) z (by kernel_rfl)
noncomputable def abstract_mapped_4_L1_S (v : tData) (v2 : (List tPred)) (out : (List tPred)) (t8 : (List tPred)) (t9 : Int) (t10 : Int) : PSt := stt 22 [(1, .func (.func 64) [] [.eptr (c_tData v), .eptr ((cL c_tPred) v2)]), (5, sl c_tPred out), (8, sl c_tPred t8), (9, .int .i64 t9), (10, .int .i64 t10)] [] [((5, 0), 31)]
noncomputable def abstract_mapped_4_L1_s (v : tData) (v2 : (List tPred)) (t8 : (List tPred)) (t9 : Int) (o : (List tPred)) : PSt := stt 22 [(5, sl c_tPred o)] [] [((5, 0), 31)]
noncomputable def abstract_mapped_4_L1_b (v : tData) (v2 : (List tPred)) (t8 : (List tPred)) (t9 : Int) (out : (List tPred)) (t10 : Int) : Option (((List tPred) × Int) ⊕ (((List tPred)))) :=
  if (decide (t10 < t9)) = true then
    (idx t8 t10).bind fun x2 =>
    (abstract_Fields_1_1 x2 v v2).bind fun r3 =>
    (app out ([r3] : List tPred)).bind fun l4 =>
    some (.inl (l4, w64 (t10 + 1)))
  else
    some (.inr out)
noncomputable def abstract_mapped_4_L1 (v : tData) (v2 : (List tPred)) (t8 : (List tPred)) (t9 : Int) (out : (List tPred)) (t10 : Int) : Option (((List tPred))) := loop (fun (zz : (List tPred) × Int) => abstract_mapped_4_L1_b v v2 t8 t9 zz.1 zz.2) (out, t10)
theorem abstract_mapped_4_L1_bok (v : tData) (v2 : (List tPred)) (out : (List tPred)) (t8 : (List tPred)) (t9 : Int) (t10 : Int) {y : ((List tPred) × Int) ⊕ (((List tPred)))} (h : abstract_mapped_4_L1_b v v2 t8 t9 out t10 = some y) :
    Sat Pg GE 0 (cA b56 119) (LQ (fun (zz : (List tPred) × Int) => abstract_mapped_4_L1_S v v2 zz.1 t8 t9 zz.2) (fun _ => .exit 0) (abstract_mapped_4_L1_s v v2 t8 t9) y) (abstract_mapped_4_L1_S v v2 out t8 t9 t10) := by
  rcases ifs h with ⟨c1, h⟩ | ⟨c1, h⟩
  · obtain ⟨x2, bx2, h⟩ := bnd h
    obtain ⟨r3, br3, h⟩ := bnd h
    obtain ⟨l4, bl4, h⟩ := bnd h
    obtain rfl := lf h
    have z := sg 0 c1 <| sv (sT29.ia (k := .i64) bx2) <| sv (lk_tPred x2) <| sx pz31 <| sx (pcx_tPred x2) <| sv (lkx_tPred x2 []) <| sca (abstract_Fields_1_1_ok br3) <| sv (sT29.mk' (v := v_tPred) pcA_tPred ([r3] : List tPred) 1 (by kernel_rfl)) <| sv (sT29.ap bl4) <| eFx 0 .normal (abstract_mapped_4_L1_S v v2 l4 t8 t9 (w64 (t10 + 1))) rfl (cl_tm (aI (aI trivial (aI (clL_up (cl_tData v)) (aI (clL_up (clLs cl_tPred v2)) trivial))) (aI (up (cl_sl cl_tPred l4)) (aI (up (cl_sl cl_tPred t8)) (aI trivial (aI trivial trivial)))))) trivial
    exact nextxp (A := A56) mixed z (by kernel_rfl)
  · obtain rfl := lf h
    have z := sg 0 c1 <| eF (.exit 0) (abstract_mapped_4_L1_s v v2 t8 t9 out)
    exact overp (A := A56) mixed (by intro hx; cases hx) z (by kernel_rfl)
theorem abstract_mapped_4_L1_ok (v : tData) (v2 : (List tPred)) (out : (List tPred)) (t8 : (List tPred)) (t9 : Int) (t10 : Int) {x : ((List tPred))} (h : abstract_mapped_4_L1 v v2 t8 t9 out t10 = some x) :
    Sat Pg GE 0 (.loop (cA b56 119)) (EX (.exit 0) (abstract_mapped_4_L1_s v v2 t8 t9 x)) (abstract_mapped_4_L1_S v v2 out t8 t9 t10) :=
  Sat.loop (S := fun (zz : (List tPred) × Int) => abstract_mapped_4_L1_S v v2 zz.1 t8 t9 zz.2) (ex := (fun _ => .exit 0)) (s := (out, t10)) h fun zz y hy => abstract_mapped_4_L1_bok v v2 zz.1 t8 t9 zz.2 hy
noncomputable def abstract_mapped_4 (a : (List tPred)) (c : tData) (c2 : (List tPred)) : Option ((List tPred)) :=
  (abstract_mapped_4_L1 c c2 a (a.length : Int) ([] : List tPred) 0).bind fun o5 =>
  some o5
theorem abstract_mapped_4_ok {a : (List tPred)} {c : tData} {c2 : (List tPred)} {r : (List tPred)} (h : abstract_mapped_4 a c c2 = some r) : CC Pg GE 56 [sl c_tPred a, .func (.func 64) [] [.eptr (c_tData c), .eptr ((cL c_tPred) c2)]] (sl c_tPred r) [(0, 31)] := by
  obtain ⟨o5, bo5, h⟩ := bnd h
  obtain rfl := lf h
  have z := svn (sT29.ln a) <| spc (abstract_mapped_4_L1_ok c c2 ([] : List tPred) a (a.length : Int) 0 bo5) <| en (aI (rP (sl c_tPred o5)) <| (cl_sl cl_tPred o5))
  exact C.evp (A := A56) mixed Tryz.call56 Tryz.func56 (c := b56) rfl (aI (cl_sl cl_tPred a) (aI (aI trivial (aI (cl_tData c) (aI (clLs cl_tPred c2) trivial))) trivial)) z (by kernel_rfl)
noncomputable def b88 : Code := Tryz.f88.body.getD .skip
def A88 : List Nat := []
noncomputable def abstract_refined_1 (R14 : T_abstract_refined) (a : tType) (c : tData) (c2 : (List tPred)) : Option (tType) :=
  (R14 a c c2).bind fun r1 =>
  some r1
theorem abstract_refined_1_ok (R14 : T_abstract_refined) (hR14 : H_abstract_refined R14) {a : tType} {c : tData} {c2 : (List tPred)} {r : tType} (h : abstract_refined_1 R14 a c c2 = some r) : CC Pg GE 88 [.agg (c_tType a), .eptr [.func (.func 64) [] [.eptr (c_tData c), .eptr ((cL c_tPred) c2)]]] (.agg (c_tType r)) [(2, 33)] := by
  obtain ⟨r1, br1, h⟩ := bnd h
  obtain rfl := lf h
  have z := se (pc_tType a) <| sx pz33 <| sv (lk_tType a) <| sv (plook1 sc103 (.func (.func 64) [] [.eptr (c_tData c), .eptr ((cL c_tPred) c2)]) []) <| sca (hR14 _ _ _ _ br1) <| sy (ex_tType r1) <| en (aI (rex_tType r1) <| aI (cl_tType r1) <| rT)
  exact C.evp (A := A88) mixed Tryz.call88 Tryz.func88 (c := b88) rfl (aI (cl_tType a) (aI (aI (aI trivial (aI (cl_tData c) (aI (clLs cl_tPred c2) trivial))) trivial) trivial)) z (by kernel_rfl)
noncomputable def b62 : Code := Tryz.f62.body.getD .skip
def A62 : List Nat := [14, 21]
noncomputable def abstract_mapped_5_L1_S (v : tData) (v2 : (List tPred)) (out : (List tType)) (t8 : (List tType)) (t9 : Int) (t10 : Int) : PSt := stt 22 [(1, .func (.func 88) [] [.eptr [.func (.func 64) [] [.eptr (c_tData v), .eptr ((cL c_tPred) v2)]]]), (5, sl c_tType out), (8, sl c_tType t8), (9, .int .i64 t9), (10, .int .i64 t10)] [] [((5, 0), 33)]
noncomputable def abstract_mapped_5_L1_s (v : tData) (v2 : (List tPred)) (t8 : (List tType)) (t9 : Int) (o : (List tType)) : PSt := stt 22 [(5, sl c_tType o)] [] [((5, 0), 33)]
noncomputable def abstract_mapped_5_L1_b (R14 : T_abstract_refined) (v : tData) (v2 : (List tPred)) (t8 : (List tType)) (t9 : Int) (out : (List tType)) (t10 : Int) : Option (((List tType) × Int) ⊕ (((List tType)))) :=
  if (decide (t10 < t9)) = true then
    (idx t8 t10).bind fun x2 =>
    (abstract_refined_1 R14 x2 v v2).bind fun r3 =>
    (app out ([r3] : List tType)).bind fun l4 =>
    some (.inl (l4, w64 (t10 + 1)))
  else
    some (.inr out)
noncomputable def abstract_mapped_5_L1 (R14 : T_abstract_refined) (v : tData) (v2 : (List tPred)) (t8 : (List tType)) (t9 : Int) (out : (List tType)) (t10 : Int) : Option (((List tType))) := loop (fun (zz : (List tType) × Int) => abstract_mapped_5_L1_b R14 v v2 t8 t9 zz.1 zz.2) (out, t10)
theorem abstract_mapped_5_L1_bok (R14 : T_abstract_refined) (hR14 : H_abstract_refined R14) (v : tData) (v2 : (List tPred)) (out : (List tType)) (t8 : (List tType)) (t9 : Int) (t10 : Int) {y : ((List tType) × Int) ⊕ (((List tType)))} (h : abstract_mapped_5_L1_b R14 v v2 t8 t9 out t10 = some y) :
    Sat Pg GE 0 (cA b62 119) (LQ (fun (zz : (List tType) × Int) => abstract_mapped_5_L1_S v v2 zz.1 t8 t9 zz.2) (fun _ => .exit 0) (abstract_mapped_5_L1_s v v2 t8 t9) y) (abstract_mapped_5_L1_S v v2 out t8 t9 t10) := by
  rcases ifs h with ⟨c1, h⟩ | ⟨c1, h⟩
  · obtain ⟨x2, bx2, h⟩ := bnd h
    obtain ⟨r3, br3, h⟩ := bnd h
    obtain ⟨l4, bl4, h⟩ := bnd h
    obtain rfl := lf h
    have z := sg 0 c1 <| sv (sT27.ia (k := .i64) bx2) <| sv (lk_tType x2) <| sx pz33 <| sx (pcx_tType x2) <| sv (lkx_tType x2 []) <| sca (abstract_refined_1_ok R14 hR14 br3) <| sv (sT27.mk' (v := v_tType) pcA_tType ([r3] : List tType) 1 (by kernel_rfl)) <| sv (sT27.ap bl4) <| eFx 0 .normal (abstract_mapped_5_L1_S v v2 l4 t8 t9 (w64 (t10 + 1))) rfl (cl_tm (aI (aI trivial (aI (aI (aI trivial (aI (clL_up (cl_tData v)) (aI (clL_up (clLs cl_tPred v2)) trivial))) trivial) trivial)) (aI (up (cl_sl cl_tType l4)) (aI (up (cl_sl cl_tType t8)) (aI trivial (aI trivial trivial)))))) trivial
    exact nextxp (A := A62) mixed z (by kernel_rfl)
  · obtain rfl := lf h
    have z := sg 0 c1 <| eF (.exit 0) (abstract_mapped_5_L1_s v v2 t8 t9 out)
    exact overp (A := A62) mixed (by intro hx; cases hx) z (by kernel_rfl)
theorem abstract_mapped_5_L1_ok (R14 : T_abstract_refined) (hR14 : H_abstract_refined R14) (v : tData) (v2 : (List tPred)) (out : (List tType)) (t8 : (List tType)) (t9 : Int) (t10 : Int) {x : ((List tType))} (h : abstract_mapped_5_L1 R14 v v2 t8 t9 out t10 = some x) :
    Sat Pg GE 0 (.loop (cA b62 119)) (EX (.exit 0) (abstract_mapped_5_L1_s v v2 t8 t9 x)) (abstract_mapped_5_L1_S v v2 out t8 t9 t10) :=
  Sat.loop (S := fun (zz : (List tType) × Int) => abstract_mapped_5_L1_S v v2 zz.1 t8 t9 zz.2) (ex := (fun _ => .exit 0)) (s := (out, t10)) h fun zz y hy => abstract_mapped_5_L1_bok R14 hR14 v v2 zz.1 t8 t9 zz.2 hy
noncomputable def abstract_mapped_5 (R14 : T_abstract_refined) (a : (List tType)) (c : tData) (c2 : (List tPred)) : Option ((List tType)) :=
  (abstract_mapped_5_L1 R14 c c2 a (a.length : Int) ([] : List tType) 0).bind fun o5 =>
  some o5
theorem abstract_mapped_5_ok (R14 : T_abstract_refined) (hR14 : H_abstract_refined R14) {a : (List tType)} {c : tData} {c2 : (List tPred)} {r : (List tType)} (h : abstract_mapped_5 R14 a c c2 = some r) : CC Pg GE 62 [sl c_tType a, .func (.func 88) [] [.eptr [.func (.func 64) [] [.eptr (c_tData c), .eptr ((cL c_tPred) c2)]]]] (sl c_tType r) [(0, 33)] := by
  obtain ⟨o5, bo5, h⟩ := bnd h
  obtain rfl := lf h
  have z := svn (sT27.ln a) <| spc (abstract_mapped_5_L1_ok R14 hR14 c c2 ([] : List tType) a (a.length : Int) 0 bo5) <| en (aI (rP (sl c_tType o5)) <| (cl_sl cl_tType o5))
  exact C.evp (A := A62) mixed Tryz.call62 Tryz.func62 (c := b62) rfl (aI (cl_sl cl_tType a) (aI (aI trivial (aI (aI (aI trivial (aI (cl_tData c) (aI (clLs cl_tPred c2) trivial))) trivial) trivial)) trivial)) z (by kernel_rfl)
noncomputable def b51 : Code := Tryz.f51.body.getD .skip
def A51 : List Nat := []
noncomputable def abstract_refined_B (R14 : T_abstract_refined) (t : tType) (c : tData) (c2 : (List tPred)) : Option (tType) :=
  (cloneF t.Names).bind fun r1 =>
  (abstract_Fields_1_1 t.Pred c c2).bind fun r2 =>
  (abstract_mapped_4 t.Preds c c2).bind fun r3 =>
  (abstract_mapped_5 R14 t.Args c c2).bind fun r4 =>
  some (⟨t.Op, t.Name, r4, r1, r2, r3⟩ : tType)
theorem abstract_refined_Bok (R14 : T_abstract_refined) (hR14 : H_abstract_refined R14) {t : tType} {c : tData} {c2 : (List tPred)} {r : tType} (h : abstract_refined_B R14 t c c2 = some r) : CC Pg GE 51 [.agg (c_tType t), .func (.func 64) [] [.eptr (c_tData c), .eptr ((cL c_tPred) c2)]] (.agg (c_tType r)) [(2, 33)] := by
  obtain ⟨r1, br1, h⟩ := bnd h
  obtain ⟨r2, br2, h⟩ := bnd h
  obtain ⟨r3, br3, h⟩ := bnd h
  obtain ⟨r4, br4, h⟩ := bnd h
  obtain rfl := lf h
  have z := se (pc_tType t) <| se (rfl : pcells (.func (.func 64) [] [.eptr (c_tData c), .eptr ((cL c_tPred) c2)]) = some [.func (.func 64) [] [.eptr (c_tData c), .eptr ((cL c_tPred) c2)]]) <| sx pz33 <| sdr [0, 1, 0, 4, 0, 16, 48, 0, 0, 256, 1008, 0, 2048, 0, 16368, 32767, 0, 131071] <| sv (fa_tType_33_0 t) <| sv (lf_tType_0_26 t) <| sv (fa_tType_33_1 t) <| sv (lf_tType_1_9 t) <| sv (fa_tType_33_3 t) <| sv (lf_tType_3_22 t) <| sca (clone87_ok br1) <| sv (plook1 sc103 (.func (.func 64) [] [.eptr (c_tData c), .eptr ((cL c_tPred) c2)]) []) <| sv (fa_tType_33_4 t) <| sv (lf_tType_4_31 t) <| sca (abstract_Fields_1_1_ok br2) <| sv (fa_tType_33_5 t) <| sv (lf_tType_8_29 t) <| sv (plook1 sc103 (.func (.func 64) [] [.eptr (c_tData c), .eptr ((cL c_tPred) c2)]) []) <| sca (abstract_mapped_4_ok br3) <| sb (bu_tType_0_1_3_4_5 t.Op t.Name r1 r2 r3) (bn_tType_0_1_3_4_5 t.Op t.Name r1 r2 r3) <| syx (pcx_tType (⟨t.Op, t.Name, ([] : List tType), r1, r2, r3⟩ : tType)) <| sv (fa_tType_33_2 t) <| sv (lf_tType_2_27 t) <| sca (abstract_mapped_5_ok R14 hR14 br4) <| sz (lkx_tType (⟨t.Op, t.Name, r4, r1, r2, r3⟩ : tType) []) <| sy (ex_tType (⟨t.Op, t.Name, r4, r1, r2, r3⟩ : tType)) <| en (aI (rex_tType (⟨t.Op, t.Name, r4, r1, r2, r3⟩ : tType)) <| aI (cl_tType (⟨t.Op, t.Name, r4, r1, r2, r3⟩ : tType)) <| rT)
  exact C.evp (A := A51) mixed Tryz.call51 Tryz.func51 (c := b51) rfl (aI (cl_tType t) (aI (aI trivial (aI (cl_tData c) (aI (clLs cl_tPred c2) trivial))) trivial)) z (by kernel_rfl)
noncomputable def abstract_refined_F : ((tType × tData × (List tPred)) → Option (tType)) → (tType × tData × (List tPred)) → Option (tType) := fun (rec : (tType × tData × (List tPred)) → Option (tType)) (x : tType × tData × (List tPred)) => abstract_refined_B (fun t c c2 => rec (t, c, c2)) x.1 x.2.1 x.2.2
noncomputable def abstract_refined (t : tType) (c : tData) (c2 : (List tPred)) : Option (tType) := fixE (abstract_refined_F) (t, c, c2)
theorem abstract_refined_ok {t : tType} {c : tData} {c2 : (List tPred)} {r : tType} (h : abstract_refined t c c2 = some r) : CC Pg GE 51 [.agg (c_tType t), .func (.func 64) [] [.eptr (c_tData c), .eptr ((cL c_tPred) c2)]] (.agg (c_tType r)) [(2, 33)] :=
  fixE_ind (F := abstract_refined_F) (M := fun (x : tType × tData × (List tPred)) (r : tType) => CC Pg GE 51 [.agg (c_tType x.1), .func (.func 64) [] [.eptr (c_tData x.2.1), .eptr ((cL c_tPred) x.2.2)]] (.agg (c_tType r)) [(2, 33)]) (fun rec hrec x r h => abstract_refined_Bok _ (fun t c c2 r h => hrec (t, c, c2) r h) h) h
noncomputable def b63 : Code := Tryz.f63.body.getD .skip
def A63 : List Nat := []
noncomputable def abstract_Fields_1 (t : tType) (a : tData) (a2 : (List tPred)) : Option (tType) :=
  (abstract_refined t a a2).bind fun r1 =>
  some r1
theorem abstract_Fields_1_ok {t : tType} {a : tData} {a2 : (List tPred)} {r : tType} (h : abstract_Fields_1 t a a2 = some r) : CC Pg GE 63 [.agg (c_tType t), .eptr (c_tData a), .eptr ((cL c_tPred) a2)] (.agg (c_tType r)) [(2, 33)] := by
  obtain ⟨r1, br1, h⟩ := bnd h
  obtain rfl := lf h
  have z := se (pc_tType t) <| sx pz33 <| sv (lk_tType t) <| sca (abstract_refined_ok br1) <| sy (ex_tType r1) <| en (aI (rex_tType r1) <| aI (cl_tType r1) <| rT)
  exact C.evp (A := A63) mixed Tryz.call63 Tryz.func63 (c := b63) rfl (aI (cl_tType t) (aI (cl_tData a) (aI (clLs cl_tPred a2) trivial))) z (by kernel_rfl)
noncomputable def abstract_mapped_2_L1_S (v : tData) (v2 : (List tPred)) (out : (List tType)) (t8 : (List tType)) (t9 : Int) (t10 : Int) : PSt := stt 22 [(1, .func (.func 63) [] [.eptr (c_tData v), .eptr ((cL c_tPred) v2)]), (5, sl c_tType out), (8, sl c_tType t8), (9, .int .i64 t9), (10, .int .i64 t10)] [] [((5, 0), 33)]
noncomputable def abstract_mapped_2_L1_s (v : tData) (v2 : (List tPred)) (t8 : (List tType)) (t9 : Int) (o : (List tType)) : PSt := stt 22 [(5, sl c_tType o)] [] [((5, 0), 33)]
noncomputable def abstract_mapped_2_L1_b (v : tData) (v2 : (List tPred)) (t8 : (List tType)) (t9 : Int) (out : (List tType)) (t10 : Int) : Option (((List tType) × Int) ⊕ (((List tType)))) :=
  if (decide (t10 < t9)) = true then
    (idx t8 t10).bind fun x2 =>
    (abstract_Fields_1 x2 v v2).bind fun r3 =>
    (app out ([r3] : List tType)).bind fun l4 =>
    some (.inl (l4, w64 (t10 + 1)))
  else
    some (.inr out)
noncomputable def abstract_mapped_2_L1 (v : tData) (v2 : (List tPred)) (t8 : (List tType)) (t9 : Int) (out : (List tType)) (t10 : Int) : Option (((List tType))) := loop (fun (zz : (List tType) × Int) => abstract_mapped_2_L1_b v v2 t8 t9 zz.1 zz.2) (out, t10)
theorem abstract_mapped_2_L1_bok (v : tData) (v2 : (List tPred)) (out : (List tType)) (t8 : (List tType)) (t9 : Int) (t10 : Int) {y : ((List tType) × Int) ⊕ (((List tType)))} (h : abstract_mapped_2_L1_b v v2 t8 t9 out t10 = some y) :
    Sat Pg GE 0 (cA b62 119) (LQ (fun (zz : (List tType) × Int) => abstract_mapped_2_L1_S v v2 zz.1 t8 t9 zz.2) (fun _ => .exit 0) (abstract_mapped_2_L1_s v v2 t8 t9) y) (abstract_mapped_2_L1_S v v2 out t8 t9 t10) := by
  rcases ifs h with ⟨c1, h⟩ | ⟨c1, h⟩
  · obtain ⟨x2, bx2, h⟩ := bnd h
    obtain ⟨r3, br3, h⟩ := bnd h
    obtain ⟨l4, bl4, h⟩ := bnd h
    obtain rfl := lf h
    have z := sg 0 c1 <| sv (sT27.ia (k := .i64) bx2) <| sv (lk_tType x2) <| sx pz33 <| sx (pcx_tType x2) <| sv (lkx_tType x2 []) <| sca (abstract_Fields_1_ok br3) <| sv (sT27.mk' (v := v_tType) pcA_tType ([r3] : List tType) 1 (by kernel_rfl)) <| sv (sT27.ap bl4) <| eFx 0 .normal (abstract_mapped_2_L1_S v v2 l4 t8 t9 (w64 (t10 + 1))) rfl (cl_tm (aI (aI trivial (aI (clL_up (cl_tData v)) (aI (clL_up (clLs cl_tPred v2)) trivial))) (aI (up (cl_sl cl_tType l4)) (aI (up (cl_sl cl_tType t8)) (aI trivial (aI trivial trivial)))))) trivial
    exact nextxp (A := A62) mixed z (by kernel_rfl)
  · obtain rfl := lf h
    have z := sg 0 c1 <| eF (.exit 0) (abstract_mapped_2_L1_s v v2 t8 t9 out)
    exact overp (A := A62) mixed (by intro hx; cases hx) z (by kernel_rfl)
theorem abstract_mapped_2_L1_ok (v : tData) (v2 : (List tPred)) (out : (List tType)) (t8 : (List tType)) (t9 : Int) (t10 : Int) {x : ((List tType))} (h : abstract_mapped_2_L1 v v2 t8 t9 out t10 = some x) :
    Sat Pg GE 0 (.loop (cA b62 119)) (EX (.exit 0) (abstract_mapped_2_L1_s v v2 t8 t9 x)) (abstract_mapped_2_L1_S v v2 out t8 t9 t10) :=
  Sat.loop (S := fun (zz : (List tType) × Int) => abstract_mapped_2_L1_S v v2 zz.1 t8 t9 zz.2) (ex := (fun _ => .exit 0)) (s := (out, t10)) h fun zz y hy => abstract_mapped_2_L1_bok v v2 zz.1 t8 t9 zz.2 hy
noncomputable def abstract_mapped_2 (a : (List tType)) (c : tData) (c2 : (List tPred)) : Option ((List tType)) :=
  (abstract_mapped_2_L1 c c2 a (a.length : Int) ([] : List tType) 0).bind fun o5 =>
  some o5
theorem abstract_mapped_2_ok {a : (List tType)} {c : tData} {c2 : (List tPred)} {r : (List tType)} (h : abstract_mapped_2 a c c2 = some r) : CC Pg GE 62 [sl c_tType a, .func (.func 63) [] [.eptr (c_tData c), .eptr ((cL c_tPred) c2)]] (sl c_tType r) [(0, 33)] := by
  obtain ⟨o5, bo5, h⟩ := bnd h
  obtain rfl := lf h
  have z := svn (sT27.ln a) <| spc (abstract_mapped_2_L1_ok c c2 ([] : List tType) a (a.length : Int) 0 bo5) <| en (aI (rP (sl c_tType o5)) <| (cl_sl cl_tType o5))
  exact C.evp (A := A62) mixed Tryz.call62 Tryz.func62 (c := b62) rfl (aI (cl_sl cl_tType a) (aI (aI trivial (aI (cl_tData c) (aI (clLs cl_tPred c2) trivial))) trivial)) z (by kernel_rfl)
noncomputable def b23 : Code := Tryz.f23.body.getD .skip
def A23 : List Nat := []
noncomputable def abstract_Fields (m : tModule) (con : Str) (preds : (List tPred)) : Option ((List tType) × Bool) :=
  (syntax_Con m con).bind fun r1 =>
  if (!r1.2.2) = true then
    some (([] : List tType), false)
  else
    (idx r1.1.Cons r1.2.1).bind fun x3 =>
    (abstract_mapped_2 x3.Fields r1.1 preds).bind fun r4 =>
    some (r4, true)
theorem abstract_Fields_ok {m : tModule} {con : Str} {preds : (List tPred)} {r : (List tType) × Bool} (h : abstract_Fields m con preds = some r) : CC Pg GE 23 [.agg (c_tModule m), .str con, sl c_tPred preds] (.tuple [sl c_tType r.1, .bool r.2]) [(0, 33)] := by
  obtain ⟨r1, br1, h⟩ := bnd h
  rcases ifs h with ⟨c2, h⟩ | ⟨c2, h⟩
  · obtain rfl := lf h
    have z := se (pc_tModule m) <| se (pcL c_tPred preds) <| sv (lk_tModule m) <| sca (syntax_Con_ok br1) <| sx pz61 <| sx (pcx_tData r1.1) <| sfz 2 [c_tData r1.1] [5, 8, 9, 10] [] (fb1' (m := 0) (b := 2) rfl (len_tData r1.1) rfl) (fb2 2 (cl_tData r1.1)) (fb3 (ex_tData r1.1)) <| sf (nofL 2 (clLs cl_tPred preds)) <| sg 0 c2 <| en (aI (rP (.tuple [sl c_tType ([] : List tType), .bool false])) <| (aI (cl_sl cl_tType ([] : List tType)) (aI trivial trivial)))
    exact C.evp (A := A23) mixed Tryz.call23 Tryz.func23 (c := b23) rfl (aI (cl_tModule m) (aI trivial (aI (cl_sl cl_tPred preds) trivial))) z (by kernel_rfl)
  · obtain ⟨x3, bx3, h⟩ := bnd h
    obtain ⟨r4, br4, h⟩ := bnd h
    obtain rfl := lf h
    have z := se (pc_tModule m) <| se (pcL c_tPred preds) <| sv (lk_tModule m) <| sca (syntax_Con_ok br1) <| sx pz61 <| sx (pcx_tData r1.1) <| sfz 2 [c_tData r1.1] [5, 8, 9, 10] [] (fb1' (m := 0) (b := 2) rfl (len_tData r1.1) rfl) (fb2 2 (cl_tData r1.1)) (fb3 (ex_tData r1.1)) <| sf (nofL 2 (clLs cl_tPred preds)) <| sg 0 c2 <| sv (fa_tData_61_3 r1.1) <| sv (lf_tData_3_59 r1.1) <| sv (sT59.ia (k := .i64) bx3) <| sv (fa_tCon_63_2 x3) <| sv (lf_tCon_2_27 x3) <| sca (abstract_mapped_2_ok br4) <| en (aI (rP (.tuple [sl c_tType r4, .bool true])) <| (aI (cl_sl cl_tType r4) (aI trivial trivial)))
    exact C.evp (A := A23) mixed Tryz.call23 Tryz.func23 (c := b23) rfl (aI (cl_tModule m) (aI trivial (aI (cl_sl cl_tPred preds) trivial))) z (by kernel_rfl)
noncomputable def b86 : Code := Tryz.f86.body.getD .skip
def A86 : List Nat := []
noncomputable def abstract_belonging_1 (a : tAbs) (a2 : Str) : Option (Bool) :=
  some (a.Name == a2)
theorem abstract_belonging_1_ok {a : tAbs} {a2 : Str} {r : Bool} (h : abstract_belonging_1 a a2 = some r) : CC Pg GE 86 [.agg (c_tAbs a), .eptr (cS a2)] (.bool r) [] := by
  obtain rfl := lf h
  have z := se (pc_tAbs a) <| sv (fa_tAbs_76_0 a) <| sv (lf_tAbs_0_9 a) <| sv (plook1 sc9 (.str a2) []) <| en (aI (rP (.bool (a.Name == a2))) <| trivial)
  exact C.evp (A := A86) mixed Tryz.call86 Tryz.func86 (c := b86) rfl (aI (cl_tAbs a) (aI (clS a2) trivial)) z (by kernel_rfl)
noncomputable def b85 : Code := Tryz.f85.body.getD .skip
def A85 : List Nat := [10, 17]
noncomputable def slices_IndexFunc_2_L1_S (s : (List tAbs)) (v : Str) (t7 : Int) (t8 : Int) : PSt := stt 19 [(0, sl c_tAbs s), (1, .func (.func 86) [] [.eptr (cS v)]), (7, .int .i64 t7), (8, .int .i64 t8)] [] []
noncomputable def slices_IndexFunc_2_L1_e (o : (Int) ⊕ (Unit)) : Exit := match o with
  | (.inl _) => .ret
  | (.inr _) => .exit 0
noncomputable def slices_IndexFunc_2_L1_s (s : (List tAbs)) (v : Str) (t7 : Int) (o : (Int) ⊕ (Unit)) : PSt := match o with
  | (.inl o) => stt 19 [(4, .int .i64 o)] [] []
  | (.inr o) => stt 19 [] [] []
noncomputable def slices_IndexFunc_2_L1_b (s : (List tAbs)) (v : Str) (t7 : Int) (t8 : Int) : Option ((Int) ⊕ ((Int) ⊕ (Unit))) :=
  if (decide (t8 < t7)) = true then
    (idx s t8).bind fun x2 =>
    (abstract_belonging_1 x2 v).bind fun r3 =>
    if r3 = true then
      some (.inr (.inl t8))
    else
      some (.inl (w64 (t8 + 1)))
  else
    some (.inr (.inr ()))
noncomputable def slices_IndexFunc_2_L1 (s : (List tAbs)) (v : Str) (t7 : Int) (t8 : Int) : Option ((Int) ⊕ (Unit)) := loop (fun (zz : Int) => slices_IndexFunc_2_L1_b s v t7 zz) t8
theorem slices_IndexFunc_2_L1_bok (s : (List tAbs)) (v : Str) (t7 : Int) (t8 : Int) {y : (Int) ⊕ ((Int) ⊕ (Unit))} (h : slices_IndexFunc_2_L1_b s v t7 t8 = some y) :
    Sat Pg GE 0 (cA b85 55) (LQ (fun (zz : Int) => slices_IndexFunc_2_L1_S s v t7 zz) slices_IndexFunc_2_L1_e (slices_IndexFunc_2_L1_s s v t7) y) (slices_IndexFunc_2_L1_S s v t7 t8) := by
  rcases ifs h with ⟨c1, h⟩ | ⟨c1, h⟩
  · obtain ⟨x2, bx2, h⟩ := bnd h
    obtain ⟨r3, br3, h⟩ := bnd h
    rcases ifs h with ⟨c4, h⟩ | ⟨c4, h⟩
    · obtain rfl := lf h
      have z := sg 0 c1 <| sv (sT24.ia (k := .i64) bx2) <| sv (lk_tAbs x2) <| sca (abstract_belonging_1_ok br3) <| sg 0 c4 <| eF (slices_IndexFunc_2_L1_e (.inl t8)) (slices_IndexFunc_2_L1_s s v t7 (.inl t8))
      exact overp (A := A85) mixed (by intro hx; cases hx) z (by kernel_rfl)
    · obtain rfl := lf h
      have z := sg 0 c1 <| sv (sT24.ia (k := .i64) bx2) <| sv (lk_tAbs x2) <| sca (abstract_belonging_1_ok br3) <| sg 0 c4 <| eF .normal (slices_IndexFunc_2_L1_S s v t7 (w64 (t8 + 1)))
      exact nextp (A := A85) mixed z (by kernel_rfl)
  · obtain rfl := lf h
    have z := sg 0 c1 <| eF (slices_IndexFunc_2_L1_e (.inr ())) (slices_IndexFunc_2_L1_s s v t7 (.inr ()))
    exact overp (A := A85) mixed (by intro hx; cases hx) z (by kernel_rfl)
theorem slices_IndexFunc_2_L1_ok (s : (List tAbs)) (v : Str) (t7 : Int) (t8 : Int) {x : (Int) ⊕ (Unit)} (h : slices_IndexFunc_2_L1 s v t7 t8 = some x) :
    Sat Pg GE 0 (.loop (cA b85 55)) (EX (slices_IndexFunc_2_L1_e x) (slices_IndexFunc_2_L1_s s v t7 x)) (slices_IndexFunc_2_L1_S s v t7 t8) :=
  Sat.loop (S := fun (zz : Int) => slices_IndexFunc_2_L1_S s v t7 zz) (ex := slices_IndexFunc_2_L1_e) (s := t8) h fun zz y hy => slices_IndexFunc_2_L1_bok s v t7 zz hy
noncomputable def slices_IndexFunc_2 (s : (List tAbs)) (c : Str) : Option (Int) :=
  (slices_IndexFunc_2_L1 s c (s.length : Int) 0).bind fun o5 => match o5 with
  | (.inl o5) =>
    some o5
  | (.inr o5) =>
    some (-1)
theorem slices_IndexFunc_2_ok {s : (List tAbs)} {c : Str} {r : Int} (h : slices_IndexFunc_2 s c = some r) : CC Pg GE 85 [sl c_tAbs s, .func (.func 86) [] [.eptr (cS c)]] (.int .i64 r) [] := by
  obtain ⟨o5, bo5, h⟩ := bnd h
  rcases o5 with o5 | o5
  · obtain rfl := lf h
    have z := svn (sT24.ln s) <| spc (e := .ret) (s1 := slices_IndexFunc_2_L1_s s c (s.length : Int) (.inl o5)) (slices_IndexFunc_2_L1_ok s c (s.length : Int) 0 bo5) <| en (aI (rP (.int .i64 o5)) <| trivial)
    exact C.evp (A := A85) mixed Tryz.call85 Tryz.func85 (c := b85) rfl (aI (cl_sl cl_tAbs s) (aI (aI trivial (aI (clS c) trivial)) trivial)) z (by kernel_rfl)
  · obtain rfl := lf h
    have z := svn (sT24.ln s) <| spc (e := .exit 0) (s1 := slices_IndexFunc_2_L1_s s c (s.length : Int) (.inr o5)) (slices_IndexFunc_2_L1_ok s c (s.length : Int) 0 bo5) <| en (aI (rP (.int .i64 (-1))) <| trivial)
    exact C.evp (A := A85) mixed Tryz.call85 Tryz.func85 (c := b85) rfl (aI (cl_sl cl_tAbs s) (aI (aI trivial (aI (clS c) trivial)) trivial)) z (by kernel_rfl)
end Go.Proofs.YtgldgpdhblndkaaGreatDoor
