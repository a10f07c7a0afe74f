/-
  WHAT IS PROVED: parts of the proof, put together by a program out of smaller texts (G5). Conditions: none.
-/
import Derived.Test.YtgldgpdhblndkaaGreatDoorPkB36
namespace Go.Proofs.YtgldgpdhblndkaaGreatDoor
open Go
set_option linter.unusedVariables false
set_option maxRecDepth 100000
noncomputable def b57 : Code := Tryz.f57.body.getD .skip
def A57 : List Nat := []
noncomputable def abstract_Pred_1 (R56 : T_abstract_Pred) (k : tPred) (a : (List tAbs)) (a2 : (List tHole)) : Option (tPred) :=
  (R56 k a a2).bind fun r1 =>
  some r1
theorem abstract_Pred_1_ok (R56 : T_abstract_Pred) (hR56 : H_abstract_Pred R56) {k : tPred} {a : (List tAbs)} {a2 : (List tHole)} {r : tPred} (h : abstract_Pred_1 R56 k a a2 = some r) : CC Pg GE 57 [.agg (c_tPred k), .eptr ((cL c_tAbs) a), .eptr ((cL c_tHole) a2)] (.agg (c_tPred r)) [] := by
  obtain ⟨r1, br1, h⟩ := bnd h
  obtain rfl := lf h
  have z := se (pc_tPred k) <| sx pz31 <| sv (lk_tPred k) <| sv (plook1 sc24 (sl c_tAbs a) []) <| sv (plook1 sc38 (sl c_tHole a2) []) <| sca (hR56 _ _ _ _ br1) <| sx (pcx_tPred r1) <| en (aI (rex_tPred r1) <| (cl_tPred r1))
  exact C.evp (A := A57) mixed Tryz.call57 Tryz.func57 (c := b57) rfl (aI (cl_tPred k) (aI (clLs cl_tAbs a) (aI (clLs cl_tHole a2) trivial))) z (by kernel_rfl)
noncomputable def abstract_mapped_7_L1_S (v : (List tAbs)) (v2 : (List tHole)) (out : (List tPred)) (t8 : (List tPred)) (t9 : Int) (t10 : Int) : PSt := stt 22 [(1, .func (.func 57) [] [.eptr ((cL c_tAbs) v), .eptr ((cL c_tHole) v2)]), (5, sl c_tPred out), (8, sl c_tPred t8), (9, .int .i64 t9), (10, .int .i64 t10)] [] [((5, 0), 31)]
noncomputable def abstract_mapped_7_L1_s (v : (List tAbs)) (v2 : (List tHole)) (t8 : (List tPred)) (t9 : Int) (o : (List tPred)) : PSt := stt 22 [(5, sl c_tPred o)] [] [((5, 0), 31)]
noncomputable def abstract_mapped_7_L1_b (R56 : T_abstract_Pred) (v : (List tAbs)) (v2 : (List tHole)) (t8 : (List tPred)) (t9 : Int) (out : (List tPred)) (t10 : Int) : Option (((List tPred) × Int) ⊕ (((List tPred)))) :=
  if (decide (t10 < t9)) = true then
    (idx t8 t10).bind fun x2 =>
    (abstract_Pred_1 R56 x2 v v2).bind fun r3 =>
    (app out ([r3] : List tPred)).bind fun l4 =>
    some (.inl (l4, w64 (t10 + 1)))
  else
    some (.inr out)
noncomputable def abstract_mapped_7_L1 (R56 : T_abstract_Pred) (v : (List tAbs)) (v2 : (List tHole)) (t8 : (List tPred)) (t9 : Int) (out : (List tPred)) (t10 : Int) : Option (((List tPred))) := loop (fun (zz : (List tPred) × Int) => abstract_mapped_7_L1_b R56 v v2 t8 t9 zz.1 zz.2) (out, t10)
theorem abstract_mapped_7_L1_bok (R56 : T_abstract_Pred) (hR56 : H_abstract_Pred R56) (v : (List tAbs)) (v2 : (List tHole)) (out : (List tPred)) (t8 : (List tPred)) (t9 : Int) (t10 : Int) {y : ((List tPred) × Int) ⊕ (((List tPred)))} (h : abstract_mapped_7_L1_b R56 v v2 t8 t9 out t10 = some y) :
    Sat Pg GE 0 (cA b56 119) (LQ (fun (zz : (List tPred) × Int) => abstract_mapped_7_L1_S v v2 zz.1 t8 t9 zz.2) (fun _ => .exit 0) (abstract_mapped_7_L1_s v v2 t8 t9) y) (abstract_mapped_7_L1_S v v2 out t8 t9 t10) := by
  rcases ifs h with ⟨c1, h⟩ | ⟨c1, h⟩
  · obtain ⟨x2, bx2, h⟩ := bnd h
    obtain ⟨r3, br3, h⟩ := bnd h
    obtain ⟨l4, bl4, h⟩ := bnd h
    obtain rfl := lf h
    have z := sg 0 c1 <| sv (sT29.ia (k := .i64) bx2) <| sv (lk_tPred x2) <| sx pz31 <| sx (pcx_tPred x2) <| sv (lkx_tPred x2 []) <| sca (abstract_Pred_1_ok R56 hR56 br3) <| sv (sT29.mk' (v := v_tPred) pcA_tPred ([r3] : List tPred) 1 (by kernel_rfl)) <| sv (sT29.ap bl4) <| eFx 0 .normal (abstract_mapped_7_L1_S v v2 l4 t8 t9 (w64 (t10 + 1))) rfl (cl_tm (aI (aI trivial (aI (clL_up (clLs cl_tAbs v)) (aI (clL_up (clLs cl_tHole v2)) trivial))) (aI (up (cl_sl cl_tPred l4)) (aI (up (cl_sl cl_tPred t8)) (aI trivial (aI trivial trivial)))))) trivial
    exact nextxp (A := A56) mixed z (by kernel_rfl)
  · obtain rfl := lf h
    have z := sg 0 c1 <| eF (.exit 0) (abstract_mapped_7_L1_s v v2 t8 t9 out)
    exact overp (A := A56) mixed (by intro hx; cases hx) z (by kernel_rfl)
theorem abstract_mapped_7_L1_ok (R56 : T_abstract_Pred) (hR56 : H_abstract_Pred R56) (v : (List tAbs)) (v2 : (List tHole)) (out : (List tPred)) (t8 : (List tPred)) (t9 : Int) (t10 : Int) {x : ((List tPred))} (h : abstract_mapped_7_L1 R56 v v2 t8 t9 out t10 = some x) :
    Sat Pg GE 0 (.loop (cA b56 119)) (EX (.exit 0) (abstract_mapped_7_L1_s v v2 t8 t9 x)) (abstract_mapped_7_L1_S v v2 out t8 t9 t10) :=
  Sat.loop (S := fun (zz : (List tPred) × Int) => abstract_mapped_7_L1_S v v2 zz.1 t8 t9 zz.2) (ex := (fun _ => .exit 0)) (s := (out, t10)) h fun zz y hy => abstract_mapped_7_L1_bok R56 hR56 v v2 zz.1 t8 t9 zz.2 hy
noncomputable def abstract_mapped_7 (R56 : T_abstract_Pred) (a : (List tPred)) (c : (List tAbs)) (c2 : (List tHole)) : Option ((List tPred)) :=
  (abstract_mapped_7_L1 R56 c c2 a (a.length : Int) ([] : List tPred) 0).bind fun o5 =>
  some o5
theorem abstract_mapped_7_ok (R56 : T_abstract_Pred) (hR56 : H_abstract_Pred R56) {a : (List tPred)} {c : (List tAbs)} {c2 : (List tHole)} {r : (List tPred)} (h : abstract_mapped_7 R56 a c c2 = some r) : CC Pg GE 56 [sl c_tPred a, .func (.func 57) [] [.eptr ((cL c_tAbs) c), .eptr ((cL c_tHole) c2)]] (sl c_tPred r) [(0, 31)] := by
  obtain ⟨o5, bo5, h⟩ := bnd h
  obtain rfl := lf h
  have z := svn (sT29.ln a) <| spc (abstract_mapped_7_L1_ok R56 hR56 c c2 ([] : List tPred) a (a.length : Int) 0 bo5) <| en (aI (rP (sl c_tPred o5)) <| (cl_sl cl_tPred o5))
  exact C.evp (A := A56) mixed Tryz.call56 Tryz.func56 (c := b56) rfl (aI (cl_sl cl_tPred a) (aI (aI trivial (aI (clLs cl_tAbs c) (aI (clLs cl_tHole c2) trivial))) trivial)) z (by kernel_rfl)
noncomputable def b97 : Code := Tryz.f97.body.getD .skip
def A97 : List Nat := []
noncomputable def abstract_applied_1 (v : tVar) : Option (tPred) :=
  some (⟨3, v.Name, 0, ([] : List tPred)⟩ : tPred)
theorem abstract_applied_1_ok {v : tVar} {r : tPred} (h : abstract_applied_1 v = some r) : CC Pg GE 97 [.agg (c_tVar v)] (.agg (c_tPred r)) [(3, 31)] := by
  obtain rfl := lf h
  have z := se (pc_tVar v) <| sx pz31 <| sv (fa_tVar_88_0 v) <| sv (lf_tVar_0_9 v) <| sb (bu_tPred_0_1 3 v.Name) (bn_tPred_0_1 3 v.Name) <| sy (ex_tPred (⟨3, v.Name, 0, ([] : List tPred)⟩ : tPred)) <| en (aI (rex_tPred (⟨3, v.Name, 0, ([] : List tPred)⟩ : tPred)) <| aI (cl_tPred (⟨3, v.Name, 0, ([] : List tPred)⟩ : tPred)) <| rT)
  exact C.evp (A := A97) mixed Tryz.call97 Tryz.func97 (c := b97) rfl (aI (cl_tVar v) trivial) z (by kernel_rfl)
noncomputable def b96 : Code := Tryz.f96.body.getD .skip
def A96 : List Nat := [14, 21]
noncomputable def abstract_mapped_8_L1_S (out : (List tPred)) (t8 : (List tVar)) (t9 : Int) (t10 : Int) : PSt := stt 22 [(1, .func (.func 97) [] []), (5, sl c_tPred out), (8, sl c_tVar t8), (9, .int .i64 t9), (10, .int .i64 t10)] [] [((5, 0), 31)]
noncomputable def abstract_mapped_8_L1_s (t8 : (List tVar)) (t9 : Int) (o : (List tPred)) : PSt := stt 22 [(5, sl c_tPred o)] [] [((5, 0), 31)]
noncomputable def abstract_mapped_8_L1_b (t8 : (List tVar)) (t9 : Int) (out : (List tPred)) (t10 : Int) : Option (((List tPred) × Int) ⊕ (((List tPred)))) :=
  if (decide (t10 < t9)) = true then
    (idx t8 t10).bind fun x2 =>
    (abstract_applied_1 x2).bind fun r3 =>
    (app out ([r3] : List tPred)).bind fun l4 =>
    some (.inl (l4, w64 (t10 + 1)))
  else
    some (.inr out)
noncomputable def abstract_mapped_8_L1 (t8 : (List tVar)) (t9 : Int) (out : (List tPred)) (t10 : Int) : Option (((List tPred))) := loop (fun (zz : (List tPred) × Int) => abstract_mapped_8_L1_b t8 t9 zz.1 zz.2) (out, t10)
theorem abstract_mapped_8_L1_bok (out : (List tPred)) (t8 : (List tVar)) (t9 : Int) (t10 : Int) {y : ((List tPred) × Int) ⊕ (((List tPred)))} (h : abstract_mapped_8_L1_b t8 t9 out t10 = some y) :
    Sat Pg GE 0 (cA b96 119) (LQ (fun (zz : (List tPred) × Int) => abstract_mapped_8_L1_S zz.1 t8 t9 zz.2) (fun _ => .exit 0) (abstract_mapped_8_L1_s t8 t9) y) (abstract_mapped_8_L1_S out t8 t9 t10) := by
  rcases ifs h with ⟨c1, h⟩ | ⟨c1, h⟩
  · obtain ⟨x2, bx2, h⟩ := bnd h
    obtain ⟨r3, br3, h⟩ := bnd h
    obtain ⟨l4, bl4, h⟩ := bnd h
    obtain rfl := lf h
    have z := sg 0 c1 <| sv (sT36.ia (k := .i64) bx2) <| sv (lk_tVar x2) <| sx pz88 <| sx (pcx_tVar x2) <| sv (lkx_tVar x2 []) <| sca (abstract_applied_1_ok br3) <| sv (sT29.mk' (v := v_tPred) pcA_tPred ([r3] : List tPred) 1 (by kernel_rfl)) <| sv (sT29.ap bl4) <| eFx 0 .normal (abstract_mapped_8_L1_S l4 t8 t9 (w64 (t10 + 1))) rfl (cl_tm (aI (aI trivial trivial) (aI (up (cl_sl cl_tPred l4)) (aI (up (cl_sl cl_tVar t8)) (aI trivial (aI trivial trivial)))))) trivial
    exact nextxp (A := A96) mixed z (by kernel_rfl)
  · obtain rfl := lf h
    have z := sg 0 c1 <| eF (.exit 0) (abstract_mapped_8_L1_s t8 t9 out)
    exact overp (A := A96) mixed (by intro hx; cases hx) z (by kernel_rfl)
theorem abstract_mapped_8_L1_ok (out : (List tPred)) (t8 : (List tVar)) (t9 : Int) (t10 : Int) {x : ((List tPred))} (h : abstract_mapped_8_L1 t8 t9 out t10 = some x) :
    Sat Pg GE 0 (.loop (cA b96 119)) (EX (.exit 0) (abstract_mapped_8_L1_s t8 t9 x)) (abstract_mapped_8_L1_S out t8 t9 t10) :=
  Sat.loop (S := fun (zz : (List tPred) × Int) => abstract_mapped_8_L1_S zz.1 t8 t9 zz.2) (ex := (fun _ => .exit 0)) (s := (out, t10)) h fun zz y hy => abstract_mapped_8_L1_bok zz.1 t8 t9 zz.2 hy
noncomputable def abstract_mapped_8 (a : (List tVar)) : Option ((List tPred)) :=
  (abstract_mapped_8_L1 a (a.length : Int) ([] : List tPred) 0).bind fun o5 =>
  some o5
theorem abstract_mapped_8_ok {a : (List tVar)} {r : (List tPred)} (h : abstract_mapped_8 a = some r) : CC Pg GE 96 [sl c_tVar a, .func (.func 97) [] []] (sl c_tPred r) [(0, 31)] := by
  obtain ⟨o5, bo5, h⟩ := bnd h
  obtain rfl := lf h
  have z := svn (sT36.ln a) <| spc (abstract_mapped_8_L1_ok ([] : List tPred) a (a.length : Int) 0 bo5) <| en (aI (rP (sl c_tPred o5)) <| (cl_sl cl_tPred o5))
  exact C.evp (A := A96) mixed Tryz.call96 Tryz.func96 (c := b96) rfl (aI (cl_sl cl_tVar a) (aI (aI trivial trivial) trivial)) z (by kernel_rfl)
noncomputable def b58 : Code := Tryz.f58.body.getD .skip
def A58 : List Nat := []
noncomputable def abstract_applied (name : Str) (a : tPred) (a2 : (List tVar)) : Option (tPred) :=
  (abstract_mapped_8 a2).bind fun r1 =>
  (app ([a] : List tPred) r1).bind fun l2 =>
  some (⟨5, name, 0, l2⟩ : tPred)
theorem abstract_applied_ok {name : Str} {a : tPred} {a2 : (List tVar)} {r : tPred} (h : abstract_applied name a a2 = some r) : CC Pg GE 58 [.str name, .agg (c_tPred a), sl c_tVar a2] (.agg (c_tPred r)) [] := by
  obtain ⟨r1, br1, h⟩ := bnd h
  obtain ⟨l2, bl2, h⟩ := bnd h
  obtain rfl := lf h
  have z := se (pc_tPred a) <| sx pz31 <| sdr [0, 1, 0, 4, 15, 31] <| sv (lk_tPred a) <| sv (sT29.mk' (v := v_tPred) pcA_tPred ([a] : List tPred) 1 (by kernel_rfl)) <| sca (abstract_mapped_8_ok br1) <| sv (sT29.ap bl2) <| sv (bu_tPred_0_1_3 5 name l2) <| sx (pcx_tPred (⟨5, name, 0, l2⟩ : tPred)) <| en (aI (rex_tPred (⟨5, name, 0, l2⟩ : tPred)) <| (cl_tPred (⟨5, name, 0, l2⟩ : tPred)))
  exact C.evp (A := A58) mixed Tryz.call58 Tryz.func58 (c := b58) rfl (aI trivial (aI (cl_tPred a) (aI (cl_sl cl_tVar a2) trivial))) z (by kernel_rfl)
noncomputable def b19 : Code := Tryz.f19.body.getD .skip
def A19 : List Nat := []
noncomputable def abstract_Pred_J1_S (p : tPred) (abs : (List tAbs)) (holes : (List tHole)) (m : (List tPred)) (m2 : Int) (m3 : Str) (m4 : Int) (m5 : (List tPred)) : PSt := stt 52 [(3, .eptr (c_tPred p)), (4, .eptr ((cL c_tAbs) abs)), (5, .eptr ((cL c_tHole) holes)), (6, .bptr 3 0), (7, .bptr 4 0)] [.dead, .dead, .dead, .cells [.int .i64 0, .str ([] : Str), .int .i64 0, sl c_tPred m] [(3, 31)], .cells [.int .i64 m2, .str m3, .int .i64 m4, sl c_tPred m5] [(3, 31)]] []
noncomputable def abstract_Pred_J1_s (p : tPred) (abs : (List tAbs)) (holes : (List tHole)) (m : (List tPred)) (m2 : Int) (m3 : Str) (m4 : Int) (m5 : (List tPred)) (o : Bool) : PSt := stt 52 [(3, .eptr (c_tPred p)), (4, .eptr ((cL c_tAbs) abs)), (5, .eptr ((cL c_tHole) holes)), (6, .bptr 3 0), (7, .bptr 4 0), (30, .bool o)] [.dead, .dead, .dead, .cells [.int .i64 0, .str ([] : Str), .int .i64 0, sl c_tPred m] [(3, 31)], .cells [.int .i64 m2, .str m3, .int .i64 m4, sl c_tPred m5] [(3, 31)]] []
noncomputable def abstract_Pred_J1 (R56 : T_abstract_Pred) (p : tPred) : Option ((Bool)) :=
  if (p.Op != 4) = true then
    some true
  else
    some ((p.Kids.length : Int) != 1)
theorem abstract_Pred_J1_ok (R56 : T_abstract_Pred) (hR56 : H_abstract_Pred R56) (p : tPred) (abs : (List tAbs)) (holes : (List tHole)) (m : (List tPred)) (m2 : Int) (m3 : Str) (m4 : Int) (m5 : (List tPred)) {x : (Bool)} (h : abstract_Pred_J1 R56 p = some x) :
    Sat Pg GE 0 (cA b19 60) (EX .normal (abstract_Pred_J1_s p abs holes m m2 m3 m4 m5 x)) (abstract_Pred_J1_S p abs holes m m2 m3 m4 m5) := by
  rcases ifs h with ⟨c2, h⟩ | ⟨c2, h⟩
  · obtain rfl := lf h
    have z := sv (fa_tPred_31_0 p) <| sv (lf_tPred_0_28 p) <| sg 4 c2 <| eF .normal (abstract_Pred_J1_s p abs holes m m2 m3 m4 m5 true)
    exact piecep (A := A19) mixed z (by kernel_rfl)
  · obtain rfl := lf h
    have z := sv (fa_tPred_31_0 p) <| sv (lf_tPred_0_28 p) <| sg 4 c2 <| sv (fa_tPred_31_3 p) <| sv (lf_tPred_3_29 p) <| svn (sT29.ln p.Kids) <| eF .normal (abstract_Pred_J1_s p abs holes m m2 m3 m4 m5 ((p.Kids.length : Int) != 1))
    exact piecep (A := A19) mixed z (by kernel_rfl)
noncomputable def abstract_Pred_B (R56 : T_abstract_Pred) (p : tPred) (abs : (List tAbs)) (holes : (List tHole)) : Option (tPred) :=
  (abstract_mapped_7 R56 p.Kids abs holes).bind fun r1 =>
  (abstract_Pred_J1 R56 p).bind fun o3 =>
  if o3 = true then
    some (⟨p.Op, p.Name, p.N, r1⟩ : tPred)
  else
    (abstract_belonging abs holes p.Name).bind fun r5 =>
    if (!r5.2) = true then
      some (⟨p.Op, p.Name, p.N, r1⟩ : tPred)
    else
      (idx r1 0).bind fun x7 =>
      (abstract_scope r5.1).bind fun r8 =>
      (abstract_applied r5.1.Name x7 r8).bind fun r9 =>
      some r9
theorem abstract_Pred_Bok (R56 : T_abstract_Pred) (hR56 : H_abstract_Pred R56) {p : tPred} {abs : (List tAbs)} {holes : (List tHole)} {r : tPred} (h : abstract_Pred_B R56 p abs holes = some r) : CC Pg GE 19 [.agg (c_tPred p), sl c_tAbs abs, sl c_tHole holes] (.agg (c_tPred r)) [] := by
  obtain ⟨r1, br1, h⟩ := bnd h
  obtain ⟨o3, bo3, h⟩ := bnd h
  rcases ifs h with ⟨c4, h⟩ | ⟨c4, h⟩
  · obtain rfl := lf h
    have z := se (pc_tPred p) <| se (pcL c_tAbs abs) <| se (pcL c_tHole holes) <| sx pz31 <| sv (fa_tPred_31_0 p) <| sv (lf_tPred_0_28 p) <| sv (fa_tPred_31_1 p) <| sv (lf_tPred_1_9 p) <| sv (fa_tPred_31_2 p) <| sv (lf_tPred_2_3 p) <| sb (bu_tPred_0_1_2 p.Op p.Name p.N) (bn_tPred_0_1_2 p.Op p.Name p.N) <| sx pz31 <| sy (ex_tPred (⟨p.Op, p.Name, p.N, ([] : List tPred)⟩ : tPred)) <| sv (fa_tPred_31_3 p) <| sv (lf_tPred_3_29 p) <| sca (abstract_mapped_7_ok R56 hR56 br1) <| spa 1 <| spc (abstract_Pred_J1_ok R56 hR56 p abs holes ([] : List tPred) p.Op p.Name p.N r1 bo3) <| sg 0 c4 <| sz (lkx_tPred (⟨p.Op, p.Name, p.N, r1⟩ : tPred) []) <| sy (ex_tPred (⟨p.Op, p.Name, p.N, r1⟩ : tPred)) <| en (aI (rex_tPred (⟨p.Op, p.Name, p.N, r1⟩ : tPred)) <| (cl_tPred (⟨p.Op, p.Name, p.N, r1⟩ : tPred)))
    exact C.evp (A := A19) mixed Tryz.call19 Tryz.func19 (c := b19) rfl (aI (cl_tPred p) (aI (cl_sl cl_tAbs abs) (aI (cl_sl cl_tHole holes) trivial))) z (by kernel_rfl)
  · obtain ⟨r5, br5, h⟩ := bnd h
    rcases ifs h with ⟨c6, h⟩ | ⟨c6, h⟩
    · obtain rfl := lf h
      have z := se (pc_tPred p) <| se (pcL c_tAbs abs) <| se (pcL c_tHole holes) <| sx pz31 <| sv (fa_tPred_31_0 p) <| sv (lf_tPred_0_28 p) <| sv (fa_tPred_31_1 p) <| sv (lf_tPred_1_9 p) <| sv (fa_tPred_31_2 p) <| sv (lf_tPred_2_3 p) <| sb (bu_tPred_0_1_2 p.Op p.Name p.N) (bn_tPred_0_1_2 p.Op p.Name p.N) <| sx pz31 <| sy (ex_tPred (⟨p.Op, p.Name, p.N, ([] : List tPred)⟩ : tPred)) <| sv (fa_tPred_31_3 p) <| sv (lf_tPred_3_29 p) <| sca (abstract_mapped_7_ok R56 hR56 br1) <| spa 1 <| spc (abstract_Pred_J1_ok R56 hR56 p abs holes ([] : List tPred) p.Op p.Name p.N r1 bo3) <| sg 0 c4 <| sv (plook1 sc24 (sl c_tAbs abs) []) <| sv (plook1 sc38 (sl c_tHole holes) []) <| sv (fa_tPred_31_1 p) <| sv (lf_tPred_1_9 p) <| sca (abstract_belonging_ok br5) <| sx pz82 <| sx (pcx_tHole r5.1) <| sg 0 c6 <| sz (lkx_tPred (⟨p.Op, p.Name, p.N, r1⟩ : tPred) []) <| sy (ex_tPred (⟨p.Op, p.Name, p.N, r1⟩ : tPred)) <| en (aI (rex_tPred (⟨p.Op, p.Name, p.N, r1⟩ : tPred)) <| (cl_tPred (⟨p.Op, p.Name, p.N, r1⟩ : tPred)))
      exact C.evp (A := A19) mixed Tryz.call19 Tryz.func19 (c := b19) rfl (aI (cl_tPred p) (aI (cl_sl cl_tAbs abs) (aI (cl_sl cl_tHole holes) trivial))) z (by kernel_rfl)
    · obtain ⟨x7, bx7, h⟩ := bnd h
      obtain ⟨r8, br8, h⟩ := bnd h
      obtain ⟨r9, br9, h⟩ := bnd h
      obtain rfl := lf h
      have z := se (pc_tPred p) <| se (pcL c_tAbs abs) <| se (pcL c_tHole holes) <| sx pz31 <| sv (fa_tPred_31_0 p) <| sv (lf_tPred_0_28 p) <| sv (fa_tPred_31_1 p) <| sv (lf_tPred_1_9 p) <| sv (fa_tPred_31_2 p) <| sv (lf_tPred_2_3 p) <| sb (bu_tPred_0_1_2 p.Op p.Name p.N) (bn_tPred_0_1_2 p.Op p.Name p.N) <| sx pz31 <| sy (ex_tPred (⟨p.Op, p.Name, p.N, ([] : List tPred)⟩ : tPred)) <| sv (fa_tPred_31_3 p) <| sv (lf_tPred_3_29 p) <| sca (abstract_mapped_7_ok R56 hR56 br1) <| spa 1 <| spc (abstract_Pred_J1_ok R56 hR56 p abs holes ([] : List tPred) p.Op p.Name p.N r1 bo3) <| sg 0 c4 <| sv (plook1 sc24 (sl c_tAbs abs) []) <| sv (plook1 sc38 (sl c_tHole holes) []) <| sv (fa_tPred_31_1 p) <| sv (lf_tPred_1_9 p) <| sca (abstract_belonging_ok br5) <| sx pz82 <| sx (pcx_tHole r5.1) <| sg 0 c6 <| sdr [0, 1, 0, 4, 12, 28, 0, 64, 255, 511] <| ss <| ss <| sv (sT29.ia (k := .i64) bx7) <| sv (lk_tPred x7) <| sv (lkx_tHole r5.1 []) <| sca (abstract_scope_ok br8) <| sca (abstract_applied_ok br9) <| sx (pcx_tPred r9) <| en (aI (rex_tPred r9) <| (cl_tPred r9))
      exact C.evp (A := A19) mixed Tryz.call19 Tryz.func19 (c := b19) rfl (aI (cl_tPred p) (aI (cl_sl cl_tAbs abs) (aI (cl_sl cl_tHole holes) trivial))) z (by kernel_rfl)
noncomputable def abstract_Pred_F : ((tPred × (List tAbs) × (List tHole)) → Option (tPred)) → (tPred × (List tAbs) × (List tHole)) → Option (tPred) := fun (rec : (tPred × (List tAbs) × (List tHole)) → Option (tPred)) (x : tPred × (List tAbs) × (List tHole)) => abstract_Pred_B (fun p abs holes => rec (p, abs, holes)) x.1 x.2.1 x.2.2
noncomputable def abstract_Pred (p : tPred) (abs : (List tAbs)) (holes : (List tHole)) : Option (tPred) := fixE (abstract_Pred_F) (p, abs, holes)
theorem abstract_Pred_ok {p : tPred} {abs : (List tAbs)} {holes : (List tHole)} {r : tPred} (h : abstract_Pred p abs holes = some r) : CC Pg GE 19 [.agg (c_tPred p), sl c_tAbs abs, sl c_tHole holes] (.agg (c_tPred r)) [] :=
  fixE_ind (F := abstract_Pred_F) (M := fun (x : tPred × (List tAbs) × (List tHole)) (r : tPred) => CC Pg GE 19 [.agg (c_tPred x.1), sl c_tAbs x.2.1, sl c_tHole x.2.2] (.agg (c_tPred r)) []) (fun rec hrec x r h => abstract_Pred_Bok _ (fun p abs holes r h => hrec (p, abs, holes) r h) h) h
noncomputable def b53 : Code := Tryz.f53.body.getD .skip
def A53 : List Nat := []
noncomputable def abstract_Inst_1 (p : tPred) (a : (List tAbs)) (a2 : (List tHole)) : Option (tPred) :=
  (abstract_Pred p a a2).bind fun r1 =>
  some r1
theorem abstract_Inst_1_ok {p : tPred} {a : (List tAbs)} {a2 : (List tHole)} {r : tPred} (h : abstract_Inst_1 p a a2 = some r) : CC Pg GE 53 [.agg (c_tPred p), .eptr ((cL c_tAbs) a), .eptr ((cL c_tHole) a2)] (.agg (c_tPred r)) [] := by
  obtain ⟨r1, br1, h⟩ := bnd h
  obtain rfl := lf h
  have z := se (pc_tPred p) <| sx pz31 <| sv (lk_tPred p) <| sv (plook1 sc24 (sl c_tAbs a) []) <| sv (plook1 sc38 (sl c_tHole a2) []) <| sca (abstract_Pred_ok br1) <| sx (pcx_tPred r1) <| en (aI (rex_tPred r1) <| (cl_tPred r1))
  exact C.evp (A := A53) mixed Tryz.call53 Tryz.func53 (c := b53) rfl (aI (cl_tPred p) (aI (clLs cl_tAbs a) (aI (clLs cl_tHole a2) trivial))) z (by kernel_rfl)
noncomputable def abstract_mapped_9_L1_S (v : (List tAbs)) (v2 : (List tHole)) (out : (List tPred)) (t8 : (List tPred)) (t9 : Int) (t10 : Int) : PSt := stt 22 [(1, .func (.func 53) [] [.eptr ((cL c_tAbs) v), .eptr ((cL c_tHole) v2)]), (5, sl c_tPred out), (8, sl c_tPred t8), (9, .int .i64 t9), (10, .int .i64 t10)] [] [((5, 0), 31)]
noncomputable def abstract_mapped_9_L1_s (v : (List tAbs)) (v2 : (List tHole)) (t8 : (List tPred)) (t9 : Int) (o : (List tPred)) : PSt := stt 22 [(5, sl c_tPred o)] [] [((5, 0), 31)]
noncomputable def abstract_mapped_9_L1_b (v : (List tAbs)) (v2 : (List tHole)) (t8 : (List tPred)) (t9 : Int) (out : (List tPred)) (t10 : Int) : Option (((List tPred) × Int) ⊕ (((List tPred)))) :=
  if (decide (t10 < t9)) = true then
    (idx t8 t10).bind fun x2 =>
    (abstract_Inst_1 x2 v v2).bind fun r3 =>
    (app out ([r3] : List tPred)).bind fun l4 =>
    some (.inl (l4, w64 (t10 + 1)))
  else
    some (.inr out)
noncomputable def abstract_mapped_9_L1 (v : (List tAbs)) (v2 : (List tHole)) (t8 : (List tPred)) (t9 : Int) (out : (List tPred)) (t10 : Int) : Option (((List tPred))) := loop (fun (zz : (List tPred) × Int) => abstract_mapped_9_L1_b v v2 t8 t9 zz.1 zz.2) (out, t10)
theorem abstract_mapped_9_L1_bok (v : (List tAbs)) (v2 : (List tHole)) (out : (List tPred)) (t8 : (List tPred)) (t9 : Int) (t10 : Int) {y : ((List tPred) × Int) ⊕ (((List tPred)))} (h : abstract_mapped_9_L1_b v v2 t8 t9 out t10 = some y) :
    Sat Pg GE 0 (cA b56 119) (LQ (fun (zz : (List tPred) × Int) => abstract_mapped_9_L1_S v v2 zz.1 t8 t9 zz.2) (fun _ => .exit 0) (abstract_mapped_9_L1_s v v2 t8 t9) y) (abstract_mapped_9_L1_S v v2 out t8 t9 t10) := by
  rcases ifs h with ⟨c1, h⟩ | ⟨c1, h⟩
  · obtain ⟨x2, bx2, h⟩ := bnd h
    obtain ⟨r3, br3, h⟩ := bnd h
    obtain ⟨l4, bl4, h⟩ := bnd h
    obtain rfl := lf h
    have z := sg 0 c1 <| sv (sT29.ia (k := .i64) bx2) <| sv (lk_tPred x2) <| sx pz31 <| sx (pcx_tPred x2) <| sv (lkx_tPred x2 []) <| sca (abstract_Inst_1_ok br3) <| sv (sT29.mk' (v := v_tPred) pcA_tPred ([r3] : List tPred) 1 (by kernel_rfl)) <| sv (sT29.ap bl4) <| eFx 0 .normal (abstract_mapped_9_L1_S v v2 l4 t8 t9 (w64 (t10 + 1))) rfl (cl_tm (aI (aI trivial (aI (clL_up (clLs cl_tAbs v)) (aI (clL_up (clLs cl_tHole v2)) trivial))) (aI (up (cl_sl cl_tPred l4)) (aI (up (cl_sl cl_tPred t8)) (aI trivial (aI trivial trivial)))))) trivial
    exact nextxp (A := A56) mixed z (by kernel_rfl)
  · obtain rfl := lf h
    have z := sg 0 c1 <| eF (.exit 0) (abstract_mapped_9_L1_s v v2 t8 t9 out)
    exact overp (A := A56) mixed (by intro hx; cases hx) z (by kernel_rfl)
theorem abstract_mapped_9_L1_ok (v : (List tAbs)) (v2 : (List tHole)) (out : (List tPred)) (t8 : (List tPred)) (t9 : Int) (t10 : Int) {x : ((List tPred))} (h : abstract_mapped_9_L1 v v2 t8 t9 out t10 = some x) :
    Sat Pg GE 0 (.loop (cA b56 119)) (EX (.exit 0) (abstract_mapped_9_L1_s v v2 t8 t9 x)) (abstract_mapped_9_L1_S v v2 out t8 t9 t10) :=
  Sat.loop (S := fun (zz : (List tPred) × Int) => abstract_mapped_9_L1_S v v2 zz.1 t8 t9 zz.2) (ex := (fun _ => .exit 0)) (s := (out, t10)) h fun zz y hy => abstract_mapped_9_L1_bok v v2 zz.1 t8 t9 zz.2 hy
noncomputable def abstract_mapped_9 (a : (List tPred)) (c : (List tAbs)) (c2 : (List tHole)) : Option ((List tPred)) :=
  (abstract_mapped_9_L1 c c2 a (a.length : Int) ([] : List tPred) 0).bind fun o5 =>
  some o5
theorem abstract_mapped_9_ok {a : (List tPred)} {c : (List tAbs)} {c2 : (List tHole)} {r : (List tPred)} (h : abstract_mapped_9 a c c2 = some r) : CC Pg GE 56 [sl c_tPred a, .func (.func 53) [] [.eptr ((cL c_tAbs) c), .eptr ((cL c_tHole) c2)]] (sl c_tPred r) [(0, 31)] := by
  obtain ⟨o5, bo5, h⟩ := bnd h
  obtain rfl := lf h
  have z := svn (sT29.ln a) <| spc (abstract_mapped_9_L1_ok c c2 ([] : List tPred) a (a.length : Int) 0 bo5) <| en (aI (rP (sl c_tPred o5)) <| (cl_sl cl_tPred o5))
  exact C.evp (A := A56) mixed Tryz.call56 Tryz.func56 (c := b56) rfl (aI (cl_sl cl_tPred a) (aI (aI trivial (aI (clLs cl_tAbs c) (aI (clLs cl_tHole c2) trivial))) trivial)) z (by kernel_rfl)
noncomputable def abstract_refined_1_2 (R54 : T_abstract_refined_2) (a : tType) (c : (List tAbs)) (c2 : (List tHole)) : Option (tType) :=
  (R54 a c c2).bind fun r1 =>
  some r1
theorem abstract_refined_1_2_ok (R54 : T_abstract_refined_2) (hR54 : H_abstract_refined_2 R54) {a : tType} {c : (List tAbs)} {c2 : (List tHole)} {r : tType} (h : abstract_refined_1_2 R54 a c c2 = some r) : CC Pg GE 88 [.agg (c_tType a), .eptr [.func (.func 53) [] [.eptr ((cL c_tAbs) c), .eptr ((cL c_tHole) c2)]]] (.agg (c_tType r)) [(2, 33)] := by
  obtain ⟨r1, br1, h⟩ := bnd h
  obtain rfl := lf h
  have z := se (pc_tType a) <| sx pz33 <| sv (lk_tType a) <| sv (plook1 sc103 (.func (.func 53) [] [.eptr ((cL c_tAbs) c), .eptr ((cL c_tHole) c2)]) []) <| sca (hR54 _ _ _ _ br1) <| sy (ex_tType r1) <| en (aI (rex_tType r1) <| aI (cl_tType r1) <| rT)
  exact C.evp (A := A88) mixed Tryz.call88 Tryz.func88 (c := b88) rfl (aI (cl_tType a) (aI (aI (aI trivial (aI (clLs cl_tAbs c) (aI (clLs cl_tHole c2) trivial))) trivial) trivial)) z (by kernel_rfl)
noncomputable def abstract_mapped_10_L1_S (v : (List tAbs)) (v2 : (List tHole)) (out : (List tType)) (t8 : (List tType)) (t9 : Int) (t10 : Int) : PSt := stt 22 [(1, .func (.func 88) [] [.eptr [.func (.func 53) [] [.eptr ((cL c_tAbs) v), .eptr ((cL c_tHole) v2)]]]), (5, sl c_tType out), (8, sl c_tType t8), (9, .int .i64 t9), (10, .int .i64 t10)] [] [((5, 0), 33)]
noncomputable def abstract_mapped_10_L1_s (v : (List tAbs)) (v2 : (List tHole)) (t8 : (List tType)) (t9 : Int) (o : (List tType)) : PSt := stt 22 [(5, sl c_tType o)] [] [((5, 0), 33)]
noncomputable def abstract_mapped_10_L1_b (R54 : T_abstract_refined_2) (v : (List tAbs)) (v2 : (List tHole)) (t8 : (List tType)) (t9 : Int) (out : (List tType)) (t10 : Int) : Option (((List tType) × Int) ⊕ (((List tType)))) :=
  if (decide (t10 < t9)) = true then
    (idx t8 t10).bind fun x2 =>
    (abstract_refined_1_2 R54 x2 v v2).bind fun r3 =>
    (app out ([r3] : List tType)).bind fun l4 =>
    some (.inl (l4, w64 (t10 + 1)))
  else
    some (.inr out)
noncomputable def abstract_mapped_10_L1 (R54 : T_abstract_refined_2) (v : (List tAbs)) (v2 : (List tHole)) (t8 : (List tType)) (t9 : Int) (out : (List tType)) (t10 : Int) : Option (((List tType))) := loop (fun (zz : (List tType) × Int) => abstract_mapped_10_L1_b R54 v v2 t8 t9 zz.1 zz.2) (out, t10)
theorem abstract_mapped_10_L1_bok (R54 : T_abstract_refined_2) (hR54 : H_abstract_refined_2 R54) (v : (List tAbs)) (v2 : (List tHole)) (out : (List tType)) (t8 : (List tType)) (t9 : Int) (t10 : Int) {y : ((List tType) × Int) ⊕ (((List tType)))} (h : abstract_mapped_10_L1_b R54 v v2 t8 t9 out t10 = some y) :
    Sat Pg GE 0 (cA b62 119) (LQ (fun (zz : (List tType) × Int) => abstract_mapped_10_L1_S v v2 zz.1 t8 t9 zz.2) (fun _ => .exit 0) (abstract_mapped_10_L1_s v v2 t8 t9) y) (abstract_mapped_10_L1_S v v2 out t8 t9 t10) := by
  rcases ifs h with ⟨c1, h⟩ | ⟨c1, h⟩
  · obtain ⟨x2, bx2, h⟩ := bnd h
    obtain ⟨r3, br3, h⟩ := bnd h
    obtain ⟨l4, bl4, h⟩ := bnd h
    obtain rfl := lf h
    have z := sg 0 c1 <| sv (sT27.ia (k := .i64) bx2) <| sv (lk_tType x2) <| sx pz33 <| sx (pcx_tType x2) <| sv (lkx_tType x2 []) <| sca (abstract_refined_1_2_ok R54 hR54 br3) <| sv (sT27.mk' (v := v_tType) pcA_tType ([r3] : List tType) 1 (by kernel_rfl)) <| sv (sT27.ap bl4) <| eFx 0 .normal (abstract_mapped_10_L1_S v v2 l4 t8 t9 (w64 (t10 + 1))) rfl (cl_tm (aI (aI trivial (aI (aI (aI trivial (aI (clL_up (clLs cl_tAbs v)) (aI (clL_up (clLs cl_tHole v2)) trivial))) trivial) trivial)) (aI (up (cl_sl cl_tType l4)) (aI (up (cl_sl cl_tType t8)) (aI trivial (aI trivial trivial)))))) trivial
    exact nextxp (A := A62) mixed z (by kernel_rfl)
  · obtain rfl := lf h
    have z := sg 0 c1 <| eF (.exit 0) (abstract_mapped_10_L1_s v v2 t8 t9 out)
    exact overp (A := A62) mixed (by intro hx; cases hx) z (by kernel_rfl)
theorem abstract_mapped_10_L1_ok (R54 : T_abstract_refined_2) (hR54 : H_abstract_refined_2 R54) (v : (List tAbs)) (v2 : (List tHole)) (out : (List tType)) (t8 : (List tType)) (t9 : Int) (t10 : Int) {x : ((List tType))} (h : abstract_mapped_10_L1 R54 v v2 t8 t9 out t10 = some x) :
    Sat Pg GE 0 (.loop (cA b62 119)) (EX (.exit 0) (abstract_mapped_10_L1_s v v2 t8 t9 x)) (abstract_mapped_10_L1_S v v2 out t8 t9 t10) :=
  Sat.loop (S := fun (zz : (List tType) × Int) => abstract_mapped_10_L1_S v v2 zz.1 t8 t9 zz.2) (ex := (fun _ => .exit 0)) (s := (out, t10)) h fun zz y hy => abstract_mapped_10_L1_bok R54 hR54 v v2 zz.1 t8 t9 zz.2 hy
noncomputable def abstract_mapped_10 (R54 : T_abstract_refined_2) (a : (List tType)) (c : (List tAbs)) (c2 : (List tHole)) : Option ((List tType)) :=
  (abstract_mapped_10_L1 R54 c c2 a (a.length : Int) ([] : List tType) 0).bind fun o5 =>
  some o5
theorem abstract_mapped_10_ok (R54 : T_abstract_refined_2) (hR54 : H_abstract_refined_2 R54) {a : (List tType)} {c : (List tAbs)} {c2 : (List tHole)} {r : (List tType)} (h : abstract_mapped_10 R54 a c c2 = some r) : CC Pg GE 62 [sl c_tType a, .func (.func 88) [] [.eptr [.func (.func 53) [] [.eptr ((cL c_tAbs) c), .eptr ((cL c_tHole) c2)]]]] (sl c_tType r) [(0, 33)] := by
  obtain ⟨o5, bo5, h⟩ := bnd h
  obtain rfl := lf h
  have z := svn (sT27.ln a) <| spc (abstract_mapped_10_L1_ok R54 hR54 c c2 ([] : List tType) a (a.length : Int) 0 bo5) <| en (aI (rP (sl c_tType o5)) <| (cl_sl cl_tType o5))
  exact C.evp (A := A62) mixed Tryz.call62 Tryz.func62 (c := b62) rfl (aI (cl_sl cl_tType a) (aI (aI trivial (aI (aI (aI trivial (aI (clLs cl_tAbs c) (aI (clLs cl_tHole c2) trivial))) trivial) trivial)) trivial)) z (by kernel_rfl)
noncomputable def abstract_refined_2_B (R54 : T_abstract_refined_2) (t : tType) (c : (List tAbs)) (c2 : (List tHole)) : Option (tType) :=
  (cloneF t.Names).bind fun r1 =>
  (abstract_Inst_1 t.Pred c c2).bind fun r2 =>
  (abstract_mapped_9 t.Preds c c2).bind fun r3 =>
  (abstract_mapped_10 R54 t.Args c c2).bind fun r4 =>
  some (⟨t.Op, t.Name, r4, r1, r2, r3⟩ : tType)
theorem abstract_refined_2_Bok (R54 : T_abstract_refined_2) (hR54 : H_abstract_refined_2 R54) {t : tType} {c : (List tAbs)} {c2 : (List tHole)} {r : tType} (h : abstract_refined_2_B R54 t c c2 = some r) : CC Pg GE 51 [.agg (c_tType t), .func (.func 53) [] [.eptr ((cL c_tAbs) c), .eptr ((cL c_tHole) c2)]] (.agg (c_tType r)) [(2, 33)] := by
  obtain ⟨r1, br1, h⟩ := bnd h
  obtain ⟨r2, br2, h⟩ := bnd h
  obtain ⟨r3, br3, h⟩ := bnd h
  obtain ⟨r4, br4, h⟩ := bnd h
  obtain rfl := lf h
  have z := se (pc_tType t) <| se (rfl : pcells (.func (.func 53) [] [.eptr ((cL c_tAbs) c), .eptr ((cL c_tHole) c2)]) = some [.func (.func 53) [] [.eptr ((cL c_tAbs) c), .eptr ((cL c_tHole) c2)]]) <| sx pz33 <| sdr [0, 1, 0, 4, 0, 16, 48, 0, 0, 256, 1008, 0, 2048, 0, 16368, 32767, 0, 131071] <| sv (fa_tType_33_0 t) <| sv (lf_tType_0_26 t) <| sv (fa_tType_33_1 t) <| sv (lf_tType_1_9 t) <| sv (fa_tType_33_3 t) <| sv (lf_tType_3_22 t) <| sca (clone87_ok br1) <| sv (plook1 sc103 (.func (.func 53) [] [.eptr ((cL c_tAbs) c), .eptr ((cL c_tHole) c2)]) []) <| sv (fa_tType_33_4 t) <| sv (lf_tType_4_31 t) <| sca (abstract_Inst_1_ok br2) <| sv (fa_tType_33_5 t) <| sv (lf_tType_8_29 t) <| sv (plook1 sc103 (.func (.func 53) [] [.eptr ((cL c_tAbs) c), .eptr ((cL c_tHole) c2)]) []) <| sca (abstract_mapped_9_ok br3) <| sb (bu_tType_0_1_3_4_5 t.Op t.Name r1 r2 r3) (bn_tType_0_1_3_4_5 t.Op t.Name r1 r2 r3) <| syx (pcx_tType (⟨t.Op, t.Name, ([] : List tType), r1, r2, r3⟩ : tType)) <| sv (fa_tType_33_2 t) <| sv (lf_tType_2_27 t) <| sca (abstract_mapped_10_ok R54 hR54 br4) <| sz (lkx_tType (⟨t.Op, t.Name, r4, r1, r2, r3⟩ : tType) []) <| sy (ex_tType (⟨t.Op, t.Name, r4, r1, r2, r3⟩ : tType)) <| en (aI (rex_tType (⟨t.Op, t.Name, r4, r1, r2, r3⟩ : tType)) <| aI (cl_tType (⟨t.Op, t.Name, r4, r1, r2, r3⟩ : tType)) <| rT)
  exact C.evp (A := A51) mixed Tryz.call51 Tryz.func51 (c := b51) rfl (aI (cl_tType t) (aI (aI trivial (aI (clLs cl_tAbs c) (aI (clLs cl_tHole c2) trivial))) trivial)) z (by kernel_rfl)
noncomputable def abstract_refined_2_F : ((tType × (List tAbs) × (List tHole)) → Option (tType)) → (tType × (List tAbs) × (List tHole)) → Option (tType) := fun (rec : (tType × (List tAbs) × (List tHole)) → Option (tType)) (x : tType × (List tAbs) × (List tHole)) => abstract_refined_2_B (fun t c c2 => rec (t, c, c2)) x.1 x.2.1 x.2.2
noncomputable def abstract_refined_2 (t : tType) (c : (List tAbs)) (c2 : (List tHole)) : Option (tType) := fixE (abstract_refined_2_F) (t, c, c2)
theorem abstract_refined_2_ok {t : tType} {c : (List tAbs)} {c2 : (List tHole)} {r : tType} (h : abstract_refined_2 t c c2 = some r) : CC Pg GE 51 [.agg (c_tType t), .func (.func 53) [] [.eptr ((cL c_tAbs) c), .eptr ((cL c_tHole) c2)]] (.agg (c_tType r)) [(2, 33)] :=
  fixE_ind (F := abstract_refined_2_F) (M := fun (x : tType × (List tAbs) × (List tHole)) (r : tType) => CC Pg GE 51 [.agg (c_tType x.1), .func (.func 53) [] [.eptr ((cL c_tAbs) x.2.1), .eptr ((cL c_tHole) x.2.2)]] (.agg (c_tType r)) [(2, 33)]) (fun rec hrec x r h => abstract_refined_2_Bok _ (fun t c c2 r h => hrec (t, c, c2) r h) h) h
noncomputable def b16 : Code := Tryz.f16.body.getD .skip
def A16 : List Nat := [17, 38]
noncomputable def abstract_Inst_L1_S (t : tType) (abs : (List tAbs)) (holes : (List tHole)) (vars : (List Str)) (t14 : Int) (t15 : Int) (m : (List tType)) (m2 : (List tPred)) : PSt := stt 50 [(3, .eptr (c_tType t)), (4, .eptr ((cL c_tAbs) abs)), (5, .eptr ((cL c_tHole) holes)), (6, .bptr 3 0), (7, sl cS vars), (14, .int .i64 t14), (15, .int .i64 t15)] [.dead, .dead, .dead, .cells [.int .i64 0, .str ([] : Str), sl c_tType m, sl cS ([] : List Str), .int .i64 0, .str ([] : Str), .int .i64 0, sl c_tPred m2, sl c_tPred m2] [(2, 33), (3, 9), (7, 31), (8, 31)]] [((7, 0), 9)]
noncomputable def abstract_Inst_L1_s (t : tType) (abs : (List tAbs)) (holes : (List tHole)) (t14 : Int) (m : (List tType)) (m2 : (List tPred)) (o : (List Str)) : PSt := stt 50 [(3, .eptr (c_tType t)), (4, .eptr ((cL c_tAbs) abs)), (5, .eptr ((cL c_tHole) holes)), (6, .bptr 3 0), (7, sl cS o)] [.dead, .dead, .dead, .cells [.int .i64 0, .str ([] : Str), sl c_tType m, sl cS ([] : List Str), .int .i64 0, .str ([] : Str), .int .i64 0, sl c_tPred m2, sl c_tPred m2] [(2, 33), (3, 9), (7, 31), (8, 31)]] [((7, 0), 9)]
noncomputable def abstract_Inst_L2_S (t : tType) (abs : (List tAbs)) (holes : (List tHole)) (vars : (List Str)) (t14 : Int) (t15 : Int) (t32 : (List tVar)) (t33 : Int) (t34 : Int) (m : (List tType)) (m2 : (List tPred)) (m3 : Str) (m4 : (List tVar)) : PSt := stt 50 [(3, .eptr (c_tType t)), (4, .eptr ((cL c_tAbs) abs)), (5, .eptr ((cL c_tHole) holes)), (6, .bptr 3 0), (7, sl cS vars), (14, .int .i64 t14), (15, .int .i64 t15), (32, sl c_tVar t32), (33, .int .i64 t33), (34, .int .i64 t34)] [.dead, .dead, .dead, .cells [.int .i64 0, .str ([] : Str), sl c_tType m, sl cS ([] : List Str), .int .i64 0, .str ([] : Str), .int .i64 0, sl c_tPred m2, sl c_tPred m2] [(2, 33), (3, 9), (7, 31), (8, 31)], .cells [.str m3, sl c_tVar m4] []] [((7, 0), 9)]
noncomputable def abstract_Inst_L2_s (t : tType) (abs : (List tAbs)) (holes : (List tHole)) (t14 : Int) (t15 : Int) (t32 : (List tVar)) (t33 : Int) (m : (List tType)) (m2 : (List tPred)) (m3 : Str) (m4 : (List tVar)) (o : (List Str)) : PSt := stt 50 [(3, .eptr (c_tType t)), (4, .eptr ((cL c_tAbs) abs)), (5, .eptr ((cL c_tHole) holes)), (6, .bptr 3 0), (7, sl cS o), (14, .int .i64 t14), (15, .int .i64 t15)] [.dead, .dead, .dead, .cells [.int .i64 0, .str ([] : Str), sl c_tType m, sl cS ([] : List Str), .int .i64 0, .str ([] : Str), .int .i64 0, sl c_tPred m2, sl c_tPred m2] [(2, 33), (3, 9), (7, 31), (8, 31)], .cells [.str m3, sl c_tVar m4] []] [((7, 0), 9)]
noncomputable def abstract_Inst_L2_b (t32 : (List tVar)) (t33 : Int) (vars : (List Str)) (t34 : Int) : Option (((List Str) × Int) ⊕ (((List Str)))) :=
  if (decide (t34 < t33)) = true then
    (idx t32 t34).bind fun x7 =>
    (app vars ([x7.Name] : List Str)).bind fun l8 =>
    some (.inl (l8, w64 (t34 + 1)))
  else
    some (.inr vars)
noncomputable def abstract_Inst_L2 (t32 : (List tVar)) (t33 : Int) (vars : (List Str)) (t34 : Int) : Option (((List Str))) := loop (fun (zz : (List Str) × Int) => abstract_Inst_L2_b t32 t33 zz.1 zz.2) (vars, t34)
theorem abstract_Inst_L2_bok (t : tType) (abs : (List tAbs)) (holes : (List tHole)) (vars : (List Str)) (t14 : Int) (t15 : Int) (t32 : (List tVar)) (t33 : Int) (t34 : Int) (m : (List tType)) (m2 : (List tPred)) (m3 : Str) (m4 : (List tVar)) {y : ((List Str) × Int) ⊕ (((List Str)))} (h : abstract_Inst_L2_b t32 t33 vars t34 = some y) :
    Sat Pg GE 0 (cA b16 122751) (LQ (fun (zz : (List Str) × Int) => abstract_Inst_L2_S t abs holes zz.1 t14 t15 t32 t33 zz.2 m m2 m3 m4) (fun _ => .exit 2) (abstract_Inst_L2_s t abs holes t14 t15 t32 t33 m m2 m3 m4) y) (abstract_Inst_L2_S t abs holes vars t14 t15 t32 t33 t34 m m2 m3 m4) := by
  rcases ifs h with ⟨c6, h⟩ | ⟨c6, h⟩
  · obtain ⟨x7, bx7, h⟩ := bnd h
    obtain ⟨l8, bl8, h⟩ := bnd h
    obtain rfl := lf h
    have z := sg 0 c6 <| sv (sT36.ia (k := .i64) bx7) <| sv (lk_tVar x7) <| sx pz88 <| sx (pcx_tVar x7) <| ss <| sv (sT22.mk' (v := PVal.str) pcS ([x7.Name] : List Str) 1 (by kernel_rfl)) <| sv (sT22.ap bl8) <| eFx 0 .normal (abstract_Inst_L2_S t abs holes l8 t14 t15 t32 t33 (w64 (t34 + 1)) m m2 m3 m4) rfl (cl_tm (aI (clL_up (cl_tType t)) (aI (clL_up (clLs cl_tAbs abs)) (aI (clL_up (clLs cl_tHole holes)) (aI (lt_of rfl) (aI (up (cl_sl clS l8)) (aI trivial (aI trivial (aI (up (cl_sl cl_tVar t32)) (aI trivial (aI trivial trivial))))))))))) (aI trivial (aI trivial (aI trivial (aI (aI trivial (aI trivial (aI (up (cl_sl cl_tType m)) (aI (up (cl_sl clS ([] : List Str))) (aI trivial (aI trivial (aI trivial (aI (up (cl_sl cl_tPred m2)) (aI (up (cl_sl cl_tPred m2)) trivial))))))))) (aI (aI trivial (aI (up (cl_sl cl_tVar m4)) trivial)) trivial)))))
    exact nextxp (A := A16) mixed z (by kernel_rfl)
  · obtain rfl := lf h
    have z := sg 0 c6 <| eF (.exit 2) (abstract_Inst_L2_s t abs holes t14 t15 t32 t33 m m2 m3 m4 vars)
    exact overp (A := A16) mixed (by intro hx; cases hx) z (by kernel_rfl)
theorem abstract_Inst_L2_ok (t : tType) (abs : (List tAbs)) (holes : (List tHole)) (vars : (List Str)) (t14 : Int) (t15 : Int) (t32 : (List tVar)) (t33 : Int) (t34 : Int) (m : (List tType)) (m2 : (List tPred)) (m3 : Str) (m4 : (List tVar)) {x : ((List Str))} (h : abstract_Inst_L2 t32 t33 vars t34 = some x) :
    Sat Pg GE 0 (.loop (cA b16 122751)) (EX (.exit 2) (abstract_Inst_L2_s t abs holes t14 t15 t32 t33 m m2 m3 m4 x)) (abstract_Inst_L2_S t abs holes vars t14 t15 t32 t33 t34 m m2 m3 m4) :=
  Sat.loop (S := fun (zz : (List Str) × Int) => abstract_Inst_L2_S t abs holes zz.1 t14 t15 t32 t33 zz.2 m m2 m3 m4) (ex := (fun _ => .exit 2)) (s := (vars, t34)) h fun zz y hy => abstract_Inst_L2_bok t abs holes zz.1 t14 t15 t32 t33 zz.2 m m2 m3 m4 hy
noncomputable def abstract_Inst_L1_b (abs : (List tAbs)) (holes : (List tHole)) (t14 : Int) (vars : (List Str)) (t15 : Int) : Option (((List Str) × Int) ⊕ (((List Str)))) :=
  if (decide (t15 < t14)) = true then
    (idx abs t15).bind fun x2 =>
    (abstract_belonging abs holes x2.Name).bind fun r3 =>
    if (!r3.2) = true then
      some (.inl (vars, w64 (t15 + 1)))
    else
      (abstract_scope r3.1).bind fun r5 =>
      (abstract_Inst_L2 r5 (r5.length : Int) vars 0).bind fun o9 =>
      some (.inl (o9, w64 (t15 + 1)))
  else
    some (.inr vars)
noncomputable def abstract_Inst_L1 (abs : (List tAbs)) (holes : (List tHole)) (t14 : Int) (vars : (List Str)) (t15 : Int) : Option (((List Str))) := loop (fun (zz : (List Str) × Int) => abstract_Inst_L1_b abs holes t14 zz.1 zz.2) (vars, t15)
theorem abstract_Inst_L1_bok (t : tType) (abs : (List tAbs)) (holes : (List tHole)) (vars : (List Str)) (t14 : Int) (t15 : Int) (m : (List tType)) (m2 : (List tPred)) {y : ((List Str) × Int) ⊕ (((List Str)))} (h : abstract_Inst_L1_b abs holes t14 vars t15 = some y) :
    Sat Pg GE 0 (cA b16 119) (LQ (fun (zz : (List Str) × Int) => abstract_Inst_L1_S t abs holes zz.1 t14 zz.2 m m2) (fun _ => .exit 0) (abstract_Inst_L1_s t abs holes t14 m m2) y) (abstract_Inst_L1_S t abs holes vars t14 t15 m m2) := by
  rcases ifs h with ⟨c1, h⟩ | ⟨c1, h⟩
  · obtain ⟨x2, bx2, h⟩ := bnd h
    obtain ⟨r3, br3, h⟩ := bnd h
    rcases ifs h with ⟨c4, h⟩ | ⟨c4, h⟩
    · obtain rfl := lf h
      have z := sg 0 c1 <| sdr [0, 0, 0, 0, 12, 28, 60, 127, 255, 511, 511, 0, 3071, 8191] <| sv (plook1 sc24 (sl c_tAbs abs) []) <| sv (plook1 sc38 (sl c_tHole holes) []) <| sv (plook1 sc24 (sl c_tAbs abs) []) <| sv (sT24.ia (k := .i64) bx2) <| sv (fa_tAbs_76_0 x2) <| sv (lf_tAbs_0_9 x2) <| sca (abstract_belonging_ok br3) <| sx (pcx_tHole r3.1) <| sg 0 c4 <| eFx 0 .normal (abstract_Inst_L1_S t abs holes vars t14 (w64 (t15 + 1)) m m2) rfl (cl_tm (aI (clL_up (cl_tType t)) (aI (clL_up (clLs cl_tAbs abs)) (aI (clL_up (clLs cl_tHole holes)) (aI (lt_of rfl) (aI (up (cl_sl clS vars)) (aI trivial (aI trivial trivial)))))))) (aI trivial (aI trivial (aI trivial (aI (aI trivial (aI trivial (aI (up (cl_sl cl_tType m)) (aI (up (cl_sl clS ([] : List Str))) (aI trivial (aI trivial (aI trivial (aI (up (cl_sl cl_tPred m2)) (aI (up (cl_sl cl_tPred m2)) trivial))))))))) trivial))))
      exact nextxp (A := A16) mixed z (by kernel_rfl)
    · obtain ⟨r5, br5, h⟩ := bnd h
      obtain ⟨o9, bo9, h⟩ := bnd h
      obtain rfl := lf h
      have z := sg 0 c1 <| sdr [0, 0, 0, 0, 12, 28, 60, 127, 255, 511, 511, 0, 3071, 8191] <| sv (plook1 sc24 (sl c_tAbs abs) []) <| sv (plook1 sc38 (sl c_tHole holes) []) <| sv (plook1 sc24 (sl c_tAbs abs) []) <| sv (sT24.ia (k := .i64) bx2) <| sv (fa_tAbs_76_0 x2) <| sv (lf_tAbs_0_9 x2) <| sca (abstract_belonging_ok br3) <| sx (pcx_tHole r3.1) <| sg 0 c4 <| sv (lkx_tHole r3.1 []) <| sca (abstract_scope_ok br5) <| svn (sT36.ln r5) <| spc (abstract_Inst_L2_ok t abs holes vars t14 t15 r5 (r5.length : Int) 0 m m2 r3.1.Name r3.1.Params bo9) <| eFx 0 .normal (abstract_Inst_L1_S t abs holes o9 t14 (w64 (t15 + 1)) m m2) rfl (cl_tm (aI (clL_up (cl_tType t)) (aI (clL_up (clLs cl_tAbs abs)) (aI (clL_up (clLs cl_tHole holes)) (aI (lt_of rfl) (aI (up (cl_sl clS o9)) (aI trivial (aI trivial trivial)))))))) (aI trivial (aI trivial (aI trivial (aI (aI trivial (aI trivial (aI (up (cl_sl cl_tType m)) (aI (up (cl_sl clS ([] : List Str))) (aI trivial (aI trivial (aI trivial (aI (up (cl_sl cl_tPred m2)) (aI (up (cl_sl cl_tPred m2)) trivial))))))))) trivial))))
      exact nextxp (A := A16) mixed z (by kernel_rfl)
  · obtain rfl := lf h
    have z := sg 0 c1 <| eF (.exit 0) (abstract_Inst_L1_s t abs holes t14 m m2 vars)
    exact overp (A := A16) mixed (by intro hx; cases hx) z (by kernel_rfl)
theorem abstract_Inst_L1_ok (t : tType) (abs : (List tAbs)) (holes : (List tHole)) (vars : (List Str)) (t14 : Int) (t15 : Int) (m : (List tType)) (m2 : (List tPred)) {x : ((List Str))} (h : abstract_Inst_L1 abs holes t14 vars t15 = some x) :
    Sat Pg GE 0 (.loop (cA b16 119)) (EX (.exit 0) (abstract_Inst_L1_s t abs holes t14 m m2 x)) (abstract_Inst_L1_S t abs holes vars t14 t15 m m2) :=
  Sat.loop (S := fun (zz : (List Str) × Int) => abstract_Inst_L1_S t abs holes zz.1 t14 zz.2 m m2) (ex := (fun _ => .exit 0)) (s := (vars, t15)) h fun zz y hy => abstract_Inst_L1_bok t abs holes zz.1 t14 zz.2 m m2 hy
noncomputable def abstract_Inst (t : tType) (abs : (List tAbs)) (holes : (List tHole)) : Option (tType) :=
  (abstract_Inst_L1 abs holes (abs.length : Int) ([] : List Str) 0).bind fun o10 =>
  (abstract_apart t o10).bind fun r11 =>
  (abstract_refined_2 r11 abs holes).bind fun r12 =>
  some r12
theorem abstract_Inst_ok {t : tType} {abs : (List tAbs)} {holes : (List tHole)} {r : tType} (h : abstract_Inst t abs holes = some r) : CC Pg GE 16 [.agg (c_tType t), sl c_tAbs abs, sl c_tHole holes] (.agg (c_tType r)) [(2, 33)] := by
  obtain ⟨o10, bo10, h⟩ := bnd h
  obtain ⟨r11, br11, h⟩ := bnd h
  obtain ⟨r12, br12, h⟩ := bnd h
  obtain rfl := lf h
  have z := se (pc_tType t) <| se (pcL c_tAbs abs) <| se (pcL c_tHole holes) <| sx pz33 <| sv (plook1 sc24 (sl c_tAbs abs) []) <| svn (sT24.ln abs) <| spc (abstract_Inst_L1_ok t abs holes ([] : List Str) (abs.length : Int) 0 ([] : List tType) ([] : List tPred) bo10) <| sv (lk_tType t) <| sca (abstract_apart_ok br11) <| sca (abstract_refined_2_ok br12) <| sy (ex_tType r12) <| en (aI (rex_tType r12) <| aI (cl_tType r12) <| rT)
  exact C.evp (A := A16) mixed Tryz.call16 Tryz.func16 (c := b16) rfl (aI (cl_tType t) (aI (cl_sl cl_tAbs abs) (aI (cl_sl cl_tHole holes) trivial))) z (by kernel_rfl)
abbrev T_R32_Same := (tType → tType → Option (Bool))
abbrev H_R32_Same (R : T_R32_Same) : Prop := ∀ (a : tType) (a2 : tType) (r : Bool), R a a2 = some r → CC Pg GE 15 [.agg (c_tType a), .agg (c_tType a2)] (.bool r) []
noncomputable def b47 : Code := Tryz.f47.body.getD .skip
def A47 : List Nat := [15]
noncomputable def R04_Same_L1_S (v : (List Str)) (v2 : (List Str)) (t12 : Int) (t13 : Int) : PSt := stt 26 [(0, sl cS v), (1, sl cS v2), (12, .int .i64 t12), (13, .int .i64 t13)] [] []
noncomputable def R04_Same_L1_e (o : (Unit) ⊕ (Unit)) : Exit := match o with
  | (.inl _) => .ret
  | (.inr _) => .exit 0
noncomputable def R04_Same_L1_s (v : (List Str)) (v2 : (List Str)) (t12 : Int) (o : (Unit) ⊕ (Unit)) : PSt := match o with
  | (.inl o) => stt 26 [(4, .bool false)] [] []
  | (.inr o) => stt 26 [] [] []
noncomputable def R04_Same_L1_b (v : (List Str)) (v2 : (List Str)) (t12 : Int) (t13 : Int) : Option ((Int) ⊕ ((Unit) ⊕ (Unit))) :=
  if (decide (t13 < t12)) = true then
    (idx v t13).bind fun x3 =>
    (idx v2 t13).bind fun x4 =>
    if (!(x3 == x4)) = true then
      some (.inr (.inl ()))
    else
      some (.inl (w64 (t13 + 1)))
  else
    some (.inr (.inr ()))
noncomputable def R04_Same_L1 (v : (List Str)) (v2 : (List Str)) (t12 : Int) (t13 : Int) : Option ((Unit) ⊕ (Unit)) := loop (fun (zz : Int) => R04_Same_L1_b v v2 t12 zz) t13
theorem R04_Same_L1_bok (v : (List Str)) (v2 : (List Str)) (t12 : Int) (t13 : Int) {y : (Int) ⊕ ((Unit) ⊕ (Unit))} (h : R04_Same_L1_b v v2 t12 t13 = some y) :
    Sat Pg GE 0 (cA b47 119) (LQ (fun (zz : Int) => R04_Same_L1_S v v2 t12 zz) R04_Same_L1_e (R04_Same_L1_s v v2 t12) y) (R04_Same_L1_S v v2 t12 t13) := by
  rcases ifs h with ⟨c2, h⟩ | ⟨c2, h⟩
  · obtain ⟨x3, bx3, h⟩ := bnd h
    obtain ⟨x4, bx4, h⟩ := bnd h
    rcases ifs h with ⟨c5, h⟩ | ⟨c5, h⟩
    · obtain rfl := lf h
      have z := sg 0 c2 <| sdr [0, 0, 3, 7, 0, 0, 48, 112, 255] <| sv (sT22.ia (k := .i64) bx3) <| sv (plook1 sc9 (.str x3) []) <| sv (sT22.ia (k := .i64) bx4) <| sv (plook1 sc9 (.str x4) []) <| sg 0 c5 <| eF (R04_Same_L1_e (.inl ())) (R04_Same_L1_s v v2 t12 (.inl ()))
      exact overp (A := A47) mixed (by intro hx; cases hx) z (by kernel_rfl)
    · obtain rfl := lf h
      have z := sg 0 c2 <| sdr [0, 0, 3, 7, 0, 0, 48, 112, 255] <| sv (sT22.ia (k := .i64) bx3) <| sv (plook1 sc9 (.str x3) []) <| sv (sT22.ia (k := .i64) bx4) <| sv (plook1 sc9 (.str x4) []) <| sg 0 c5 <| eF .normal (R04_Same_L1_S v v2 t12 (w64 (t13 + 1)))
      exact nextp (A := A47) mixed z (by kernel_rfl)
  · obtain rfl := lf h
    have z := sg 0 c2 <| eF (R04_Same_L1_e (.inr ())) (R04_Same_L1_s v v2 t12 (.inr ()))
    exact overp (A := A47) mixed (by intro hx; cases hx) z (by kernel_rfl)
theorem R04_Same_L1_ok (v : (List Str)) (v2 : (List Str)) (t12 : Int) (t13 : Int) {x : (Unit) ⊕ (Unit)} (h : R04_Same_L1 v v2 t12 t13 = some x) :
    Sat Pg GE 0 (.loop (cA b47 119)) (EX (R04_Same_L1_e x) (R04_Same_L1_s v v2 t12 x)) (R04_Same_L1_S v v2 t12 t13) :=
  Sat.loop (S := fun (zz : Int) => R04_Same_L1_S v v2 t12 zz) (ex := R04_Same_L1_e) (s := t13) h fun zz y hy => R04_Same_L1_bok v v2 t12 zz hy
noncomputable def R04_Same (a : (List Str)) (a2 : (List Str)) : Option (Bool) :=
  if ((a.length : Int) != (a2.length : Int)) = true then
    some false
  else
    (R04_Same_L1 a a2 (a.length : Int) 0).bind fun o6 => match o6 with
    | (.inl o6) =>
      some false
    | (.inr o6) =>
      some true
theorem R04_Same_ok {a : (List Str)} {a2 : (List Str)} {r : Bool} (h : R04_Same a a2 = some r) : CC Pg GE 47 [sl cS a, sl cS a2] (.bool r) [] := by
  rcases ifs h with ⟨c1, h⟩ | ⟨c1, h⟩
  · obtain rfl := lf h
    have z := svn (sT22.ln a) <| svn (sT22.ln a2) <| sg 0 c1 <| en (aI (rP (.bool false)) <| trivial)
    exact C.evp (A := A47) mixed Tryz.call47 Tryz.func47 (c := b47) rfl (aI (cl_sl clS a) (aI (cl_sl clS a2) trivial)) z (by kernel_rfl)
  · obtain ⟨o6, bo6, h⟩ := bnd h
    rcases o6 with o6 | o6
    · obtain rfl := lf h
      have z := svn (sT22.ln a) <| svn (sT22.ln a2) <| sg 0 c1 <| svn (sT22.ln a) <| spc (e := .ret) (s1 := R04_Same_L1_s a a2 (a.length : Int) (.inl o6)) (R04_Same_L1_ok a a2 (a.length : Int) 0 bo6) <| en (aI (rP (.bool false)) <| trivial)
      exact C.evp (A := A47) mixed Tryz.call47 Tryz.func47 (c := b47) rfl (aI (cl_sl clS a) (aI (cl_sl clS a2) trivial)) z (by kernel_rfl)
    · obtain rfl := lf h
      have z := svn (sT22.ln a) <| svn (sT22.ln a2) <| sg 0 c1 <| svn (sT22.ln a) <| spc (e := .exit 0) (s1 := R04_Same_L1_s a a2 (a.length : Int) (.inr o6)) (R04_Same_L1_ok a a2 (a.length : Int) 0 bo6) <| en (aI (rP (.bool true)) <| trivial)
      exact C.evp (A := A47) mixed Tryz.call47 Tryz.func47 (c := b47) rfl (aI (cl_sl clS a) (aI (cl_sl clS a2) trivial)) z (by kernel_rfl)
noncomputable def b84 : Code := Tryz.f84.body.getD .skip
def A84 : List Nat := []
noncomputable def R07_True : Option (tPred) :=
  some (⟨2, ([] : Str), 1, ([] : List tPred)⟩ : tPred)
theorem R07_True_ok {r : tPred} (h : R07_True = some r) : CC Pg GE 84 [] (.agg (c_tPred r)) [(3, 31)] := by
  obtain rfl := lf h
  have z := sx pz31 <| sb (bu_tPred_0_2 2 1) (bn_tPred_0_2 2 1) <| sy (ex_tPred (⟨2, ([] : Str), 1, ([] : List tPred)⟩ : tPred)) <| en (aI (rex_tPred (⟨2, ([] : Str), 1, ([] : List tPred)⟩ : tPred)) <| aI (cl_tPred (⟨2, ([] : Str), 1, ([] : List tPred)⟩ : tPred)) <| rT)
  exact C.evp (A := A84) mixed Tryz.call84 Tryz.func84 (c := b84) rfl trivial z (by kernel_rfl)
abbrev T_R07_Same := (tPred → tPred → Option (Bool))
abbrev H_R07_Same (R : T_R07_Same) : Prop := ∀ (a : tPred) (a2 : tPred) (r : Bool), R a a2 = some r → CC Pg GE 18 [.agg (c_tPred a), .agg (c_tPred a2)] (.bool r) []
noncomputable def b18 : Code := Tryz.f18.body.getD .skip
def A18 : List Nat := [39]
noncomputable def R07_Same_J1_S (v : tPred) (v2 : tPred) : PSt := stt 53 [(2, .eptr (c_tPred v)), (3, .eptr (c_tPred v2))] [.dead, .dead] []
noncomputable def R07_Same_J1_s (v : tPred) (v2 : tPred) (o : Bool) : PSt := stt 53 [(2, .eptr (c_tPred v)), (3, .eptr (c_tPred v2)), (33, .bool o)] [.dead, .dead] []
noncomputable def R07_Same_J1 (R70 : T_R07_Same) (v : tPred) (v2 : tPred) : Option ((Bool)) :=
  if (v.Op != v2.Op) = true then
    some true
  else
    if (!(v.Name == v2.Name)) = true then
      some true
    else
      if (v.N != v2.N) = true then
        some true
      else
        some ((v.Kids.length : Int) != (v2.Kids.length : Int))
theorem R07_Same_J1_ok (R70 : T_R07_Same) (hR70 : H_R07_Same R70) (v : tPred) (v2 : tPred) {x : (Bool)} (h : R07_Same_J1 R70 v v2 = some x) :
    Sat Pg GE 0 (cA b18 12) (EX .normal (R07_Same_J1_s v v2 x)) (R07_Same_J1_S v v2) := by
  rcases ifs h with ⟨c1, h⟩ | ⟨c1, h⟩
  · obtain rfl := lf h
    have z := sv (fa_tPred_31_0 v) <| sv (lf_tPred_0_28 v) <| sv (fa_tPred_31_0 v2) <| sv (lf_tPred_0_28 v2) <| sg 6 c1 <| eF .normal (R07_Same_J1_s v v2 true)
    exact piecep (A := A18) mixed z (by kernel_rfl)
  · rcases ifs h with ⟨c2, h⟩ | ⟨c2, h⟩
    · obtain rfl := lf h
      have z := sv (fa_tPred_31_0 v) <| sv (lf_tPred_0_28 v) <| sv (fa_tPred_31_0 v2) <| sv (lf_tPred_0_28 v2) <| sg 6 c1 <| sv (fa_tPred_31_1 v) <| sv (lf_tPred_1_9 v) <| sv (fa_tPred_31_1 v2) <| sv (lf_tPred_1_9 v2) <| sg 13 c2 <| eF .normal (R07_Same_J1_s v v2 true)
      exact piecep (A := A18) mixed z (by kernel_rfl)
    · rcases ifs h with ⟨c3, h⟩ | ⟨c3, h⟩
      · obtain rfl := lf h
        have z := sv (fa_tPred_31_0 v) <| sv (lf_tPred_0_28 v) <| sv (fa_tPred_31_0 v2) <| sv (lf_tPred_0_28 v2) <| sg 6 c1 <| sv (fa_tPred_31_1 v) <| sv (lf_tPred_1_9 v) <| sv (fa_tPred_31_1 v2) <| sv (lf_tPred_1_9 v2) <| sg 13 c2 <| sv (fa_tPred_31_2 v) <| sv (lf_tPred_2_3 v) <| sv (fa_tPred_31_2 v2) <| sv (lf_tPred_2_3 v2) <| sg 20 c3 <| eF .normal (R07_Same_J1_s v v2 true)
        exact piecep (A := A18) mixed z (by kernel_rfl)
      · obtain rfl := lf h
        have z := sv (fa_tPred_31_0 v) <| sv (lf_tPred_0_28 v) <| sv (fa_tPred_31_0 v2) <| sv (lf_tPred_0_28 v2) <| sg 6 c1 <| sv (fa_tPred_31_1 v) <| sv (lf_tPred_1_9 v) <| sv (fa_tPred_31_1 v2) <| sv (lf_tPred_1_9 v2) <| sg 13 c2 <| sv (fa_tPred_31_2 v) <| sv (lf_tPred_2_3 v) <| sv (fa_tPred_31_2 v2) <| sv (lf_tPred_2_3 v2) <| sg 20 c3 <| sv (fa_tPred_31_3 v) <| sv (lf_tPred_3_29 v) <| svn (sT29.ln v.Kids) <| sv (fa_tPred_31_3 v2) <| sv (lf_tPred_3_29 v2) <| svn (sT29.ln v2.Kids) <| eF .normal (R07_Same_J1_s v v2 ((v.Kids.length : Int) != (v2.Kids.length : Int)))
        exact piecep (A := A18) mixed z (by kernel_rfl)
noncomputable def R07_Same_L2_S (v : tPred) (v2 : tPred) (t36 : Int) (t37 : Int) : PSt := stt 53 [(2, .eptr (c_tPred v)), (3, .eptr (c_tPred v2)), (36, .int .i64 t36), (37, .int .i64 t37)] [.dead, .dead] []
noncomputable def R07_Same_L2_e (o : (Unit) ⊕ (Unit)) : Exit := match o with
  | (.inl _) => .ret
  | (.inr _) => .exit 0
noncomputable def R07_Same_L2_s (v : tPred) (v2 : tPred) (t36 : Int) (o : (Unit) ⊕ (Unit)) : PSt := match o with
  | (.inl o) => stt 53 [(4, .bool false)] [.dead, .dead] []
  | (.inr o) => stt 53 [] [.dead, .dead] []
noncomputable def R07_Same_L2_b (R70 : T_R07_Same) (v : tPred) (v2 : tPred) (t36 : Int) (t37 : Int) : Option ((Int) ⊕ ((Unit) ⊕ (Unit))) :=
  if (decide (t37 < t36)) = true then
    (idx v.Kids t37).bind fun x7 =>
    (idx v2.Kids t37).bind fun x8 =>
    (R70 x7 x8).bind fun r9 =>
    if (!r9) = true then
      some (.inr (.inl ()))
    else
      some (.inl (w64 (t37 + 1)))
  else
    some (.inr (.inr ()))
noncomputable def R07_Same_L2 (R70 : T_R07_Same) (v : tPred) (v2 : tPred) (t36 : Int) (t37 : Int) : Option ((Unit) ⊕ (Unit)) := loop (fun (zz : Int) => R07_Same_L2_b R70 v v2 t36 zz) t37
theorem R07_Same_L2_bok (R70 : T_R07_Same) (hR70 : H_R07_Same R70) (v : tPred) (v2 : tPred) (t36 : Int) (t37 : Int) {y : (Int) ⊕ ((Unit) ⊕ (Unit))} (h : R07_Same_L2_b R70 v v2 t36 t37 = some y) :
    Sat Pg GE 0 (cA b18 119) (LQ (fun (zz : Int) => R07_Same_L2_S v v2 t36 zz) R07_Same_L2_e (R07_Same_L2_s v v2 t36) y) (R07_Same_L2_S v v2 t36 t37) := by
  rcases ifs h with ⟨c6, h⟩ | ⟨c6, h⟩
  · obtain ⟨x7, bx7, h⟩ := bnd h
    obtain ⟨x8, bx8, h⟩ := bnd h
    obtain ⟨r9, br9, h⟩ := bnd h
    rcases ifs h with ⟨c10, h⟩ | ⟨c10, h⟩
    · obtain rfl := lf h
      have z := sg 0 c6 <| sdr [0, 1, 0, 7, 15, 0, 32, 0, 224, 480, 1023, 2047] <| sv (fa_tPred_31_3 v) <| sv (lf_tPred_3_29 v) <| sv (sT29.ia (k := .i64) bx7) <| sv (lk_tPred x7) <| sv (fa_tPred_31_3 v2) <| sv (lf_tPred_3_29 v2) <| sv (sT29.ia (k := .i64) bx8) <| sv (lk_tPred x8) <| sca (hR70 _ _ _ br9) <| sg 0 c10 <| eF (R07_Same_L2_e (.inl ())) (R07_Same_L2_s v v2 t36 (.inl ()))
      exact overp (A := A18) mixed (by intro hx; cases hx) z (by kernel_rfl)
    · obtain rfl := lf h
      have z := sg 0 c6 <| sdr [0, 1, 0, 7, 15, 0, 32, 0, 224, 480, 1023, 2047] <| sv (fa_tPred_31_3 v) <| sv (lf_tPred_3_29 v) <| sv (sT29.ia (k := .i64) bx7) <| sv (lk_tPred x7) <| sv (fa_tPred_31_3 v2) <| sv (lf_tPred_3_29 v2) <| sv (sT29.ia (k := .i64) bx8) <| sv (lk_tPred x8) <| sca (hR70 _ _ _ br9) <| sg 0 c10 <| eF .normal (R07_Same_L2_S v v2 t36 (w64 (t37 + 1)))
      exact nextp (A := A18) mixed z (by kernel_rfl)
  · obtain rfl := lf h
    have z := sg 0 c6 <| eF (R07_Same_L2_e (.inr ())) (R07_Same_L2_s v v2 t36 (.inr ()))
    exact overp (A := A18) mixed (by intro hx; cases hx) z (by kernel_rfl)
theorem R07_Same_L2_ok (R70 : T_R07_Same) (hR70 : H_R07_Same R70) (v : tPred) (v2 : tPred) (t36 : Int) (t37 : Int) {x : (Unit) ⊕ (Unit)} (h : R07_Same_L2 R70 v v2 t36 t37 = some x) :
    Sat Pg GE 0 (.loop (cA b18 119)) (EX (R07_Same_L2_e x) (R07_Same_L2_s v v2 t36 x)) (R07_Same_L2_S v v2 t36 t37) :=
  Sat.loop (S := fun (zz : Int) => R07_Same_L2_S v v2 t36 zz) (ex := R07_Same_L2_e) (s := t37) h fun zz y hy => R07_Same_L2_bok R70 hR70 v v2 t36 zz hy
noncomputable def R07_Same_B (R70 : T_R07_Same) (a : tPred) (a2 : tPred) : Option (Bool) :=
  (R07_Same_J1 R70 a a2).bind fun o4 =>
  if o4 = true then
    some false
  else
    (R07_Same_L2 R70 a a2 (a.Kids.length : Int) 0).bind fun o11 => match o11 with
    | (.inl o11) =>
      some false
    | (.inr o11) =>
      some true
theorem R07_Same_Bok (R70 : T_R07_Same) (hR70 : H_R07_Same R70) {a : tPred} {a2 : tPred} {r : Bool} (h : R07_Same_B R70 a a2 = some r) : CC Pg GE 18 [.agg (c_tPred a), .agg (c_tPred a2)] (.bool r) [] := by
  obtain ⟨o4, bo4, h⟩ := bnd h
  rcases ifs h with ⟨c5, h⟩ | ⟨c5, h⟩
  · obtain rfl := lf h
    have z := se (pc_tPred a) <| se (pc_tPred a2) <| spa 1 <| spc (R07_Same_J1_ok R70 hR70 a a2 bo4) <| sg 0 c5 <| en (aI (rP (.bool false)) <| trivial)
    exact C.evp (A := A18) mixed Tryz.call18 Tryz.func18 (c := b18) rfl (aI (cl_tPred a) (aI (cl_tPred a2) trivial)) z (by kernel_rfl)
  · obtain ⟨o11, bo11, h⟩ := bnd h
    rcases o11 with o11 | o11
    · obtain rfl := lf h
      have z := se (pc_tPred a) <| se (pc_tPred a2) <| spa 1 <| spc (R07_Same_J1_ok R70 hR70 a a2 bo4) <| sg 0 c5 <| sv (fa_tPred_31_3 a) <| sv (lf_tPred_3_29 a) <| svn (sT29.ln a.Kids) <| spc (e := .ret) (s1 := R07_Same_L2_s a a2 (a.Kids.length : Int) (.inl o11)) (R07_Same_L2_ok R70 hR70 a a2 (a.Kids.length : Int) 0 bo11) <| en (aI (rP (.bool false)) <| trivial)
      exact C.evp (A := A18) mixed Tryz.call18 Tryz.func18 (c := b18) rfl (aI (cl_tPred a) (aI (cl_tPred a2) trivial)) z (by kernel_rfl)
    · obtain rfl := lf h
      have z := se (pc_tPred a) <| se (pc_tPred a2) <| spa 1 <| spc (R07_Same_J1_ok R70 hR70 a a2 bo4) <| sg 0 c5 <| sv (fa_tPred_31_3 a) <| sv (lf_tPred_3_29 a) <| svn (sT29.ln a.Kids) <| spc (e := .exit 0) (s1 := R07_Same_L2_s a a2 (a.Kids.length : Int) (.inr o11)) (R07_Same_L2_ok R70 hR70 a a2 (a.Kids.length : Int) 0 bo11) <| en (aI (rP (.bool true)) <| trivial)
      exact C.evp (A := A18) mixed Tryz.call18 Tryz.func18 (c := b18) rfl (aI (cl_tPred a) (aI (cl_tPred a2) trivial)) z (by kernel_rfl)
noncomputable def R07_Same_F : ((tPred × tPred) → Option (Bool)) → (tPred × tPred) → Option (Bool) := fun (rec : (tPred × tPred) → Option (Bool)) (x : tPred × tPred) => R07_Same_B (fun a a2 => rec (a, a2)) x.1 x.2
noncomputable def R07_Same (a : tPred) (a2 : tPred) : Option (Bool) := fixE (R07_Same_F) (a, a2)
theorem R07_Same_ok {a : tPred} {a2 : tPred} {r : Bool} (h : R07_Same a a2 = some r) : CC Pg GE 18 [.agg (c_tPred a), .agg (c_tPred a2)] (.bool r) [] :=
  fixE_ind (F := R07_Same_F) (M := fun (x : tPred × tPred) (r : Bool) => CC Pg GE 18 [.agg (c_tPred x.1), .agg (c_tPred x.2)] (.bool r) []) (fun rec hrec x r h => R07_Same_Bok _ (fun a a2 r h => hrec (a, a2) r h) h) h
end Go.Proofs.YtgldgpdhblndkaaGreatDoor
