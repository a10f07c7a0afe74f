/-
  WHAT IS PROVED: parts of the proof, put together by a program out of smaller texts (G1). Conditions: none.
-/
import Derived.Test.YtgldgpdhblndkaaGreatDoorPkB30
import Derived.Test.YtgldgpdhblndkaaGreatDoorPkB32
namespace Go.Proofs.YtgldgpdhblndkaaGreatDoor
open Go
set_option linter.unusedVariables false
set_option maxRecDepth 100000
noncomputable def b41 : Code := Tryz.f41.body.getD .skip
def A41 : List Nat := []
noncomputable def W35_x (s : Str) : Option (tPred) :=
  some (⟨3, s, 0, ([] : List tPred)⟩ : tPred)
theorem W35_x_ok {s : Str} {r : tPred} (h : W35_x s = some r) : CC Pg GE 41 [.str s] (.agg (c_tPred r)) [(3, 31)] := by
  obtain rfl := lf h
  have z := sx pz31 <| sb (bu_tPred_0_1 3 s) (bn_tPred_0_1 3 s) <| sy (ex_tPred (⟨3, s, 0, ([] : List tPred)⟩ : tPred)) <| en (aI (rex_tPred (⟨3, s, 0, ([] : List tPred)⟩ : tPred)) <| aI (cl_tPred (⟨3, s, 0, ([] : List tPred)⟩ : tPred)) <| rT)
  exact C.evp (A := A41) mixed Tryz.call41 Tryz.func41 (c := b41) rfl (aI trivial trivial) z (by kernel_rfl)
noncomputable def b40 : Code := Tryz.f40.body.getD .skip
def A40 : List Nat := []
noncomputable def W35_app (s : Str) (a : (List tPred)) : Option (tPred) :=
  some (⟨4, s, 0, a⟩ : tPred)
theorem W35_app_ok {s : Str} {a : (List tPred)} {r : tPred} (h : W35_app s a = some r) : CC Pg GE 40 [.str s, sl c_tPred a] (.agg (c_tPred r)) [] := by
  obtain rfl := lf h
  have z := sx pz31 <| sv (bu_tPred_0_1_3 4 s a) <| sx (pcx_tPred (⟨4, s, 0, a⟩ : tPred)) <| en (aI (rex_tPred (⟨4, s, 0, a⟩ : tPred)) <| (cl_tPred (⟨4, s, 0, a⟩ : tPred)))
  exact C.evp (A := A40) mixed Tryz.call40 Tryz.func40 (c := b40) rfl (aI trivial (aI (cl_sl cl_tPred a) trivial)) z (by kernel_rfl)
noncomputable def b42 : Code := Tryz.f42.body.getD .skip
def A42 : List Nat := []
noncomputable def W35_integer (p : tPred) : Option (tType) :=
  some (⟨1, ([] : Str), ([] : List tType), ([] : List Str), p, ([] : List tPred)⟩ : tType)
theorem W35_integer_ok {p : tPred} {r : tType} (h : W35_integer p = some r) : CC Pg GE 42 [.agg (c_tPred p)] (.agg (c_tType r)) [(2, 33), (3, 9), (8, 31)] := by
  obtain rfl := lf h
  have z := se (pc_tPred p) <| sx pz33 <| sv (lk_tPred p) <| sb (bu_tType_0_4 1 p) (bn_tType_0_4 1 p) <| sy (ex_tType (⟨1, ([] : Str), ([] : List tType), ([] : List Str), p, ([] : List tPred)⟩ : tType)) <| en (aI (rex_tType (⟨1, ([] : Str), ([] : List tType), ([] : List Str), p, ([] : List tPred)⟩ : tType)) <| aI (cl_tType (⟨1, ([] : Str), ([] : List tType), ([] : List Str), p, ([] : List tPred)⟩ : tType)) <| rT)
  exact C.evp (A := A42) mixed Tryz.call42 Tryz.func42 (c := b42) rfl (aI (cl_tPred p) trivial) z (by kernel_rfl)
noncomputable def b39 : Code := Tryz.f39.body.getD .skip
def A39 : List Nat := [15]
noncomputable def abstract_Fresh_1 (a : tAbs) (a2 : Str) (a3 : (List tVar)) : Option (tHole) :=
  (cat a2 ([46] : Str)).bind fun s1 =>
  (cat s1 a.Name).bind fun s2 =>
  (app ([(⟨([118] : Str), a.Sort_⟩ : tVar)] : List tVar) a3).bind fun l3 =>
  some (⟨s2, l3⟩ : tHole)
theorem abstract_Fresh_1_ok {a : tAbs} {a2 : Str} {a3 : (List tVar)} {r : tHole} (h : abstract_Fresh_1 a a2 a3 = some r) : CC Pg GE 39 [.agg (c_tAbs a), .eptr (cS a2), .eptr ((cL c_tVar) a3)] (.agg (c_tHole r)) [] := by
  obtain ⟨s1, bs1, h⟩ := bnd h
  obtain ⟨s2, bs2, h⟩ := bnd h
  obtain ⟨l3, bl3, h⟩ := bnd h
  obtain rfl := lf h
  have z := se (pc_tAbs a) <| sx pz82 <| sv (fa_tAbs_76_1 a) <| sv (lf_tAbs_1_74 a) <| sv (bu_tVar_0_1 ([118] : Str) a.Sort_) <| sv (sT36.mk' (v := v_tVar) pcA_tVar ([(⟨([118] : Str), a.Sort_⟩ : tVar)] : List tVar) 1 (by kernel_rfl)) <| sdr [0, 1, 0, 4, 15, 0, 0, 96, 255, 511] <| sv (plook1 sc9 (.str a2) []) <| sv (strCat (P := Pg) (t := 9) bs1) <| sv (fa_tAbs_76_0 a) <| sv (lf_tAbs_0_9 a) <| sv (strCat (P := Pg) (t := 9) bs2) <| sv (plook1 sc36 (sl c_tVar a3) []) <| sv (sT36.ap bl3) <| sv (bu_tHole_0_1 s2 l3) <| sx (pcx_tHole (⟨s2, l3⟩ : tHole)) <| en (aI (rex_tHole (⟨s2, l3⟩ : tHole)) <| (cl_tHole (⟨s2, l3⟩ : tHole)))
  exact C.evp (A := A39) mixed Tryz.call39 Tryz.func39 (c := b39) rfl (aI (cl_tAbs a) (aI (clS a2) (aI (clLs cl_tVar a3) trivial))) z (by kernel_rfl)
noncomputable def b38 : Code := Tryz.f38.body.getD .skip
def A38 : List Nat := [14, 21]
noncomputable def abstract_mapped_L1_S (v : Str) (v2 : (List tVar)) (out : (List tHole)) (t8 : (List tAbs)) (t9 : Int) (t10 : Int) : PSt := stt 22 [(1, .func (.func 39) [] [.eptr (cS v), .eptr ((cL c_tVar) v2)]), (5, sl c_tHole out), (8, sl c_tAbs t8), (9, .int .i64 t9), (10, .int .i64 t10)] [] [((5, 0), 82)]
noncomputable def abstract_mapped_L1_s (v : Str) (v2 : (List tVar)) (t8 : (List tAbs)) (t9 : Int) (o : (List tHole)) : PSt := stt 22 [(5, sl c_tHole o)] [] [((5, 0), 82)]
noncomputable def abstract_mapped_L1_b (v : Str) (v2 : (List tVar)) (t8 : (List tAbs)) (t9 : Int) (out : (List tHole)) (t10 : Int) : Option (((List tHole) × Int) ⊕ (((List tHole)))) :=
  if (decide (t10 < t9)) = true then
    (idx t8 t10).bind fun x2 =>
    (abstract_Fresh_1 x2 v v2).bind fun r3 =>
    (app out ([r3] : List tHole)).bind fun l4 =>
    some (.inl (l4, w64 (t10 + 1)))
  else
    some (.inr out)
noncomputable def abstract_mapped_L1 (v : Str) (v2 : (List tVar)) (t8 : (List tAbs)) (t9 : Int) (out : (List tHole)) (t10 : Int) : Option (((List tHole))) := loop (fun (zz : (List tHole) × Int) => abstract_mapped_L1_b v v2 t8 t9 zz.1 zz.2) (out, t10)
theorem abstract_mapped_L1_bok (v : Str) (v2 : (List tVar)) (out : (List tHole)) (t8 : (List tAbs)) (t9 : Int) (t10 : Int) {y : ((List tHole) × Int) ⊕ (((List tHole)))} (h : abstract_mapped_L1_b v v2 t8 t9 out t10 = some y) :
    Sat Pg GE 0 (cA b38 119) (LQ (fun (zz : (List tHole) × Int) => abstract_mapped_L1_S v v2 zz.1 t8 t9 zz.2) (fun _ => .exit 0) (abstract_mapped_L1_s v v2 t8 t9) y) (abstract_mapped_L1_S v v2 out t8 t9 t10) := by
  rcases ifs h with ⟨c1, h⟩ | ⟨c1, h⟩
  · obtain ⟨x2, bx2, h⟩ := bnd h
    obtain ⟨r3, br3, h⟩ := bnd h
    obtain ⟨l4, bl4, h⟩ := bnd h
    obtain rfl := lf h
    have z := sg 0 c1 <| sv (sT24.ia (k := .i64) bx2) <| sv (lk_tAbs x2) <| sx pz76 <| sx (pcx_tAbs x2) <| sv (lkx_tAbs x2 []) <| sca (abstract_Fresh_1_ok br3) <| sv (sT38.mk' (v := v_tHole) pcA_tHole ([r3] : List tHole) 1 (by kernel_rfl)) <| sv (sT38.ap bl4) <| eFx 0 .normal (abstract_mapped_L1_S v v2 l4 t8 t9 (w64 (t10 + 1))) rfl (cl_tm (aI (aI trivial (aI (clL_up (clS v)) (aI (clL_up (clLs cl_tVar v2)) trivial))) (aI (up (cl_sl cl_tHole l4)) (aI (up (cl_sl cl_tAbs t8)) (aI trivial (aI trivial trivial)))))) trivial
    exact nextxp (A := A38) mixed z (by kernel_rfl)
  · obtain rfl := lf h
    have z := sg 0 c1 <| eF (.exit 0) (abstract_mapped_L1_s v v2 t8 t9 out)
    exact overp (A := A38) mixed (by intro hx; cases hx) z (by kernel_rfl)
theorem abstract_mapped_L1_ok (v : Str) (v2 : (List tVar)) (out : (List tHole)) (t8 : (List tAbs)) (t9 : Int) (t10 : Int) {x : ((List tHole))} (h : abstract_mapped_L1 v v2 t8 t9 out t10 = some x) :
    Sat Pg GE 0 (.loop (cA b38 119)) (EX (.exit 0) (abstract_mapped_L1_s v v2 t8 t9 x)) (abstract_mapped_L1_S v v2 out t8 t9 t10) :=
  Sat.loop (S := fun (zz : (List tHole) × Int) => abstract_mapped_L1_S v v2 zz.1 t8 t9 zz.2) (ex := (fun _ => .exit 0)) (s := (out, t10)) h fun zz y hy => abstract_mapped_L1_bok v v2 zz.1 t8 t9 zz.2 hy
noncomputable def abstract_mapped (a : (List tAbs)) (c : Str) (c2 : (List tVar)) : Option ((List tHole)) :=
  (abstract_mapped_L1 c c2 a (a.length : Int) ([] : List tHole) 0).bind fun o5 =>
  some o5
theorem abstract_mapped_ok {a : (List tAbs)} {c : Str} {c2 : (List tVar)} {r : (List tHole)} (h : abstract_mapped a c c2 = some r) : CC Pg GE 38 [sl c_tAbs a, .func (.func 39) [] [.eptr (cS c), .eptr ((cL c_tVar) c2)]] (sl c_tHole r) [(0, 82)] := by
  obtain ⟨o5, bo5, h⟩ := bnd h
  obtain rfl := lf h
  have z := svn (sT24.ln a) <| spc (abstract_mapped_L1_ok c c2 ([] : List tHole) a (a.length : Int) 0 bo5) <| en (aI (rP (sl c_tHole o5)) <| (cl_sl cl_tHole o5))
  exact C.evp (A := A38) mixed Tryz.call38 Tryz.func38 (c := b38) rfl (aI (cl_sl cl_tAbs a) (aI (aI trivial (aI (clS c) (aI (clLs cl_tVar c2) trivial))) trivial)) z (by kernel_rfl)
noncomputable def b9 : Code := Tryz.f9.body.getD .skip
def A9 : List Nat := []
noncomputable def abstract_Fresh (s : tSig) (a : Str) (scope : (List tVar)) : Option ((List tHole)) :=
  (abstract_mapped s.Abs a scope).bind fun r1 =>
  some r1
theorem abstract_Fresh_ok {s : tSig} {a : Str} {scope : (List tVar)} {r : (List tHole)} (h : abstract_Fresh s a scope = some r) : CC Pg GE 9 [.agg (c_tSig s), .str a, sl c_tVar scope] (sl c_tHole r) [(0, 82)] := by
  obtain ⟨r1, br1, h⟩ := bnd h
  obtain rfl := lf h
  have z := se (pc_tSig s) <| se (pcS a) <| se (pcL c_tVar scope) <| sv (fa_tSig_35_2 s) <| sv (lf_tSig_2_24 s) <| sca (abstract_mapped_ok br1) <| en (aI (rP (sl c_tHole r1)) <| (cl_sl cl_tHole r1))
  exact C.evp (A := A9) mixed Tryz.call9 Tryz.func9 (c := b9) rfl (aI (cl_tSig s) (aI trivial (aI (cl_sl cl_tVar scope) trivial))) z (by kernel_rfl)
noncomputable def b43 : Code := Tryz.f43.body.getD .skip
def A43 : List Nat := []
noncomputable def W35_lists : Option (tModule) :=
  (W35_x ([118] : Str)).bind fun r1 =>
  (W35_app ([112] : Str) ([r1] : List tPred)).bind fun r2 =>
  (W35_x ([118] : Str)).bind fun r3 =>
  (W35_app ([112] : Str) ([r3] : List tPred)).bind fun r4 =>
  (W35_integer r4).bind fun r5 =>
  some (⟨([(⟨([76, 105, 115, 116] : Str), ([] : List Str), ([(⟨([112] : Str), ([73, 110, 116] : Str)⟩ : tVar)] : List tVar), ([(⟨([78, 105, 108] : Str), ([] : List Str), ([] : List tType)⟩ : tCon), (⟨([67, 111, 110, 115] : Str), ([([120] : Str), ([114, 101, 115, 116] : Str)] : List Str), ([r5, (⟨4, ([76, 105, 115, 116] : Str), ([] : List tType), ([] : List Str), (⟨0, ([] : Str), 0, ([] : List tPred)⟩ : tPred), ([r2] : List tPred)⟩ : tType)] : List tType)⟩ : tCon)] : List tCon)⟩ : tData)] : List tData), ([] : List tClass), ([] : List tInstance), ([] : List tMeasure), ([] : List tQual), ([] : List tDef)⟩ : tModule)
theorem W35_lists_ok {r : tModule} (h : W35_lists = some r) : CC Pg GE 43 [] (.agg (c_tModule r)) [(1, 231), (2, 233), (3, 236), (4, 238), (5, 247)] := by
  obtain ⟨r1, br1, h⟩ := bnd h
  obtain ⟨r2, br2, h⟩ := bnd h
  obtain ⟨r3, br3, h⟩ := bnd h
  obtain ⟨r4, br4, h⟩ := bnd h
  obtain ⟨r5, br5, h⟩ := bnd h
  obtain rfl := lf h
  have z := sx pz57 <| sca (W35_x_ok br1) <| sv (sT29.mk' (v := v_tPred) pcA_tPred ([r1] : List tPred) 1 (by kernel_rfl)) <| sca (W35_app_ok br2) <| sv (sT29.mk' (v := v_tPred) pcA_tPred ([r2] : List tPred) 1 (by kernel_rfl)) <| sb (bu_tType_0_1_5 4 ([76, 105, 115, 116] : Str) ([r2] : List tPred)) (bn_tType_0_1_5 4 ([76, 105, 115, 116] : Str) ([r2] : List tPred)) <| sx pz33 <| sy (ex_tType (⟨4, ([76, 105, 115, 116] : Str), ([] : List tType), ([] : List Str), (⟨0, ([] : Str), 0, ([] : List tPred)⟩ : tPred), ([r2] : List tPred)⟩ : tType)) <| sdr [0, 1, 0, 0, 0, 16, 48, 112, 0, 496, 1016, 2044, 4095, 8191, 16383, 32767] <| sv (bu_tVar_0_1 ([112] : Str) ([73, 110, 116] : Str)) <| sv (sT36.mk' (v := v_tVar) pcA_tVar ([(⟨([112] : Str), ([73, 110, 116] : Str)⟩ : tVar)] : List tVar) 1 (by kernel_rfl)) <| sb (bu_tCon_0 ([78, 105, 108] : Str)) (bn_tCon_0 ([78, 105, 108] : Str)) <| sv (sT22.mk' (v := PVal.str) pcS ([([120] : Str), ([114, 101, 115, 116] : Str)] : List Str) 2 (by kernel_rfl)) <| sca (W35_x_ok br3) <| sv (sT29.mk' (v := v_tPred) pcA_tPred ([r3] : List tPred) 1 (by kernel_rfl)) <| sca (W35_app_ok br4) <| sca (W35_integer_ok br5) <| sv (lkx_tType (⟨4, ([76, 105, 115, 116] : Str), ([] : List tType), ([] : List Str), (⟨0, ([] : Str), 0, ([] : List tPred)⟩ : tPred), ([r2] : List tPred)⟩ : tType) []) <| sv (sT27.mk' (v := v_tType) pcA_tType ([r5, (⟨4, ([76, 105, 115, 116] : Str), ([] : List tType), ([] : List Str), (⟨0, ([] : Str), 0, ([] : List tPred)⟩ : tPred), ([r2] : List tPred)⟩ : tType)] : List tType) 2 (by kernel_rfl)) <| sv (bu_tCon_0_1_2 ([67, 111, 110, 115] : Str) ([([120] : Str), ([114, 101, 115, 116] : Str)] : List Str) ([r5, (⟨4, ([76, 105, 115, 116] : Str), ([] : List tType), ([] : List Str), (⟨0, ([] : Str), 0, ([] : List tPred)⟩ : tPred), ([r2] : List tPred)⟩ : tType)] : List tType)) <| sv (sT59.mk' (v := v_tCon) pcA_tCon ([(⟨([78, 105, 108] : Str), ([] : List Str), ([] : List tType)⟩ : tCon), (⟨([67, 111, 110, 115] : Str), ([([120] : Str), ([114, 101, 115, 116] : Str)] : List Str), ([r5, (⟨4, ([76, 105, 115, 116] : Str), ([] : List tType), ([] : List Str), (⟨0, ([] : Str), 0, ([] : List tPred)⟩ : tPred), ([r2] : List tPred)⟩ : tType)] : List tType)⟩ : tCon)] : List tCon) 2 (by kernel_rfl)) <| sb (bu_tData_0_2_3 ([76, 105, 115, 116] : Str) ([(⟨([112] : Str), ([73, 110, 116] : Str)⟩ : tVar)] : List tVar) ([(⟨([78, 105, 108] : Str), ([] : List Str), ([] : List tType)⟩ : tCon), (⟨([67, 111, 110, 115] : Str), ([([120] : Str), ([114, 101, 115, 116] : Str)] : List Str), ([r5, (⟨4, ([76, 105, 115, 116] : Str), ([] : List tType), ([] : List Str), (⟨0, ([] : Str), 0, ([] : List tPred)⟩ : tPred), ([r2] : List tPred)⟩ : tType)] : List tType)⟩ : tCon)] : List tCon)) (bn_tData_0_2_3 ([76, 105, 115, 116] : Str) ([(⟨([112] : Str), ([73, 110, 116] : Str)⟩ : tVar)] : List tVar) ([(⟨([78, 105, 108] : Str), ([] : List Str), ([] : List tType)⟩ : tCon), (⟨([67, 111, 110, 115] : Str), ([([120] : Str), ([114, 101, 115, 116] : Str)] : List Str), ([r5, (⟨4, ([76, 105, 115, 116] : Str), ([] : List tType), ([] : List Str), (⟨0, ([] : Str), 0, ([] : List tPred)⟩ : tPred), ([r2] : List tPred)⟩ : tType)] : List tType)⟩ : tCon)] : List tCon)) <| sv (sT50.mk' (v := v_tData) pcA_tData ([(⟨([76, 105, 115, 116] : Str), ([] : List Str), ([(⟨([112] : Str), ([73, 110, 116] : Str)⟩ : tVar)] : List tVar), ([(⟨([78, 105, 108] : Str), ([] : List Str), ([] : List tType)⟩ : tCon), (⟨([67, 111, 110, 115] : Str), ([([120] : Str), ([114, 101, 115, 116] : Str)] : List Str), ([r5, (⟨4, ([76, 105, 115, 116] : Str), ([] : List tType), ([] : List Str), (⟨0, ([] : Str), 0, ([] : List tPred)⟩ : tPred), ([r2] : List tPred)⟩ : tType)] : List tType)⟩ : tCon)] : List tCon)⟩ : tData)] : List tData) 1 (by kernel_rfl)) <| sb (bu_tModule_0 ([(⟨([76, 105, 115, 116] : Str), ([] : List Str), ([(⟨([112] : Str), ([73, 110, 116] : Str)⟩ : tVar)] : List tVar), ([(⟨([78, 105, 108] : Str), ([] : List Str), ([] : List tType)⟩ : tCon), (⟨([67, 111, 110, 115] : Str), ([([120] : Str), ([114, 101, 115, 116] : Str)] : List Str), ([r5, (⟨4, ([76, 105, 115, 116] : Str), ([] : List tType), ([] : List Str), (⟨0, ([] : Str), 0, ([] : List tPred)⟩ : tPred), ([r2] : List tPred)⟩ : tType)] : List tType)⟩ : tCon)] : List tCon)⟩ : tData)] : List tData)) (bn_tModule_0 ([(⟨([76, 105, 115, 116] : Str), ([] : List Str), ([(⟨([112] : Str), ([73, 110, 116] : Str)⟩ : tVar)] : List tVar), ([(⟨([78, 105, 108] : Str), ([] : List Str), ([] : List tType)⟩ : tCon), (⟨([67, 111, 110, 115] : Str), ([([120] : Str), ([114, 101, 115, 116] : Str)] : List Str), ([r5, (⟨4, ([76, 105, 115, 116] : Str), ([] : List tType), ([] : List Str), (⟨0, ([] : Str), 0, ([] : List tPred)⟩ : tPred), ([r2] : List tPred)⟩ : tType)] : List tType)⟩ : tCon)] : List tCon)⟩ : tData)] : List tData)) <| syx (pcx_tModule (⟨([(⟨([76, 105, 115, 116] : Str), ([] : List Str), ([(⟨([112] : Str), ([73, 110, 116] : Str)⟩ : tVar)] : List tVar), ([(⟨([78, 105, 108] : Str), ([] : List Str), ([] : List tType)⟩ : tCon), (⟨([67, 111, 110, 115] : Str), ([([120] : Str), ([114, 101, 115, 116] : Str)] : List Str), ([r5, (⟨4, ([76, 105, 115, 116] : Str), ([] : List tType), ([] : List Str), (⟨0, ([] : Str), 0, ([] : List tPred)⟩ : tPred), ([r2] : List tPred)⟩ : tType)] : List tType)⟩ : tCon)] : List tCon)⟩ : tData)] : List tData), ([] : List tClass), ([] : List tInstance), ([] : List tMeasure), ([] : List tQual), ([] : List tDef)⟩ : tModule)) <| en (aI (rex_tModule (⟨([(⟨([76, 105, 115, 116] : Str), ([] : List Str), ([(⟨([112] : Str), ([73, 110, 116] : Str)⟩ : tVar)] : List tVar), ([(⟨([78, 105, 108] : Str), ([] : List Str), ([] : List tType)⟩ : tCon), (⟨([67, 111, 110, 115] : Str), ([([120] : Str), ([114, 101, 115, 116] : Str)] : List Str), ([r5, (⟨4, ([76, 105, 115, 116] : Str), ([] : List tType), ([] : List Str), (⟨0, ([] : Str), 0, ([] : List tPred)⟩ : tPred), ([r2] : List tPred)⟩ : tType)] : List tType)⟩ : tCon)] : List tCon)⟩ : tData)] : List tData), ([] : List tClass), ([] : List tInstance), ([] : List tMeasure), ([] : List tQual), ([] : List tDef)⟩ : tModule)) <| aI (cl_tModule (⟨([(⟨([76, 105, 115, 116] : Str), ([] : List Str), ([(⟨([112] : Str), ([73, 110, 116] : Str)⟩ : tVar)] : List tVar), ([(⟨([78, 105, 108] : Str), ([] : List Str), ([] : List tType)⟩ : tCon), (⟨([67, 111, 110, 115] : Str), ([([120] : Str), ([114, 101, 115, 116] : Str)] : List Str), ([r5, (⟨4, ([76, 105, 115, 116] : Str), ([] : List tType), ([] : List Str), (⟨0, ([] : Str), 0, ([] : List tPred)⟩ : tPred), ([r2] : List tPred)⟩ : tType)] : List tType)⟩ : tCon)] : List tCon)⟩ : tData)] : List tData), ([] : List tClass), ([] : List tInstance), ([] : List tMeasure), ([] : List tQual), ([] : List tDef)⟩ : tModule)) <| rT)
  exact C.evp (A := A43) mixed Tryz.call43 Tryz.func43 (c := b43) rfl trivial z (by kernel_rfl)
noncomputable def b61 : Code := Tryz.f61.body.getD .skip
def A61 : List Nat := [23, 31]
noncomputable def syntax_Con_L1_S (name : Str) (t12 : (List tData)) (t13 : Int) (t14 : Int) (m : Str) (m2 : (List Str)) (m3 : (List tVar)) (m4 : (List tCon)) : PSt := stt 35 [(1, .str name), (4, .bptr 1 0), (12, sl c_tData t12), (13, .int .i64 t13), (14, .int .i64 t14)] [.dead, .cells [.str m, sl cS m2, sl c_tVar m3, sl c_tCon m4] [(1, 9), (2, 88), (3, 63)]] []
noncomputable def syntax_Con_L1_e (o : (Int × Str × (List Str) × (List tVar) × (List tCon)) ⊕ (Str × (List Str) × (List tVar) × (List tCon))) : Exit := match o with
  | (.inl _) => .ret
  | (.inr _) => .exit 0
noncomputable def syntax_Con_L1_s (name : Str) (t12 : (List tData)) (t13 : Int) (o : (Int × Str × (List Str) × (List tVar) × (List tCon)) ⊕ (Str × (List Str) × (List tVar) × (List tCon))) : PSt := match o with
  | (.inl o) => stt 35 [(4, .bptr 1 0), (5, .int .i64 o.1), (6, .bool true)] [.dead, .cells [.str o.2.1, sl cS o.2.2.1, sl c_tVar o.2.2.2.1, sl c_tCon o.2.2.2.2] []] []
  | (.inr o) => stt 35 [(4, .bptr 1 0)] [.dead, .cells [.str o.1, sl cS o.2.1, sl c_tVar o.2.2.1, sl c_tCon o.2.2.2] [(1, 9), (2, 88), (3, 63)]] []
noncomputable def syntax_Con_L2_S (name : Str) (t12 : (List tData)) (t13 : Int) (t14 : Int) (t19 : (List tCon)) (t20 : Int) (t21 : Int) (m : Str) (m2 : (List Str)) (m3 : (List tVar)) (m4 : (List tCon)) (m5 : Str) (m6 : (List Str)) (m7 : (List tVar)) : PSt := stt 35 [(1, .str name), (4, .bptr 1 0), (8, .bptr 2 0), (12, sl c_tData t12), (13, .int .i64 t13), (14, .int .i64 t14), (19, sl c_tCon t19), (20, .int .i64 t20), (21, .int .i64 t21)] [.dead, .cells [.str m, sl cS m2, sl c_tVar m3, sl c_tCon m4] [(1, 9), (2, 88), (3, 63)], .cells [.str m5, sl cS m6, sl c_tVar m7, sl c_tCon t19] []] []
noncomputable def syntax_Con_L2_e (o : (Int) ⊕ (Str × (List Str) × (List tVar) × (List tCon))) : Exit := match o with
  | (.inl _) => .ret
  | (.inr _) => .exit 2
noncomputable def syntax_Con_L2_s (name : Str) (t12 : (List tData)) (t13 : Int) (t14 : Int) (t19 : (List tCon)) (t20 : Int) (m5 : Str) (m6 : (List Str)) (m7 : (List tVar)) (o : (Int) ⊕ (Str × (List Str) × (List tVar) × (List tCon))) : PSt := match o with
  | (.inl o) => stt 35 [(4, .bptr 1 0), (5, .int .i64 o), (6, .bool true)] [.dead, .cells [.str m5, sl cS m6, sl c_tVar m7, sl c_tCon t19] [], .cells [.str m5, sl cS m6, sl c_tVar m7, sl c_tCon t19] []] []
  | (.inr o) => stt 35 [(1, .str name), (4, .bptr 1 0), (12, sl c_tData t12), (13, .int .i64 t13), (14, .int .i64 t14)] [.dead, .cells [.str o.1, sl cS o.2.1, sl c_tVar o.2.2.1, sl c_tCon o.2.2.2] [(1, 9), (2, 88), (3, 63)], .cells [.str m5, sl cS m6, sl c_tVar m7, sl c_tCon t19] []] []
noncomputable def syntax_Con_L2_b (name : Str) (t19 : (List tCon)) (t20 : Int) (t21 : Int) (m : Str) (m2 : (List Str)) (m3 : (List tVar)) (m4 : (List tCon)) : Option ((Int × Str × (List Str) × (List tVar) × (List tCon)) ⊕ ((Int) ⊕ (Str × (List Str) × (List tVar) × (List tCon)))) :=
  if (decide (t21 < t20)) = true then
    (idx t19 t21).bind fun x4 =>
    if (x4.Name == name) = true then
      some (.inr (.inl t21))
    else
      some (.inl (w64 (t21 + 1), m, m2, m3, m4))
  else
    some (.inr (.inr (m, m2, m3, m4)))
noncomputable def syntax_Con_L2 (name : Str) (t19 : (List tCon)) (t20 : Int) (t21 : Int) (m : Str) (m2 : (List Str)) (m3 : (List tVar)) (m4 : (List tCon)) : Option ((Int) ⊕ (Str × (List Str) × (List tVar) × (List tCon))) := loop (fun (zz : Int × Str × (List Str) × (List tVar) × (List tCon)) => syntax_Con_L2_b name t19 t20 zz.1 zz.2.1 zz.2.2.1 zz.2.2.2.1 zz.2.2.2.2) (t21, m, m2, m3, m4)
theorem syntax_Con_L2_bok (name : Str) (t12 : (List tData)) (t13 : Int) (t14 : Int) (t19 : (List tCon)) (t20 : Int) (t21 : Int) (m : Str) (m2 : (List Str)) (m3 : (List tVar)) (m4 : (List tCon)) (m5 : Str) (m6 : (List Str)) (m7 : (List tVar)) {y : (Int × Str × (List Str) × (List tVar) × (List tCon)) ⊕ ((Int) ⊕ (Str × (List Str) × (List tVar) × (List tCon)))} (h : syntax_Con_L2_b name t19 t20 t21 m m2 m3 m4 = some y) :
    Sat Pg GE 0 (cA b61 14303) (LQ (fun (zz : Int × Str × (List Str) × (List tVar) × (List tCon)) => syntax_Con_L2_S name t12 t13 t14 t19 t20 zz.1 zz.2.1 zz.2.2.1 zz.2.2.2.1 zz.2.2.2.2 m5 m6 m7) syntax_Con_L2_e (syntax_Con_L2_s name t12 t13 t14 t19 t20 m5 m6 m7) y) (syntax_Con_L2_S name t12 t13 t14 t19 t20 t21 m m2 m3 m4 m5 m6 m7) := by
  rcases ifs h with ⟨c3, h⟩ | ⟨c3, h⟩
  · obtain ⟨x4, bx4, h⟩ := bnd h
    rcases ifs h with ⟨c5, h⟩ | ⟨c5, h⟩
    · obtain rfl := lf h
      have z := sg 0 c3 <| sv (sT59.ia (k := .i64) bx4) <| sv (lk_tCon x4) <| sx pz63 <| sx (pcx_tCon x4) <| ss <| sg 0 c5 <| sv (lkx_tData (⟨m5, m6, m7, t19⟩ : tData) []) <| sx (pcx_tData (⟨m5, m6, m7, t19⟩ : tData)) <| eFx 0 (syntax_Con_L2_e (.inl t21)) (syntax_Con_L2_s name t12 t13 t14 t19 t20 m5 m6 m7 (.inl t21)) rfl (cl_tm (aI (lt_of rfl) (aI trivial (aI trivial trivial)))) (aI trivial (aI (aI trivial (aI (up (cl_sl clS m6)) (aI (up (cl_sl cl_tVar m7)) (aI (up (cl_sl cl_tCon t19)) trivial)))) (aI (aI trivial (aI (up (cl_sl clS m6)) (aI (up (cl_sl cl_tVar m7)) (aI (up (cl_sl cl_tCon t19)) trivial)))) trivial)))
      exact overxp (A := A61) mixed (by intro hx; cases hx) z (by kernel_rfl)
    · obtain rfl := lf h
      have z := sg 0 c3 <| sv (sT59.ia (k := .i64) bx4) <| sv (lk_tCon x4) <| sx pz63 <| sx (pcx_tCon x4) <| ss <| sg 0 c5 <| eFx 0 .normal (syntax_Con_L2_S name t12 t13 t14 t19 t20 (w64 (t21 + 1)) m m2 m3 m4 m5 m6 m7) rfl (cl_tm (aI trivial (aI (lt_of rfl) (aI (lt_of rfl) (aI (up (cl_sl cl_tData t12)) (aI trivial (aI trivial (aI (up (cl_sl cl_tCon t19)) (aI trivial (aI trivial trivial)))))))))) (aI trivial (aI (aI trivial (aI (up (cl_sl clS m2)) (aI (up (cl_sl cl_tVar m3)) (aI (up (cl_sl cl_tCon m4)) trivial)))) (aI (aI trivial (aI (up (cl_sl clS m6)) (aI (up (cl_sl cl_tVar m7)) (aI (up (cl_sl cl_tCon t19)) trivial)))) trivial)))
      exact nextxp (A := A61) mixed z (by kernel_rfl)
  · obtain rfl := lf h
    have z := sg 0 c3 <| eF (syntax_Con_L2_e (.inr (m, m2, m3, m4))) (syntax_Con_L2_s name t12 t13 t14 t19 t20 m5 m6 m7 (.inr (m, m2, m3, m4)))
    exact overp (A := A61) mixed (by intro hx; cases hx) z (by kernel_rfl)
theorem syntax_Con_L2_ok (name : Str) (t12 : (List tData)) (t13 : Int) (t14 : Int) (t19 : (List tCon)) (t20 : Int) (t21 : Int) (m : Str) (m2 : (List Str)) (m3 : (List tVar)) (m4 : (List tCon)) (m5 : Str) (m6 : (List Str)) (m7 : (List tVar)) {x : (Int) ⊕ (Str × (List Str) × (List tVar) × (List tCon))} (h : syntax_Con_L2 name t19 t20 t21 m m2 m3 m4 = some x) :
    Sat Pg GE 0 (.loop (cA b61 14303)) (EX (syntax_Con_L2_e x) (syntax_Con_L2_s name t12 t13 t14 t19 t20 m5 m6 m7 x)) (syntax_Con_L2_S name t12 t13 t14 t19 t20 t21 m m2 m3 m4 m5 m6 m7) :=
  Sat.loop (S := fun (zz : Int × Str × (List Str) × (List tVar) × (List tCon)) => syntax_Con_L2_S name t12 t13 t14 t19 t20 zz.1 zz.2.1 zz.2.2.1 zz.2.2.2.1 zz.2.2.2.2 m5 m6 m7) (ex := syntax_Con_L2_e) (s := (t21, m, m2, m3, m4)) h fun zz y hy => syntax_Con_L2_bok name t12 t13 t14 t19 t20 zz.1 zz.2.1 zz.2.2.1 zz.2.2.2.1 zz.2.2.2.2 m5 m6 m7 hy
noncomputable def syntax_Con_L1_b (name : Str) (t12 : (List tData)) (t13 : Int) (t14 : Int) (m : Str) (m2 : (List Str)) (m3 : (List tVar)) (m4 : (List tCon)) : Option ((Int × Str × (List Str) × (List tVar) × (List tCon)) ⊕ ((Int × Str × (List Str) × (List tVar) × (List tCon)) ⊕ (Str × (List Str) × (List tVar) × (List tCon)))) :=
  if (decide (t14 < t13)) = true then
    (idx t12 t14).bind fun x2 =>
    (syntax_Con_L2 name x2.Cons (x2.Cons.length : Int) 0 m m2 m3 m4).bind fun o6 => match o6 with
    | (.inl o6) =>
      some (.inr (.inl (o6, x2.Name, x2.Vars, x2.Preds, x2.Cons)))
    | (.inr o6) =>
      some (.inl (w64 (t14 + 1), o6.1, o6.2.1, o6.2.2.1, o6.2.2.2))
  else
    some (.inr (.inr (m, m2, m3, m4)))
noncomputable def syntax_Con_L1 (name : Str) (t12 : (List tData)) (t13 : Int) (t14 : Int) (m : Str) (m2 : (List Str)) (m3 : (List tVar)) (m4 : (List tCon)) : Option ((Int × Str × (List Str) × (List tVar) × (List tCon)) ⊕ (Str × (List Str) × (List tVar) × (List tCon))) := loop (fun (zz : Int × Str × (List Str) × (List tVar) × (List tCon)) => syntax_Con_L1_b name t12 t13 zz.1 zz.2.1 zz.2.2.1 zz.2.2.2.1 zz.2.2.2.2) (t14, m, m2, m3, m4)
theorem syntax_Con_L1_bok (name : Str) (t12 : (List tData)) (t13 : Int) (t14 : Int) (m : Str) (m2 : (List Str)) (m3 : (List tVar)) (m4 : (List tCon)) {y : (Int × Str × (List Str) × (List tVar) × (List tCon)) ⊕ ((Int × Str × (List Str) × (List tVar) × (List tCon)) ⊕ (Str × (List Str) × (List tVar) × (List tCon)))} (h : syntax_Con_L1_b name t12 t13 t14 m m2 m3 m4 = some y) :
    Sat Pg GE 0 (cA b61 55) (LQ (fun (zz : Int × Str × (List Str) × (List tVar) × (List tCon)) => syntax_Con_L1_S name t12 t13 zz.1 zz.2.1 zz.2.2.1 zz.2.2.2.1 zz.2.2.2.2) syntax_Con_L1_e (syntax_Con_L1_s name t12 t13) y) (syntax_Con_L1_S name t12 t13 t14 m m2 m3 m4) := by
  rcases ifs h with ⟨c1, h⟩ | ⟨c1, h⟩
  · obtain ⟨x2, bx2, h⟩ := bnd h
    obtain ⟨o6, bo6, h⟩ := bnd h
    rcases o6 with o6 | o6
    · obtain rfl := lf h
      have z := sg 0 c1 <| sv (sT50.ia (k := .i64) bx2) <| sv (lk_tData x2) <| sx pz61 <| sx (pcx_tData x2) <| ss <| svn (sT59.ln x2.Cons) <| spc (e := .ret) (s1 := syntax_Con_L2_s name t12 t13 t14 x2.Cons (x2.Cons.length : Int) x2.Name x2.Vars x2.Preds (.inl o6)) (syntax_Con_L2_ok name t12 t13 t14 x2.Cons (x2.Cons.length : Int) 0 m m2 m3 m4 x2.Name x2.Vars x2.Preds bo6) <| eFx 0 (syntax_Con_L1_e (.inl (o6, x2.Name, x2.Vars, x2.Preds, x2.Cons))) (syntax_Con_L1_s name t12 t13 (.inl (o6, x2.Name, x2.Vars, x2.Preds, x2.Cons))) rfl (cl_tm (aI (lt_of rfl) (aI trivial (aI trivial trivial)))) (aI trivial (aI (aI trivial (aI (up (cl_sl clS x2.Vars)) (aI (up (cl_sl cl_tVar x2.Preds)) (aI (up (cl_sl cl_tCon x2.Cons)) trivial)))) trivial))
      exact overxp (A := A61) mixed (by intro hx; cases hx) z (by kernel_rfl)
    · obtain rfl := lf h
      have z := sg 0 c1 <| sv (sT50.ia (k := .i64) bx2) <| sv (lk_tData x2) <| sx pz61 <| sx (pcx_tData x2) <| ss <| svn (sT59.ln x2.Cons) <| spc (e := .exit 2) (s1 := syntax_Con_L2_s name t12 t13 t14 x2.Cons (x2.Cons.length : Int) x2.Name x2.Vars x2.Preds (.inr o6)) (syntax_Con_L2_ok name t12 t13 t14 x2.Cons (x2.Cons.length : Int) 0 m m2 m3 m4 x2.Name x2.Vars x2.Preds bo6) <| eFx 0 .normal (syntax_Con_L1_S name t12 t13 (w64 (t14 + 1)) o6.1 o6.2.1 o6.2.2.1 o6.2.2.2) rfl (cl_tm (aI trivial (aI (lt_of rfl) (aI (up (cl_sl cl_tData t12)) (aI trivial (aI trivial trivial)))))) (aI trivial (aI (aI trivial (aI (up (cl_sl clS o6.2.1)) (aI (up (cl_sl cl_tVar o6.2.2.1)) (aI (up (cl_sl cl_tCon o6.2.2.2)) trivial)))) trivial))
      exact nextxp (A := A61) mixed z (by kernel_rfl)
  · obtain rfl := lf h
    have z := sg 0 c1 <| eF (syntax_Con_L1_e (.inr (m, m2, m3, m4))) (syntax_Con_L1_s name t12 t13 (.inr (m, m2, m3, m4)))
    exact overp (A := A61) mixed (by intro hx; cases hx) z (by kernel_rfl)
theorem syntax_Con_L1_ok (name : Str) (t12 : (List tData)) (t13 : Int) (t14 : Int) (m : Str) (m2 : (List Str)) (m3 : (List tVar)) (m4 : (List tCon)) {x : (Int × Str × (List Str) × (List tVar) × (List tCon)) ⊕ (Str × (List Str) × (List tVar) × (List tCon))} (h : syntax_Con_L1 name t12 t13 t14 m m2 m3 m4 = some x) :
    Sat Pg GE 0 (.loop (cA b61 55)) (EX (syntax_Con_L1_e x) (syntax_Con_L1_s name t12 t13 x)) (syntax_Con_L1_S name t12 t13 t14 m m2 m3 m4) :=
  Sat.loop (S := fun (zz : Int × Str × (List Str) × (List tVar) × (List tCon)) => syntax_Con_L1_S name t12 t13 zz.1 zz.2.1 zz.2.2.1 zz.2.2.2.1 zz.2.2.2.2) (ex := syntax_Con_L1_e) (s := (t14, m, m2, m3, m4)) h fun zz y hy => syntax_Con_L1_bok name t12 t13 zz.1 zz.2.1 zz.2.2.1 zz.2.2.2.1 zz.2.2.2.2 hy
noncomputable def syntax_Con (m : tModule) (name : Str) : Option (tData × Int × Bool) :=
  (syntax_Con_L1 name m.Datas (m.Datas.length : Int) 0 ([] : Str) ([] : List Str) ([] : List tVar) ([] : List tCon)).bind fun o7 => match o7 with
  | (.inl o7) =>
    some ((⟨o7.2.1, o7.2.2.1, o7.2.2.2.1, o7.2.2.2.2⟩ : tData), o7.1, true)
  | (.inr o7) =>
    some ((⟨([] : Str), ([] : List Str), ([] : List tVar), ([] : List tCon)⟩ : tData), 0, false)
theorem syntax_Con_ok {m : tModule} {name : Str} {r : tData × Int × Bool} (h : syntax_Con m name = some r) : CC Pg GE 61 [.agg (c_tModule m), .str name] (.tuple [.agg (c_tData r.1), .int .i64 r.2.1, .bool r.2.2]) [] := by
  obtain ⟨o7, bo7, h⟩ := bnd h
  rcases o7 with o7 | o7
  · obtain rfl := lf h
    have z := se (pc_tModule m) <| sx pz61 <| sv (fa_tModule_57_0 m) <| sv (lf_tModule_0_50 m) <| svn (sT50.ln m.Datas) <| spc (e := .ret) (s1 := syntax_Con_L1_s name m.Datas (m.Datas.length : Int) (.inl o7)) (syntax_Con_L1_ok name m.Datas (m.Datas.length : Int) 0 ([] : Str) ([] : List Str) ([] : List tVar) ([] : List tCon) bo7) <| en (aI (congrArg PVal.tuple (cons2 (rex_tData (⟨o7.2.1, o7.2.2.1, o7.2.2.2.1, o7.2.2.2.2⟩ : tData)) (cons2 (rP (.int .i64 o7.1)) (cons2 (rP (.bool true)) (rfl : ([] : List PVal) = []))))) <| (aI (cl_tData (⟨o7.2.1, o7.2.2.1, o7.2.2.2.1, o7.2.2.2.2⟩ : tData)) (aI trivial (aI trivial trivial))))
    exact C.evp (A := A61) mixed Tryz.call61 Tryz.func61 (c := b61) rfl (aI (cl_tModule m) (aI trivial trivial)) z (by kernel_rfl)
  · obtain rfl := lf h
    have z := se (pc_tModule m) <| sx pz61 <| sv (fa_tModule_57_0 m) <| sv (lf_tModule_0_50 m) <| svn (sT50.ln m.Datas) <| spc (e := .exit 0) (s1 := syntax_Con_L1_s name m.Datas (m.Datas.length : Int) (.inr o7)) (syntax_Con_L1_ok name m.Datas (m.Datas.length : Int) 0 ([] : Str) ([] : List Str) ([] : List tVar) ([] : List tCon) bo7) <| sb (bu_tData_n ) (bn_tData_n ) <| sy (ex_tData (⟨([] : Str), ([] : List Str), ([] : List tVar), ([] : List tCon)⟩ : tData)) <| en (aI (congrArg PVal.tuple (cons2 (rex_tData (⟨([] : Str), ([] : List Str), ([] : List tVar), ([] : List tCon)⟩ : tData)) (cons2 (rP (.int .i64 0)) (cons2 (rP (.bool false)) (rfl : ([] : List PVal) = []))))) <| (aI (cl_tData (⟨([] : Str), ([] : List Str), ([] : List tVar), ([] : List tCon)⟩ : tData)) (aI trivial (aI trivial trivial))))
    exact C.evp (A := A61) mixed Tryz.call61 Tryz.func61 (c := b61) rfl (aI (cl_tModule m) (aI trivial trivial)) z (by kernel_rfl)
abbrev T_abstract_refined := (tType → tData → (List tPred) → Option (tType))
abbrev H_abstract_refined (R : T_abstract_refined) : Prop := ∀ (t : tType) (c : tData) (c2 : (List tPred)) (r : tType), R t c c2 = some r → CC Pg GE 51 [.agg (c_tType t), .func (.func 64) [] [.eptr (c_tData c), .eptr ((cL c_tPred) c2)]] (.agg (c_tType r)) [(2, 33)]
abbrev T_abstract_put := (tPred → (List tVar) → (List tPred) → Option (tPred))
abbrev H_abstract_put (R : T_abstract_put) : Prop := ∀ (p : tPred) (params : (List tVar)) (preds : (List tPred)) (r : tPred), R p params preds = some r → CC Pg GE 65 [.agg (c_tPred p), sl c_tVar params, sl c_tPred preds] (.agg (c_tPred r)) [(3, 31)]
noncomputable def b98 : Code := Tryz.f98.body.getD .skip
def A98 : List Nat := []
noncomputable def abstract_put_1 (R16 : T_abstract_put) (k : tPred) (a : (List tVar)) (a2 : (List tPred)) : Option (tPred) :=
  (R16 k a a2).bind fun r1 =>
  some r1
theorem abstract_put_1_ok (R16 : T_abstract_put) (hR16 : H_abstract_put R16) {k : tPred} {a : (List tVar)} {a2 : (List tPred)} {r : tPred} (h : abstract_put_1 R16 k a a2 = some r) : CC Pg GE 98 [.agg (c_tPred k), .eptr ((cL c_tVar) a), .eptr ((cL c_tPred) a2)] (.agg (c_tPred r)) [(3, 31)] := by
  obtain ⟨r1, br1, h⟩ := bnd h
  obtain rfl := lf h
  have z := se (pc_tPred k) <| sx pz31 <| sv (lk_tPred k) <| sv (plook1 sc36 (sl c_tVar a) []) <| sv (plook1 sc29 (sl c_tPred a2) []) <| sca (hR16 _ _ _ _ br1) <| sy (ex_tPred r1) <| en (aI (rex_tPred r1) <| aI (cl_tPred r1) <| rT)
  exact C.evp (A := A98) mixed Tryz.call98 Tryz.func98 (c := b98) rfl (aI (cl_tPred k) (aI (clLs cl_tVar a) (aI (clLs cl_tPred a2) trivial))) z (by kernel_rfl)
noncomputable def b56 : Code := Tryz.f56.body.getD .skip
def A56 : List Nat := [14, 21]
noncomputable def abstract_mapped_3_L1_S (v : (List tVar)) (v2 : (List tPred)) (out : (List tPred)) (t8 : (List tPred)) (t9 : Int) (t10 : Int) : PSt := stt 22 [(1, .func (.func 98) [] [.eptr ((cL c_tVar) v), .eptr ((cL c_tPred) v2)]), (5, sl c_tPred out), (8, sl c_tPred t8), (9, .int .i64 t9), (10, .int .i64 t10)] [] [((5, 0), 31)]
noncomputable def abstract_mapped_3_L1_s (v : (List tVar)) (v2 : (List tPred)) (t8 : (List tPred)) (t9 : Int) (o : (List tPred)) : PSt := stt 22 [(5, sl c_tPred o)] [] [((5, 0), 31)]
noncomputable def abstract_mapped_3_L1_b (R16 : T_abstract_put) (v : (List tVar)) (v2 : (List tPred)) (t8 : (List tPred)) (t9 : Int) (out : (List tPred)) (t10 : Int) : Option (((List tPred) × Int) ⊕ (((List tPred)))) :=
  if (decide (t10 < t9)) = true then
    (idx t8 t10).bind fun x2 =>
    (abstract_put_1 R16 x2 v v2).bind fun r3 =>
    (app out ([r3] : List tPred)).bind fun l4 =>
    some (.inl (l4, w64 (t10 + 1)))
  else
    some (.inr out)
noncomputable def abstract_mapped_3_L1 (R16 : T_abstract_put) (v : (List tVar)) (v2 : (List tPred)) (t8 : (List tPred)) (t9 : Int) (out : (List tPred)) (t10 : Int) : Option (((List tPred))) := loop (fun (zz : (List tPred) × Int) => abstract_mapped_3_L1_b R16 v v2 t8 t9 zz.1 zz.2) (out, t10)
theorem abstract_mapped_3_L1_bok (R16 : T_abstract_put) (hR16 : H_abstract_put R16) (v : (List tVar)) (v2 : (List tPred)) (out : (List tPred)) (t8 : (List tPred)) (t9 : Int) (t10 : Int) {y : ((List tPred) × Int) ⊕ (((List tPred)))} (h : abstract_mapped_3_L1_b R16 v v2 t8 t9 out t10 = some y) :
    Sat Pg GE 0 (cA b56 119) (LQ (fun (zz : (List tPred) × Int) => abstract_mapped_3_L1_S v v2 zz.1 t8 t9 zz.2) (fun _ => .exit 0) (abstract_mapped_3_L1_s v v2 t8 t9) y) (abstract_mapped_3_L1_S v v2 out t8 t9 t10) := by
  rcases ifs h with ⟨c1, h⟩ | ⟨c1, h⟩
  · obtain ⟨x2, bx2, h⟩ := bnd h
    obtain ⟨r3, br3, h⟩ := bnd h
    obtain ⟨l4, bl4, h⟩ := bnd h
    obtain rfl := lf h
    have z := sg 0 c1 <| sv (sT29.ia (k := .i64) bx2) <| sv (lk_tPred x2) <| sx pz31 <| sx (pcx_tPred x2) <| sv (lkx_tPred x2 []) <| sca (abstract_put_1_ok R16 hR16 br3) <| sv (sT29.mk' (v := v_tPred) pcA_tPred ([r3] : List tPred) 1 (by kernel_rfl)) <| sv (sT29.ap bl4) <| eFx 0 .normal (abstract_mapped_3_L1_S v v2 l4 t8 t9 (w64 (t10 + 1))) rfl (cl_tm (aI (aI trivial (aI (clL_up (clLs cl_tVar v)) (aI (clL_up (clLs cl_tPred v2)) trivial))) (aI (up (cl_sl cl_tPred l4)) (aI (up (cl_sl cl_tPred t8)) (aI trivial (aI trivial trivial)))))) trivial
    exact nextxp (A := A56) mixed z (by kernel_rfl)
  · obtain rfl := lf h
    have z := sg 0 c1 <| eF (.exit 0) (abstract_mapped_3_L1_s v v2 t8 t9 out)
    exact overp (A := A56) mixed (by intro hx; cases hx) z (by kernel_rfl)
theorem abstract_mapped_3_L1_ok (R16 : T_abstract_put) (hR16 : H_abstract_put R16) (v : (List tVar)) (v2 : (List tPred)) (out : (List tPred)) (t8 : (List tPred)) (t9 : Int) (t10 : Int) {x : ((List tPred))} (h : abstract_mapped_3_L1 R16 v v2 t8 t9 out t10 = some x) :
    Sat Pg GE 0 (.loop (cA b56 119)) (EX (.exit 0) (abstract_mapped_3_L1_s v v2 t8 t9 x)) (abstract_mapped_3_L1_S v v2 out t8 t9 t10) :=
  Sat.loop (S := fun (zz : (List tPred) × Int) => abstract_mapped_3_L1_S v v2 zz.1 t8 t9 zz.2) (ex := (fun _ => .exit 0)) (s := (out, t10)) h fun zz y hy => abstract_mapped_3_L1_bok R16 hR16 v v2 zz.1 t8 t9 zz.2 hy
noncomputable def abstract_mapped_3 (R16 : T_abstract_put) (a : (List tPred)) (c : (List tVar)) (c2 : (List tPred)) : Option ((List tPred)) :=
  (abstract_mapped_3_L1 R16 c c2 a (a.length : Int) ([] : List tPred) 0).bind fun o5 =>
  some o5
theorem abstract_mapped_3_ok (R16 : T_abstract_put) (hR16 : H_abstract_put R16) {a : (List tPred)} {c : (List tVar)} {c2 : (List tPred)} {r : (List tPred)} (h : abstract_mapped_3 R16 a c c2 = some r) : CC Pg GE 56 [sl c_tPred a, .func (.func 98) [] [.eptr ((cL c_tVar) c), .eptr ((cL c_tPred) c2)]] (sl c_tPred r) [(0, 31)] := by
  obtain ⟨o5, bo5, h⟩ := bnd h
  obtain rfl := lf h
  have z := svn (sT29.ln a) <| spc (abstract_mapped_3_L1_ok R16 hR16 c c2 ([] : List tPred) a (a.length : Int) 0 bo5) <| en (aI (rP (sl c_tPred o5)) <| (cl_sl cl_tPred o5))
  exact C.evp (A := A56) mixed Tryz.call56 Tryz.func56 (c := b56) rfl (aI (cl_sl cl_tPred a) (aI (aI trivial (aI (clLs cl_tVar c) (aI (clLs cl_tPred c2) trivial))) trivial)) z (by kernel_rfl)
noncomputable def b100 : Code := Tryz.f100.body.getD .skip
def A100 : List Nat := []
noncomputable def abstract_put_2 (v : tVar) (a : tPred) : Option (Bool) :=
  some (v.Name == a.Name)
theorem abstract_put_2_ok {v : tVar} {a : tPred} {r : Bool} (h : abstract_put_2 v a = some r) : CC Pg GE 100 [.agg (c_tVar v), .eptr (c_tPred a)] (.bool r) [] := by
  obtain rfl := lf h
  have z := se (pc_tVar v) <| sv (fa_tVar_88_0 v) <| sv (lf_tVar_0_9 v) <| sv (fa_tPred_31_1 a) <| sv (lf_tPred_1_9 a) <| en (aI (rP (.bool (v.Name == a.Name))) <| trivial)
  exact C.evp (A := A100) mixed Tryz.call100 Tryz.func100 (c := b100) rfl (aI (cl_tVar v) (aI (cl_tPred a) trivial)) z (by kernel_rfl)
noncomputable def b99 : Code := Tryz.f99.body.getD .skip
def A99 : List Nat := [10, 17]
noncomputable def slices_IndexFunc_L1_S (s : (List tVar)) (v : tPred) (t7 : Int) (t8 : Int) : PSt := stt 19 [(0, sl c_tVar s), (1, .func (.func 100) [] [.eptr (c_tPred v)]), (7, .int .i64 t7), (8, .int .i64 t8)] [] []
noncomputable def slices_IndexFunc_L1_e (o : (Int) ⊕ (Unit)) : Exit := match o with
  | (.inl _) => .ret
  | (.inr _) => .exit 0
noncomputable def slices_IndexFunc_L1_s (s : (List tVar)) (v : tPred) (t7 : Int) (o : (Int) ⊕ (Unit)) : PSt := match o with
  | (.inl o) => stt 19 [(4, .int .i64 o)] [] []
  | (.inr o) => stt 19 [] [] []
noncomputable def slices_IndexFunc_L1_b (s : (List tVar)) (v : tPred) (t7 : Int) (t8 : Int) : Option ((Int) ⊕ ((Int) ⊕ (Unit))) :=
  if (decide (t8 < t7)) = true then
    (idx s t8).bind fun x2 =>
    (abstract_put_2 x2 v).bind fun r3 =>
    if r3 = true then
      some (.inr (.inl t8))
    else
      some (.inl (w64 (t8 + 1)))
  else
    some (.inr (.inr ()))
noncomputable def slices_IndexFunc_L1 (s : (List tVar)) (v : tPred) (t7 : Int) (t8 : Int) : Option ((Int) ⊕ (Unit)) := loop (fun (zz : Int) => slices_IndexFunc_L1_b s v t7 zz) t8
theorem slices_IndexFunc_L1_bok (s : (List tVar)) (v : tPred) (t7 : Int) (t8 : Int) {y : (Int) ⊕ ((Int) ⊕ (Unit))} (h : slices_IndexFunc_L1_b s v t7 t8 = some y) :
    Sat Pg GE 0 (cA b99 55) (LQ (fun (zz : Int) => slices_IndexFunc_L1_S s v t7 zz) slices_IndexFunc_L1_e (slices_IndexFunc_L1_s s v t7) y) (slices_IndexFunc_L1_S s v t7 t8) := by
  rcases ifs h with ⟨c1, h⟩ | ⟨c1, h⟩
  · obtain ⟨x2, bx2, h⟩ := bnd h
    obtain ⟨r3, br3, h⟩ := bnd h
    rcases ifs h with ⟨c4, h⟩ | ⟨c4, h⟩
    · obtain rfl := lf h
      have z := sg 0 c1 <| sv (sT36.ia (k := .i64) bx2) <| sv (lk_tVar x2) <| sca (abstract_put_2_ok br3) <| sg 0 c4 <| eF (slices_IndexFunc_L1_e (.inl t8)) (slices_IndexFunc_L1_s s v t7 (.inl t8))
      exact overp (A := A99) mixed (by intro hx; cases hx) z (by kernel_rfl)
    · obtain rfl := lf h
      have z := sg 0 c1 <| sv (sT36.ia (k := .i64) bx2) <| sv (lk_tVar x2) <| sca (abstract_put_2_ok br3) <| sg 0 c4 <| eF .normal (slices_IndexFunc_L1_S s v t7 (w64 (t8 + 1)))
      exact nextp (A := A99) mixed z (by kernel_rfl)
  · obtain rfl := lf h
    have z := sg 0 c1 <| eF (slices_IndexFunc_L1_e (.inr ())) (slices_IndexFunc_L1_s s v t7 (.inr ()))
    exact overp (A := A99) mixed (by intro hx; cases hx) z (by kernel_rfl)
theorem slices_IndexFunc_L1_ok (s : (List tVar)) (v : tPred) (t7 : Int) (t8 : Int) {x : (Int) ⊕ (Unit)} (h : slices_IndexFunc_L1 s v t7 t8 = some x) :
    Sat Pg GE 0 (.loop (cA b99 55)) (EX (slices_IndexFunc_L1_e x) (slices_IndexFunc_L1_s s v t7 x)) (slices_IndexFunc_L1_S s v t7 t8) :=
  Sat.loop (S := fun (zz : Int) => slices_IndexFunc_L1_S s v t7 zz) (ex := slices_IndexFunc_L1_e) (s := t8) h fun zz y hy => slices_IndexFunc_L1_bok s v t7 zz hy
noncomputable def slices_IndexFunc (s : (List tVar)) (c : tPred) : Option (Int) :=
  (slices_IndexFunc_L1 s c (s.length : Int) 0).bind fun o5 => match o5 with
  | (.inl o5) =>
    some o5
  | (.inr o5) =>
    some (-1)
theorem slices_IndexFunc_ok {s : (List tVar)} {c : tPred} {r : Int} (h : slices_IndexFunc s c = some r) : CC Pg GE 99 [sl c_tVar s, .func (.func 100) [] [.eptr (c_tPred c)]] (.int .i64 r) [] := by
  obtain ⟨o5, bo5, h⟩ := bnd h
  rcases o5 with o5 | o5
  · obtain rfl := lf h
    have z := svn (sT36.ln s) <| spc (e := .ret) (s1 := slices_IndexFunc_L1_s s c (s.length : Int) (.inl o5)) (slices_IndexFunc_L1_ok s c (s.length : Int) 0 bo5) <| en (aI (rP (.int .i64 o5)) <| trivial)
    exact C.evp (A := A99) mixed Tryz.call99 Tryz.func99 (c := b99) rfl (aI (cl_sl cl_tVar s) (aI (aI trivial (aI (cl_tPred c) trivial)) trivial)) z (by kernel_rfl)
  · obtain rfl := lf h
    have z := svn (sT36.ln s) <| spc (e := .exit 0) (s1 := slices_IndexFunc_L1_s s c (s.length : Int) (.inr o5)) (slices_IndexFunc_L1_ok s c (s.length : Int) 0 bo5) <| en (aI (rP (.int .i64 (-1))) <| trivial)
    exact C.evp (A := A99) mixed Tryz.call99 Tryz.func99 (c := b99) rfl (aI (cl_sl cl_tVar s) (aI (aI trivial (aI (cl_tPred c) trivial)) trivial)) z (by kernel_rfl)
abbrev T_pred_Same := (tPred → tPred → Option (Bool))
abbrev H_pred_Same (R : T_pred_Same) : Prop := ∀ (a : tPred) (a2 : tPred) (r : Bool), R a a2 = some r → CC Pg GE 101 [.agg (c_tPred a), .agg (c_tPred a2)] (.bool r) []
noncomputable def b127 : Code := Tryz.f127.body.getD .skip
def A127 : List Nat := [17]
noncomputable def pred_equal_L1_S (v : (List tPred)) (v2 : (List tPred)) (t14 : Int) (t15 : Int) : PSt := stt 30 [(0, sl c_tPred v), (1, sl c_tPred v2), (2, .func (.func 101) [] []), (14, .int .i64 t14), (15, .int .i64 t15)] [] []
noncomputable def pred_equal_L1_e (o : (Unit) ⊕ (Unit)) : Exit := match o with
  | (.inl _) => .ret
  | (.inr _) => .exit 0
noncomputable def pred_equal_L1_s (v : (List tPred)) (v2 : (List tPred)) (t14 : Int) (o : (Unit) ⊕ (Unit)) : PSt := match o with
  | (.inl o) => stt 30 [(6, .bool false)] [] []
  | (.inr o) => stt 30 [] [] []
noncomputable def pred_equal_L1_b (R21 : T_pred_Same) (v : (List tPred)) (v2 : (List tPred)) (t14 : Int) (t15 : Int) : Option ((Int) ⊕ ((Unit) ⊕ (Unit))) :=
  if (decide (t15 < t14)) = true then
    (idx v t15).bind fun x3 =>
    (idx v2 t15).bind fun x4 =>
    (R21 x3 x4).bind fun r5 =>
    if (!r5) = true then
      some (.inr (.inl ()))
    else
      some (.inl (w64 (t15 + 1)))
  else
    some (.inr (.inr ()))
noncomputable def pred_equal_L1 (R21 : T_pred_Same) (v : (List tPred)) (v2 : (List tPred)) (t14 : Int) (t15 : Int) : Option ((Unit) ⊕ (Unit)) := loop (fun (zz : Int) => pred_equal_L1_b R21 v v2 t14 zz) t15
theorem pred_equal_L1_bok (R21 : T_pred_Same) (hR21 : H_pred_Same R21) (v : (List tPred)) (v2 : (List tPred)) (t14 : Int) (t15 : Int) {y : (Int) ⊕ ((Unit) ⊕ (Unit))} (h : pred_equal_L1_b R21 v v2 t14 t15 = some y) :
    Sat Pg GE 0 (cA b127 119) (LQ (fun (zz : Int) => pred_equal_L1_S v v2 t14 zz) pred_equal_L1_e (pred_equal_L1_s v v2 t14) y) (pred_equal_L1_S v v2 t14 t15) := by
  rcases ifs h with ⟨c2, h⟩ | ⟨c2, h⟩
  · obtain ⟨x3, bx3, h⟩ := bnd h
    obtain ⟨x4, bx4, h⟩ := bnd h
    obtain ⟨r5, br5, h⟩ := bnd h
    rcases ifs h with ⟨c6, h⟩ | ⟨c6, h⟩
    · obtain rfl := lf h
      have z := sg 0 c2 <| sdr [0, 0, 0, 6, 14, 0, 0, 96, 224, 511, 1023] <| sv (sT29.ia (k := .i64) bx3) <| sv (lk_tPred x3) <| sv (sT29.ia (k := .i64) bx4) <| sv (lk_tPred x4) <| sca (hR21 _ _ _ br5) <| sg 0 c6 <| eF (pred_equal_L1_e (.inl ())) (pred_equal_L1_s v v2 t14 (.inl ()))
      exact overp (A := A127) mixed (by intro hx; cases hx) z (by kernel_rfl)
    · obtain rfl := lf h
      have z := sg 0 c2 <| sdr [0, 0, 0, 6, 14, 0, 0, 96, 224, 511, 1023] <| sv (sT29.ia (k := .i64) bx3) <| sv (lk_tPred x3) <| sv (sT29.ia (k := .i64) bx4) <| sv (lk_tPred x4) <| sca (hR21 _ _ _ br5) <| sg 0 c6 <| eF .normal (pred_equal_L1_S v v2 t14 (w64 (t15 + 1)))
      exact nextp (A := A127) mixed z (by kernel_rfl)
  · obtain rfl := lf h
    have z := sg 0 c2 <| eF (pred_equal_L1_e (.inr ())) (pred_equal_L1_s v v2 t14 (.inr ()))
    exact overp (A := A127) mixed (by intro hx; cases hx) z (by kernel_rfl)
theorem pred_equal_L1_ok (R21 : T_pred_Same) (hR21 : H_pred_Same R21) (v : (List tPred)) (v2 : (List tPred)) (t14 : Int) (t15 : Int) {x : (Unit) ⊕ (Unit)} (h : pred_equal_L1 R21 v v2 t14 t15 = some x) :
    Sat Pg GE 0 (.loop (cA b127 119)) (EX (pred_equal_L1_e x) (pred_equal_L1_s v v2 t14 x)) (pred_equal_L1_S v v2 t14 t15) :=
  Sat.loop (S := fun (zz : Int) => pred_equal_L1_S v v2 t14 zz) (ex := pred_equal_L1_e) (s := t15) h fun zz y hy => pred_equal_L1_bok R21 hR21 v v2 t14 zz hy
noncomputable def pred_equal (R21 : T_pred_Same) (a : (List tPred)) (a2 : (List tPred)) : Option (Bool) :=
  if ((a.length : Int) != (a2.length : Int)) = true then
    some false
  else
    (pred_equal_L1 R21 a a2 (a.length : Int) 0).bind fun o7 => match o7 with
    | (.inl o7) =>
      some false
    | (.inr o7) =>
      some true
theorem pred_equal_ok (R21 : T_pred_Same) (hR21 : H_pred_Same R21) {a : (List tPred)} {a2 : (List tPred)} {r : Bool} (h : pred_equal R21 a a2 = some r) : CC Pg GE 127 [sl c_tPred a, sl c_tPred a2, .func (.func 101) [] []] (.bool r) [] := by
  rcases ifs h with ⟨c1, h⟩ | ⟨c1, h⟩
  · obtain rfl := lf h
    have z := svn (sT29.ln a) <| svn (sT29.ln a2) <| sg 0 c1 <| en (aI (rP (.bool false)) <| trivial)
    exact C.evp (A := A127) mixed Tryz.call127 Tryz.func127 (c := b127) rfl (aI (cl_sl cl_tPred a) (aI (cl_sl cl_tPred a2) (aI (aI trivial trivial) trivial))) z (by kernel_rfl)
  · obtain ⟨o7, bo7, h⟩ := bnd h
    rcases o7 with o7 | o7
    · obtain rfl := lf h
      have z := svn (sT29.ln a) <| svn (sT29.ln a2) <| sg 0 c1 <| svn (sT29.ln a) <| spc (e := .ret) (s1 := pred_equal_L1_s a a2 (a.length : Int) (.inl o7)) (pred_equal_L1_ok R21 hR21 a a2 (a.length : Int) 0 bo7) <| en (aI (rP (.bool false)) <| trivial)
      exact C.evp (A := A127) mixed Tryz.call127 Tryz.func127 (c := b127) rfl (aI (cl_sl cl_tPred a) (aI (cl_sl cl_tPred a2) (aI (aI trivial trivial) trivial))) z (by kernel_rfl)
    · obtain rfl := lf h
      have z := svn (sT29.ln a) <| svn (sT29.ln a2) <| sg 0 c1 <| svn (sT29.ln a) <| spc (e := .exit 0) (s1 := pred_equal_L1_s a a2 (a.length : Int) (.inr o7)) (pred_equal_L1_ok R21 hR21 a a2 (a.length : Int) 0 bo7) <| en (aI (rP (.bool true)) <| trivial)
      exact C.evp (A := A127) mixed Tryz.call127 Tryz.func127 (c := b127) rfl (aI (cl_sl cl_tPred a) (aI (cl_sl cl_tPred a2) (aI (aI trivial trivial) trivial))) z (by kernel_rfl)
noncomputable def b101 : Code := Tryz.f101.body.getD .skip
def A101 : List Nat := []
noncomputable def pred_Same_B (R21 : T_pred_Same) (a : tPred) (a2 : tPred) : Option (Bool) :=
  if (a.Op == a2.Op) = true then
    if (a.Name == a2.Name) = true then
      if (a.N == a2.N) = true then
        (pred_equal R21 a.Kids a2.Kids).bind fun r4 =>
        some r4
      else
        some false
    else
      some false
  else
    some false
theorem pred_Same_Bok (R21 : T_pred_Same) (hR21 : H_pred_Same R21) {a : tPred} {a2 : tPred} {r : Bool} (h : pred_Same_B R21 a a2 = some r) : CC Pg GE 101 [.agg (c_tPred a), .agg (c_tPred a2)] (.bool r) [] := by
  rcases ifs h with ⟨c1, h⟩ | ⟨c1, h⟩
  · rcases ifs h with ⟨c2, h⟩ | ⟨c2, h⟩
    · rcases ifs h with ⟨c3, h⟩ | ⟨c3, h⟩
      · obtain ⟨r4, br4, h⟩ := bnd h
        obtain rfl := lf h
        have z := se (pc_tPred a) <| se (pc_tPred a2) <| sv (fa_tPred_31_0 a) <| sv (lf_tPred_0_28 a) <| sv (fa_tPred_31_0 a2) <| sv (lf_tPred_0_28 a2) <| sg 6 c1 <| sv (fa_tPred_31_1 a) <| sv (lf_tPred_1_9 a) <| sv (fa_tPred_31_1 a2) <| sv (lf_tPred_1_9 a2) <| sg 13 c2 <| sv (fa_tPred_31_2 a) <| sv (lf_tPred_2_3 a) <| sv (fa_tPred_31_2 a2) <| sv (lf_tPred_2_3 a2) <| sg 20 c3 <| sv (fa_tPred_31_3 a) <| sv (lf_tPred_3_29 a) <| sv (fa_tPred_31_3 a2) <| sv (lf_tPred_3_29 a2) <| sca (pred_equal_ok R21 hR21 br4) <| en (aI (rP (.bool r4)) <| trivial)
        exact C.evp (A := A101) mixed Tryz.call101 Tryz.func101 (c := b101) rfl (aI (cl_tPred a) (aI (cl_tPred a2) trivial)) z (by kernel_rfl)
      · obtain rfl := lf h
        have z := se (pc_tPred a) <| se (pc_tPred a2) <| sv (fa_tPred_31_0 a) <| sv (lf_tPred_0_28 a) <| sv (fa_tPred_31_0 a2) <| sv (lf_tPred_0_28 a2) <| sg 6 c1 <| sv (fa_tPred_31_1 a) <| sv (lf_tPred_1_9 a) <| sv (fa_tPred_31_1 a2) <| sv (lf_tPred_1_9 a2) <| sg 13 c2 <| sv (fa_tPred_31_2 a) <| sv (lf_tPred_2_3 a) <| sv (fa_tPred_31_2 a2) <| sv (lf_tPred_2_3 a2) <| sg 20 c3 <| en (aI (rP (.bool false)) <| trivial)
        exact C.evp (A := A101) mixed Tryz.call101 Tryz.func101 (c := b101) rfl (aI (cl_tPred a) (aI (cl_tPred a2) trivial)) z (by kernel_rfl)
    · obtain rfl := lf h
      have z := se (pc_tPred a) <| se (pc_tPred a2) <| sv (fa_tPred_31_0 a) <| sv (lf_tPred_0_28 a) <| sv (fa_tPred_31_0 a2) <| sv (lf_tPred_0_28 a2) <| sg 6 c1 <| sv (fa_tPred_31_1 a) <| sv (lf_tPred_1_9 a) <| sv (fa_tPred_31_1 a2) <| sv (lf_tPred_1_9 a2) <| sg 13 c2 <| en (aI (rP (.bool false)) <| trivial)
      exact C.evp (A := A101) mixed Tryz.call101 Tryz.func101 (c := b101) rfl (aI (cl_tPred a) (aI (cl_tPred a2) trivial)) z (by kernel_rfl)
  · obtain rfl := lf h
    have z := se (pc_tPred a) <| se (pc_tPred a2) <| sv (fa_tPred_31_0 a) <| sv (lf_tPred_0_28 a) <| sv (fa_tPred_31_0 a2) <| sv (lf_tPred_0_28 a2) <| sg 6 c1 <| en (aI (rP (.bool false)) <| trivial)
    exact C.evp (A := A101) mixed Tryz.call101 Tryz.func101 (c := b101) rfl (aI (cl_tPred a) (aI (cl_tPred a2) trivial)) z (by kernel_rfl)
noncomputable def pred_Same_F : ((tPred × tPred) → Option (Bool)) → (tPred × tPred) → Option (Bool) := fun (rec : (tPred × tPred) → Option (Bool)) (x : tPred × tPred) => pred_Same_B (fun a a2 => rec (a, a2)) x.1 x.2
noncomputable def pred_Same (a : tPred) (a2 : tPred) : Option (Bool) := fixE (pred_Same_F) (a, a2)
theorem pred_Same_ok {a : tPred} {a2 : tPred} {r : Bool} (h : pred_Same a a2 = some r) : CC Pg GE 101 [.agg (c_tPred a), .agg (c_tPred a2)] (.bool r) [] :=
  fixE_ind (F := pred_Same_F) (M := fun (x : tPred × tPred) (r : Bool) => CC Pg GE 101 [.agg (c_tPred x.1), .agg (c_tPred x.2)] (.bool r) []) (fun rec hrec x r h => pred_Same_Bok _ (fun a a2 r h => hrec (a, a2) r h) h) h
abbrev T_pred_SubstAll := (tPred → (List Str) → (List tPred) → Option (tPred))
abbrev H_pred_SubstAll (R : T_pred_SubstAll) : Prop := ∀ (p : tPred) (a : (List Str)) (a2 : (List tPred)) (r : tPred), R p a a2 = some r → CC Pg GE 128 [.agg (c_tPred p), sl cS a, sl c_tPred a2] (.agg (c_tPred r)) [(3, 31)]
noncomputable def b108 : Code := Tryz.f108.body.getD .skip
def A108 : List Nat := [10, 17]
noncomputable def slices_Index_L1_S (s : (List Str)) (v : Str) (t7 : Int) (t8 : Int) : PSt := stt 19 [(0, sl cS s), (1, .str v), (7, .int .i64 t7), (8, .int .i64 t8)] [] []
noncomputable def slices_Index_L1_e (o : (Int) ⊕ (Unit)) : Exit := match o with
  | (.inl _) => .ret
  | (.inr _) => .exit 0
noncomputable def slices_Index_L1_s (s : (List Str)) (v : Str) (t7 : Int) (o : (Int) ⊕ (Unit)) : PSt := match o with
  | (.inl o) => stt 19 [(4, .int .i64 o)] [] []
  | (.inr o) => stt 19 [] [] []
noncomputable def slices_Index_L1_b (s : (List Str)) (v : Str) (t7 : Int) (t8 : Int) : Option ((Int) ⊕ ((Int) ⊕ (Unit))) :=
  if (decide (t8 < t7)) = true then
    (idx s t8).bind fun x2 =>
    if (v == x2) = true then
      some (.inr (.inl t8))
    else
      some (.inl (w64 (t8 + 1)))
  else
    some (.inr (.inr ()))
noncomputable def slices_Index_L1 (s : (List Str)) (v : Str) (t7 : Int) (t8 : Int) : Option ((Int) ⊕ (Unit)) := loop (fun (zz : Int) => slices_Index_L1_b s v t7 zz) t8
theorem slices_Index_L1_bok (s : (List Str)) (v : Str) (t7 : Int) (t8 : Int) {y : (Int) ⊕ ((Int) ⊕ (Unit))} (h : slices_Index_L1_b s v t7 t8 = some y) :
    Sat Pg GE 0 (cA b108 55) (LQ (fun (zz : Int) => slices_Index_L1_S s v t7 zz) slices_Index_L1_e (slices_Index_L1_s s v t7) y) (slices_Index_L1_S s v t7 t8) := by
  rcases ifs h with ⟨c1, h⟩ | ⟨c1, h⟩
  · obtain ⟨x2, bx2, h⟩ := bnd h
    rcases ifs h with ⟨c3, h⟩ | ⟨c3, h⟩
    · obtain rfl := lf h
      have z := sg 0 c1 <| sv (sT22.ia (k := .i64) bx2) <| sv (plook1 sc9 (.str x2) []) <| sg 0 c3 <| eF (slices_Index_L1_e (.inl t8)) (slices_Index_L1_s s v t7 (.inl t8))
      exact overp (A := A108) mixed (by intro hx; cases hx) z (by kernel_rfl)
    · obtain rfl := lf h
      have z := sg 0 c1 <| sv (sT22.ia (k := .i64) bx2) <| sv (plook1 sc9 (.str x2) []) <| sg 0 c3 <| eF .normal (slices_Index_L1_S s v t7 (w64 (t8 + 1)))
      exact nextp (A := A108) mixed z (by kernel_rfl)
  · obtain rfl := lf h
    have z := sg 0 c1 <| eF (slices_Index_L1_e (.inr ())) (slices_Index_L1_s s v t7 (.inr ()))
    exact overp (A := A108) mixed (by intro hx; cases hx) z (by kernel_rfl)
theorem slices_Index_L1_ok (s : (List Str)) (v : Str) (t7 : Int) (t8 : Int) {x : (Int) ⊕ (Unit)} (h : slices_Index_L1 s v t7 t8 = some x) :
    Sat Pg GE 0 (.loop (cA b108 55)) (EX (slices_Index_L1_e x) (slices_Index_L1_s s v t7 x)) (slices_Index_L1_S s v t7 t8) :=
  Sat.loop (S := fun (zz : Int) => slices_Index_L1_S s v t7 zz) (ex := slices_Index_L1_e) (s := t8) h fun zz y hy => slices_Index_L1_bok s v t7 zz hy
noncomputable def slices_Index (s : (List Str)) (v : Str) : Option (Int) :=
  (slices_Index_L1 s v (s.length : Int) 0).bind fun o4 => match o4 with
  | (.inl o4) =>
    some o4
  | (.inr o4) =>
    some (-1)
theorem slices_Index_ok {s : (List Str)} {v : Str} {r : Int} (h : slices_Index s v = some r) : CC Pg GE 108 [sl cS s, .str v] (.int .i64 r) [] := by
  obtain ⟨o4, bo4, h⟩ := bnd h
  rcases o4 with o4 | o4
  · obtain rfl := lf h
    have z := svn (sT22.ln s) <| spc (e := .ret) (s1 := slices_Index_L1_s s v (s.length : Int) (.inl o4)) (slices_Index_L1_ok s v (s.length : Int) 0 bo4) <| en (aI (rP (.int .i64 o4)) <| trivial)
    exact C.evp (A := A108) mixed Tryz.call108 Tryz.func108 (c := b108) rfl (aI (cl_sl clS s) (aI trivial trivial)) z (by kernel_rfl)
  · obtain rfl := lf h
    have z := svn (sT22.ln s) <| spc (e := .exit 0) (s1 := slices_Index_L1_s s v (s.length : Int) (.inr o4)) (slices_Index_L1_ok s v (s.length : Int) 0 bo4) <| en (aI (rP (.int .i64 (-1))) <| trivial)
    exact C.evp (A := A108) mixed Tryz.call108 Tryz.func108 (c := b108) rfl (aI (cl_sl clS s) (aI trivial trivial)) z (by kernel_rfl)
noncomputable def b143 : Code := Tryz.f143.body.getD .skip
def A143 : List Nat := []
noncomputable def names_Find (a : (List Str)) (s : Str) : Option (Int) :=
  (slices_Index a s).bind fun r1 =>
  some r1
theorem names_Find_ok {a : (List Str)} {s : Str} {r : Int} (h : names_Find a s = some r) : CC Pg GE 143 [sl cS a, .str s] (.int .i64 r) [] := by
  obtain ⟨r1, br1, h⟩ := bnd h
  obtain rfl := lf h
  have z := sca (slices_Index_ok br1) <| en (aI (rP (.int .i64 r1)) <| trivial)
  exact C.evp (A := A143) mixed Tryz.call143 Tryz.func143 (c := b143) rfl (aI (cl_sl clS a) (aI trivial trivial)) z (by kernel_rfl)
abbrev T_pred_copied := (tPred → Option (tPred))
abbrev H_pred_copied (R : T_pred_copied) : Prop := ∀ (p : tPred) (r : tPred), R p = some r → CC Pg GE 105 [.agg (c_tPred p)] (.agg (c_tPred r)) [(3, 31)]
end Go.Proofs.YtgldgpdhblndkaaGreatDoor
