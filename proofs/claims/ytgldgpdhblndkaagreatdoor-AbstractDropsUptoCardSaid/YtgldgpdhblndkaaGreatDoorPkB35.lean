/-
  WHAT IS PROVED: parts of the proof, put together by a program out of smaller texts (G3). Conditions: none.
-/
import Derived.Test.YtgldgpdhblndkaaGreatDoorPkB34
namespace Go.Proofs.YtgldgpdhblndkaaGreatDoor
open Go
set_option linter.unusedVariables false
set_option maxRecDepth 100000
noncomputable def b49 : Code := Tryz.f49.body.getD .skip
def A49 : List Nat := []
noncomputable def abstract_belonging_J1_S (holes : (List tHole)) (i : Int) (m : (List tVar)) : PSt := stt 25 [(1, sl c_tHole holes), (6, .bptr 1 0), (8, .int .i64 i)] [.dead, .cells [.str ([] : Str), sl c_tVar m] [(1, 88)]] []
noncomputable def abstract_belonging_J1_s (holes : (List tHole)) (i : Int) (m : (List tVar)) (o : Bool) : PSt := stt 25 [(1, sl c_tHole holes), (6, .bptr 1 0), (8, .int .i64 i), (19, .bool o)] [.dead, .cells [.str ([] : Str), sl c_tVar m] [(1, 88)]] []
noncomputable def abstract_belonging_J1 (holes : (List tHole)) (i : Int) : Option ((Bool)) :=
  if (decide (i < 0)) = true then
    some true
  else
    some (decide (i ≥ (holes.length : Int)))
theorem abstract_belonging_J1_ok (holes : (List tHole)) (i : Int) (m : (List tVar)) {x : (Bool)} (h : abstract_belonging_J1 holes i = some x) :
    Sat Pg GE 0 (cA b49 28) (EX .normal (abstract_belonging_J1_s holes i m x)) (abstract_belonging_J1_S holes i m) := by
  rcases ifs h with ⟨c2, h⟩ | ⟨c2, h⟩
  · obtain rfl := lf h
    have z := sg 3 c2 <| eF .normal (abstract_belonging_J1_s holes i m true)
    exact piecep (A := A49) mixed z (by kernel_rfl)
  · obtain rfl := lf h
    have z := sg 3 c2 <| svn (sT38.ln holes) <| eF .normal (abstract_belonging_J1_s holes i m (decide (i ≥ (holes.length : Int))))
    exact piecep (A := A49) mixed z (by kernel_rfl)
noncomputable def abstract_belonging (abs : (List tAbs)) (holes : (List tHole)) (name : Str) : Option (tHole × Bool) :=
  (slices_IndexFunc_2 abs name).bind fun r1 =>
  (abstract_belonging_J1 holes r1).bind fun o3 =>
  if o3 = true then
    some ((⟨([] : Str), ([] : List tVar)⟩ : tHole), false)
  else
    (idx holes r1).bind fun x5 =>
    some (x5, true)
theorem abstract_belonging_ok {abs : (List tAbs)} {holes : (List tHole)} {name : Str} {r : tHole × Bool} (h : abstract_belonging abs holes name = some r) : CC Pg GE 49 [sl c_tAbs abs, sl c_tHole holes, .str name] (.tuple [.agg (c_tHole r.1), .bool r.2]) [] := by
  obtain ⟨r1, br1, h⟩ := bnd h
  obtain ⟨o3, bo3, h⟩ := bnd h
  rcases ifs h with ⟨c4, h⟩ | ⟨c4, h⟩
  · obtain rfl := lf h
    have z := se (pcS name) <| sx pz82 <| sca (slices_IndexFunc_2_ok br1) <| spa 1 <| spc (abstract_belonging_J1_ok holes r1 ([] : List tVar) bo3) <| sg 0 c4 <| sb (bu_tHole_n ) (bn_tHole_n ) <| sy (ex_tHole (⟨([] : Str), ([] : List tVar)⟩ : tHole)) <| en (aI (congrArg PVal.tuple (cons2 (rex_tHole (⟨([] : Str), ([] : List tVar)⟩ : tHole)) (cons2 (rP (.bool false)) (rfl : ([] : List PVal) = [])))) <| (aI (cl_tHole (⟨([] : Str), ([] : List tVar)⟩ : tHole)) (aI trivial trivial)))
    exact C.evp (A := A49) mixed Tryz.call49 Tryz.func49 (c := b49) rfl (aI (cl_sl cl_tAbs abs) (aI (cl_sl cl_tHole holes) (aI trivial trivial))) z (by kernel_rfl)
  · obtain ⟨x5, bx5, h⟩ := bnd h
    obtain rfl := lf h
    have z := se (pcS name) <| sx pz82 <| sca (slices_IndexFunc_2_ok br1) <| spa 1 <| spc (abstract_belonging_J1_ok holes r1 ([] : List tVar) bo3) <| sg 0 c4 <| sv (sT38.ia (k := .i64) bx5) <| sv (lk_tHole x5) <| sx (pcx_tHole x5) <| en (aI (congrArg PVal.tuple (cons2 (rex_tHole x5) (cons2 (rP (.bool true)) (rfl : ([] : List PVal) = [])))) <| (aI (cl_tHole x5) (aI trivial trivial)))
    exact C.evp (A := A49) mixed Tryz.call49 Tryz.func49 (c := b49) rfl (aI (cl_sl cl_tAbs abs) (aI (cl_sl cl_tHole holes) (aI trivial trivial))) z (by kernel_rfl)
noncomputable def b50 : Code := Tryz.f50.body.getD .skip
def A50 : List Nat := []
noncomputable def abstract_scope (a : tHole) : Option ((List tVar)) :=
  if ((a.Params.length : Int) == 0) = true then
    some ([] : List tVar)
  else
    (slc a.Params (some 1) none).bind fun l2 =>
    some l2
theorem abstract_scope_ok {a : tHole} {r : (List tVar)} (h : abstract_scope a = some r) : CC Pg GE 50 [.agg (c_tHole a)] (sl c_tVar r) [] := by
  rcases ifs h with ⟨c1, h⟩ | ⟨c1, h⟩
  · obtain rfl := lf h
    have z := se (pc_tHole a) <| sv (fa_tHole_82_1 a) <| sv (lf_tHole_1_36 a) <| svn (sT36.ln a.Params) <| sg 0 c1 <| en (aI (rP (sl c_tVar ([] : List tVar))) <| (cl_sl cl_tVar ([] : List tVar)))
    exact C.evp (A := A50) mixed Tryz.call50 Tryz.func50 (c := b50) rfl (aI (cl_tHole a) trivial) z (by kernel_rfl)
  · obtain ⟨l2, bl2, h⟩ := bnd h
    obtain rfl := lf h
    have z := se (pc_tHole a) <| sv (fa_tHole_82_1 a) <| sv (lf_tHole_1_36 a) <| svn (sT36.ln a.Params) <| sg 0 c1 <| sv (fa_tHole_82_1 a) <| sv (lf_tHole_1_36 a) <| sv (sT36.sc bl2) <| en (aI (rP (sl c_tVar l2)) <| (cl_sl cl_tVar l2))
    exact C.evp (A := A50) mixed Tryz.call50 Tryz.func50 (c := b50) rfl (aI (cl_tHole a) trivial) z (by kernel_rfl)
abbrev T_abstract_apart := (tType → (List Str) → Option (tType))
abbrev H_abstract_apart (R : T_abstract_apart) : Prop := ∀ (t : tType) (vars : (List Str)) (r : tType), R t vars = some r → CC Pg GE 52 [.agg (c_tType t), sl cS vars] (.agg (c_tType r)) [(2, 33)]
abbrev T_reftype_Free := (tType → Option ((List Str)))
abbrev H_reftype_Free (R : T_reftype_Free) : Prop := ∀ (t : tType) (r : (List Str)), R t = some r → CC Pg GE 91 [.agg (c_tType t)] (sl cS r) [(0, 9)]
noncomputable def b120 : Code := Tryz.f120.body.getD .skip
def A120 : List Nat := []
noncomputable def reftype_before (t : tType) (i : Int) : Option ((List Str)) :=
  if (t.Op != 6) = true then
    some ([] : List Str)
  else
    (slc t.Names none (some (if (t.Names.length : Int) < i then (t.Names.length : Int) else i))).bind fun l2 =>
    some l2
theorem reftype_before_ok {t : tType} {i : Int} {r : (List Str)} (h : reftype_before t i = some r) : CC Pg GE 120 [.agg (c_tType t), .int .i64 i] (sl cS r) [] := by
  rcases ifs h with ⟨c1, h⟩ | ⟨c1, h⟩
  · obtain rfl := lf h
    have z := se (pc_tType t) <| sv (fa_tType_33_0 t) <| sv (lf_tType_0_26 t) <| sg 0 c1 <| en (aI (rP (sl cS ([] : List Str))) <| (cl_sl clS ([] : List Str)))
    exact C.evp (A := A120) mixed Tryz.call120 Tryz.func120 (c := b120) rfl (aI (cl_tType t) (aI trivial trivial)) z (by kernel_rfl)
  · obtain ⟨l2, bl2, h⟩ := bnd h
    obtain rfl := lf h
    have z := se (pc_tType t) <| sv (fa_tType_33_0 t) <| sv (lf_tType_0_26 t) <| sg 0 c1 <| sv (fa_tType_33_3 t) <| sv (lf_tType_3_22 t) <| sv (fa_tType_33_3 t) <| sv (lf_tType_3_22 t) <| svn (sT22.ln t.Names) <| sv (sT22.sc bl2) <| en (aI (rP (sl cS l2)) <| (cl_sl clS l2))
    exact C.evp (A := A120) mixed Tryz.call120 Tryz.func120 (c := b120) rfl (aI (cl_tType t) (aI trivial trivial)) z (by kernel_rfl)
noncomputable def b72 : Code := Tryz.f72.body.getD .skip
def A72 : List Nat := []
noncomputable def slices_Contains (s : (List Str)) (v : Str) : Option (Bool) :=
  (slices_Index s v).bind fun r1 =>
  some (decide (r1 ≥ 0))
theorem slices_Contains_ok {s : (List Str)} {v : Str} {r : Bool} (h : slices_Contains s v = some r) : CC Pg GE 72 [sl cS s, .str v] (.bool r) [] := by
  obtain ⟨r1, br1, h⟩ := bnd h
  obtain rfl := lf h
  have z := sca (slices_Index_ok br1) <| en (aI (rP (.bool (decide (r1 ≥ 0)))) <| trivial)
  exact C.evp (A := A72) mixed Tryz.call72 Tryz.func72 (c := b72) rfl (aI (cl_sl clS s) (aI trivial trivial)) z (by kernel_rfl)
noncomputable def b91 : Code := Tryz.f91.body.getD .skip
def A91 : List Nat := [33, 44, 61]
noncomputable def reftype_Free_L1_S (t : tType) (out : (List Str)) (t18 : (List tPred)) (t19 : Int) (t20 : Int) : PSt := stt 69 [(1, .eptr (c_tType t)), (3, sl cS out), (18, sl c_tPred t18), (19, .int .i64 t19), (20, .int .i64 t20)] [.dead] [((18, 0), 31), ((3, 0), 9)]
noncomputable def reftype_Free_L1_s (t : tType) (t18 : (List tPred)) (t19 : Int) (o : (List Str)) : PSt := stt 69 [(1, .eptr (c_tType t)), (3, sl cS o)] [.dead] [((3, 0), 9)]
noncomputable def reftype_Free_L2_S (t : tType) (out : (List Str)) (t18 : (List tPred)) (t19 : Int) (t20 : Int) (t25 : (List Str)) (t26 : Int) (t27 : Int) (m : Int) (m2 : Str) (m3 : Int) (m4 : (List tPred)) : PSt := stt 69 [(1, .eptr (c_tType t)), (3, sl cS out), (18, sl c_tPred t18), (19, .int .i64 t19), (20, .int .i64 t20), (25, sl cS t25), (26, .int .i64 t26), (27, .int .i64 t27)] [.dead, .cells [.int .i64 m, .str m2, .int .i64 m3, sl c_tPred m4] []] [((25, 0), 9), ((18, 0), 31), ((3, 0), 9)]
noncomputable def reftype_Free_L2_s (t : tType) (t18 : (List tPred)) (t19 : Int) (t20 : Int) (t25 : (List Str)) (t26 : Int) (m : Int) (m2 : Str) (m3 : Int) (m4 : (List tPred)) (o : (List Str)) : PSt := stt 69 [(1, .eptr (c_tType t)), (3, sl cS o), (18, sl c_tPred t18), (19, .int .i64 t19), (20, .int .i64 t20)] [.dead, .cells [.int .i64 m, .str m2, .int .i64 m3, sl c_tPred m4] []] [((18, 0), 31), ((3, 0), 9)]
noncomputable def reftype_Free_L2_b (R37 : T_reftype_Free) (t25 : (List Str)) (t26 : Int) (out : (List Str)) (t27 : Int) : Option (((List Str) × Int) ⊕ (((List Str)))) :=
  if (decide (t27 < t26)) = true then
    (idx t25 t27).bind fun x6 =>
    if (!(x6 == ([118] : Str))) = true then
      (app out ([x6] : List Str)).bind fun l8 =>
      some (.inl (l8, w64 (t27 + 1)))
    else
      some (.inl (out, w64 (t27 + 1)))
  else
    some (.inr out)
noncomputable def reftype_Free_L2 (R37 : T_reftype_Free) (t25 : (List Str)) (t26 : Int) (out : (List Str)) (t27 : Int) : Option (((List Str))) := loop (fun (zz : (List Str) × Int) => reftype_Free_L2_b R37 t25 t26 zz.1 zz.2) (out, t27)
theorem reftype_Free_L2_bok (R37 : T_reftype_Free) (hR37 : H_reftype_Free R37) (t : tType) (out : (List Str)) (t18 : (List tPred)) (t19 : Int) (t20 : Int) (t25 : (List Str)) (t26 : Int) (t27 : Int) (m : Int) (m2 : Str) (m3 : Int) (m4 : (List tPred)) {y : ((List Str) × Int) ⊕ (((List Str)))} (h : reftype_Free_L2_b R37 t25 t26 out t27 = some y) :
    Sat Pg GE 0 (cA b91 30687) (LQ (fun (zz : (List Str) × Int) => reftype_Free_L2_S t zz.1 t18 t19 t20 t25 t26 zz.2 m m2 m3 m4) (fun _ => .exit 2) (reftype_Free_L2_s t t18 t19 t20 t25 t26 m m2 m3 m4) y) (reftype_Free_L2_S t out t18 t19 t20 t25 t26 t27 m m2 m3 m4) := by
  rcases ifs h with ⟨c5, h⟩ | ⟨c5, h⟩
  · obtain ⟨x6, bx6, h⟩ := bnd h
    rcases ifs h with ⟨c7, h⟩ | ⟨c7, h⟩
    · obtain ⟨l8, bl8, h⟩ := bnd h
      obtain rfl := lf h
      have z := sg 0 c5 <| sv (sT22.ia (k := .i64) bx6) <| sv (plook1 sc9 (.str x6) []) <| sg 0 c7 <| sv (sT22.mk' (v := PVal.str) pcS ([x6] : List Str) 1 (by kernel_rfl)) <| sv (sT22.ap bl8) <| eF .normal (reftype_Free_L2_S t l8 t18 t19 t20 t25 t26 (w64 (t27 + 1)) m m2 m3 m4)
      exact nextp (A := A91) mixed z (by kernel_rfl)
    · obtain rfl := lf h
      have z := sg 0 c5 <| sv (sT22.ia (k := .i64) bx6) <| sv (plook1 sc9 (.str x6) []) <| sg 0 c7 <| eF .normal (reftype_Free_L2_S t out t18 t19 t20 t25 t26 (w64 (t27 + 1)) m m2 m3 m4)
      exact nextp (A := A91) mixed z (by kernel_rfl)
  · obtain rfl := lf h
    have z := sg 0 c5 <| eF (.exit 2) (reftype_Free_L2_s t t18 t19 t20 t25 t26 m m2 m3 m4 out)
    exact overp (A := A91) mixed (by intro hx; cases hx) z (by kernel_rfl)
theorem reftype_Free_L2_ok (R37 : T_reftype_Free) (hR37 : H_reftype_Free R37) (t : tType) (out : (List Str)) (t18 : (List tPred)) (t19 : Int) (t20 : Int) (t25 : (List Str)) (t26 : Int) (t27 : Int) (m : Int) (m2 : Str) (m3 : Int) (m4 : (List tPred)) {x : ((List Str))} (h : reftype_Free_L2 R37 t25 t26 out t27 = some x) :
    Sat Pg GE 0 (.loop (cA b91 30687)) (EX (.exit 2) (reftype_Free_L2_s t t18 t19 t20 t25 t26 m m2 m3 m4 x)) (reftype_Free_L2_S t out t18 t19 t20 t25 t26 t27 m m2 m3 m4) :=
  Sat.loop (S := fun (zz : (List Str) × Int) => reftype_Free_L2_S t zz.1 t18 t19 t20 t25 t26 zz.2 m m2 m3 m4) (ex := (fun _ => .exit 2)) (s := (out, t27)) h fun zz y hy => reftype_Free_L2_bok R37 hR37 t zz.1 t18 t19 t20 t25 t26 zz.2 m m2 m3 m4 hy
noncomputable def reftype_Free_L1_b (R37 : T_reftype_Free) (t18 : (List tPred)) (t19 : Int) (out : (List Str)) (t20 : Int) : Option (((List Str) × Int) ⊕ (((List Str)))) :=
  if (decide (t20 < t19)) = true then
    (idx t18 t20).bind fun x3 =>
    (pred_Free x3).bind fun r4 =>
    (reftype_Free_L2 R37 r4 (r4.length : Int) out 0).bind fun o9 =>
    some (.inl (o9, w64 (t20 + 1)))
  else
    some (.inr out)
noncomputable def reftype_Free_L1 (R37 : T_reftype_Free) (t18 : (List tPred)) (t19 : Int) (out : (List Str)) (t20 : Int) : Option (((List Str))) := loop (fun (zz : (List Str) × Int) => reftype_Free_L1_b R37 t18 t19 zz.1 zz.2) (out, t20)
theorem reftype_Free_L1_bok (R37 : T_reftype_Free) (hR37 : H_reftype_Free R37) (t : tType) (out : (List Str)) (t18 : (List tPred)) (t19 : Int) (t20 : Int) {y : ((List Str) × Int) ⊕ (((List Str)))} (h : reftype_Free_L1_b R37 t18 t19 out t20 = some y) :
    Sat Pg GE 0 (cA b91 119) (LQ (fun (zz : (List Str) × Int) => reftype_Free_L1_S t zz.1 t18 t19 zz.2) (fun _ => .exit 0) (reftype_Free_L1_s t t18 t19) y) (reftype_Free_L1_S t out t18 t19 t20) := by
  rcases ifs h with ⟨c2, h⟩ | ⟨c2, h⟩
  · obtain ⟨x3, bx3, h⟩ := bnd h
    obtain ⟨r4, br4, h⟩ := bnd h
    obtain ⟨o9, bo9, h⟩ := bnd h
    obtain rfl := lf h
    have z := sg 0 c2 <| sv (sT29.ia (k := .i64) bx3) <| sv (lk_tPred x3) <| sx pz31 <| sx (pcx_tPred x3) <| sv (lkx_tPred x3 []) <| sca (pred_Free_ok br4) <| svn (sT22.ln r4) <| spc (reftype_Free_L2_ok R37 hR37 t out t18 t19 t20 r4 (r4.length : Int) 0 x3.Op x3.Name x3.N x3.Kids bo9) <| eFx 0 .normal (reftype_Free_L1_S t o9 t18 t19 (w64 (t20 + 1))) rfl (cl_tm (aI (clL_up (cl_tType t)) (aI (up (cl_sl clS o9)) (aI (up (cl_sl cl_tPred t18)) (aI trivial (aI trivial trivial)))))) (aI trivial trivial)
    exact nextxp (A := A91) mixed z (by kernel_rfl)
  · obtain rfl := lf h
    have z := sg 0 c2 <| eF (.exit 0) (reftype_Free_L1_s t t18 t19 out)
    exact overp (A := A91) mixed (by intro hx; cases hx) z (by kernel_rfl)
theorem reftype_Free_L1_ok (R37 : T_reftype_Free) (hR37 : H_reftype_Free R37) (t : tType) (out : (List Str)) (t18 : (List tPred)) (t19 : Int) (t20 : Int) {x : ((List Str))} (h : reftype_Free_L1 R37 t18 t19 out t20 = some x) :
    Sat Pg GE 0 (.loop (cA b91 119)) (EX (.exit 0) (reftype_Free_L1_s t t18 t19 x)) (reftype_Free_L1_S t out t18 t19 t20) :=
  Sat.loop (S := fun (zz : (List Str) × Int) => reftype_Free_L1_S t zz.1 t18 t19 zz.2) (ex := (fun _ => .exit 0)) (s := (out, t20)) h fun zz y hy => reftype_Free_L1_bok R37 hR37 t zz.1 t18 t19 zz.2 hy
noncomputable def reftype_Free_L3_S (t : tType) (out : (List Str)) (t40 : (List tType)) (t41 : Int) (t42 : Int) : PSt := stt 69 [(1, .eptr (c_tType t)), (3, sl cS out), (40, sl c_tType t40), (41, .int .i64 t41), (42, .int .i64 t42)] [.dead] [((3, 0), 9)]
noncomputable def reftype_Free_L3_s (t : tType) (t40 : (List tType)) (t41 : Int) (o : (List Str)) : PSt := stt 69 [(3, sl cS o)] [.dead] [((3, 0), 9)]
noncomputable def reftype_Free_L4_S (t : tType) (out : (List Str)) (bound : (List Str)) (t40 : (List tType)) (t41 : Int) (t42 : Int) (t51 : (List Str)) (t52 : Int) (t53 : Int) (m : Int) (m2 : Str) (m3 : (List tType)) (m4 : (List Str)) (m5 : Int) (m6 : Str) (m7 : Int) (m8 : (List tPred)) (m9 : (List tPred)) : PSt := stt 69 [(1, .eptr (c_tType t)), (3, sl cS out), (10, sl cS bound), (40, sl c_tType t40), (41, .int .i64 t41), (42, .int .i64 t42), (51, sl cS t51), (52, .int .i64 t52), (53, .int .i64 t53)] [.dead, .cells [.int .i64 m, .str m2, sl c_tType m3, sl cS m4, .int .i64 m5, .str m6, .int .i64 m7, sl c_tPred m8, sl c_tPred m9] []] [((51, 0), 9), ((3, 0), 9)]
noncomputable def reftype_Free_L4_s (t : tType) (bound : (List Str)) (t40 : (List tType)) (t41 : Int) (t42 : Int) (t51 : (List Str)) (t52 : Int) (m : Int) (m2 : Str) (m3 : (List tType)) (m4 : (List Str)) (m5 : Int) (m6 : Str) (m7 : Int) (m8 : (List tPred)) (m9 : (List tPred)) (o : (List Str)) : PSt := stt 69 [(1, .eptr (c_tType t)), (3, sl cS o), (40, sl c_tType t40), (41, .int .i64 t41), (42, .int .i64 t42)] [.dead, .cells [.int .i64 m, .str m2, sl c_tType m3, sl cS m4, .int .i64 m5, .str m6, .int .i64 m7, sl c_tPred m8, sl c_tPred m9] []] [((3, 0), 9)]
noncomputable def reftype_Free_L4_b (R37 : T_reftype_Free) (bound : (List Str)) (t51 : (List Str)) (t52 : Int) (out : (List Str)) (t53 : Int) : Option (((List Str) × Int) ⊕ (((List Str)))) :=
  if (decide (t53 < t52)) = true then
    (idx t51 t53).bind fun x16 =>
    (slices_Contains bound x16).bind fun r17 =>
    if (!r17) = true then
      (app out ([x16] : List Str)).bind fun l19 =>
      some (.inl (l19, w64 (t53 + 1)))
    else
      some (.inl (out, w64 (t53 + 1)))
  else
    some (.inr out)
noncomputable def reftype_Free_L4 (R37 : T_reftype_Free) (bound : (List Str)) (t51 : (List Str)) (t52 : Int) (out : (List Str)) (t53 : Int) : Option (((List Str))) := loop (fun (zz : (List Str) × Int) => reftype_Free_L4_b R37 bound t51 t52 zz.1 zz.2) (out, t53)
theorem reftype_Free_L4_bok (R37 : T_reftype_Free) (hR37 : H_reftype_Free R37) (t : tType) (out : (List Str)) (bound : (List Str)) (t40 : (List tType)) (t41 : Int) (t42 : Int) (t51 : (List Str)) (t52 : Int) (t53 : Int) (m : Int) (m2 : Str) (m3 : (List tType)) (m4 : (List Str)) (m5 : Int) (m6 : Str) (m7 : Int) (m8 : (List tPred)) (m9 : (List tPred)) {y : ((List Str) × Int) ⊕ (((List Str)))} (h : reftype_Free_L4_b R37 bound t51 t52 out t53 = some y) :
    Sat Pg GE 0 (cA b91 126911) (LQ (fun (zz : (List Str) × Int) => reftype_Free_L4_S t zz.1 bound t40 t41 t42 t51 t52 zz.2 m m2 m3 m4 m5 m6 m7 m8 m9) (fun _ => .exit 6) (reftype_Free_L4_s t bound t40 t41 t42 t51 t52 m m2 m3 m4 m5 m6 m7 m8 m9) y) (reftype_Free_L4_S t out bound t40 t41 t42 t51 t52 t53 m m2 m3 m4 m5 m6 m7 m8 m9) := by
  rcases ifs h with ⟨c15, h⟩ | ⟨c15, h⟩
  · obtain ⟨x16, bx16, h⟩ := bnd h
    obtain ⟨r17, br17, h⟩ := bnd h
    rcases ifs h with ⟨c18, h⟩ | ⟨c18, h⟩
    · obtain ⟨l19, bl19, h⟩ := bnd h
      obtain rfl := lf h
      have z := sg 0 c15 <| sv (sT22.ia (k := .i64) bx16) <| sv (plook1 sc9 (.str x16) []) <| sca (slices_Contains_ok br17) <| sg 0 c18 <| sv (sT22.mk' (v := PVal.str) pcS ([x16] : List Str) 1 (by kernel_rfl)) <| sv (sT22.ap bl19) <| eF .normal (reftype_Free_L4_S t l19 bound t40 t41 t42 t51 t52 (w64 (t53 + 1)) m m2 m3 m4 m5 m6 m7 m8 m9)
      exact nextp (A := A91) mixed z (by kernel_rfl)
    · obtain rfl := lf h
      have z := sg 0 c15 <| sv (sT22.ia (k := .i64) bx16) <| sv (plook1 sc9 (.str x16) []) <| sca (slices_Contains_ok br17) <| sg 0 c18 <| eF .normal (reftype_Free_L4_S t out bound t40 t41 t42 t51 t52 (w64 (t53 + 1)) m m2 m3 m4 m5 m6 m7 m8 m9)
      exact nextp (A := A91) mixed z (by kernel_rfl)
  · obtain rfl := lf h
    have z := sg 0 c15 <| eF (.exit 6) (reftype_Free_L4_s t bound t40 t41 t42 t51 t52 m m2 m3 m4 m5 m6 m7 m8 m9 out)
    exact overp (A := A91) mixed (by intro hx; cases hx) z (by kernel_rfl)
theorem reftype_Free_L4_ok (R37 : T_reftype_Free) (hR37 : H_reftype_Free R37) (t : tType) (out : (List Str)) (bound : (List Str)) (t40 : (List tType)) (t41 : Int) (t42 : Int) (t51 : (List Str)) (t52 : Int) (t53 : Int) (m : Int) (m2 : Str) (m3 : (List tType)) (m4 : (List Str)) (m5 : Int) (m6 : Str) (m7 : Int) (m8 : (List tPred)) (m9 : (List tPred)) {x : ((List Str))} (h : reftype_Free_L4 R37 bound t51 t52 out t53 = some x) :
    Sat Pg GE 0 (.loop (cA b91 126911)) (EX (.exit 6) (reftype_Free_L4_s t bound t40 t41 t42 t51 t52 m m2 m3 m4 m5 m6 m7 m8 m9 x)) (reftype_Free_L4_S t out bound t40 t41 t42 t51 t52 t53 m m2 m3 m4 m5 m6 m7 m8 m9) :=
  Sat.loop (S := fun (zz : (List Str) × Int) => reftype_Free_L4_S t zz.1 bound t40 t41 t42 t51 t52 zz.2 m m2 m3 m4 m5 m6 m7 m8 m9) (ex := (fun _ => .exit 6)) (s := (out, t53)) h fun zz y hy => reftype_Free_L4_bok R37 hR37 t zz.1 bound t40 t41 t42 t51 t52 zz.2 m m2 m3 m4 m5 m6 m7 m8 m9 hy
noncomputable def reftype_Free_L3_b (R37 : T_reftype_Free) (t : tType) (t40 : (List tType)) (t41 : Int) (out : (List Str)) (t42 : Int) : Option (((List Str) × Int) ⊕ (((List Str)))) :=
  if (decide (t42 < t41)) = true then
    (idx t40 t42).bind fun x12 =>
    (reftype_before t t42).bind fun r13 =>
    (R37 x12).bind fun r14 =>
    (reftype_Free_L4 R37 r13 r14 (r14.length : Int) out 0).bind fun o20 =>
    some (.inl (o20, w64 (t42 + 1)))
  else
    some (.inr out)
noncomputable def reftype_Free_L3 (R37 : T_reftype_Free) (t : tType) (t40 : (List tType)) (t41 : Int) (out : (List Str)) (t42 : Int) : Option (((List Str))) := loop (fun (zz : (List Str) × Int) => reftype_Free_L3_b R37 t t40 t41 zz.1 zz.2) (out, t42)
theorem reftype_Free_L3_bok (R37 : T_reftype_Free) (hR37 : H_reftype_Free R37) (t : tType) (out : (List Str)) (t40 : (List tType)) (t41 : Int) (t42 : Int) {y : ((List Str) × Int) ⊕ (((List Str)))} (h : reftype_Free_L3_b R37 t t40 t41 out t42 = some y) :
    Sat Pg GE 0 (cA b91 247) (LQ (fun (zz : (List Str) × Int) => reftype_Free_L3_S t zz.1 t40 t41 zz.2) (fun _ => .exit 4) (reftype_Free_L3_s t t40 t41) y) (reftype_Free_L3_S t out t40 t41 t42) := by
  rcases ifs h with ⟨c11, h⟩ | ⟨c11, h⟩
  · obtain ⟨x12, bx12, h⟩ := bnd h
    obtain ⟨r13, br13, h⟩ := bnd h
    obtain ⟨r14, br14, h⟩ := bnd h
    obtain ⟨o20, bo20, h⟩ := bnd h
    obtain rfl := lf h
    have z := sg 0 c11 <| sv (sT27.ia (k := .i64) bx12) <| sv (lk_tType x12) <| sx pz33 <| sx (pcx_tType x12) <| sv (lk_tType t) <| sca (reftype_before_ok br13) <| sv (lkx_tType x12 []) <| sca (hR37 _ _ br14) <| svn (sT22.ln r14) <| spc (reftype_Free_L4_ok R37 hR37 t out r13 t40 t41 t42 r14 (r14.length : Int) 0 x12.Op x12.Name x12.Args x12.Names x12.Pred.Op x12.Pred.Name x12.Pred.N x12.Pred.Kids x12.Preds bo20) <| eFx 0 .normal (reftype_Free_L3_S t o20 t40 t41 (w64 (t42 + 1))) rfl (cl_tm (aI (clL_up (cl_tType t)) (aI (up (cl_sl clS o20)) (aI (up (cl_sl cl_tType t40)) (aI trivial (aI trivial trivial)))))) (aI trivial trivial)
    exact nextxp (A := A91) mixed z (by kernel_rfl)
  · obtain rfl := lf h
    have z := sg 0 c11 <| eF (.exit 4) (reftype_Free_L3_s t t40 t41 out)
    exact overp (A := A91) mixed (by intro hx; cases hx) z (by kernel_rfl)
theorem reftype_Free_L3_ok (R37 : T_reftype_Free) (hR37 : H_reftype_Free R37) (t : tType) (out : (List Str)) (t40 : (List tType)) (t41 : Int) (t42 : Int) {x : ((List Str))} (h : reftype_Free_L3 R37 t t40 t41 out t42 = some x) :
    Sat Pg GE 0 (.loop (cA b91 247)) (EX (.exit 4) (reftype_Free_L3_s t t40 t41 x)) (reftype_Free_L3_S t out t40 t41 t42) :=
  Sat.loop (S := fun (zz : (List Str) × Int) => reftype_Free_L3_S t zz.1 t40 t41 zz.2) (ex := (fun _ => .exit 4)) (s := (out, t42)) h fun zz y hy => reftype_Free_L3_bok R37 hR37 t zz.1 t40 t41 zz.2 hy
noncomputable def reftype_Free_B (R37 : T_reftype_Free) (t : tType) : Option ((List Str)) :=
  (app ([t.Pred] : List tPred) t.Preds).bind fun l1 =>
  (reftype_Free_L1 R37 l1 (l1.length : Int) ([] : List Str) 0).bind fun o10 =>
  (reftype_Free_L3 R37 t t.Args (t.Args.length : Int) o10 0).bind fun o21 =>
  (names_Union o21 ([] : List Str)).bind fun r22 =>
  some r22
theorem reftype_Free_Bok (R37 : T_reftype_Free) (hR37 : H_reftype_Free R37) {t : tType} {r : (List Str)} (h : reftype_Free_B R37 t = some r) : CC Pg GE 91 [.agg (c_tType t)] (sl cS r) [(0, 9)] := by
  obtain ⟨l1, bl1, h⟩ := bnd h
  obtain ⟨o10, bo10, h⟩ := bnd h
  obtain ⟨o21, bo21, h⟩ := bnd h
  obtain ⟨r22, br22, h⟩ := bnd h
  obtain rfl := lf h
  have z := se (pc_tType t) <| sv (fa_tType_33_4 t) <| sv (lf_tType_4_31 t) <| sv (sT29.mk' (v := v_tPred) pcA_tPred ([t.Pred] : List tPred) 1 (by kernel_rfl)) <| sv (fa_tType_33_5 t) <| sv (lf_tType_8_29 t) <| sv (sT29.ap bl1) <| svn (sT29.ln l1) <| spc (reftype_Free_L1_ok R37 hR37 t ([] : List Str) l1 (l1.length : Int) 0 bo10) <| sv (fa_tType_33_2 t) <| sv (lf_tType_2_27 t) <| svn (sT27.ln t.Args) <| spc (reftype_Free_L3_ok R37 hR37 t o10 t.Args (t.Args.length : Int) 0 bo21) <| sca (names_Union_ok br22) <| en (aI (rP (sl cS r22)) <| (cl_sl clS r22))
  exact C.evp (A := A91) mixed Tryz.call91 Tryz.func91 (c := b91) rfl (aI (cl_tType t) trivial) z (by kernel_rfl)
noncomputable def reftype_Free_F : ((tType) → Option ((List Str))) → (tType) → Option ((List Str)) := fun (rec : tType → Option ((List Str))) (x : tType) => reftype_Free_B (fun t => rec t) x
noncomputable def reftype_Free (t : tType) : Option ((List Str)) := fixE (reftype_Free_F) t
theorem reftype_Free_ok {t : tType} {r : (List Str)} (h : reftype_Free t = some r) : CC Pg GE 91 [.agg (c_tType t)] (sl cS r) [(0, 9)] :=
  fixE_ind (F := reftype_Free_F) (M := fun (x : tType) (r : (List Str)) => CC Pg GE 91 [.agg (c_tType x)] (sl cS r) [(0, 9)]) (fun rec hrec x r h => reftype_Free_Bok _ (fun t r h => hrec t r h) h) h
noncomputable def b92 : Code := Tryz.f92.body.getD .skip
def A92 : List Nat := [24, 35]
noncomputable def names_Fresh_L1_S (base : Str) (t11 : (List Str)) (t12 : Int) (t13 : Int) (m0 : (List (Str × Bool))) : PSt := stt 36 [(1, .str base), (5, .mapr 0), (11, sl cS t11), (12, .int .i64 t12), (13, .int .i64 t13)] [.map (encM PVal.bool m0)] []
noncomputable def names_Fresh_L1_s (base : Str) (t11 : (List Str)) (t12 : Int) (o : (List (Str × Bool))) : PSt := stt 36 [(1, .str base), (5, .mapr 0)] [.map (encM PVal.bool o)] []
noncomputable def names_Fresh_L1_b (t11 : (List Str)) (t12 : Int) (t13 : Int) (m0 : (List (Str × Bool))) : Option ((Int × (List (Str × Bool))) ⊕ (((List (Str × Bool))))) :=
  if (decide (t13 < t12)) = true then
    (idx t11 t13).bind fun x2 =>
    some (.inl (w64 (t13 + 1), mput m0 x2 true))
  else
    some (.inr m0)
noncomputable def names_Fresh_L1 (t11 : (List Str)) (t12 : Int) (t13 : Int) (m0 : (List (Str × Bool))) : Option (((List (Str × Bool)))) := loop (fun (zz : Int × (List (Str × Bool))) => names_Fresh_L1_b t11 t12 zz.1 zz.2) (t13, m0)
theorem names_Fresh_L1_bok (base : Str) (t11 : (List Str)) (t12 : Int) (t13 : Int) (m0 : (List (Str × Bool))) {y : (Int × (List (Str × Bool))) ⊕ (((List (Str × Bool))))} (h : names_Fresh_L1_b t11 t12 t13 m0 = some y) :
    Sat Pg GE 0 (cA b92 119) (LQ (fun (zz : Int × (List (Str × Bool))) => names_Fresh_L1_S base t11 t12 zz.1 zz.2) (fun _ => .exit 0) (names_Fresh_L1_s base t11 t12) y) (names_Fresh_L1_S base t11 t12 t13 m0) := by
  rcases ifs h with ⟨c1, h⟩ | ⟨c1, h⟩
  · obtain ⟨x2, bx2, h⟩ := bnd h
    obtain rfl := lf h
    have z := sg 0 c1 <| sv (sT22.ia (k := .i64) bx2) <| sv (plook1 sc9 (.str x2) []) <| swm (mapPut (f := PVal.bool) Tryz.underlying143 Tryz.underlying9 m0 x2 true) <| eF .normal (names_Fresh_L1_S base t11 t12 (w64 (t13 + 1)) (mput m0 x2 true))
    exact nextp (A := A92) mixed z (by kernel_rfl)
  · obtain rfl := lf h
    have z := sg 0 c1 <| eF (.exit 0) (names_Fresh_L1_s base t11 t12 m0)
    exact overp (A := A92) mixed (by intro hx; cases hx) z (by kernel_rfl)
theorem names_Fresh_L1_ok (base : Str) (t11 : (List Str)) (t12 : Int) (t13 : Int) (m0 : (List (Str × Bool))) {x : ((List (Str × Bool)))} (h : names_Fresh_L1 t11 t12 t13 m0 = some x) :
    Sat Pg GE 0 (.loop (cA b92 119)) (EX (.exit 0) (names_Fresh_L1_s base t11 t12 x)) (names_Fresh_L1_S base t11 t12 t13 m0) :=
  Sat.loop (S := fun (zz : Int × (List (Str × Bool))) => names_Fresh_L1_S base t11 t12 zz.1 zz.2) (ex := (fun _ => .exit 0)) (s := (t13, m0)) h fun zz y hy => names_Fresh_L1_bok base t11 t12 zz.1 zz.2 hy
noncomputable def names_Fresh_L2_S (base : Str) (n : Int) (m0 : (List (Str × Bool))) : PSt := stt 36 [(1, .str base), (5, .mapr 0), (8, .int .i64 n)] [.map (encM PVal.bool m0)] []
noncomputable def names_Fresh_L2_s (base : Str) (m0 : (List (Str × Bool))) (o : Str) : PSt := stt 36 [(4, .str o)] [.map (encM PVal.bool m0)] []
noncomputable def names_Fresh_L2_b (base : Str) (m0 : (List (Str × Bool))) (n : Int) : Option ((Int) ⊕ ((Str))) :=
  (itoaF n).bind fun r5 =>
  (cat base r5).bind fun s6 =>
  if (!((mget m0 s6).getD false)) = true then
    some (.inr s6)
  else
    some (.inl (w64 (n + 1)))
noncomputable def names_Fresh_L2 (base : Str) (m0 : (List (Str × Bool))) (n : Int) : Option ((Str)) := loop (fun (zz : Int) => names_Fresh_L2_b base m0 zz) n
theorem names_Fresh_L2_bok (base : Str) (n : Int) (m0 : (List (Str × Bool))) {y : (Int) ⊕ ((Str))} (h : names_Fresh_L2_b base m0 n = some y) :
    Sat Pg GE 0 (cA b92 255) (LQ (fun (zz : Int) => names_Fresh_L2_S base zz m0) (fun _ => .ret) (names_Fresh_L2_s base m0) y) (names_Fresh_L2_S base n m0) := by
  obtain ⟨r5, br5, h⟩ := bnd h
  obtain ⟨s6, bs6, h⟩ := bnd h
  rcases ifs h with ⟨c7, h⟩ | ⟨c7, h⟩
  · obtain rfl := lf h
    have z := sca (itoa_ok br5) <| sv (strCat (P := Pg) (t := 9) bs6) <| sv (mapGet (f := PVal.bool) Tryz.underlying143 Tryz.underlying9 zv4 m0 s6) <| sg 0 c7 <| eF .ret (names_Fresh_L2_s base m0 s6)
    exact overp (A := A92) mixed (by intro hx; cases hx) z (by kernel_rfl)
  · obtain rfl := lf h
    have z := sca (itoa_ok br5) <| sv (strCat (P := Pg) (t := 9) bs6) <| sv (mapGet (f := PVal.bool) Tryz.underlying143 Tryz.underlying9 zv4 m0 s6) <| sg 0 c7 <| eF .normal (names_Fresh_L2_S base (w64 (n + 1)) m0)
    exact nextp (A := A92) mixed z (by kernel_rfl)
theorem names_Fresh_L2_ok (base : Str) (n : Int) (m0 : (List (Str × Bool))) {x : (Str)} (h : names_Fresh_L2 base m0 n = some x) :
    Sat Pg GE 0 (.loop (cA b92 255)) (EX .ret (names_Fresh_L2_s base m0 x)) (names_Fresh_L2_S base n m0) :=
  Sat.loop (S := fun (zz : Int) => names_Fresh_L2_S base zz m0) (ex := (fun _ => .ret)) (s := n) h fun zz y hy => names_Fresh_L2_bok base zz m0 hy
noncomputable def names_Fresh (used : (List Str)) (base : Str) : Option (Str) :=
  (names_Fresh_L1 used (used.length : Int) 0 ([] : List (Str × Bool))).bind fun o3 =>
  if (!((mget o3 base).getD false)) = true then
    some base
  else
    (names_Fresh_L2 base o3 1).bind fun o8 =>
    some o8
theorem names_Fresh_ok {used : (List Str)} {base : Str} {r : Str} (h : names_Fresh used base = some r) : CC Pg GE 92 [sl cS used, .str base] (.str r) [] := by
  obtain ⟨o3, bo3, h⟩ := bnd h
  rcases ifs h with ⟨c4, h⟩ | ⟨c4, h⟩
  · obtain rfl := lf h
    have z := svn (sT22.ln used) <| spc (names_Fresh_L1_ok base used (used.length : Int) 0 ([] : List (Str × Bool)) bo3) <| sv (mapGet (f := PVal.bool) Tryz.underlying143 Tryz.underlying9 zv4 o3 base) <| sg 0 c4 <| en (aI (rP (.str base)) <| trivial)
    exact C.evp (A := A92) mixed Tryz.call92 Tryz.func92 (c := b92) rfl (aI (cl_sl clS used) (aI trivial trivial)) z (by kernel_rfl)
  · obtain ⟨o8, bo8, h⟩ := bnd h
    obtain rfl := lf h
    have z := svn (sT22.ln used) <| spc (names_Fresh_L1_ok base used (used.length : Int) 0 ([] : List (Str × Bool)) bo3) <| sv (mapGet (f := PVal.bool) Tryz.underlying143 Tryz.underlying9 zv4 o3 base) <| sg 0 c4 <| spc (names_Fresh_L2_ok base 1 o3 bo8) <| en (aI (rP (.str o8)) <| trivial)
    exact C.evp (A := A92) mixed Tryz.call92 Tryz.func92 (c := b92) rfl (aI (cl_sl clS used) (aI trivial trivial)) z (by kernel_rfl)
noncomputable def b154 : Code := Tryz.f154.body.getD .skip
def A154 : List Nat := [13, 28, 34]
noncomputable def reftype_substitution_without_L1_S (hidden : (List Str)) (s : reftype_substitution) (t9 : (List Str)) (t10 : Int) (t11 : Int) (m : (List tPred)) (m2 : (List Str)) (m3 : (List tPred)) : PSt := stt 45 [(1, sl cS hidden), (2, .eptr (c_reftype_substitution s)), (4, .bptr 1 0), (5, .bptr 2 0), (9, sl cS t9), (10, .int .i64 t10), (11, .int .i64 t11)] [.dead, .cells [sl cS ([] : List Str), sl c_tPred m] [(0, 9), (1, 31)], .cells [sl cS m2, sl c_tPred m3] [(0, 9), (1, 31)]] []
noncomputable def reftype_substitution_without_L1_s (hidden : (List Str)) (s : reftype_substitution) (t9 : (List Str)) (t10 : Int) (m : (List tPred)) (o : (List Str) × (List tPred)) : PSt := stt 45 [(4, .bptr 1 0), (5, .bptr 2 0)] [.dead, .cells [sl cS ([] : List Str), sl c_tPred m] [(0, 9), (1, 31)], .cells [sl cS o.1, sl c_tPred o.2] [(0, 9), (1, 31)]] []
noncomputable def reftype_substitution_without_J2_S (hidden : (List Str)) (s : reftype_substitution) (i : Int) (n : Str) (t9 : (List Str)) (t10 : Int) (m : (List tPred)) (m2 : (List Str)) (m3 : (List tPred)) : PSt := stt 45 [(1, sl cS hidden), (2, .eptr (c_reftype_substitution s)), (4, .bptr 1 0), (5, .bptr 2 0), (6, .int .i64 i), (7, .str n), (9, sl cS t9), (10, .int .i64 t10), (11, .int .i64 i)] [.dead, .cells [sl cS ([] : List Str), sl c_tPred m] [(0, 9), (1, 31)], .cells [sl cS m2, sl c_tPred m3] [(0, 9), (1, 31)]] []
noncomputable def reftype_substitution_without_J2_s (hidden : (List Str)) (s : reftype_substitution) (i : Int) (n : Str) (t9 : (List Str)) (t10 : Int) (m : (List tPred)) (m2 : (List Str)) (m3 : (List tPred)) (o : Bool) : PSt := stt 45 [(1, sl cS hidden), (2, .eptr (c_reftype_substitution s)), (4, .bptr 1 0), (5, .bptr 2 0), (6, .int .i64 i), (7, .str n), (9, sl cS t9), (10, .int .i64 t10), (11, .int .i64 i), (26, .bool o)] [.dead, .cells [sl cS ([] : List Str), sl c_tPred m] [(0, 9), (1, 31)], .cells [sl cS m2, sl c_tPred m3] [(0, 9), (1, 31)]] []
noncomputable def reftype_substitution_without_J2 (hidden : (List Str)) (n : Str) (m2 : (List Str)) : Option ((Bool)) :=
  (slices_Contains hidden n).bind fun r3 =>
  if (!r3) = true then
    (slices_Contains m2 n).bind fun r5 =>
    some (!r5)
  else
    some false
theorem reftype_substitution_without_J2_ok (hidden : (List Str)) (s : reftype_substitution) (i : Int) (n : Str) (t9 : (List Str)) (t10 : Int) (m : (List tPred)) (m2 : (List Str)) (m3 : (List tPred)) {x : (Bool)} (h : reftype_substitution_without_J2 hidden n m2 = some x) :
    Sat Pg GE 0 (cA b154 7670) (EX .normal (reftype_substitution_without_J2_s hidden s i n t9 t10 m m2 m3 x)) (reftype_substitution_without_J2_S hidden s i n t9 t10 m m2 m3) := by
  obtain ⟨r3, br3, h⟩ := bnd h
  rcases ifs h with ⟨c4, h⟩ | ⟨c4, h⟩
  · obtain ⟨r5, br5, h⟩ := bnd h
    obtain rfl := lf h
    have z := sca (slices_Contains_ok br3) <| sg 5 c4 <| ss <| sca (slices_Contains_ok br5) <| eF .normal (reftype_substitution_without_J2_s hidden s i n t9 t10 m m2 m3 (!r5))
    exact piecep (A := A154) mixed z (by kernel_rfl)
  · obtain rfl := lf h
    have z := sca (slices_Contains_ok br3) <| sg 5 c4 <| eF .normal (reftype_substitution_without_J2_s hidden s i n t9 t10 m m2 m3 false)
    exact piecep (A := A154) mixed z (by kernel_rfl)
noncomputable def reftype_substitution_without_L1_b (hidden : (List Str)) (s : reftype_substitution) (t9 : (List Str)) (t10 : Int) (t11 : Int) (m2 : (List Str)) (m3 : (List tPred)) : Option ((Int × (List Str) × (List tPred)) ⊕ (((List Str) × (List tPred)))) :=
  if (decide (t11 < t10)) = true then
    (idx t9 t11).bind fun x2 =>
    (reftype_substitution_without_J2 hidden x2 m2).bind fun o6 =>
    if o6 = true then
      (app m2 ([x2] : List Str)).bind fun l8 =>
      (idx s.by_ t11).bind fun x9 =>
      (app m3 ([x9] : List tPred)).bind fun l10 =>
      some (.inl (w64 (t11 + 1), l8, l10))
    else
      some (.inl (w64 (t11 + 1), m2, m3))
  else
    some (.inr (m2, m3))
noncomputable def reftype_substitution_without_L1 (hidden : (List Str)) (s : reftype_substitution) (t9 : (List Str)) (t10 : Int) (t11 : Int) (m2 : (List Str)) (m3 : (List tPred)) : Option (((List Str) × (List tPred))) := loop (fun (zz : Int × (List Str) × (List tPred)) => reftype_substitution_without_L1_b hidden s t9 t10 zz.1 zz.2.1 zz.2.2) (t11, m2, m3)
theorem reftype_substitution_without_L1_bok (hidden : (List Str)) (s : reftype_substitution) (t9 : (List Str)) (t10 : Int) (t11 : Int) (m : (List tPred)) (m2 : (List Str)) (m3 : (List tPred)) {y : (Int × (List Str) × (List tPred)) ⊕ (((List Str) × (List tPred)))} (h : reftype_substitution_without_L1_b hidden s t9 t10 t11 m2 m3 = some y) :
    Sat Pg GE 0 (cA b154 119) (LQ (fun (zz : Int × (List Str) × (List tPred)) => reftype_substitution_without_L1_S hidden s t9 t10 zz.1 m zz.2.1 zz.2.2) (fun _ => .exit 0) (reftype_substitution_without_L1_s hidden s t9 t10 m) y) (reftype_substitution_without_L1_S hidden s t9 t10 t11 m m2 m3) := by
  rcases ifs h with ⟨c1, h⟩ | ⟨c1, h⟩
  · obtain ⟨x2, bx2, h⟩ := bnd h
    obtain ⟨o6, bo6, h⟩ := bnd h
    rcases ifs h with ⟨c7, h⟩ | ⟨c7, h⟩
    · obtain ⟨l8, bl8, h⟩ := bnd h
      obtain ⟨x9, bx9, h⟩ := bnd h
      obtain ⟨l10, bl10, h⟩ := bnd h
      obtain rfl := lf h
      have z := sg 0 c1 <| sv (sT22.ia (k := .i64) bx2) <| sv (plook1 sc9 (.str x2) []) <| spa 0 <| spc (reftype_substitution_without_J2_ok hidden s t11 x2 t9 t10 m m2 m3 bo6) <| sg 0 c7 <| sv (sT22.mk' (v := PVal.str) pcS ([x2] : List Str) 1 (by kernel_rfl)) <| sv (sT22.ap bl8) <| sdr [0, 1, 0, 4, 0, 28, 60, 124, 255, 511, 1023] <| sv (fa_reftype_substitution_163_1 s) <| sv (lf_reftype_substitution_1_29 s) <| sv (sT29.ia (k := .i64) bx9) <| sv (lk_tPred x9) <| sv (sT29.mk' (v := v_tPred) pcA_tPred ([x9] : List tPred) 1 (by kernel_rfl)) <| sv (sT29.ap bl10) <| ssf (rfl : pcells (sl c_tPred l10) = some [sl c_tPred l10]) <| eF .normal (reftype_substitution_without_L1_S hidden s t9 t10 (w64 (t11 + 1)) m l8 l10)
      exact nextp (A := A154) mixed z (by kernel_rfl)
    · obtain rfl := lf h
      have z := sg 0 c1 <| sv (sT22.ia (k := .i64) bx2) <| sv (plook1 sc9 (.str x2) []) <| spa 0 <| spc (reftype_substitution_without_J2_ok hidden s t11 x2 t9 t10 m m2 m3 bo6) <| sg 0 c7 <| eF .normal (reftype_substitution_without_L1_S hidden s t9 t10 (w64 (t11 + 1)) m m2 m3)
      exact nextp (A := A154) mixed z (by kernel_rfl)
  · obtain rfl := lf h
    have z := sg 0 c1 <| eF (.exit 0) (reftype_substitution_without_L1_s hidden s t9 t10 m (m2, m3))
    exact overp (A := A154) mixed (by intro hx; cases hx) z (by kernel_rfl)
theorem reftype_substitution_without_L1_ok (hidden : (List Str)) (s : reftype_substitution) (t9 : (List Str)) (t10 : Int) (t11 : Int) (m : (List tPred)) (m2 : (List Str)) (m3 : (List tPred)) {x : ((List Str) × (List tPred))} (h : reftype_substitution_without_L1 hidden s t9 t10 t11 m2 m3 = some x) :
    Sat Pg GE 0 (.loop (cA b154 119)) (EX (.exit 0) (reftype_substitution_without_L1_s hidden s t9 t10 m x)) (reftype_substitution_without_L1_S hidden s t9 t10 t11 m m2 m3) :=
  Sat.loop (S := fun (zz : Int × (List Str) × (List tPred)) => reftype_substitution_without_L1_S hidden s t9 t10 zz.1 m zz.2.1 zz.2.2) (ex := (fun _ => .exit 0)) (s := (t11, m2, m3)) h fun zz y hy => reftype_substitution_without_L1_bok hidden s t9 t10 zz.1 m zz.2.1 zz.2.2 hy
noncomputable def reftype_substitution_without (s : reftype_substitution) (hidden : (List Str)) : Option (reftype_substitution) :=
  (reftype_substitution_without_L1 hidden s s.names (s.names.length : Int) 0 ([] : List Str) ([] : List tPred)).bind fun o11 =>
  some (⟨o11.1, o11.2⟩ : reftype_substitution)
theorem reftype_substitution_without_ok {s : reftype_substitution} {hidden : (List Str)} {r : reftype_substitution} (h : reftype_substitution_without s hidden = some r) : CC Pg GE 154 [.agg (c_reftype_substitution s), sl cS hidden] (.agg (c_reftype_substitution r)) [(0, 9), (1, 31)] := by
  obtain ⟨o11, bo11, h⟩ := bnd h
  obtain rfl := lf h
  have z := se (pc_reftype_substitution s) <| sx pz163 <| sx pz163 <| sv (fa_reftype_substitution_163_0 s) <| sv (lf_reftype_substitution_0_22 s) <| svn (sT22.ln s.names) <| spc (reftype_substitution_without_L1_ok hidden s s.names (s.names.length : Int) 0 ([] : List tPred) ([] : List Str) ([] : List tPred) bo11) <| sz (lkx_reftype_substitution (⟨o11.1, o11.2⟩ : reftype_substitution) []) <| sy (ex_reftype_substitution (⟨o11.1, o11.2⟩ : reftype_substitution)) <| en (aI (rex_reftype_substitution (⟨o11.1, o11.2⟩ : reftype_substitution)) <| aI (cl_reftype_substitution (⟨o11.1, o11.2⟩ : reftype_substitution)) <| rT)
  exact C.evp (A := A154) mixed Tryz.call154 Tryz.func154 (c := b154) rfl (aI (cl_reftype_substitution s) (aI (cl_sl clS hidden) trivial)) z (by kernel_rfl)
abbrev T_reftype_substitution_typ := (reftype_substitution → tType → Option (tType))
abbrev H_reftype_substitution_typ (R : T_reftype_substitution_typ) : Prop := ∀ (s : reftype_substitution) (t : tType) (r : tType), R s t = some r → CC Pg GE 155 [.agg (c_reftype_substitution s), .agg (c_tType t)] (.agg (c_tType r)) [(2, 33)]
noncomputable def b176 : Code := Tryz.f176.body.getD .skip
def A176 : List Nat := []
noncomputable def reftype_substitution_pred (s : reftype_substitution) (p : tPred) : Option (tPred) :=
  (pred_SubstAll p s.names s.by_).bind fun r1 =>
  some r1
theorem reftype_substitution_pred_ok {s : reftype_substitution} {p : tPred} {r : tPred} (h : reftype_substitution_pred s p = some r) : CC Pg GE 176 [.agg (c_reftype_substitution s), .agg (c_tPred p)] (.agg (c_tPred r)) [(3, 31)] := by
  obtain ⟨r1, br1, h⟩ := bnd h
  obtain rfl := lf h
  have z := se (pc_reftype_substitution s) <| se (pc_tPred p) <| sx pz31 <| sv (lk_tPred p) <| sv (fa_reftype_substitution_163_0 s) <| sv (lf_reftype_substitution_0_22 s) <| sv (fa_reftype_substitution_163_1 s) <| sv (lf_reftype_substitution_1_29 s) <| sca (pred_SubstAll_ok br1) <| sy (ex_tPred r1) <| en (aI (rex_tPred r1) <| aI (cl_tPred r1) <| rT)
  exact C.evp (A := A176) mixed Tryz.call176 Tryz.func176 (c := b176) rfl (aI (cl_reftype_substitution s) (aI (cl_tPred p) trivial)) z (by kernel_rfl)
noncomputable def b177 : Code := Tryz.f177.body.getD .skip
def A177 : List Nat := [14, 21]
noncomputable def reftype_mapped_L1_S (v : reftype_substitution) (out : (List tPred)) (t8 : (List tPred)) (t9 : Int) (t10 : Int) : PSt := stt 22 [(1, .func (.func 176) [.agg (c_reftype_substitution v)] []), (5, sl c_tPred out), (8, sl c_tPred t8), (9, .int .i64 t9), (10, .int .i64 t10)] [] [((5, 0), 31)]
noncomputable def reftype_mapped_L1_s (v : reftype_substitution) (t8 : (List tPred)) (t9 : Int) (o : (List tPred)) : PSt := stt 22 [(5, sl c_tPred o)] [] [((5, 0), 31)]
noncomputable def reftype_mapped_L1_b (v : reftype_substitution) (t8 : (List tPred)) (t9 : Int) (out : (List tPred)) (t10 : Int) : Option (((List tPred) × Int) ⊕ (((List tPred)))) :=
  if (decide (t10 < t9)) = true then
    (idx t8 t10).bind fun x2 =>
    (reftype_substitution_pred v x2).bind fun r3 =>
    (app out ([r3] : List tPred)).bind fun l4 =>
    some (.inl (l4, w64 (t10 + 1)))
  else
    some (.inr out)
noncomputable def reftype_mapped_L1 (v : reftype_substitution) (t8 : (List tPred)) (t9 : Int) (out : (List tPred)) (t10 : Int) : Option (((List tPred))) := loop (fun (zz : (List tPred) × Int) => reftype_mapped_L1_b v t8 t9 zz.1 zz.2) (out, t10)
theorem reftype_mapped_L1_bok (v : reftype_substitution) (out : (List tPred)) (t8 : (List tPred)) (t9 : Int) (t10 : Int) {y : ((List tPred) × Int) ⊕ (((List tPred)))} (h : reftype_mapped_L1_b v t8 t9 out t10 = some y) :
    Sat Pg GE 0 (cA b177 119) (LQ (fun (zz : (List tPred) × Int) => reftype_mapped_L1_S v zz.1 t8 t9 zz.2) (fun _ => .exit 0) (reftype_mapped_L1_s v t8 t9) y) (reftype_mapped_L1_S v out t8 t9 t10) := by
  rcases ifs h with ⟨c1, h⟩ | ⟨c1, h⟩
  · obtain ⟨x2, bx2, h⟩ := bnd h
    obtain ⟨r3, br3, h⟩ := bnd h
    obtain ⟨l4, bl4, h⟩ := bnd h
    obtain rfl := lf h
    have z := sg 0 c1 <| sv (sT29.ia (k := .i64) bx2) <| sv (lk_tPred x2) <| sx pz31 <| sx (pcx_tPred x2) <| sv (lkx_tPred x2 []) <| sca (reftype_substitution_pred_ok br3) <| sv (sT29.mk' (v := v_tPred) pcA_tPred ([r3] : List tPred) 1 (by kernel_rfl)) <| sv (sT29.ap bl4) <| eFx 0 .normal (reftype_mapped_L1_S v l4 t8 t9 (w64 (t10 + 1))) rfl (cl_tm (aI (aI (aI (up (cl_reftype_substitution v)) trivial) trivial) (aI (up (cl_sl cl_tPred l4)) (aI (up (cl_sl cl_tPred t8)) (aI trivial (aI trivial trivial)))))) trivial
    exact nextxp (A := A177) mixed z (by kernel_rfl)
  · obtain rfl := lf h
    have z := sg 0 c1 <| eF (.exit 0) (reftype_mapped_L1_s v t8 t9 out)
    exact overp (A := A177) mixed (by intro hx; cases hx) z (by kernel_rfl)
theorem reftype_mapped_L1_ok (v : reftype_substitution) (out : (List tPred)) (t8 : (List tPred)) (t9 : Int) (t10 : Int) {x : ((List tPred))} (h : reftype_mapped_L1 v t8 t9 out t10 = some x) :
    Sat Pg GE 0 (.loop (cA b177 119)) (EX (.exit 0) (reftype_mapped_L1_s v t8 t9 x)) (reftype_mapped_L1_S v out t8 t9 t10) :=
  Sat.loop (S := fun (zz : (List tPred) × Int) => reftype_mapped_L1_S v zz.1 t8 t9 zz.2) (ex := (fun _ => .exit 0)) (s := (out, t10)) h fun zz y hy => reftype_mapped_L1_bok v zz.1 t8 t9 zz.2 hy
noncomputable def reftype_mapped (a : (List tPred)) (c : reftype_substitution) : Option ((List tPred)) :=
  (reftype_mapped_L1 c a (a.length : Int) ([] : List tPred) 0).bind fun o5 =>
  some o5
theorem reftype_mapped_ok {a : (List tPred)} {c : reftype_substitution} {r : (List tPred)} (h : reftype_mapped a c = some r) : CC Pg GE 177 [sl c_tPred a, .func (.func 176) [.agg (c_reftype_substitution c)] []] (sl c_tPred r) [(0, 31)] := by
  obtain ⟨o5, bo5, h⟩ := bnd h
  obtain rfl := lf h
  have z := svn (sT29.ln a) <| spc (reftype_mapped_L1_ok c ([] : List tPred) a (a.length : Int) 0 bo5) <| en (aI (rP (sl c_tPred o5)) <| (cl_sl cl_tPred o5))
  exact C.evp (A := A177) mixed Tryz.call177 Tryz.func177 (c := b177) rfl (aI (cl_sl cl_tPred a) (aI (aI (aI (cl_reftype_substitution c) trivial) trivial) trivial)) z (by kernel_rfl)
noncomputable def b199 : Code := Tryz.f199.body.getD .skip
def A199 : List Nat := [13, 18]
noncomputable def reftype_substitution_free_L1_S (out : (List Str)) (t7 : (List tPred)) (t8 : Int) (t9 : Int) : PSt := stt 19 [(3, sl cS out), (7, sl c_tPred t7), (8, .int .i64 t8), (9, .int .i64 t9)] [.dead] [((3, 0), 9)]
noncomputable def reftype_substitution_free_L1_s (t7 : (List tPred)) (t8 : Int) (o : (List Str)) : PSt := stt 19 [(3, sl cS o)] [.dead] [((3, 0), 9)]
noncomputable def reftype_substitution_free_L1_b (t7 : (List tPred)) (t8 : Int) (out : (List Str)) (t9 : Int) : Option (((List Str) × Int) ⊕ (((List Str)))) :=
  if (decide (t9 < t8)) = true then
    (idx t7 t9).bind fun x2 =>
    (pred_Free x2).bind fun r3 =>
    (app out r3).bind fun l4 =>
    some (.inl (l4, w64 (t9 + 1)))
  else
    some (.inr out)
noncomputable def reftype_substitution_free_L1 (t7 : (List tPred)) (t8 : Int) (out : (List Str)) (t9 : Int) : Option (((List Str))) := loop (fun (zz : (List Str) × Int) => reftype_substitution_free_L1_b t7 t8 zz.1 zz.2) (out, t9)
theorem reftype_substitution_free_L1_bok (out : (List Str)) (t7 : (List tPred)) (t8 : Int) (t9 : Int) {y : ((List Str) × Int) ⊕ (((List Str)))} (h : reftype_substitution_free_L1_b t7 t8 out t9 = some y) :
    Sat Pg GE 0 (cA b199 119) (LQ (fun (zz : (List Str) × Int) => reftype_substitution_free_L1_S zz.1 t7 t8 zz.2) (fun _ => .exit 0) (reftype_substitution_free_L1_s t7 t8) y) (reftype_substitution_free_L1_S out t7 t8 t9) := by
  rcases ifs h with ⟨c1, h⟩ | ⟨c1, h⟩
  · obtain ⟨x2, bx2, h⟩ := bnd h
    obtain ⟨r3, br3, h⟩ := bnd h
    obtain ⟨l4, bl4, h⟩ := bnd h
    obtain rfl := lf h
    have z := sg 0 c1 <| sv (sT29.ia (k := .i64) bx2) <| sv (lk_tPred x2) <| sx pz31 <| sx (pcx_tPred x2) <| sv (lkx_tPred x2 []) <| sca (pred_Free_ok br3) <| sv (sT22.ap bl4) <| eFx 0 .normal (reftype_substitution_free_L1_S l4 t7 t8 (w64 (t9 + 1))) rfl (cl_tm (aI (up (cl_sl clS l4)) (aI (up (cl_sl cl_tPred t7)) (aI trivial (aI trivial trivial))))) (aI trivial trivial)
    exact nextxp (A := A199) mixed z (by kernel_rfl)
  · obtain rfl := lf h
    have z := sg 0 c1 <| eF (.exit 0) (reftype_substitution_free_L1_s t7 t8 out)
    exact overp (A := A199) mixed (by intro hx; cases hx) z (by kernel_rfl)
theorem reftype_substitution_free_L1_ok (out : (List Str)) (t7 : (List tPred)) (t8 : Int) (t9 : Int) {x : ((List Str))} (h : reftype_substitution_free_L1 t7 t8 out t9 = some x) :
    Sat Pg GE 0 (.loop (cA b199 119)) (EX (.exit 0) (reftype_substitution_free_L1_s t7 t8 x)) (reftype_substitution_free_L1_S out t7 t8 t9) :=
  Sat.loop (S := fun (zz : (List Str) × Int) => reftype_substitution_free_L1_S zz.1 t7 t8 zz.2) (ex := (fun _ => .exit 0)) (s := (out, t9)) h fun zz y hy => reftype_substitution_free_L1_bok zz.1 t7 t8 zz.2 hy
noncomputable def reftype_substitution_free (s : reftype_substitution) : Option ((List Str)) :=
  (reftype_substitution_free_L1 s.by_ (s.by_.length : Int) ([] : List Str) 0).bind fun o5 =>
  some o5
theorem reftype_substitution_free_ok {s : reftype_substitution} {r : (List Str)} (h : reftype_substitution_free s = some r) : CC Pg GE 199 [.agg (c_reftype_substitution s)] (sl cS r) [(0, 9)] := by
  obtain ⟨o5, bo5, h⟩ := bnd h
  obtain rfl := lf h
  have z := se (pc_reftype_substitution s) <| sv (fa_reftype_substitution_163_1 s) <| sv (lf_reftype_substitution_1_29 s) <| svn (sT29.ln s.by_) <| spc (reftype_substitution_free_L1_ok ([] : List Str) s.by_ (s.by_.length : Int) 0 bo5) <| en (aI (rP (sl cS o5)) <| (cl_sl clS o5))
  exact C.evp (A := A199) mixed Tryz.call199 Tryz.func199 (c := b199) rfl (aI (cl_reftype_substitution s) trivial) z (by kernel_rfl)
noncomputable def b200 : Code := Tryz.f200.body.getD .skip
def A200 : List Nat := [13, 19]
noncomputable def reftype_substitution_with (s : reftype_substitution) (name : Str) (a : tPred) : Option (reftype_substitution) :=
  (reftype_substitution_without s ([name] : List Str)).bind fun r1 =>
  (app r1.names ([name] : List Str)).bind fun l2 =>
  (app r1.by_ ([a] : List tPred)).bind fun l3 =>
  some (⟨l2, l3⟩ : reftype_substitution)
theorem reftype_substitution_with_ok {s : reftype_substitution} {name : Str} {a : tPred} {r : reftype_substitution} (h : reftype_substitution_with s name a = some r) : CC Pg GE 200 [.agg (c_reftype_substitution s), .str name, .agg (c_tPred a)] (.agg (c_reftype_substitution r)) [(0, 9), (1, 31)] := by
  obtain ⟨r1, br1, h⟩ := bnd h
  obtain ⟨l2, bl2, h⟩ := bnd h
  obtain ⟨l3, bl3, h⟩ := bnd h
  obtain rfl := lf h
  have z := se (pc_reftype_substitution s) <| se (pc_tPred a) <| sx pz163 <| sv (lk_reftype_substitution s) <| sv (sT22.mk' (v := PVal.str) pcS ([name] : List Str) 1 (by kernel_rfl)) <| sca (reftype_substitution_without_ok br1) <| sx pz163 <| sy (ex_reftype_substitution r1) <| sv (sT22.mk' (v := PVal.str) pcS ([name] : List Str) 1 (by kernel_rfl)) <| sv (sT22.ap bl2) <| sv (lk_tPred a) <| sv (sT29.mk' (v := v_tPred) pcA_tPred ([a] : List tPred) 1 (by kernel_rfl)) <| sv (sT29.ap bl3) <| sz (lkx_reftype_substitution (⟨l2, l3⟩ : reftype_substitution) []) <| sy (ex_reftype_substitution (⟨l2, l3⟩ : reftype_substitution)) <| en (aI (rex_reftype_substitution (⟨l2, l3⟩ : reftype_substitution)) <| aI (cl_reftype_substitution (⟨l2, l3⟩ : reftype_substitution)) <| rT)
  exact C.evp (A := A200) mixed Tryz.call200 Tryz.func200 (c := b200) rfl (aI (cl_reftype_substitution s) (aI trivial (aI (cl_tPred a) trivial))) z (by kernel_rfl)
end Go.Proofs.YtgldgpdhblndkaaGreatDoor
