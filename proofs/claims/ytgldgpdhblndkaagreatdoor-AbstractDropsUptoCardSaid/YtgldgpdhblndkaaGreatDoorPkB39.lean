/-
  WHAT IS PROVED: parts of the proof, put together by a program out of smaller texts (G7). Conditions: none.
-/
import Derived.Test.YtgldgpdhblndkaaGreatDoorPkB38
namespace Go.Proofs.YtgldgpdhblndkaaGreatDoor
open Go
set_option linter.unusedVariables false
set_option maxRecDepth 100000
noncomputable def b25 : Code := Tryz.f25.body.getD .skip
def A25 : List Nat := [22]
noncomputable def abstract_Drop_L1_S (v : (List Str)) (kept : (List tPred)) (t10 : (List tPred)) (t11 : Int) (t12 : Int) (m : (List tPred)) : PSt := stt 29 [(3, .eptr ((cL cS) v)), (4, .bptr 2 0), (5, sl c_tPred kept), (10, sl c_tPred t10), (11, .int .i64 t11), (12, .int .i64 t12)] [.dead, .dead, .cells [.int .i64 0, .str ([] : Str), .int .i64 0, sl c_tPred m] [(3, 31)]] [((10, 0), 31), ((5, 0), 31)]
noncomputable def abstract_Drop_L1_s (v : (List Str)) (t10 : (List tPred)) (t11 : Int) (m : (List tPred)) (o : (List tPred)) : PSt := stt 29 [(4, .bptr 2 0), (5, sl c_tPred o)] [.dead, .dead, .cells [.int .i64 0, .str ([] : Str), .int .i64 0, sl c_tPred m] [(3, 31)]] [((5, 0), 31)]
noncomputable def abstract_Drop_L1_b (v : (List Str)) (t10 : (List tPred)) (t11 : Int) (kept : (List tPred)) (t12 : Int) : Option (((List tPred) × Int) ⊕ (((List tPred)))) :=
  if (decide (t12 < t11)) = true then
    (idx t10 t12).bind fun x3 =>
    (pred_Apps x3).bind fun r4 =>
    (slices_ContainsFunc r4 v).bind fun r5 =>
    if (!r5) = true then
      (app kept ([x3] : List tPred)).bind fun l7 =>
      some (.inl (l7, w64 (t12 + 1)))
    else
      some (.inl (kept, w64 (t12 + 1)))
  else
    some (.inr kept)
noncomputable def abstract_Drop_L1 (v : (List Str)) (t10 : (List tPred)) (t11 : Int) (kept : (List tPred)) (t12 : Int) : Option (((List tPred))) := loop (fun (zz : (List tPred) × Int) => abstract_Drop_L1_b v t10 t11 zz.1 zz.2) (kept, t12)
theorem abstract_Drop_L1_bok (v : (List Str)) (kept : (List tPred)) (t10 : (List tPred)) (t11 : Int) (t12 : Int) (m : (List tPred)) {y : ((List tPred) × Int) ⊕ (((List tPred)))} (h : abstract_Drop_L1_b v t10 t11 kept t12 = some y) :
    Sat Pg GE 0 (cA b25 119) (LQ (fun (zz : (List tPred) × Int) => abstract_Drop_L1_S v zz.1 t10 t11 zz.2 m) (fun _ => .exit 0) (abstract_Drop_L1_s v t10 t11 m) y) (abstract_Drop_L1_S v kept t10 t11 t12 m) := by
  rcases ifs h with ⟨c2, h⟩ | ⟨c2, h⟩
  · obtain ⟨x3, bx3, h⟩ := bnd h
    obtain ⟨r4, br4, h⟩ := bnd h
    obtain ⟨r5, br5, h⟩ := bnd h
    rcases ifs h with ⟨c6, h⟩ | ⟨c6, h⟩
    · obtain ⟨l7, bl7, h⟩ := bnd h
      obtain rfl := lf h
      have z := sg 0 c2 <| sv (sT29.ia (k := .i64) bx3) <| sv (lk_tPred x3) <| sx pz31 <| sx (pcx_tPred x3) <| sv (lkx_tPred x3 []) <| sca (pred_Apps_ok br4) <| sca (slices_ContainsFunc_ok br5) <| sg 0 c6 <| sv (lkx_tPred x3 []) <| sv (sT29.mk' (v := v_tPred) pcA_tPred ([x3] : List tPred) 1 (by kernel_rfl)) <| sv (sT29.ap bl7) <| eFx 0 .normal (abstract_Drop_L1_S v l7 t10 t11 (w64 (t12 + 1)) m) rfl (cl_tm (aI (clL_up (clLs clS v)) (aI (lt_of rfl) (aI (up (cl_sl cl_tPred l7)) (aI (up (cl_sl cl_tPred t10)) (aI trivial (aI trivial trivial))))))) (aI trivial (aI trivial (aI (aI trivial (aI trivial (aI trivial (aI (up (cl_sl cl_tPred m)) trivial)))) trivial)))
      exact nextxp (A := A25) mixed z (by kernel_rfl)
    · obtain rfl := lf h
      have z := sg 0 c2 <| sv (sT29.ia (k := .i64) bx3) <| sv (lk_tPred x3) <| sx pz31 <| sx (pcx_tPred x3) <| sv (lkx_tPred x3 []) <| sca (pred_Apps_ok br4) <| sca (slices_ContainsFunc_ok br5) <| sg 0 c6 <| eFx 0 .normal (abstract_Drop_L1_S v kept t10 t11 (w64 (t12 + 1)) m) rfl (cl_tm (aI (clL_up (clLs clS v)) (aI (lt_of rfl) (aI (up (cl_sl cl_tPred kept)) (aI (up (cl_sl cl_tPred t10)) (aI trivial (aI trivial trivial))))))) (aI trivial (aI trivial (aI (aI trivial (aI trivial (aI trivial (aI (up (cl_sl cl_tPred m)) trivial)))) trivial)))
      exact nextxp (A := A25) mixed z (by kernel_rfl)
  · obtain rfl := lf h
    have z := sg 0 c2 <| eF (.exit 0) (abstract_Drop_L1_s v t10 t11 m kept)
    exact overp (A := A25) mixed (by intro hx; cases hx) z (by kernel_rfl)
theorem abstract_Drop_L1_ok (v : (List Str)) (kept : (List tPred)) (t10 : (List tPred)) (t11 : Int) (t12 : Int) (m : (List tPred)) {x : ((List tPred))} (h : abstract_Drop_L1 v t10 t11 kept t12 = some x) :
    Sat Pg GE 0 (.loop (cA b25 119)) (EX (.exit 0) (abstract_Drop_L1_s v t10 t11 m x)) (abstract_Drop_L1_S v kept t10 t11 t12 m) :=
  Sat.loop (S := fun (zz : (List tPred) × Int) => abstract_Drop_L1_S v zz.1 t10 t11 zz.2 m) (ex := (fun _ => .exit 0)) (s := (kept, t12)) h fun zz y hy => abstract_Drop_L1_bok v zz.1 t10 t11 zz.2 m hy
noncomputable def abstract_Drop (p : tPred) (a : (List Str)) : Option (tPred) :=
  (pred_Split p).bind fun r1 =>
  (abstract_Drop_L1 a r1 (r1.length : Int) ([] : List tPred) 0).bind fun o8 =>
  (pred_And o8).bind fun r9 =>
  some r9
theorem abstract_Drop_ok {p : tPred} {a : (List Str)} {r : tPred} (h : abstract_Drop p a = some r) : CC Pg GE 25 [.agg (c_tPred p), sl cS a] (.agg (c_tPred r)) [] := by
  obtain ⟨r1, br1, h⟩ := bnd h
  obtain ⟨o8, bo8, h⟩ := bnd h
  obtain ⟨r9, br9, h⟩ := bnd h
  obtain rfl := lf h
  have z := se (pc_tPred p) <| se (pcL cS a) <| sx pz31 <| sv (lk_tPred p) <| sca (pred_Split_ok br1) <| svn (sT29.ln r1) <| spc (abstract_Drop_L1_ok a ([] : List tPred) r1 (r1.length : Int) 0 ([] : List tPred) bo8) <| sca (pred_And_ok br9) <| sx (pcx_tPred r9) <| en (aI (rex_tPred r9) <| (cl_tPred r9))
  exact C.evp (A := A25) mixed Tryz.call25 Tryz.func25 (c := b25) rfl (aI (cl_tPred p) (aI (cl_sl clS a) trivial)) z (by kernel_rfl)
end Go.Proofs.YtgldgpdhblndkaaGreatDoor
