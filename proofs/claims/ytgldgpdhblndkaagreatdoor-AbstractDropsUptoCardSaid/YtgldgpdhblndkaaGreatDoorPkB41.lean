/-
  WHAT IS PROVED: parts of the proof, put together by a program out of smaller texts (G10; G12; G9). Conditions: none.
-/
import Derived.Test.YtgldgpdhblndkaaGreatDoorPkB40
namespace Go.Proofs.YtgldgpdhblndkaaGreatDoor
open Go
set_option linter.unusedVariables false
set_option maxRecDepth 100000
noncomputable def b3 : Code := Tryz.f3.body.getD .skip
abbrev T_R07_Nodes := (tPred → Option (Int))
abbrev H_R07_Nodes (R : T_R07_Nodes) : Prop := ∀ (p : tPred) (r : Int), R p = some r → CC Pg GE 21 [.agg (c_tPred p)] (.int .i64 r) []
noncomputable def b21 : Code := Tryz.f21.body.getD .skip
def A21 : List Nat := [18]
noncomputable def R07_Nodes_L1_S (n : Int) (t7 : (List tPred)) (t8 : Int) (t9 : Int) : PSt := stt 19 [(3, .int .i64 n), (7, sl c_tPred t7), (8, .int .i64 t8), (9, .int .i64 t9)] [.dead] []
noncomputable def R07_Nodes_L1_s (t7 : (List tPred)) (t8 : Int) (o : Int) : PSt := stt 19 [(3, .int .i64 o)] [.dead] []
noncomputable def R07_Nodes_L1_b (R85 : T_R07_Nodes) (t7 : (List tPred)) (t8 : Int) (n : Int) (t9 : Int) : Option ((Int × Int) ⊕ ((Int))) :=
  if (decide (t9 < t8)) = true then
    (idx t7 t9).bind fun x2 =>
    (R85 x2).bind fun r3 =>
    some (.inl (w64 (n + r3), w64 (t9 + 1)))
  else
    some (.inr n)
noncomputable def R07_Nodes_L1 (R85 : T_R07_Nodes) (t7 : (List tPred)) (t8 : Int) (n : Int) (t9 : Int) : Option ((Int)) := loop (fun (zz : Int × Int) => R07_Nodes_L1_b R85 t7 t8 zz.1 zz.2) (n, t9)
theorem R07_Nodes_L1_bok (R85 : T_R07_Nodes) (hR85 : H_R07_Nodes R85) (n : Int) (t7 : (List tPred)) (t8 : Int) (t9 : Int) {y : (Int × Int) ⊕ ((Int))} (h : R07_Nodes_L1_b R85 t7 t8 n t9 = some y) :
    Sat Pg GE 0 (cA b21 119) (LQ (fun (zz : Int × Int) => R07_Nodes_L1_S zz.1 t7 t8 zz.2) (fun _ => .exit 0) (R07_Nodes_L1_s t7 t8) y) (R07_Nodes_L1_S n t7 t8 t9) := by
  rcases ifs h with ⟨c1, h⟩ | ⟨c1, h⟩
  · obtain ⟨x2, bx2, h⟩ := bnd h
    obtain ⟨r3, br3, h⟩ := bnd h
    obtain rfl := lf h
    have z := sg 0 c1 <| sv (sT29.ia (k := .i64) bx2) <| sv (lk_tPred x2) <| sx pz31 <| sx (pcx_tPred x2) <| sv (lkx_tPred x2 []) <| sca (hR85 _ _ br3) <| eFx 0 .normal (R07_Nodes_L1_S (w64 (n + r3)) t7 t8 (w64 (t9 + 1))) rfl (cl_tm (aI trivial (aI (up (cl_sl cl_tPred t7)) (aI trivial (aI trivial trivial))))) (aI trivial trivial)
    exact nextxp (A := A21) mixed z (by kernel_rfl)
  · obtain rfl := lf h
    have z := sg 0 c1 <| eF (.exit 0) (R07_Nodes_L1_s t7 t8 n)
    exact overp (A := A21) mixed (by intro hx; cases hx) z (by kernel_rfl)
theorem R07_Nodes_L1_ok (R85 : T_R07_Nodes) (hR85 : H_R07_Nodes R85) (n : Int) (t7 : (List tPred)) (t8 : Int) (t9 : Int) {x : (Int)} (h : R07_Nodes_L1 R85 t7 t8 n t9 = some x) :
    Sat Pg GE 0 (.loop (cA b21 119)) (EX (.exit 0) (R07_Nodes_L1_s t7 t8 x)) (R07_Nodes_L1_S n t7 t8 t9) :=
  Sat.loop (S := fun (zz : Int × Int) => R07_Nodes_L1_S zz.1 t7 t8 zz.2) (ex := (fun _ => .exit 0)) (s := (n, t9)) h fun zz y hy => R07_Nodes_L1_bok R85 hR85 zz.1 t7 t8 zz.2 hy
noncomputable def R07_Nodes_B (R85 : T_R07_Nodes) (p : tPred) : Option (Int) :=
  (R07_Nodes_L1 R85 p.Kids (p.Kids.length : Int) 1 0).bind fun o4 =>
  some o4
theorem R07_Nodes_Bok (R85 : T_R07_Nodes) (hR85 : H_R07_Nodes R85) {p : tPred} {r : Int} (h : R07_Nodes_B R85 p = some r) : CC Pg GE 21 [.agg (c_tPred p)] (.int .i64 r) [] := by
  obtain ⟨o4, bo4, h⟩ := bnd h
  obtain rfl := lf h
  have z := se (pc_tPred p) <| sv (fa_tPred_31_3 p) <| sv (lf_tPred_3_29 p) <| svn (sT29.ln p.Kids) <| spc (R07_Nodes_L1_ok R85 hR85 1 p.Kids (p.Kids.length : Int) 0 bo4) <| en (aI (rP (.int .i64 o4)) <| trivial)
  exact C.evp (A := A21) mixed Tryz.call21 Tryz.func21 (c := b21) rfl (aI (cl_tPred p) trivial) z (by kernel_rfl)
noncomputable def R07_Nodes_F : ((tPred) → Option (Int)) → (tPred) → Option (Int) := fun (rec : tPred → Option (Int)) (x : tPred) => R07_Nodes_B (fun p => rec p) x
noncomputable def R07_Nodes (p : tPred) : Option (Int) := fixE (R07_Nodes_F) p
theorem R07_Nodes_ok {p : tPred} {r : Int} (h : R07_Nodes p = some r) : CC Pg GE 21 [.agg (c_tPred p)] (.int .i64 r) [] :=
  fixE_ind (F := R07_Nodes_F) (M := fun (x : tPred) (r : Int) => CC Pg GE 21 [.agg (c_tPred x)] (.int .i64 r) []) (fun rec hrec x r h => R07_Nodes_Bok _ (fun p r h => hrec p r h) h) h
end Go.Proofs.YtgldgpdhblndkaaGreatDoor
namespace Go.Proofs.YtgldgpdhblndkaaGreatDoor
open Go
set_option linter.unusedVariables false
set_option maxRecDepth 100000
noncomputable def b28 : Code := Tryz.f28.body.getD .skip
def A28 : List Nat := [10, 17]
noncomputable def R04_Find_L1_S (v : (List Str)) (s : Str) (t7 : Int) (t8 : Int) : PSt := stt 19 [(0, sl cS v), (1, .str s), (7, .int .i64 t7), (8, .int .i64 t8)] [] []
noncomputable def R04_Find_L1_e (o : (Int) ⊕ (Unit)) : Exit := match o with
  | (.inl _) => .ret
  | (.inr _) => .exit 0
noncomputable def R04_Find_L1_s (v : (List Str)) (s : Str) (t7 : Int) (o : (Int) ⊕ (Unit)) : PSt := match o with
  | (.inl o) => stt 19 [(4, .int .i64 o)] [] []
  | (.inr o) => stt 19 [] [] []
noncomputable def R04_Find_L1_b (v : (List Str)) (s : Str) (t7 : Int) (t8 : Int) : Option ((Int) ⊕ ((Int) ⊕ (Unit))) :=
  if (decide (t8 < t7)) = true then
    (idx v t8).bind fun x2 =>
    if (x2 == s) = true then
      some (.inr (.inl t8))
    else
      some (.inl (w64 (t8 + 1)))
  else
    some (.inr (.inr ()))
noncomputable def R04_Find_L1 (v : (List Str)) (s : Str) (t7 : Int) (t8 : Int) : Option ((Int) ⊕ (Unit)) := loop (fun (zz : Int) => R04_Find_L1_b v s t7 zz) t8
theorem R04_Find_L1_bok (v : (List Str)) (s : Str) (t7 : Int) (t8 : Int) {y : (Int) ⊕ ((Int) ⊕ (Unit))} (h : R04_Find_L1_b v s t7 t8 = some y) :
    Sat Pg GE 0 (cA b28 55) (LQ (fun (zz : Int) => R04_Find_L1_S v s t7 zz) R04_Find_L1_e (R04_Find_L1_s v s t7) y) (R04_Find_L1_S v s t7 t8) := by
  rcases ifs h with ⟨c1, h⟩ | ⟨c1, h⟩
  · obtain ⟨x2, bx2, h⟩ := bnd h
    rcases ifs h with ⟨c3, h⟩ | ⟨c3, h⟩
    · obtain rfl := lf h
      have z := sg 0 c1 <| sv (sT22.ia (k := .i64) bx2) <| sv (plook1 sc9 (.str x2) []) <| sg 0 c3 <| eF (R04_Find_L1_e (.inl t8)) (R04_Find_L1_s v s t7 (.inl t8))
      exact overp (A := A28) mixed (by intro hx; cases hx) z (by kernel_rfl)
    · obtain rfl := lf h
      have z := sg 0 c1 <| sv (sT22.ia (k := .i64) bx2) <| sv (plook1 sc9 (.str x2) []) <| sg 0 c3 <| eF .normal (R04_Find_L1_S v s t7 (w64 (t8 + 1)))
      exact nextp (A := A28) mixed z (by kernel_rfl)
  · obtain rfl := lf h
    have z := sg 0 c1 <| eF (R04_Find_L1_e (.inr ())) (R04_Find_L1_s v s t7 (.inr ()))
    exact overp (A := A28) mixed (by intro hx; cases hx) z (by kernel_rfl)
theorem R04_Find_L1_ok (v : (List Str)) (s : Str) (t7 : Int) (t8 : Int) {x : (Int) ⊕ (Unit)} (h : R04_Find_L1 v s t7 t8 = some x) :
    Sat Pg GE 0 (.loop (cA b28 55)) (EX (R04_Find_L1_e x) (R04_Find_L1_s v s t7 x)) (R04_Find_L1_S v s t7 t8) :=
  Sat.loop (S := fun (zz : Int) => R04_Find_L1_S v s t7 zz) (ex := R04_Find_L1_e) (s := t8) h fun zz y hy => R04_Find_L1_bok v s t7 zz hy
noncomputable def R04_Find (a : (List Str)) (s : Str) : Option (Int) :=
  (R04_Find_L1 a s (a.length : Int) 0).bind fun o4 => match o4 with
  | (.inl o4) =>
    some o4
  | (.inr o4) =>
    some (-1)
theorem R04_Find_ok {a : (List Str)} {s : Str} {r : Int} (h : R04_Find a s = some r) : CC Pg GE 28 [sl cS a, .str s] (.int .i64 r) [] := by
  obtain ⟨o4, bo4, h⟩ := bnd h
  rcases o4 with o4 | o4
  · obtain rfl := lf h
    have z := svn (sT22.ln a) <| spc (e := .ret) (s1 := R04_Find_L1_s a s (a.length : Int) (.inl o4)) (R04_Find_L1_ok a s (a.length : Int) 0 bo4) <| en (aI (rP (.int .i64 o4)) <| trivial)
    exact C.evp (A := A28) mixed Tryz.call28 Tryz.func28 (c := b28) rfl (aI (cl_sl clS a) (aI trivial trivial)) z (by kernel_rfl)
  · obtain rfl := lf h
    have z := svn (sT22.ln a) <| spc (e := .exit 0) (s1 := R04_Find_L1_s a s (a.length : Int) (.inr o4)) (R04_Find_L1_ok a s (a.length : Int) 0 bo4) <| en (aI (rP (.int .i64 (-1))) <| trivial)
    exact C.evp (A := A28) mixed Tryz.call28 Tryz.func28 (c := b28) rfl (aI (cl_sl clS a) (aI trivial trivial)) z (by kernel_rfl)
end Go.Proofs.YtgldgpdhblndkaaGreatDoor
namespace Go.Proofs.YtgldgpdhblndkaaGreatDoor
open Go
set_option linter.unusedVariables false
set_option maxRecDepth 100000
abbrev T_R07_Split := (tPred → Option ((List tPred)))
abbrev H_R07_Split (R : T_R07_Split) : Prop := ∀ (p : tPred) (r : (List tPred)), R p = some r → CC Pg GE 74 [.agg (c_tPred p)] (sl c_tPred r) [(0, 31)]
noncomputable def b74 : Code := Tryz.f74.body.getD .skip
def A74 : List Nat := [13, 20, 27]
noncomputable def R07_Split_J1_S (p : tPred) : PSt := stt 32 [(1, .eptr (c_tPred p))] [.dead] []
noncomputable def R07_Split_J1_s (p : tPred) (o : Bool) : PSt := stt 32 [(1, .eptr (c_tPred p)), (12, .bool o)] [.dead] []
noncomputable def R07_Split_J1 (R101 : T_R07_Split) (p : tPred) : Option ((Bool)) :=
  if (p.Op == 15) = true then
    some ((p.Kids.length : Int) == 2)
  else
    some false
theorem R07_Split_J1_ok (R101 : T_R07_Split) (hR101 : H_R07_Split R101) (p : tPred) {x : (Bool)} (h : R07_Split_J1 R101 p = some x) :
    Sat Pg GE 0 (cA b74 12) (EX .normal (R07_Split_J1_s p x)) (R07_Split_J1_S p) := by
  rcases ifs h with ⟨c1, h⟩ | ⟨c1, h⟩
  · obtain rfl := lf h
    have z := sv (fa_tPred_31_0 p) <| sv (lf_tPred_0_28 p) <| sg 4 c1 <| sv (fa_tPred_31_3 p) <| sv (lf_tPred_3_29 p) <| svn (sT29.ln p.Kids) <| eF .normal (R07_Split_J1_s p ((p.Kids.length : Int) == 2))
    exact piecep (A := A74) mixed z (by kernel_rfl)
  · obtain rfl := lf h
    have z := sv (fa_tPred_31_0 p) <| sv (lf_tPred_0_28 p) <| sg 4 c1 <| eF .normal (R07_Split_J1_s p false)
    exact piecep (A := A74) mixed z (by kernel_rfl)
noncomputable def R07_Split_B (R101 : T_R07_Split) (p : tPred) : Option ((List tPred)) :=
  (R07_Split_J1 R101 p).bind fun o2 =>
  if o2 = true then
    (idx p.Kids 0).bind fun x4 =>
    (R101 x4).bind fun r5 =>
    (app ([] : List tPred) r5).bind fun l6 =>
    (idx p.Kids 1).bind fun x7 =>
    (R101 x7).bind fun r8 =>
    (app l6 r8).bind fun l9 =>
    some l9
  else
    (R07_Void p).bind fun r10 =>
    if r10 = true then
      some ([] : List tPred)
    else
      some ([p] : List tPred)
theorem R07_Split_Bok (R101 : T_R07_Split) (hR101 : H_R07_Split R101) {p : tPred} {r : (List tPred)} (h : R07_Split_B R101 p = some r) : CC Pg GE 74 [.agg (c_tPred p)] (sl c_tPred r) [(0, 31)] := by
  obtain ⟨o2, bo2, h⟩ := bnd h
  rcases ifs h with ⟨c3, h⟩ | ⟨c3, h⟩
  · obtain ⟨x4, bx4, h⟩ := bnd h
    obtain ⟨r5, br5, h⟩ := bnd h
    obtain ⟨l6, bl6, h⟩ := bnd h
    obtain ⟨x7, bx7, h⟩ := bnd h
    obtain ⟨r8, br8, h⟩ := bnd h
    obtain ⟨l9, bl9, h⟩ := bnd h
    obtain rfl := lf h
    have z := se (pc_tPred p) <| spa 1 <| spc (R07_Split_J1_ok R101 hR101 p bo2) <| sg 0 c3 <| sv (fa_tPred_31_3 p) <| sv (lf_tPred_3_29 p) <| sv (sT29.ia (k := .i64) bx4) <| sv (lk_tPred x4) <| sca (hR101 _ _ br5) <| sv (sT29.ap bl6) <| sv (fa_tPred_31_3 p) <| sv (lf_tPred_3_29 p) <| sv (sT29.ia (k := .i64) bx7) <| sv (lk_tPred x7) <| sca (hR101 _ _ br8) <| sv (sT29.ap bl9) <| en (aI (rP (sl c_tPred l9)) <| (cl_sl cl_tPred l9))
    exact C.evp (A := A74) mixed Tryz.call74 Tryz.func74 (c := b74) rfl (aI (cl_tPred p) trivial) z (by kernel_rfl)
  · obtain ⟨r10, br10, h⟩ := bnd h
    rcases ifs h with ⟨c11, h⟩ | ⟨c11, h⟩
    · obtain rfl := lf h
      have z := se (pc_tPred p) <| spa 1 <| spc (R07_Split_J1_ok R101 hR101 p bo2) <| sg 0 c3 <| sv (lk_tPred p) <| sca (R07_Void_ok br10) <| sg 0 c11 <| en (aI (rP (sl c_tPred ([] : List tPred))) <| (cl_sl cl_tPred ([] : List tPred)))
      exact C.evp (A := A74) mixed Tryz.call74 Tryz.func74 (c := b74) rfl (aI (cl_tPred p) trivial) z (by kernel_rfl)
    · obtain rfl := lf h
      have z := se (pc_tPred p) <| spa 1 <| spc (R07_Split_J1_ok R101 hR101 p bo2) <| sg 0 c3 <| sv (lk_tPred p) <| sca (R07_Void_ok br10) <| sg 0 c11 <| sv (lk_tPred p) <| sv (sT29.mk' (v := v_tPred) pcA_tPred ([p] : List tPred) 1 (by kernel_rfl)) <| en (aI (rP (sl c_tPred ([p] : List tPred))) <| (cl_sl cl_tPred ([p] : List tPred)))
      exact C.evp (A := A74) mixed Tryz.call74 Tryz.func74 (c := b74) rfl (aI (cl_tPred p) trivial) z (by kernel_rfl)
noncomputable def R07_Split_F : ((tPred) → Option ((List tPred))) → (tPred) → Option ((List tPred)) := fun (rec : tPred → Option ((List tPred))) (x : tPred) => R07_Split_B (fun p => rec p) x
noncomputable def R07_Split (p : tPred) : Option ((List tPred)) := fixE (R07_Split_F) p
theorem R07_Split_ok {p : tPred} {r : (List tPred)} (h : R07_Split p = some r) : CC Pg GE 74 [.agg (c_tPred p)] (sl c_tPred r) [(0, 31)] :=
  fixE_ind (F := R07_Split_F) (M := fun (x : tPred) (r : (List tPred)) => CC Pg GE 74 [.agg (c_tPred x)] (sl c_tPred r) [(0, 31)]) (fun rec hrec x r h => R07_Split_Bok _ (fun p r h => hrec p r h) h) h
abbrev T_R07_collect := (tPred → Int → (List tPred) → Option ((List tPred)))
abbrev H_R07_collect (R : T_R07_collect) : Prop := ∀ (p : tPred) (op : Int) (a : (List tPred)) (r : (List tPred)), R p op a = some r → C Pg GE 77 [.agg (c_tPred p), .int .i64 op, sl c_tPred a] [((2, 0), 31)] [] (sl c_tPred r) [(0, 31)] []
noncomputable def b111 : Code := Tryz.f111.body.getD .skip
def A111 : List Nat := []
noncomputable def R07_Has_L1_S (p : tPred) (t7 : (List tPred)) (t8 : Int) (t9 : Int) : PSt := stt 17 [(3, .eptr (c_tPred p)), (7, sl c_tPred t7), (8, .int .i64 t8), (9, .int .i64 t9)] [.dead] []
noncomputable def R07_Has_L1_e (o : (Unit) ⊕ (Unit)) : Exit := match o with
  | (.inl _) => .ret
  | (.inr _) => .exit 0
noncomputable def R07_Has_L1_s (p : tPred) (t7 : (List tPred)) (t8 : Int) (o : (Unit) ⊕ (Unit)) : PSt := match o with
  | (.inl o) => stt 17 [(4, .bool true)] [.dead] []
  | (.inr o) => stt 17 [] [.dead] []
noncomputable def R07_Has_L1_b (p : tPred) (t7 : (List tPred)) (t8 : Int) (t9 : Int) : Option ((Int) ⊕ ((Unit) ⊕ (Unit))) :=
  if (decide (t9 < t8)) = true then
    (idx t7 t9).bind fun x2 =>
    (R07_Same x2 p).bind fun r3 =>
    if r3 = true then
      some (.inr (.inl ()))
    else
      some (.inl (w64 (t9 + 1)))
  else
    some (.inr (.inr ()))
noncomputable def R07_Has_L1 (p : tPred) (t7 : (List tPred)) (t8 : Int) (t9 : Int) : Option ((Unit) ⊕ (Unit)) := loop (fun (zz : Int) => R07_Has_L1_b p t7 t8 zz) t9
theorem R07_Has_L1_bok (p : tPred) (t7 : (List tPred)) (t8 : Int) (t9 : Int) {y : (Int) ⊕ ((Unit) ⊕ (Unit))} (h : R07_Has_L1_b p t7 t8 t9 = some y) :
    Sat Pg GE 0 (cA b111 55) (LQ (fun (zz : Int) => R07_Has_L1_S p t7 t8 zz) R07_Has_L1_e (R07_Has_L1_s p t7 t8) y) (R07_Has_L1_S p t7 t8 t9) := by
  rcases ifs h with ⟨c1, h⟩ | ⟨c1, h⟩
  · obtain ⟨x2, bx2, h⟩ := bnd h
    obtain ⟨r3, br3, h⟩ := bnd h
    rcases ifs h with ⟨c4, h⟩ | ⟨c4, h⟩
    · obtain rfl := lf h
      have z := sg 0 c1 <| sv (sT29.ia (k := .i64) bx2) <| sv (lk_tPred x2) <| sx pz31 <| sx (pcx_tPred x2) <| sv (lkx_tPred x2 []) <| sv (lk_tPred p) <| sca (R07_Same_ok br3) <| sg 0 c4 <| eFx 0 (R07_Has_L1_e (.inl ())) (R07_Has_L1_s p t7 t8 (.inl ())) rfl (cl_tm (aI trivial trivial)) (aI trivial trivial)
      exact overxp (A := A111) mixed (by intro hx; cases hx) z (by kernel_rfl)
    · obtain rfl := lf h
      have z := sg 0 c1 <| sv (sT29.ia (k := .i64) bx2) <| sv (lk_tPred x2) <| sx pz31 <| sx (pcx_tPred x2) <| sv (lkx_tPred x2 []) <| sv (lk_tPred p) <| sca (R07_Same_ok br3) <| sg 0 c4 <| eFx 0 .normal (R07_Has_L1_S p t7 t8 (w64 (t9 + 1))) rfl (cl_tm (aI (clL_up (cl_tPred p)) (aI (up (cl_sl cl_tPred t7)) (aI trivial (aI trivial trivial))))) (aI trivial trivial)
      exact nextxp (A := A111) mixed z (by kernel_rfl)
  · obtain rfl := lf h
    have z := sg 0 c1 <| eF (R07_Has_L1_e (.inr ())) (R07_Has_L1_s p t7 t8 (.inr ()))
    exact overp (A := A111) mixed (by intro hx; cases hx) z (by kernel_rfl)
theorem R07_Has_L1_ok (p : tPred) (t7 : (List tPred)) (t8 : Int) (t9 : Int) {x : (Unit) ⊕ (Unit)} (h : R07_Has_L1 p t7 t8 t9 = some x) :
    Sat Pg GE 0 (.loop (cA b111 55)) (EX (R07_Has_L1_e x) (R07_Has_L1_s p t7 t8 x)) (R07_Has_L1_S p t7 t8 t9) :=
  Sat.loop (S := fun (zz : Int) => R07_Has_L1_S p t7 t8 zz) (ex := R07_Has_L1_e) (s := t9) h fun zz y hy => R07_Has_L1_bok p t7 t8 zz hy
noncomputable def R07_Has (a : (List tPred)) (p : tPred) : Option (Bool) :=
  (R07_Has_L1 p a (a.length : Int) 0).bind fun o5 => match o5 with
  | (.inl o5) =>
    some true
  | (.inr o5) =>
    some false
theorem R07_Has_ok {a : (List tPred)} {p : tPred} {r : Bool} (h : R07_Has a p = some r) : CC Pg GE 111 [sl c_tPred a, .agg (c_tPred p)] (.bool r) [] := by
  obtain ⟨o5, bo5, h⟩ := bnd h
  rcases o5 with o5 | o5
  · obtain rfl := lf h
    have z := se (pc_tPred p) <| svn (sT29.ln a) <| spc (e := .ret) (s1 := R07_Has_L1_s p a (a.length : Int) (.inl o5)) (R07_Has_L1_ok p a (a.length : Int) 0 bo5) <| en (aI (rP (.bool true)) <| trivial)
    exact C.evp (A := A111) mixed Tryz.call111 Tryz.func111 (c := b111) rfl (aI (cl_sl cl_tPred a) (aI (cl_tPred p) trivial)) z (by kernel_rfl)
  · obtain rfl := lf h
    have z := se (pc_tPred p) <| svn (sT29.ln a) <| spc (e := .exit 0) (s1 := R07_Has_L1_s p a (a.length : Int) (.inr o5)) (R07_Has_L1_ok p a (a.length : Int) 0 bo5) <| en (aI (rP (.bool false)) <| trivial)
    exact C.evp (A := A111) mixed Tryz.call111 Tryz.func111 (c := b111) rfl (aI (cl_sl cl_tPred a) (aI (cl_tPred p) trivial)) z (by kernel_rfl)
noncomputable def b77 : Code := Tryz.f77.body.getD .skip
def A77 : List Nat := [18, 31, 35]
noncomputable def R07_collect_L1_S (op : Int) (v : (List tPred)) (p : tPred) (t10 : (List tPred)) (t11 : Int) (t12 : Int) : PSt := stt 36 [(1, .int .i64 op), (2, sl c_tPred v), (3, .eptr (c_tPred p)), (10, sl c_tPred t10), (11, .int .i64 t11), (12, .int .i64 t12)] [.dead] [((2, 0), 31)]
noncomputable def R07_collect_L1_s (op : Int) (p : tPred) (t10 : (List tPred)) (t11 : Int) (o : (List tPred)) : PSt := stt 36 [(1, .int .i64 op), (2, sl c_tPred o), (3, .eptr (c_tPred p))] [.dead] [((2, 0), 31)]
noncomputable def R07_collect_L1_b (R104 : T_R07_collect) (op : Int) (t10 : (List tPred)) (t11 : Int) (v : (List tPred)) (t12 : Int) : Option (((List tPred) × Int) ⊕ (((List tPred)))) :=
  if (decide (t12 < t11)) = true then
    (idx t10 t12).bind fun x2 =>
    (R104 x2 op v).bind fun r3 =>
    some (.inl (r3, w64 (t12 + 1)))
  else
    some (.inr v)
noncomputable def R07_collect_L1 (R104 : T_R07_collect) (op : Int) (t10 : (List tPred)) (t11 : Int) (v : (List tPred)) (t12 : Int) : Option (((List tPred))) := loop (fun (zz : (List tPred) × Int) => R07_collect_L1_b R104 op t10 t11 zz.1 zz.2) (v, t12)
theorem R07_collect_L1_bok (R104 : T_R07_collect) (hR104 : H_R07_collect R104) (op : Int) (v : (List tPred)) (p : tPred) (t10 : (List tPred)) (t11 : Int) (t12 : Int) {y : ((List tPred) × Int) ⊕ (((List tPred)))} (h : R07_collect_L1_b R104 op t10 t11 v t12 = some y) :
    Sat Pg GE 1000 (cA b77 55) (LQ (fun (zz : (List tPred) × Int) => R07_collect_L1_S op zz.1 p t10 t11 zz.2) (fun _ => .exit 0) (R07_collect_L1_s op p t10 t11) y) (R07_collect_L1_S op v p t10 t11 t12) := by
  rcases ifs h with ⟨c1, h⟩ | ⟨c1, h⟩
  · obtain ⟨x2, bx2, h⟩ := bnd h
    obtain ⟨r3, br3, h⟩ := bnd h
    obtain rfl := lf h
    have z := sg 0 c1 <| sv (sT29.ia (k := .i64) bx2) <| sv (lk_tPred x2) <| sx pz31 <| sx (pcx_tPred x2) <| sv (lkx_tPred x2 []) <| si (.cg ⟨[], [.agg (c_tPred x2), .int .i64 op, sl c_tPred v], [⟨2, 18, 0, 31⟩], [], [], [], [], sl c_tPred r3, sl c_tPred r3, [(0, 31)]⟩) (hR104 _ _ _ _ br3) <| sf (aI (xR [] (.agg (c_tPred x2)) (cl_tPred x2)) (aI (xR [] (.int .i64 op) trivial) (aI (xR [] (sl c_tPred v) (cl_sl cl_tPred v)) trivial))) <| sf trivial <| sf trivial <| sf (xR [] (sl c_tPred r3) (cl_sl cl_tPred r3)) <| eFx 1000 .normal (R07_collect_L1_S op r3 p t10 t11 (w64 (t12 + 1))) rfl (cl_tm (aI trivial (aI (up (cl_sl cl_tPred r3)) (aI (clL_up (cl_tPred p)) (aI (up (cl_sl cl_tPred t10)) (aI trivial (aI trivial trivial))))))) (aI trivial trivial)
    exact nextxp (A := A77) mixed z (by kernel_rfl)
  · obtain rfl := lf h
    have z := sg 0 c1 <| eF (.exit 0) (R07_collect_L1_s op p t10 t11 v)
    exact overp (A := A77) mixed (by intro hx; cases hx) z (by kernel_rfl)
theorem R07_collect_L1_ok (R104 : T_R07_collect) (hR104 : H_R07_collect R104) (op : Int) (v : (List tPred)) (p : tPred) (t10 : (List tPred)) (t11 : Int) (t12 : Int) {x : ((List tPred))} (h : R07_collect_L1 R104 op t10 t11 v t12 = some x) :
    Sat Pg GE 1000 (.loop (cA b77 55)) (EX (.exit 0) (R07_collect_L1_s op p t10 t11 x)) (R07_collect_L1_S op v p t10 t11 t12) :=
  Sat.loop (S := fun (zz : (List tPred) × Int) => R07_collect_L1_S op zz.1 p t10 t11 zz.2) (ex := (fun _ => .exit 0)) (s := (v, t12)) h fun zz y hy => R07_collect_L1_bok R104 hR104 op zz.1 p t10 t11 zz.2 hy
noncomputable def R07_collect_J2_S (op : Int) (v : (List tPred)) (p : tPred) : PSt := stt 36 [(1, .int .i64 op), (2, sl c_tPred v), (3, .eptr (c_tPred p))] [.dead] [((2, 0), 31)]
noncomputable def R07_collect_J2_s (op : Int) (v : (List tPred)) (p : tPred) (o : Bool) : PSt := stt 36 [(2, sl c_tPred v), (3, .eptr (c_tPred p)), (30, .bool o)] [.dead] [((2, 0), 31)]
noncomputable def R07_collect_J2 (R104 : T_R07_collect) (op : Int) (v : (List tPred)) (p : tPred) : Option ((Bool)) :=
  if (p.Op == op) = true then
    (R07_Has v p).bind fun r6 =>
    some (!r6)
  else
    some false
theorem R07_collect_J2_ok (R104 : T_R07_collect) (hR104 : H_R07_collect R104) (op : Int) (v : (List tPred)) (p : tPred) {x : (Bool)} (h : R07_collect_J2 R104 op v p = some x) :
    Sat Pg GE 1000 (cA b77 28) (EX .normal (R07_collect_J2_s op v p x)) (R07_collect_J2_S op v p) := by
  rcases ifs h with ⟨c5, h⟩ | ⟨c5, h⟩
  · obtain ⟨r6, br6, h⟩ := bnd h
    obtain rfl := lf h
    have z := sv (fa_tPred_31_0 p) <| sv (lf_tPred_0_28 p) <| sg 5 c5 <| sv (lk_tPred p) <| sca (R07_Has_ok br6) <| eF .normal (R07_collect_J2_s op v p (!r6))
    exact piecep (A := A77) mixed z (by kernel_rfl)
  · obtain rfl := lf h
    have z := sv (fa_tPred_31_0 p) <| sv (lf_tPred_0_28 p) <| sg 5 c5 <| eF .normal (R07_collect_J2_s op v p false)
    exact piecep (A := A77) mixed z (by kernel_rfl)
noncomputable def R07_collect_B (R104 : T_R07_collect) (p : tPred) (op : Int) (a : (List tPred)) : Option ((List tPred)) :=
  (R07_collect_L1 R104 op p.Kids (p.Kids.length : Int) a 0).bind fun o4 =>
  (R07_collect_J2 R104 op o4 p).bind fun o7 =>
  if o7 = true then
    (app o4 ([p] : List tPred)).bind fun l9 =>
    some l9
  else
    some o4
theorem R07_collect_Bok (R104 : T_R07_collect) (hR104 : H_R07_collect R104) {p : tPred} {op : Int} {a : (List tPred)} {r : (List tPred)} (h : R07_collect_B R104 p op a = some r) : C Pg GE 77 [.agg (c_tPred p), .int .i64 op, sl c_tPred a] [((2, 0), 31)] [] (sl c_tPred r) [(0, 31)] [] := by
  obtain ⟨o4, bo4, h⟩ := bnd h
  obtain ⟨o7, bo7, h⟩ := bnd h
  rcases ifs h with ⟨c8, h⟩ | ⟨c8, h⟩
  · obtain ⟨l9, bl9, h⟩ := bnd h
    obtain rfl := lf h
    have z := se (pc_tPred p) <| sv (fa_tPred_31_3 p) <| sv (lf_tPred_3_29 p) <| svn (sT29.ln p.Kids) <| spc (R07_collect_L1_ok R104 hR104 op a p p.Kids (p.Kids.length : Int) 0 bo4) <| spa 1 <| spc (R07_collect_J2_ok R104 hR104 op o4 p bo7) <| sg 0 c8 <| sv (lk_tPred p) <| sv (sT29.mk' (v := v_tPred) pcA_tPred ([p] : List tPred) 1 (by kernel_rfl)) <| sv (sT29.ap bl9) <| en (aI (rP (sl c_tPred l9)) <| aI (up (n := 0) (cl_sl cl_tPred l9)) <| aI (rL []) <| trivial)
    exact C.evGp (A := A77) mixed (m := 1000) (c := b77) rfl Tryz.call77 Tryz.func77 rfl z (by kernel_rfl)
  · obtain rfl := lf h
    have z := se (pc_tPred p) <| sv (fa_tPred_31_3 p) <| sv (lf_tPred_3_29 p) <| svn (sT29.ln p.Kids) <| spc (R07_collect_L1_ok R104 hR104 op a p p.Kids (p.Kids.length : Int) 0 bo4) <| spa 1 <| spc (R07_collect_J2_ok R104 hR104 op o4 p bo7) <| sg 0 c8 <| en (aI (rP (sl c_tPred o4)) <| aI (up (n := 0) (cl_sl cl_tPred o4)) <| aI (rL []) <| trivial)
    exact C.evGp (A := A77) mixed (m := 1000) (c := b77) rfl Tryz.call77 Tryz.func77 rfl z (by kernel_rfl)
noncomputable def R07_collect_F : ((tPred × Int × (List tPred)) → Option ((List tPred))) → (tPred × Int × (List tPred)) → Option ((List tPred)) := fun (rec : (tPred × Int × (List tPred)) → Option ((List tPred))) (x : tPred × Int × (List tPred)) => R07_collect_B (fun p op a => rec (p, op, a)) x.1 x.2.1 x.2.2
noncomputable def R07_collect (p : tPred) (op : Int) (a : (List tPred)) : Option ((List tPred)) := fixE (R07_collect_F) (p, op, a)
theorem R07_collect_ok {p : tPred} {op : Int} {a : (List tPred)} {r : (List tPred)} (h : R07_collect p op a = some r) : C Pg GE 77 [.agg (c_tPred p), .int .i64 op, sl c_tPred a] [((2, 0), 31)] [] (sl c_tPred r) [(0, 31)] [] :=
  fixE_ind (F := R07_collect_F) (M := fun (x : tPred × Int × (List tPred)) (r : (List tPred)) => C Pg GE 77 [.agg (c_tPred x.1), .int .i64 x.2.1, sl c_tPred x.2.2] [((2, 0), 31)] [] (sl c_tPred r) [(0, 31)] []) (fun rec hrec x r h => R07_collect_Bok _ (fun p op a r h => hrec (p, op, a) r h) h) h
noncomputable def b27 : Code := Tryz.f27.body.getD .skip
def A27 : List Nat := []
noncomputable def R07_Apps (p : tPred) : Option ((List tPred)) :=
  (R07_collect p 4 ([] : List tPred)).bind fun r1 =>
  some r1
theorem R07_Apps_ok {p : tPred} {r : (List tPred)} (h : R07_Apps p = some r) : CC Pg GE 27 [.agg (c_tPred p)] (sl c_tPred r) [(0, 31)] := by
  obtain ⟨r1, br1, h⟩ := bnd h
  obtain rfl := lf h
  have z := se (pc_tPred p) <| sv (lk_tPred p) <| si (.cg ⟨[], [.agg (c_tPred p), .int .i64 4, sl c_tPred ([] : List tPred)], [⟨2, 1000000, 0, 31⟩], [], [], [], [], sl c_tPred r1, sl c_tPred r1, [(0, 31)]⟩) (R07_collect_ok br1) <| sf (aI (xR [] (.agg (c_tPred p)) (cl_tPred p)) (aI (xR [] (.int .i64 4) trivial) (aI (xR [] (sl c_tPred ([] : List tPred)) (cl_sl cl_tPred ([] : List tPred))) trivial))) <| sf trivial <| sf trivial <| sf (xR [] (sl c_tPred r1) (cl_sl cl_tPred r1)) <| en (aI (rP (sl c_tPred r1)) <| (cl_sl cl_tPred r1))
  exact C.evp (A := A27) mixed Tryz.call27 Tryz.func27 (c := b27) rfl (aI (cl_tPred p) trivial) z (by kernel_rfl)
noncomputable def b75 : Code := Tryz.f75.body.getD .skip
def A75 : List Nat := []
noncomputable def R35_applies_L1_S (names : (List Str)) (t8 : (List tPred)) (t9 : Int) (t10 : Int) : PSt := stt 20 [(1, sl cS names), (8, sl c_tPred t8), (9, .int .i64 t9), (10, .int .i64 t10)] [.dead] [((8, 0), 31)]
noncomputable def R35_applies_L1_e (o : (Unit) ⊕ (Unit)) : Exit := match o with
  | (.inl _) => .ret
  | (.inr _) => .exit 0
noncomputable def R35_applies_L1_s (names : (List Str)) (t8 : (List tPred)) (t9 : Int) (o : (Unit) ⊕ (Unit)) : PSt := match o with
  | (.inl o) => stt 20 [(4, .bool true)] [.dead] []
  | (.inr o) => stt 20 [] [.dead] []
noncomputable def R35_applies_L1_b (names : (List Str)) (t8 : (List tPred)) (t9 : Int) (t10 : Int) : Option ((Int) ⊕ ((Unit) ⊕ (Unit))) :=
  if (decide (t10 < t9)) = true then
    (idx t8 t10).bind fun x3 =>
    (R04_Find names x3.Name).bind fun r4 =>
    if (decide (r4 ≥ 0)) = true then
      some (.inr (.inl ()))
    else
      some (.inl (w64 (t10 + 1)))
  else
    some (.inr (.inr ()))
noncomputable def R35_applies_L1 (names : (List Str)) (t8 : (List tPred)) (t9 : Int) (t10 : Int) : Option ((Unit) ⊕ (Unit)) := loop (fun (zz : Int) => R35_applies_L1_b names t8 t9 zz) t10
theorem R35_applies_L1_bok (names : (List Str)) (t8 : (List tPred)) (t9 : Int) (t10 : Int) {y : (Int) ⊕ ((Unit) ⊕ (Unit))} (h : R35_applies_L1_b names t8 t9 t10 = some y) :
    Sat Pg GE 0 (cA b75 55) (LQ (fun (zz : Int) => R35_applies_L1_S names t8 t9 zz) R35_applies_L1_e (R35_applies_L1_s names t8 t9) y) (R35_applies_L1_S names t8 t9 t10) := by
  rcases ifs h with ⟨c2, h⟩ | ⟨c2, h⟩
  · obtain ⟨x3, bx3, h⟩ := bnd h
    obtain ⟨r4, br4, h⟩ := bnd h
    rcases ifs h with ⟨c5, h⟩ | ⟨c5, h⟩
    · obtain rfl := lf h
      have z := sg 0 c2 <| sv (sT29.ia (k := .i64) bx3) <| sv (lk_tPred x3) <| sx pz31 <| sx (pcx_tPred x3) <| ss <| sca (R04_Find_ok br4) <| sg 0 c5 <| eFx 0 (R35_applies_L1_e (.inl ())) (R35_applies_L1_s names t8 t9 (.inl ())) rfl (cl_tm (aI trivial trivial)) (aI trivial trivial)
      exact overxp (A := A75) mixed (by intro hx; cases hx) z (by kernel_rfl)
    · obtain rfl := lf h
      have z := sg 0 c2 <| sv (sT29.ia (k := .i64) bx3) <| sv (lk_tPred x3) <| sx pz31 <| sx (pcx_tPred x3) <| ss <| sca (R04_Find_ok br4) <| sg 0 c5 <| eFx 0 .normal (R35_applies_L1_S names t8 t9 (w64 (t10 + 1))) rfl (cl_tm (aI (up (cl_sl clS names)) (aI (up (cl_sl cl_tPred t8)) (aI trivial (aI trivial trivial))))) (aI trivial trivial)
      exact nextxp (A := A75) mixed z (by kernel_rfl)
  · obtain rfl := lf h
    have z := sg 0 c2 <| eF (R35_applies_L1_e (.inr ())) (R35_applies_L1_s names t8 t9 (.inr ()))
    exact overp (A := A75) mixed (by intro hx; cases hx) z (by kernel_rfl)
theorem R35_applies_L1_ok (names : (List Str)) (t8 : (List tPred)) (t9 : Int) (t10 : Int) {x : (Unit) ⊕ (Unit)} (h : R35_applies_L1 names t8 t9 t10 = some x) :
    Sat Pg GE 0 (.loop (cA b75 55)) (EX (R35_applies_L1_e x) (R35_applies_L1_s names t8 t9 x)) (R35_applies_L1_S names t8 t9 t10) :=
  Sat.loop (S := fun (zz : Int) => R35_applies_L1_S names t8 t9 zz) (ex := R35_applies_L1_e) (s := t10) h fun zz y hy => R35_applies_L1_bok names t8 t9 zz hy
noncomputable def R35_applies (p : tPred) (names : (List Str)) : Option (Bool) :=
  (R07_Apps p).bind fun r1 =>
  (R35_applies_L1 names r1 (r1.length : Int) 0).bind fun o6 => match o6 with
  | (.inl o6) =>
    some true
  | (.inr o6) =>
    some false
theorem R35_applies_ok {p : tPred} {names : (List Str)} {r : Bool} (h : R35_applies p names = some r) : CC Pg GE 75 [.agg (c_tPred p), sl cS names] (.bool r) [] := by
  obtain ⟨r1, br1, h⟩ := bnd h
  obtain ⟨o6, bo6, h⟩ := bnd h
  rcases o6 with o6 | o6
  · obtain rfl := lf h
    have z := se (pc_tPred p) <| sv (lk_tPred p) <| sca (R07_Apps_ok br1) <| svn (sT29.ln r1) <| spc (e := .ret) (s1 := R35_applies_L1_s names r1 (r1.length : Int) (.inl o6)) (R35_applies_L1_ok names r1 (r1.length : Int) 0 bo6) <| en (aI (rP (.bool true)) <| trivial)
    exact C.evp (A := A75) mixed Tryz.call75 Tryz.func75 (c := b75) rfl (aI (cl_tPred p) (aI (cl_sl clS names) trivial)) z (by kernel_rfl)
  · obtain rfl := lf h
    have z := se (pc_tPred p) <| sv (lk_tPred p) <| sca (R07_Apps_ok br1) <| svn (sT29.ln r1) <| spc (e := .exit 0) (s1 := R35_applies_L1_s names r1 (r1.length : Int) (.inr o6)) (R35_applies_L1_ok names r1 (r1.length : Int) 0 bo6) <| en (aI (rP (.bool false)) <| trivial)
    exact C.evp (A := A75) mixed Tryz.call75 Tryz.func75 (c := b75) rfl (aI (cl_tPred p) (aI (cl_sl clS names) trivial)) z (by kernel_rfl)
noncomputable def b110 : Code := Tryz.f110.body.getD .skip
def A110 : List Nat := []
noncomputable def R07_False : Option (tPred) :=
  some (⟨2, ([] : Str), 0, ([] : List tPred)⟩ : tPred)
theorem R07_False_ok {r : tPred} (h : R07_False = some r) : CC Pg GE 110 [] (.agg (c_tPred r)) [(3, 31)] := by
  obtain rfl := lf h
  have z := sx pz31 <| sb (bu_tPred_0 2) (bn_tPred_0 2) <| sy (ex_tPred (⟨2, ([] : Str), 0, ([] : List tPred)⟩ : tPred)) <| en (aI (rex_tPred (⟨2, ([] : Str), 0, ([] : List tPred)⟩ : tPred)) <| aI (cl_tPred (⟨2, ([] : Str), 0, ([] : List tPred)⟩ : tPred)) <| rT)
  exact C.evp (A := A110) mixed Tryz.call110 Tryz.func110 (c := b110) rfl trivial z (by kernel_rfl)
end Go.Proofs.YtgldgpdhblndkaaGreatDoor
