/-
  WHAT IS PROVED: parts of the proof, put together by a program out of smaller texts (G9; LawFresh; PfA; PlB). Conditions: none.
-/
import Derived.Test.YtgldgpdhblndkaaGreatDoorPkA40
import Derived.Test.YtgldgpdhblndkaaGreatDoorPkA31
import Derived.Test.YtgldgpdhblndkaaGreatDoorPkA26
import Derived.Test.YtgldgpdhblndkaaGreatDoorCards
import Derived.Test.YtgldgpdhblndkaaGreatDoorTie
import Derived.Test.YtgldgpdhblndkaaGreatDoorPkA30
import Derived.Deep.DeepHandedRow
import Derived.SizedLaws
namespace Go.Proofs.YtgldgpdhblndkaaGreatDoor
open Go
set_option linter.unusedVariables false
set_option maxRecDepth 100000
noncomputable def b10 : Code := Tryz.f10.body.getD .skip
def A10 : List Nat := [17, 33]
noncomputable def R35_Fresh_L1_S (v : Str) (scope : (List tVar)) (out : (List tHole)) (t11 : (List tAbs)) (t12 : Int) (t13 : Int) : PSt := stt 34 [(1, .str v), (2, sl c_tVar scope), (7, sl c_tHole out), (11, sl c_tAbs t11), (12, .int .i64 t12), (13, .int .i64 t13)] [.dead] [((7, 0), 82)]
noncomputable def R35_Fresh_L1_s (v : Str) (scope : (List tVar)) (t11 : (List tAbs)) (t12 : Int) (o : (List tHole)) : PSt := stt 34 [(7, sl c_tHole o)] [.dead] [((7, 0), 82)]
noncomputable def R35_Fresh_L1_b (v : Str) (scope : (List tVar)) (t11 : (List tAbs)) (t12 : Int) (out : (List tHole)) (t13 : Int) : Option (((List tHole) × Int) ⊕ (((List tHole)))) :=
  if (decide (t13 < t12)) = true then
    (idx t11 t13).bind fun x2 =>
    (cat v ([46] : Str)).bind fun s3 =>
    (cat s3 x2.Name).bind fun s4 =>
    (app ([(⟨([118] : Str), x2.Sort_⟩ : tVar)] : List tVar) scope).bind fun l5 =>
    (app out ([(⟨s4, l5⟩ : tHole)] : List tHole)).bind fun l6 =>
    some (.inl (l6, w64 (t13 + 1)))
  else
    some (.inr out)
noncomputable def R35_Fresh_L1 (v : Str) (scope : (List tVar)) (t11 : (List tAbs)) (t12 : Int) (out : (List tHole)) (t13 : Int) : Option (((List tHole))) := loop (fun (zz : (List tHole) × Int) => R35_Fresh_L1_b v scope t11 t12 zz.1 zz.2) (out, t13)
theorem R35_Fresh_L1_bok (v : Str) (scope : (List tVar)) (out : (List tHole)) (t11 : (List tAbs)) (t12 : Int) (t13 : Int) {y : ((List tHole) × Int) ⊕ (((List tHole)))} (h : R35_Fresh_L1_b v scope t11 t12 out t13 = some y) :
    Sat Pg GE 0 (cA b10 119) (LQ (fun (zz : (List tHole) × Int) => R35_Fresh_L1_S v scope zz.1 t11 t12 zz.2) (fun _ => .exit 0) (R35_Fresh_L1_s v scope t11 t12) y) (R35_Fresh_L1_S v scope out t11 t12 t13) := by
  rcases ifs h with ⟨c1, h⟩ | ⟨c1, h⟩
  · obtain ⟨x2, bx2, h⟩ := bnd h
    obtain ⟨s3, bs3, h⟩ := bnd h
    obtain ⟨s4, bs4, h⟩ := bnd h
    obtain ⟨l5, bl5, h⟩ := bnd h
    obtain ⟨l6, bl6, h⟩ := bnd h
    obtain rfl := lf h
    have z := sg 0 c1 <| sv (sT24.ia (k := .i64) bx2) <| sv (lk_tAbs x2) <| sx pz76 <| sx (pcx_tAbs x2) <| sdr [0, 0, 2, 0, 8, 30, 0, 64, 192, 448, 0, 1984, 4094, 8190, 16383, 32767] <| sv (strCat (P := Pg) (t := 9) bs3) <| ss <| sv (strCat (P := Pg) (t := 9) bs4) <| ss <| sv (bu_tVar_0_1 ([118] : Str) x2.Sort_) <| sv (sT36.mk' (v := v_tVar) pcA_tVar ([(⟨([118] : Str), x2.Sort_⟩ : tVar)] : List tVar) 1 (by kernel_rfl)) <| sv (sT36.ap bl5) <| sv (bu_tHole_0_1 s4 l5) <| sv (sT38.mk' (v := v_tHole) pcA_tHole ([(⟨s4, l5⟩ : tHole)] : List tHole) 1 (by kernel_rfl)) <| sv (sT38.ap bl6) <| eFx 0 .normal (R35_Fresh_L1_S v scope l6 t11 t12 (w64 (t13 + 1))) rfl (cl_tm (aI trivial (aI (up (cl_sl cl_tVar scope)) (aI (up (cl_sl cl_tHole l6)) (aI (up (cl_sl cl_tAbs t11)) (aI trivial (aI trivial trivial))))))) (aI trivial trivial)
    exact nextxp (A := A10) mixed z (by kernel_rfl)
  · obtain rfl := lf h
    have z := sg 0 c1 <| eF (.exit 0) (R35_Fresh_L1_s v scope t11 t12 out)
    exact overp (A := A10) mixed (by intro hx; cases hx) z (by kernel_rfl)
theorem R35_Fresh_L1_ok (v : Str) (scope : (List tVar)) (out : (List tHole)) (t11 : (List tAbs)) (t12 : Int) (t13 : Int) {x : ((List tHole))} (h : R35_Fresh_L1 v scope t11 t12 out t13 = some x) :
    Sat Pg GE 0 (.loop (cA b10 119)) (EX (.exit 0) (R35_Fresh_L1_s v scope t11 t12 x)) (R35_Fresh_L1_S v scope out t11 t12 t13) :=
  Sat.loop (S := fun (zz : (List tHole) × Int) => R35_Fresh_L1_S v scope zz.1 t11 t12 zz.2) (ex := (fun _ => .exit 0)) (s := (out, t13)) h fun zz y hy => R35_Fresh_L1_bok v scope zz.1 t11 t12 zz.2 hy
noncomputable def R35_Fresh (s : tSig) (a : Str) (scope : (List tVar)) : Option ((List tHole)) :=
  (R35_Fresh_L1 a scope s.Abs (s.Abs.length : Int) ([] : List tHole) 0).bind fun o7 =>
  some o7
theorem R35_Fresh_ok {s : tSig} {a : Str} {scope : (List tVar)} {r : (List tHole)} (h : R35_Fresh s a scope = some r) : CC Pg GE 10 [.agg (c_tSig s), .str a, sl c_tVar scope] (sl c_tHole r) [(0, 82)] := by
  obtain ⟨o7, bo7, h⟩ := bnd h
  obtain rfl := lf h
  have z := se (pc_tSig s) <| sv (fa_tSig_35_2 s) <| sv (lf_tSig_2_24 s) <| svn (sT24.ln s.Abs) <| spc (R35_Fresh_L1_ok a scope ([] : List tHole) s.Abs (s.Abs.length : Int) 0 bo7) <| en (aI (rP (sl c_tHole o7)) <| (cl_sl cl_tHole o7))
  exact C.evp (A := A10) mixed Tryz.call10 Tryz.func10 (c := b10) rfl (aI (cl_tSig s) (aI trivial (aI (cl_sl cl_tVar scope) trivial))) z (by kernel_rfl)
noncomputable def b8 : Code := Tryz.f8.body.getD .skip
def A8 : List Nat := [16, 51]
noncomputable def W35_sameHoles_L1_S (v : (List tHole)) (v2 : (List tHole)) (t13 : Int) (t14 : Int) : PSt := stt 71 [(0, sl c_tHole v), (1, sl c_tHole v2), (13, .int .i64 t13), (14, .int .i64 t14)] [] []
noncomputable def W35_sameHoles_L1_e (o : (Unit) ⊕ (Unit)) : Exit := match o with
  | (.inl _) => .ret
  | (.inr _) => .exit 0
noncomputable def W35_sameHoles_L1_s (v : (List tHole)) (v2 : (List tHole)) (t13 : Int) (o : (Unit) ⊕ (Unit)) : PSt := match o with
  | (.inl o) => stt 71 [(4, .bool false)] [] []
  | (.inr o) => stt 71 [] [] []
noncomputable def W35_sameHoles_J2_S (v : (List tHole)) (v2 : (List tHole)) (i : Int) (t13 : Int) : PSt := stt 71 [(0, sl c_tHole v), (1, sl c_tHole v2), (5, .int .i64 i), (13, .int .i64 t13), (14, .int .i64 i)] [] []
noncomputable def W35_sameHoles_J2_s (v : (List tHole)) (v2 : (List tHole)) (i : Int) (t13 : Int) (o : Bool) : PSt := stt 71 [(0, sl c_tHole v), (1, sl c_tHole v2), (5, .int .i64 i), (13, .int .i64 t13), (14, .int .i64 i), (42, .bool o)] [] []
noncomputable def W35_sameHoles_J2 (v : (List tHole)) (v2 : (List tHole)) (i : Int) : Option ((Bool)) :=
  (idx v i).bind fun x3 =>
  (idx v2 i).bind fun x4 =>
  if (!(x3.Name == x4.Name)) = true then
    some true
  else
    (idx v i).bind fun x6 =>
    (idx v2 i).bind fun x7 =>
    some ((x6.Params.length : Int) != (x7.Params.length : Int))
theorem W35_sameHoles_J2_ok (v : (List tHole)) (v2 : (List tHole)) (i : Int) (t13 : Int) {x : (Bool)} (h : W35_sameHoles_J2 v v2 i = some x) :
    Sat Pg GE 0 (cA b8 15340) (EX .normal (W35_sameHoles_J2_s v v2 i t13 x)) (W35_sameHoles_J2_S v v2 i t13) := by
  obtain ⟨x3, bx3, h⟩ := bnd h
  obtain ⟨x4, bx4, h⟩ := bnd h
  rcases ifs h with ⟨c5, h⟩ | ⟨c5, h⟩
  · obtain rfl := lf h
    have z := sdr [0, 0, 3, 7, 15, 0, 0, 96, 224, 480, 1023, 2047, 4095, 4095, 16383, 32767, 65535, 131071, 4095, 4095, 790527, 1839103, 3936255, 8130559, 16777215, 33554431] <| sv (sT38.ia (k := .i64) bx3) <| sv (fa_tHole_82_0 x3) <| sv (lf_tHole_0_9 x3) <| sv (sT38.ia (k := .i64) bx4) <| sv (fa_tHole_82_0 x4) <| sv (lf_tHole_0_9 x4) <| sg 12 c5 <| eF .normal (W35_sameHoles_J2_s v v2 i t13 true)
    exact piecep (A := A8) mixed z (by kernel_rfl)
  · obtain ⟨x6, bx6, h⟩ := bnd h
    obtain ⟨x7, bx7, h⟩ := bnd h
    obtain rfl := lf h
    have z := sdr [0, 0, 3, 7, 15, 0, 0, 96, 224, 480, 1023, 2047, 4095, 4095, 16383, 32767, 65535, 131071, 4095, 4095, 790527, 1839103, 3936255, 8130559, 16777215, 33554431] <| sv (sT38.ia (k := .i64) bx3) <| sv (fa_tHole_82_0 x3) <| sv (lf_tHole_0_9 x3) <| sv (sT38.ia (k := .i64) bx4) <| sv (fa_tHole_82_0 x4) <| sv (lf_tHole_0_9 x4) <| sg 12 c5 <| sv (sT38.ia (k := .i64) bx6) <| sv (fa_tHole_82_1 x6) <| sv (lf_tHole_1_36 x6) <| svn (sT36.ln x6.Params) <| sv (sT38.ia (k := .i64) bx7) <| sv (fa_tHole_82_1 x7) <| sv (lf_tHole_1_36 x7) <| svn (sT36.ln x7.Params) <| eF .normal (W35_sameHoles_J2_s v v2 i t13 ((x6.Params.length : Int) != (x7.Params.length : Int)))
    exact piecep (A := A8) mixed z (by kernel_rfl)
noncomputable def W35_sameHoles_L3_S (v : (List tHole)) (v2 : (List tHole)) (i : Int) (t13 : Int) (t48 : Int) (t49 : Int) : PSt := stt 71 [(0, sl c_tHole v), (1, sl c_tHole v2), (5, .int .i64 i), (13, .int .i64 t13), (14, .int .i64 i), (48, .int .i64 t48), (49, .int .i64 t49)] [] []
noncomputable def W35_sameHoles_L3_e (o : (Unit) ⊕ (Unit)) : Exit := match o with
  | (.inl _) => .ret
  | (.inr _) => .exit 2
noncomputable def W35_sameHoles_L3_s (v : (List tHole)) (v2 : (List tHole)) (i : Int) (t13 : Int) (t48 : Int) (o : (Unit) ⊕ (Unit)) : PSt := match o with
  | (.inl o) => stt 71 [(4, .bool false)] [] []
  | (.inr o) => stt 71 [(0, sl c_tHole v), (1, sl c_tHole v2), (13, .int .i64 t13), (14, .int .i64 i)] [] []
noncomputable def W35_sameHoles_L3_b (v : (List tHole)) (v2 : (List tHole)) (i : Int) (t48 : Int) (t49 : Int) : Option ((Int) ⊕ ((Unit) ⊕ (Unit))) :=
  if (decide (t49 < t48)) = true then
    (idx v i).bind fun x12 =>
    (idx x12.Params t49).bind fun x13 =>
    (idx v2 i).bind fun x14 =>
    (idx x14.Params t49).bind fun x15 =>
    if (!(eq_tVar x13 x15)) = true then
      some (.inr (.inl ()))
    else
      some (.inl (w64 (t49 + 1)))
  else
    some (.inr (.inr ()))
noncomputable def W35_sameHoles_L3 (v : (List tHole)) (v2 : (List tHole)) (i : Int) (t48 : Int) (t49 : Int) : Option ((Unit) ⊕ (Unit)) := loop (fun (zz : Int) => W35_sameHoles_L3_b v v2 i t48 zz) t49
theorem W35_sameHoles_L3_bok (v : (List tHole)) (v2 : (List tHole)) (i : Int) (t13 : Int) (t48 : Int) (t49 : Int) {y : (Int) ⊕ ((Unit) ⊕ (Unit))} (h : W35_sameHoles_L3_b v v2 i t48 t49 = some y) :
    Sat Pg GE 0 (cA b8 61375) (LQ (fun (zz : Int) => W35_sameHoles_L3_S v v2 i t13 t48 zz) W35_sameHoles_L3_e (W35_sameHoles_L3_s v v2 i t13 t48) y) (W35_sameHoles_L3_S v v2 i t13 t48 t49) := by
  rcases ifs h with ⟨c11, h⟩ | ⟨c11, h⟩
  · obtain ⟨x12, bx12, h⟩ := bnd h
    obtain ⟨x13, bx13, h⟩ := bnd h
    obtain ⟨x14, bx14, h⟩ := bnd h
    obtain ⟨x15, bx15, h⟩ := bnd h
    rcases ifs h with ⟨c16, h⟩ | ⟨c16, h⟩
    · obtain rfl := lf h
      have z := sg 0 c11 <| sdr [0, 0, 3, 7, 15, 0, 63, 127, 0, 0, 768, 1792, 3840, 0, 16128, 32512, 65535] <| sv (sT38.ia (k := .i64) bx12) <| sv (fa_tHole_82_1 x12) <| sv (lf_tHole_1_36 x12) <| sv (sT36.ia (k := .i64) bx13) <| sv (lk_tVar x13) <| sv (sT38.ia (k := .i64) bx14) <| sv (fa_tHole_82_1 x14) <| sv (lf_tHole_1_36 x14) <| sv (sT36.ia (k := .i64) bx15) <| sv (lk_tVar x15) <| sv (neb_tVar x13 x15) <| sg 0 c16 <| eF (W35_sameHoles_L3_e (.inl ())) (W35_sameHoles_L3_s v v2 i t13 t48 (.inl ()))
      exact overp (A := A8) mixed (by intro hx; cases hx) z (by kernel_rfl)
    · obtain rfl := lf h
      have z := sg 0 c11 <| sdr [0, 0, 3, 7, 15, 0, 63, 127, 0, 0, 768, 1792, 3840, 0, 16128, 32512, 65535] <| sv (sT38.ia (k := .i64) bx12) <| sv (fa_tHole_82_1 x12) <| sv (lf_tHole_1_36 x12) <| sv (sT36.ia (k := .i64) bx13) <| sv (lk_tVar x13) <| sv (sT38.ia (k := .i64) bx14) <| sv (fa_tHole_82_1 x14) <| sv (lf_tHole_1_36 x14) <| sv (sT36.ia (k := .i64) bx15) <| sv (lk_tVar x15) <| sv (neb_tVar x13 x15) <| sg 0 c16 <| eF .normal (W35_sameHoles_L3_S v v2 i t13 t48 (w64 (t49 + 1)))
      exact nextp (A := A8) mixed z (by kernel_rfl)
  · obtain rfl := lf h
    have z := sg 0 c11 <| eF (W35_sameHoles_L3_e (.inr ())) (W35_sameHoles_L3_s v v2 i t13 t48 (.inr ()))
    exact overp (A := A8) mixed (by intro hx; cases hx) z (by kernel_rfl)
theorem W35_sameHoles_L3_ok (v : (List tHole)) (v2 : (List tHole)) (i : Int) (t13 : Int) (t48 : Int) (t49 : Int) {x : (Unit) ⊕ (Unit)} (h : W35_sameHoles_L3 v v2 i t48 t49 = some x) :
    Sat Pg GE 0 (.loop (cA b8 61375)) (EX (W35_sameHoles_L3_e x) (W35_sameHoles_L3_s v v2 i t13 t48 x)) (W35_sameHoles_L3_S v v2 i t13 t48 t49) :=
  Sat.loop (S := fun (zz : Int) => W35_sameHoles_L3_S v v2 i t13 t48 zz) (ex := W35_sameHoles_L3_e) (s := t49) h fun zz y hy => W35_sameHoles_L3_bok v v2 i t13 t48 zz hy
noncomputable def W35_sameHoles_L1_b (v : (List tHole)) (v2 : (List tHole)) (t13 : Int) (t14 : Int) : Option ((Int) ⊕ ((Unit) ⊕ (Unit))) :=
  if (decide (t14 < t13)) = true then
    (W35_sameHoles_J2 v v2 t14).bind fun o8 =>
    if o8 = true then
      some (.inr (.inl ()))
    else
      (idx v t14).bind fun x10 =>
      (W35_sameHoles_L3 v v2 t14 (x10.Params.length : Int) 0).bind fun o17 => match o17 with
      | (.inl o17) =>
        some (.inr (.inl ()))
      | (.inr o17) =>
        some (.inl (w64 (t14 + 1)))
  else
    some (.inr (.inr ()))
noncomputable def W35_sameHoles_L1 (v : (List tHole)) (v2 : (List tHole)) (t13 : Int) (t14 : Int) : Option ((Unit) ⊕ (Unit)) := loop (fun (zz : Int) => W35_sameHoles_L1_b v v2 t13 zz) t14
theorem W35_sameHoles_L1_bok (v : (List tHole)) (v2 : (List tHole)) (t13 : Int) (t14 : Int) {y : (Int) ⊕ ((Unit) ⊕ (Unit))} (h : W35_sameHoles_L1_b v v2 t13 t14 = some y) :
    Sat Pg GE 0 (cA b8 119) (LQ (fun (zz : Int) => W35_sameHoles_L1_S v v2 t13 zz) W35_sameHoles_L1_e (W35_sameHoles_L1_s v v2 t13) y) (W35_sameHoles_L1_S v v2 t13 t14) := by
  rcases ifs h with ⟨c2, h⟩ | ⟨c2, h⟩
  · obtain ⟨o8, bo8, h⟩ := bnd h
    rcases ifs h with ⟨c9, h⟩ | ⟨c9, h⟩
    · obtain rfl := lf h
      have z := sg 0 c2 <| spa 3 <| spc (W35_sameHoles_J2_ok v v2 t14 t13 bo8) <| sg 0 c9 <| eF (W35_sameHoles_L1_e (.inl ())) (W35_sameHoles_L1_s v v2 t13 (.inl ()))
      exact overp (A := A8) mixed (by intro hx; cases hx) z (by kernel_rfl)
    · obtain ⟨x10, bx10, h⟩ := bnd h
      obtain ⟨o17, bo17, h⟩ := bnd h
      rcases o17 with o17 | o17
      · obtain rfl := lf h
        have z := sg 0 c2 <| spa 3 <| spc (W35_sameHoles_J2_ok v v2 t14 t13 bo8) <| sg 0 c9 <| sv (sT38.ia (k := .i64) bx10) <| sv (fa_tHole_82_1 x10) <| sv (lf_tHole_1_36 x10) <| svn (sT36.ln x10.Params) <| spc (e := .ret) (s1 := W35_sameHoles_L3_s v v2 t14 t13 (x10.Params.length : Int) (.inl o17)) (W35_sameHoles_L3_ok v v2 t14 t13 (x10.Params.length : Int) 0 bo17) <| eF (W35_sameHoles_L1_e (.inl ())) (W35_sameHoles_L1_s v v2 t13 (.inl ()))
        exact overp (A := A8) mixed (by intro hx; cases hx) z (by kernel_rfl)
      · obtain rfl := lf h
        have z := sg 0 c2 <| spa 3 <| spc (W35_sameHoles_J2_ok v v2 t14 t13 bo8) <| sg 0 c9 <| sv (sT38.ia (k := .i64) bx10) <| sv (fa_tHole_82_1 x10) <| sv (lf_tHole_1_36 x10) <| svn (sT36.ln x10.Params) <| spc (e := .exit 2) (s1 := W35_sameHoles_L3_s v v2 t14 t13 (x10.Params.length : Int) (.inr o17)) (W35_sameHoles_L3_ok v v2 t14 t13 (x10.Params.length : Int) 0 bo17) <| eF .normal (W35_sameHoles_L1_S v v2 t13 (w64 (t14 + 1)))
        exact nextp (A := A8) mixed z (by kernel_rfl)
  · obtain rfl := lf h
    have z := sg 0 c2 <| eF (W35_sameHoles_L1_e (.inr ())) (W35_sameHoles_L1_s v v2 t13 (.inr ()))
    exact overp (A := A8) mixed (by intro hx; cases hx) z (by kernel_rfl)
theorem W35_sameHoles_L1_ok (v : (List tHole)) (v2 : (List tHole)) (t13 : Int) (t14 : Int) {x : (Unit) ⊕ (Unit)} (h : W35_sameHoles_L1 v v2 t13 t14 = some x) :
    Sat Pg GE 0 (.loop (cA b8 119)) (EX (W35_sameHoles_L1_e x) (W35_sameHoles_L1_s v v2 t13 x)) (W35_sameHoles_L1_S v v2 t13 t14) :=
  Sat.loop (S := fun (zz : Int) => W35_sameHoles_L1_S v v2 t13 zz) (ex := W35_sameHoles_L1_e) (s := t14) h fun zz y hy => W35_sameHoles_L1_bok v v2 t13 zz hy
noncomputable def W35_sameHoles (a : (List tHole)) (a2 : (List tHole)) : Option (Bool) :=
  if ((a.length : Int) != (a2.length : Int)) = true then
    some false
  else
    (W35_sameHoles_L1 a a2 (a.length : Int) 0).bind fun o18 => match o18 with
    | (.inl o18) =>
      some false
    | (.inr o18) =>
      some true
theorem W35_sameHoles_ok {a : (List tHole)} {a2 : (List tHole)} {r : Bool} (h : W35_sameHoles a a2 = some r) : CC Pg GE 8 [sl c_tHole a, sl c_tHole a2] (.bool r) [] := by
  rcases ifs h with ⟨c1, h⟩ | ⟨c1, h⟩
  · obtain rfl := lf h
    have z := svn (sT38.ln a) <| svn (sT38.ln a2) <| sg 0 c1 <| en (aI (rP (.bool false)) <| trivial)
    exact C.evp (A := A8) mixed Tryz.call8 Tryz.func8 (c := b8) rfl (aI (cl_sl cl_tHole a) (aI (cl_sl cl_tHole a2) trivial)) z (by kernel_rfl)
  · obtain ⟨o18, bo18, h⟩ := bnd h
    rcases o18 with o18 | o18
    · obtain rfl := lf h
      have z := svn (sT38.ln a) <| svn (sT38.ln a2) <| sg 0 c1 <| svn (sT38.ln a) <| spc (e := .ret) (s1 := W35_sameHoles_L1_s a a2 (a.length : Int) (.inl o18)) (W35_sameHoles_L1_ok a a2 (a.length : Int) 0 bo18) <| en (aI (rP (.bool false)) <| trivial)
      exact C.evp (A := A8) mixed Tryz.call8 Tryz.func8 (c := b8) rfl (aI (cl_sl cl_tHole a) (aI (cl_sl cl_tHole a2) trivial)) z (by kernel_rfl)
    · obtain rfl := lf h
      have z := svn (sT38.ln a) <| svn (sT38.ln a2) <| sg 0 c1 <| svn (sT38.ln a) <| spc (e := .exit 0) (s1 := W35_sameHoles_L1_s a a2 (a.length : Int) (.inr o18)) (W35_sameHoles_L1_ok a a2 (a.length : Int) 0 bo18) <| en (aI (rP (.bool true)) <| trivial)
      exact C.evp (A := A8) mixed Tryz.call8 Tryz.func8 (c := b8) rfl (aI (cl_sl cl_tHole a) (aI (cl_sl cl_tHole a2) trivial)) z (by kernel_rfl)
noncomputable def b3 : Code := Tryz.f3.body.getD .skip
def A3 : List Nat := []
noncomputable def W35_AbstractFresh (s : tSig) (a : Str) (scope : (List tVar)) : Option (Bool) :=
  if (decide ((s.Abs.length : Int) > 20)) = true then
    (W35_alive).bind fun r2 =>
    some r2
  else
    if (decide ((scope.length : Int) > 20)) = true then
      (W35_alive).bind fun r4 =>
      some r4
    else
      (abstract_Fresh s a scope).bind fun r5 =>
      (R35_Fresh s a scope).bind fun r6 =>
      (W35_sameHoles r5 r6).bind fun r7 =>
      if r7 = true then
        (W35_alive).bind fun r9 =>
        some r9
      else
        some false
theorem W35_AbstractFresh_ok {s : tSig} {a : Str} {scope : (List tVar)} {r : Bool} (h : W35_AbstractFresh s a scope = some r) : CC Pg GE 3 [.agg (c_tSig s), .str a, sl c_tVar scope] (.bool r) [] := by
  rcases ifs h with ⟨c1, h⟩ | ⟨c1, h⟩
  · obtain ⟨r2, br2, h⟩ := bnd h
    obtain rfl := lf h
    have z := se (pc_tSig s) <| sdr [0, 1, 3, 7, 15, 31, 63, 127, 255, 511, 1023, 1023, 1023, 8191, 1023, 1023, 1023, 131071, 262143, 524287, 1048575, 2097151, 4194303, 8388607] <| sv (fa_tSig_35_2 s) <| sv (lf_tSig_2_24 s) <| svn (sT24.ln s.Abs) <| sg 5 c1 <| sca (W35_alive_ok br2) <| en (aI (rP (.bool r2)) <| trivial)
    exact C.evp (A := A3) mixed Tryz.call3 Tryz.func3 (c := b3) rfl (aI (cl_tSig s) (aI trivial (aI (cl_sl cl_tVar scope) trivial))) z (by kernel_rfl)
  · rcases ifs h with ⟨c3, h⟩ | ⟨c3, h⟩
    · obtain ⟨r4, br4, h⟩ := bnd h
      obtain rfl := lf h
      have z := se (pc_tSig s) <| sdr [0, 1, 3, 7, 15, 31, 63, 127, 255, 511, 1023, 1023, 1023, 8191, 1023, 1023, 1023, 131071, 262143, 524287, 1048575, 2097151, 4194303, 8388607] <| sv (fa_tSig_35_2 s) <| sv (lf_tSig_2_24 s) <| svn (sT24.ln s.Abs) <| sg 5 c1 <| svn (sT36.ln scope) <| sg 10 c3 <| sca (W35_alive_ok br4) <| en (aI (rP (.bool r4)) <| trivial)
      exact C.evp (A := A3) mixed Tryz.call3 Tryz.func3 (c := b3) rfl (aI (cl_tSig s) (aI trivial (aI (cl_sl cl_tVar scope) trivial))) z (by kernel_rfl)
    · obtain ⟨r5, br5, h⟩ := bnd h
      obtain ⟨r6, br6, h⟩ := bnd h
      obtain ⟨r7, br7, h⟩ := bnd h
      rcases ifs h with ⟨c8, h⟩ | ⟨c8, h⟩
      · obtain ⟨r9, br9, h⟩ := bnd h
        obtain rfl := lf h
        have z := se (pc_tSig s) <| sdr [0, 1, 3, 7, 15, 31, 63, 127, 255, 511, 1023, 1023, 1023, 8191, 1023, 1023, 1023, 131071, 262143, 524287, 1048575, 2097151, 4194303, 8388607] <| sv (fa_tSig_35_2 s) <| sv (lf_tSig_2_24 s) <| svn (sT24.ln s.Abs) <| sg 5 c1 <| svn (sT36.ln scope) <| sg 10 c3 <| sv (lk_tSig s) <| sca (abstract_Fresh_ok br5) <| sv (lk_tSig s) <| sca (R35_Fresh_ok br6) <| sca (W35_sameHoles_ok br7) <| sg 21 c8 <| sca (W35_alive_ok br9) <| en (aI (rP (.bool r9)) <| trivial)
        exact C.evp (A := A3) mixed Tryz.call3 Tryz.func3 (c := b3) rfl (aI (cl_tSig s) (aI trivial (aI (cl_sl cl_tVar scope) trivial))) z (by kernel_rfl)
      · obtain rfl := lf h
        have z := se (pc_tSig s) <| sdr [0, 1, 3, 7, 15, 31, 63, 127, 255, 511, 1023, 1023, 1023, 8191, 1023, 1023, 1023, 131071, 262143, 524287, 1048575, 2097151, 4194303, 8388607] <| sv (fa_tSig_35_2 s) <| sv (lf_tSig_2_24 s) <| svn (sT24.ln s.Abs) <| sg 5 c1 <| svn (sT36.ln scope) <| sg 10 c3 <| sv (lk_tSig s) <| sca (abstract_Fresh_ok br5) <| sv (lk_tSig s) <| sca (R35_Fresh_ok br6) <| sca (W35_sameHoles_ok br7) <| sg 21 c8 <| en (aI (rP (.bool false)) <| trivial)
        exact C.evp (A := A3) mixed Tryz.call3 Tryz.func3 (c := b3) rfl (aI (cl_tSig s) (aI trivial (aI (cl_sl cl_tVar scope) trivial))) z (by kernel_rfl)
end Go.Proofs.YtgldgpdhblndkaaGreatDoor
namespace Go.Proofs.YtgldgpdhblndkaaGreatDoor
open Go
set_option linter.unusedVariables false
theorem runL_map {α β X : Type} (g : α → β) (e : List β → X) : ∀ (l : List α) (i : Nat) (s : List β), runL (fun _ x (s : List β) => (Sum.inl (s ++ [g x]) : List β ⊕ X)) e l i s = e (s ++ l.map g)
  | [], i, s => by simp [runL]
  | x :: l, i, s => by
    unfold runL
    simp only
    rw [runL_map g e l (i + 1) (s ++ [g x])]
    simp
theorem loop_map {α β τ X : Type} (l : List α) (hl : l.length < 9223372036854775808) (mk : Int → List β → τ) (body : τ → Option (τ ⊕ X)) (g : α → β) (e : List β → X)
    (hin : ∀ (i : Nat) (h : i < l.length) s, s.length = i → body (mk i s) = some (.inl (mk (w64 ((i : Int) + 1)) (s ++ [g l[i]])))) (hend : ∀ s, body (mk l.length s) = some (.inr (e s))) : loop body (mk 0 []) = some (e (l.map g)) := by
  have := loop_run l hl mk body (fun i s => s.length = i) (fun _ x s => .inl (s ++ [g x])) e (fun i h s hs => ⟨hin i h s hs, fun s' hs' => by cases hs'; simp [hs]⟩) (fun s _ => hend s) 0 [] (Nat.zero_le _) rfl
  rw [runL_map] at this
  exact this
theorem loop_all {α X : Type} (l : List α) (hl : l.length < 9223372036854775808) (body : Int → Option (Int ⊕ X)) (e : X)
    (hin : ∀ (i : Nat) (h : i < l.length), body i = some (.inl (w64 ((i : Int) + 1)))) (hend : body l.length = some (.inr e)) : loop body (0 : Int) = some e := by
  have := loop_any l hl body (fun _ => false) e e (fun i h => by rw [hin i h]; rfl) hend 0 (Nat.zero_le _)
  simpa using this
end Go.Proofs.YtgldgpdhblndkaaGreatDoor
namespace Go.Proofs.YtgldgpdhblndkaaGreatDoor
open Go
set_option linter.unusedVariables false
def hole1 (p : Str) (scope : List tVar) (a : tAbs) : tHole := ⟨p ++ [46] ++ a.Name, (⟨[118], a.Sort_⟩ : tVar) :: scope⟩
theorem fresh1_eq {p : Str} {scope : List tVar} {a : tAbs} (h : p.length + a.Name.length ≤ 1073741824) (hs : scope.length ≤ 1048576) : abstract_Fresh_1 a p scope = some (hole1 p scope a) := by
  unfold abstract_Fresh_1
  rw [cat_eq (by simp; omega)]
  simp only [Option.bind_some]
  rw [cat_eq (by simp; omega)]
  simp only [Option.bind_some]
  rw [app_eq (by simp; omega)]
  rfl
theorem mapped_eq {l : List tAbs} {p : Str} {scope : List tVar} (hl : l.length ≤ 1048576) (h : ∀ a ∈ l, p.length + a.Name.length ≤ 1073741824) (hs : scope.length ≤ 1048576) : abstract_mapped l p scope = some (l.map (hole1 p scope)) := by
  unfold abstract_mapped abstract_mapped_L1
  rw [show (fun (zz : List tHole × Int) => abstract_mapped_L1_b p scope l (l.length : Int) zz.1 zz.2) = fun zz => abstract_mapped_L1_b p scope l (l.length : Int) zz.1 zz.2 from rfl]
  rw [loop_map l (by omega) (fun i s => (s, i)) _ (hole1 p scope) id (fun i hi s hs' => ?_) (fun s => ?_)]
  · rfl
  · unfold abstract_mapped_L1_b
    rw [if_pos (by simp; omega), idx_nat l i hi]
    simp only [Option.bind_some]
    rw [fresh1_eq (h _ (List.getElem_mem hi)) hs]
    simp only [Option.bind_some]
    rw [app_eq (by simp; omega)]
    rfl
  · unfold abstract_mapped_L1_b
    rw [if_neg (by simp)]
    rfl
theorem rfresh_eq {s : tSig} {p : Str} {scope : List tVar} (hl : s.Abs.length ≤ 1048576) (h : ∀ a ∈ s.Abs, p.length + a.Name.length ≤ 1073741824) (hs : scope.length ≤ 1048576) : R35_Fresh s p scope = some (s.Abs.map (hole1 p scope)) := by
  unfold R35_Fresh R35_Fresh_L1
  rw [loop_map s.Abs (by omega) (fun i s => (s, i)) _ (hole1 p scope) id (fun i hi t hs' => ?_) (fun t => ?_)]
  · rfl
  · unfold R35_Fresh_L1_b
    have h1 := h _ (List.getElem_mem hi)
    rw [if_pos (by simp; omega), idx_nat s.Abs i hi]
    simp only [Option.bind_some]
    rw [cat_eq (by simp; omega)]
    simp only [Option.bind_some]
    rw [cat_eq (by simp; omega)]
    simp only [Option.bind_some]
    rw [app_eq (by simp; omega)]
    simp only [Option.bind_some]
    rw [app_eq (by simp; omega)]
    rfl
  · unfold R35_Fresh_L1_b
    rw [if_neg (by simp)]
    rfl
theorem sameHoles_refl (l : List tHole) (hl : l.length ≤ 1048576) (hp : ∀ h ∈ l, h.Params.length ≤ 2097152) : W35_sameHoles l l = some true := by
  unfold W35_sameHoles
  rw [if_neg (by simp)]
  unfold W35_sameHoles_L1
  have hin : ∀ (i : Nat) (h : i < l.length), W35_sameHoles_L1_b l l (l.length : Int) (i : Int) = some (.inl (w64 ((i : Int) + 1))) := fun i hi => by
    unfold W35_sameHoles_L1_b W35_sameHoles_J2
    rw [if_pos (by simp; omega), idx_nat l i hi]
    simp only [Option.bind_some, beq_self_eq_true, Bool.not_true, if_false, Bool.false_eq_true, bne_self_eq_false]
    unfold W35_sameHoles_L3
    have := hp _ (List.getElem_mem hi)
    have hin2 : ∀ (k : Nat) (h : k < l[i].Params.length), W35_sameHoles_L3_b l l (i : Int) (l[i].Params.length : Int) (k : Int) = some (.inl (w64 ((k : Int) + 1))) := fun k hk => by
      unfold W35_sameHoles_L3_b
      rw [if_pos (by simp; omega), idx_nat l i hi]
      simp only [Option.bind_some]
      rw [idx_nat _ k hk]
      simp [eq_tVar_eq]
    rw [loop_all (l[i].Params) (by omega) _ (.inr ()) hin2 (by unfold W35_sameHoles_L3_b; rw [if_neg (by simp)])]
    rfl
  rw [loop_all l (by omega) _ (.inr ()) hin (by unfold W35_sameHoles_L1_b; rw [if_neg (by simp)])]
  rfl
theorem lawFresh (ha : W35_alive = some true) {s : tSig} {p : Str} {scope : List tVar} (h : ∀ a ∈ s.Abs, p.length + a.Name.length ≤ 1073741824) : W35_AbstractFresh s p scope = some true := by
  unfold W35_AbstractFresh
  rw [ha]
  split
  · rfl
  · rename_i h1
    split
    · rfl
    · rename_i h2
      simp at h1 h2
      unfold abstract_Fresh
      rw [mapped_eq (by omega) h (by omega), rfresh_eq (by omega) h (by omega)]
      simp only [Option.bind_some]
      rw [sameHoles_refl _ (by simp; omega) (fun x hx => by
        obtain ⟨a, _, rfl⟩ := List.mem_map.1 hx
        simp [hole1]; omega)]
      rfl
theorem pmL_name (a : tAbs) : a.Name.length ≤ pmL (c_tAbs a) := by rw [ex_tAbs]; simp only [pmL, pm]; omega
theorem alive_true : W35_alive = some true := by kernel_rfl
theorem plainFresh (s : tSig) (p : Str) (scope : List tVar) (h : pmL (c_tSig s) + (pm (.str p) + (pm (sl c_tVar scope) + 0)) ≤ 1048576) : W35_AbstractFresh s p scope = some true := by
  refine lawFresh alive_true fun a ha => ?_
  have h1 := pmLL_mem (List.mem_map.2 ⟨a, ha, rfl⟩ : c_tAbs a ∈ s.Abs.map c_tAbs)
  have h2 := pmL_name a
  have h3 : pmLL (s.Abs.map c_tAbs) ≤ pmL (c_tSig s) := by rw [ex_tSig]; simp only [pmL, pm, sl]; omega
  simp only [pm] at h
  omega
end Go.Proofs.YtgldgpdhblndkaaGreatDoor
namespace Go.Proofs.YtgldgpdhblndkaaGreatDoor.lawAbstractFresh
open Go Go.ChangeShapes Go.WideShapes Go.ChangeAt Go.RowKit
set_option maxRecDepth 100000
set_option linter.unusedVariables false
theorem own : ownKnob Tryz.prog.godebug = none := by kernel_rfl
theorem lo : laidOutB Tryz.prog = true := by kernel_rfl
theorem flat : Flat Tryz.prog [35, 22, 9, 23, 226, 24, 76, 74, 25, 228, 36, 88, 31, 28, 3, 29, 33, 26, 27] := flat_of (by kernel_rfl)
theorem rd : ∀ t ∈ Tryz.f3.params.toList, Tryz.prog.readableRec t = true ∧ t < Tryz.prog.types.size := by
  rw [Tryz.params3]
  intro t ht
  simp at ht
  rcases ht with rfl | rfl | rfl
  all_goals exact ⟨by kernel_rfl, of_decide_eq_true (by kernel_rfl)⟩
theorem tabs {W : World} (h : laidMet Tryz.prog Rows.abstractFreshUptoRow.laid W) : ∀ x ∈ GE, GOk W x := by
  intro x hx
  simp only [GE, List.mem_cons, List.not_mem_nil, or_false] at hx
  rcases hx with rfl | rfl | rfl
  · exact gok_ints (name := "internal/strconv.uint64pow10") h (.tail _ <| .tail _ <| .head _) (by kernel_rfl) (by kernel_rfl) (by kernel_rfl) Tryz.underlying202 Tryz.underlying182 co182 co202
  · exact gok_ints (name := "math/bits.deBruijn32tab") h (.head _) (by kernel_rfl) (by kernel_rfl) (by kernel_rfl) Tryz.underlying208 Tryz.underlying5 co5 co208
  · exact gok_ints (name := "math/bits.deBruijn64tab") h (.tail _ <| .head _) (by kernel_rfl) (by kernel_rfl) (by kernel_rfl) Tryz.underlying209 Tryz.underlying5 co5 co209
theorem contract (H : Type) (enc : TypeId × Value → H) (W : World) (base : Nat) (args : Array Value) (ds gs : List (DataW H)) (before : List MemPlace)
    (hval : ∀ (j : Nat) t v, Tryz.f3.params[j]? = some t → args[j]? = some v → Value.okWide Tryz.prog W .any base t v)
    (hW : DataW.Whole enc Tryz.prog Tryz.f3.params.toList Rows.abstractFreshSpec.vars false W args.toList ds gs before) (hL : laidMet Tryz.prog Rows.abstractFreshUptoRow.laid W) (hb : Rows.uptoBulkAll (ds ++ gs) ≤ 1048576) :
    Calls Tryz.prog 3 args W fun e W' => ∃ v, e = .returned v ∧ Rows.abstractFreshSpec.post enc Tryz.prog Tryz.f3 false true false false W args v W' := by
  have hW' := hW
  obtain ⟨p, q, hA0, hV, rfl, hfz, hnd⟩ := hW
  have hA : DataW.TrodAll enc Tryz.prog W 0 (fun _ => true) true Tryz.f3.params.toList args.toList ds p := hA0
  obtain ⟨rfl, rfl⟩ := trodVars_none hV
  rw [Tryz.params3] at hA hval
  obtain ⟨v0, vs0, d0, ds0, p0, q0, hargs0, rfl, rfl, h0, r0⟩ := trodAll_cons hA
  obtain ⟨v1, vs1, d1, ds1, p1, q1, hargs1, rfl, rfl, h1, r1⟩ := trodAll_cons r0
  obtain ⟨v2, vs2, d2, ds2, p2, q2, hargs2, rfl, rfl, h2, r2⟩ := trodAll_cons r1
  obtain ⟨rfl, rfl, rfl⟩ := trodAll_nil r2
  subst hargs2
  subst hargs1
  obtain rfl : args = #[v0, v1, v2] := by cases args; simp_all
  obtain ⟨n0, l0, e0, s0, k0⟩ := in_struct flat (by decide) Tryz.underlying35 h0 (hval 0 35 v0 rfl rfl)
  obtain ⟨x0, rfl⟩ := in_tSig n0 l0 s0
  obtain ⟨n1, l1, e1, s1, k1⟩ := in_text flat (by decide) Tryz.underlying9 h1 (hval 1 9 v1 rfl rfl)
  obtain ⟨x1, z1⟩ := (in_s Tryz.underlying9) n1 _ s1
  obtain rfl := one_of (f := PVal.str) rfl z1
  obtain ⟨n2, l2, e2, s2, k2⟩ := in_slice flat (by decide) Tryz.underlying36 h2 (hval 2 36 v2 rfl rfl)
  obtain ⟨x2, z2⟩ := (in_l Tryz.underlying36 in_tVar) n2 _ s2
  obtain rfl := one_of (f := sl c_tVar) rfl z2
  have hs := plainFresh x0 x1 x2 (by simp only [List.append_nil, Rows.uptoBulkAll] at hb; omega)
  refine (start_calls (pargs := [.agg (c_tSig x0), .str x1, sl c_tVar x2]) (W35_AbstractFresh_ok hs).2 rfl (fun i p v hp hv => ?_) (tabs hL)).mono fun e W' he => ?_
  · match i, hp, hv with
    | 0, hp, hv => cases hp; cases hv; exact e0
    | 1, hp, hv => cases hp; cases hv; exact e1
    | 2, hp, hv => cases hp; cases hv; exact e2
    | i + 3, hp, hv => simp at hp
  · exact ⟨_, he.1, law_post (t := 4) lo (by kernel_rfl) Tryz.underlying4 rfl ⟨rfl, rfl, rfl⟩ rd hW' he.2⟩
noncomputable def laidWorld (os : Os) : World := layAt (World.holding Tryz.prog os ⟨#[], #[], []⟩) (tabsOf GE)
theorem laid_met (os : Os) : laidMet Tryz.prog Rows.abstractFreshUptoRow.laid ((laidWorld os).forCall (fun _ _ => 0) ⟨#[], #[.agg #[.slice none 0 0, .slice none 0 0, .slice none 0 0, .slice none 0 0, .int .i64 0, .string ⟨#[]⟩, .slice none 0 0, .slice none 0 0, .int .i64 0, .string ⟨#[]⟩, .int .i64 0, .slice none 0 0, .slice none 0 0, .slice none 0 0], .string ⟨#[]⟩, .slice none 0 0], []⟩).memory :=
  laidMet_of_run' 8 (by kernel_rfl) (by kernel_rfl)
theorem reads (os : Os) {H : Type} (enc : TypeId × Value → H) : ∃ places, DataW.whole enc Tryz.prog ((laidWorld os).forCall (fun _ _ => 0) ⟨#[], #[.agg #[.slice none 0 0, .slice none 0 0, .slice none 0 0, .slice none 0 0, .int .i64 0, .string ⟨#[]⟩, .slice none 0 0, .slice none 0 0, .int .i64 0, .string ⟨#[]⟩, .int .i64 0, .slice none 0 0, .slice none 0 0, .slice none 0 0], .string ⟨#[]⟩, .slice none 0 0], []⟩).memory Tryz.f3.params.toList Rows.abstractFreshSpec.vars false (#[.agg #[.slice none 0 0, .slice none 0 0, .slice none 0 0, .slice none 0 0, .int .i64 0, .string ⟨#[]⟩, .slice none 0 0, .slice none 0 0, .int .i64 0, .string ⟨#[]⟩, .int .i64 0, .slice none 0 0, .slice none 0 0, .slice none 0 0], .string ⟨#[]⟩, .slice none 0 0] : Array Value).toList 8 = some ([.agg [.nil, .nil, .nil, .nil, .agg [.lit (.int .i64 0), .lit (.string []), .nil, .nil, .agg [.lit (.int .i64 0), .lit (.string []), .lit (.int .i64 0), .nil], .nil], .nil], .lit (.string []), .nil], [], places) :=
  ⟨[], by kernel_rfl⟩
theorem lifted (os : Os) (started : os.Started) (H : Type) (enc : TypeId × Value → H) (F : Stop.Interp) :
    ReturnsInHanded {} Tryz.checked os 3 .any ((Rows.OpenSpec.upto Rows.abstractFreshSpec).preRow enc Tryz.prog Tryz.f3 Rows.abstractFreshUptoRow.domain false Rows.abstractFreshUptoRow.laid) (((Rows.OpenSpec.upto Rows.abstractFreshSpec).at F).post enc Tryz.prog Tryz.f3 false true false false) := by
  obtain ⟨places, hx⟩ := reads os enc
  refine returnsInHanded_of_row (C := Tryz.checked) (s := Rows.OpenSpec.upto Rows.abstractFreshSpec) own started (by kernel_rfl) Tryz.func3
    (witness_row_at (enc := enc) (C := Tryz.checked) false (laidWorld os) #[.agg #[.slice none 0 0, .slice none 0 0, .slice none 0 0, .slice none 0 0, .int .i64 0, .string ⟨#[]⟩, .slice none 0 0, .slice none 0 0, .int .i64 0, .string ⟨#[]⟩, .int .i64 0, .slice none 0 0, .slice none 0 0, .slice none 0 0], .string ⟨#[]⟩, .slice none 0 0] rfl (by kernel_rfl) (by kernel_rfl) (by kernel_rfl)
      (OpenSpec.preRow_of_cond 8 hx (by kernel_rfl) (fun k hk => by cases hk; kernel_rfl) (by kernel_rfl) (laid_met os))) ?_
  intro W base args ds gs before hval hW _ hk _ hL _ _
  exact contract H enc W base args ds gs before hval hW hL (of_decide_eq_true (hk _ rfl))
theorem said : Rows.AbstractFreshUptoSaid :=
  OpenClaim.holds_of_cond 3 Tryz.f3 rfl rfl rfl rfl rfl rfl rfl ⟨rfl, rfl, rfl, rfl, rfl⟩ rfl rfl rfl rfl rfl (by kernel_rfl) Tryz.func3 (by kernel_rfl)
    (of_decide_eq_true (by kernel_rfl)) (by unfold Func.isWrapper; first | (rw [if_pos (by decide +kernel)]; kernel_rfl) | (rw [if_neg (by decide +kernel)]; exact ⟨rfl, rfl⟩))
    (fun os started H enc _ F => by rw [OpenClaim.pre_eq_preRow]; exact lifted os started H enc F)
theorem plain (f : FuncId) (fn : Func) (hf : Tryz.pinned.checked.prog.funcNamed "liquidcheck/liquidchecklaw35.AbstractFresh" = some f) (hfn : Tryz.pinned.checked.prog.funcs[f]? = some fn) :
    false = Tryz.pinned.checked.prog.looks [] ∧ ∀ (j : Nat) t, fn.params[j]? = some t → Tryz.pinned.checked.prog.wantsStandIn t = false := by
  obtain rfl : f = 3 := Option.some.inj ((show Tryz.prog.funcNamed "liquidcheck/liquidchecklaw35.AbstractFresh" = some 3 by kernel_rfl).symm.trans hf) |>.symm
  obtain rfl : fn = Tryz.f3 := (Option.some.inj (Tryz.func3.symm.trans hfn)).symm
  refine ⟨by kernel_rfl, fun j t ht => ?_⟩
  rw [Tryz.params3] at ht
  have hm := Array.mem_of_getElem? ht
  simp at hm
  rcases hm with rfl | rfl | rfl
  all_goals exact (show Tryz.prog.wantsStandIn _ = false by kernel_rfl)
theorem card : Rows.AbstractFreshUptoCardSaid :=
  Claim7.holds_tied_plain_at .later [] _ _ _ _ said (fun _ h => by cases h) (by kernel_rfl) (fun _ h => by cases h) abstractFreshUpto_row_tie rfl ⟨rfl, rfl⟩ (by kernel_rfl) rfl plain (by kernel_rfl)
end Go.Proofs.YtgldgpdhblndkaaGreatDoor.lawAbstractFresh
