/-
  WHAT IS PROVED: what functions come to, as functions of plain data: liquidchecklaw04.alive, liquidcheckref04.Check, liquidcheckref04.Find, liquidcheckref04.Keyword, liquidcheckref04.Same, liquidcheckref04.capital, liquidcheckref04.digit, liquidcheckref04.keywords, liquidcheckref04.small, names.Find, names.Fresh, slices.Indexstring,string. Conditions: none. Printed by gen.py out of the seat's translation.
-/
import Derived.Test.YtgiimiklbabhcaaDoorG1
namespace Go.Proofs.YtgiimiklbabhcaaDoor
open Go
set_option linter.unusedVariables false
set_option maxRecDepth 100000

/-! liquidcheck/names.Fresh -/
noncomputable def b19 : Code := Tryd.f19.body.getD .skip
def A19 : List Nat := [24, 35]
noncomputable def names_Fresh_L1_S (base : Str) (t11 : (List Str)) (t12 : Int) (t13 : Int) (m0 : (List (Str × Bool))) : PSt := ⟨[u, .str base, u, u, u, .mapr 0, u, u, u, u, u, sl cS t11, .int .i64 t12, .int .i64 t13, u, u, u, u, u, u, u, u, u, u, u, u, u, u, u, u, u, u, u, u, u, u], [.map (encM PVal.bool m0)], []⟩
noncomputable def names_Fresh_L1_o0 (base : Str) (t11 : (List Str)) (t12 : Int) (o : (List (Str × Bool))) : PSt := ⟨[u, .str base, u, u, u, .mapr 0, u, u, u, u, u, u, u, u, u, u, u, u, u, u, u, u, u, u, u, u, u, u, u, u, u, u, u, u, u, u], [.map (encM PVal.bool o)], []⟩
noncomputable def names_Fresh_L1_e (_ : ((List (Str × Bool)))) : Exit := .exit 0
noncomputable def names_Fresh_L1_s (base : Str) (t11 : (List Str)) (t12 : Int) (o : ((List (Str × Bool)))) : PSt := names_Fresh_L1_o0 base t11 t12 o
noncomputable def names_Fresh_L1_b (t11 : (List Str)) (t12 : Int) (t13 : Int) (m0 : (List (Str × Bool))) : Option ((Int × (List (Str × Bool))) ⊕ (((List (Str × Bool))))) :=
  if (decide (t13 < t12)) = true then
    (idx t11 t13).bind fun x2 =>
    some (.inl (w64 (t13 + 1), mput m0 x2 true))
  else
    some (.inr m0)
noncomputable def names_Fresh_L1 (t11 : (List Str)) (t12 : Int) (t13 : Int) (m0 : (List (Str × Bool))) : Option (((List (Str × Bool)))) := loop (fun (zz : Int × (List (Str × Bool))) => names_Fresh_L1_b t11 t12 zz.1 zz.2) (t13, m0)
theorem names_Fresh_L1_bok (base : Str) (t11 : (List Str)) (t12 : Int) (t13 : Int) (m0 : (List (Str × Bool))) {y : (Int × (List (Str × Bool))) ⊕ (((List (Str × Bool))))} (h : names_Fresh_L1_b t11 t12 t13 m0 = some y) :
    Sat Pg GE 0 (codeAt b19 [true, true, false, true, true, true]) (LQ (fun (zz : Int × (List (Str × Bool))) => names_Fresh_L1_S base t11 t12 zz.1 zz.2) names_Fresh_L1_e (names_Fresh_L1_s base t11 t12) y) (names_Fresh_L1_S base t11 t12 t13 m0) := by
  rcases ifs h with ⟨c1, h⟩ | ⟨c1, h⟩
  · obtain ⟨x2, bx2, h⟩ := bnd h
    obtain rfl := lf h
    exact next (A := A19) mixed [.g 0 true, .v (.eptr (cS x2)), .v (.str x2), .w 0 (.map (encM PVal.bool (mput m0 x2 true)))] (Eq.mp (by kernel_rfl) (aI c1 <| aI (sT26.ia (k := .i64) bx2) <| aI (plook1 sc9 (.str x2) []) <| aI (mapPut (f := PVal.bool) Tryd.underlying40 Tryd.underlying9 m0 x2 true) <| aI (rE .normal) <| fr (names_Fresh_L1_S base t11 t12 (w64 (t13 + 1)) (mput m0 x2 true))))
  · obtain rfl := lf h
    exact over (A := A19) mixed [.g 0 false] (by intro hx; cases hx) (Eq.mp (by kernel_rfl) (aI c1 <| aI (rE (names_Fresh_L1_e m0)) <| fr (names_Fresh_L1_s base t11 t12 m0)))
theorem names_Fresh_L1_ok (base : Str) (t11 : (List Str)) (t12 : Int) (t13 : Int) (m0 : (List (Str × Bool))) {x : ((List (Str × Bool)))} (h : names_Fresh_L1 t11 t12 t13 m0 = some x) :
    Sat Pg GE 0 (.loop (codeAt b19 [true, true, false, true, true, true])) (EX (names_Fresh_L1_e x) (names_Fresh_L1_s base t11 t12 x)) (names_Fresh_L1_S base t11 t12 t13 m0) :=
  Sat.loop (S := fun (zz : Int × (List (Str × Bool))) => names_Fresh_L1_S base t11 t12 zz.1 zz.2) h fun zz y hy => names_Fresh_L1_bok base t11 t12 zz.1 zz.2 hy
noncomputable def names_Fresh_L2_S (base : Str) (n : Int) (m0 : (List (Str × Bool))) : PSt := ⟨[u, .str base, u, u, u, .mapr 0, u, u, .int .i64 n, u, u, u, u, u, u, u, u, u, u, u, u, u, u, u, u, u, u, u, u, u, u, u, u, u, u, u], [.map (encM PVal.bool m0)], []⟩
noncomputable def names_Fresh_L2_o0 (base : Str) (m0 : (List (Str × Bool))) (o : Str) : PSt := ⟨[u, u, u, u, .str o, u, u, u, u, u, u, u, u, u, u, u, u, u, u, u, u, u, u, u, u, u, u, u, u, u, u, u, u, u, u, u], [.map (encM PVal.bool m0)], []⟩
noncomputable def names_Fresh_L2_e (_ : (Str)) : Exit := .ret
noncomputable def names_Fresh_L2_s (base : Str) (m0 : (List (Str × Bool))) (o : (Str)) : PSt := names_Fresh_L2_o0 base m0 o
noncomputable def names_Fresh_L2_b (base : Str) (m0 : (List (Str × Bool))) (n : Int) : Option ((Int) ⊕ ((Str))) :=
  (itoaF n).bind fun r5 =>
  (cat base r5).bind fun s6 =>
  if (!((mget m0 s6).getD false)) = true then
    some (.inr s6)
  else
    some (.inl (w64 (n + 1)))
noncomputable def names_Fresh_L2 (base : Str) (m0 : (List (Str × Bool))) (n : Int) : Option ((Str)) := loop (fun (zz : Int) => names_Fresh_L2_b base m0 zz) n
theorem names_Fresh_L2_bok (base : Str) (n : Int) (m0 : (List (Str × Bool))) {y : (Int) ⊕ ((Str))} (h : names_Fresh_L2_b base m0 n = some y) :
    Sat Pg GE 0 (codeAt b19 [true, true, true, true, true, true, true]) (LQ (fun (zz : Int) => names_Fresh_L2_S base zz m0) names_Fresh_L2_e (names_Fresh_L2_s base m0) y) (names_Fresh_L2_S base n m0) := by
  obtain ⟨r5, br5, h⟩ := bnd h
  obtain ⟨s6, bs6, h⟩ := bnd h
  rcases ifs h with ⟨c7, h⟩ | ⟨c7, h⟩
  · obtain rfl := lf h
    exact over (A := A19) mixed [.c (.str r5) [], .v (.str s6), .v (.bool ((mget m0 s6).getD false)), .g 0 true] (by intro hx; cases hx) (Eq.mp (by kernel_rfl) (aI (itoa_ok br5) <| aI (strCat (P := Pg) (t := 9) bs6) <| aI (mapGet (f := PVal.bool) Tryd.underlying40 Tryd.underlying9 zv4 m0 s6) <| aI c7 <| aI (rE (names_Fresh_L2_e s6)) <| fr (names_Fresh_L2_s base m0 s6)))
  · obtain rfl := lf h
    exact next (A := A19) mixed [.c (.str r5) [], .v (.str s6), .v (.bool ((mget m0 s6).getD false)), .g 0 false] (Eq.mp (by kernel_rfl) (aI (itoa_ok br5) <| aI (strCat (P := Pg) (t := 9) bs6) <| aI (mapGet (f := PVal.bool) Tryd.underlying40 Tryd.underlying9 zv4 m0 s6) <| aI c7 <| aI (rE .normal) <| fr (names_Fresh_L2_S base (w64 (n + 1)) m0)))
theorem names_Fresh_L2_ok (base : Str) (n : Int) (m0 : (List (Str × Bool))) {x : (Str)} (h : names_Fresh_L2 base m0 n = some x) :
    Sat Pg GE 0 (.loop (codeAt b19 [true, true, true, true, true, true, true])) (EX (names_Fresh_L2_e x) (names_Fresh_L2_s base m0 x)) (names_Fresh_L2_S base n m0) :=
  Sat.loop (S := fun (zz : Int) => names_Fresh_L2_S base zz m0) h fun zz y hy => names_Fresh_L2_bok base zz m0 hy
noncomputable def names_Fresh (used : (List Str)) (base : Str) : Option (Str) :=
  (names_Fresh_L1 used (used.length : Int) 0 ([] : List (Str × Bool))).bind fun o3 =>
  if (!((mget o3 base).getD false)) = true then
    some base
  else
    (names_Fresh_L2 base o3 1).bind fun o8 =>
    some o8
theorem names_Fresh_ok {used : (List Str)} {base : Str} {r : Str} (h : names_Fresh used base = some r) : CC Pg GE 19 [sl cS used, .str base] (.str r) [] := by
  obtain ⟨o3, bo3, h⟩ := bnd h
  rcases ifs h with ⟨c4, h⟩ | ⟨c4, h⟩
  · obtain rfl := lf h
    exact C.ev (A := A19) mixed Tryd.call19 Tryd.func19 (c := b19) rfl (aI (cl_sl clS used) (aI trivial trivial)) [.v (.int .i64 (used.length : Int)), .pc (names_Fresh_L1_S base used (used.length : Int) 0 ([] : List (Str × Bool))) (.exit 0) (names_Fresh_L1_s base used (used.length : Int) o3), .v (.bool ((mget o3 base).getD false)), .g 0 true] (Eq.mp (by kernel_rfl) (aI (sT26.ln used) <| aI (fr (names_Fresh_L1_S base used (used.length : Int) 0 ([] : List (Str × Bool)))) <| aI (names_Fresh_L1_ok base used (used.length : Int) 0 ([] : List (Str × Bool)) bo3) <| aI (mapGet (f := PVal.bool) Tryd.underlying40 Tryd.underlying9 zv4 o3 base) <| aI c4 <| aI (rP (.str base)) <| trivial))
  · obtain ⟨o8, bo8, h⟩ := bnd h
    obtain rfl := lf h
    exact C.ev (A := A19) mixed Tryd.call19 Tryd.func19 (c := b19) rfl (aI (cl_sl clS used) (aI trivial trivial)) [.v (.int .i64 (used.length : Int)), .pc (names_Fresh_L1_S base used (used.length : Int) 0 ([] : List (Str × Bool))) (.exit 0) (names_Fresh_L1_s base used (used.length : Int) o3), .v (.bool ((mget o3 base).getD false)), .g 0 false, .pc (names_Fresh_L2_S base 1 o3) (.ret) (names_Fresh_L2_s base o3 o8)] (Eq.mp (by kernel_rfl) (aI (sT26.ln used) <| aI (fr (names_Fresh_L1_S base used (used.length : Int) 0 ([] : List (Str × Bool)))) <| aI (names_Fresh_L1_ok base used (used.length : Int) 0 ([] : List (Str × Bool)) bo3) <| aI (mapGet (f := PVal.bool) Tryd.underlying40 Tryd.underlying9 zv4 o3 base) <| aI c4 <| aI (fr (names_Fresh_L2_S base 1 o3)) <| aI (names_Fresh_L2_ok base 1 o3 bo8) <| aI (rP (.str o8)) <| trivial))

/-! liquidcheck/liquidcheckref04.Same -/
noncomputable def b23 : Code := Tryd.f23.body.getD .skip
def A23 : List Nat := [15]
noncomputable def R04_Same_L1_S (v : (List Str)) (v2 : (List Str)) (t12 : Int) (t13 : Int) : PSt := ⟨[sl cS v, sl cS v2, u, u, u, u, u, u, u, u, u, u, .int .i64 t12, .int .i64 t13, u, u, u, u, u, u, u, u, u, u, u, u], [], []⟩
noncomputable def R04_Same_L1_o0 (v : (List Str)) (v2 : (List Str)) (t12 : Int) (o : Unit) : PSt := ⟨[u, u, u, u, .bool false, u, u, u, u, u, u, u, u, u, u, u, u, u, u, u, u, u, u, u, u, u], [], []⟩
noncomputable def R04_Same_L1_o1 (v : (List Str)) (v2 : (List Str)) (t12 : Int) (o : Unit) : PSt := ⟨[u, u, u, u, u, u, u, u, u, u, u, u, u, u, u, u, u, u, u, u, u, u, u, u, u, u], [], []⟩
noncomputable def R04_Same_L1_e (o : (Unit) ⊕ (Unit)) : Exit := match o with
  | (.inl _) => .ret
  | (.inr _) => .exit 0
noncomputable def R04_Same_L1_s (v : (List Str)) (v2 : (List Str)) (t12 : Int) (o : (Unit) ⊕ (Unit)) : PSt := match o with
  | (.inl o) => R04_Same_L1_o0 v v2 t12 o
  | (.inr o) => R04_Same_L1_o1 v v2 t12 o
noncomputable def R04_Same_L1_b (v : (List Str)) (v2 : (List Str)) (t12 : Int) (t13 : Int) : Option ((Int) ⊕ ((Unit) ⊕ (Unit))) :=
  if (decide (t13 < t12)) = true then
    (idx v t13).bind fun x3 =>
    (idx v2 t13).bind fun x4 =>
    if (!(x3 == x4)) = true then
      some (.inr (.inl ()))
    else
      some (.inl (w64 (t13 + 1)))
  else
    some (.inr (.inr ()))
noncomputable def R04_Same_L1 (v : (List Str)) (v2 : (List Str)) (t12 : Int) (t13 : Int) : Option ((Unit) ⊕ (Unit)) := loop (fun (zz : Int) => R04_Same_L1_b v v2 t12 zz) t13
theorem R04_Same_L1_bok (v : (List Str)) (v2 : (List Str)) (t12 : Int) (t13 : Int) {y : (Int) ⊕ ((Unit) ⊕ (Unit))} (h : R04_Same_L1_b v v2 t12 t13 = some y) :
    Sat Pg GE 0 (codeAt b23 [true, true, false, true, true, true]) (LQ (fun (zz : Int) => R04_Same_L1_S v v2 t12 zz) R04_Same_L1_e (R04_Same_L1_s v v2 t12) y) (R04_Same_L1_S v v2 t12 t13) := by
  rcases ifs h with ⟨c2, h⟩ | ⟨c2, h⟩
  · obtain ⟨x3, bx3, h⟩ := bnd h
    obtain ⟨x4, bx4, h⟩ := bnd h
    rcases ifs h with ⟨c5, h⟩ | ⟨c5, h⟩
    · obtain rfl := lf h
      exact over (A := A23) mixed [.g 0 true, .dr [0, 0, 3, 7, 0, 0, 48, 112, 255], .v (.eptr (cS x3)), .v (.str x3), .v (.eptr (cS x4)), .v (.str x4), .g 0 true] (by intro hx; cases hx) (Eq.mp (by kernel_rfl) (aI c2 <| aI (sT26.ia (k := .i64) bx3) <| aI (plook1 sc9 (.str x3) []) <| aI (sT26.ia (k := .i64) bx4) <| aI (plook1 sc9 (.str x4) []) <| aI c5 <| aI (rE (R04_Same_L1_e (.inl ()))) <| fr (R04_Same_L1_s v v2 t12 (.inl ()))))
    · obtain rfl := lf h
      exact next (A := A23) mixed [.g 0 true, .dr [0, 0, 3, 7, 0, 0, 48, 112, 255], .v (.eptr (cS x3)), .v (.str x3), .v (.eptr (cS x4)), .v (.str x4), .g 0 false] (Eq.mp (by kernel_rfl) (aI c2 <| aI (sT26.ia (k := .i64) bx3) <| aI (plook1 sc9 (.str x3) []) <| aI (sT26.ia (k := .i64) bx4) <| aI (plook1 sc9 (.str x4) []) <| aI c5 <| aI (rE .normal) <| fr (R04_Same_L1_S v v2 t12 (w64 (t13 + 1)))))
  · obtain rfl := lf h
    exact over (A := A23) mixed [.g 0 false] (by intro hx; cases hx) (Eq.mp (by kernel_rfl) (aI c2 <| aI (rE (R04_Same_L1_e (.inr ()))) <| fr (R04_Same_L1_s v v2 t12 (.inr ()))))
theorem R04_Same_L1_ok (v : (List Str)) (v2 : (List Str)) (t12 : Int) (t13 : Int) {x : (Unit) ⊕ (Unit)} (h : R04_Same_L1 v v2 t12 t13 = some x) :
    Sat Pg GE 0 (.loop (codeAt b23 [true, true, false, true, true, true])) (EX (R04_Same_L1_e x) (R04_Same_L1_s v v2 t12 x)) (R04_Same_L1_S v v2 t12 t13) :=
  Sat.loop (S := fun (zz : Int) => R04_Same_L1_S v v2 t12 zz) h fun zz y hy => R04_Same_L1_bok v v2 t12 zz hy
noncomputable def R04_Same (a : (List Str)) (a2 : (List Str)) : Option (Bool) :=
  if ((a.length : Int) != (a2.length : Int)) = true then
    some false
  else
    (R04_Same_L1 a a2 (a.length : Int) 0).bind fun o6 => match o6 with
    | (.inl o6) =>
      some false
    | (.inr o6) =>
      some true
theorem R04_Same_ok {a : (List Str)} {a2 : (List Str)} {r : Bool} (h : R04_Same a a2 = some r) : CC Pg GE 23 [sl cS a, sl cS a2] (.bool r) [] := by
  rcases ifs h with ⟨c1, h⟩ | ⟨c1, h⟩
  · obtain rfl := lf h
    exact C.ev (A := A23) mixed Tryd.call23 Tryd.func23 (c := b23) rfl (aI (cl_sl clS a) (aI (cl_sl clS a2) trivial)) [.v (.int .i64 (a.length : Int)), .v (.int .i64 (a2.length : Int)), .g 0 true] (Eq.mp (by kernel_rfl) (aI (sT26.ln a) <| aI (sT26.ln a2) <| aI c1 <| aI (rP (.bool false)) <| trivial))
  · obtain ⟨o6, bo6, h⟩ := bnd h
    rcases o6 with o6 | o6
    · obtain rfl := lf h
      exact C.ev (A := A23) mixed Tryd.call23 Tryd.func23 (c := b23) rfl (aI (cl_sl clS a) (aI (cl_sl clS a2) trivial)) [.v (.int .i64 (a.length : Int)), .v (.int .i64 (a2.length : Int)), .g 0 false, .v (.int .i64 (a.length : Int)), .pc (R04_Same_L1_S a a2 (a.length : Int) 0) (.ret) (R04_Same_L1_s a a2 (a.length : Int) (.inl o6))] (Eq.mp (by kernel_rfl) (aI (sT26.ln a) <| aI (sT26.ln a2) <| aI c1 <| aI (sT26.ln a) <| aI (fr (R04_Same_L1_S a a2 (a.length : Int) 0)) <| aI (R04_Same_L1_ok a a2 (a.length : Int) 0 bo6) <| aI (rP (.bool false)) <| trivial))
    · obtain rfl := lf h
      exact C.ev (A := A23) mixed Tryd.call23 Tryd.func23 (c := b23) rfl (aI (cl_sl clS a) (aI (cl_sl clS a2) trivial)) [.v (.int .i64 (a.length : Int)), .v (.int .i64 (a2.length : Int)), .g 0 false, .v (.int .i64 (a.length : Int)), .pc (R04_Same_L1_S a a2 (a.length : Int) 0) (.exit 0) (R04_Same_L1_s a a2 (a.length : Int) (.inr o6))] (Eq.mp (by kernel_rfl) (aI (sT26.ln a) <| aI (sT26.ln a2) <| aI c1 <| aI (sT26.ln a) <| aI (fr (R04_Same_L1_S a a2 (a.length : Int) 0)) <| aI (R04_Same_L1_ok a a2 (a.length : Int) 0 bo6) <| aI (rP (.bool true)) <| trivial))

/-! slices.Index[[]string,string] -/
noncomputable def b43 : Code := Tryd.f43.body.getD .skip
def A43 : List Nat := [10, 17]
noncomputable def slices_Index_L1_S (s : (List Str)) (v : Str) (t7 : Int) (t8 : Int) : PSt := ⟨[sl cS s, .str v, u, u, u, u, u, .int .i64 t7, .int .i64 t8, u, u, u, u, u, u, u, u, u, u], [], []⟩
noncomputable def slices_Index_L1_o0 (s : (List Str)) (v : Str) (t7 : Int) (o : Int) : PSt := ⟨[u, u, u, u, .int .i64 o, u, u, u, u, u, u, u, u, u, u, u, u, u, u], [], []⟩
noncomputable def slices_Index_L1_o1 (s : (List Str)) (v : Str) (t7 : Int) (o : Unit) : PSt := ⟨[u, u, u, u, u, u, u, u, u, u, u, u, u, u, u, u, u, u, u], [], []⟩
noncomputable def slices_Index_L1_e (o : (Int) ⊕ (Unit)) : Exit := match o with
  | (.inl _) => .ret
  | (.inr _) => .exit 0
noncomputable def slices_Index_L1_s (s : (List Str)) (v : Str) (t7 : Int) (o : (Int) ⊕ (Unit)) : PSt := match o with
  | (.inl o) => slices_Index_L1_o0 s v t7 o
  | (.inr o) => slices_Index_L1_o1 s v t7 o
noncomputable def slices_Index_L1_b (s : (List Str)) (v : Str) (t7 : Int) (t8 : Int) : Option ((Int) ⊕ ((Int) ⊕ (Unit))) :=
  if (decide (t8 < t7)) = true then
    (idx s t8).bind fun x2 =>
    if (v == x2) = true then
      some (.inr (.inl t8))
    else
      some (.inl (w64 (t8 + 1)))
  else
    some (.inr (.inr ()))
noncomputable def slices_Index_L1 (s : (List Str)) (v : Str) (t7 : Int) (t8 : Int) : Option ((Int) ⊕ (Unit)) := loop (fun (zz : Int) => slices_Index_L1_b s v t7 zz) t8
theorem slices_Index_L1_bok (s : (List Str)) (v : Str) (t7 : Int) (t8 : Int) {y : (Int) ⊕ ((Int) ⊕ (Unit))} (h : slices_Index_L1_b s v t7 t8 = some y) :
    Sat Pg GE 0 (codeAt b43 [true, false, true, true, true]) (LQ (fun (zz : Int) => slices_Index_L1_S s v t7 zz) slices_Index_L1_e (slices_Index_L1_s s v t7) y) (slices_Index_L1_S s v t7 t8) := by
  rcases ifs h with ⟨c1, h⟩ | ⟨c1, h⟩
  · obtain ⟨x2, bx2, h⟩ := bnd h
    rcases ifs h with ⟨c3, h⟩ | ⟨c3, h⟩
    · obtain rfl := lf h
      exact over (A := A43) mixed [.g 0 true, .v (.eptr (cS x2)), .v (.str x2), .g 0 true] (by intro hx; cases hx) (Eq.mp (by kernel_rfl) (aI c1 <| aI (sT26.ia (k := .i64) bx2) <| aI (plook1 sc9 (.str x2) []) <| aI c3 <| aI (rE (slices_Index_L1_e (.inl t8))) <| fr (slices_Index_L1_s s v t7 (.inl t8))))
    · obtain rfl := lf h
      exact next (A := A43) mixed [.g 0 true, .v (.eptr (cS x2)), .v (.str x2), .g 0 false] (Eq.mp (by kernel_rfl) (aI c1 <| aI (sT26.ia (k := .i64) bx2) <| aI (plook1 sc9 (.str x2) []) <| aI c3 <| aI (rE .normal) <| fr (slices_Index_L1_S s v t7 (w64 (t8 + 1)))))
  · obtain rfl := lf h
    exact over (A := A43) mixed [.g 0 false] (by intro hx; cases hx) (Eq.mp (by kernel_rfl) (aI c1 <| aI (rE (slices_Index_L1_e (.inr ()))) <| fr (slices_Index_L1_s s v t7 (.inr ()))))
theorem slices_Index_L1_ok (s : (List Str)) (v : Str) (t7 : Int) (t8 : Int) {x : (Int) ⊕ (Unit)} (h : slices_Index_L1 s v t7 t8 = some x) :
    Sat Pg GE 0 (.loop (codeAt b43 [true, false, true, true, true])) (EX (slices_Index_L1_e x) (slices_Index_L1_s s v t7 x)) (slices_Index_L1_S s v t7 t8) :=
  Sat.loop (S := fun (zz : Int) => slices_Index_L1_S s v t7 zz) h fun zz y hy => slices_Index_L1_bok s v t7 zz hy
noncomputable def slices_Index (s : (List Str)) (v : Str) : Option (Int) :=
  (slices_Index_L1 s v (s.length : Int) 0).bind fun o4 => match o4 with
  | (.inl o4) =>
    some o4
  | (.inr o4) =>
    some (-1)
theorem slices_Index_ok {s : (List Str)} {v : Str} {r : Int} (h : slices_Index s v = some r) : CC Pg GE 43 [sl cS s, .str v] (.int .i64 r) [] := by
  obtain ⟨o4, bo4, h⟩ := bnd h
  rcases o4 with o4 | o4
  · obtain rfl := lf h
    exact C.ev (A := A43) mixed Tryd.call43 Tryd.func43 (c := b43) rfl (aI (cl_sl clS s) (aI trivial trivial)) [.v (.int .i64 (s.length : Int)), .pc (slices_Index_L1_S s v (s.length : Int) 0) (.ret) (slices_Index_L1_s s v (s.length : Int) (.inl o4))] (Eq.mp (by kernel_rfl) (aI (sT26.ln s) <| aI (fr (slices_Index_L1_S s v (s.length : Int) 0)) <| aI (slices_Index_L1_ok s v (s.length : Int) 0 bo4) <| aI (rP (.int .i64 o4)) <| trivial))
  · obtain rfl := lf h
    exact C.ev (A := A43) mixed Tryd.call43 Tryd.func43 (c := b43) rfl (aI (cl_sl clS s) (aI trivial trivial)) [.v (.int .i64 (s.length : Int)), .pc (slices_Index_L1_S s v (s.length : Int) 0) (.exit 0) (slices_Index_L1_s s v (s.length : Int) (.inr o4))] (Eq.mp (by kernel_rfl) (aI (sT26.ln s) <| aI (fr (slices_Index_L1_S s v (s.length : Int) 0)) <| aI (slices_Index_L1_ok s v (s.length : Int) 0 bo4) <| aI (rP (.int .i64 (-1))) <| trivial))

/-! liquidcheck/names.Find -/
noncomputable def b21 : Code := Tryd.f21.body.getD .skip
def A21 : List Nat := []
noncomputable def names_Find (a : (List Str)) (s : Str) : Option (Int) :=
  (slices_Index a s).bind fun r1 =>
  some r1
theorem names_Find_ok {a : (List Str)} {s : Str} {r : Int} (h : names_Find a s = some r) : CC Pg GE 21 [sl cS a, .str s] (.int .i64 r) [] := by
  obtain ⟨r1, br1, h⟩ := bnd h
  obtain rfl := lf h
  exact C.ev (A := A21) mixed Tryd.call21 Tryd.func21 (c := b21) rfl (aI (cl_sl clS a) (aI trivial trivial)) [.c (.int .i64 r1) []] (Eq.mp (by kernel_rfl) (aI (slices_Index_ok br1) <| aI (rP (.int .i64 r1)) <| trivial))

/-! liquidcheck/liquidchecklaw04.alive -/
noncomputable def b9 : Code := Tryd.f9.body.getD .skip
def A9 : List Nat := []
noncomputable def W04_alive : Option (Bool) :=
  (names_Keyword ([109, 111, 100] : Str)).bind fun r1 =>
  if r1 = true then
    (names_Keyword ([77, 111, 100] : Str)).bind fun r3 =>
    if (!r3) = true then
      (names_Check ([97, 110, 100, 95, 116, 104, 101, 110] : Str)).bind fun r5 =>
      if (r5 == 0) = true then
        (names_Check ([118] : Str)).bind fun r7 =>
        if (r7 == 3) = true then
          (names_Title ([84, 50] : Str)).bind fun r9 =>
          if (r9 == 0) = true then
            (names_Title ([73, 110, 116] : Str)).bind fun r11 =>
            if (r11 == 3) = true then
              (names_Core ([76, 105, 115, 116, 46, 73, 110, 116] : Str)).bind fun r13 =>
              if (r13 == 0) = true then
                (names_Core ([118] : Str)).bind fun r15 =>
                if (r15 == 3) = true then
                  (names_Core ([118, 46, 51] : Str)).bind fun r17 =>
                  if (r17 == 0) = true then
                    (names_Fresh ([([120] : Str), ([120, 49] : Str), ([120, 51] : Str)] : List Str) ([120] : Str)).bind fun r19 =>
                    if (r19 == ([120, 50] : Str)) = true then
                      (names_Union ([([98] : Str), ([97] : Str)] : List Str) ([([98] : Str)] : List Str)).bind fun r21 =>
                      (R04_Same r21 ([([97] : Str), ([98] : Str)] : List Str)).bind fun r22 =>
                      if r22 = true then
                        (names_Find ([([97] : Str), ([98] : Str)] : List Str) ([98] : Str)).bind fun r24 =>
                        some (r24 == 1)
                      else
                        some false
                    else
                      some false
                  else
                    some false
                else
                  some false
              else
                some false
            else
              some false
          else
            some false
        else
          some false
      else
        some false
    else
      some false
  else
    some false
theorem W04_alive_ok {r : Bool} (h : W04_alive = some r) : CC Pg GE 9 [] (.bool r) [] := by
  obtain ⟨r1, br1, h⟩ := bnd h
  rcases ifs h with ⟨c2, h⟩ | ⟨c2, h⟩
  · obtain ⟨r3, br3, h⟩ := bnd h
    rcases ifs h with ⟨c4, h⟩ | ⟨c4, h⟩
    · obtain ⟨r5, br5, h⟩ := bnd h
      rcases ifs h with ⟨c6, h⟩ | ⟨c6, h⟩
      · obtain ⟨r7, br7, h⟩ := bnd h
        rcases ifs h with ⟨c8, h⟩ | ⟨c8, h⟩
        · obtain ⟨r9, br9, h⟩ := bnd h
          rcases ifs h with ⟨c10, h⟩ | ⟨c10, h⟩
          · obtain ⟨r11, br11, h⟩ := bnd h
            rcases ifs h with ⟨c12, h⟩ | ⟨c12, h⟩
            · obtain ⟨r13, br13, h⟩ := bnd h
              rcases ifs h with ⟨c14, h⟩ | ⟨c14, h⟩
              · obtain ⟨r15, br15, h⟩ := bnd h
                rcases ifs h with ⟨c16, h⟩ | ⟨c16, h⟩
                · obtain ⟨r17, br17, h⟩ := bnd h
                  rcases ifs h with ⟨c18, h⟩ | ⟨c18, h⟩
                  · obtain ⟨r19, br19, h⟩ := bnd h
                    rcases ifs h with ⟨c20, h⟩ | ⟨c20, h⟩
                    · obtain ⟨r21, br21, h⟩ := bnd h
                      obtain ⟨r22, br22, h⟩ := bnd h
                      rcases ifs h with ⟨c23, h⟩ | ⟨c23, h⟩
                      · obtain ⟨r24, br24, h⟩ := bnd h
                        obtain rfl := lf h
                        exact C.ev (A := A9) mixed Tryd.call9 Tryd.func9 (c := b9) rfl trivial [.c (.bool r1) [], .g 2 true, .c (.bool r3) [], .g 6 true, .c (.int .i64 r5) [], .g 10 true, .c (.int .i64 r7) [], .g 14 true, .c (.int .i64 r9) [], .g 18 true, .c (.int .i64 r11) [], .g 22 true, .c (.int .i64 r13) [], .g 26 true, .c (.int .i64 r15) [], .g 30 true, .c (.int .i64 r17) [], .g 34 true, .v (sl cS ([([120] : Str), ([120, 49] : Str), ([120, 51] : Str)] : List Str)), .c (.str r19) [], .g 39 true, .v (sl cS ([([98] : Str), ([97] : Str)] : List Str)), .v (sl cS ([([98] : Str)] : List Str)), .c (sl cS r21) [(0, 9)], .v (sl cS ([([97] : Str), ([98] : Str)] : List Str)), .c (.bool r22) [], .g 46 true, .v (sl cS ([([97] : Str), ([98] : Str)] : List Str)), .c (.int .i64 r24) []] (Eq.mp (by kernel_rfl) (aI (names_Keyword_ok br1) <| aI c2 <| aI (names_Keyword_ok br3) <| aI c4 <| aI (names_Check_ok br5) <| aI c6 <| aI (names_Check_ok br7) <| aI c8 <| aI (names_Title_ok br9) <| aI c10 <| aI (names_Title_ok br11) <| aI c12 <| aI (names_Core_ok br13) <| aI c14 <| aI (names_Core_ok br15) <| aI c16 <| aI (names_Core_ok br17) <| aI c18 <| aI (sT26.mk' (v := PVal.str) pcS ([([120] : Str), ([120, 49] : Str), ([120, 51] : Str)] : List Str) 3 (by kernel_rfl)) <| aI (names_Fresh_ok br19) <| aI c20 <| aI (sT26.mk' (v := PVal.str) pcS ([([98] : Str), ([97] : Str)] : List Str) 2 (by kernel_rfl)) <| aI (sT26.mk' (v := PVal.str) pcS ([([98] : Str)] : List Str) 1 (by kernel_rfl)) <| aI (names_Union_ok br21) <| aI (sT26.mk' (v := PVal.str) pcS ([([97] : Str), ([98] : Str)] : List Str) 2 (by kernel_rfl)) <| aI (R04_Same_ok br22) <| aI c23 <| aI (sT26.mk' (v := PVal.str) pcS ([([97] : Str), ([98] : Str)] : List Str) 2 (by kernel_rfl)) <| aI (names_Find_ok br24) <| aI (rP (.bool (r24 == 1))) <| trivial))
                      · obtain rfl := lf h
                        exact C.ev (A := A9) mixed Tryd.call9 Tryd.func9 (c := b9) rfl trivial [.c (.bool r1) [], .g 2 true, .c (.bool r3) [], .g 6 true, .c (.int .i64 r5) [], .g 10 true, .c (.int .i64 r7) [], .g 14 true, .c (.int .i64 r9) [], .g 18 true, .c (.int .i64 r11) [], .g 22 true, .c (.int .i64 r13) [], .g 26 true, .c (.int .i64 r15) [], .g 30 true, .c (.int .i64 r17) [], .g 34 true, .v (sl cS ([([120] : Str), ([120, 49] : Str), ([120, 51] : Str)] : List Str)), .c (.str r19) [], .g 39 true, .v (sl cS ([([98] : Str), ([97] : Str)] : List Str)), .v (sl cS ([([98] : Str)] : List Str)), .c (sl cS r21) [(0, 9)], .v (sl cS ([([97] : Str), ([98] : Str)] : List Str)), .c (.bool r22) [], .g 46 false] (Eq.mp (by kernel_rfl) (aI (names_Keyword_ok br1) <| aI c2 <| aI (names_Keyword_ok br3) <| aI c4 <| aI (names_Check_ok br5) <| aI c6 <| aI (names_Check_ok br7) <| aI c8 <| aI (names_Title_ok br9) <| aI c10 <| aI (names_Title_ok br11) <| aI c12 <| aI (names_Core_ok br13) <| aI c14 <| aI (names_Core_ok br15) <| aI c16 <| aI (names_Core_ok br17) <| aI c18 <| aI (sT26.mk' (v := PVal.str) pcS ([([120] : Str), ([120, 49] : Str), ([120, 51] : Str)] : List Str) 3 (by kernel_rfl)) <| aI (names_Fresh_ok br19) <| aI c20 <| aI (sT26.mk' (v := PVal.str) pcS ([([98] : Str), ([97] : Str)] : List Str) 2 (by kernel_rfl)) <| aI (sT26.mk' (v := PVal.str) pcS ([([98] : Str)] : List Str) 1 (by kernel_rfl)) <| aI (names_Union_ok br21) <| aI (sT26.mk' (v := PVal.str) pcS ([([97] : Str), ([98] : Str)] : List Str) 2 (by kernel_rfl)) <| aI (R04_Same_ok br22) <| aI c23 <| aI (rP (.bool false)) <| trivial))
                    · obtain rfl := lf h
                      exact C.ev (A := A9) mixed Tryd.call9 Tryd.func9 (c := b9) rfl trivial [.c (.bool r1) [], .g 2 true, .c (.bool r3) [], .g 6 true, .c (.int .i64 r5) [], .g 10 true, .c (.int .i64 r7) [], .g 14 true, .c (.int .i64 r9) [], .g 18 true, .c (.int .i64 r11) [], .g 22 true, .c (.int .i64 r13) [], .g 26 true, .c (.int .i64 r15) [], .g 30 true, .c (.int .i64 r17) [], .g 34 true, .v (sl cS ([([120] : Str), ([120, 49] : Str), ([120, 51] : Str)] : List Str)), .c (.str r19) [], .g 39 false] (Eq.mp (by kernel_rfl) (aI (names_Keyword_ok br1) <| aI c2 <| aI (names_Keyword_ok br3) <| aI c4 <| aI (names_Check_ok br5) <| aI c6 <| aI (names_Check_ok br7) <| aI c8 <| aI (names_Title_ok br9) <| aI c10 <| aI (names_Title_ok br11) <| aI c12 <| aI (names_Core_ok br13) <| aI c14 <| aI (names_Core_ok br15) <| aI c16 <| aI (names_Core_ok br17) <| aI c18 <| aI (sT26.mk' (v := PVal.str) pcS ([([120] : Str), ([120, 49] : Str), ([120, 51] : Str)] : List Str) 3 (by kernel_rfl)) <| aI (names_Fresh_ok br19) <| aI c20 <| aI (rP (.bool false)) <| trivial))
                  · obtain rfl := lf h
                    exact C.ev (A := A9) mixed Tryd.call9 Tryd.func9 (c := b9) rfl trivial [.c (.bool r1) [], .g 2 true, .c (.bool r3) [], .g 6 true, .c (.int .i64 r5) [], .g 10 true, .c (.int .i64 r7) [], .g 14 true, .c (.int .i64 r9) [], .g 18 true, .c (.int .i64 r11) [], .g 22 true, .c (.int .i64 r13) [], .g 26 true, .c (.int .i64 r15) [], .g 30 true, .c (.int .i64 r17) [], .g 34 false] (Eq.mp (by kernel_rfl) (aI (names_Keyword_ok br1) <| aI c2 <| aI (names_Keyword_ok br3) <| aI c4 <| aI (names_Check_ok br5) <| aI c6 <| aI (names_Check_ok br7) <| aI c8 <| aI (names_Title_ok br9) <| aI c10 <| aI (names_Title_ok br11) <| aI c12 <| aI (names_Core_ok br13) <| aI c14 <| aI (names_Core_ok br15) <| aI c16 <| aI (names_Core_ok br17) <| aI c18 <| aI (rP (.bool false)) <| trivial))
                · obtain rfl := lf h
                  exact C.ev (A := A9) mixed Tryd.call9 Tryd.func9 (c := b9) rfl trivial [.c (.bool r1) [], .g 2 true, .c (.bool r3) [], .g 6 true, .c (.int .i64 r5) [], .g 10 true, .c (.int .i64 r7) [], .g 14 true, .c (.int .i64 r9) [], .g 18 true, .c (.int .i64 r11) [], .g 22 true, .c (.int .i64 r13) [], .g 26 true, .c (.int .i64 r15) [], .g 30 false] (Eq.mp (by kernel_rfl) (aI (names_Keyword_ok br1) <| aI c2 <| aI (names_Keyword_ok br3) <| aI c4 <| aI (names_Check_ok br5) <| aI c6 <| aI (names_Check_ok br7) <| aI c8 <| aI (names_Title_ok br9) <| aI c10 <| aI (names_Title_ok br11) <| aI c12 <| aI (names_Core_ok br13) <| aI c14 <| aI (names_Core_ok br15) <| aI c16 <| aI (rP (.bool false)) <| trivial))
              · obtain rfl := lf h
                exact C.ev (A := A9) mixed Tryd.call9 Tryd.func9 (c := b9) rfl trivial [.c (.bool r1) [], .g 2 true, .c (.bool r3) [], .g 6 true, .c (.int .i64 r5) [], .g 10 true, .c (.int .i64 r7) [], .g 14 true, .c (.int .i64 r9) [], .g 18 true, .c (.int .i64 r11) [], .g 22 true, .c (.int .i64 r13) [], .g 26 false] (Eq.mp (by kernel_rfl) (aI (names_Keyword_ok br1) <| aI c2 <| aI (names_Keyword_ok br3) <| aI c4 <| aI (names_Check_ok br5) <| aI c6 <| aI (names_Check_ok br7) <| aI c8 <| aI (names_Title_ok br9) <| aI c10 <| aI (names_Title_ok br11) <| aI c12 <| aI (names_Core_ok br13) <| aI c14 <| aI (rP (.bool false)) <| trivial))
            · obtain rfl := lf h
              exact C.ev (A := A9) mixed Tryd.call9 Tryd.func9 (c := b9) rfl trivial [.c (.bool r1) [], .g 2 true, .c (.bool r3) [], .g 6 true, .c (.int .i64 r5) [], .g 10 true, .c (.int .i64 r7) [], .g 14 true, .c (.int .i64 r9) [], .g 18 true, .c (.int .i64 r11) [], .g 22 false] (Eq.mp (by kernel_rfl) (aI (names_Keyword_ok br1) <| aI c2 <| aI (names_Keyword_ok br3) <| aI c4 <| aI (names_Check_ok br5) <| aI c6 <| aI (names_Check_ok br7) <| aI c8 <| aI (names_Title_ok br9) <| aI c10 <| aI (names_Title_ok br11) <| aI c12 <| aI (rP (.bool false)) <| trivial))
          · obtain rfl := lf h
            exact C.ev (A := A9) mixed Tryd.call9 Tryd.func9 (c := b9) rfl trivial [.c (.bool r1) [], .g 2 true, .c (.bool r3) [], .g 6 true, .c (.int .i64 r5) [], .g 10 true, .c (.int .i64 r7) [], .g 14 true, .c (.int .i64 r9) [], .g 18 false] (Eq.mp (by kernel_rfl) (aI (names_Keyword_ok br1) <| aI c2 <| aI (names_Keyword_ok br3) <| aI c4 <| aI (names_Check_ok br5) <| aI c6 <| aI (names_Check_ok br7) <| aI c8 <| aI (names_Title_ok br9) <| aI c10 <| aI (rP (.bool false)) <| trivial))
        · obtain rfl := lf h
          exact C.ev (A := A9) mixed Tryd.call9 Tryd.func9 (c := b9) rfl trivial [.c (.bool r1) [], .g 2 true, .c (.bool r3) [], .g 6 true, .c (.int .i64 r5) [], .g 10 true, .c (.int .i64 r7) [], .g 14 false] (Eq.mp (by kernel_rfl) (aI (names_Keyword_ok br1) <| aI c2 <| aI (names_Keyword_ok br3) <| aI c4 <| aI (names_Check_ok br5) <| aI c6 <| aI (names_Check_ok br7) <| aI c8 <| aI (rP (.bool false)) <| trivial))
      · obtain rfl := lf h
        exact C.ev (A := A9) mixed Tryd.call9 Tryd.func9 (c := b9) rfl trivial [.c (.bool r1) [], .g 2 true, .c (.bool r3) [], .g 6 true, .c (.int .i64 r5) [], .g 10 false] (Eq.mp (by kernel_rfl) (aI (names_Keyword_ok br1) <| aI c2 <| aI (names_Keyword_ok br3) <| aI c4 <| aI (names_Check_ok br5) <| aI c6 <| aI (rP (.bool false)) <| trivial))
    · obtain rfl := lf h
      exact C.ev (A := A9) mixed Tryd.call9 Tryd.func9 (c := b9) rfl trivial [.c (.bool r1) [], .g 2 true, .c (.bool r3) [], .g 6 false] (Eq.mp (by kernel_rfl) (aI (names_Keyword_ok br1) <| aI c2 <| aI (names_Keyword_ok br3) <| aI c4 <| aI (rP (.bool false)) <| trivial))
  · obtain rfl := lf h
    exact C.ev (A := A9) mixed Tryd.call9 Tryd.func9 (c := b9) rfl trivial [.c (.bool r1) [], .g 2 false] (Eq.mp (by kernel_rfl) (aI (names_Keyword_ok br1) <| aI c2 <| aI (rP (.bool false)) <| trivial))

/-! liquidcheck/liquidcheckref04.keywords -/
noncomputable def b28 : Code := Tryd.f28.body.getD .skip
def A28 : List Nat := []
noncomputable def R04_keywords : Option ((List Str)) :=
  some ([([97, 110, 100] : Str), ([97, 115, 115, 117, 109, 101] : Str), ([98, 111, 111, 108] : Str), ([98, 111, 117, 110, 100] : Str), ([99, 97, 115, 101] : Str), ([99, 101, 108, 108] : Str), ([99, 108, 97, 115, 115] : Str), ([100, 97, 116, 97] : Str), ([100, 101, 102] : Str), ([100, 105, 118] : Str), ([101, 108, 115, 101] : Str), ([101, 110, 100] : Str), ([102, 97, 108, 115, 101] : Str), ([102, 111, 114, 97, 108, 108] : Str), ([102, 117, 110] : Str), ([103, 101, 116] : Str), ([105, 102] : Str), ([105, 110] : Str), ([105, 110, 115, 116] : Str), ([105, 110, 116] : Str), ([105, 110, 118, 97, 114, 105, 97, 110, 116] : Str), ([108, 101, 116] : Str), ([109, 97, 116, 99, 104] : Str), ([109, 101, 97, 115, 117, 114, 101] : Str), ([109, 101, 116, 114, 105, 99] : Str), ([109, 111, 100] : Str), ([109, 117] : Str), ([110, 101, 119] : Str), ([110, 111, 116] : Str), ([111, 102] : Str), ([111, 114] : Str), ([113, 117, 97, 108] : Str), ([114, 101, 102, 108, 101, 99, 116] : Str), ([115, 101, 116] : Str), ([116, 104, 101, 110] : Str), ([116, 114, 117, 101] : Str), ([117, 115, 101] : Str), ([118] : Str), ([118, 97, 108] : Str), ([116, 97, 103] : Str), ([119, 104, 101, 114, 101] : Str), ([119, 105, 116, 104] : Str)] : List Str)
theorem R04_keywords_ok {r : (List Str)} (h : R04_keywords = some r) : CC Pg GE 28 [] (sl cS r) [(0, 9)] := by
  obtain rfl := lf h
  exact C.ev (A := A28) mixed Tryd.call28 Tryd.func28 (c := b28) rfl trivial [.v (sl cS ([([97, 110, 100] : Str), ([97, 115, 115, 117, 109, 101] : Str), ([98, 111, 111, 108] : Str), ([98, 111, 117, 110, 100] : Str), ([99, 97, 115, 101] : Str), ([99, 101, 108, 108] : Str), ([99, 108, 97, 115, 115] : Str), ([100, 97, 116, 97] : Str), ([100, 101, 102] : Str), ([100, 105, 118] : Str), ([101, 108, 115, 101] : Str), ([101, 110, 100] : Str), ([102, 97, 108, 115, 101] : Str), ([102, 111, 114, 97, 108, 108] : Str), ([102, 117, 110] : Str), ([103, 101, 116] : Str), ([105, 102] : Str), ([105, 110] : Str), ([105, 110, 115, 116] : Str), ([105, 110, 116] : Str), ([105, 110, 118, 97, 114, 105, 97, 110, 116] : Str), ([108, 101, 116] : Str), ([109, 97, 116, 99, 104] : Str), ([109, 101, 97, 115, 117, 114, 101] : Str), ([109, 101, 116, 114, 105, 99] : Str), ([109, 111, 100] : Str), ([109, 117] : Str), ([110, 101, 119] : Str), ([110, 111, 116] : Str), ([111, 102] : Str), ([111, 114] : Str), ([113, 117, 97, 108] : Str), ([114, 101, 102, 108, 101, 99, 116] : Str), ([115, 101, 116] : Str), ([116, 104, 101, 110] : Str), ([116, 114, 117, 101] : Str), ([117, 115, 101] : Str), ([118] : Str), ([118, 97, 108] : Str), ([116, 97, 103] : Str), ([119, 104, 101, 114, 101] : Str), ([119, 105, 116, 104] : Str)] : List Str))] (Eq.mp (by kernel_rfl) (aI (sT26.mk' (v := PVal.str) pcS ([([97, 110, 100] : Str), ([97, 115, 115, 117, 109, 101] : Str), ([98, 111, 111, 108] : Str), ([98, 111, 117, 110, 100] : Str), ([99, 97, 115, 101] : Str), ([99, 101, 108, 108] : Str), ([99, 108, 97, 115, 115] : Str), ([100, 97, 116, 97] : Str), ([100, 101, 102] : Str), ([100, 105, 118] : Str), ([101, 108, 115, 101] : Str), ([101, 110, 100] : Str), ([102, 97, 108, 115, 101] : Str), ([102, 111, 114, 97, 108, 108] : Str), ([102, 117, 110] : Str), ([103, 101, 116] : Str), ([105, 102] : Str), ([105, 110] : Str), ([105, 110, 115, 116] : Str), ([105, 110, 116] : Str), ([105, 110, 118, 97, 114, 105, 97, 110, 116] : Str), ([108, 101, 116] : Str), ([109, 97, 116, 99, 104] : Str), ([109, 101, 97, 115, 117, 114, 101] : Str), ([109, 101, 116, 114, 105, 99] : Str), ([109, 111, 100] : Str), ([109, 117] : Str), ([110, 101, 119] : Str), ([110, 111, 116] : Str), ([111, 102] : Str), ([111, 114] : Str), ([113, 117, 97, 108] : Str), ([114, 101, 102, 108, 101, 99, 116] : Str), ([115, 101, 116] : Str), ([116, 104, 101, 110] : Str), ([116, 114, 117, 101] : Str), ([117, 115, 101] : Str), ([118] : Str), ([118, 97, 108] : Str), ([116, 97, 103] : Str), ([119, 104, 101, 114, 101] : Str), ([119, 105, 116, 104] : Str)] : List Str) 42 (by kernel_rfl)) <| aI (rP (sl cS ([([97, 110, 100] : Str), ([97, 115, 115, 117, 109, 101] : Str), ([98, 111, 111, 108] : Str), ([98, 111, 117, 110, 100] : Str), ([99, 97, 115, 101] : Str), ([99, 101, 108, 108] : Str), ([99, 108, 97, 115, 115] : Str), ([100, 97, 116, 97] : Str), ([100, 101, 102] : Str), ([100, 105, 118] : Str), ([101, 108, 115, 101] : Str), ([101, 110, 100] : Str), ([102, 97, 108, 115, 101] : Str), ([102, 111, 114, 97, 108, 108] : Str), ([102, 117, 110] : Str), ([103, 101, 116] : Str), ([105, 102] : Str), ([105, 110] : Str), ([105, 110, 115, 116] : Str), ([105, 110, 116] : Str), ([105, 110, 118, 97, 114, 105, 97, 110, 116] : Str), ([108, 101, 116] : Str), ([109, 97, 116, 99, 104] : Str), ([109, 101, 97, 115, 117, 114, 101] : Str), ([109, 101, 116, 114, 105, 99] : Str), ([109, 111, 100] : Str), ([109, 117] : Str), ([110, 101, 119] : Str), ([110, 111, 116] : Str), ([111, 102] : Str), ([111, 114] : Str), ([113, 117, 97, 108] : Str), ([114, 101, 102, 108, 101, 99, 116] : Str), ([115, 101, 116] : Str), ([116, 104, 101, 110] : Str), ([116, 114, 117, 101] : Str), ([117, 115, 101] : Str), ([118] : Str), ([118, 97, 108] : Str), ([116, 97, 103] : Str), ([119, 104, 101, 114, 101] : Str), ([119, 105, 116, 104] : Str)] : List Str))) <| (cl_sl clS ([([97, 110, 100] : Str), ([97, 115, 115, 117, 109, 101] : Str), ([98, 111, 111, 108] : Str), ([98, 111, 117, 110, 100] : Str), ([99, 97, 115, 101] : Str), ([99, 101, 108, 108] : Str), ([99, 108, 97, 115, 115] : Str), ([100, 97, 116, 97] : Str), ([100, 101, 102] : Str), ([100, 105, 118] : Str), ([101, 108, 115, 101] : Str), ([101, 110, 100] : Str), ([102, 97, 108, 115, 101] : Str), ([102, 111, 114, 97, 108, 108] : Str), ([102, 117, 110] : Str), ([103, 101, 116] : Str), ([105, 102] : Str), ([105, 110] : Str), ([105, 110, 115, 116] : Str), ([105, 110, 116] : Str), ([105, 110, 118, 97, 114, 105, 97, 110, 116] : Str), ([108, 101, 116] : Str), ([109, 97, 116, 99, 104] : Str), ([109, 101, 97, 115, 117, 114, 101] : Str), ([109, 101, 116, 114, 105, 99] : Str), ([109, 111, 100] : Str), ([109, 117] : Str), ([110, 101, 119] : Str), ([110, 111, 116] : Str), ([111, 102] : Str), ([111, 114] : Str), ([113, 117, 97, 108] : Str), ([114, 101, 102, 108, 101, 99, 116] : Str), ([115, 101, 116] : Str), ([116, 104, 101, 110] : Str), ([116, 114, 117, 101] : Str), ([117, 115, 101] : Str), ([118] : Str), ([118, 97, 108] : Str), ([116, 97, 103] : Str), ([119, 104, 101, 114, 101] : Str), ([119, 105, 116, 104] : Str)] : List Str))))

/-! liquidcheck/liquidcheckref04.Find -/
noncomputable def b25 : Code := Tryd.f25.body.getD .skip
def A25 : List Nat := [10, 17]
noncomputable def R04_Find_L1_S (v : (List Str)) (s : Str) (t7 : Int) (t8 : Int) : PSt := ⟨[sl cS v, .str s, u, u, u, u, u, .int .i64 t7, .int .i64 t8, u, u, u, u, u, u, u, u, u, u], [], []⟩
noncomputable def R04_Find_L1_o0 (v : (List Str)) (s : Str) (t7 : Int) (o : Int) : PSt := ⟨[u, u, u, u, .int .i64 o, u, u, u, u, u, u, u, u, u, u, u, u, u, u], [], []⟩
noncomputable def R04_Find_L1_o1 (v : (List Str)) (s : Str) (t7 : Int) (o : Unit) : PSt := ⟨[u, u, u, u, u, u, u, u, u, u, u, u, u, u, u, u, u, u, u], [], []⟩
noncomputable def R04_Find_L1_e (o : (Int) ⊕ (Unit)) : Exit := match o with
  | (.inl _) => .ret
  | (.inr _) => .exit 0
noncomputable def R04_Find_L1_s (v : (List Str)) (s : Str) (t7 : Int) (o : (Int) ⊕ (Unit)) : PSt := match o with
  | (.inl o) => R04_Find_L1_o0 v s t7 o
  | (.inr o) => R04_Find_L1_o1 v s t7 o
noncomputable def R04_Find_L1_b (v : (List Str)) (s : Str) (t7 : Int) (t8 : Int) : Option ((Int) ⊕ ((Int) ⊕ (Unit))) :=
  if (decide (t8 < t7)) = true then
    (idx v t8).bind fun x2 =>
    if (x2 == s) = true then
      some (.inr (.inl t8))
    else
      some (.inl (w64 (t8 + 1)))
  else
    some (.inr (.inr ()))
noncomputable def R04_Find_L1 (v : (List Str)) (s : Str) (t7 : Int) (t8 : Int) : Option ((Int) ⊕ (Unit)) := loop (fun (zz : Int) => R04_Find_L1_b v s t7 zz) t8
theorem R04_Find_L1_bok (v : (List Str)) (s : Str) (t7 : Int) (t8 : Int) {y : (Int) ⊕ ((Int) ⊕ (Unit))} (h : R04_Find_L1_b v s t7 t8 = some y) :
    Sat Pg GE 0 (codeAt b25 [true, false, true, true, true]) (LQ (fun (zz : Int) => R04_Find_L1_S v s t7 zz) R04_Find_L1_e (R04_Find_L1_s v s t7) y) (R04_Find_L1_S v s t7 t8) := by
  rcases ifs h with ⟨c1, h⟩ | ⟨c1, h⟩
  · obtain ⟨x2, bx2, h⟩ := bnd h
    rcases ifs h with ⟨c3, h⟩ | ⟨c3, h⟩
    · obtain rfl := lf h
      exact over (A := A25) mixed [.g 0 true, .v (.eptr (cS x2)), .v (.str x2), .g 0 true] (by intro hx; cases hx) (Eq.mp (by kernel_rfl) (aI c1 <| aI (sT26.ia (k := .i64) bx2) <| aI (plook1 sc9 (.str x2) []) <| aI c3 <| aI (rE (R04_Find_L1_e (.inl t8))) <| fr (R04_Find_L1_s v s t7 (.inl t8))))
    · obtain rfl := lf h
      exact next (A := A25) mixed [.g 0 true, .v (.eptr (cS x2)), .v (.str x2), .g 0 false] (Eq.mp (by kernel_rfl) (aI c1 <| aI (sT26.ia (k := .i64) bx2) <| aI (plook1 sc9 (.str x2) []) <| aI c3 <| aI (rE .normal) <| fr (R04_Find_L1_S v s t7 (w64 (t8 + 1)))))
  · obtain rfl := lf h
    exact over (A := A25) mixed [.g 0 false] (by intro hx; cases hx) (Eq.mp (by kernel_rfl) (aI c1 <| aI (rE (R04_Find_L1_e (.inr ()))) <| fr (R04_Find_L1_s v s t7 (.inr ()))))
theorem R04_Find_L1_ok (v : (List Str)) (s : Str) (t7 : Int) (t8 : Int) {x : (Int) ⊕ (Unit)} (h : R04_Find_L1 v s t7 t8 = some x) :
    Sat Pg GE 0 (.loop (codeAt b25 [true, false, true, true, true])) (EX (R04_Find_L1_e x) (R04_Find_L1_s v s t7 x)) (R04_Find_L1_S v s t7 t8) :=
  Sat.loop (S := fun (zz : Int) => R04_Find_L1_S v s t7 zz) h fun zz y hy => R04_Find_L1_bok v s t7 zz hy
noncomputable def R04_Find (a : (List Str)) (s : Str) : Option (Int) :=
  (R04_Find_L1 a s (a.length : Int) 0).bind fun o4 => match o4 with
  | (.inl o4) =>
    some o4
  | (.inr o4) =>
    some (-1)
theorem R04_Find_ok {a : (List Str)} {s : Str} {r : Int} (h : R04_Find a s = some r) : CC Pg GE 25 [sl cS a, .str s] (.int .i64 r) [] := by
  obtain ⟨o4, bo4, h⟩ := bnd h
  rcases o4 with o4 | o4
  · obtain rfl := lf h
    exact C.ev (A := A25) mixed Tryd.call25 Tryd.func25 (c := b25) rfl (aI (cl_sl clS a) (aI trivial trivial)) [.v (.int .i64 (a.length : Int)), .pc (R04_Find_L1_S a s (a.length : Int) 0) (.ret) (R04_Find_L1_s a s (a.length : Int) (.inl o4))] (Eq.mp (by kernel_rfl) (aI (sT26.ln a) <| aI (fr (R04_Find_L1_S a s (a.length : Int) 0)) <| aI (R04_Find_L1_ok a s (a.length : Int) 0 bo4) <| aI (rP (.int .i64 o4)) <| trivial))
  · obtain rfl := lf h
    exact C.ev (A := A25) mixed Tryd.call25 Tryd.func25 (c := b25) rfl (aI (cl_sl clS a) (aI trivial trivial)) [.v (.int .i64 (a.length : Int)), .pc (R04_Find_L1_S a s (a.length : Int) 0) (.exit 0) (R04_Find_L1_s a s (a.length : Int) (.inr o4))] (Eq.mp (by kernel_rfl) (aI (sT26.ln a) <| aI (fr (R04_Find_L1_S a s (a.length : Int) 0)) <| aI (R04_Find_L1_ok a s (a.length : Int) 0 bo4) <| aI (rP (.int .i64 (-1))) <| trivial))

/-! liquidcheck/liquidcheckref04.Keyword -/
noncomputable def b11 : Code := Tryd.f11.body.getD .skip
def A11 : List Nat := []
noncomputable def R04_Keyword (s : Str) : Option (Bool) :=
  (R04_keywords).bind fun r1 =>
  (R04_Find r1 s).bind fun r2 =>
  some (decide (r2 ≥ 0))
theorem R04_Keyword_ok {s : Str} {r : Bool} (h : R04_Keyword s = some r) : CC Pg GE 11 [.str s] (.bool r) [] := by
  obtain ⟨r1, br1, h⟩ := bnd h
  obtain ⟨r2, br2, h⟩ := bnd h
  obtain rfl := lf h
  exact C.ev (A := A11) mixed Tryd.call11 Tryd.func11 (c := b11) rfl (aI trivial trivial) [.c (sl cS r1) [(0, 9)], .c (.int .i64 r2) []] (Eq.mp (by kernel_rfl) (aI (R04_keywords_ok br1) <| aI (R04_Find_ok br2) <| aI (rP (.bool (decide (r2 ≥ 0)))) <| trivial))

/-! liquidcheck/liquidcheckref04.small -/
noncomputable def b31 : Code := Tryd.f31.body.getD .skip
def A31 : List Nat := []
noncomputable def R04_small (c : Int) : Option (Bool) :=
  if (decide (c ≥ 97)) = true then
    some (decide (c ≤ 122))
  else
    some false
theorem R04_small_ok {c : Int} {r : Bool} (h : R04_small c = some r) : CC Pg GE 31 [.int .u8 c] (.bool r) [] := by
  rcases ifs h with ⟨c1, h⟩ | ⟨c1, h⟩
  · obtain rfl := lf h
    exact C.ev (A := A31) mixed Tryd.call31 Tryd.func31 (c := b31) rfl (aI trivial trivial) [.g 3 true] (Eq.mp (by kernel_rfl) (aI c1 <| aI (rP (.bool (decide (c ≤ 122)))) <| trivial))
  · obtain rfl := lf h
    exact C.ev (A := A31) mixed Tryd.call31 Tryd.func31 (c := b31) rfl (aI trivial trivial) [.g 3 false] (Eq.mp (by kernel_rfl) (aI c1 <| aI (rP (.bool false)) <| trivial))

/-! liquidcheck/liquidcheckref04.digit -/
noncomputable def b32 : Code := Tryd.f32.body.getD .skip
def A32 : List Nat := []
noncomputable def R04_digit (c : Int) : Option (Bool) :=
  if (decide (c ≥ 48)) = true then
    some (decide (c ≤ 57))
  else
    some false
theorem R04_digit_ok {c : Int} {r : Bool} (h : R04_digit c = some r) : CC Pg GE 32 [.int .u8 c] (.bool r) [] := by
  rcases ifs h with ⟨c1, h⟩ | ⟨c1, h⟩
  · obtain rfl := lf h
    exact C.ev (A := A32) mixed Tryd.call32 Tryd.func32 (c := b32) rfl (aI trivial trivial) [.g 3 true] (Eq.mp (by kernel_rfl) (aI c1 <| aI (rP (.bool (decide (c ≤ 57)))) <| trivial))
  · obtain rfl := lf h
    exact C.ev (A := A32) mixed Tryd.call32 Tryd.func32 (c := b32) rfl (aI trivial trivial) [.g 3 false] (Eq.mp (by kernel_rfl) (aI c1 <| aI (rP (.bool false)) <| trivial))

/-! liquidcheck/liquidcheckref04.Check -/
noncomputable def b13 : Code := Tryd.f13.body.getD .skip
def A13 : List Nat := [26]
noncomputable def R04_Check_J1_S (s : Str) : PSt := ⟨[.str s, u, u, u, u, u, u, u, u, u, u, u, u, u, u, u, u, u, u, u, u, u, u, u, u, u, u, u, u, u, u, u, u, u, u, u, u, u, u, u, u, u, u, u, u, u], [], []⟩
noncomputable def R04_Check_J1_o0 (s : Str) (o : Bool) : PSt := ⟨[.str s, u, u, u, u, u, u, u, u, u, u, u, u, u, u, u, u, u, u, u, u, .bool o, u, u, u, u, u, u, u, u, u, u, u, u, u, u, u, u, u, u, u, u, u, u, u, u], [], []⟩
noncomputable def R04_Check_J1_e (_ : (Bool)) : Exit := .normal
noncomputable def R04_Check_J1_s (s : Str) (o : (Bool)) : PSt := R04_Check_J1_o0 s o
noncomputable def R04_Check_J1 (s : Str) : Option ((Bool)) :=
  if (decide ((s.length : Int) < 1)) = true then
    some true
  else
    if (decide ((s.length : Int) > 24)) = true then
      some true
    else
      (idxS s 0).bind fun c3 =>
      (R04_small c3).bind fun r4 =>
      if (!r4) = true then
        some true
      else
        (R04_Keyword s).bind fun r6 =>
        some r6
theorem R04_Check_J1_ok (s : Str) {x : (Bool)} (h : R04_Check_J1 s = some x) :
    Sat Pg GE 0 (codeAt b13 [true, false, false]) (EX (R04_Check_J1_e x) (R04_Check_J1_s s x)) (R04_Check_J1_S s) := by
  rcases ifs h with ⟨c1, h⟩ | ⟨c1, h⟩
  · obtain rfl := lf h
    exact piece (A := A13) mixed [.v (.int .i64 (s.length : Int)), .g 4 true] (Eq.mp (by kernel_rfl) (aI (strLn Tryd.underlying9 s) <| aI c1 <| aI (rE (R04_Check_J1_e true)) <| fr (R04_Check_J1_s s true)))
  · rcases ifs h with ⟨c2, h⟩ | ⟨c2, h⟩
    · obtain rfl := lf h
      exact piece (A := A13) mixed [.v (.int .i64 (s.length : Int)), .g 4 false, .v (.int .i64 (s.length : Int)), .g 9 true] (Eq.mp (by kernel_rfl) (aI (strLn Tryd.underlying9 s) <| aI c1 <| aI (strLn Tryd.underlying9 s) <| aI c2 <| aI (rE (R04_Check_J1_e true)) <| fr (R04_Check_J1_s s true)))
    · obtain ⟨c3, bc3, h⟩ := bnd h
      obtain ⟨r4, br4, h⟩ := bnd h
      rcases ifs h with ⟨c5, h⟩ | ⟨c5, h⟩
      · obtain rfl := lf h
        exact piece (A := A13) mixed [.v (.int .i64 (s.length : Int)), .g 4 false, .v (.int .i64 (s.length : Int)), .g 9 false, .v (.int .u8 c3), .c (.bool r4) [], .g 15 true] (Eq.mp (by kernel_rfl) (aI (strLn Tryd.underlying9 s) <| aI c1 <| aI (strLn Tryd.underlying9 s) <| aI c2 <| aI (strIx (k := .i64) Tryd.underlying9 bc3) <| aI (R04_small_ok br4) <| aI c5 <| aI (rE (R04_Check_J1_e true)) <| fr (R04_Check_J1_s s true)))
      · obtain ⟨r6, br6, h⟩ := bnd h
        obtain rfl := lf h
        exact piece (A := A13) mixed [.v (.int .i64 (s.length : Int)), .g 4 false, .v (.int .i64 (s.length : Int)), .g 9 false, .v (.int .u8 c3), .c (.bool r4) [], .g 15 false, .c (.bool r6) []] (Eq.mp (by kernel_rfl) (aI (strLn Tryd.underlying9 s) <| aI c1 <| aI (strLn Tryd.underlying9 s) <| aI c2 <| aI (strIx (k := .i64) Tryd.underlying9 bc3) <| aI (R04_small_ok br4) <| aI c5 <| aI (R04_Keyword_ok br6) <| aI (rE (R04_Check_J1_e r6)) <| fr (R04_Check_J1_s s r6)))
noncomputable def R04_Check_L2_S (s : Str) (t23 : Int) (t24 : Int) : PSt := ⟨[.str s, u, u, u, u, u, u, u, u, u, u, u, u, u, u, u, u, u, u, u, u, u, u, .int .i64 t23, .int .i64 t24, u, u, u, u, u, u, u, u, u, u, u, u, u, u, u, u, u, u, u, u, u], [], []⟩
noncomputable def R04_Check_L2_o0 (s : Str) (t23 : Int) (o : Unit) : PSt := ⟨[u, u, .int .i64 3, u, u, u, u, u, u, u, u, u, u, u, u, u, u, u, u, u, u, u, u, u, u, u, u, u, u, u, u, u, u, u, u, u, u, u, u, u, u, u, u, u, u, u], [], []⟩
noncomputable def R04_Check_L2_o1 (s : Str) (t23 : Int) (o : Unit) : PSt := ⟨[u, u, u, u, u, u, u, u, u, u, u, u, u, u, u, u, u, u, u, u, u, u, u, u, u, u, u, u, u, u, u, u, u, u, u, u, u, u, u, u, u, u, u, u, u, u], [], []⟩
noncomputable def R04_Check_L2_e (o : (Unit) ⊕ (Unit)) : Exit := match o with
  | (.inl _) => .ret
  | (.inr _) => .exit 0
noncomputable def R04_Check_L2_s (s : Str) (t23 : Int) (o : (Unit) ⊕ (Unit)) : PSt := match o with
  | (.inl o) => R04_Check_L2_o0 s t23 o
  | (.inr o) => R04_Check_L2_o1 s t23 o
noncomputable def R04_Check_J3_S (s : Str) (i : Int) (t23 : Int) : PSt := ⟨[.str s, u, u, .int .i64 i, u, u, u, u, u, u, u, u, u, u, u, u, u, u, u, u, u, u, u, .int .i64 t23, .int .i64 i, u, u, u, u, u, u, u, u, u, u, u, u, u, u, u, u, u, u, u, u, u], [], []⟩
noncomputable def R04_Check_J3_o0 (s : Str) (i : Int) (t23 : Int) (o : Bool) : PSt := ⟨[.str s, u, u, u, u, u, u, u, u, u, u, u, u, u, u, u, u, u, u, u, u, u, u, .int .i64 t23, .int .i64 i, u, u, u, u, u, u, u, u, u, u, u, u, u, u, u, u, u, u, u, .bool o, u], [], []⟩
noncomputable def R04_Check_J3_e (_ : (Bool)) : Exit := .normal
noncomputable def R04_Check_J3_s (s : Str) (i : Int) (t23 : Int) (o : (Bool)) : PSt := R04_Check_J3_o0 s i t23 o
noncomputable def R04_Check_J3 (s : Str) (i : Int) : Option ((Bool)) :=
  (idxS s i).bind fun c10 =>
  (R04_small c10).bind fun r11 =>
  if (!r11) = true then
    (idxS s i).bind fun c13 =>
    (R04_digit c13).bind fun r14 =>
    if (!r14) = true then
      (idxS s i).bind fun c16 =>
      some (c16 != 95)
    else
      some false
  else
    some false
theorem R04_Check_J3_ok (s : Str) (i : Int) (t23 : Int) {x : (Bool)} (h : R04_Check_J3 s i = some x) :
    Sat Pg GE 0 (codeAt b13 [true, true, false, true, true, true, true, true, false, true, true, false]) (EX (R04_Check_J3_e x) (R04_Check_J3_s s i t23 x)) (R04_Check_J3_S s i t23) := by
  obtain ⟨c10, bc10, h⟩ := bnd h
  obtain ⟨r11, br11, h⟩ := bnd h
  rcases ifs h with ⟨c12, h⟩ | ⟨c12, h⟩
  · obtain ⟨c13, bc13, h⟩ := bnd h
    obtain ⟨r14, br14, h⟩ := bnd h
    rcases ifs h with ⟨c15, h⟩ | ⟨c15, h⟩
    · obtain ⟨c16, bc16, h⟩ := bnd h
      obtain rfl := lf h
      exact piece (A := A13) mixed [.v (.int .u8 c10), .c (.bool r11) [], .g 6 true, .v (.int .u8 c13), .c (.bool r14) [], .g 13 true, .v (.int .u8 c16)] (Eq.mp (by kernel_rfl) (aI (strIx (k := .i64) Tryd.underlying9 bc10) <| aI (R04_small_ok br11) <| aI c12 <| aI (strIx (k := .i64) Tryd.underlying9 bc13) <| aI (R04_digit_ok br14) <| aI c15 <| aI (strIx (k := .i64) Tryd.underlying9 bc16) <| aI (rE (R04_Check_J3_e (c16 != 95))) <| fr (R04_Check_J3_s s i t23 (c16 != 95))))
    · obtain rfl := lf h
      exact piece (A := A13) mixed [.v (.int .u8 c10), .c (.bool r11) [], .g 6 true, .v (.int .u8 c13), .c (.bool r14) [], .g 13 false] (Eq.mp (by kernel_rfl) (aI (strIx (k := .i64) Tryd.underlying9 bc10) <| aI (R04_small_ok br11) <| aI c12 <| aI (strIx (k := .i64) Tryd.underlying9 bc13) <| aI (R04_digit_ok br14) <| aI c15 <| aI (rE (R04_Check_J3_e false)) <| fr (R04_Check_J3_s s i t23 false)))
  · obtain rfl := lf h
    exact piece (A := A13) mixed [.v (.int .u8 c10), .c (.bool r11) [], .g 6 false] (Eq.mp (by kernel_rfl) (aI (strIx (k := .i64) Tryd.underlying9 bc10) <| aI (R04_small_ok br11) <| aI c12 <| aI (rE (R04_Check_J3_e false)) <| fr (R04_Check_J3_s s i t23 false)))
noncomputable def R04_Check_L2_b (s : Str) (t23 : Int) (t24 : Int) : Option ((Int) ⊕ ((Unit) ⊕ (Unit))) :=
  if (decide (t24 < t23)) = true then
    (R04_Check_J3 s t24).bind fun o17 =>
    if o17 = true then
      some (.inr (.inl ()))
    else
      some (.inl (w64 (t24 + 1)))
  else
    some (.inr (.inr ()))
noncomputable def R04_Check_L2 (s : Str) (t23 : Int) (t24 : Int) : Option ((Unit) ⊕ (Unit)) := loop (fun (zz : Int) => R04_Check_L2_b s t23 zz) t24
theorem R04_Check_L2_bok (s : Str) (t23 : Int) (t24 : Int) {y : (Int) ⊕ ((Unit) ⊕ (Unit))} (h : R04_Check_L2_b s t23 t24 = some y) :
    Sat Pg GE 0 (codeAt b13 [true, true, false, true, true, true]) (LQ (fun (zz : Int) => R04_Check_L2_S s t23 zz) R04_Check_L2_e (R04_Check_L2_s s t23) y) (R04_Check_L2_S s t23 t24) := by
  rcases ifs h with ⟨c9, h⟩ | ⟨c9, h⟩
  · obtain ⟨o17, bo17, h⟩ := bnd h
    rcases ifs h with ⟨c18, h⟩ | ⟨c18, h⟩
    · obtain rfl := lf h
      exact over (A := A13) mixed [.g 0 true, .pa 2, .pc (R04_Check_J3_S s t24 t23) (.normal) (R04_Check_J3_s s t24 t23 o17), .g 0 true] (by intro hx; cases hx) (Eq.mp (by kernel_rfl) (aI c9 <| aI (fr (R04_Check_J3_S s t24 t23)) <| aI (R04_Check_J3_ok s t24 t23 bo17) <| aI c18 <| aI (rE (R04_Check_L2_e (.inl ()))) <| fr (R04_Check_L2_s s t23 (.inl ()))))
    · obtain rfl := lf h
      exact next (A := A13) mixed [.g 0 true, .pa 2, .pc (R04_Check_J3_S s t24 t23) (.normal) (R04_Check_J3_s s t24 t23 o17), .g 0 false] (Eq.mp (by kernel_rfl) (aI c9 <| aI (fr (R04_Check_J3_S s t24 t23)) <| aI (R04_Check_J3_ok s t24 t23 bo17) <| aI c18 <| aI (rE .normal) <| fr (R04_Check_L2_S s t23 (w64 (t24 + 1)))))
  · obtain rfl := lf h
    exact over (A := A13) mixed [.g 0 false] (by intro hx; cases hx) (Eq.mp (by kernel_rfl) (aI c9 <| aI (rE (R04_Check_L2_e (.inr ()))) <| fr (R04_Check_L2_s s t23 (.inr ()))))
theorem R04_Check_L2_ok (s : Str) (t23 : Int) (t24 : Int) {x : (Unit) ⊕ (Unit)} (h : R04_Check_L2 s t23 t24 = some x) :
    Sat Pg GE 0 (.loop (codeAt b13 [true, true, false, true, true, true])) (EX (R04_Check_L2_e x) (R04_Check_L2_s s t23 x)) (R04_Check_L2_S s t23 t24) :=
  Sat.loop (S := fun (zz : Int) => R04_Check_L2_S s t23 zz) h fun zz y hy => R04_Check_L2_bok s t23 zz hy
noncomputable def R04_Check (s : Str) : Option (Int) :=
  (R04_Check_J1 s).bind fun o7 =>
  if o7 = true then
    some 3
  else
    (R04_Check_L2 s (s.length : Int) 0).bind fun o19 => match o19 with
    | (.inl o19) =>
      some 3
    | (.inr o19) =>
      some 0
theorem R04_Check_ok {s : Str} {r : Int} (h : R04_Check s = some r) : CC Pg GE 13 [.str s] (.int .i64 r) [] := by
  obtain ⟨o7, bo7, h⟩ := bnd h
  rcases ifs h with ⟨c8, h⟩ | ⟨c8, h⟩
  · obtain rfl := lf h
    exact C.ev (A := A13) mixed Tryd.call13 Tryd.func13 (c := b13) rfl (aI trivial trivial) [.pa 2, .pc (R04_Check_J1_S s) (.normal) (R04_Check_J1_s s o7), .g 0 true] (Eq.mp (by kernel_rfl) (aI (fr (R04_Check_J1_S s)) <| aI (R04_Check_J1_ok s bo7) <| aI c8 <| aI (rP (.int .i64 3)) <| trivial))
  · obtain ⟨o19, bo19, h⟩ := bnd h
    rcases o19 with o19 | o19
    · obtain rfl := lf h
      exact C.ev (A := A13) mixed Tryd.call13 Tryd.func13 (c := b13) rfl (aI trivial trivial) [.pa 2, .pc (R04_Check_J1_S s) (.normal) (R04_Check_J1_s s o7), .g 0 false, .v (.int .i64 (s.length : Int)), .pc (R04_Check_L2_S s (s.length : Int) 0) (.ret) (R04_Check_L2_s s (s.length : Int) (.inl o19))] (Eq.mp (by kernel_rfl) (aI (fr (R04_Check_J1_S s)) <| aI (R04_Check_J1_ok s bo7) <| aI c8 <| aI (strLn Tryd.underlying9 s) <| aI (fr (R04_Check_L2_S s (s.length : Int) 0)) <| aI (R04_Check_L2_ok s (s.length : Int) 0 bo19) <| aI (rP (.int .i64 3)) <| trivial))
    · obtain rfl := lf h
      exact C.ev (A := A13) mixed Tryd.call13 Tryd.func13 (c := b13) rfl (aI trivial trivial) [.pa 2, .pc (R04_Check_J1_S s) (.normal) (R04_Check_J1_s s o7), .g 0 false, .v (.int .i64 (s.length : Int)), .pc (R04_Check_L2_S s (s.length : Int) 0) (.exit 0) (R04_Check_L2_s s (s.length : Int) (.inr o19))] (Eq.mp (by kernel_rfl) (aI (fr (R04_Check_J1_S s)) <| aI (R04_Check_J1_ok s bo7) <| aI c8 <| aI (strLn Tryd.underlying9 s) <| aI (fr (R04_Check_L2_S s (s.length : Int) 0)) <| aI (R04_Check_L2_ok s (s.length : Int) 0 bo19) <| aI (rP (.int .i64 0)) <| trivial))

/-! liquidcheck/liquidcheckref04.capital -/
noncomputable def b34 : Code := Tryd.f34.body.getD .skip
def A34 : List Nat := []
noncomputable def R04_capital (c : Int) : Option (Bool) :=
  if (decide (c ≥ 65)) = true then
    some (decide (c ≤ 90))
  else
    some false
theorem R04_capital_ok {c : Int} {r : Bool} (h : R04_capital c = some r) : CC Pg GE 34 [.int .u8 c] (.bool r) [] := by
  rcases ifs h with ⟨c1, h⟩ | ⟨c1, h⟩
  · obtain rfl := lf h
    exact C.ev (A := A34) mixed Tryd.call34 Tryd.func34 (c := b34) rfl (aI trivial trivial) [.g 3 true] (Eq.mp (by kernel_rfl) (aI c1 <| aI (rP (.bool (decide (c ≤ 90)))) <| trivial))
  · obtain rfl := lf h
    exact C.ev (A := A34) mixed Tryd.call34 Tryd.func34 (c := b34) rfl (aI trivial trivial) [.g 3 false] (Eq.mp (by kernel_rfl) (aI c1 <| aI (rP (.bool false)) <| trivial))
end Go.Proofs.YtgiimiklbabhcaaDoor
