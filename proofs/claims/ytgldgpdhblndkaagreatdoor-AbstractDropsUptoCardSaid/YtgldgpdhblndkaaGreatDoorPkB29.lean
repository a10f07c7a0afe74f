/-
  WHAT IS PROVED: parts of the proof, put together by a program out of smaller texts (GT). Conditions: none.
-/
import Derived.Test.YtgldgpdhblndkaaGreatDoorPkB28
import Derived.Test.YtgldgpdhblndkaaGreatDoorChecked
namespace Go.Proofs.YtgldgpdhblndkaaGreatDoor
open Go
set_option linter.unusedVariables false
set_option maxRecDepth 100000
noncomputable abbrev Pg := Tryz.prog
theorem mixed : Pg.follows .mixedOrders = true := by kernel_rfl
structure tNeed where
  Class : Str
  Var : Str
deriving DecidableEq
def c_tNeed (x : tNeed) : List PVal := [.str x.Class, .str x.Var]
theorem cl_tNeed (x : tNeed) : clL 0 (c_tNeed x) := (aI trivial (aI trivial trivial))
structure tAbs where
  Name : Str
  Sort_ : Str
deriving DecidableEq
def c_tAbs (x : tAbs) : List PVal := [.str x.Name, .str x.Sort_]
theorem ex_tAbs (x : tAbs) : c_tAbs x = [.str x.Name, .str x.Sort_] := rfl
theorem cl_tAbs (x : tAbs) : clL 0 (c_tAbs x) := (aI trivial (aI trivial trivial))
abbrev v_tAbs (x : tAbs) : PVal := .agg (c_tAbs x)
theorem len_tAbs (x : tAbs) : (c_tAbs x).length = 2 := by rw [ex_tAbs]; rfl
theorem pc_tAbs (x : tAbs) : pcells (.agg (c_tAbs x)) = some (c_tAbs x) := rfl
theorem pcA_tAbs (x : tAbs) : pcells (v_tAbs x) = some (c_tAbs x) := rfl
theorem pcx_tAbs (x : tAbs) : pcells (.agg (c_tAbs x)) = some [.str x.Name, .str x.Sort_] := by rw [ex_tAbs]; rfl
theorem one_tAbs (x : tAbs) : ∀ q ∈ c_tAbs x, q.one = true := by
  intro q hq
  rw [ex_tAbs] at hq
  simp only [List.mem_cons, List.not_mem_nil, or_false] at hq
  rcases hq with rfl | rfl <;> rfl
theorem co76 : Pg.cellsOf 76 = 2 := by kernel_rfl
theorem lk_tAbs (x : tAbs) : plook Pg 76 (c_tAbs x) = some (.agg (c_tAbs x)) := by
  have := plookA (P := Pg) (t := 76) (l := c_tAbs x) (r := []) (by kernel_rfl) (co76.trans (len_tAbs x).symm)
  rwa [List.append_nil] at this
theorem lkx_tAbs (x : tAbs) (r : List PVal) : plook Pg 76 ([.str x.Name, .str x.Sort_] ++ r) = some (.agg (c_tAbs x)) := by
  rw [← ex_tAbs]; exact plookA (by kernel_rfl) (co76.trans (len_tAbs x).symm)
theorem bu_tAbs_0_1 (x0 : Str) (x1 : Str) : pbuild Pg 76 [(0, .str x0), (1, .str x1)] = some (.agg (c_tAbs (⟨x0, x1⟩ : tAbs))) := by
  kernel_rfl
theorem fa_tAbs_76_0 (x : tAbs) : pfieldAddr Pg 76 (.eptr (c_tAbs x)) 0 = some (.eptr ((c_tAbs x).drop 0)) := by kernel_rfl
theorem fa_tAbs_76_1 (x : tAbs) : pfieldAddr Pg 76 (.eptr (c_tAbs x)) 1 = some (.eptr ((c_tAbs x).drop 1)) := by kernel_rfl
theorem lf_tAbs_0_9 (x : tAbs) : plook Pg 9 ((c_tAbs x).drop 0) = some (.str x.Name) := by kernel_rfl
theorem lf_tAbs_1_74 (x : tAbs) : plook Pg 74 ((c_tAbs x).drop 1) = some (.str x.Sort_) := by kernel_rfl
structure tVar where
  Name : Str
  Sort_ : Str
deriving DecidableEq
def c_tVar (x : tVar) : List PVal := [.str x.Name, .str x.Sort_]
theorem ex_tVar (x : tVar) : c_tVar x = [.str x.Name, .str x.Sort_] := rfl
theorem cl_tVar (x : tVar) : clL 0 (c_tVar x) := (aI trivial (aI trivial trivial))
abbrev v_tVar (x : tVar) : PVal := .agg (c_tVar x)
theorem len_tVar (x : tVar) : (c_tVar x).length = 2 := by rw [ex_tVar]; rfl
theorem pc_tVar (x : tVar) : pcells (.agg (c_tVar x)) = some (c_tVar x) := rfl
theorem pcA_tVar (x : tVar) : pcells (v_tVar x) = some (c_tVar x) := rfl
theorem pcx_tVar (x : tVar) : pcells (.agg (c_tVar x)) = some [.str x.Name, .str x.Sort_] := by rw [ex_tVar]; rfl
theorem one_tVar (x : tVar) : ∀ q ∈ c_tVar x, q.one = true := by
  intro q hq
  rw [ex_tVar] at hq
  simp only [List.mem_cons, List.not_mem_nil, or_false] at hq
  rcases hq with rfl | rfl <;> rfl
theorem co88 : Pg.cellsOf 88 = 2 := by kernel_rfl
theorem lk_tVar (x : tVar) : plook Pg 88 (c_tVar x) = some (.agg (c_tVar x)) := by
  have := plookA (P := Pg) (t := 88) (l := c_tVar x) (r := []) (by kernel_rfl) (co88.trans (len_tVar x).symm)
  rwa [List.append_nil] at this
theorem lkx_tVar (x : tVar) (r : List PVal) : plook Pg 88 ([.str x.Name, .str x.Sort_] ++ r) = some (.agg (c_tVar x)) := by
  rw [← ex_tVar]; exact plookA (by kernel_rfl) (co88.trans (len_tVar x).symm)
theorem bu_tVar_0_1 (x0 : Str) (x1 : Str) : pbuild Pg 88 [(0, .str x0), (1, .str x1)] = some (.agg (c_tVar (⟨x0, x1⟩ : tVar))) := by
  kernel_rfl
theorem fa_tVar_88_0 (x : tVar) : pfieldAddr Pg 88 (.eptr (c_tVar x)) 0 = some (.eptr ((c_tVar x).drop 0)) := by kernel_rfl
theorem lf_tVar_0_9 (x : tVar) : plook Pg 9 ((c_tVar x).drop 0) = some (.str x.Name) := by kernel_rfl
inductive tPred where
  | mk (Op : Int) (Name : Str) (N : Int) (Kids : (List tPred))
def tPred.Op : tPred → Int
  | ⟨x, _, _, _⟩ => x
def tPred.Name : tPred → Str
  | ⟨_, x, _, _⟩ => x
def tPred.N : tPred → Int
  | ⟨_, _, x, _⟩ => x
def tPred.Kids : tPred → (List tPred)
  | ⟨_, _, _, x⟩ => x
mutual
def c_tPred : tPred → List PVal
  | ⟨x0, x1, x2, x3⟩ => [.int .i64 x0, .str x1, .int .i64 x2, .slice (l_tPred x3)]
def l_tPred : List tPred → List (List PVal)
  | [] => []
  | x :: r => c_tPred x :: l_tPred r
end
theorem l_tPred_eq : ∀ (l : List tPred), l_tPred l = l.map c_tPred
  | [] => by simp [l_tPred]
  | x :: r => by simp [l_tPred, l_tPred_eq r]
mutual
theorem cl_tPred : ∀ (x : tPred), clL 0 (c_tPred x)
  | ⟨x0, x1, x2, x3⟩ => by rw [c_tPred]; exact (aI trivial (aI trivial (aI trivial (aI (cll_tPred x3) trivial))))
theorem cll_tPred : ∀ (l : List tPred), clLL 0 (l_tPred l)
  | [] => by simp [l_tPred, clLL]
  | x :: r => by rw [l_tPred]; exact ⟨cl_tPred x, cll_tPred r⟩
end
theorem ex_tPred : ∀ (x : tPred), c_tPred x = [.int .i64 x.Op, .str x.Name, .int .i64 x.N, sl c_tPred x.Kids]
  | ⟨x0, x1, x2, x3⟩ => by
    simp only [c_tPred, l_tPred_eq]
    rfl
abbrev v_tPred (x : tPred) : PVal := .agg (c_tPred x)
theorem len_tPred (x : tPred) : (c_tPred x).length = 4 := by rw [ex_tPred]; rfl
theorem pc_tPred (x : tPred) : pcells (.agg (c_tPred x)) = some (c_tPred x) := rfl
theorem pcA_tPred (x : tPred) : pcells (v_tPred x) = some (c_tPred x) := rfl
theorem pcx_tPred (x : tPred) : pcells (.agg (c_tPred x)) = some [.int .i64 x.Op, .str x.Name, .int .i64 x.N, sl c_tPred x.Kids] := by rw [ex_tPred]; rfl
theorem one_tPred (x : tPred) : ∀ q ∈ c_tPred x, q.one = true := by
  intro q hq
  rw [ex_tPred] at hq
  simp only [List.mem_cons, List.not_mem_nil, or_false] at hq
  rcases hq with rfl | rfl | rfl | rfl <;> rfl
theorem co31 : Pg.cellsOf 31 = 4 := by kernel_rfl
theorem lk_tPred (x : tPred) : plook Pg 31 (c_tPred x) = some (.agg (c_tPred x)) := by
  have := plookA (P := Pg) (t := 31) (l := c_tPred x) (r := []) (by kernel_rfl) (co31.trans (len_tPred x).symm)
  rwa [List.append_nil] at this
theorem lkx_tPred (x : tPred) (r : List PVal) : plook Pg 31 ([.int .i64 x.Op, .str x.Name, .int .i64 x.N, sl c_tPred x.Kids] ++ r) = some (.agg (c_tPred x)) := by
  rw [← ex_tPred]; exact plookA (by kernel_rfl) (co31.trans (len_tPred x).symm)
theorem rex_tPred (x : tPred) : PVal.agg [.int .i64 x.Op, .str x.Name, .int .i64 x.N, sl c_tPred x.Kids] = .agg (c_tPred x) := by rw [ex_tPred]
theorem bu_tPred_n : pbuild Pg 31 [] = some (.agg (c_tPred (⟨0, ([] : Str), 0, ([] : List tPred)⟩ : tPred))) := by
  simp only [ex_tPred]
  kernel_rfl
theorem bn_tPred_n : pnil Pg 31 [] [(3, 31)] := by
  exact ⟨[.int .i64 0, .str ([] : Str), .int .i64 0, .val nilV], by kernel_rfl, (aI rfl trivial)⟩
theorem bu_tPred_0_1 (x0 : Int) (x1 : Str) : pbuild Pg 31 [(0, .int .i64 x0), (1, .str x1)] = some (.agg (c_tPred (⟨x0, x1, 0, ([] : List tPred)⟩ : tPred))) := by
  simp only [ex_tPred]
  kernel_rfl
theorem bn_tPred_0_1 (x0 : Int) (x1 : Str) : pnil Pg 31 [(0, .int .i64 x0), (1, .str x1)] [(3, 31)] := by
  exact ⟨[.int .i64 x0, .str x1, .int .i64 0, .val nilV], by kernel_rfl, (aI rfl trivial)⟩
theorem bu_tPred_0_1_2 (x0 : Int) (x1 : Str) (x2 : Int) : pbuild Pg 31 [(0, .int .i64 x0), (1, .str x1), (2, .int .i64 x2)] = some (.agg (c_tPred (⟨x0, x1, x2, ([] : List tPred)⟩ : tPred))) := by
  simp only [ex_tPred]
  kernel_rfl
theorem bn_tPred_0_1_2 (x0 : Int) (x1 : Str) (x2 : Int) : pnil Pg 31 [(0, .int .i64 x0), (1, .str x1), (2, .int .i64 x2)] [(3, 31)] := by
  exact ⟨[.int .i64 x0, .str x1, .int .i64 x2, .val nilV], by kernel_rfl, (aI rfl trivial)⟩
theorem bu_tPred_0_1_3 (x0 : Int) (x1 : Str) (x3 : (List tPred)) : pbuild Pg 31 [(0, .int .i64 x0), (1, .str x1), (3, sl c_tPred x3)] = some (.agg (c_tPred (⟨x0, x1, 0, x3⟩ : tPred))) := by
  simp only [ex_tPred]
  kernel_rfl
theorem bu_tPred_0_2 (x0 : Int) (x2 : Int) : pbuild Pg 31 [(0, .int .i64 x0), (2, .int .i64 x2)] = some (.agg (c_tPred (⟨x0, ([] : Str), x2, ([] : List tPred)⟩ : tPred))) := by
  simp only [ex_tPred]
  kernel_rfl
theorem bn_tPred_0_2 (x0 : Int) (x2 : Int) : pnil Pg 31 [(0, .int .i64 x0), (2, .int .i64 x2)] [(3, 31)] := by
  exact ⟨[.int .i64 x0, .str ([] : Str), .int .i64 x2, .val nilV], by kernel_rfl, (aI rfl trivial)⟩
theorem bu_tPred_0_3 (x0 : Int) (x3 : (List tPred)) : pbuild Pg 31 [(0, .int .i64 x0), (3, sl c_tPred x3)] = some (.agg (c_tPred (⟨x0, ([] : Str), 0, x3⟩ : tPred))) := by
  simp only [ex_tPred]
  kernel_rfl
theorem bu_tPred_0 (x0 : Int) : pbuild Pg 31 [(0, .int .i64 x0)] = some (.agg (c_tPred (⟨x0, ([] : Str), 0, ([] : List tPred)⟩ : tPred))) := by
  simp only [ex_tPred]
  kernel_rfl
theorem bn_tPred_0 (x0 : Int) : pnil Pg 31 [(0, .int .i64 x0)] [(3, 31)] := by
  exact ⟨[.int .i64 x0, .str ([] : Str), .int .i64 0, .val nilV], by kernel_rfl, (aI rfl trivial)⟩
theorem fa_tPred_31_0 (x : tPred) : pfieldAddr Pg 31 (.eptr (c_tPred x)) 0 = some (.eptr ((c_tPred x).drop 0)) := by rw [ex_tPred]; kernel_rfl
theorem fa_tPred_31_1 (x : tPred) : pfieldAddr Pg 31 (.eptr (c_tPred x)) 1 = some (.eptr ((c_tPred x).drop 1)) := by rw [ex_tPred]; kernel_rfl
theorem fa_tPred_31_2 (x : tPred) : pfieldAddr Pg 31 (.eptr (c_tPred x)) 2 = some (.eptr ((c_tPred x).drop 2)) := by rw [ex_tPred]; kernel_rfl
theorem fa_tPred_31_3 (x : tPred) : pfieldAddr Pg 31 (.eptr (c_tPred x)) 3 = some (.eptr ((c_tPred x).drop 3)) := by rw [ex_tPred]; kernel_rfl
theorem lf_tPred_0_28 (x : tPred) : plook Pg 28 ((c_tPred x).drop 0) = some (.int .i64 x.Op) := by rw [ex_tPred]; kernel_rfl
theorem lf_tPred_1_9 (x : tPred) : plook Pg 9 ((c_tPred x).drop 1) = some (.str x.Name) := by rw [ex_tPred]; kernel_rfl
theorem lf_tPred_2_3 (x : tPred) : plook Pg 3 ((c_tPred x).drop 2) = some (.int .i64 x.N) := by rw [ex_tPred]; kernel_rfl
theorem lf_tPred_3_29 (x : tPred) : plook Pg 29 ((c_tPred x).drop 3) = some (sl c_tPred x.Kids) := by rw [ex_tPred]; kernel_rfl
structure tBound where
  Name : Str
  Vars : (List tVar)
  Hyp : tPred
  Goal : tPred
def c_tBound (x : tBound) : List PVal := [.str x.Name, sl c_tVar x.Vars] ++ (c_tPred x.Hyp ++ (c_tPred x.Goal))
theorem ex_tBound (x : tBound) : c_tBound x = [.str x.Name, sl c_tVar x.Vars, .int .i64 x.Hyp.Op, .str x.Hyp.Name, .int .i64 x.Hyp.N, sl c_tPred x.Hyp.Kids, .int .i64 x.Goal.Op, .str x.Goal.Name, .int .i64 x.Goal.N, sl c_tPred x.Goal.Kids] := by
  unfold c_tBound
  simp only [ex_tPred, List.cons_append, List.nil_append]
theorem cl_tBound (x : tBound) : clL 0 (c_tBound x) := by rw [ex_tBound]; exact (aI trivial (aI (cl_sl cl_tVar x.Vars) (aI trivial (aI trivial (aI trivial (aI (cl_sl cl_tPred x.Hyp.Kids) (aI trivial (aI trivial (aI trivial (aI (cl_sl cl_tPred x.Goal.Kids) trivial))))))))))
inductive tType where
  | mk (Op : Int) (Name : Str) (Args : (List tType)) (Names : (List Str)) (Pred : tPred) (Preds : (List tPred))
def tType.Op : tType → Int
  | ⟨x, _, _, _, _, _⟩ => x
def tType.Name : tType → Str
  | ⟨_, x, _, _, _, _⟩ => x
def tType.Args : tType → (List tType)
  | ⟨_, _, x, _, _, _⟩ => x
def tType.Names : tType → (List Str)
  | ⟨_, _, _, x, _, _⟩ => x
def tType.Pred : tType → tPred
  | ⟨_, _, _, _, x, _⟩ => x
def tType.Preds : tType → (List tPred)
  | ⟨_, _, _, _, _, x⟩ => x
mutual
def c_tType : tType → List PVal
  | ⟨x0, x1, x2, x3, x4, x5⟩ => [.int .i64 x0, .str x1, .slice (l_tType x2), sl cS x3] ++ (c_tPred x4 ++ ([sl c_tPred x5]))
def l_tType : List tType → List (List PVal)
  | [] => []
  | x :: r => c_tType x :: l_tType r
end
theorem l_tType_eq : ∀ (l : List tType), l_tType l = l.map c_tType
  | [] => by simp [l_tType]
  | x :: r => by simp [l_tType, l_tType_eq r]
mutual
theorem cl_tType : ∀ (x : tType), clL 0 (c_tType x)
  | ⟨x0, x1, x2, x3, x4, x5⟩ => by rw [c_tType]; exact clL_append.2 (aI ((aI trivial (aI trivial (aI (cll_tType x2) (aI (cl_sl clS x3) trivial))))) (clL_append.2 (aI (cl_tPred x4) ((aI (cl_sl cl_tPred x5) trivial)))))
theorem cll_tType : ∀ (l : List tType), clLL 0 (l_tType l)
  | [] => by simp [l_tType, clLL]
  | x :: r => by rw [l_tType]; exact ⟨cl_tType x, cll_tType r⟩
end
theorem ex_tType : ∀ (x : tType), c_tType x = [.int .i64 x.Op, .str x.Name, sl c_tType x.Args, sl cS x.Names, .int .i64 x.Pred.Op, .str x.Pred.Name, .int .i64 x.Pred.N, sl c_tPred x.Pred.Kids, sl c_tPred x.Preds]
  | ⟨x0, x1, x2, x3, x4, x5⟩ => by
    simp only [c_tType, l_tType_eq, ex_tPred, List.cons_append, List.nil_append]
    rfl
abbrev v_tType (x : tType) : PVal := .agg (c_tType x)
theorem len_tType (x : tType) : (c_tType x).length = 9 := by rw [ex_tType]; rfl
theorem pc_tType (x : tType) : pcells (.agg (c_tType x)) = some (c_tType x) := rfl
theorem pcA_tType (x : tType) : pcells (v_tType x) = some (c_tType x) := rfl
theorem pcx_tType (x : tType) : pcells (.agg (c_tType x)) = some [.int .i64 x.Op, .str x.Name, sl c_tType x.Args, sl cS x.Names, .int .i64 x.Pred.Op, .str x.Pred.Name, .int .i64 x.Pred.N, sl c_tPred x.Pred.Kids, sl c_tPred x.Preds] := by rw [ex_tType]; rfl
theorem one_tType (x : tType) : ∀ q ∈ c_tType x, q.one = true := by
  intro q hq
  rw [ex_tType] at hq
  simp only [List.mem_cons, List.not_mem_nil, or_false] at hq
  rcases hq with rfl | rfl | rfl | rfl | rfl | rfl | rfl | rfl | rfl <;> rfl
theorem co33 : Pg.cellsOf 33 = 9 := by kernel_rfl
theorem lk_tType (x : tType) : plook Pg 33 (c_tType x) = some (.agg (c_tType x)) := by
  have := plookA (P := Pg) (t := 33) (l := c_tType x) (r := []) (by kernel_rfl) (co33.trans (len_tType x).symm)
  rwa [List.append_nil] at this
theorem lkx_tType (x : tType) (r : List PVal) : plook Pg 33 ([.int .i64 x.Op, .str x.Name, sl c_tType x.Args, sl cS x.Names, .int .i64 x.Pred.Op, .str x.Pred.Name, .int .i64 x.Pred.N, sl c_tPred x.Pred.Kids, sl c_tPred x.Preds] ++ r) = some (.agg (c_tType x)) := by
  rw [← ex_tType]; exact plookA (by kernel_rfl) (co33.trans (len_tType x).symm)
theorem rex_tType (x : tType) : PVal.agg [.int .i64 x.Op, .str x.Name, sl c_tType x.Args, sl cS x.Names, .int .i64 x.Pred.Op, .str x.Pred.Name, .int .i64 x.Pred.N, sl c_tPred x.Pred.Kids, sl c_tPred x.Preds] = .agg (c_tType x) := by rw [ex_tType]
theorem bu_tType_0_1_3_4_5 (x0 : Int) (x1 : Str) (x3 : (List Str)) (x4 : tPred) (x5 : (List tPred)) : pbuild Pg 33 [(0, .int .i64 x0), (1, .str x1), (3, sl cS x3), (4, .agg (c_tPred x4)), (5, sl c_tPred x5)] = some (.agg (c_tType (⟨x0, x1, ([] : List tType), x3, x4, x5⟩ : tType))) := by
  simp only [ex_tType, ex_tPred]
  kernel_rfl
theorem bn_tType_0_1_3_4_5 (x0 : Int) (x1 : Str) (x3 : (List Str)) (x4 : tPred) (x5 : (List tPred)) : pnil Pg 33 [(0, .int .i64 x0), (1, .str x1), (3, sl cS x3), (4, .agg (c_tPred x4)), (5, sl c_tPred x5)] [(2, 33)] := by
  simp only [ex_tPred]
  exact ⟨[.int .i64 x0, .str x1, .val nilV, sl cS x3, .int .i64 x4.Op, .str x4.Name, .int .i64 x4.N, sl c_tPred x4.Kids, sl c_tPred x5], by kernel_rfl, (aI rfl trivial)⟩
theorem bu_tType_0_1_5 (x0 : Int) (x1 : Str) (x5 : (List tPred)) : pbuild Pg 33 [(0, .int .i64 x0), (1, .str x1), (5, sl c_tPred x5)] = some (.agg (c_tType (⟨x0, x1, ([] : List tType), ([] : List Str), (⟨0, ([] : Str), 0, ([] : List tPred)⟩ : tPred), x5⟩ : tType))) := by
  simp only [ex_tType]
  kernel_rfl
theorem bn_tType_0_1_5 (x0 : Int) (x1 : Str) (x5 : (List tPred)) : pnil Pg 33 [(0, .int .i64 x0), (1, .str x1), (5, sl c_tPred x5)] [(2, 33), (3, 9), (7, 31)] := by
  exact ⟨[.int .i64 x0, .str x1, .val nilV, .val nilV, .int .i64 0, .str ([] : Str), .int .i64 0, .val nilV, sl c_tPred x5], by kernel_rfl, (aI rfl (aI rfl (aI rfl trivial)))⟩
theorem bu_tType_0_3_2 (x0 : Int) (x3 : (List Str)) (x2 : (List tType)) : pbuild Pg 33 [(0, .int .i64 x0), (3, sl cS x3), (2, sl c_tType x2)] = some (.agg (c_tType (⟨x0, ([] : Str), x2, x3, (⟨0, ([] : Str), 0, ([] : List tPred)⟩ : tPred), ([] : List tPred)⟩ : tType))) := by
  simp only [ex_tType]
  kernel_rfl
theorem bn_tType_0_3_2 (x0 : Int) (x3 : (List Str)) (x2 : (List tType)) : pnil Pg 33 [(0, .int .i64 x0), (3, sl cS x3), (2, sl c_tType x2)] [(7, 31), (8, 31)] := by
  exact ⟨[.int .i64 x0, .str ([] : Str), sl c_tType x2, sl cS x3, .int .i64 0, .str ([] : Str), .int .i64 0, .val nilV, .val nilV], by kernel_rfl, (aI rfl (aI rfl trivial))⟩
theorem bu_tType_0_4 (x0 : Int) (x4 : tPred) : pbuild Pg 33 [(0, .int .i64 x0), (4, .agg (c_tPred x4))] = some (.agg (c_tType (⟨x0, ([] : Str), ([] : List tType), ([] : List Str), x4, ([] : List tPred)⟩ : tType))) := by
  simp only [ex_tType, ex_tPred]
  kernel_rfl
theorem bn_tType_0_4 (x0 : Int) (x4 : tPred) : pnil Pg 33 [(0, .int .i64 x0), (4, .agg (c_tPred x4))] [(2, 33), (3, 9), (8, 31)] := by
  simp only [ex_tPred]
  exact ⟨[.int .i64 x0, .str ([] : Str), .val nilV, .val nilV, .int .i64 x4.Op, .str x4.Name, .int .i64 x4.N, sl c_tPred x4.Kids, .val nilV], by kernel_rfl, (aI rfl (aI rfl (aI rfl trivial)))⟩
theorem bu_tType_0_1_3_4_5_r3 (x0 : Int) (x1 : Str) (b3 n3 : Nat) (x4 : tPred) (x5 : (List tPred)) : pbuild Pg 33 [(0, .int .i64 x0), (1, .str x1), (3, .bsl b3 0 n3), (4, .agg (c_tPred x4)), (5, sl c_tPred x5)] = some (.agg [.int .i64 x0, .str x1, sl c_tType ([] : List tType), .bsl b3 0 n3, .int .i64 x4.Op, .str x4.Name, .int .i64 x4.N, sl c_tPred x4.Kids, sl c_tPred x5]) := by
  simp only [ex_tPred]
  kernel_rfl
theorem bn_tType_0_1_3_4_5_r3 (x0 : Int) (x1 : Str) (b3 n3 : Nat) (x4 : tPred) (x5 : (List tPred)) : pnil Pg 33 [(0, .int .i64 x0), (1, .str x1), (3, .bsl b3 0 n3), (4, .agg (c_tPred x4)), (5, sl c_tPred x5)] [(2, 33)] := by
  simp only [ex_tPred]
  exact ⟨[.int .i64 x0, .str x1, .val nilV, .bsl b3 0 n3, .int .i64 x4.Op, .str x4.Name, .int .i64 x4.N, sl c_tPred x4.Kids, sl c_tPred x5], by kernel_rfl, (aI rfl trivial)⟩
theorem bu_tType_0_1_3_4_5_2_r3 (x0 : Int) (x1 : Str) (b3 n3 : Nat) (x4 : tPred) (x5 : (List tPred)) (x2 : (List tType)) : pbuild Pg 33 [(0, .int .i64 x0), (1, .str x1), (3, .bsl b3 0 n3), (4, .agg (c_tPred x4)), (5, sl c_tPred x5), (2, sl c_tType x2)] = some (.agg [.int .i64 x0, .str x1, sl c_tType x2, .bsl b3 0 n3, .int .i64 x4.Op, .str x4.Name, .int .i64 x4.N, sl c_tPred x4.Kids, sl c_tPred x5]) := by
  simp only [ex_tPred]
  kernel_rfl
theorem fa_tType_33_0 (x : tType) : pfieldAddr Pg 33 (.eptr (c_tType x)) 0 = some (.eptr ((c_tType x).drop 0)) := by rw [ex_tType]; kernel_rfl
theorem fa_tType_33_1 (x : tType) : pfieldAddr Pg 33 (.eptr (c_tType x)) 1 = some (.eptr ((c_tType x).drop 1)) := by rw [ex_tType]; kernel_rfl
theorem fa_tType_33_2 (x : tType) : pfieldAddr Pg 33 (.eptr (c_tType x)) 2 = some (.eptr ((c_tType x).drop 2)) := by rw [ex_tType]; kernel_rfl
theorem fa_tType_33_3 (x : tType) : pfieldAddr Pg 33 (.eptr (c_tType x)) 3 = some (.eptr ((c_tType x).drop 3)) := by rw [ex_tType]; kernel_rfl
theorem fa_tType_33_4 (x : tType) : pfieldAddr Pg 33 (.eptr (c_tType x)) 4 = some (.eptr ((c_tType x).drop 4)) := by rw [ex_tType]; kernel_rfl
theorem fa_tType_33_5 (x : tType) : pfieldAddr Pg 33 (.eptr (c_tType x)) 5 = some (.eptr ((c_tType x).drop 8)) := by rw [ex_tType]; kernel_rfl
theorem lf_tType_0_26 (x : tType) : plook Pg 26 ((c_tType x).drop 0) = some (.int .i64 x.Op) := by rw [ex_tType]; kernel_rfl
theorem lf_tType_1_9 (x : tType) : plook Pg 9 ((c_tType x).drop 1) = some (.str x.Name) := by rw [ex_tType]; kernel_rfl
theorem lf_tType_2_27 (x : tType) : plook Pg 27 ((c_tType x).drop 2) = some (sl c_tType x.Args) := by rw [ex_tType]; kernel_rfl
theorem lf_tType_3_22 (x : tType) : plook Pg 22 ((c_tType x).drop 3) = some (sl cS x.Names) := by rw [ex_tType]; kernel_rfl
theorem lf_tType_4_31 (x : tType) : plook Pg 31 ((c_tType x).drop 4) = some (.agg (c_tPred x.Pred)) := by
  rw [ex_tType, ex_tPred]; kernel_rfl
theorem lf_tType_8_29 (x : tType) : plook Pg 29 ((c_tType x).drop 8) = some (sl c_tPred x.Preds) := by rw [ex_tType]; kernel_rfl
theorem lkA_tType (x : tType) (r : List PVal) : plook Pg 33 (c_tType x ++ r) = some (.agg (c_tType x)) := plookA (by kernel_rfl) (co33.trans (len_tType x).symm)
structure tSig where
  Vars : (List Str)
  Needs : (List tNeed)
  Abs : (List tAbs)
  Bounds : (List tBound)
  Type_ : tType
  Metric : (List tPred)
def c_tSig (x : tSig) : List PVal := [sl cS x.Vars, sl c_tNeed x.Needs, sl c_tAbs x.Abs, sl c_tBound x.Bounds] ++ (c_tType x.Type_ ++ ([sl c_tPred x.Metric]))
theorem ex_tSig (x : tSig) : c_tSig x = [sl cS x.Vars, sl c_tNeed x.Needs, sl c_tAbs x.Abs, sl c_tBound x.Bounds, .int .i64 x.Type_.Op, .str x.Type_.Name, sl c_tType x.Type_.Args, sl cS x.Type_.Names, .int .i64 x.Type_.Pred.Op, .str x.Type_.Pred.Name, .int .i64 x.Type_.Pred.N, sl c_tPred x.Type_.Pred.Kids, sl c_tPred x.Type_.Preds, sl c_tPred x.Metric] := by
  unfold c_tSig
  simp only [ex_tType, List.cons_append, List.nil_append]
theorem cl_tSig (x : tSig) : clL 0 (c_tSig x) := by rw [ex_tSig]; exact (aI (cl_sl clS x.Vars) (aI (cl_sl cl_tNeed x.Needs) (aI (cl_sl cl_tAbs x.Abs) (aI (cl_sl cl_tBound x.Bounds) (aI trivial (aI trivial (aI (cl_sl cl_tType x.Type_.Args) (aI (cl_sl clS x.Type_.Names) (aI trivial (aI trivial (aI trivial (aI (cl_sl cl_tPred x.Type_.Pred.Kids) (aI (cl_sl cl_tPred x.Type_.Preds) (aI (cl_sl cl_tPred x.Metric) trivial))))))))))))))
theorem len_tSig (x : tSig) : (c_tSig x).length = 14 := by rw [ex_tSig]; rfl
theorem pc_tSig (x : tSig) : pcells (.agg (c_tSig x)) = some (c_tSig x) := rfl
theorem pcx_tSig (x : tSig) : pcells (.agg (c_tSig x)) = some [sl cS x.Vars, sl c_tNeed x.Needs, sl c_tAbs x.Abs, sl c_tBound x.Bounds, .int .i64 x.Type_.Op, .str x.Type_.Name, sl c_tType x.Type_.Args, sl cS x.Type_.Names, .int .i64 x.Type_.Pred.Op, .str x.Type_.Pred.Name, .int .i64 x.Type_.Pred.N, sl c_tPred x.Type_.Pred.Kids, sl c_tPred x.Type_.Preds, sl c_tPred x.Metric] := by rw [ex_tSig]; rfl
theorem co35 : Pg.cellsOf 35 = 14 := by kernel_rfl
theorem lkx_tSig (x : tSig) (r : List PVal) : plook Pg 35 ([sl cS x.Vars, sl c_tNeed x.Needs, sl c_tAbs x.Abs, sl c_tBound x.Bounds, .int .i64 x.Type_.Op, .str x.Type_.Name, sl c_tType x.Type_.Args, sl cS x.Type_.Names, .int .i64 x.Type_.Pred.Op, .str x.Type_.Pred.Name, .int .i64 x.Type_.Pred.N, sl c_tPred x.Type_.Pred.Kids, sl c_tPred x.Type_.Preds, sl c_tPred x.Metric] ++ r) = some (.agg (c_tSig x)) := by
  rw [← ex_tSig]; exact plookA (by kernel_rfl) (co35.trans (len_tSig x).symm)
theorem bu_tSig_2_4 (x2 : (List tAbs)) (x4 : tType) : pbuild Pg 35 [(2, sl c_tAbs x2), (4, .agg (c_tType x4))] = some (.agg (c_tSig (⟨([] : List Str), ([] : List tNeed), x2, ([] : List tBound), x4, ([] : List tPred)⟩ : tSig))) := by
  simp only [ex_tSig, ex_tType]
  kernel_rfl
theorem bn_tSig_2_4 (x2 : (List tAbs)) (x4 : tType) : pnil Pg 35 [(2, sl c_tAbs x2), (4, .agg (c_tType x4))] [(0, 9), (1, 226), (3, 228), (13, 31)] := by
  simp only [ex_tType]
  exact ⟨[.val nilV, .val nilV, sl c_tAbs x2, .val nilV, .int .i64 x4.Op, .str x4.Name, sl c_tType x4.Args, sl cS x4.Names, .int .i64 x4.Pred.Op, .str x4.Pred.Name, .int .i64 x4.Pred.N, sl c_tPred x4.Pred.Kids, sl c_tPred x4.Preds, .val nilV], by kernel_rfl, (aI rfl (aI rfl (aI rfl (aI rfl trivial))))⟩
theorem fa_tSig_35_2 (x : tSig) : pfieldAddr Pg 35 (.eptr (c_tSig x)) 2 = some (.eptr ((c_tSig x).drop 2)) := by rw [ex_tSig]; kernel_rfl
theorem lf_tSig_2_24 (x : tSig) : plook Pg 24 ((c_tSig x).drop 2) = some (sl c_tAbs x.Abs) := by rw [ex_tSig]; kernel_rfl
structure tHole where
  Name : Str
  Params : (List tVar)
deriving DecidableEq
def c_tHole (x : tHole) : List PVal := [.str x.Name, sl c_tVar x.Params]
theorem ex_tHole (x : tHole) : c_tHole x = [.str x.Name, sl c_tVar x.Params] := rfl
theorem cl_tHole (x : tHole) : clL 0 (c_tHole x) := (aI trivial (aI (cl_sl cl_tVar x.Params) trivial))
abbrev v_tHole (x : tHole) : PVal := .agg (c_tHole x)
theorem len_tHole (x : tHole) : (c_tHole x).length = 2 := by rw [ex_tHole]; rfl
theorem pc_tHole (x : tHole) : pcells (.agg (c_tHole x)) = some (c_tHole x) := rfl
theorem pcA_tHole (x : tHole) : pcells (v_tHole x) = some (c_tHole x) := rfl
theorem pcx_tHole (x : tHole) : pcells (.agg (c_tHole x)) = some [.str x.Name, sl c_tVar x.Params] := by rw [ex_tHole]; rfl
theorem one_tHole (x : tHole) : ∀ q ∈ c_tHole x, q.one = true := by
  intro q hq
  rw [ex_tHole] at hq
  simp only [List.mem_cons, List.not_mem_nil, or_false] at hq
  rcases hq with rfl | rfl <;> rfl
theorem co82 : Pg.cellsOf 82 = 2 := by kernel_rfl
theorem lk_tHole (x : tHole) : plook Pg 82 (c_tHole x) = some (.agg (c_tHole x)) := by
  have := plookA (P := Pg) (t := 82) (l := c_tHole x) (r := []) (by kernel_rfl) (co82.trans (len_tHole x).symm)
  rwa [List.append_nil] at this
theorem lkx_tHole (x : tHole) (r : List PVal) : plook Pg 82 ([.str x.Name, sl c_tVar x.Params] ++ r) = some (.agg (c_tHole x)) := by
  rw [← ex_tHole]; exact plookA (by kernel_rfl) (co82.trans (len_tHole x).symm)
theorem rex_tHole (x : tHole) : PVal.agg [.str x.Name, sl c_tVar x.Params] = .agg (c_tHole x) := by rw [ex_tHole]
theorem bu_tHole_n : pbuild Pg 82 [] = some (.agg (c_tHole (⟨([] : Str), ([] : List tVar)⟩ : tHole))) := by
  kernel_rfl
theorem bn_tHole_n : pnil Pg 82 [] [(1, 88)] := by
  exact ⟨[.str ([] : Str), .val nilV], by kernel_rfl, (aI rfl trivial)⟩
theorem bu_tHole_0_1 (x0 : Str) (x1 : (List tVar)) : pbuild Pg 82 [(0, .str x0), (1, sl c_tVar x1)] = some (.agg (c_tHole (⟨x0, x1⟩ : tHole))) := by
  kernel_rfl
theorem fa_tHole_82_0 (x : tHole) : pfieldAddr Pg 82 (.eptr (c_tHole x)) 0 = some (.eptr ((c_tHole x).drop 0)) := by kernel_rfl
theorem fa_tHole_82_1 (x : tHole) : pfieldAddr Pg 82 (.eptr (c_tHole x)) 1 = some (.eptr ((c_tHole x).drop 1)) := by kernel_rfl
theorem lf_tHole_0_9 (x : tHole) : plook Pg 9 ((c_tHole x).drop 0) = some (.str x.Name) := by kernel_rfl
theorem lf_tHole_1_36 (x : tHole) : plook Pg 36 ((c_tHole x).drop 1) = some (sl c_tVar x.Params) := by kernel_rfl
structure tCon where
  Name : Str
  Names : (List Str)
  Fields : (List tType)
def c_tCon (x : tCon) : List PVal := [.str x.Name, sl cS x.Names, sl c_tType x.Fields]
theorem ex_tCon (x : tCon) : c_tCon x = [.str x.Name, sl cS x.Names, sl c_tType x.Fields] := rfl
theorem cl_tCon (x : tCon) : clL 0 (c_tCon x) := (aI trivial (aI (cl_sl clS x.Names) (aI (cl_sl cl_tType x.Fields) trivial)))
abbrev v_tCon (x : tCon) : PVal := .agg (c_tCon x)
theorem len_tCon (x : tCon) : (c_tCon x).length = 3 := by rw [ex_tCon]; rfl
theorem pcA_tCon (x : tCon) : pcells (v_tCon x) = some (c_tCon x) := rfl
theorem pcx_tCon (x : tCon) : pcells (.agg (c_tCon x)) = some [.str x.Name, sl cS x.Names, sl c_tType x.Fields] := by rw [ex_tCon]; rfl
theorem one_tCon (x : tCon) : ∀ q ∈ c_tCon x, q.one = true := by
  intro q hq
  rw [ex_tCon] at hq
  simp only [List.mem_cons, List.not_mem_nil, or_false] at hq
  rcases hq with rfl | rfl | rfl <;> rfl
theorem co63 : Pg.cellsOf 63 = 3 := by kernel_rfl
theorem lk_tCon (x : tCon) : plook Pg 63 (c_tCon x) = some (.agg (c_tCon x)) := by
  have := plookA (P := Pg) (t := 63) (l := c_tCon x) (r := []) (by kernel_rfl) (co63.trans (len_tCon x).symm)
  rwa [List.append_nil] at this
theorem bu_tCon_0_1_2 (x0 : Str) (x1 : (List Str)) (x2 : (List tType)) : pbuild Pg 63 [(0, .str x0), (1, sl cS x1), (2, sl c_tType x2)] = some (.agg (c_tCon (⟨x0, x1, x2⟩ : tCon))) := by
  kernel_rfl
theorem bu_tCon_0 (x0 : Str) : pbuild Pg 63 [(0, .str x0)] = some (.agg (c_tCon (⟨x0, ([] : List Str), ([] : List tType)⟩ : tCon))) := by
  kernel_rfl
theorem bn_tCon_0 (x0 : Str) : pnil Pg 63 [(0, .str x0)] [(1, 9), (2, 33)] := by
  exact ⟨[.str x0, .val nilV, .val nilV], by kernel_rfl, (aI rfl (aI rfl trivial))⟩
theorem fa_tCon_63_2 (x : tCon) : pfieldAddr Pg 63 (.eptr (c_tCon x)) 2 = some (.eptr ((c_tCon x).drop 2)) := by kernel_rfl
theorem lf_tCon_2_27 (x : tCon) : plook Pg 27 ((c_tCon x).drop 2) = some (sl c_tType x.Fields) := by kernel_rfl
structure tData where
  Name : Str
  Vars : (List Str)
  Preds : (List tVar)
  Cons : (List tCon)
def c_tData (x : tData) : List PVal := [.str x.Name, sl cS x.Vars, sl c_tVar x.Preds, sl c_tCon x.Cons]
theorem ex_tData (x : tData) : c_tData x = [.str x.Name, sl cS x.Vars, sl c_tVar x.Preds, sl c_tCon x.Cons] := rfl
theorem cl_tData (x : tData) : clL 0 (c_tData x) := (aI trivial (aI (cl_sl clS x.Vars) (aI (cl_sl cl_tVar x.Preds) (aI (cl_sl cl_tCon x.Cons) trivial))))
abbrev v_tData (x : tData) : PVal := .agg (c_tData x)
theorem len_tData (x : tData) : (c_tData x).length = 4 := by rw [ex_tData]; rfl
theorem pcA_tData (x : tData) : pcells (v_tData x) = some (c_tData x) := rfl
theorem pcx_tData (x : tData) : pcells (.agg (c_tData x)) = some [.str x.Name, sl cS x.Vars, sl c_tVar x.Preds, sl c_tCon x.Cons] := by rw [ex_tData]; rfl
theorem one_tData (x : tData) : ∀ q ∈ c_tData x, q.one = true := by
  intro q hq
  rw [ex_tData] at hq
  simp only [List.mem_cons, List.not_mem_nil, or_false] at hq
  rcases hq with rfl | rfl | rfl | rfl <;> rfl
theorem co61 : Pg.cellsOf 61 = 4 := by kernel_rfl
theorem lk_tData (x : tData) : plook Pg 61 (c_tData x) = some (.agg (c_tData x)) := by
  have := plookA (P := Pg) (t := 61) (l := c_tData x) (r := []) (by kernel_rfl) (co61.trans (len_tData x).symm)
  rwa [List.append_nil] at this
theorem lkx_tData (x : tData) (r : List PVal) : plook Pg 61 ([.str x.Name, sl cS x.Vars, sl c_tVar x.Preds, sl c_tCon x.Cons] ++ r) = some (.agg (c_tData x)) := by
  rw [← ex_tData]; exact plookA (by kernel_rfl) (co61.trans (len_tData x).symm)
theorem rex_tData (x : tData) : PVal.agg [.str x.Name, sl cS x.Vars, sl c_tVar x.Preds, sl c_tCon x.Cons] = .agg (c_tData x) := by rw [ex_tData]
theorem bu_tData_n : pbuild Pg 61 [] = some (.agg (c_tData (⟨([] : Str), ([] : List Str), ([] : List tVar), ([] : List tCon)⟩ : tData))) := by
  kernel_rfl
theorem bn_tData_n : pnil Pg 61 [] [(1, 9), (2, 88), (3, 63)] := by
  exact ⟨[.str ([] : Str), .val nilV, .val nilV, .val nilV], by kernel_rfl, (aI rfl (aI rfl (aI rfl trivial)))⟩
theorem bu_tData_0_2_3 (x0 : Str) (x2 : (List tVar)) (x3 : (List tCon)) : pbuild Pg 61 [(0, .str x0), (2, sl c_tVar x2), (3, sl c_tCon x3)] = some (.agg (c_tData (⟨x0, ([] : List Str), x2, x3⟩ : tData))) := by
  kernel_rfl
theorem bn_tData_0_2_3 (x0 : Str) (x2 : (List tVar)) (x3 : (List tCon)) : pnil Pg 61 [(0, .str x0), (2, sl c_tVar x2), (3, sl c_tCon x3)] [(1, 9)] := by
  exact ⟨[.str x0, .val nilV, sl c_tVar x2, sl c_tCon x3], by kernel_rfl, (aI rfl trivial)⟩
theorem fa_tData_61_2 (x : tData) : pfieldAddr Pg 61 (.eptr (c_tData x)) 2 = some (.eptr ((c_tData x).drop 2)) := by kernel_rfl
theorem fa_tData_61_3 (x : tData) : pfieldAddr Pg 61 (.eptr (c_tData x)) 3 = some (.eptr ((c_tData x).drop 3)) := by kernel_rfl
theorem lf_tData_2_36 (x : tData) : plook Pg 36 ((c_tData x).drop 2) = some (sl c_tVar x.Preds) := by kernel_rfl
theorem lf_tData_3_59 (x : tData) : plook Pg 59 ((c_tData x).drop 3) = some (sl c_tCon x.Cons) := by kernel_rfl
structure tMethod where
  Name : Str
  Type_ : tType
def c_tMethod (x : tMethod) : List PVal := [.str x.Name] ++ (c_tType x.Type_)
theorem ex_tMethod (x : tMethod) : c_tMethod x = [.str x.Name, .int .i64 x.Type_.Op, .str x.Type_.Name, sl c_tType x.Type_.Args, sl cS x.Type_.Names, .int .i64 x.Type_.Pred.Op, .str x.Type_.Pred.Name, .int .i64 x.Type_.Pred.N, sl c_tPred x.Type_.Pred.Kids, sl c_tPred x.Type_.Preds] := by
  unfold c_tMethod
  simp only [ex_tType, List.cons_append, List.nil_append]
theorem cl_tMethod (x : tMethod) : clL 0 (c_tMethod x) := by rw [ex_tMethod]; exact (aI trivial (aI trivial (aI trivial (aI (cl_sl cl_tType x.Type_.Args) (aI (cl_sl clS x.Type_.Names) (aI trivial (aI trivial (aI trivial (aI (cl_sl cl_tPred x.Type_.Pred.Kids) (aI (cl_sl cl_tPred x.Type_.Preds) trivial))))))))))
structure tClass where
  Name : Str
  Var : Str
  Methods : (List tMethod)
def c_tClass (x : tClass) : List PVal := [.str x.Name, .str x.Var, sl c_tMethod x.Methods]
theorem cl_tClass (x : tClass) : clL 0 (c_tClass x) := (aI trivial (aI trivial (aI (cl_sl cl_tMethod x.Methods) trivial)))
structure tParam where
  Name : Str
  Type_ : tType
def c_tParam (x : tParam) : List PVal := [.str x.Name] ++ (c_tType x.Type_)
theorem ex_tParam (x : tParam) : c_tParam x = [.str x.Name, .int .i64 x.Type_.Op, .str x.Type_.Name, sl c_tType x.Type_.Args, sl cS x.Type_.Names, .int .i64 x.Type_.Pred.Op, .str x.Type_.Pred.Name, .int .i64 x.Type_.Pred.N, sl c_tPred x.Type_.Pred.Kids, sl c_tPred x.Type_.Preds] := by
  unfold c_tParam
  simp only [ex_tType, List.cons_append, List.nil_append]
theorem cl_tParam (x : tParam) : clL 0 (c_tParam x) := by rw [ex_tParam]; exact (aI trivial (aI trivial (aI trivial (aI (cl_sl cl_tType x.Type_.Args) (aI (cl_sl clS x.Type_.Names) (aI trivial (aI trivial (aI trivial (aI (cl_sl cl_tPred x.Type_.Pred.Kids) (aI (cl_sl cl_tPred x.Type_.Preds) trivial))))))))))
mutual
inductive tExpr where
  | mk (Op : Int) (Name : Str) (N : Int) (Kids : (List tExpr)) (Params : (List tParam)) (Alts : (List tAlt)) (Types : (List tType))
inductive tAlt where
  | mk (Con : Str) (Names : (List Str)) (Body : tExpr)
end
def tExpr.Op : tExpr → Int
  | ⟨x, _, _, _, _, _, _⟩ => x
def tExpr.Name : tExpr → Str
  | ⟨_, x, _, _, _, _, _⟩ => x
def tExpr.N : tExpr → Int
  | ⟨_, _, x, _, _, _, _⟩ => x
def tExpr.Kids : tExpr → (List tExpr)
  | ⟨_, _, _, x, _, _, _⟩ => x
def tExpr.Params : tExpr → (List tParam)
  | ⟨_, _, _, _, x, _, _⟩ => x
def tExpr.Alts : tExpr → (List tAlt)
  | ⟨_, _, _, _, _, x, _⟩ => x
def tExpr.Types : tExpr → (List tType)
  | ⟨_, _, _, _, _, _, x⟩ => x
def tAlt.Con : tAlt → Str
  | ⟨x, _, _⟩ => x
def tAlt.Names : tAlt → (List Str)
  | ⟨_, x, _⟩ => x
def tAlt.Body : tAlt → tExpr
  | ⟨_, _, x⟩ => x
mutual
def c_tExpr : tExpr → List PVal
  | ⟨x0, x1, x2, x3, x4, x5, x6⟩ => [.int .i64 x0, .str x1, .int .i64 x2, .slice (l_tExpr x3), sl c_tParam x4, .slice (l_tAlt x5), sl c_tType x6]
def c_tAlt : tAlt → List PVal
  | ⟨x0, x1, x2⟩ => [.str x0, sl cS x1] ++ (c_tExpr x2)
def l_tExpr : List tExpr → List (List PVal)
  | [] => []
  | x :: r => c_tExpr x :: l_tExpr r
def l_tAlt : List tAlt → List (List PVal)
  | [] => []
  | x :: r => c_tAlt x :: l_tAlt r
end
theorem l_tExpr_eq : ∀ (l : List tExpr), l_tExpr l = l.map c_tExpr
  | [] => by simp [l_tExpr]
  | x :: r => by simp [l_tExpr, l_tExpr_eq r]
theorem l_tAlt_eq : ∀ (l : List tAlt), l_tAlt l = l.map c_tAlt
  | [] => by simp [l_tAlt]
  | x :: r => by simp [l_tAlt, l_tAlt_eq r]
mutual
theorem cl_tExpr : ∀ (x : tExpr), clL 0 (c_tExpr x)
  | ⟨x0, x1, x2, x3, x4, x5, x6⟩ => by rw [c_tExpr]; exact (aI trivial (aI trivial (aI trivial (aI (cll_tExpr x3) (aI (cl_sl cl_tParam x4) (aI (cll_tAlt x5) (aI (cl_sl cl_tType x6) trivial)))))))
theorem cl_tAlt : ∀ (x : tAlt), clL 0 (c_tAlt x)
  | ⟨x0, x1, x2⟩ => by rw [c_tAlt]; exact clL_append.2 (aI ((aI trivial (aI (cl_sl clS x1) trivial))) (cl_tExpr x2))
theorem cll_tExpr : ∀ (l : List tExpr), clLL 0 (l_tExpr l)
  | [] => by simp [l_tExpr, clLL]
  | x :: r => by rw [l_tExpr]; exact ⟨cl_tExpr x, cll_tExpr r⟩
theorem cll_tAlt : ∀ (l : List tAlt), clLL 0 (l_tAlt l)
  | [] => by simp [l_tAlt, clLL]
  | x :: r => by rw [l_tAlt]; exact ⟨cl_tAlt x, cll_tAlt r⟩
end
theorem ex_tExpr : ∀ (x : tExpr), c_tExpr x = [.int .i64 x.Op, .str x.Name, .int .i64 x.N, sl c_tExpr x.Kids, sl c_tParam x.Params, sl c_tAlt x.Alts, sl c_tType x.Types]
  | ⟨x0, x1, x2, x3, x4, x5, x6⟩ => by
    simp only [c_tExpr, l_tExpr_eq, l_tAlt_eq]
    rfl
structure tDef where
  Name : Str
  Params : (List Str)
  Body : tExpr
  Mode : Int
  Typed : Bool
  Sig : tSig
def c_tDef (x : tDef) : List PVal := [.str x.Name, sl cS x.Params] ++ (c_tExpr x.Body ++ ([.int .i64 x.Mode, .bool x.Typed] ++ (c_tSig x.Sig)))
theorem ex_tDef (x : tDef) : c_tDef x = [.str x.Name, sl cS x.Params, .int .i64 x.Body.Op, .str x.Body.Name, .int .i64 x.Body.N, sl c_tExpr x.Body.Kids, sl c_tParam x.Body.Params, sl c_tAlt x.Body.Alts, sl c_tType x.Body.Types, .int .i64 x.Mode, .bool x.Typed, sl cS x.Sig.Vars, sl c_tNeed x.Sig.Needs, sl c_tAbs x.Sig.Abs, sl c_tBound x.Sig.Bounds, .int .i64 x.Sig.Type_.Op, .str x.Sig.Type_.Name, sl c_tType x.Sig.Type_.Args, sl cS x.Sig.Type_.Names, .int .i64 x.Sig.Type_.Pred.Op, .str x.Sig.Type_.Pred.Name, .int .i64 x.Sig.Type_.Pred.N, sl c_tPred x.Sig.Type_.Pred.Kids, sl c_tPred x.Sig.Type_.Preds, sl c_tPred x.Sig.Metric] := by
  unfold c_tDef
  simp only [ex_tExpr, ex_tSig, List.cons_append, List.nil_append]
theorem cl_tDef (x : tDef) : clL 0 (c_tDef x) := by rw [ex_tDef]; exact (aI trivial (aI (cl_sl clS x.Params) (aI trivial (aI trivial (aI trivial (aI (cl_sl cl_tExpr x.Body.Kids) (aI (cl_sl cl_tParam x.Body.Params) (aI (cl_sl cl_tAlt x.Body.Alts) (aI (cl_sl cl_tType x.Body.Types) (aI trivial (aI trivial (aI (cl_sl clS x.Sig.Vars) (aI (cl_sl cl_tNeed x.Sig.Needs) (aI (cl_sl cl_tAbs x.Sig.Abs) (aI (cl_sl cl_tBound x.Sig.Bounds) (aI trivial (aI trivial (aI (cl_sl cl_tType x.Sig.Type_.Args) (aI (cl_sl clS x.Sig.Type_.Names) (aI trivial (aI trivial (aI trivial (aI (cl_sl cl_tPred x.Sig.Type_.Pred.Kids) (aI (cl_sl cl_tPred x.Sig.Type_.Preds) (aI (cl_sl cl_tPred x.Sig.Metric) trivial)))))))))))))))))))))))))
structure tInstance where
  Class : Str
  Type_ : tType
  Needs : (List tNeed)
  Defs : (List tDef)
def c_tInstance (x : tInstance) : List PVal := [.str x.Class] ++ (c_tType x.Type_ ++ ([sl c_tNeed x.Needs, sl c_tDef x.Defs]))
theorem ex_tInstance (x : tInstance) : c_tInstance x = [.str x.Class, .int .i64 x.Type_.Op, .str x.Type_.Name, sl c_tType x.Type_.Args, sl cS x.Type_.Names, .int .i64 x.Type_.Pred.Op, .str x.Type_.Pred.Name, .int .i64 x.Type_.Pred.N, sl c_tPred x.Type_.Pred.Kids, sl c_tPred x.Type_.Preds, sl c_tNeed x.Needs, sl c_tDef x.Defs] := by
  unfold c_tInstance
  simp only [ex_tType, List.cons_append, List.nil_append]
theorem cl_tInstance (x : tInstance) : clL 0 (c_tInstance x) := by rw [ex_tInstance]; exact (aI trivial (aI trivial (aI trivial (aI (cl_sl cl_tType x.Type_.Args) (aI (cl_sl clS x.Type_.Names) (aI trivial (aI trivial (aI trivial (aI (cl_sl cl_tPred x.Type_.Pred.Kids) (aI (cl_sl cl_tPred x.Type_.Preds) (aI (cl_sl cl_tNeed x.Needs) (aI (cl_sl cl_tDef x.Defs) trivial))))))))))))
structure tCase where
  Con : Str
  Names : (List Str)
  Body : tPred
def c_tCase (x : tCase) : List PVal := [.str x.Con, sl cS x.Names] ++ (c_tPred x.Body)
theorem ex_tCase (x : tCase) : c_tCase x = [.str x.Con, sl cS x.Names, .int .i64 x.Body.Op, .str x.Body.Name, .int .i64 x.Body.N, sl c_tPred x.Body.Kids] := by
  unfold c_tCase
  simp only [ex_tPred, List.cons_append, List.nil_append]
theorem cl_tCase (x : tCase) : clL 0 (c_tCase x) := by rw [ex_tCase]; exact (aI trivial (aI (cl_sl clS x.Names) (aI trivial (aI trivial (aI trivial (aI (cl_sl cl_tPred x.Body.Kids) trivial))))))
structure tMeasure where
  Name : Str
  Data : Str
  Result : Str
  Cases : (List tCase)
  Inv : tPred
def c_tMeasure (x : tMeasure) : List PVal := [.str x.Name, .str x.Data, .str x.Result, sl c_tCase x.Cases] ++ (c_tPred x.Inv)
theorem ex_tMeasure (x : tMeasure) : c_tMeasure x = [.str x.Name, .str x.Data, .str x.Result, sl c_tCase x.Cases, .int .i64 x.Inv.Op, .str x.Inv.Name, .int .i64 x.Inv.N, sl c_tPred x.Inv.Kids] := by
  unfold c_tMeasure
  simp only [ex_tPred, List.cons_append, List.nil_append]
theorem cl_tMeasure (x : tMeasure) : clL 0 (c_tMeasure x) := by rw [ex_tMeasure]; exact (aI trivial (aI trivial (aI trivial (aI (cl_sl cl_tCase x.Cases) (aI trivial (aI trivial (aI trivial (aI (cl_sl cl_tPred x.Inv.Kids) trivial))))))))
structure tQual where
  Name : Str
  Vars : (List tVar)
  Body : tPred
def c_tQual (x : tQual) : List PVal := [.str x.Name, sl c_tVar x.Vars] ++ (c_tPred x.Body)
theorem ex_tQual (x : tQual) : c_tQual x = [.str x.Name, sl c_tVar x.Vars, .int .i64 x.Body.Op, .str x.Body.Name, .int .i64 x.Body.N, sl c_tPred x.Body.Kids] := by
  unfold c_tQual
  simp only [ex_tPred, List.cons_append, List.nil_append]
theorem cl_tQual (x : tQual) : clL 0 (c_tQual x) := by rw [ex_tQual]; exact (aI trivial (aI (cl_sl cl_tVar x.Vars) (aI trivial (aI trivial (aI trivial (aI (cl_sl cl_tPred x.Body.Kids) trivial))))))
structure tModule where
  Datas : (List tData)
  Classes : (List tClass)
  Instances : (List tInstance)
  Measures : (List tMeasure)
  Quals : (List tQual)
  Defs : (List tDef)
def c_tModule (x : tModule) : List PVal := [sl c_tData x.Datas, sl c_tClass x.Classes, sl c_tInstance x.Instances, sl c_tMeasure x.Measures, sl c_tQual x.Quals, sl c_tDef x.Defs]
theorem ex_tModule (x : tModule) : c_tModule x = [sl c_tData x.Datas, sl c_tClass x.Classes, sl c_tInstance x.Instances, sl c_tMeasure x.Measures, sl c_tQual x.Quals, sl c_tDef x.Defs] := rfl
theorem cl_tModule (x : tModule) : clL 0 (c_tModule x) := (aI (cl_sl cl_tData x.Datas) (aI (cl_sl cl_tClass x.Classes) (aI (cl_sl cl_tInstance x.Instances) (aI (cl_sl cl_tMeasure x.Measures) (aI (cl_sl cl_tQual x.Quals) (aI (cl_sl cl_tDef x.Defs) trivial))))))
theorem len_tModule (x : tModule) : (c_tModule x).length = 6 := by rw [ex_tModule]; rfl
theorem pc_tModule (x : tModule) : pcells (.agg (c_tModule x)) = some (c_tModule x) := rfl
theorem pcx_tModule (x : tModule) : pcells (.agg (c_tModule x)) = some [sl c_tData x.Datas, sl c_tClass x.Classes, sl c_tInstance x.Instances, sl c_tMeasure x.Measures, sl c_tQual x.Quals, sl c_tDef x.Defs] := by rw [ex_tModule]; rfl
theorem co57 : Pg.cellsOf 57 = 6 := by kernel_rfl
theorem lk_tModule (x : tModule) : plook Pg 57 (c_tModule x) = some (.agg (c_tModule x)) := by
  have := plookA (P := Pg) (t := 57) (l := c_tModule x) (r := []) (by kernel_rfl) (co57.trans (len_tModule x).symm)
  rwa [List.append_nil] at this
theorem rex_tModule (x : tModule) : PVal.agg [sl c_tData x.Datas, sl c_tClass x.Classes, sl c_tInstance x.Instances, sl c_tMeasure x.Measures, sl c_tQual x.Quals, sl c_tDef x.Defs] = .agg (c_tModule x) := by rw [ex_tModule]
theorem bu_tModule_0 (x0 : (List tData)) : pbuild Pg 57 [(0, sl c_tData x0)] = some (.agg (c_tModule (⟨x0, ([] : List tClass), ([] : List tInstance), ([] : List tMeasure), ([] : List tQual), ([] : List tDef)⟩ : tModule))) := by
  kernel_rfl
theorem bn_tModule_0 (x0 : (List tData)) : pnil Pg 57 [(0, sl c_tData x0)] [(1, 231), (2, 233), (3, 236), (4, 238), (5, 247)] := by
  exact ⟨[sl c_tData x0, .val nilV, .val nilV, .val nilV, .val nilV, .val nilV], by kernel_rfl, (aI rfl (aI rfl (aI rfl (aI rfl (aI rfl trivial)))))⟩
theorem fa_tModule_57_0 (x : tModule) : pfieldAddr Pg 57 (.eptr (c_tModule x)) 0 = some (.eptr ((c_tModule x).drop 0)) := by kernel_rfl
theorem lf_tModule_0_50 (x : tModule) : plook Pg 50 ((c_tModule x).drop 0) = some (sl c_tData x.Datas) := by kernel_rfl
structure reftype_substitution where
  names : (List Str)
  by_ : (List tPred)
def c_reftype_substitution (x : reftype_substitution) : List PVal := [sl cS x.names, sl c_tPred x.by_]
theorem ex_reftype_substitution (x : reftype_substitution) : c_reftype_substitution x = [sl cS x.names, sl c_tPred x.by_] := rfl
theorem cl_reftype_substitution (x : reftype_substitution) : clL 0 (c_reftype_substitution x) := (aI (cl_sl clS x.names) (aI (cl_sl cl_tPred x.by_) trivial))
theorem len_reftype_substitution (x : reftype_substitution) : (c_reftype_substitution x).length = 2 := by rw [ex_reftype_substitution]; rfl
theorem pc_reftype_substitution (x : reftype_substitution) : pcells (.agg (c_reftype_substitution x)) = some (c_reftype_substitution x) := rfl
theorem pcx_reftype_substitution (x : reftype_substitution) : pcells (.agg (c_reftype_substitution x)) = some [sl cS x.names, sl c_tPred x.by_] := by rw [ex_reftype_substitution]; rfl
theorem co163 : Pg.cellsOf 163 = 2 := by kernel_rfl
theorem lk_reftype_substitution (x : reftype_substitution) : plook Pg 163 (c_reftype_substitution x) = some (.agg (c_reftype_substitution x)) := by
  have := plookA (P := Pg) (t := 163) (l := c_reftype_substitution x) (r := []) (by kernel_rfl) (co163.trans (len_reftype_substitution x).symm)
  rwa [List.append_nil] at this
theorem lkx_reftype_substitution (x : reftype_substitution) (r : List PVal) : plook Pg 163 ([sl cS x.names, sl c_tPred x.by_] ++ r) = some (.agg (c_reftype_substitution x)) := by
  rw [← ex_reftype_substitution]; exact plookA (by kernel_rfl) (co163.trans (len_reftype_substitution x).symm)
theorem rex_reftype_substitution (x : reftype_substitution) : PVal.agg [sl cS x.names, sl c_tPred x.by_] = .agg (c_reftype_substitution x) := by rw [ex_reftype_substitution]
theorem bu_reftype_substitution_0_1 (x0 : (List Str)) (x1 : (List tPred)) : pbuild Pg 163 [(0, sl cS x0), (1, sl c_tPred x1)] = some (.agg (c_reftype_substitution (⟨x0, x1⟩ : reftype_substitution))) := by
  kernel_rfl
theorem fa_reftype_substitution_163_0 (x : reftype_substitution) : pfieldAddr Pg 163 (.eptr (c_reftype_substitution x)) 0 = some (.eptr ((c_reftype_substitution x).drop 0)) := by kernel_rfl
theorem fa_reftype_substitution_163_1 (x : reftype_substitution) : pfieldAddr Pg 163 (.eptr (c_reftype_substitution x)) 1 = some (.eptr ((c_reftype_substitution x).drop 1)) := by kernel_rfl
theorem lf_reftype_substitution_0_22 (x : reftype_substitution) : plook Pg 22 ((c_reftype_substitution x).drop 0) = some (sl cS x.names) := by kernel_rfl
theorem lf_reftype_substitution_1_29 (x : reftype_substitution) : plook Pg 29 ((c_reftype_substitution x).drop 1) = some (sl c_tPred x.by_) := by kernel_rfl
structure tSol where
  Name : Str
  Pred : tPred
theorem co9 : Pg.cellsOf 9 = 1 := by kernel_rfl
theorem sT22 : SlT Pg 22 9 cS := ⟨Tryz.underlying22, fun _ => co9.symm, by kernel_rfl, by rw [co9]; decide, by kernel_rfl, of_decide_eq_true (by kernel_rfl), oneS, clS⟩
theorem sT24 : SlT Pg 24 76 c_tAbs := ⟨Tryz.underlying24, fun x => (len_tAbs x).trans co76.symm, by kernel_rfl, by rw [co76]; decide, by kernel_rfl, of_decide_eq_true (by kernel_rfl), one_tAbs, cl_tAbs⟩
theorem sT27 : SlT Pg 27 33 c_tType := ⟨Tryz.underlying27, fun x => (len_tType x).trans co33.symm, by kernel_rfl, by rw [co33]; decide, by kernel_rfl, of_decide_eq_true (by kernel_rfl), one_tType, cl_tType⟩
theorem sT29 : SlT Pg 29 31 c_tPred := ⟨Tryz.underlying29, fun x => (len_tPred x).trans co31.symm, by kernel_rfl, by rw [co31]; decide, by kernel_rfl, of_decide_eq_true (by kernel_rfl), one_tPred, cl_tPred⟩
theorem sT36 : SlT Pg 36 88 c_tVar := ⟨Tryz.underlying36, fun x => (len_tVar x).trans co88.symm, by kernel_rfl, by rw [co88]; decide, by kernel_rfl, of_decide_eq_true (by kernel_rfl), one_tVar, cl_tVar⟩
theorem sT38 : SlT Pg 38 82 c_tHole := ⟨Tryz.underlying38, fun x => (len_tHole x).trans co82.symm, by kernel_rfl, by rw [co82]; decide, by kernel_rfl, of_decide_eq_true (by kernel_rfl), one_tHole, cl_tHole⟩
theorem sT50 : SlT Pg 50 61 c_tData := ⟨Tryz.underlying50, fun x => (len_tData x).trans co61.symm, by kernel_rfl, by rw [co61]; decide, by kernel_rfl, of_decide_eq_true (by kernel_rfl), one_tData, cl_tData⟩
theorem sT59 : SlT Pg 59 63 c_tCon := ⟨Tryz.underlying59, fun x => (len_tCon x).trans co63.symm, by kernel_rfl, by rw [co63]; decide, by kernel_rfl, of_decide_eq_true (by kernel_rfl), one_tCon, cl_tCon⟩
theorem sc103 : (Pg.underlying 103).any scalD = true := by kernel_rfl
theorem sc22 : (Pg.underlying 22).any scalD = true := by kernel_rfl
theorem sc24 : (Pg.underlying 24).any scalD = true := by kernel_rfl
theorem sc29 : (Pg.underlying 29).any scalD = true := by kernel_rfl
theorem sc36 : (Pg.underlying 36).any scalD = true := by kernel_rfl
theorem sc38 : (Pg.underlying 38).any scalD = true := by kernel_rfl
theorem sc9 : (Pg.underlying 9).any scalD = true := by kernel_rfl
theorem zv4 : pzeroV Pg 4 = some (PVal.bool false) := by kernel_rfl
theorem pz31 : pzero Pg 31 = some [.int .i64 0, .str ([] : Str), .int .i64 0, sl c_tPred ([] : List tPred)] := by kernel_rfl
theorem pz33 : pzero Pg 33 = some [.int .i64 0, .str ([] : Str), sl c_tType ([] : List tType), sl cS ([] : List Str), .int .i64 0, .str ([] : Str), .int .i64 0, sl c_tPred ([] : List tPred), sl c_tPred ([] : List tPred)] := by kernel_rfl
theorem pz57 : pzero Pg 57 = some [sl c_tData ([] : List tData), sl c_tClass ([] : List tClass), sl c_tInstance ([] : List tInstance), sl c_tMeasure ([] : List tMeasure), sl c_tQual ([] : List tQual), sl c_tDef ([] : List tDef)] := by kernel_rfl
theorem pz61 : pzero Pg 61 = some [.str ([] : Str), sl cS ([] : List Str), sl c_tVar ([] : List tVar), sl c_tCon ([] : List tCon)] := by kernel_rfl
theorem pz63 : pzero Pg 63 = some [.str ([] : Str), sl cS ([] : List Str), sl c_tType ([] : List tType)] := by kernel_rfl
theorem pz76 : pzero Pg 76 = some [.str ([] : Str), .str ([] : Str)] := by kernel_rfl
theorem pz82 : pzero Pg 82 = some [.str ([] : Str), sl c_tVar ([] : List tVar)] := by kernel_rfl
theorem pz88 : pzero Pg 88 = some [.str ([] : Str), .str ([] : Str)] := by kernel_rfl
theorem pz163 : pzero Pg 163 = some [sl cS ([] : List Str), sl c_tPred ([] : List tPred)] := by kernel_rfl
def internal_strconv_uint64pow10 : List Int := [1, 10, 100, 1000, 10000, 100000, 1000000, 10000000, 100000000, 1000000000, 10000000000, 100000000000, 1000000000000, 10000000000000, 100000000000000, 1000000000000000, 10000000000000000, 100000000000000000, 1000000000000000000, 10000000000000000000]
theorem co202 : Pg.cellsOf 202 = 20 := by kernel_rfl
theorem co182 : Pg.cellsOf 182 = 1 := by kernel_rfl
def math_bits_deBruijn32tab : List Int := [0, 1, 28, 2, 29, 14, 24, 3, 30, 22, 20, 15, 25, 17, 4, 8, 31, 27, 13, 23, 21, 19, 16, 7, 26, 12, 18, 6, 11, 5, 10, 9]
theorem co208 : Pg.cellsOf 208 = 32 := by kernel_rfl
theorem co5 : Pg.cellsOf 5 = 1 := by kernel_rfl
def math_bits_deBruijn64tab : List Int := [0, 1, 56, 2, 57, 49, 28, 3, 61, 58, 42, 50, 38, 29, 17, 4, 62, 47, 59, 36, 45, 43, 51, 22, 53, 39, 33, 30, 24, 18, 12, 5, 63, 55, 48, 27, 60, 41, 37, 16, 46, 35, 44, 21, 52, 32, 23, 11, 54, 26, 40, 15, 34, 20, 31, 10, 25, 14, 19, 9, 13, 8, 7, 6]
theorem co209 : Pg.cellsOf 209 = 64 := by kernel_rfl
def GE : List (Nat × List PVal) := [(0, internal_strconv_uint64pow10.map (PVal.int .u64)), (1, math_bits_deBruijn32tab.map (PVal.int .u8)), (2, math_bits_deBruijn64tab.map (PVal.int .u8))]
end Go.Proofs.YtgldgpdhblndkaaGreatDoor
