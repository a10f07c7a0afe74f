/-
  WHAT IS PROVED: parts of the proof, put together by a program out of smaller texts, their own names made short (GT). Conditions: none.
-/
import Derived.Test.YtgldgpdhblndkaaGreatDoorPkD27
import Derived.Test.YtgldgpdhblndkaaGreatDoorChecked
namespace Go.Proofs.YtgldgpdhblndkaaGreatDoor
open Go
set_option linter.unusedVariables false
set_option maxRecDepth 100000
noncomputable abbrev Pg:=Tryz.prog
theorem mixed:Pg.follows .mixedOrders = true:=by kernel_rfl
structure tNeed where
  Class:Str
  Var:Str
deriving DecidableEq
def qhj (x:tNeed):List PVal:=[.str x.Class,.str x.Var]
theorem qAQ (x:tNeed):qhj x = [.str x.Class,.str x.Var]:=rfl
theorem qve (x:tNeed):clL 0 (qhj x):=(aI trivial (aI trivial trivial))
structure tAbs where
  Name:Str
  Sort_:Str
deriving DecidableEq
def qaK (x:tAbs):List PVal:=[.str x.Name,.str x.Sort_]
theorem qtc (x:tAbs):qaK x = [.str x.Name,.str x.Sort_]:=rfl
theorem qcr (x:tAbs):clL 0 (qaK x):=(aI trivial (aI trivial trivial))
abbrev qrL (x:tAbs):PVal := .agg (qaK x)
theorem quW (x:tAbs):(qaK x).length = 2:=by rw [qtc]; rfl
theorem qyX (x:tAbs):qbc (.agg (qaK x)) = some (qaK x):=rfl
theorem ql8 (x:tAbs):qbc (qrL x) = some (qaK x):=rfl
theorem qAJ (x:tAbs):qbc (.agg (qaK x)) = some [.str x.Name,.str x.Sort_]:=by rw [qtc]; rfl
theorem qAU (x:tAbs):∀ q ∈ qaK x,q.one = true:=by
  intro q hq
  rw [qtc] at hq
  simp only [List.mem_cons,List.not_mem_nil,or_false] at hq
  rcases hq with rfl | rfl <;> rfl
theorem co76:Pg.cellsOf 76 = 2:=by kernel_rfl
theorem qwY (x:tAbs):qbA Pg 76 (qaK x) = some (.agg (qaK x)):=by
  have:=qhN (P:=Pg) (t:=76) (l:=qaK x) (r:=[]) (by kernel_rfl) (co76.trans (quW x).symm)
  rwa [List.append_nil] at this
theorem qAF (x:tAbs) (r:List PVal):qbA Pg 76 ([.str x.Name,.str x.Sort_] ++ r) = some (.agg (qaK x)):=by
  rw [← qtc]; exact qhN (by kernel_rfl) (co76.trans (quW x).symm)
theorem qgg (x0:Str) (x1:Str):qb7 Pg 76 [(0,.str x0),(1,.str x1)] = some (.agg (qaK (⟨x0,x1⟩:tAbs))):=by
  kernel_rfl
theorem qkt (x:tAbs):qa5 Pg 76 (.eptr (qaK x)) 0 = some (.eptr ((qaK x).drop 0)):=by kernel_rfl
theorem qvV (x:tAbs):qa5 Pg 76 (.eptr (qaK x)) 1 = some (.eptr ((qaK x).drop 1)):=by kernel_rfl
theorem qlR (x:tAbs):qbA Pg 9 ((qaK x).drop 0) = some (.str x.Name):=by kernel_rfl
theorem qvA (x:tAbs):qbA Pg 74 ((qaK x).drop 1) = some (.str x.Sort_):=by kernel_rfl
structure tVar where
  Name:Str
  Sort_:Str
deriving DecidableEq
def qay (x:tVar):List PVal:=[.str x.Name,.str x.Sort_]
theorem qrf (x:tVar):qay x = [.str x.Name,.str x.Sort_]:=rfl
theorem qbG (x:tVar):clL 0 (qay x):=(aI trivial (aI trivial trivial))
abbrev qoQ (x:tVar):PVal := .agg (qay x)
theorem qu6 (x:tVar):(qay x).length = 2:=by rw [qrf]; rfl
theorem qAt (x:tVar):qbc (.agg (qay x)) = some (qay x):=rfl
theorem qjd (x:tVar):qbc (qoQ x) = some (qay x):=rfl
theorem qqx (x:tVar):qbc (.agg (qay x)) = some [.str x.Name,.str x.Sort_]:=by rw [qrf]; rfl
theorem qA1 (x:tVar):∀ q ∈ qay x,q.one = true:=by
  intro q hq
  rw [qrf] at hq
  simp only [List.mem_cons,List.not_mem_nil,or_false] at hq
  rcases hq with rfl | rfl <;> rfl
theorem co88:Pg.cellsOf 88 = 2:=by kernel_rfl
theorem qpn (x:tVar):qbA Pg 88 (qay x) = some (.agg (qay x)):=by
  have:=qhN (P:=Pg) (t:=88) (l:=qay x) (r:=[]) (by kernel_rfl) (co88.trans (qu6 x).symm)
  rwa [List.append_nil] at this
theorem qBl (x:tVar) (r:List PVal):qbA Pg 88 ([.str x.Name,.str x.Sort_] ++ r) = some (.agg (qay x)):=by
  rw [← qrf]; exact qhN (by kernel_rfl) (co88.trans (qu6 x).symm)
theorem qel (x0:Str) (x1:Str):qb7 Pg 88 [(0,.str x0),(1,.str x1)] = some (.agg (qay (⟨x0,x1⟩:tVar))):=by
  kernel_rfl
theorem qnT (x:tVar):qa5 Pg 88 (.eptr (qay x)) 0 = some (.eptr ((qay x).drop 0)):=by kernel_rfl
theorem qpi (x:tVar):qbA Pg 9 ((qay x).drop 0) = some (.str x.Name):=by kernel_rfl
inductive tPred where
  | mk (Op:Int) (Name:Str) (N:Int) (Kids:(List tPred))
def tPred.Op:tPred→Int
  | ⟨x,_,_,_⟩ => x
def tPred.Name:tPred→Str
  | ⟨_,x,_,_⟩ => x
def tPred.N:tPred→Int
  | ⟨_,_,x,_⟩ => x
def tPred.Kids:tPred→(List tPred)
  | ⟨_,_,_,x⟩ => x
mutual
def qaa:tPred→List PVal
  | ⟨x0,x1,x2,x3⟩ => [.int .i64 x0,.str x1,.int .i64 x2,.slice (qnz x3)]
def qnz:List tPred→List (List PVal)
  | [] => []
  | x :: r => qaa x :: qnz r
end
theorem quh:∀ (l:List tPred),qnz l = l.map qaa
  | [] => by simp [qnz]
  | x :: r => by simp [qnz,quh r]
mutual
theorem qab:∀ (x:tPred),clL 0 (qaa x)
  | ⟨x0,x1,x2,x3⟩ => by rw [qaa]; exact (aI trivial (aI trivial (aI trivial (aI (qwC x3) trivial))))
theorem qwC:∀ (l:List tPred),clLL 0 (qnz l)
  | [] => by simp [qnz,clLL]
  | x :: r => by rw [qnz]; exact ⟨qab x,qwC r⟩
end
theorem qam:∀ (x:tPred),qaa x = [.int .i64 x.Op,.str x.Name,.int .i64 x.N,sl qaa x.Kids]
  | ⟨x0,x1,x2,x3⟩ => by
    simp only [qaa,quh]
    rfl
abbrev qaP (x:tPred):PVal := .agg (qaa x)
theorem qtv (x:tPred):(qaa x).length = 4:=by rw [qam]; rfl
theorem qat (x:tPred):qbc (.agg (qaa x)) = some (qaa x):=rfl
theorem qaq (x:tPred):qbc (qaP x) = some (qaa x):=rfl
theorem qan (x:tPred):qbc (.agg (qaa x)) = some [.int .i64 x.Op,.str x.Name,.int .i64 x.N,sl qaa x.Kids]:=by rw [qam]; rfl
theorem qyW (x:tPred):∀ q ∈ qaa x,q.one = true:=by
  intro q hq
  rw [qam] at hq
  simp only [List.mem_cons,List.not_mem_nil,or_false] at hq
  rcases hq with rfl | rfl | rfl | rfl <;> rfl
theorem co31:Pg.cellsOf 31 = 4:=by kernel_rfl
theorem qaj (x:tPred):qbA Pg 31 (qaa x) = some (.agg (qaa x)):=by
  have:=qhN (P:=Pg) (t:=31) (l:=qaa x) (r:=[]) (by kernel_rfl) (co31.trans (qtv x).symm)
  rwa [List.append_nil] at this
theorem qah (x:tPred) (r:List PVal):qbA Pg 31 ([.int .i64 x.Op,.str x.Name,.int .i64 x.N,sl qaa x.Kids] ++ r) = some (.agg (qaa x)):=by
  rw [← qam]; exact qhN (by kernel_rfl) (co31.trans (qtv x).symm)
theorem qa4 (x:tPred):PVal.agg [.int .i64 x.Op,.str x.Name,.int .i64 x.N,sl qaa x.Kids] = .agg (qaa x):=by rw [qam]
theorem qn1:qb7 Pg 31 [] = some (.agg (qaa (⟨0,([]:Str),0,([]:List tPred)⟩:tPred))):=by
  simp only [qam]
  kernel_rfl
theorem qn4:pnil Pg 31 [] [(3,31)]:=by
  exact ⟨[.int .i64 0,.str ([]:Str),.int .i64 0,.val nilV],by kernel_rfl,(aI rfl trivial)⟩
theorem qiu (x0:Int) (x1:Str):qb7 Pg 31 [(0,.int .i64 x0),(1,.str x1)] = some (.agg (qaa (⟨x0,x1,0,([]:List tPred)⟩:tPred))):=by
  simp only [qam]
  kernel_rfl
theorem qio (x0:Int) (x1:Str):pnil Pg 31 [(0,.int .i64 x0),(1,.str x1)] [(3,31)]:=by
  exact ⟨[.int .i64 x0,.str x1,.int .i64 0,.val nilV],by kernel_rfl,(aI rfl trivial)⟩
theorem qbN (x0:Int) (x1:Str) (x2:Int):qb7 Pg 31 [(0,.int .i64 x0),(1,.str x1),(2,.int .i64 x2)] = some (.agg (qaa (⟨x0,x1,x2,([]:List tPred)⟩:tPred))):=by
  simp only [qam]
  kernel_rfl
theorem qbP (x0:Int) (x1:Str) (x2:Int):pnil Pg 31 [(0,.int .i64 x0),(1,.str x1),(2,.int .i64 x2)] [(3,31)]:=by
  exact ⟨[.int .i64 x0,.str x1,.int .i64 x2,.val nilV],by kernel_rfl,(aI rfl trivial)⟩
theorem qsq (x0:Int) (x1:Str) (x2:Int) (x3:(List tPred)):qb7 Pg 31 [(0,.int .i64 x0),(1,.str x1),(2,.int .i64 x2),(3,sl qaa x3)] = some (.agg (qaa (⟨x0,x1,x2,x3⟩:tPred))):=by
  simp only [qam]
  kernel_rfl
theorem qdg (x0:Int) (x1:Str) (x3:(List tPred)):qb7 Pg 31 [(0,.int .i64 x0),(1,.str x1),(3,sl qaa x3)] = some (.agg (qaa (⟨x0,x1,0,x3⟩:tPred))):=by
  simp only [qam]
  kernel_rfl
theorem qnp (x0:Int) (x2:Int):qb7 Pg 31 [(0,.int .i64 x0),(2,.int .i64 x2)] = some (.agg (qaa (⟨x0,([]:Str),x2,([]:List tPred)⟩:tPred))):=by
  simp only [qam]
  kernel_rfl
theorem qnW (x0:Int) (x2:Int):pnil Pg 31 [(0,.int .i64 x0),(2,.int .i64 x2)] [(3,31)]:=by
  exact ⟨[.int .i64 x0,.str ([]:Str),.int .i64 x2,.val nilV],by kernel_rfl,(aI rfl trivial)⟩
theorem qe6 (x0:Int) (x3:(List tPred)):qb7 Pg 31 [(0,.int .i64 x0),(3,sl qaa x3)] = some (.agg (qaa (⟨x0,([]:Str),0,x3⟩:tPred))):=by
  simp only [qam]
  kernel_rfl
theorem qh4 (x0:Int):qb7 Pg 31 [(0,.int .i64 x0)] = some (.agg (qaa (⟨x0,([]:Str),0,([]:List tPred)⟩:tPred))):=by
  simp only [qam]
  kernel_rfl
theorem qhY (x0:Int):pnil Pg 31 [(0,.int .i64 x0)] [(3,31)]:=by
  exact ⟨[.int .i64 x0,.str ([]:Str),.int .i64 0,.val nilV],by kernel_rfl,(aI rfl trivial)⟩
theorem qal (x:tPred):qa5 Pg 31 (.eptr (qaa x)) 0 = some (.eptr ((qaa x).drop 0)):=by rw [qam]; kernel_rfl
theorem qao (x:tPred):qa5 Pg 31 (.eptr (qaa x)) 1 = some (.eptr ((qaa x).drop 1)):=by rw [qam]; kernel_rfl
theorem qaW (x:tPred):qa5 Pg 31 (.eptr (qaa x)) 2 = some (.eptr ((qaa x).drop 2)):=by rw [qam]; kernel_rfl
theorem qas (x:tPred):qa5 Pg 31 (.eptr (qaa x)) 3 = some (.eptr ((qaa x).drop 3)):=by rw [qam]; kernel_rfl
theorem qak (x:tPred):qbA Pg 28 ((qaa x).drop 0) = some (.int .i64 x.Op):=by rw [qam]; kernel_rfl
theorem qax (x:tPred):qbA Pg 9 ((qaa x).drop 1) = some (.str x.Name):=by rw [qam]; kernel_rfl
theorem qbd (x:tPred):qbA Pg 3 ((qaa x).drop 2) = some (.int .i64 x.N):=by rw [qam]; kernel_rfl
theorem qar (x:tPred):qbA Pg 29 ((qaa x).drop 3) = some (sl qaa x.Kids):=by rw [qam]; kernel_rfl
structure tBound where
  Name:Str
  Vars:(List tVar)
  Hyp:tPred
  Goal:tPred
def qfq (x:tBound):List PVal:=[.str x.Name,sl qay x.Vars] ++ (qaa x.Hyp ++ (qaa x.Goal))
theorem qwv (x:tBound):qfq x = [.str x.Name,sl qay x.Vars,.int .i64 x.Hyp.Op,.str x.Hyp.Name,.int .i64 x.Hyp.N,sl qaa x.Hyp.Kids,.int .i64 x.Goal.Op,.str x.Goal.Name,.int .i64 x.Goal.N,sl qaa x.Goal.Kids]:=by
  unfold qfq
  simp only [qam,List.cons_append,List.nil_append]
theorem qwb (x:tBound):clL 0 (qfq x):=by rw [qwv]; exact (aI trivial (aI (qad qbG x.Vars) (aI trivial (aI trivial (aI trivial (aI (qad qab x.Hyp.Kids) (aI trivial (aI trivial (aI trivial (aI (qad qab x.Goal.Kids) trivial))))))))))
inductive tType where
  | mk (Op:Int) (Name:Str) (Args:(List tType)) (Names:(List Str)) (Pred:tPred) (Preds:(List tPred))
def tType.Op:tType→Int
  | ⟨x,_,_,_,_,_⟩ => x
def tType.Name:tType→Str
  | ⟨_,x,_,_,_,_⟩ => x
def tType.Args:tType→(List tType)
  | ⟨_,_,x,_,_,_⟩ => x
def tType.Names:tType→(List Str)
  | ⟨_,_,_,x,_,_⟩ => x
def tType.Pred:tType→tPred
  | ⟨_,_,_,_,x,_⟩ => x
def tType.Preds:tType→(List tPred)
  | ⟨_,_,_,_,_,x⟩ => x
mutual
def qac:tType→List PVal
  | ⟨x0,x1,x2,x3,x4,x5⟩ => [.int .i64 x0,.str x1,.slice (qnd x2),sl cS x3] ++ (qaa x4 ++ ([sl qaa x5]))
def qnd:List tType→List (List PVal)
  | [] => []
  | x :: r => qac x :: qnd r
end
theorem qt5:∀ (l:List tType),qnd l = l.map qac
  | [] => by simp [qnd]
  | x :: r => by simp [qnd,qt5 r]
mutual
theorem qag:∀ (x:tType),clL 0 (qac x)
  | ⟨x0,x1,x2,x3,x4,x5⟩ => by rw [qac]; exact qom.2 (aI ((aI trivial (aI trivial (aI (qv0 x2) (aI (qad clS x3) trivial))))) (qom.2 (aI (qab x4) ((aI (qad qab x5) trivial)))))
theorem qv0:∀ (l:List tType),clLL 0 (qnd l)
  | [] => by simp [qnd,clLL]
  | x :: r => by rw [qnd]; exact ⟨qag x,qv0 r⟩
end
theorem qaB:∀ (x:tType),qac x = [.int .i64 x.Op,.str x.Name,sl qac x.Args,sl cS x.Names,.int .i64 x.Pred.Op,.str x.Pred.Name,.int .i64 x.Pred.N,sl qaa x.Pred.Kids,sl qaa x.Preds]
  | ⟨x0,x1,x2,x3,x4,x5⟩ => by
    simp only [qac,qt5,qam,List.cons_append,List.nil_append]
    rfl
abbrev qc4 (x:tType):PVal := .agg (qac x)
theorem qp2 (x:tType):(qac x).length = 9:=by rw [qaB]; rfl
theorem qbX (x:tType):qbc (.agg (qac x)) = some (qac x):=rfl
theorem qbv (x:tType):qbc (qc4 x) = some (qac x):=rfl
theorem qbr (x:tType):qbc (.agg (qac x)) = some [.int .i64 x.Op,.str x.Name,sl qac x.Args,sl cS x.Names,.int .i64 x.Pred.Op,.str x.Pred.Name,.int .i64 x.Pred.N,sl qaa x.Pred.Kids,sl qaa x.Preds]:=by rw [qaB]; rfl
theorem qy1 (x:tType):∀ q ∈ qac x,q.one = true:=by
  intro q hq
  rw [qaB] at hq
  simp only [List.mem_cons,List.not_mem_nil,or_false] at hq
  rcases hq with rfl | rfl | rfl | rfl | rfl | rfl | rfl | rfl | rfl <;> rfl
theorem co33:Pg.cellsOf 33 = 9:=by kernel_rfl
theorem qaZ (x:tType):qbA Pg 33 (qac x) = some (.agg (qac x)):=by
  have:=qhN (P:=Pg) (t:=33) (l:=qac x) (r:=[]) (by kernel_rfl) (co33.trans (qp2 x).symm)
  rwa [List.append_nil] at this
theorem qaS (x:tType) (r:List PVal):qbA Pg 33 ([.int .i64 x.Op,.str x.Name,sl qac x.Args,sl cS x.Names,.int .i64 x.Pred.Op,.str x.Pred.Name,.int .i64 x.Pred.N,sl qaa x.Pred.Kids,sl qaa x.Preds] ++ r) = some (.agg (qac x)):=by
  rw [← qaB]; exact qhN (by kernel_rfl) (co33.trans (qp2 x).symm)
theorem qc8 (x:tType):PVal.agg [.int .i64 x.Op,.str x.Name,sl qac x.Args,sl cS x.Names,.int .i64 x.Pred.Op,.str x.Pred.Name,.int .i64 x.Pred.N,sl qaa x.Pred.Kids,sl qaa x.Preds] = .agg (qac x):=by rw [qaB]
theorem qso (x0:Int) (x1:Str) (x3:(List Str)) (x4:tPred):qb7 Pg 33 [(0,.int .i64 x0),(1,.str x1),(3,sl cS x3),(4,.agg (qaa x4))] = some (.agg (qac (⟨x0,x1,([]:List tType),x3,x4,([]:List tPred)⟩:tType))):=by
  simp only [qaB,qam]
  kernel_rfl
theorem qsh (x0:Int) (x1:Str) (x3:(List Str)) (x4:tPred):pnil Pg 33 [(0,.int .i64 x0),(1,.str x1),(3,sl cS x3),(4,.agg (qaa x4))] [(2,33),(8,31)]:=by
  simp only [qam]
  exact ⟨[.int .i64 x0,.str x1,.val nilV,sl cS x3,.int .i64 x4.Op,.str x4.Name,.int .i64 x4.N,sl qaa x4.Kids,.val nilV],by kernel_rfl,(aI rfl (aI rfl trivial))⟩
theorem qhi (x0:Int) (x1:Str) (x3:(List Str)) (x4:tPred) (x5:(List tPred)):qb7 Pg 33 [(0,.int .i64 x0),(1,.str x1),(3,sl cS x3),(4,.agg (qaa x4)),(5,sl qaa x5)] = some (.agg (qac (⟨x0,x1,([]:List tType),x3,x4,x5⟩:tType))):=by
  simp only [qaB,qam]
  kernel_rfl
theorem qg2 (x0:Int) (x1:Str) (x3:(List Str)) (x4:tPred) (x5:(List tPred)):pnil Pg 33 [(0,.int .i64 x0),(1,.str x1),(3,sl cS x3),(4,.agg (qaa x4)),(5,sl qaa x5)] [(2,33)]:=by
  simp only [qam]
  exact ⟨[.int .i64 x0,.str x1,.val nilV,sl cS x3,.int .i64 x4.Op,.str x4.Name,.int .i64 x4.N,sl qaa x4.Kids,sl qaa x5],by kernel_rfl,(aI rfl trivial)⟩
theorem qeG (x0:Int) (x1:Str) (x5:(List tPred)):qb7 Pg 33 [(0,.int .i64 x0),(1,.str x1),(5,sl qaa x5)] = some (.agg (qac (⟨x0,x1,([]:List tType),([]:List Str),(⟨0,([]:Str),0,([]:List tPred)⟩:tPred),x5⟩:tType))):=by
  simp only [qaB]
  kernel_rfl
theorem qeD (x0:Int) (x1:Str) (x5:(List tPred)):pnil Pg 33 [(0,.int .i64 x0),(1,.str x1),(5,sl qaa x5)] [(2,33),(3,9),(7,31)]:=by
  exact ⟨[.int .i64 x0,.str x1,.val nilV,.val nilV,.int .i64 0,.str ([]:Str),.int .i64 0,.val nilV,sl qaa x5],by kernel_rfl,(aI rfl (aI rfl (aI rfl trivial)))⟩
theorem qbF (x0:Int) (x3:(List Str)) (x2:(List tType)):qb7 Pg 33 [(0,.int .i64 x0),(3,sl cS x3),(2,sl qac x2)] = some (.agg (qac (⟨x0,([]:Str),x2,x3,(⟨0,([]:Str),0,([]:List tPred)⟩:tPred),([]:List tPred)⟩:tType))):=by
  simp only [qaB]
  kernel_rfl
theorem qbD (x0:Int) (x3:(List Str)) (x2:(List tType)):pnil Pg 33 [(0,.int .i64 x0),(3,sl cS x3),(2,sl qac x2)] [(7,31),(8,31)]:=by
  exact ⟨[.int .i64 x0,.str ([]:Str),sl qac x2,sl cS x3,.int .i64 0,.str ([]:Str),.int .i64 0,.val nilV,.val nilV],by kernel_rfl,(aI rfl (aI rfl trivial))⟩
theorem qvJ (x0:Int) (x4:tPred):qb7 Pg 33 [(0,.int .i64 x0),(4,.agg (qaa x4))] = some (.agg (qac (⟨x0,([]:Str),([]:List tType),([]:List Str),x4,([]:List tPred)⟩:tType))):=by
  simp only [qaB,qam]
  kernel_rfl
theorem qvR (x0:Int) (x4:tPred):pnil Pg 33 [(0,.int .i64 x0),(4,.agg (qaa x4))] [(2,33),(3,9),(8,31)]:=by
  simp only [qam]
  exact ⟨[.int .i64 x0,.str ([]:Str),.val nilV,.val nilV,.int .i64 x4.Op,.str x4.Name,.int .i64 x4.N,sl qaa x4.Kids,.val nilV],by kernel_rfl,(aI rfl (aI rfl (aI rfl trivial)))⟩
theorem qm6 (x0:Int) (x1:Str) (b3 n3:Nat) (x4:tPred) (x5:(List tPred)):qb7 Pg 33 [(0,.int .i64 x0),(1,.str x1),(3,.bsl b3 0 n3),(4,.agg (qaa x4)),(5,sl qaa x5)] = some (.agg [.int .i64 x0,.str x1,sl qac ([]:List tType),.bsl b3 0 n3,.int .i64 x4.Op,.str x4.Name,.int .i64 x4.N,sl qaa x4.Kids,sl qaa x5]):=by
  simp only [qam]
  kernel_rfl
theorem qni (x0:Int) (x1:Str) (b3 n3:Nat) (x4:tPred) (x5:(List tPred)):pnil Pg 33 [(0,.int .i64 x0),(1,.str x1),(3,.bsl b3 0 n3),(4,.agg (qaa x4)),(5,sl qaa x5)] [(2,33)]:=by
  simp only [qam]
  exact ⟨[.int .i64 x0,.str x1,.val nilV,.bsl b3 0 n3,.int .i64 x4.Op,.str x4.Name,.int .i64 x4.N,sl qaa x4.Kids,sl qaa x5],by kernel_rfl,(aI rfl trivial)⟩
theorem qhq (x0:Int) (x1:Str) (b3 n3:Nat) (x4:tPred) (x5:(List tPred)) (x2:(List tType)):qb7 Pg 33 [(0,.int .i64 x0),(1,.str x1),(3,.bsl b3 0 n3),(4,.agg (qaa x4)),(5,sl qaa x5),(2,sl qac x2)] = some (.agg [.int .i64 x0,.str x1,sl qac x2,.bsl b3 0 n3,.int .i64 x4.Op,.str x4.Name,.int .i64 x4.N,sl qaa x4.Kids,sl qaa x5]):=by
  simp only [qam]
  kernel_rfl
theorem qaJ (x:tType):qa5 Pg 33 (.eptr (qac x)) 0 = some (.eptr ((qac x).drop 0)):=by rw [qaB]; kernel_rfl
theorem qbp (x:tType):qa5 Pg 33 (.eptr (qac x)) 1 = some (.eptr ((qac x).drop 1)):=by rw [qaB]; kernel_rfl
theorem qaG (x:tType):qa5 Pg 33 (.eptr (qac x)) 2 = some (.eptr ((qac x).drop 2)):=by rw [qaB]; kernel_rfl
theorem qaM (x:tType):qa5 Pg 33 (.eptr (qac x)) 3 = some (.eptr ((qac x).drop 3)):=by rw [qaB]; kernel_rfl
theorem qcJ (x:tType):qa5 Pg 33 (.eptr (qac x)) 4 = some (.eptr ((qac x).drop 4)):=by rw [qaB]; kernel_rfl
theorem qaV (x:tType):qa5 Pg 33 (.eptr (qac x)) 5 = some (.eptr ((qac x).drop 8)):=by rw [qaB]; kernel_rfl
theorem qaH (x:tType):qbA Pg 26 ((qac x).drop 0) = some (.int .i64 x.Op):=by rw [qaB]; kernel_rfl
theorem qbu (x:tType):qbA Pg 9 ((qac x).drop 1) = some (.str x.Name):=by rw [qaB]; kernel_rfl
theorem qaI (x:tType):qbA Pg 27 ((qac x).drop 2) = some (sl qac x.Args):=by rw [qaB]; kernel_rfl
theorem qaN (x:tType):qbA Pg 22 ((qac x).drop 3) = some (sl cS x.Names):=by rw [qaB]; kernel_rfl
theorem qcK (x:tType):qbA Pg 31 ((qac x).drop 4) = some (.agg (qaa x.Pred)):=by
  rw [qaB,qam]; kernel_rfl
theorem qaT (x:tType):qbA Pg 29 ((qac x).drop 8) = some (sl qaa x.Preds):=by rw [qaB]; kernel_rfl
theorem qwg (x:tType) (r:List PVal):qbA Pg 33 (qac x ++ r) = some (.agg (qac x)):=qhN (by kernel_rfl) (co33.trans (qp2 x).symm)
structure tSig where
  Vars:(List Str)
  Needs:(List tNeed)
  Abs:(List tAbs)
  Bounds:(List tBound)
  Type_:tType
  Metric:(List tPred)
def qjJ (x:tSig):List PVal:=[sl cS x.Vars,sl qhj x.Needs,sl qaK x.Abs,sl qfq x.Bounds] ++ (qac x.Type_ ++ ([sl qaa x.Metric]))
theorem qkW (x:tSig):qjJ x = [sl cS x.Vars,sl qhj x.Needs,sl qaK x.Abs,sl qfq x.Bounds,.int .i64 x.Type_.Op,.str x.Type_.Name,sl qac x.Type_.Args,sl cS x.Type_.Names,.int .i64 x.Type_.Pred.Op,.str x.Type_.Pred.Name,.int .i64 x.Type_.Pred.N,sl qaa x.Type_.Pred.Kids,sl qaa x.Type_.Preds,sl qaa x.Metric]:=by
  unfold qjJ
  simp only [qaB,List.cons_append,List.nil_append]
theorem qCq (x:tSig):clL 0 (qjJ x):=by rw [qkW]; exact (aI (qad clS x.Vars) (aI (qad qve x.Needs) (aI (qad qcr x.Abs) (aI (qad qwb x.Bounds) (aI trivial (aI trivial (aI (qad qag x.Type_.Args) (aI (qad clS x.Type_.Names) (aI trivial (aI trivial (aI trivial (aI (qad qab x.Type_.Pred.Kids) (aI (qad qab x.Type_.Preds) (aI (qad qab x.Metric) trivial))))))))))))))
theorem qAV (x:tSig):(qjJ x).length = 14:=by rw [qkW]; rfl
theorem qB9 (x:tSig):qbc (.agg (qjJ x)) = some (qjJ x):=rfl
theorem ql9 (x:tSig):qbc (.agg (qjJ x)) = some [sl cS x.Vars,sl qhj x.Needs,sl qaK x.Abs,sl qfq x.Bounds,.int .i64 x.Type_.Op,.str x.Type_.Name,sl qac x.Type_.Args,sl cS x.Type_.Names,.int .i64 x.Type_.Pred.Op,.str x.Type_.Pred.Name,.int .i64 x.Type_.Pred.N,sl qaa x.Type_.Pred.Kids,sl qaa x.Type_.Preds,sl qaa x.Metric]:=by rw [qkW]; rfl
theorem co35:Pg.cellsOf 35 = 14:=by kernel_rfl
theorem qlV (x:tSig) (r:List PVal):qbA Pg 35 ([sl cS x.Vars,sl qhj x.Needs,sl qaK x.Abs,sl qfq x.Bounds,.int .i64 x.Type_.Op,.str x.Type_.Name,sl qac x.Type_.Args,sl cS x.Type_.Names,.int .i64 x.Type_.Pred.Op,.str x.Type_.Pred.Name,.int .i64 x.Type_.Pred.N,sl qaa x.Type_.Pred.Kids,sl qaa x.Type_.Preds,sl qaa x.Metric] ++ r) = some (.agg (qjJ x)):=by
  rw [← qkW]; exact qhN (by kernel_rfl) (co35.trans (qAV x).symm)
theorem qf9 (x2:(List tAbs)) (x4:tType):qb7 Pg 35 [(2,sl qaK x2),(4,.agg (qac x4))] = some (.agg (qjJ (⟨([]:List Str),([]:List tNeed),x2,([]:List tBound),x4,([]:List tPred)⟩:tSig))):=by
  simp only [qkW,qaB]
  kernel_rfl
theorem qgq (x2:(List tAbs)) (x4:tType):pnil Pg 35 [(2,sl qaK x2),(4,.agg (qac x4))] [(0,9),(1,226),(3,228),(13,31)]:=by
  simp only [qaB]
  exact ⟨[.val nilV,.val nilV,sl qaK x2,.val nilV,.int .i64 x4.Op,.str x4.Name,sl qac x4.Args,sl cS x4.Names,.int .i64 x4.Pred.Op,.str x4.Pred.Name,.int .i64 x4.Pred.N,sl qaa x4.Pred.Kids,sl qaa x4.Preds,.val nilV],by kernel_rfl,(aI rfl (aI rfl (aI rfl (aI rfl trivial))))⟩
theorem qwo (x:tSig):qa5 Pg 35 (.eptr (qjJ x)) 2 = some (.eptr ((qjJ x).drop 2)):=by rw [qkW]; kernel_rfl
theorem qv4 (x:tSig):qbA Pg 24 ((qjJ x).drop 2) = some (sl qaK x.Abs):=by rw [qkW]; kernel_rfl
structure tHole where
  Name:Str
  Params:(List tVar)
deriving DecidableEq
def qaz (x:tHole):List PVal:=[.str x.Name,sl qay x.Params]
theorem qos (x:tHole):qaz x = [.str x.Name,sl qay x.Params]:=rfl
theorem qbM (x:tHole):clL 0 (qaz x):=(aI trivial (aI (qad qbG x.Params) trivial))
abbrev qzx (x:tHole):PVal := .agg (qaz x)
theorem qsJ (x:tHole):(qaz x).length = 2:=by rw [qos]; rfl
theorem qxz (x:tHole):qbc (.agg (qaz x)) = some (qaz x):=rfl
theorem qzL (x:tHole):qbc (qzx x) = some (qaz x):=rfl
theorem qly (x:tHole):qbc (.agg (qaz x)) = some [.str x.Name,sl qay x.Params]:=by rw [qos]; rfl
theorem qz3 (x:tHole):∀ q ∈ qaz x,q.one = true:=by
  intro q hq
  rw [qos] at hq
  simp only [List.mem_cons,List.not_mem_nil,or_false] at hq
  rcases hq with rfl | rfl <;> rfl
theorem co82:Pg.cellsOf 82 = 2:=by kernel_rfl
theorem qAR (x:tHole):qbA Pg 82 (qaz x) = some (.agg (qaz x)):=by
  have:=qhN (P:=Pg) (t:=82) (l:=qaz x) (r:=[]) (by kernel_rfl) (co82.trans (qsJ x).symm)
  rwa [List.append_nil] at this
theorem qwa (x:tHole) (r:List PVal):qbA Pg 82 ([.str x.Name,sl qay x.Params] ++ r) = some (.agg (qaz x)):=by
  rw [← qos]; exact qhN (by kernel_rfl) (co82.trans (qsJ x).symm)
theorem qsG (x:tHole):PVal.agg [.str x.Name,sl qay x.Params] = .agg (qaz x):=by rw [qos]
theorem qyw:qb7 Pg 82 [] = some (.agg (qaz (⟨([]:Str),([]:List tVar)⟩:tHole))):=by
  kernel_rfl
theorem qyy:pnil Pg 82 [] [(1,88)]:=by
  exact ⟨[.str ([]:Str),.val nilV],by kernel_rfl,(aI rfl trivial)⟩
theorem qvL (x0:Str) (x1:(List tVar)):qb7 Pg 82 [(0,.str x0),(1,sl qay x1)] = some (.agg (qaz (⟨x0,x1⟩:tHole))):=by
  kernel_rfl
theorem qlD (x:tHole):qa5 Pg 82 (.eptr (qaz x)) 0 = some (.eptr ((qaz x).drop 0)):=by kernel_rfl
theorem qfs (x:tHole):qa5 Pg 82 (.eptr (qaz x)) 1 = some (.eptr ((qaz x).drop 1)):=by kernel_rfl
theorem qnY (x:tHole):qbA Pg 9 ((qaz x).drop 0) = some (.str x.Name):=by kernel_rfl
theorem qfD (x:tHole):qbA Pg 36 ((qaz x).drop 1) = some (sl qay x.Params):=by kernel_rfl
structure tCon where
  Name:Str
  Names:(List Str)
  Fields:(List tType)
def qbf (x:tCon):List PVal:=[.str x.Name,sl cS x.Names,sl qac x.Fields]
theorem qsH (x:tCon):qbf x = [.str x.Name,sl cS x.Names,sl qac x.Fields]:=rfl
theorem qhX (x:tCon):clL 0 (qbf x):=(aI trivial (aI (qad clS x.Names) (aI (qad qag x.Fields) trivial)))
abbrev qBt (x:tCon):PVal := .agg (qbf x)
theorem qxG (x:tCon):(qbf x).length = 3:=by rw [qsH]; rfl
theorem qA0 (x:tCon):qbc (qBt x) = some (qbf x):=rfl
theorem qsz (x:tCon):qbc (.agg (qbf x)) = some [.str x.Name,sl cS x.Names,sl qac x.Fields]:=by rw [qsH]; rfl
theorem qBp (x:tCon):∀ q ∈ qbf x,q.one = true:=by
  intro q hq
  rw [qsH] at hq
  simp only [List.mem_cons,List.not_mem_nil,or_false] at hq
  rcases hq with rfl | rfl | rfl <;> rfl
theorem co63:Pg.cellsOf 63 = 3:=by kernel_rfl
theorem qvr (x:tCon):qbA Pg 63 (qbf x) = some (.agg (qbf x)):=by
  have:=qhN (P:=Pg) (t:=63) (l:=qbf x) (r:=[]) (by kernel_rfl) (co63.trans (qxG x).symm)
  rwa [List.append_nil] at this
theorem qvo (x0:Str) (x1:(List Str)) (x2:(List tType)):qb7 Pg 63 [(0,.str x0),(1,sl cS x1),(2,sl qac x2)] = some (.agg (qbf (⟨x0,x1,x2⟩:tCon))):=by
  kernel_rfl
theorem qzv (x0:Str):qb7 Pg 63 [(0,.str x0)] = some (.agg (qbf (⟨x0,([]:List Str),([]:List tType)⟩:tCon))):=by
  kernel_rfl
theorem qzo (x0:Str):pnil Pg 63 [(0,.str x0)] [(1,9),(2,33)]:=by
  exact ⟨[.str x0,.val nilV,.val nilV],by kernel_rfl,(aI rfl (aI rfl trivial))⟩
theorem qr8 (x:tCon):qa5 Pg 63 (.eptr (qbf x)) 0 = some (.eptr ((qbf x).drop 0)):=by kernel_rfl
theorem qrT (x:tCon):qa5 Pg 63 (.eptr (qbf x)) 2 = some (.eptr ((qbf x).drop 2)):=by kernel_rfl
theorem qs0 (x:tCon):qbA Pg 9 ((qbf x).drop 0) = some (.str x.Name):=by kernel_rfl
theorem qrR (x:tCon):qbA Pg 27 ((qbf x).drop 2) = some (sl qac x.Fields):=by kernel_rfl
structure tData where
  Name:Str
  Vars:(List Str)
  Preds:(List tVar)
  Cons:(List tCon)
def qau (x:tData):List PVal:=[.str x.Name,sl cS x.Vars,sl qay x.Preds,sl qbf x.Cons]
theorem qhw (x:tData):qau x = [.str x.Name,sl cS x.Vars,sl qay x.Preds,sl qbf x.Cons]:=rfl
theorem qbJ (x:tData):clL 0 (qau x):=(aI trivial (aI (qad clS x.Vars) (aI (qad qbG x.Preds) (aI (qad qhX x.Cons) trivial))))
abbrev qzK (x:tData):PVal := .agg (qau x)
theorem qnP (x:tData):(qau x).length = 4:=by rw [qhw]; rfl
theorem qsx (x:tData):qbc (.agg (qau x)) = some (qau x):=rfl
theorem qzh (x:tData):qbc (qzK x) = some (qau x):=rfl
theorem qfg (x:tData):qbc (.agg (qau x)) = some [.str x.Name,sl cS x.Vars,sl qay x.Preds,sl qbf x.Cons]:=by rw [qhw]; rfl
theorem qzC (x:tData):∀ q ∈ qau x,q.one = true:=by
  intro q hq
  rw [qhw] at hq
  simp only [List.mem_cons,List.not_mem_nil,or_false] at hq
  rcases hq with rfl | rfl | rfl | rfl <;> rfl
theorem co61:Pg.cellsOf 61 = 4:=by kernel_rfl
theorem qig (x:tData):qbA Pg 61 (qau x) = some (.agg (qau x)):=by
  have:=qhN (P:=Pg) (t:=61) (l:=qau x) (r:=[]) (by kernel_rfl) (co61.trans (qnP x).symm)
  rwa [List.append_nil] at this
theorem qwe (x:tData) (r:List PVal):qbA Pg 61 ([.str x.Name,sl cS x.Vars,sl qay x.Preds,sl qbf x.Cons] ++ r) = some (.agg (qau x)):=by
  rw [← qhw]; exact qhN (by kernel_rfl) (co61.trans (qnP x).symm)
theorem qqX (x:tData):PVal.agg [.str x.Name,sl cS x.Vars,sl qay x.Preds,sl qbf x.Cons] = .agg (qau x):=by rw [qhw]
theorem qul:qb7 Pg 61 [] = some (.agg (qau (⟨([]:Str),([]:List Str),([]:List tVar),([]:List tCon)⟩:tData))):=by
  kernel_rfl
theorem qum:pnil Pg 61 [] [(1,9),(2,88),(3,63)]:=by
  exact ⟨[.str ([]:Str),.val nilV,.val nilV,.val nilV],by kernel_rfl,(aI rfl (aI rfl (aI rfl trivial)))⟩
theorem qtT (x0:Str) (x2:(List tVar)) (x3:(List tCon)):qb7 Pg 61 [(0,.str x0),(2,sl qay x2),(3,sl qbf x3)] = some (.agg (qau (⟨x0,([]:List Str),x2,x3⟩:tData))):=by
  kernel_rfl
theorem qtO (x0:Str) (x2:(List tVar)) (x3:(List tCon)):pnil Pg 61 [(0,.str x0),(2,sl qay x2),(3,sl qbf x3)] [(1,9)]:=by
  exact ⟨[.str x0,.val nilV,sl qay x2,sl qbf x3],by kernel_rfl,(aI rfl trivial)⟩
theorem qlA (x:tData):qa5 Pg 61 (.eptr (qau x)) 2 = some (.eptr ((qau x).drop 2)):=by kernel_rfl
theorem qfj (x:tData):qa5 Pg 61 (.eptr (qau x)) 3 = some (.eptr ((qau x).drop 3)):=by kernel_rfl
theorem qlL (x:tData):qbA Pg 36 ((qau x).drop 2) = some (sl qay x.Preds):=by kernel_rfl
theorem qfA (x:tData):qbA Pg 59 ((qau x).drop 3) = some (sl qbf x.Cons):=by kernel_rfl
structure tMethod where
  Name:Str
  Type_:tType
def qlp (x:tMethod):List PVal:=[.str x.Name] ++ (qac x.Type_)
theorem qui (x:tMethod):qlp x = [.str x.Name,.int .i64 x.Type_.Op,.str x.Type_.Name,sl qac x.Type_.Args,sl cS x.Type_.Names,.int .i64 x.Type_.Pred.Op,.str x.Type_.Pred.Name,.int .i64 x.Type_.Pred.N,sl qaa x.Type_.Pred.Kids,sl qaa x.Type_.Preds]:=by
  unfold qlp
  simp only [qaB,List.cons_append,List.nil_append]
theorem qyJ (x:tMethod):clL 0 (qlp x):=by rw [qui]; exact (aI trivial (aI trivial (aI trivial (aI (qad qag x.Type_.Args) (aI (qad clS x.Type_.Names) (aI trivial (aI trivial (aI trivial (aI (qad qab x.Type_.Pred.Kids) (aI (qad qab x.Type_.Preds) trivial))))))))))
structure tClass where
  Name:Str
  Var:Str
  Methods:(List tMethod)
def qkr (x:tClass):List PVal:=[.str x.Name,.str x.Var,sl qlp x.Methods]
theorem qz5 (x:tClass):qkr x = [.str x.Name,.str x.Var,sl qlp x.Methods]:=rfl
theorem qy0 (x:tClass):clL 0 (qkr x):=(aI trivial (aI trivial (aI (qad qyJ x.Methods) trivial)))
structure tParam where
  Name:Str
  Type_:tType
def qj7 (x:tParam):List PVal:=[.str x.Name] ++ (qac x.Type_)
theorem qwJ (x:tParam):qj7 x = [.str x.Name,.int .i64 x.Type_.Op,.str x.Type_.Name,sl qac x.Type_.Args,sl cS x.Type_.Names,.int .i64 x.Type_.Pred.Op,.str x.Type_.Pred.Name,.int .i64 x.Type_.Pred.N,sl qaa x.Type_.Pred.Kids,sl qaa x.Type_.Preds]:=by
  unfold qj7
  simp only [qaB,List.cons_append,List.nil_append]
theorem qwm (x:tParam):clL 0 (qj7 x):=by rw [qwJ]; exact (aI trivial (aI trivial (aI trivial (aI (qad qag x.Type_.Args) (aI (qad clS x.Type_.Names) (aI trivial (aI trivial (aI trivial (aI (qad qab x.Type_.Pred.Kids) (aI (qad qab x.Type_.Preds) trivial))))))))))
mutual
inductive tExpr where
  | mk (Op:Int) (Name:Str) (N:Int) (Kids:(List tExpr)) (Params:(List tParam)) (Alts:(List tAlt)) (Types:(List tType))
inductive tAlt where
  | mk (Con:Str) (Names:(List Str)) (Body:tExpr)
end
def tExpr.Op:tExpr→Int
  | ⟨x,_,_,_,_,_,_⟩ => x
def tExpr.Name:tExpr→Str
  | ⟨_,x,_,_,_,_,_⟩ => x
def tExpr.N:tExpr→Int
  | ⟨_,_,x,_,_,_,_⟩ => x
def tExpr.Kids:tExpr→(List tExpr)
  | ⟨_,_,_,x,_,_,_⟩ => x
def tExpr.Params:tExpr→(List tParam)
  | ⟨_,_,_,_,x,_,_⟩ => x
def tExpr.Alts:tExpr→(List tAlt)
  | ⟨_,_,_,_,_,x,_⟩ => x
def tExpr.Types:tExpr→(List tType)
  | ⟨_,_,_,_,_,_,x⟩ => x
def tAlt.Con:tAlt→Str
  | ⟨x,_,_⟩ => x
def tAlt.Names:tAlt→(List Str)
  | ⟨_,x,_⟩ => x
def tAlt.Body:tAlt→tExpr
  | ⟨_,_,x⟩ => x
mutual
def qgZ:tExpr→List PVal
  | ⟨x0,x1,x2,x3,x4,x5,x6⟩ => [.int .i64 x0,.str x1,.int .i64 x2,.slice (qny x3),sl qj7 x4,.slice (qrJ x5),sl qac x6]
def qns:tAlt→List PVal
  | ⟨x0,x1,x2⟩ => [.str x0,sl cS x1] ++ (qgZ x2)
def qny:List tExpr→List (List PVal)
  | [] => []
  | x :: r => qgZ x :: qny r
def qrJ:List tAlt→List (List PVal)
  | [] => []
  | x :: r => qns x :: qrJ r
end
theorem quz:∀ (l:List tExpr),qny l = l.map qgZ
  | [] => by simp [qny]
  | x :: r => by simp [qny,quz r]
theorem qvY:∀ (l:List tAlt),qrJ l = l.map qns
  | [] => by simp [qrJ]
  | x :: r => by simp [qrJ,qvY r]
mutual
theorem quV:∀ (x:tExpr),clL 0 (qgZ x)
  | ⟨x0,x1,x2,x3,x4,x5,x6⟩ => by rw [qgZ]; exact (aI trivial (aI trivial (aI trivial (aI (qvE x3) (aI (qad qwm x4) (aI (qx5 x5) (aI (qad qag x6) trivial)))))))
theorem qzI:∀ (x:tAlt),clL 0 (qns x)
  | ⟨x0,x1,x2⟩ => by rw [qns]; exact qom.2 (aI ((aI trivial (aI (qad clS x1) trivial))) (quV x2))
theorem qvE:∀ (l:List tExpr),clLL 0 (qny l)
  | [] => by simp [qny,clLL]
  | x :: r => by rw [qny]; exact ⟨quV x,qvE r⟩
theorem qx5:∀ (l:List tAlt),clLL 0 (qrJ l)
  | [] => by simp [qrJ,clLL]
  | x :: r => by rw [qrJ]; exact ⟨qzI x,qx5 r⟩
end
theorem qp0:∀ (x:tExpr),qgZ x = [.int .i64 x.Op,.str x.Name,.int .i64 x.N,sl qgZ x.Kids,sl qj7 x.Params,sl qns x.Alts,sl qac x.Types]
  | ⟨x0,x1,x2,x3,x4,x5,x6⟩ => by
    simp only [qgZ,quz,qvY]
    rfl
theorem qCh:∀ (x:tAlt),qns x = [.str x.Con,sl cS x.Names,.int .i64 x.Body.Op,.str x.Body.Name,.int .i64 x.Body.N,sl qgZ x.Body.Kids,sl qj7 x.Body.Params,sl qns x.Body.Alts,sl qac x.Body.Types]
  | ⟨x0,x1,x2⟩ => by
    simp only [qns,qp0,List.cons_append,List.nil_append]
    rfl
structure tDef where
  Name:Str
  Params:(List Str)
  Body:tExpr
  Mode:Int
  Typed:Bool
  Sig:tSig
def qnL (x:tDef):List PVal:=[.str x.Name,sl cS x.Params] ++ (qgZ x.Body ++ ([.int .i64 x.Mode,.bool x.Typed] ++ (qjJ x.Sig)))
theorem qAb (x:tDef):qnL x = [.str x.Name,sl cS x.Params,.int .i64 x.Body.Op,.str x.Body.Name,.int .i64 x.Body.N,sl qgZ x.Body.Kids,sl qj7 x.Body.Params,sl qns x.Body.Alts,sl qac x.Body.Types,.int .i64 x.Mode,.bool x.Typed,sl cS x.Sig.Vars,sl qhj x.Sig.Needs,sl qaK x.Sig.Abs,sl qfq x.Sig.Bounds,.int .i64 x.Sig.Type_.Op,.str x.Sig.Type_.Name,sl qac x.Sig.Type_.Args,sl cS x.Sig.Type_.Names,.int .i64 x.Sig.Type_.Pred.Op,.str x.Sig.Type_.Pred.Name,.int .i64 x.Sig.Type_.Pred.N,sl qaa x.Sig.Type_.Pred.Kids,sl qaa x.Sig.Type_.Preds,sl qaa x.Sig.Metric]:=by
  unfold qnL
  simp only [qp0,qkW,List.cons_append,List.nil_append]
theorem qAd (x:tDef):clL 0 (qnL x):=by rw [qAb]; exact (aI trivial (aI (qad clS x.Params) (aI trivial (aI trivial (aI trivial (aI (qad quV x.Body.Kids) (aI (qad qwm x.Body.Params) (aI (qad qzI x.Body.Alts) (aI (qad qag x.Body.Types) (aI trivial (aI trivial (aI (qad clS x.Sig.Vars) (aI (qad qve x.Sig.Needs) (aI (qad qcr x.Sig.Abs) (aI (qad qwb x.Sig.Bounds) (aI trivial (aI trivial (aI (qad qag x.Sig.Type_.Args) (aI (qad clS x.Sig.Type_.Names) (aI trivial (aI trivial (aI trivial (aI (qad qab x.Sig.Type_.Pred.Kids) (aI (qad qab x.Sig.Type_.Preds) (aI (qad qab x.Sig.Metric) trivial)))))))))))))))))))))))))
structure tInstance where
  Class:Str
  Type_:tType
  Needs:(List tNeed)
  Defs:(List tDef)
def qep (x:tInstance):List PVal:=[.str x.Class] ++ (qac x.Type_ ++ ([sl qhj x.Needs,sl qnL x.Defs]))
theorem qr9 (x:tInstance):qep x = [.str x.Class,.int .i64 x.Type_.Op,.str x.Type_.Name,sl qac x.Type_.Args,sl cS x.Type_.Names,.int .i64 x.Type_.Pred.Op,.str x.Type_.Pred.Name,.int .i64 x.Type_.Pred.N,sl qaa x.Type_.Pred.Kids,sl qaa x.Type_.Preds,sl qhj x.Needs,sl qnL x.Defs]:=by
  unfold qep
  simp only [qaB,List.cons_append,List.nil_append]
theorem qvC (x:tInstance):clL 0 (qep x):=by rw [qr9]; exact (aI trivial (aI trivial (aI trivial (aI (qad qag x.Type_.Args) (aI (qad clS x.Type_.Names) (aI trivial (aI trivial (aI trivial (aI (qad qab x.Type_.Pred.Kids) (aI (qad qab x.Type_.Preds) (aI (qad qve x.Needs) (aI (qad qAd x.Defs) trivial))))))))))))
structure tCase where
  Con:Str
  Names:(List Str)
  Body:tPred
def qrk (x:tCase):List PVal:=[.str x.Con,sl cS x.Names] ++ (qaa x.Body)
theorem qxx (x:tCase):qrk x = [.str x.Con,sl cS x.Names,.int .i64 x.Body.Op,.str x.Body.Name,.int .i64 x.Body.N,sl qaa x.Body.Kids]:=by
  unfold qrk
  simp only [qam,List.cons_append,List.nil_append]
theorem qA7 (x:tCase):clL 0 (qrk x):=by rw [qxx]; exact (aI trivial (aI (qad clS x.Names) (aI trivial (aI trivial (aI trivial (aI (qad qab x.Body.Kids) trivial))))))
structure tMeasure where
  Name:Str
  Data:Str
  Result:Str
  Cases:(List tCase)
  Inv:tPred
def qfx (x:tMeasure):List PVal:=[.str x.Name,.str x.Data,.str x.Result,sl qrk x.Cases] ++ (qaa x.Inv)
theorem qsD (x:tMeasure):qfx x = [.str x.Name,.str x.Data,.str x.Result,sl qrk x.Cases,.int .i64 x.Inv.Op,.str x.Inv.Name,.int .i64 x.Inv.N,sl qaa x.Inv.Kids]:=by
  unfold qfx
  simp only [qam,List.cons_append,List.nil_append]
theorem qxp (x:tMeasure):clL 0 (qfx x):=by rw [qsD]; exact (aI trivial (aI trivial (aI trivial (aI (qad qA7 x.Cases) (aI trivial (aI trivial (aI trivial (aI (qad qab x.Inv.Kids) trivial))))))))
structure tQual where
  Name:Str
  Vars:(List tVar)
  Body:tPred
def qmn (x:tQual):List PVal:=[.str x.Name,sl qay x.Vars] ++ (qaa x.Body)
theorem qxH (x:tQual):qmn x = [.str x.Name,sl qay x.Vars,.int .i64 x.Body.Op,.str x.Body.Name,.int .i64 x.Body.N,sl qaa x.Body.Kids]:=by
  unfold qmn
  simp only [qam,List.cons_append,List.nil_append]
theorem qAM (x:tQual):clL 0 (qmn x):=by rw [qxH]; exact (aI trivial (aI (qad qbG x.Vars) (aI trivial (aI trivial (aI trivial (aI (qad qab x.Body.Kids) trivial))))))
structure tModule where
  Datas:(List tData)
  Classes:(List tClass)
  Instances:(List tInstance)
  Measures:(List tMeasure)
  Quals:(List tQual)
  Defs:(List tDef)
def qaL (x:tModule):List PVal:=[sl qau x.Datas,sl qkr x.Classes,sl qep x.Instances,sl qfx x.Measures,sl qmn x.Quals,sl qnL x.Defs]
theorem qlq (x:tModule):qaL x = [sl qau x.Datas,sl qkr x.Classes,sl qep x.Instances,sl qfx x.Measures,sl qmn x.Quals,sl qnL x.Defs]:=rfl
theorem qb2 (x:tModule):clL 0 (qaL x):=(aI (qad qbJ x.Datas) (aI (qad qy0 x.Classes) (aI (qad qvC x.Instances) (aI (qad qxp x.Measures) (aI (qad qAM x.Quals) (aI (qad qAd x.Defs) trivial))))))
theorem qxm (x:tModule):(qaL x).length = 6:=by rw [qlq]; rfl
theorem qc0 (x:tModule):qbc (.agg (qaL x)) = some (qaL x):=rfl
theorem qxb (x:tModule):qbc (.agg (qaL x)) = some [sl qau x.Datas,sl qkr x.Classes,sl qep x.Instances,sl qfx x.Measures,sl qmn x.Quals,sl qnL x.Defs]:=by rw [qlq]; rfl
theorem co57:Pg.cellsOf 57 = 6:=by kernel_rfl
theorem qeF (x:tModule):qbA Pg 57 (qaL x) = some (.agg (qaL x)):=by
  have:=qhN (P:=Pg) (t:=57) (l:=qaL x) (r:=[]) (by kernel_rfl) (co57.trans (qxm x).symm)
  rwa [List.append_nil] at this
theorem qxd (x:tModule):PVal.agg [sl qau x.Datas,sl qkr x.Classes,sl qep x.Instances,sl qfx x.Measures,sl qmn x.Quals,sl qnL x.Defs] = .agg (qaL x):=by rw [qlq]
theorem qwt (x0:(List tData)):qb7 Pg 57 [(0,sl qau x0)] = some (.agg (qaL (⟨x0,([]:List tClass),([]:List tInstance),([]:List tMeasure),([]:List tQual),([]:List tDef)⟩:tModule))):=by
  kernel_rfl
theorem qvM (x0:(List tData)):pnil Pg 57 [(0,sl qau x0)] [(1,231),(2,233),(3,236),(4,238),(5,247)]:=by
  exact ⟨[sl qau x0,.val nilV,.val nilV,.val nilV,.val nilV,.val nilV],by kernel_rfl,(aI rfl (aI rfl (aI rfl (aI rfl (aI rfl trivial)))))⟩
theorem qaY (x:tModule):qa5 Pg 57 (.eptr (qaL x)) 0 = some (.eptr ((qaL x).drop 0)):=by kernel_rfl
theorem qaX (x:tModule):qbA Pg 50 ((qaL x).drop 0) = some (sl qau x.Datas):=by kernel_rfl
structure reftype_substitution where
  names:(List Str)
  by_:(List tPred)
def qaf (x:reftype_substitution):List PVal:=[sl cS x.names,sl qaa x.by_]
theorem qa7 (x:reftype_substitution):qaf x = [sl cS x.names,sl qaa x.by_]:=rfl
theorem qaD (x:reftype_substitution):clL 0 (qaf x):=(aI (qad clS x.names) (aI (qad qab x.by_) trivial))
theorem qgD (x:reftype_substitution):(qaf x).length = 2:=by rw [qa7]; rfl
theorem qbx (x:reftype_substitution):qbc (.agg (qaf x)) = some (qaf x):=rfl
theorem qcT (x:reftype_substitution):qbc (.agg (qaf x)) = some [sl cS x.names,sl qaa x.by_]:=by rw [qa7]; rfl
theorem qCK:Pg.cellsOf 163 = 2:=by kernel_rfl
theorem qa6 (x:reftype_substitution):qbA Pg 163 (qaf x) = some (.agg (qaf x)):=by
  have:=qhN (P:=Pg) (t:=163) (l:=qaf x) (r:=[]) (by kernel_rfl) (qCK.trans (qgD x).symm)
  rwa [List.append_nil] at this
theorem qaE (x:reftype_substitution) (r:List PVal):qbA Pg 163 ([sl cS x.names,sl qaa x.by_] ++ r) = some (.agg (qaf x)):=by
  rw [← qa7]; exact qhN (by kernel_rfl) (qCK.trans (qgD x).symm)
theorem qgs (x:reftype_substitution):PVal.agg [sl cS x.names,sl qaa x.by_] = .agg (qaf x):=by rw [qa7]
theorem qjD (x0:(List Str)) (x1:(List tPred)):qb7 Pg 163 [(0,sl cS x0),(1,sl qaa x1)] = some (.agg (qaf (⟨x0,x1⟩:reftype_substitution))):=by
  kernel_rfl
theorem qeB (x:reftype_substitution):qa5 Pg 163 (.eptr (qaf x)) 0 = some (.eptr ((qaf x).drop 0)):=by kernel_rfl
theorem qc3 (x:reftype_substitution):qa5 Pg 163 (.eptr (qaf x)) 1 = some (.eptr ((qaf x).drop 1)):=by kernel_rfl
theorem qeQ (x:reftype_substitution):qbA Pg 22 ((qaf x).drop 0) = some (sl cS x.names):=by kernel_rfl
theorem qdc (x:reftype_substitution):qbA Pg 29 ((qaf x).drop 1) = some (sl qaa x.by_):=by kernel_rfl
structure liquidcheckref32_Change where
  Names:(List Str)
  By:(List tPred)
structure tSol where
  Name:Str
  Pred:tPred
theorem co9:Pg.cellsOf 9 = 1:=by kernel_rfl
theorem sT22:SlT Pg 22 9 cS:=⟨Tryz.underlying22,fun _ => co9.symm,by kernel_rfl,by rw [co9]; decide,by kernel_rfl,of_decide_eq_true (by kernel_rfl),oneS,clS⟩
theorem sT24:SlT Pg 24 76 qaK:=⟨Tryz.underlying24,fun x => (quW x).trans co76.symm,by kernel_rfl,by rw [co76]; decide,by kernel_rfl,of_decide_eq_true (by kernel_rfl),qAU,qcr⟩
theorem sT27:SlT Pg 27 33 qac:=⟨Tryz.underlying27,fun x => (qp2 x).trans co33.symm,by kernel_rfl,by rw [co33]; decide,by kernel_rfl,of_decide_eq_true (by kernel_rfl),qy1,qag⟩
theorem sT29:SlT Pg 29 31 qaa:=⟨Tryz.underlying29,fun x => (qtv x).trans co31.symm,by kernel_rfl,by rw [co31]; decide,by kernel_rfl,of_decide_eq_true (by kernel_rfl),qyW,qab⟩
theorem sT36:SlT Pg 36 88 qay:=⟨Tryz.underlying36,fun x => (qu6 x).trans co88.symm,by kernel_rfl,by rw [co88]; decide,by kernel_rfl,of_decide_eq_true (by kernel_rfl),qA1,qbG⟩
theorem sT38:SlT Pg 38 82 qaz:=⟨Tryz.underlying38,fun x => (qsJ x).trans co82.symm,by kernel_rfl,by rw [co82]; decide,by kernel_rfl,of_decide_eq_true (by kernel_rfl),qz3,qbM⟩
theorem sT50:SlT Pg 50 61 qau:=⟨Tryz.underlying50,fun x => (qnP x).trans co61.symm,by kernel_rfl,by rw [co61]; decide,by kernel_rfl,of_decide_eq_true (by kernel_rfl),qzC,qbJ⟩
theorem sT59:SlT Pg 59 63 qbf:=⟨Tryz.underlying59,fun x => (qxG x).trans co63.symm,by kernel_rfl,by rw [co63]; decide,by kernel_rfl,of_decide_eq_true (by kernel_rfl),qBp,qhX⟩
theorem co5:Pg.cellsOf 5 = 1:=by kernel_rfl
theorem qym:(Pg.underlying 103).any qvO = true:=by kernel_rfl
theorem sc22:(Pg.underlying 22).any qvO = true:=by kernel_rfl
theorem sc24:(Pg.underlying 24).any qvO = true:=by kernel_rfl
theorem sc29:(Pg.underlying 29).any qvO = true:=by kernel_rfl
theorem sc36:(Pg.underlying 36).any qvO = true:=by kernel_rfl
theorem sc38:(Pg.underlying 38).any qvO = true:=by kernel_rfl
theorem sc9:(Pg.underlying 9).any qvO = true:=by kernel_rfl
theorem zv4:qup Pg 4 = some (PVal.bool false):=by kernel_rfl
theorem pz31:qhE Pg 31 = some [.int .i64 0,.str ([]:Str),.int .i64 0,sl qaa ([]:List tPred)]:=by kernel_rfl
theorem pz33:qhE Pg 33 = some [.int .i64 0,.str ([]:Str),sl qac ([]:List tType),sl cS ([]:List Str),.int .i64 0,.str ([]:Str),.int .i64 0,sl qaa ([]:List tPred),sl qaa ([]:List tPred)]:=by kernel_rfl
theorem pz57:qhE Pg 57 = some [sl qau ([]:List tData),sl qkr ([]:List tClass),sl qep ([]:List tInstance),sl qfx ([]:List tMeasure),sl qmn ([]:List tQual),sl qnL ([]:List tDef)]:=by kernel_rfl
theorem pz61:qhE Pg 61 = some [.str ([]:Str),sl cS ([]:List Str),sl qay ([]:List tVar),sl qbf ([]:List tCon)]:=by kernel_rfl
theorem pz63:qhE Pg 63 = some [.str ([]:Str),sl cS ([]:List Str),sl qac ([]:List tType)]:=by kernel_rfl
theorem pz76:qhE Pg 76 = some [.str ([]:Str),.str ([]:Str)]:=by kernel_rfl
theorem pz82:qhE Pg 82 = some [.str ([]:Str),sl qay ([]:List tVar)]:=by kernel_rfl
theorem pz88:qhE Pg 88 = some [.str ([]:Str),.str ([]:Str)]:=by kernel_rfl
theorem qyB:qhE Pg 163 = some [sl cS ([]:List Str),sl qaa ([]:List tPred)]:=by kernel_rfl
def qeR:List Int:=[1,10,100,1000,10000,100000,1000000,10000000,100000000,1000000000,10000000000,100000000000,1000000000000,10000000000000,100000000000000,1000000000000000,10000000000000000,100000000000000000,1000000000000000000,10000000000000000000]
theorem qC8:Pg.cellsOf 202 = 20:=by kernel_rfl
theorem qC9:Pg.cellsOf 182 = 1:=by kernel_rfl
def ql4:List Int:=[0,1,28,2,29,14,24,3,30,22,20,15,25,17,4,8,31,27,13,23,21,19,16,7,26,12,18,6,11,5,10,9]
theorem qCZ:Pg.cellsOf 208 = 32:=by kernel_rfl
def qlU:List Int:=[0,1,56,2,57,49,28,3,61,58,42,50,38,29,17,4,62,47,59,36,45,43,51,22,53,39,33,30,24,18,12,5,63,55,48,27,60,41,37,16,46,35,44,21,52,32,23,11,54,26,40,15,34,20,31,10,25,14,19,9,13,8,7,6]
theorem qC5:Pg.cellsOf 209 = 64:=by kernel_rfl
def GE:List (Nat×List PVal):=[(0,qeR.map (PVal.int .u64)),(1,ql4.map (PVal.int .u8)),(2,qlU.map (PVal.int .u8))]
end Go.Proofs.YtgldgpdhblndkaaGreatDoor
