/- WHAT IS PROVED: parts of the proof, put together by a program (GI GT PlA PlB Tot). Conditions: none. -/
import Derived.Test.YtgldgpdhblndkaaGreatDoorPkF11
import Derived.Test.YtgldgpdhblndkaaGreatDoorChecked
import Derived.Test.YtgldgpdhblndkaaGreatDoorPkF10
import Derived.Test.YtgldgpdhblndkaaGreatDoorPkF9
noncomputable section
namespace Go.Proofs.YtgldgpdhblndkaaGreatDoor
open Go
set_option linter.unusedVariables false
set_option maxRecDepth 100000
noncomputable abbrev Pg:=Tryz.prog
theorem mixed:Pg.follows .mixedOrders = true:=by kernel_rfl
structure tNeed where
 Class:Str
 Var:Str
deriving DecidableEq
def qjm (x:tNeed):List PVal:=[.str x.Class,.str x.Var]
theorem qBp (x:tNeed):clL 0 (qjm x):=(aI trivial (aI trivial trivial))
structure tAbs where
 Name:Str
 Sort_:Str
deriving DecidableEq
def qaC (x:tAbs):List PVal:=[.str x.Name,.str x.Sort_]
theorem qul (x:tAbs):qaC x = [.str x.Name,.str x.Sort_]:=rfl
theorem qbA (x:tAbs):clL 0 (qaC x):=(aI trivial (aI trivial trivial))
abbrev qKr (x:tAbs):PVal := .agg (qaC x)
theorem qBb (x:tAbs):(qaC x).length = 2:=by rw [qul]; rfl
theorem qIk (x:tAbs):qaY (.agg (qaC x)) = some (qaC x):=rfl
theorem qI8 (x:tAbs):qaY (qKr x) = some (qaC x):=rfl
theorem qE4 (x:tAbs):qaY (.agg (qaC x)) = some [.str x.Name,.str x.Sort_]:=by rw [qul]; rfl
theorem qJl (x:tAbs):∀ q ∈ qaC x,q.one = true:=by
 intro q hq
 rw [qul] at hq
 simp only [vaC,vbf,or_false] at hq
 rcases hq with rfl | rfl <;> rfl
theorem co76:Pg.cellsOf 76 = 2:=by kernel_rfl
theorem qEh (x:tAbs):qbv Pg 76 (qaC x) = some (.agg (qaC x)):=by
 have:=qhu (P:=Pg) (t:=76) (l:=qaC x) (r:=[]) (by kernel_rfl) (co76.trans (qBb x).symm)
 rwa [va4] at this
theorem qKj (x:tAbs) (r:List PVal):qbv Pg 76 ([.str x.Name,.str x.Sort_] ++ r) = some (.agg (qaC x)):=by
 rw [← qul]; exact qhu (by kernel_rfl) (co76.trans (qBb x).symm)
theorem qEK (x0:Str) (x1:Str):qbO Pg 76 [(0,.str x0),(1,.str x1)] = some (.agg (qaC (⟨x0,x1⟩:tAbs))):=by
 kernel_rfl
theorem qoZ (x:tAbs):qa1 Pg 76 (.eptr (qaC x)) 0 = some (.eptr ((qaC x).drop 0)):=by kernel_rfl
theorem qBS (x:tAbs):qa1 Pg 76 (.eptr (qaC x)) 1 = some (.eptr ((qaC x).drop 1)):=by kernel_rfl
theorem qrB (x:tAbs):qbv Pg 9 ((qaC x).drop 0) = some (.str x.Name):=by kernel_rfl
theorem qCc (x:tAbs):qbv Pg 74 ((qaC x).drop 1) = some (.str x.Sort_):=by kernel_rfl
structure tVar where
 Name:Str
 Sort_:Str
deriving DecidableEq
def qaI (x:tVar):List PVal:=[.str x.Name,.str x.Sort_]
theorem qBC (x:tVar):qaI x = [.str x.Name,.str x.Sort_]:=rfl
theorem qbx (x:tVar):clL 0 (qaI x):=(aI trivial (aI trivial trivial))
abbrev qEV (x:tVar):PVal := .agg (qaI x)
theorem qAg (x:tVar):(qaI x).length = 2:=by rw [qBC]; rfl
theorem qIu (x:tVar):qaY (.agg (qaI x)) = some (qaI x):=rfl
theorem qBo (x:tVar):qaY (qEV x) = some (qaI x):=rfl
theorem qAj (x:tVar):qaY (.agg (qaI x)) = some [.str x.Name,.str x.Sort_]:=by rw [qBC]; rfl
theorem qJq (x:tVar):∀ q ∈ qaI x,q.one = true:=by
 intro q hq
 rw [qBC] at hq
 simp only [vaC,vbf,or_false] at hq
 rcases hq with rfl | rfl <;> rfl
theorem co88:Pg.cellsOf 88 = 2:=by kernel_rfl
theorem qBx (x:tVar):qbv Pg 88 (qaI x) = some (.agg (qaI x)):=by
 have:=qhu (P:=Pg) (t:=88) (l:=qaI x) (r:=[]) (by kernel_rfl) (co88.trans (qAg x).symm)
 rwa [va4] at this
theorem qJN (x:tVar) (r:List PVal):qbv Pg 88 ([.str x.Name,.str x.Sort_] ++ r) = some (.agg (qaI x)):=by
 rw [← qBC]; exact qhu (by kernel_rfl) (co88.trans (qAg x).symm)
theorem qrV (x0:Str) (x1:Str):qbO Pg 88 [(0,.str x0),(1,.str x1)] = some (.agg (qaI (⟨x0,x1⟩:tVar))):=by
 kernel_rfl
theorem qn9 (x:tVar):qa1 Pg 88 (.eptr (qaI x)) 0 = some (.eptr ((qaI x).drop 0)):=by kernel_rfl
theorem qr5 (x:tVar):qbv Pg 9 ((qaI x).drop 0) = some (.str x.Name):=by kernel_rfl
inductive tPred where
 | mk (Op:Int) (Name:Str) (N:Int) (Kids:(List tPred))
def tPred.Op:tPred→Int
 | ⟨x,_,_,_⟩ => x
def tPred.Name:tPred→Str
 | ⟨_,x,_,_⟩ => x
def tPred.N:tPred→Int
 | ⟨_,_,x,_⟩ => x
def tPred.Kids:tPred→(List tPred)
 | ⟨_,_,_,x⟩ => x
mutual
def qaa:tPred→List PVal
 | ⟨x0,x1,x2,x3⟩ => [.int .i64 x0,.str x1,.int .i64 x2,.slice (qo1 x3)]
def qo1:List tPred→List (List PVal)
 | [] => []
 | x :: r => qaa x :: qo1 r
end
theorem qzO:∀ (l:List tPred),qo1 l = l.map qaa
 | [] => by simp [qo1]
 | x :: r => by simp [qo1,qzO r]
mutual
theorem qab:∀ (x:tPred),clL 0 (qaa x)
 | ⟨x0,x1,x2,x3⟩ => by rw [qaa]; exact (aI trivial (aI trivial (aI trivial (aI (qCT x3) trivial))))
theorem qCT:∀ (l:List tPred),clLL 0 (qo1 l)
 | [] => by simp [qo1,clLL]
 | x :: r => by rw [qo1]; exact ⟨qab x,qCT r⟩
end
theorem qao:∀ (x:tPred),qaa x = [.int .i64 x.Op,.str x.Name,.int .i64 x.N,sl qaa x.Kids]
 | ⟨x0,x1,x2,x3⟩ => by
  simp only [qaa,qzO]
  rfl
abbrev qbk (x:tPred):PVal := .agg (qaa x)
theorem qw2 (x:tPred):(qaa x).length = 4:=by rw [qao]; rfl
theorem qaE (x:tPred):qaY (.agg (qaa x)) = some (qaa x):=rfl
theorem qaL (x:tPred):qaY (qbk x) = some (qaa x):=rfl
theorem qaB (x:tPred):qaY (.agg (qaa x)) = some [.int .i64 x.Op,.str x.Name,.int .i64 x.N,sl qaa x.Kids]:=by rw [qao]; rfl
theorem qG1 (x:tPred):∀ q ∈ qaa x,q.one = true:=by
 intro q hq
 rw [qao] at hq
 simp only [vaC,vbf,or_false] at hq
 rcases hq with rfl | rfl | rfl | rfl <;> rfl
theorem co31:Pg.cellsOf 31 = 4:=by kernel_rfl
theorem qaj (x:tPred):qbv Pg 31 (qaa x) = some (.agg (qaa x)):=by
 have:=qhu (P:=Pg) (t:=31) (l:=qaa x) (r:=[]) (by kernel_rfl) (co31.trans (qw2 x).symm)
 rwa [va4] at this
theorem qax (x:tPred) (r:List PVal):qbv Pg 31 ([.int .i64 x.Op,.str x.Name,.int .i64 x.N,sl qaa x.Kids] ++ r) = some (.agg (qaa x)):=by
 rw [← qao]; exact qhu (by kernel_rfl) (co31.trans (qw2 x).symm)
theorem qaT (x:tPred):PVal.agg [.int .i64 x.Op,.str x.Name,.int .i64 x.N,sl qaa x.Kids] = .agg (qaa x):=by rw [qao]
theorem qpH:qbO Pg 31 [] = some (.agg (qaa (⟨0,([]:Str),0,([]:List tPred)⟩:tPred))):=by
 simp only [qao]
 kernel_rfl
theorem qpL:pnil Pg 31 [] [(3,31)]:=by
 exact ⟨[.int .i64 0,.str ([]:Str),.int .i64 0,.val nilV],by kernel_rfl,(aI rfl trivial)⟩
theorem qlh (x0:Int) (x1:Str):qbO Pg 31 [(0,.int .i64 x0),(1,.str x1)] = some (.agg (qaa (⟨x0,x1,0,([]:List tPred)⟩:tPred))):=by
 simp only [qao]
 kernel_rfl
theorem qk1 (x0:Int) (x1:Str):pnil Pg 31 [(0,.int .i64 x0),(1,.str x1)] [(3,31)]:=by
 exact ⟨[.int .i64 x0,.str x1,.int .i64 0,.val nilV],by kernel_rfl,(aI rfl trivial)⟩
theorem qfP (x0:Int) (x1:Str) (x2:Int):qbO Pg 31 [(0,.int .i64 x0),(1,.str x1),(2,.int .i64 x2)] = some (.agg (qaa (⟨x0,x1,x2,([]:List tPred)⟩:tPred))):=by
 simp only [qao]
 kernel_rfl
theorem qf1 (x0:Int) (x1:Str) (x2:Int):pnil Pg 31 [(0,.int .i64 x0),(1,.str x1),(2,.int .i64 x2)] [(3,31)]:=by
 exact ⟨[.int .i64 x0,.str x1,.int .i64 x2,.val nilV],by kernel_rfl,(aI rfl trivial)⟩
theorem qvW (x0:Int) (x1:Str) (x2:Int) (x3:(List tPred)):qbO Pg 31 [(0,.int .i64 x0),(1,.str x1),(2,.int .i64 x2),(3,sl qaa x3)] = some (.agg (qaa (⟨x0,x1,x2,x3⟩:tPred))):=by
 simp only [qao]
 kernel_rfl
theorem qlI (x0:Int) (x1:Str) (x3:(List tPred)):qbO Pg 31 [(0,.int .i64 x0),(1,.str x1),(3,sl qaa x3)] = some (.agg (qaa (⟨x0,x1,0,x3⟩:tPred))):=by
 simp only [qao]
 kernel_rfl
theorem qoa (x0:Int) (x2:Int):qbO Pg 31 [(0,.int .i64 x0),(2,.int .i64 x2)] = some (.agg (qaa (⟨x0,([]:Str),x2,([]:List tPred)⟩:tPred))):=by
 simp only [qao]
 kernel_rfl
theorem qo6 (x0:Int) (x2:Int):pnil Pg 31 [(0,.int .i64 x0),(2,.int .i64 x2)] [(3,31)]:=by
 exact ⟨[.int .i64 x0,.str ([]:Str),.int .i64 x2,.val nilV],by kernel_rfl,(aI rfl trivial)⟩
theorem qvK (x0:Int) (x3:(List tPred)):qbO Pg 31 [(0,.int .i64 x0),(3,sl qaa x3)] = some (.agg (qaa (⟨x0,([]:Str),0,x3⟩:tPred))):=by
 simp only [qao]
 kernel_rfl
theorem qzN (x0:Int):qbO Pg 31 [(0,.int .i64 x0)] = some (.agg (qaa (⟨x0,([]:Str),0,([]:List tPred)⟩:tPred))):=by
 simp only [qao]
 kernel_rfl
theorem qzn (x0:Int):pnil Pg 31 [(0,.int .i64 x0)] [(3,31)]:=by
 exact ⟨[.int .i64 x0,.str ([]:Str),.int .i64 0,.val nilV],by kernel_rfl,(aI rfl trivial)⟩
theorem qaw (x:tPred):qa1 Pg 31 (.eptr (qaa x)) 0 = some (.eptr ((qaa x).drop 0)):=by rw [qao]; kernel_rfl
theorem qaH (x:tPred):qa1 Pg 31 (.eptr (qaa x)) 1 = some (.eptr ((qaa x).drop 1)):=by rw [qao]; kernel_rfl
theorem qbc (x:tPred):qa1 Pg 31 (.eptr (qaa x)) 2 = some (.eptr ((qaa x).drop 2)):=by rw [qao]; kernel_rfl
theorem qat (x:tPred):qa1 Pg 31 (.eptr (qaa x)) 3 = some (.eptr ((qaa x).drop 3)):=by rw [qao]; kernel_rfl
theorem qau (x:tPred):qbv Pg 28 ((qaa x).drop 0) = some (.int .i64 x.Op):=by rw [qao]; kernel_rfl
theorem qaO (x:tPred):qbv Pg 9 ((qaa x).drop 1) = some (.str x.Name):=by rw [qao]; kernel_rfl
theorem qbq (x:tPred):qbv Pg 3 ((qaa x).drop 2) = some (.int .i64 x.N):=by rw [qao]; kernel_rfl
theorem qav (x:tPred):qbv Pg 29 ((qaa x).drop 3) = some (sl qaa x.Kids):=by rw [qao]; kernel_rfl
structure tBound where
 Name:Str
 Vars:(List tVar)
 Hyp:tPred
 Goal:tPred
def qgj (x:tBound):List PVal:=[.str x.Name,sl qaI x.Vars] ++ (qaa x.Hyp ++ (qaa x.Goal))
theorem qHX (x:tBound):qgj x = [.str x.Name,sl qaI x.Vars,.int .i64 x.Hyp.Op,.str x.Hyp.Name,.int .i64 x.Hyp.N,sl qaa x.Hyp.Kids,.int .i64 x.Goal.Op,.str x.Goal.Name,.int .i64 x.Goal.N,sl qaa x.Goal.Kids]:=by
 unfold qgj
 simp only [qao,vaP,vaI]
theorem qCq (x:tBound):clL 0 (qgj x):=by rw [qHX]; exact (aI trivial (aI (qad qbx x.Vars) (aI trivial (aI trivial (aI trivial (aI (qad qab x.Hyp.Kids) (aI trivial (aI trivial (aI trivial (aI (qad qab x.Goal.Kids) trivial))))))))))
inductive tType where
 | mk (Op:Int) (Name:Str) (Args:(List tType)) (Names:(List Str)) (Pred:tPred) (Preds:(List tPred))
def tType.Op:tType→Int
 | ⟨x,_,_,_,_,_⟩ => x
def tType.Name:tType→Str
 | ⟨_,x,_,_,_,_⟩ => x
def tType.Args:tType→(List tType)
 | ⟨_,_,x,_,_,_⟩ => x
def tType.Names:tType→(List Str)
 | ⟨_,_,_,x,_,_⟩ => x
def tType.Pred:tType→tPred
 | ⟨_,_,_,_,x,_⟩ => x
def tType.Preds:tType→(List tPred)
 | ⟨_,_,_,_,_,x⟩ => x
mutual
def qac:tType→List PVal
 | ⟨x0,x1,x2,x3,x4,x5⟩ => [.int .i64 x0,.str x1,.slice (qpu x2),sl cS x3] ++ (qaa x4 ++ ([sl qaa x5]))
def qpu:List tType→List (List PVal)
 | [] => []
 | x :: r => qac x :: qpu r
end
theorem qzT:∀ (l:List tType),qpu l = l.map qac
 | [] => by simp [qpu]
 | x :: r => by simp [qpu,qzT r]
mutual
theorem qaf:∀ (x:tType),clL 0 (qac x)
 | ⟨x0,x1,x2,x3,x4,x5⟩ => by rw [qac]; exact qp7.2 (aI ((aI trivial (aI trivial (aI (qDw x2) (aI (qad clS x3) trivial))))) (qp7.2 (aI (qab x4) ((aI (qad qab x5) trivial)))))
theorem qDw:∀ (l:List tType),clLL 0 (qpu l)
 | [] => by simp [qpu,clLL]
 | x :: r => by rw [qpu]; exact ⟨qaf x,qDw r⟩
end
theorem qaK:∀ (x:tType),qac x = [.int .i64 x.Op,.str x.Name,sl qac x.Args,sl cS x.Names,.int .i64 x.Pred.Op,.str x.Pred.Name,.int .i64 x.Pred.N,sl qaa x.Pred.Kids,sl qaa x.Preds]
 | ⟨x0,x1,x2,x3,x4,x5⟩ => by
  simp only [qac,qzT,qao,vaP,vaI]
  rfl
abbrev qiq (x:tType):PVal := .agg (qac x)
theorem qtg (x:tType):(qac x).length = 9:=by rw [qaK]; rfl
theorem qbj (x:tType):qaY (.agg (qac x)) = some (qac x):=rfl
theorem qdE (x:tType):qaY (qiq x) = some (qac x):=rfl
theorem qbI (x:tType):qaY (.agg (qac x)) = some [.int .i64 x.Op,.str x.Name,sl qac x.Args,sl cS x.Names,.int .i64 x.Pred.Op,.str x.Pred.Name,.int .i64 x.Pred.N,sl qaa x.Pred.Kids,sl qaa x.Preds]:=by rw [qaK]; rfl
theorem qG0 (x:tType):∀ q ∈ qac x,q.one = true:=by
 intro q hq
 rw [qaK] at hq
 simp only [vaC,vbf,or_false] at hq
 rcases hq with rfl | rfl | rfl | rfl | rfl | rfl | rfl | rfl | rfl <;> rfl
theorem co33:Pg.cellsOf 33 = 9:=by kernel_rfl
theorem qaN (x:tType):qbv Pg 33 (qac x) = some (.agg (qac x)):=by
 have:=qhu (P:=Pg) (t:=33) (l:=qac x) (r:=[]) (by kernel_rfl) (co33.trans (qtg x).symm)
 rwa [va4] at this
theorem qa3 (x:tType) (r:List PVal):qbv Pg 33 ([.int .i64 x.Op,.str x.Name,sl qac x.Args,sl cS x.Names,.int .i64 x.Pred.Op,.str x.Pred.Name,.int .i64 x.Pred.N,sl qaa x.Pred.Kids,sl qaa x.Preds] ++ r) = some (.agg (qac x)):=by
 rw [← qaK]; exact qhu (by kernel_rfl) (co33.trans (qtg x).symm)
theorem qcB (x:tType):PVal.agg [.int .i64 x.Op,.str x.Name,sl qac x.Args,sl cS x.Names,.int .i64 x.Pred.Op,.str x.Pred.Name,.int .i64 x.Pred.N,sl qaa x.Pred.Kids,sl qaa x.Preds] = .agg (qac x):=by rw [qaK]
theorem qnR (x0:Int) (x1:Str) (x3:(List Str)) (x4:tPred):qbO Pg 33 [(0,.int .i64 x0),(1,.str x1),(3,sl cS x3),(4,.agg (qaa x4))] = some (.agg (qac (⟨x0,x1,([]:List tType),x3,x4,([]:List tPred)⟩:tType))):=by
 simp only [qaK,qao]
 kernel_rfl
theorem qnP (x0:Int) (x1:Str) (x3:(List Str)) (x4:tPred):pnil Pg 33 [(0,.int .i64 x0),(1,.str x1),(3,sl cS x3),(4,.agg (qaa x4))] [(2,33),(8,31)]:=by
 simp only [qao]
 exact ⟨[.int .i64 x0,.str x1,.val nilV,sl cS x3,.int .i64 x4.Op,.str x4.Name,.int .i64 x4.N,sl qaa x4.Kids,.val nilV],by kernel_rfl,(aI rfl (aI rfl trivial))⟩
theorem qha (x0:Int) (x1:Str) (x3:(List Str)) (x4:tPred) (x5:(List tPred)):qbO Pg 33 [(0,.int .i64 x0),(1,.str x1),(3,sl cS x3),(4,.agg (qaa x4)),(5,sl qaa x5)] = some (.agg (qac (⟨x0,x1,([]:List tType),x3,x4,x5⟩:tType))):=by
 simp only [qaK,qao]
 kernel_rfl
theorem qhb (x0:Int) (x1:Str) (x3:(List Str)) (x4:tPred) (x5:(List tPred)):pnil Pg 33 [(0,.int .i64 x0),(1,.str x1),(3,sl cS x3),(4,.agg (qaa x4)),(5,sl qaa x5)] [(2,33)]:=by
 simp only [qao]
 exact ⟨[.int .i64 x0,.str x1,.val nilV,sl cS x3,.int .i64 x4.Op,.str x4.Name,.int .i64 x4.N,sl qaa x4.Kids,sl qaa x5],by kernel_rfl,(aI rfl trivial)⟩
theorem qqN (x0:Int) (x1:Str) (x5:(List tPred)):qbO Pg 33 [(0,.int .i64 x0),(1,.str x1),(5,sl qaa x5)] = some (.agg (qac (⟨x0,x1,([]:List tType),([]:List Str),(⟨0,([]:Str),0,([]:List tPred)⟩:tPred),x5⟩:tType))):=by
 simp only [qaK]
 kernel_rfl
theorem qq3 (x0:Int) (x1:Str) (x5:(List tPred)):pnil Pg 33 [(0,.int .i64 x0),(1,.str x1),(5,sl qaa x5)] [(2,33),(3,9),(7,31)]:=by
 exact ⟨[.int .i64 x0,.str x1,.val nilV,.val nilV,.int .i64 0,.str ([]:Str),.int .i64 0,.val nilV,sl qaa x5],by kernel_rfl,(aI rfl (aI rfl (aI rfl trivial)))⟩
theorem qqG (x0:Int) (x3:(List Str)) (x2:(List tType)):qbO Pg 33 [(0,.int .i64 x0),(3,sl cS x3),(2,sl qac x2)] = some (.agg (qac (⟨x0,([]:Str),x2,x3,(⟨0,([]:Str),0,([]:List tPred)⟩:tPred),([]:List tPred)⟩:tType))):=by
 simp only [qaK]
 kernel_rfl
theorem qqK (x0:Int) (x3:(List Str)) (x2:(List tType)):pnil Pg 33 [(0,.int .i64 x0),(3,sl cS x3),(2,sl qac x2)] [(7,31),(8,31)]:=by
 exact ⟨[.int .i64 x0,.str ([]:Str),sl qac x2,sl cS x3,.int .i64 0,.str ([]:Str),.int .i64 0,.val nilV,.val nilV],by kernel_rfl,(aI rfl (aI rfl trivial))⟩
theorem qBL (x0:Int) (x4:tPred):qbO Pg 33 [(0,.int .i64 x0),(4,.agg (qaa x4))] = some (.agg (qac (⟨x0,([]:Str),([]:List tType),([]:List Str),x4,([]:List tPred)⟩:tType))):=by
 simp only [qaK,qao]
 kernel_rfl
theorem qCt (x0:Int) (x4:tPred):pnil Pg 33 [(0,.int .i64 x0),(4,.agg (qaa x4))] [(2,33),(3,9),(8,31)]:=by
 simp only [qao]
 exact ⟨[.int .i64 x0,.str ([]:Str),.val nilV,.val nilV,.int .i64 x4.Op,.str x4.Name,.int .i64 x4.N,sl qaa x4.Kids,.val nilV],by kernel_rfl,(aI rfl (aI rfl (aI rfl trivial)))⟩
theorem qpd (x0:Int) (x1:Str) (b3 n3:Nat) (x4:tPred) (x5:(List tPred)):qbO Pg 33 [(0,.int .i64 x0),(1,.str x1),(3,.bsl b3 0 n3),(4,.agg (qaa x4)),(5,sl qaa x5)] = some (.agg [.int .i64 x0,.str x1,sl qac ([]:List tType),.bsl b3 0 n3,.int .i64 x4.Op,.str x4.Name,.int .i64 x4.N,sl qaa x4.Kids,sl qaa x5]):=by
 simp only [qao]
 kernel_rfl
theorem qo7 (x0:Int) (x1:Str) (b3 n3:Nat) (x4:tPred) (x5:(List tPred)):pnil Pg 33 [(0,.int .i64 x0),(1,.str x1),(3,.bsl b3 0 n3),(4,.agg (qaa x4)),(5,sl qaa x5)] [(2,33)]:=by
 simp only [qao]
 exact ⟨[.int .i64 x0,.str x1,.val nilV,.bsl b3 0 n3,.int .i64 x4.Op,.str x4.Name,.int .i64 x4.N,sl qaa x4.Kids,sl qaa x5],by kernel_rfl,(aI rfl trivial)⟩
theorem qmZ (x0:Int) (x1:Str) (b3 n3:Nat) (x4:tPred) (x5:(List tPred)) (x2:(List tType)):qbO Pg 33 [(0,.int .i64 x0),(1,.str x1),(3,.bsl b3 0 n3),(4,.agg (qaa x4)),(5,sl qaa x5),(2,sl qac x2)] = some (.agg [.int .i64 x0,.str x1,sl qac x2,.bsl b3 0 n3,.int .i64 x4.Op,.str x4.Name,.int .i64 x4.N,sl qaa x4.Kids,sl qaa x5]):=by
 simp only [qao]
 kernel_rfl
theorem qam (x:tType):qa1 Pg 33 (.eptr (qac x)) 0 = some (.eptr ((qac x).drop 0)):=by rw [qaK]; kernel_rfl
theorem qbs (x:tType):qa1 Pg 33 (.eptr (qac x)) 1 = some (.eptr ((qac x).drop 1)):=by rw [qaK]; kernel_rfl
theorem qaq (x:tType):qa1 Pg 33 (.eptr (qac x)) 2 = some (.eptr ((qac x).drop 2)):=by rw [qaK]; kernel_rfl
theorem qaz (x:tType):qa1 Pg 33 (.eptr (qac x)) 3 = some (.eptr ((qac x).drop 3)):=by rw [qaK]; kernel_rfl
theorem qbg (x:tType):qa1 Pg 33 (.eptr (qac x)) 4 = some (.eptr ((qac x).drop 4)):=by rw [qaK]; kernel_rfl
theorem qaQ (x:tType):qa1 Pg 33 (.eptr (qac x)) 5 = some (.eptr ((qac x).drop 8)):=by rw [qaK]; kernel_rfl
theorem qal (x:tType):qbv Pg 26 ((qac x).drop 0) = some (.int .i64 x.Op):=by rw [qaK]; kernel_rfl
theorem qbC (x:tType):qbv Pg 9 ((qac x).drop 1) = some (.str x.Name):=by rw [qaK]; kernel_rfl
theorem qap (x:tType):qbv Pg 27 ((qac x).drop 2) = some (sl qac x.Args):=by rw [qaK]; kernel_rfl
theorem qay (x:tType):qbv Pg 22 ((qac x).drop 3) = some (sl cS x.Names):=by rw [qaK]; kernel_rfl
theorem qba (x:tType):qbv Pg 31 ((qac x).drop 4) = some (.agg (qaa x.Pred)):=by
 rw [qaK,qao]; kernel_rfl
theorem qaP (x:tType):qbv Pg 29 ((qac x).drop 8) = some (sl qaa x.Preds):=by rw [qaK]; kernel_rfl
theorem qHm (x:tType) (r:List PVal):qbv Pg 33 (qac x ++ r) = some (.agg (qac x)):=qhu (by kernel_rfl) (co33.trans (qtg x).symm)
structure tSig where
 Vars:(List Str)
 Needs:(List tNeed)
 Abs:(List tAbs)
 Bounds:(List tBound)
 Type_:tType
 Metric:(List tPred)
def qj4 (x:tSig):List PVal:=[sl cS x.Vars,sl qjm x.Needs,sl qaC x.Abs,sl qgj x.Bounds] ++ (qac x.Type_ ++ ([sl qaa x.Metric]))
theorem qnh (x:tSig):qj4 x = [sl cS x.Vars,sl qjm x.Needs,sl qaC x.Abs,sl qgj x.Bounds,.int .i64 x.Type_.Op,.str x.Type_.Name,sl qac x.Type_.Args,sl cS x.Type_.Names,.int .i64 x.Type_.Pred.Op,.str x.Type_.Pred.Name,.int .i64 x.Type_.Pred.N,sl qaa x.Type_.Pred.Kids,sl qaa x.Type_.Preds,sl qaa x.Metric]:=by
 unfold qj4
 simp only [qaK,vaP,vaI]
theorem qLs (x:tSig):clL 0 (qj4 x):=by rw [qnh]; exact (aI (qad clS x.Vars) (aI (qad qBp x.Needs) (aI (qad qbA x.Abs) (aI (qad qCq x.Bounds) (aI trivial (aI trivial (aI (qad qaf x.Type_.Args) (aI (qad clS x.Type_.Names) (aI trivial (aI trivial (aI trivial (aI (qad qab x.Type_.Pred.Kids) (aI (qad qab x.Type_.Preds) (aI (qad qab x.Metric) trivial))))))))))))))
theorem qJY (x:tSig):(qj4 x).length = 14:=by rw [qnh]; rfl
theorem qLP (x:tSig):qaY (.agg (qj4 x)) = some (qj4 x):=rfl
theorem qJ3 (x:tSig):qaY (.agg (qj4 x)) = some [sl cS x.Vars,sl qjm x.Needs,sl qaC x.Abs,sl qgj x.Bounds,.int .i64 x.Type_.Op,.str x.Type_.Name,sl qac x.Type_.Args,sl cS x.Type_.Names,.int .i64 x.Type_.Pred.Op,.str x.Type_.Pred.Name,.int .i64 x.Type_.Pred.N,sl qaa x.Type_.Pred.Kids,sl qaa x.Type_.Preds,sl qaa x.Metric]:=by rw [qnh]; rfl
theorem co35:Pg.cellsOf 35 = 14:=by kernel_rfl
theorem qJ0 (x:tSig) (r:List PVal):qbv Pg 35 ([sl cS x.Vars,sl qjm x.Needs,sl qaC x.Abs,sl qgj x.Bounds,.int .i64 x.Type_.Op,.str x.Type_.Name,sl qac x.Type_.Args,sl cS x.Type_.Names,.int .i64 x.Type_.Pred.Op,.str x.Type_.Pred.Name,.int .i64 x.Type_.Pred.N,sl qaa x.Type_.Pred.Kids,sl qaa x.Type_.Preds,sl qaa x.Metric] ++ r) = some (.agg (qj4 x)):=by
 rw [← qnh]; exact qhu (by kernel_rfl) (co35.trans (qJY x).symm)
theorem qDV (x2:(List tAbs)) (x4:tType):qbO Pg 35 [(2,sl qaC x2),(4,.agg (qac x4))] = some (.agg (qj4 (⟨([]:List Str),([]:List tNeed),x2,([]:List tBound),x4,([]:List tPred)⟩:tSig))):=by
 simp only [qnh,qaK]
 kernel_rfl
theorem qEF (x2:(List tAbs)) (x4:tType):pnil Pg 35 [(2,sl qaC x2),(4,.agg (qac x4))] [(0,9),(1,226),(3,228),(13,31)]:=by
 simp only [qaK]
 exact ⟨[.val nilV,.val nilV,sl qaC x2,.val nilV,.int .i64 x4.Op,.str x4.Name,sl qac x4.Args,sl cS x4.Names,.int .i64 x4.Pred.Op,.str x4.Pred.Name,.int .i64 x4.Pred.N,sl qaa x4.Pred.Kids,sl qaa x4.Preds,.val nilV],by kernel_rfl,(aI rfl (aI rfl (aI rfl (aI rfl trivial))))⟩
theorem qIY (x2:(List tAbs)):qbO Pg 35 [(2,sl qaC x2)] = some (.agg (qj4 (⟨([]:List Str),([]:List tNeed),x2,([]:List tBound),(⟨0,([]:Str),([]:List tType),([]:List Str),(⟨0,([]:Str),0,([]:List tPred)⟩:tPred),([]:List tPred)⟩:tType),([]:List tPred)⟩:tSig))):=by
 simp only [qnh]
 kernel_rfl
theorem qIz (x2:(List tAbs)):pnil Pg 35 [(2,sl qaC x2)] [(0,9),(1,226),(3,228),(6,33),(7,9),(11,31),(12,31),(13,31)]:=by
 exact ⟨[.val nilV,.val nilV,sl qaC x2,.val nilV,.int .i64 0,.str ([]:Str),.val nilV,.val nilV,.int .i64 0,.str ([]:Str),.int .i64 0,.val nilV,.val nilV,.val nilV],by kernel_rfl,(aI rfl (aI rfl (aI rfl (aI rfl (aI rfl (aI rfl (aI rfl (aI rfl trivial))))))))⟩
theorem qBK (x:tSig):qa1 Pg 35 (.eptr (qj4 x)) 2 = some (.eptr ((qj4 x).drop 2)):=by rw [qnh]; kernel_rfl
theorem qBZ (x:tSig):qbv Pg 24 ((qj4 x).drop 2) = some (sl qaC x.Abs):=by rw [qnh]; kernel_rfl
structure tHole where
 Name:Str
 Params:(List tVar)
deriving DecidableEq
def qas (x:tHole):List PVal:=[.str x.Name,sl qaI x.Params]
theorem qpy (x:tHole):qas x = [.str x.Name,sl qaI x.Params]:=rfl
theorem qa4 (x:tHole):clL 0 (qas x):=(aI trivial (aI (qad qbx x.Params) trivial))
abbrev qIE (x:tHole):PVal := .agg (qas x)
theorem qyg (x:tHole):(qas x).length = 2:=by rw [qpy]; rfl
theorem qJf (x:tHole):qaY (.agg (qas x)) = some (qas x):=rfl
theorem qI5 (x:tHole):qaY (qIE x) = some (qas x):=rfl
theorem qpr (x:tHole):qaY (.agg (qas x)) = some [.str x.Name,sl qaI x.Params]:=by rw [qpy]; rfl
theorem qIB (x:tHole):∀ q ∈ qas x,q.one = true:=by
 intro q hq
 rw [qpy] at hq
 simp only [vaC,vbf,or_false] at hq
 rcases hq with rfl | rfl <;> rfl
theorem co82:Pg.cellsOf 82 = 2:=by kernel_rfl
theorem qFH (x:tHole):qbv Pg 82 (qas x) = some (.agg (qas x)):=by
 have:=qhu (P:=Pg) (t:=82) (l:=qas x) (r:=[]) (by kernel_rfl) (co82.trans (qyg x).symm)
 rwa [va4] at this
theorem qC0 (x:tHole) (r:List PVal):qbv Pg 82 ([.str x.Name,sl qaI x.Params] ++ r) = some (.agg (qas x)):=by
 rw [← qpy]; exact qhu (by kernel_rfl) (co82.trans (qyg x).symm)
theorem qxv (x:tHole):PVal.agg [.str x.Name,sl qaI x.Params] = .agg (qas x):=by rw [qpy]
theorem qGv:qbO Pg 82 [] = some (.agg (qas (⟨([]:Str),([]:List tVar)⟩:tHole))):=by
 kernel_rfl
theorem qGw:pnil Pg 82 [] [(1,88)]:=by
 exact ⟨[.str ([]:Str),.val nilV],by kernel_rfl,(aI rfl trivial)⟩
theorem qCA (x0:Str) (x1:(List tVar)):qbO Pg 82 [(0,.str x0),(1,sl qaI x1)] = some (.agg (qas (⟨x0,x1⟩:tHole))):=by
 kernel_rfl
theorem qtF (x:tHole):qa1 Pg 82 (.eptr (qas x)) 0 = some (.eptr ((qas x).drop 0)):=by kernel_rfl
theorem qjQ (x:tHole):qa1 Pg 82 (.eptr (qas x)) 1 = some (.eptr ((qas x).drop 1)):=by kernel_rfl
theorem qvo (x:tHole):qbv Pg 9 ((qas x).drop 0) = some (.str x.Name):=by kernel_rfl
theorem qjG (x:tHole):qbv Pg 36 ((qas x).drop 1) = some (sl qaI x.Params):=by kernel_rfl
structure tCon where
 Name:Str
 Names:(List Str)
 Fields:(List tType)
def qcp (x:tCon):List PVal:=[.str x.Name,sl cS x.Names,sl qac x.Fields]
theorem qD1 (x:tCon):qcp x = [.str x.Name,sl cS x.Names,sl qac x.Fields]:=rfl
theorem qm6 (x:tCon):clL 0 (qcp x):=(aI trivial (aI (qad clS x.Names) (aI (qad qaf x.Fields) trivial)))
abbrev qKn (x:tCon):PVal := .agg (qcp x)
theorem qFG (x:tCon):(qcp x).length = 3:=by rw [qD1]; rfl
theorem qJw (x:tCon):qaY (qKn x) = some (qcp x):=rfl
theorem qJa (x:tCon):qaY (.agg (qcp x)) = some [.str x.Name,sl cS x.Names,sl qac x.Fields]:=by rw [qD1]; rfl
theorem qJQ (x:tCon):∀ q ∈ qcp x,q.one = true:=by
 intro q hq
 rw [qD1] at hq
 simp only [vaC,vbf,or_false] at hq
 rcases hq with rfl | rfl | rfl <;> rfl
theorem co63:Pg.cellsOf 63 = 3:=by kernel_rfl
theorem qLq (x:tCon):qbv Pg 63 (qcp x) = some (.agg (qcp x)):=by
 have:=qhu (P:=Pg) (t:=63) (l:=qcp x) (r:=[]) (by kernel_rfl) (co63.trans (qFG x).symm)
 rwa [va4] at this
theorem qBh (x0:Str) (x1:(List Str)) (x2:(List tType)):qbO Pg 63 [(0,.str x0),(1,sl cS x1),(2,sl qac x2)] = some (.agg (qcp (⟨x0,x1,x2⟩:tCon))):=by
 kernel_rfl
theorem qG2 (x0:Str):qbO Pg 63 [(0,.str x0)] = some (.agg (qcp (⟨x0,([]:List Str),([]:List tType)⟩:tCon))):=by
 kernel_rfl
theorem qGT (x0:Str):pnil Pg 63 [(0,.str x0)] [(1,9),(2,33)]:=by
 exact ⟨[.str x0,.val nilV,.val nilV],by kernel_rfl,(aI rfl (aI rfl trivial))⟩
theorem qB2 (x:tCon):qa1 Pg 63 (.eptr (qcp x)) 2 = some (.eptr ((qcp x).drop 2)):=by kernel_rfl
theorem qCB (x:tCon):qbv Pg 27 ((qcp x).drop 2) = some (sl qac x.Fields):=by kernel_rfl
structure tData where
 Name:Str
 Vars:(List Str)
 Preds:(List tVar)
 Cons:(List tCon)
def qaV (x:tData):List PVal:=[.str x.Name,sl cS x.Vars,sl qaI x.Preds,sl qcp x.Cons]
theorem qnI (x:tData):qaV x = [.str x.Name,sl cS x.Vars,sl qaI x.Preds,sl qcp x.Cons]:=rfl
theorem qdm (x:tData):clL 0 (qaV x):=(aI trivial (aI (qad clS x.Vars) (aI (qad qbx x.Preds) (aI (qad qm6 x.Cons) trivial))))
abbrev qHh (x:tData):PVal := .agg (qaV x)
theorem qtp (x:tData):(qaV x).length = 4:=by rw [qnI]; rfl
theorem qHW (x:tData):qaY (qHh x) = some (qaV x):=rfl
theorem qtG (x:tData):qaY (.agg (qaV x)) = some [.str x.Name,sl cS x.Vars,sl qaI x.Preds,sl qcp x.Cons]:=by rw [qnI]; rfl
theorem qIN (x:tData):∀ q ∈ qaV x,q.one = true:=by
 intro q hq
 rw [qnI] at hq
 simp only [vaC,vbf,or_false] at hq
 rcases hq with rfl | rfl | rfl | rfl <;> rfl
theorem co61:Pg.cellsOf 61 = 4:=by kernel_rfl
theorem qE8 (x:tData):qbv Pg 61 (qaV x) = some (.agg (qaV x)):=by
 have:=qhu (P:=Pg) (t:=61) (l:=qaV x) (r:=[]) (by kernel_rfl) (co61.trans (qtp x).symm)
 rwa [va4] at this
theorem qHk (x:tData) (r:List PVal):qbv Pg 61 ([.str x.Name,sl cS x.Vars,sl qaI x.Preds,sl qcp x.Cons] ++ r) = some (.agg (qaV x)):=by
 rw [← qnI]; exact qhu (by kernel_rfl) (co61.trans (qtp x).symm)
theorem qBU (x:tData):PVal.agg [.str x.Name,sl cS x.Vars,sl qaI x.Preds,sl qcp x.Cons] = .agg (qaV x):=by rw [qnI]
theorem qGu:qbO Pg 61 [] = some (.agg (qaV (⟨([]:Str),([]:List Str),([]:List tVar),([]:List tCon)⟩:tData))):=by
 kernel_rfl
theorem qGI:pnil Pg 61 [] [(1,9),(2,88),(3,63)]:=by
 exact ⟨[.str ([]:Str),.val nilV,.val nilV,.val nilV],by kernel_rfl,(aI rfl (aI rfl (aI rfl trivial)))⟩
theorem qzh (x0:Str) (x2:(List tVar)) (x3:(List tCon)):qbO Pg 61 [(0,.str x0),(2,sl qaI x2),(3,sl qcp x3)] = some (.agg (qaV (⟨x0,([]:List Str),x2,x3⟩:tData))):=by
 kernel_rfl
theorem qzf (x0:Str) (x2:(List tVar)) (x3:(List tCon)):pnil Pg 61 [(0,.str x0),(2,sl qaI x2),(3,sl qcp x3)] [(1,9)]:=by
 exact ⟨[.str x0,.val nilV,sl qaI x2,sl qcp x3],by kernel_rfl,(aI rfl trivial)⟩
theorem qz7 (x:tData):qa1 Pg 61 (.eptr (qaV x)) 2 = some (.eptr ((qaV x).drop 2)):=by kernel_rfl
theorem qBD (x:tData):qa1 Pg 61 (.eptr (qaV x)) 3 = some (.eptr ((qaV x).drop 3)):=by kernel_rfl
theorem qBF (x:tData):qbv Pg 36 ((qaV x).drop 2) = some (sl qaI x.Preds):=by kernel_rfl
theorem qAA (x:tData):qbv Pg 59 ((qaV x).drop 3) = some (sl qcp x.Cons):=by kernel_rfl
structure tMethod where
 Name:Str
 Type_:tType
def qs1 (x:tMethod):List PVal:=[.str x.Name] ++ (qac x.Type_)
theorem qF0 (x:tMethod):qs1 x = [.str x.Name,.int .i64 x.Type_.Op,.str x.Type_.Name,sl qac x.Type_.Args,sl cS x.Type_.Names,.int .i64 x.Type_.Pred.Op,.str x.Type_.Pred.Name,.int .i64 x.Type_.Pred.N,sl qaa x.Type_.Pred.Kids,sl qaa x.Type_.Preds]:=by
 unfold qs1
 simp only [qaK,vaP,vaI]
theorem qF7 (x:tMethod):clL 0 (qs1 x):=by rw [qF0]; exact (aI trivial (aI trivial (aI trivial (aI (qad qaf x.Type_.Args) (aI (qad clS x.Type_.Names) (aI trivial (aI trivial (aI trivial (aI (qad qab x.Type_.Pred.Kids) (aI (qad qab x.Type_.Preds) trivial))))))))))
structure tClass where
 Name:Str
 Var:Str
 Methods:(List tMethod)
def qpR (x:tClass):List PVal:=[.str x.Name,.str x.Var,sl qs1 x.Methods]
theorem qHl (x:tClass):clL 0 (qpR x):=(aI trivial (aI trivial (aI (qad qF7 x.Methods) trivial)))
structure tParam where
 Name:Str
 Type_:tType
def qpV (x:tParam):List PVal:=[.str x.Name] ++ (qac x.Type_)
theorem qHS (x:tParam):qpV x = [.str x.Name,.int .i64 x.Type_.Op,.str x.Type_.Name,sl qac x.Type_.Args,sl cS x.Type_.Names,.int .i64 x.Type_.Pred.Op,.str x.Type_.Pred.Name,.int .i64 x.Type_.Pred.N,sl qaa x.Type_.Pred.Kids,sl qaa x.Type_.Preds]:=by
 unfold qpV
 simp only [qaK,vaP,vaI]
theorem qBP (x:tParam):clL 0 (qpV x):=by rw [qHS]; exact (aI trivial (aI trivial (aI trivial (aI (qad qaf x.Type_.Args) (aI (qad clS x.Type_.Names) (aI trivial (aI trivial (aI trivial (aI (qad qab x.Type_.Pred.Kids) (aI (qad qab x.Type_.Preds) trivial))))))))))
mutual
inductive tExpr where
 | mk (Op:Int) (Name:Str) (N:Int) (Kids:(List tExpr)) (Params:(List tParam)) (Alts:(List tAlt)) (Types:(List tType))
inductive tAlt where
 | mk (Con:Str) (Names:(List Str)) (Body:tExpr)
end
def tExpr.Op:tExpr→Int
 | ⟨x,_,_,_,_,_,_⟩ => x
def tExpr.Name:tExpr→Str
 | ⟨_,x,_,_,_,_,_⟩ => x
def tExpr.N:tExpr→Int
 | ⟨_,_,x,_,_,_,_⟩ => x
def tExpr.Kids:tExpr→(List tExpr)
 | ⟨_,_,_,x,_,_,_⟩ => x
def tExpr.Params:tExpr→(List tParam)
 | ⟨_,_,_,_,x,_,_⟩ => x
def tExpr.Alts:tExpr→(List tAlt)
 | ⟨_,_,_,_,_,x,_⟩ => x
def tExpr.Types:tExpr→(List tType)
 | ⟨_,_,_,_,_,_,x⟩ => x
mutual
def qlT:tExpr→List PVal
 | ⟨x0,x1,x2,x3,x4,x5,x6⟩ => [.int .i64 x0,.str x1,.int .i64 x2,.slice (qpj x3),sl qpV x4,.slice (qvw x5),sl qac x6]
def qzq:tAlt→List PVal
 | ⟨x0,x1,x2⟩ => [.str x0,sl cS x1] ++ (qlT x2)
def qpj:List tExpr→List (List PVal)
 | [] => []
 | x :: r => qlT x :: qpj r
def qvw:List tAlt→List (List PVal)
 | [] => []
 | x :: r => qzq x :: qvw r
end
theorem qzk:∀ (l:List tExpr),qpj l = l.map qlT
 | [] => by simp [qpj]
 | x :: r => by simp [qpj,qzk r]
theorem qBY:∀ (l:List tAlt),qvw l = l.map qzq
 | [] => by simp [qvw]
 | x :: r => by simp [qvw,qBY r]
mutual
theorem qA3:∀ (x:tExpr),clL 0 (qlT x)
 | ⟨x0,x1,x2,x3,x4,x5,x6⟩ => by rw [qlT]; exact (aI trivial (aI trivial (aI trivial (aI (qBX x3) (aI (qad qBP x4) (aI (qFD x5) (aI (qad qaf x6) trivial)))))))
theorem qHP:∀ (x:tAlt),clL 0 (qzq x)
 | ⟨x0,x1,x2⟩ => by rw [qzq]; exact qp7.2 (aI ((aI trivial (aI (qad clS x1) trivial))) (qA3 x2))
theorem qBX:∀ (l:List tExpr),clLL 0 (qpj l)
 | [] => by simp [qpj,clLL]
 | x :: r => by rw [qpj]; exact ⟨qA3 x,qBX r⟩
theorem qFD:∀ (l:List tAlt),clLL 0 (qvw l)
 | [] => by simp [qvw,clLL]
 | x :: r => by rw [qvw]; exact ⟨qHP x,qFD r⟩
end
theorem qKf:∀ (x:tExpr),qlT x = [.int .i64 x.Op,.str x.Name,.int .i64 x.N,sl qlT x.Kids,sl qpV x.Params,sl qzq x.Alts,sl qac x.Types]
 | ⟨x0,x1,x2,x3,x4,x5,x6⟩ => by
  simp only [qlT,qzk,qBY]
  rfl
structure tDef where
 Name:Str
 Params:(List Str)
 Body:tExpr
 Mode:Int
 Typed:Bool
 Sig:tSig
def qqO (x:tDef):List PVal:=[.str x.Name,sl cS x.Params] ++ (qlT x.Body ++ ([.int .i64 x.Mode,.bool x.Typed] ++ (qj4 x.Sig)))
theorem qLK (x:tDef):qqO x = [.str x.Name,sl cS x.Params,.int .i64 x.Body.Op,.str x.Body.Name,.int .i64 x.Body.N,sl qlT x.Body.Kids,sl qpV x.Body.Params,sl qzq x.Body.Alts,sl qac x.Body.Types,.int .i64 x.Mode,.bool x.Typed,sl cS x.Sig.Vars,sl qjm x.Sig.Needs,sl qaC x.Sig.Abs,sl qgj x.Sig.Bounds,.int .i64 x.Sig.Type_.Op,.str x.Sig.Type_.Name,sl qac x.Sig.Type_.Args,sl cS x.Sig.Type_.Names,.int .i64 x.Sig.Type_.Pred.Op,.str x.Sig.Type_.Pred.Name,.int .i64 x.Sig.Type_.Pred.N,sl qaa x.Sig.Type_.Pred.Kids,sl qaa x.Sig.Type_.Preds,sl qaa x.Sig.Metric]:=by
 unfold qqO
 simp only [qKf,qnh,vaP,vaI]
theorem qI3 (x:tDef):clL 0 (qqO x):=by rw [qLK]; exact (aI trivial (aI (qad clS x.Params) (aI trivial (aI trivial (aI trivial (aI (qad qA3 x.Body.Kids) (aI (qad qBP x.Body.Params) (aI (qad qHP x.Body.Alts) (aI (qad qaf x.Body.Types) (aI trivial (aI trivial (aI (qad clS x.Sig.Vars) (aI (qad qBp x.Sig.Needs) (aI (qad qbA x.Sig.Abs) (aI (qad qCq x.Sig.Bounds) (aI trivial (aI trivial (aI (qad qaf x.Sig.Type_.Args) (aI (qad clS x.Sig.Type_.Names) (aI trivial (aI trivial (aI trivial (aI (qad qab x.Sig.Type_.Pred.Kids) (aI (qad qab x.Sig.Type_.Preds) (aI (qad qab x.Sig.Metric) trivial)))))))))))))))))))))))))
structure tInstance where
 Class:Str
 Type_:tType
 Needs:(List tNeed)
 Defs:(List tDef)
def qe0 (x:tInstance):List PVal:=[.str x.Class] ++ (qac x.Type_ ++ ([sl qjm x.Needs,sl qqO x.Defs]))
theorem qDc (x:tInstance):qe0 x = [.str x.Class,.int .i64 x.Type_.Op,.str x.Type_.Name,sl qac x.Type_.Args,sl cS x.Type_.Names,.int .i64 x.Type_.Pred.Op,.str x.Type_.Pred.Name,.int .i64 x.Type_.Pred.N,sl qaa x.Type_.Pred.Kids,sl qaa x.Type_.Preds,sl qjm x.Needs,sl qqO x.Defs]:=by
 unfold qe0
 simp only [qaK,vaP,vaI]
theorem qDa (x:tInstance):clL 0 (qe0 x):=by rw [qDc]; exact (aI trivial (aI trivial (aI trivial (aI (qad qaf x.Type_.Args) (aI (qad clS x.Type_.Names) (aI trivial (aI trivial (aI trivial (aI (qad qab x.Type_.Pred.Kids) (aI (qad qab x.Type_.Preds) (aI (qad qBp x.Needs) (aI (qad qI3 x.Defs) trivial))))))))))))
structure tCase where
 Con:Str
 Names:(List Str)
 Body:tPred
def qw4 (x:tCase):List PVal:=[.str x.Con,sl cS x.Names] ++ (qaa x.Body)
theorem qJb (x:tCase):qw4 x = [.str x.Con,sl cS x.Names,.int .i64 x.Body.Op,.str x.Body.Name,.int .i64 x.Body.N,sl qaa x.Body.Kids]:=by
 unfold qw4
 simp only [qao,vaP,vaI]
theorem qJt (x:tCase):clL 0 (qw4 x):=by rw [qJb]; exact (aI trivial (aI (qad clS x.Names) (aI trivial (aI trivial (aI trivial (aI (qad qab x.Body.Kids) trivial))))))
structure tMeasure where
 Name:Str
 Data:Str
 Result:Str
 Cases:(List tCase)
 Inv:tPred
def qgE (x:tMeasure):List PVal:=[.str x.Name,.str x.Data,.str x.Result,sl qw4 x.Cases] ++ (qaa x.Inv)
theorem qEn (x:tMeasure):qgE x = [.str x.Name,.str x.Data,.str x.Result,sl qw4 x.Cases,.int .i64 x.Inv.Op,.str x.Inv.Name,.int .i64 x.Inv.N,sl qaa x.Inv.Kids]:=by
 unfold qgE
 simp only [qao,vaP,vaI]
theorem qEM (x:tMeasure):clL 0 (qgE x):=by rw [qEn]; exact (aI trivial (aI trivial (aI trivial (aI (qad qJt x.Cases) (aI trivial (aI trivial (aI trivial (aI (qad qab x.Inv.Kids) trivial))))))))
structure tQual where
 Name:Str
 Vars:(List tVar)
 Body:tPred
def qoq (x:tQual):List PVal:=[.str x.Name,sl qaI x.Vars] ++ (qaa x.Body)
theorem qJk (x:tQual):qoq x = [.str x.Name,sl qaI x.Vars,.int .i64 x.Body.Op,.str x.Body.Name,.int .i64 x.Body.N,sl qaa x.Body.Kids]:=by
 unfold qoq
 simp only [qao,vaP,vaI]
theorem qJm (x:tQual):clL 0 (qoq x):=by rw [qJk]; exact (aI trivial (aI (qad qbx x.Vars) (aI trivial (aI trivial (aI trivial (aI (qad qab x.Body.Kids) trivial))))))
structure tModule where
 Datas:(List tData)
 Classes:(List tClass)
 Instances:(List tInstance)
 Measures:(List tMeasure)
 Quals:(List tQual)
 Defs:(List tDef)
def qcE (x:tModule):List PVal:=[sl qaV x.Datas,sl qpR x.Classes,sl qe0 x.Instances,sl qgE x.Measures,sl qoq x.Quals,sl qqO x.Defs]
theorem quG (x:tModule):qcE x = [sl qaV x.Datas,sl qpR x.Classes,sl qe0 x.Instances,sl qgE x.Measures,sl qoq x.Quals,sl qqO x.Defs]:=rfl
theorem qme (x:tModule):clL 0 (qcE x):=(aI (qad qdm x.Datas) (aI (qad qHl x.Classes) (aI (qad qDa x.Instances) (aI (qad qEM x.Measures) (aI (qad qJm x.Quals) (aI (qad qI3 x.Defs) trivial))))))
theorem qD6 (x:tModule):(qcE x).length = 6:=by rw [quG]; rfl
theorem quW (x:tModule):qaY (.agg (qcE x)) = some (qcE x):=rfl
theorem qEx (x:tModule):qaY (.agg (qcE x)) = some [sl qaV x.Datas,sl qpR x.Classes,sl qe0 x.Instances,sl qgE x.Measures,sl qoq x.Quals,sl qqO x.Defs]:=by rw [quG]; rfl
theorem co57:Pg.cellsOf 57 = 6:=by kernel_rfl
theorem qGa (x:tModule):qbv Pg 57 (qcE x) = some (.agg (qcE x)):=by
 have:=qhu (P:=Pg) (t:=57) (l:=qcE x) (r:=[]) (by kernel_rfl) (co57.trans (qD6 x).symm)
 rwa [va4] at this
theorem qEw (x:tModule):PVal.agg [sl qaV x.Datas,sl qpR x.Classes,sl qe0 x.Instances,sl qgE x.Measures,sl qoq x.Quals,sl qqO x.Defs] = .agg (qcE x):=by rw [quG]
theorem qCz (x0:(List tData)):qbO Pg 57 [(0,sl qaV x0)] = some (.agg (qcE (⟨x0,([]:List tClass),([]:List tInstance),([]:List tMeasure),([]:List tQual),([]:List tDef)⟩:tModule))):=by
 kernel_rfl
theorem qBN (x0:(List tData)):pnil Pg 57 [(0,sl qaV x0)] [(1,231),(2,233),(3,236),(4,238),(5,247)]:=by
 exact ⟨[sl qaV x0,.val nilV,.val nilV,.val nilV,.val nilV,.val nilV],by kernel_rfl,(aI rfl (aI rfl (aI rfl (aI rfl (aI rfl trivial)))))⟩
theorem qoH (x:tModule):qa1 Pg 57 (.eptr (qcE x)) 0 = some (.eptr ((qcE x).drop 0)):=by kernel_rfl
theorem qoY (x:tModule):qbv Pg 50 ((qcE x).drop 0) = some (sl qaV x.Datas):=by kernel_rfl
structure reftype_substitution where
 names:(List Str)
 by_:(List tPred)
def qah (x:reftype_substitution):List PVal:=[sl cS x.names,sl qaa x.by_]
theorem qbf (x:reftype_substitution):qah x = [sl cS x.names,sl qaa x.by_]:=rfl
theorem qaF (x:reftype_substitution):clL 0 (qah x):=(aI (qad clS x.names) (aI (qad qab x.by_) trivial))
theorem qgG (x:reftype_substitution):(qah x).length = 2:=by rw [qbf]; rfl
theorem qbF (x:reftype_substitution):qaY (.agg (qah x)) = some (qah x):=rfl
theorem qcO (x:reftype_substitution):qaY (.agg (qah x)) = some [sl cS x.names,sl qaa x.by_]:=by rw [qbf]; rfl
theorem qL2:Pg.cellsOf 163 = 2:=by kernel_rfl
theorem qaZ (x:reftype_substitution):qbv Pg 163 (qah x) = some (.agg (qah x)):=by
 have:=qhu (P:=Pg) (t:=163) (l:=qah x) (r:=[]) (by kernel_rfl) (qL2.trans (qgG x).symm)
 rwa [va4] at this
theorem qa6 (x:reftype_substitution) (r:List PVal):qbv Pg 163 ([sl cS x.names,sl qaa x.by_] ++ r) = some (.agg (qah x)):=by
 rw [← qbf]; exact qhu (by kernel_rfl) (qL2.trans (qgG x).symm)
theorem qgB (x:reftype_substitution):PVal.agg [sl cS x.names,sl qaa x.by_] = .agg (qah x):=by rw [qbf]
theorem qkz (x0:(List Str)) (x1:(List tPred)):qbO Pg 163 [(0,sl cS x0),(1,sl qaa x1)] = some (.agg (qah (⟨x0,x1⟩:reftype_substitution))):=by
 kernel_rfl
theorem qef (x:reftype_substitution):qa1 Pg 163 (.eptr (qah x)) 0 = some (.eptr ((qah x).drop 0)):=by kernel_rfl
theorem qcP (x:reftype_substitution):qa1 Pg 163 (.eptr (qah x)) 1 = some (.eptr ((qah x).drop 1)):=by kernel_rfl
theorem qeG (x:reftype_substitution):qbv Pg 22 ((qah x).drop 0) = some (sl cS x.names):=by kernel_rfl
theorem qc0 (x:reftype_substitution):qbv Pg 29 ((qah x).drop 1) = some (sl qaa x.by_):=by kernel_rfl
structure tSol where
 Name:Str
 Pred:tPred
def qcD (x:tSol):List PVal:=[.str x.Name] ++ (qaa x.Pred)
theorem qwM (x:tSol):qcD x = [.str x.Name,.int .i64 x.Pred.Op,.str x.Pred.Name,.int .i64 x.Pred.N,sl qaa x.Pred.Kids]:=by
 unfold qcD
 simp only [qao,vaP,vaI]
theorem qjt (x:tSol):clL 0 (qcD x):=by rw [qwM]; exact (aI trivial (aI trivial (aI trivial (aI trivial (aI (qad qab x.Pred.Kids) trivial)))))
abbrev qKC (x:tSol):PVal := .agg (qcD x)
theorem qEY (x:tSol):(qcD x).length = 5:=by rw [qwM]; rfl
theorem qJZ (x:tSol):qaY (qKC x) = some (qcD x):=rfl
theorem qKb (x:tSol):qaY (.agg (qcD x)) = some [.str x.Name,.int .i64 x.Pred.Op,.str x.Pred.Name,.int .i64 x.Pred.N,sl qaa x.Pred.Kids]:=by rw [qwM]; rfl
theorem qJM (x:tSol):∀ q ∈ qcD x,q.one = true:=by
 intro q hq
 rw [qwM] at hq
 simp only [vaC,vbf,or_false] at hq
 rcases hq with rfl | rfl | rfl | rfl | rfl <;> rfl
theorem co84:Pg.cellsOf 84 = 5:=by kernel_rfl
theorem qLg (x:tSol):qbv Pg 84 (qcD x) = some (.agg (qcD x)):=by
 have:=qhu (P:=Pg) (t:=84) (l:=qcD x) (r:=[]) (by kernel_rfl) (co84.trans (qEY x).symm)
 rwa [va4] at this
theorem qED (x0:Str) (x1:tPred):qbO Pg 84 [(0,.str x0),(1,.agg (qaa x1))] = some (.agg (qcD (⟨x0,x1⟩:tSol))):=by
 simp only [qwM,qao]
 kernel_rfl
theorem co9:Pg.cellsOf 9 = 1:=by kernel_rfl
theorem sT22:SlT Pg 22 9 cS:=⟨Tryz.underlying22,fun _ => co9.symm,by kernel_rfl,by rw [co9]; decide,by kernel_rfl,vaH (by kernel_rfl),oneS,clS⟩
theorem sT24:SlT Pg 24 76 qaC:=⟨Tryz.underlying24,fun x => (qBb x).trans co76.symm,by kernel_rfl,by rw [co76]; decide,by kernel_rfl,vaH (by kernel_rfl),qJl,qbA⟩
theorem sT27:SlT Pg 27 33 qac:=⟨Tryz.underlying27,fun x => (qtg x).trans co33.symm,by kernel_rfl,by rw [co33]; decide,by kernel_rfl,vaH (by kernel_rfl),qG0,qaf⟩
theorem sT29:SlT Pg 29 31 qaa:=⟨Tryz.underlying29,fun x => (qw2 x).trans co31.symm,by kernel_rfl,by rw [co31]; decide,by kernel_rfl,vaH (by kernel_rfl),qG1,qab⟩
theorem sT36:SlT Pg 36 88 qaI:=⟨Tryz.underlying36,fun x => (qAg x).trans co88.symm,by kernel_rfl,by rw [co88]; decide,by kernel_rfl,vaH (by kernel_rfl),qJq,qbx⟩
theorem sT38:SlT Pg 38 82 qas:=⟨Tryz.underlying38,fun x => (qyg x).trans co82.symm,by kernel_rfl,by rw [co82]; decide,by kernel_rfl,vaH (by kernel_rfl),qIB,qa4⟩
theorem sT50:SlT Pg 50 61 qaV:=⟨Tryz.underlying50,fun x => (qtp x).trans co61.symm,by kernel_rfl,by rw [co61]; decide,by kernel_rfl,vaH (by kernel_rfl),qIN,qdm⟩
theorem sT59:SlT Pg 59 63 qcp:=⟨Tryz.underlying59,fun x => (qFG x).trans co63.symm,by kernel_rfl,by rw [co63]; decide,by kernel_rfl,vaH (by kernel_rfl),qJQ,qm6⟩
theorem sT80:SlT Pg 80 84 qcD:=⟨Tryz.underlying80,fun x => (qEY x).trans co84.symm,by kernel_rfl,by rw [co84]; decide,by kernel_rfl,vaH (by kernel_rfl),qJM,qjt⟩
theorem co5:Pg.cellsOf 5 = 1:=by kernel_rfl
theorem qGe:(Pg.underlying 103).any qB7 = true:=by kernel_rfl
theorem sc22:(Pg.underlying 22).any qB7 = true:=by kernel_rfl
theorem sc24:(Pg.underlying 24).any qB7 = true:=by kernel_rfl
theorem sc29:(Pg.underlying 29).any qB7 = true:=by kernel_rfl
theorem sc36:(Pg.underlying 36).any qB7 = true:=by kernel_rfl
theorem sc38:(Pg.underlying 38).any qB7 = true:=by kernel_rfl
theorem sc9:(Pg.underlying 9).any qB7 = true:=by kernel_rfl
theorem zv4:qzD Pg 4 = some (PVal.bool false):=by kernel_rfl
theorem pz31:qhU Pg 31 = some [.int .i64 0,.str ([]:Str),.int .i64 0,sl qaa ([]:List tPred)]:=by kernel_rfl
theorem pz33:qhU Pg 33 = some [.int .i64 0,.str ([]:Str),sl qac ([]:List tType),sl cS ([]:List Str),.int .i64 0,.str ([]:Str),.int .i64 0,sl qaa ([]:List tPred),sl qaa ([]:List tPred)]:=by kernel_rfl
theorem pz57:qhU Pg 57 = some [sl qaV ([]:List tData),sl qpR ([]:List tClass),sl qe0 ([]:List tInstance),sl qgE ([]:List tMeasure),sl qoq ([]:List tQual),sl qqO ([]:List tDef)]:=by kernel_rfl
theorem pz61:qhU Pg 61 = some [.str ([]:Str),sl cS ([]:List Str),sl qaI ([]:List tVar),sl qcp ([]:List tCon)]:=by kernel_rfl
theorem pz63:qhU Pg 63 = some [.str ([]:Str),sl cS ([]:List Str),sl qac ([]:List tType)]:=by kernel_rfl
theorem pz76:qhU Pg 76 = some [.str ([]:Str),.str ([]:Str)]:=by kernel_rfl
theorem pz82:qhU Pg 82 = some [.str ([]:Str),sl qaI ([]:List tVar)]:=by kernel_rfl
theorem pz84:qhU Pg 84 = some [.str ([]:Str),.int .i64 0,.str ([]:Str),.int .i64 0,sl qaa ([]:List tPred)]:=by kernel_rfl
theorem pz88:qhU Pg 88 = some [.str ([]:Str),.str ([]:Str)]:=by kernel_rfl
theorem qGA:qhU Pg 163 = some [sl cS ([]:List Str),sl qaa ([]:List tPred)]:=by kernel_rfl
def qeE:List Int:=[1,10,100,1000,10000,100000,1000000,10000000,100000000,1000000000,10000000000,100000000000,1000000000000,10000000000000,100000000000000,1000000000000000,10000000000000000,100000000000000000,1000000000000000000,10000000000000000000]
theorem qMY:Pg.cellsOf 202 = 20:=by kernel_rfl
theorem qMR:Pg.cellsOf 182 = 1:=by kernel_rfl
def qmD:List Int:=[0,1,28,2,29,14,24,3,30,22,20,15,25,17,4,8,31,27,13,23,21,19,16,7,26,12,18,6,11,5,10,9]
theorem qMI:Pg.cellsOf 208 = 32:=by kernel_rfl
def qm1:List Int:=[0,1,56,2,57,49,28,3,61,58,42,50,38,29,17,4,62,47,59,36,45,43,51,22,53,39,33,30,24,18,12,5,63,55,48,27,60,41,37,16,46,35,44,21,52,32,23,11,54,26,40,15,34,20,31,10,25,14,19,9,13,8,7,6]
theorem qMB:Pg.cellsOf 209 = 64:=by kernel_rfl
def GE:List (Nat×List PVal):=[(0,qeE.map (PVal.int .u64)),(1,qmD.map (PVal.int .u8)),(2,qm1.map (PVal.int .u8))]
theorem pcZ (A:List Nat) {m:Nat} {c:Code} {sc:List It} {F:Prop} {e0:Exit} {st0 st:PSt} (h:PS sc F) (he:F = evC Pg GE A m c sc st (FN e0 st0)):Sat Pg GE m c (EX e0 st0) st:=qjE mixed h he
theorem nxZ (A:List Nat) {m:Nat} {c:Code} {sc:List It} {F:Prop} {σ X:Type} {S:σ→PSt} {ex:X→Exit} {so:X→PSt} {s:σ} {st:PSt} (h:PS sc F) (he:F = evC Pg GE A m c sc st (FN .normal (S s))):Sat Pg GE m c (LQ S ex so (.inl s)) st:=qMG mixed h he
theorem ovZ (A:List Nat) {m:Nat} {c:Code} {sc:List It} {F:Prop} {σ X:Type} {S:σ→PSt} {ex:X→Exit} {so:X→PSt} {x:X} {st:PSt} (hn:ex x ≠ .normal) (h:PS sc F) (he:F = evC Pg GE A m c sc st (FN (ex x) (so x))):Sat Pg GE m c (LQ S ex so (.inr x)) st:=qML mixed hn h he
theorem cvZ (A:List Nat) {f:FuncId} {fn:Func} {c:Code} {args:List PVal} {r:PVal} {ro:List (Nat×TypeId)} (hcall:∀ vs w,(callFunc f vs).run Pg w = .ok (.enter f vs) w) (hfn:Pg.funcs[f]? = some fn) (hb:fn.body = some c) (hcl:clL 0 args) {sc:List It} {F:Prop} (h:PS sc F) (he:F = evC Pg GE A 0 c sc ⟨args ++ List.replicate (fn.ntmps - args.length) .undef,[],[]⟩ (FR Pg fn.results.toList r ro)):CC Pg GE f args r ro:=C.evp mixed hcall hfn hb hcl h he
abbrev waA := List tPred
abbrev waB := List Str
abbrev waC := List tType
abbrev waD := List tHole
abbrev waE := List tVar
abbrev waF := List tAbs
abbrev waG := List tSol
abbrev waH := List tCon
theorem qLB:∀ n,(∀ l,Sh Pg n 76 l→∃ x,l = qaC x):=by
 intro n
 induction n using Nat.strongRecOn with
 | ind n ih =>
  cases n with
  | zero => exact fun l h => h.elim
  | succ n =>
   exact fun l h => by
    unfold Sh at h
    rw [Tryz.underlying76] at h
    obtain ⟨a0,b0,rfl,_,h0,a1,b1,rfl,_,h1,rfl⟩:=h
    obtain ⟨x0,rfl⟩:=(in_s Tryz.underlying9) n _ h0
    obtain ⟨x1,rfl⟩:=(in_s Tryz.underlying74) n _ h1
    exact ⟨(⟨x0,x1⟩:tAbs),by rw [qul]; rfl⟩
theorem qAr:∀ n,(∀ l,Sh Pg n 31 l→∃ x,l = qaa x):=by
 intro n
 induction n using Nat.strongRecOn with
 | ind n ih =>
  cases n with
  | zero => exact fun l h => h.elim
  | succ n =>
   exact fun l h => by
    unfold Sh at h
    rw [Tryz.underlying31] at h
    obtain ⟨a0,b0,rfl,_,h0,a1,b1,rfl,_,h1,a2,b2,rfl,_,h2,a3,b3,rfl,_,h3,rfl⟩:=h
    obtain ⟨x0,rfl⟩:=(in_i Tryz.underlying28) n _ h0
    obtain ⟨x1,rfl⟩:=(in_s Tryz.underlying9) n _ h1
    obtain ⟨x2,rfl⟩:=(in_i Tryz.underlying3) n _ h2
    obtain ⟨x3,rfl⟩:=qLH Tryz.underlying29 (c:=qaa) (fun m hm => (ih m (by omega))) _ h3
    exact ⟨(⟨x0,x1,x2,x3⟩:tPred),by rw [qao]; rfl⟩
theorem qJi:∀ n,(∀ l,Sh Pg n 33 l→∃ x,l = qac x):=by
 intro n
 induction n using Nat.strongRecOn with
 | ind n ih =>
  cases n with
  | zero => exact fun l h => h.elim
  | succ n =>
   exact fun l h => by
    unfold Sh at h
    rw [Tryz.underlying33] at h
    obtain ⟨a0,b0,rfl,_,h0,a1,b1,rfl,_,h1,a2,b2,rfl,_,h2,a3,b3,rfl,_,h3,a4,b4,rfl,_,h4,a5,b5,rfl,_,h5,rfl⟩:=h
    obtain ⟨x0,rfl⟩:=(in_i Tryz.underlying26) n _ h0
    obtain ⟨x1,rfl⟩:=(in_s Tryz.underlying9) n _ h1
    obtain ⟨x2,rfl⟩:=qLH Tryz.underlying27 (c:=qac) (fun m hm => (ih m (by omega))) _ h2
    obtain ⟨x3,rfl⟩:=(in_l Tryz.underlying22 (in_s Tryz.underlying9)) n _ h3
    obtain ⟨x4,rfl⟩:=qAr n _ h4
    obtain ⟨x5,rfl⟩:=(in_l Tryz.underlying29 qAr) n _ h5
    exact ⟨(⟨x0,x1,x2,x3,x4,x5⟩:tType),by rw [qaK]; (try simp only [qao]); rfl⟩
theorem qiY {n:Int} (h1 : -9223372036854775808 ≤ n) (h2:n < 9223372036854775808):w64 n = n:=qMa h1 h2
theorem qbb {α:Type} (l:List α) (i:Nat) (h:i < l.length):idx l (i:Int) = some l[i]:=by
 unfold idx
 rw [vao (by omega)]
 simp [h]
theorem qKg (l:Str) (i:Nat) (h:i < l.length):idxS l (i:Int) = some ((l[i].toNat:Int)):=by
 unfold idxS; rw [qbb l i h]; rfl
theorem qAI {α:Type} (c:α) (l:List α):idx (c :: l) 0 = some c:=by
 have:=qbb (c :: l) 0 (by simp)
 simpa using this
theorem qKm {α:Type} (l:List α) (i:Nat) (h:i ≤ l.length):slc l none (some (i:Int)) = some (l.take i):=by
 simp [slc,bd,h]
theorem qwy {α:Type} (l:List α) (i:Nat) (h:i ≤ l.length):slc l (some (i:Int)) none = some (l.drop i):=by
 simp [slc,bd,h]
theorem qcq {α:Type} {l r:List α} (h:l.length + r.length ≤ 1073741824):app l r = some (l ++ r):=vao h
theorem qw8 {l r:Str} (h:l.length + r.length ≤ 4611686018427387904):cat l r = some (l ++ r):=vao h
theorem qmm {σ X:Type} {body:σ→Option (σ⊕X)} {s s':σ} (h:body s = some (.inl s')):loop body s = loop body s':=by rw [qoS,h]
theorem qkg {σ X:Type} {body:σ→Option (σ⊕X)} {s:σ} {x:X} (h:body s = some (.inr x)):loop body s = some x:=by rw [qoS,h]
def runL {α σ X:Type} (f:Nat→α→σ→σ⊕X) (e:σ→X):List α→Nat→σ→X
 | [],_,s => e s
 | x :: r,i,s => match f i x s with
  | .inl s' => runL f e r (i + 1) s'
  | .inr y => y
theorem qiI {α σ τ X:Type} (l:List α) (hl:l.length < 9223372036854775808) (mk:Int→σ→τ) (body:τ→Option (τ⊕X)) (I:Nat→σ→Prop) (f:Nat→α→σ→σ⊕X) (e:σ→X)
  (hin:∀ (i:Nat) (h:i < l.length) s,I i s→body (mk i s) = some (match f i l[i] s with | .inl s' => .inl (mk (w64 ((i:Int) + 1)) s') | .inr y => .inr y)∧∀ s',f i l[i] s = .inl s'→I (i + 1) s')
  (hend:∀ s,I l.length s→body (mk l.length s) = some (.inr (e s))):∀ (i:Nat) (s:σ),i ≤ l.length→I i s→loop body (mk i s) = some (runL f e (l.drop i) i s):=by
 intro i s hi hI
 obtain ⟨k,hk⟩:∃ k,k + i = l.length:=⟨l.length - i,by omega⟩
 induction k generalizing i s with
 | zero =>
  have:i = l.length:=by omega
  subst this
  rw [qoS,hend s hI,vcT]
  rfl
 | succ k ih =>
  have hlt:i < l.length:=by omega
  obtain ⟨h1,h2⟩:=hin i hlt s hI
  rw [qoS,h1,vbB hlt]
  unfold runL
  cases hf:f i l[i] s with
  | inl s' =>
   simp only
   rw [qiY (by omega) (by omega)]
   have:=ih (i + 1) s' (by omega) (h2 s' hf) (by omega)
   rw [show ((i:Int) + 1) = ((i + 1:Nat):Int) by omega]
   exact this
  | inr y => rfl
theorem qFo {α X:Type} (p:α→Bool) (y e:X):∀ (l:List α) (i:Nat),runL (fun _ x (_:Unit) => if p x = true then Sum.inr y else .inl ()) (fun _ => e) l i () = if l.any p = true then y else e
 | [],i => by simp [runL]
 | x :: l,i => by
  have ih:=qFo p y e l (i + 1)
  unfold runL
  by_cases h:p x = true
  ·simp [h]
  ·simp only [h,if_false,ih,List.any_cons,Bool.false_or,vaK]
theorem qAU {α X:Type} (l:List α) (hl:l.length < 9223372036854775808) (body:Int→Option (Int⊕X)) (p:α→Bool) (y e:X)
  (hin:∀ (i:Nat) (h:i < l.length),body i = some (if p l[i] = true then .inr y else .inl (w64 ((i:Int) + 1)))) (hend:body l.length = some (.inr e)) (i:Nat) (hi:i ≤ l.length) :
  loop body (i:Int) = some (if (l.drop i).any p = true then y else e):=by
 have:=qiI l hl (fun i (_:Unit) => i) body (fun _ _ => True) (fun _ x _ => if p x = true then Sum.inr y else .inl ()) (fun _ => e) (fun i h s _ => ⟨?_,fun _ _ => trivial⟩) (fun s _ => hend) i () hi trivial
 ·rw [this,qFo]
 ·rw [hin i h]
  by_cases hp:p l[i] = true <;> simp [hp]
theorem qDu {α X:Type} (p:α→Bool) (y:Nat→X) (e:X):∀ (l:List α) (i:Nat),runL (fun j x (_:Unit) => if p x = true then Sum.inr (y j) else .inl ()) (fun _ => e) l i () = match l.findIdx? p with | some j => y (i + j) | none => e
 | [],i => by simp [runL]
 | x :: l,i => by
  have ih:=qDu p y e l (i + 1)
  unfold runL
  rw [vcg]
  by_cases h:p x = true
  ·simp [h]
  ·simp only [h,if_false,ih,vaK]
   cases l.findIdx? p with
   | none => rfl
   | some j => simp only [vad]; congr 1; omega
theorem qtJ {α X:Type} (l:List α) (hl:l.length < 9223372036854775808) (body:Int→Option (Int⊕X)) (p:α→Bool) (y:Nat→X) (e:X)
  (hin:∀ (i:Nat) (h:i < l.length),body i = some (if p l[i] = true then .inr (y i) else .inl (w64 ((i:Int) + 1)))) (hend:body l.length = some (.inr e)) :
  loop body (0:Int) = some (match l.findIdx? p with | some j => y j | none => e):=by
 have:=qiI l hl (fun i (_:Unit) => i) body (fun _ _ => True) (fun j x _ => if p x = true then Sum.inr (y j) else .inl ()) (fun _ => e) (fun i h s _ => ⟨?_,fun _ _ => trivial⟩) (fun s _ => hend) 0 () (vaM _) trivial
 ·simp only [Int.ofNat_zero,vbh] at this
  have this2:=qDu p y e l 0
  simp only [vaF] at this2
  rw [← this2]
  exact this
 ·rw [hin i h]
  by_cases hp:p l[i] = true <;> simp [hp]
theorem qE3 {α β X:Type} (g:α→β) (e:List β→X):∀ (l:List α) (i:Nat) (s:List β),runL (fun _ x (s:List β) => (Sum.inl (s ++ [g x]):List β⊕X)) e l i s = e (s ++ l.map g)
 | [],i,s => by simp [runL]
 | x :: l,i,s => by
  unfold runL
  simp only
  rw [qE3 g e l (i + 1) (s ++ [g x])]
  simp
theorem qFy {α β τ X:Type} (l:List α) (hl:l.length < 9223372036854775808) (mk:Int→List β→τ) (body:τ→Option (τ⊕X)) (g:α→β) (e:List β→X)
  (hin:∀ (i:Nat) (h:i < l.length) s,s.length = i→body (mk i s) = some (.inl (mk (w64 ((i:Int) + 1)) (s ++ [g l[i]])))) (hend:∀ s,body (mk l.length s) = some (.inr (e s))):loop body (mk 0 []) = some (e (l.map g)):=by
 have:=qiI l hl mk body (fun i s => s.length = i) (fun _ x s => .inl (s ++ [g x])) e (fun i h s hs => ⟨hin i h s hs,fun s' hs' => by cases hs'; simp [hs]⟩) (fun s _ => hend s) 0 [] (vaM _) rfl
 rw [qE3] at this
 exact this
def tot {α:Type} (o:Option α) (Q:α→Prop):Prop := ∃ a,o = some a∧Q a
section
variable {α β σ τ X Y:Type}
theorem qae {a:α} {Q:α→Prop} (h:Q a):tot (some a) Q:=⟨a,rfl,h⟩
theorem qH1 {o:Option α} {a:α} {Q:α→Prop} (e:o = some a) (h:Q a):tot o Q:=⟨a,e,h⟩
theorem qai {o:Option α} {f:α→Option β} {R:α→Prop} {Q:β→Prop} (h:tot o R) (h':∀ a,R a→tot (f a) Q):tot (o.bind f) Q:=by
 obtain ⟨a,rfl,h⟩:=h
 exact h' a h
theorem qar {o:Option α} {a:α} {f:α→Option β} {Q:β→Prop} (e:o = some a) (h:tot (f a) Q):tot (o.bind f) Q:=by
 rw [e]; exact h
theorem tot.mono {o:Option α} {Q R:α→Prop} (h:tot o Q) (h':∀ a,Q a→R a):tot o R:=by
 obtain ⟨a,e,h⟩:=h
 exact ⟨a,e,h' a h⟩
theorem qak {c:Prop} [Decidable c] {a b:Option α} {Q:α→Prop} (h1:c→tot a Q) (h2:¬c→tot b Q):tot (if c then a else b) Q:=by
 by_cases h:c
 ·rw [vao h]; exact h1 h
 ·rw [vam h]; exact h2 h
theorem qHv {o:Option α} {a:α}:tot o (fun x => x = a)↔o = some a:=by
 constructor
 ·rintro ⟨x,e,rfl⟩; exact e
 ·intro e; exact ⟨a,e,rfl⟩
theorem qkZ {F:(X→Option Y)→X→Option Y} (μ:X→Nat) (P:X→Prop) (Q:X→Y→Prop) (h:∀ (R:X→Option Y) x,P x→(∀ y,μ y < μ x→P y→tot (R y) (Q y))→tot (F R x) (Q x)) (x:X) (hx:P x) (hm:μ x < big):tot (fixE F x) (Q x):=by
 have key:∀ n x,μ x < n→P x→tot (itF F n x) (Q x):=by
  intro n
  induction n with
  | zero => intro x hx; omega
  | succ n ih => intro x hx hq; exact h _ x hq fun y hy hqy => ih y (by omega) hqy
 exact key _ x hm hx
theorem qtO (l:List α) (hl:l.length < 9223372036854775808) (mk:Int→σ→τ) {body:τ→Option (τ⊕X)} (I:Nat→σ→Prop) {Q:X→Prop}
  (hin:∀ (i:Nat) (h:i < l.length) s,I i s→tot (body (mk i s)) (fun r => match r with | .inl t => ∃ s',t = mk (w64 ((i:Int) + 1)) s'∧I (i + 1) s' | .inr y => Q y))
  (hend:∀ s,I l.length s→tot (body (mk l.length s)) (fun r => match r with | .inl _ => False | .inr y => Q y)):∀ s,I 0 s→tot (loop body (mk 0 s)) Q:=by
 have key:∀ k i s,k + i = l.length→I i s→tot (loop body (mk (i:Int) s)) Q:=by
  intro k
  induction k with
  | zero =>
   intro i s hi hI
   have:i = l.length:=by omega
   subst this
   obtain ⟨r,e,hr⟩:=hend s hI
   rw [qoS,e]
   cases r with
   | inl _ => exact hr.elim
   | inr y => exact ⟨y,rfl,hr⟩
  | succ k ih =>
   intro i s hi hI
   obtain ⟨r,e,hr⟩:=hin i (by omega) s hI
   rw [qoS,e]
   cases r with
   | inl t =>
    obtain ⟨s',rfl,hI'⟩:=hr
    simp only
    rw [qiY (by omega) (by omega),show ((i:Int) + 1) = ((i + 1:Nat):Int) by omega]
    exact ih (i + 1) s' (by omega) hI'
   | inr y => exact ⟨y,rfl,hr⟩
 exact fun s hs => key l.length 0 s (by omega) hs
end
end Go.Proofs.YtgldgpdhblndkaaGreatDoor
