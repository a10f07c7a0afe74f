/- WHAT IS PROVED: parts of the proof, put together by a program (GT). Conditions: none. -/
import Derived.Test.YtgldgpdhblndkaaGreatDoorPkE24
import Derived.Test.YtgldgpdhblndkaaGreatDoorChecked
noncomputable section
namespace Go.Proofs.YtgldgpdhblndkaaGreatDoor
open Go
set_option linter.unusedVariables false
set_option maxRecDepth 100000
noncomputable abbrev Pg:=Tryz.prog
theorem mixed:Pg.follows .mixedOrders = true:=by kernel_rfl
structure tNeed where
 Class:Str
 Var:Str
deriving DecidableEq
def qjt (x:tNeed):List PVal:=[.str x.Class,.str x.Var]
theorem qya (x:tNeed):clL 0 (qjt x):=(aI trivial (aI trivial trivial))
structure tAbs where
 Name:Str
 Sort_:Str
deriving DecidableEq
def qap (x:tAbs):List PVal:=[.str x.Name,.str x.Sort_]
theorem qvM (x:tAbs):qap x = [.str x.Name,.str x.Sort_]:=rfl
theorem qaO (x:tAbs):clL 0 (qap x):=(aI trivial (aI trivial trivial))
abbrev qGR (x:tAbs):PVal := .agg (qap x)
theorem qyu (x:tAbs):(qap x).length = 2:=by rw [qvM]; rfl
theorem qEC (x:tAbs):qaJ (.agg (qap x)) = some (qap x):=rfl
theorem qF8 (x:tAbs):qaJ (qGR x) = some (qap x):=rfl
theorem qyj (x:tAbs):qaJ (.agg (qap x)) = some [.str x.Name,.str x.Sort_]:=by rw [qvM]; rfl
theorem qFR (x:tAbs):∀ q ∈ qap x,q.one = true:=by
 intro q hq
 rw [qvM] at hq
 simp only [List.mem_cons,List.not_mem_nil,or_false] at hq
 rcases hq with rfl | rfl <;> rfl
theorem co76:Pg.cellsOf 76 = 2:=by kernel_rfl
theorem qxX (x:tAbs):qbg Pg 76 (qap x) = some (.agg (qap x)):=by
 have:=qhr (P:=Pg) (t:=76) (l:=qap x) (r:=[]) (by kernel_rfl) (co76.trans (qyu x).symm)
 rwa [List.append_nil] at this
theorem qFG (x:tAbs) (r:List PVal):qbg Pg 76 ([.str x.Name,.str x.Sort_] ++ r) = some (.agg (qap x)):=by
 rw [← qvM]; exact qhr (by kernel_rfl) (co76.trans (qyu x).symm)
theorem qAX (x0:Str) (x1:Str):qbL Pg 76 [(0,.str x0),(1,.str x1)] = some (.agg (qap (⟨x0,x1⟩:tAbs))):=by
 kernel_rfl
theorem qoD (x:tAbs):qaM Pg 76 (.eptr (qap x)) 0 = some (.eptr ((qap x).drop 0)):=by kernel_rfl
theorem qzn (x:tAbs):qaM Pg 76 (.eptr (qap x)) 1 = some (.eptr ((qap x).drop 1)):=by kernel_rfl
theorem qqB (x:tAbs):qbg Pg 9 ((qap x).drop 0) = some (.str x.Name):=by kernel_rfl
theorem qAv (x:tAbs):qbg Pg 74 ((qap x).drop 1) = some (.str x.Sort_):=by kernel_rfl
structure tVar where
 Name:Str
 Sort_:Str
deriving DecidableEq
def qaz (x:tVar):List PVal:=[.str x.Name,.str x.Sort_]
theorem qv0 (x:tVar):qaz x = [.str x.Name,.str x.Sort_]:=rfl
theorem qbN (x:tVar):clL 0 (qaz x):=(aI trivial (aI trivial trivial))
abbrev qBZ (x:tVar):PVal := .agg (qaz x)
theorem qxS (x:tVar):(qaz x).length = 2:=by rw [qv0]; rfl
theorem qEQ (x:tVar):qaJ (.agg (qaz x)) = some (qaz x):=rfl
theorem qyw (x:tVar):qaJ (qBZ x) = some (qaz x):=rfl
theorem qCu (x:tVar):qaJ (.agg (qaz x)) = some [.str x.Name,.str x.Sort_]:=by rw [qv0]; rfl
theorem qGj (x:tVar):∀ q ∈ qaz x,q.one = true:=by
 intro q hq
 rw [qv0] at hq
 simp only [List.mem_cons,List.not_mem_nil,or_false] at hq
 rcases hq with rfl | rfl <;> rfl
theorem co88:Pg.cellsOf 88 = 2:=by kernel_rfl
theorem qAL (x:tVar):qbg Pg 88 (qaz x) = some (.agg (qaz x)):=by
 have:=qhr (P:=Pg) (t:=88) (l:=qaz x) (r:=[]) (by kernel_rfl) (co88.trans (qxS x).symm)
 rwa [List.append_nil] at this
theorem qGg (x:tVar) (r:List PVal):qbg Pg 88 ([.str x.Name,.str x.Sort_] ++ r) = some (.agg (qaz x)):=by
 rw [← qv0]; exact qhr (by kernel_rfl) (co88.trans (qxS x).symm)
theorem qqN (x0:Str) (x1:Str):qbL Pg 88 [(0,.str x0),(1,.str x1)] = some (.agg (qaz (⟨x0,x1⟩:tVar))):=by
 kernel_rfl
theorem qjd (x:tVar):qaM Pg 88 (.eptr (qaz x)) 0 = some (.eptr ((qaz x).drop 0)):=by kernel_rfl
theorem qkB (x:tVar):qbg Pg 9 ((qaz x).drop 0) = some (.str x.Name):=by kernel_rfl
inductive tPred where
 | mk (Op:Int) (Name:Str) (N:Int) (Kids:(List tPred))
def tPred.Op:tPred→Int
 | ⟨x,_,_,_⟩ => x
def tPred.Name:tPred→Str
 | ⟨_,x,_,_⟩ => x
def tPred.N:tPred→Int
 | ⟨_,_,x,_⟩ => x
def tPred.Kids:tPred→(List tPred)
 | ⟨_,_,_,x⟩ => x
mutual
def qaa:tPred→List PVal
 | ⟨x0,x1,x2,x3⟩ => [.int .i64 x0,.str x1,.int .i64 x2,.slice (qok x3)]
def qok:List tPred→List (List PVal)
 | [] => []
 | x :: r => qaa x :: qok r
end
theorem qxr:∀ (l:List tPred),qok l = l.map qaa
 | [] => by simp [qok]
 | x :: r => by simp [qok,qxr r]
mutual
theorem qab:∀ (x:tPred),clL 0 (qaa x)
 | ⟨x0,x1,x2,x3⟩ => by rw [qaa]; exact (aI trivial (aI trivial (aI trivial (aI (qz0 x3) trivial))))
theorem qz0:∀ (l:List tPred),clLL 0 (qok l)
 | [] => by simp [qok,clLL]
 | x :: r => by rw [qok]; exact ⟨qab x,qz0 r⟩
end
theorem qal:∀ (x:tPred),qaa x = [.int .i64 x.Op,.str x.Name,.int .i64 x.N,sl qaa x.Kids]
 | ⟨x0,x1,x2,x3⟩ => by
  simp only [qaa,qxr]
  rfl
abbrev qbq (x:tPred):PVal := .agg (qaa x)
theorem qvX (x:tPred):(qaa x).length = 4:=by rw [qal]; rfl
theorem qaL (x:tPred):qaJ (.agg (qaa x)) = some (qaa x):=rfl
theorem qaE (x:tPred):qaJ (qbq x) = some (qaa x):=rfl
theorem qaw (x:tPred):qaJ (.agg (qaa x)) = some [.int .i64 x.Op,.str x.Name,.int .i64 x.N,sl qaa x.Kids]:=by rw [qal]; rfl
theorem qEK (x:tPred):∀ q ∈ qaa x,q.one = true:=by
 intro q hq
 rw [qal] at hq
 simp only [List.mem_cons,List.not_mem_nil,or_false] at hq
 rcases hq with rfl | rfl | rfl | rfl <;> rfl
theorem co31:Pg.cellsOf 31 = 4:=by kernel_rfl
theorem qaj (x:tPred):qbg Pg 31 (qaa x) = some (.agg (qaa x)):=by
 have:=qhr (P:=Pg) (t:=31) (l:=qaa x) (r:=[]) (by kernel_rfl) (co31.trans (qvX x).symm)
 rwa [List.append_nil] at this
theorem qar (x:tPred) (r:List PVal):qbg Pg 31 ([.int .i64 x.Op,.str x.Name,.int .i64 x.N,sl qaa x.Kids] ++ r) = some (.agg (qaa x)):=by
 rw [← qal]; exact qhr (by kernel_rfl) (co31.trans (qvX x).symm)
theorem qaY (x:tPred):PVal.agg [.int .i64 x.Op,.str x.Name,.int .i64 x.N,sl qaa x.Kids] = .agg (qaa x):=by rw [qal]
theorem qsI (x0:Int) (x1:Str):pmv Pg 31 (fun q => [(0,.int .i64 x0),(1,.str x1),(3,q)]) 3:=fun b n m => ⟨[.int .i64 x0,.str x1,.int .i64 0,.val (.slice b n m)],by kernel_rfl,rfl⟩
theorem qtu:qbL Pg 31 [] = some (.agg (qaa (⟨0,([]:Str),0,([]:List tPred)⟩:tPred))):=by
 simp only [qal]
 kernel_rfl
theorem qtm:pnil Pg 31 [] [(3,31)]:=by
 exact ⟨[.int .i64 0,.str ([]:Str),.int .i64 0,.val nilV],by kernel_rfl,(aI rfl trivial)⟩
theorem qfj (x0:Int) (x1:Str):qbL Pg 31 [(0,.int .i64 x0),(1,.str x1)] = some (.agg (qaa (⟨x0,x1,0,([]:List tPred)⟩:tPred))):=by
 simp only [qal]
 kernel_rfl
theorem qfn (x0:Int) (x1:Str):pnil Pg 31 [(0,.int .i64 x0),(1,.str x1)] [(3,31)]:=by
 exact ⟨[.int .i64 x0,.str x1,.int .i64 0,.val nilV],by kernel_rfl,(aI rfl trivial)⟩
theorem qgj (x0:Int) (x1:Str) (x2:Int):qbL Pg 31 [(0,.int .i64 x0),(1,.str x1),(2,.int .i64 x2)] = some (.agg (qaa (⟨x0,x1,x2,([]:List tPred)⟩:tPred))):=by
 simp only [qal]
 kernel_rfl
theorem qgh (x0:Int) (x1:Str) (x2:Int):pnil Pg 31 [(0,.int .i64 x0),(1,.str x1),(2,.int .i64 x2)] [(3,31)]:=by
 exact ⟨[.int .i64 x0,.str x1,.int .i64 x2,.val nilV],by kernel_rfl,(aI rfl trivial)⟩
theorem qup (x0:Int) (x1:Str) (x2:Int) (x3:(List tPred)):qbL Pg 31 [(0,.int .i64 x0),(1,.str x1),(2,.int .i64 x2),(3,sl qaa x3)] = some (.agg (qaa (⟨x0,x1,x2,x3⟩:tPred))):=by
 simp only [qal]
 kernel_rfl
theorem qiN (x0:Int) (x1:Str) (x3:(List tPred)):qbL Pg 31 [(0,.int .i64 x0),(1,.str x1),(3,sl qaa x3)] = some (.agg (qaa (⟨x0,x1,0,x3⟩:tPred))):=by
 simp only [qal]
 kernel_rfl
theorem qoI (x0:Int) (x2:Int):qbL Pg 31 [(0,.int .i64 x0),(2,.int .i64 x2)] = some (.agg (qaa (⟨x0,([]:Str),x2,([]:List tPred)⟩:tPred))):=by
 simp only [qal]
 kernel_rfl
theorem qn9 (x0:Int) (x2:Int):pnil Pg 31 [(0,.int .i64 x0),(2,.int .i64 x2)] [(3,31)]:=by
 exact ⟨[.int .i64 x0,.str ([]:Str),.int .i64 x2,.val nilV],by kernel_rfl,(aI rfl trivial)⟩
theorem qtJ (x0:Int) (x3:(List tPred)):qbL Pg 31 [(0,.int .i64 x0),(3,sl qaa x3)] = some (.agg (qaa (⟨x0,([]:Str),0,x3⟩:tPred))):=by
 simp only [qal]
 kernel_rfl
theorem qxn (x0:Int):qbL Pg 31 [(0,.int .i64 x0)] = some (.agg (qaa (⟨x0,([]:Str),0,([]:List tPred)⟩:tPred))):=by
 simp only [qal]
 kernel_rfl
theorem qxx (x0:Int):pnil Pg 31 [(0,.int .i64 x0)] [(3,31)]:=by
 exact ⟨[.int .i64 x0,.str ([]:Str),.int .i64 0,.val nilV],by kernel_rfl,(aI rfl trivial)⟩
theorem qaZ (x:tPred):qaM Pg 31 (.eptr (qaa x)) 0 = some (.eptr ((qaa x).drop 0)):=by rw [qal]; kernel_rfl
theorem qa9 (x:tPred):qaM Pg 31 (.eptr (qaa x)) 1 = some (.eptr ((qaa x).drop 1)):=by rw [qal]; kernel_rfl
theorem qcx (x:tPred):qaM Pg 31 (.eptr (qaa x)) 2 = some (.eptr ((qaa x).drop 2)):=by rw [qal]; kernel_rfl
theorem qax (x:tPred):qaM Pg 31 (.eptr (qaa x)) 3 = some (.eptr ((qaa x).drop 3)):=by rw [qal]; kernel_rfl
theorem qa0 (x:tPred):qbg Pg 28 ((qaa x).drop 0) = some (.int .i64 x.Op):=by rw [qal]; kernel_rfl
theorem qbm (x:tPred):qbg Pg 9 ((qaa x).drop 1) = some (.str x.Name):=by rw [qal]; kernel_rfl
theorem qda (x:tPred):qbg Pg 3 ((qaa x).drop 2) = some (.int .i64 x.N):=by rw [qal]; kernel_rfl
theorem qay (x:tPred):qbg Pg 29 ((qaa x).drop 3) = some (sl qaa x.Kids):=by rw [qal]; kernel_rfl
structure tBound where
 Name:Str
 Vars:(List tVar)
 Hyp:tPred
 Goal:tPred
def qgs (x:tBound):List PVal:=[.str x.Name,sl qaz x.Vars] ++ (qaa x.Hyp ++ (qaa x.Goal))
theorem qEu (x:tBound):qgs x = [.str x.Name,sl qaz x.Vars,.int .i64 x.Hyp.Op,.str x.Hyp.Name,.int .i64 x.Hyp.N,sl qaa x.Hyp.Kids,.int .i64 x.Goal.Op,.str x.Goal.Name,.int .i64 x.Goal.N,sl qaa x.Goal.Kids]:=by
 unfold qgs
 simp only [qal,List.cons_append,List.nil_append]
theorem qzJ (x:tBound):clL 0 (qgs x):=by rw [qEu]; exact (aI trivial (aI (qad qbN x.Vars) (aI trivial (aI trivial (aI trivial (aI (qad qab x.Hyp.Kids) (aI trivial (aI trivial (aI trivial (aI (qad qab x.Goal.Kids) trivial))))))))))
inductive tType where
 | mk (Op:Int) (Name:Str) (Args:(List tType)) (Names:(List Str)) (Pred:tPred) (Preds:(List tPred))
def tType.Op:tType→Int
 | ⟨x,_,_,_,_,_⟩ => x
def tType.Name:tType→Str
 | ⟨_,x,_,_,_,_⟩ => x
def tType.Args:tType→(List tType)
 | ⟨_,_,x,_,_,_⟩ => x
def tType.Names:tType→(List Str)
 | ⟨_,_,_,x,_,_⟩ => x
def tType.Pred:tType→tPred
 | ⟨_,_,_,_,x,_⟩ => x
def tType.Preds:tType→(List tPred)
 | ⟨_,_,_,_,_,x⟩ => x
mutual
def qac:tType→List PVal
 | ⟨x0,x1,x2,x3,x4,x5⟩ => [.int .i64 x0,.str x1,.slice (qn0 x2),sl cS x3] ++ (qaa x4 ++ ([sl qaa x5]))
def qn0:List tType→List (List PVal)
 | [] => []
 | x :: r => qac x :: qn0 r
end
theorem qxD:∀ (l:List tType),qn0 l = l.map qac
 | [] => by simp [qn0]
 | x :: r => by simp [qn0,qxD r]
mutual
theorem qaf:∀ (x:tType),clL 0 (qac x)
 | ⟨x0,x1,x2,x3,x4,x5⟩ => by rw [qac]; exact qoP.2 (aI ((aI trivial (aI trivial (aI (qAr x2) (aI (qad clS x3) trivial))))) (qoP.2 (aI (qab x4) ((aI (qad qab x5) trivial)))))
theorem qAr:∀ (l:List tType),clLL 0 (qn0 l)
 | [] => by simp [qn0,clLL]
 | x :: r => by rw [qn0]; exact ⟨qaf x,qAr r⟩
end
theorem qav:∀ (x:tType),qac x = [.int .i64 x.Op,.str x.Name,sl qac x.Args,sl cS x.Names,.int .i64 x.Pred.Op,.str x.Pred.Name,.int .i64 x.Pred.N,sl qaa x.Pred.Kids,sl qaa x.Preds]
 | ⟨x0,x1,x2,x3,x4,x5⟩ => by
  simp only [qac,qxD,qal,List.cons_append,List.nil_append]
  rfl
abbrev qha (x:tType):PVal := .agg (qac x)
theorem qrB (x:tType):(qac x).length = 9:=by rw [qav]; rfl
theorem qbH (x:tType):qaJ (.agg (qac x)) = some (qac x):=rfl
theorem qdn (x:tType):qaJ (qha x) = some (qac x):=rfl
theorem qbA (x:tType):qaJ (.agg (qac x)) = some [.int .i64 x.Op,.str x.Name,sl qac x.Args,sl cS x.Names,.int .i64 x.Pred.Op,.str x.Pred.Name,.int .i64 x.Pred.N,sl qaa x.Pred.Kids,sl qaa x.Preds]:=by rw [qav]; rfl
theorem qE2 (x:tType):∀ q ∈ qac x,q.one = true:=by
 intro q hq
 rw [qav] at hq
 simp only [List.mem_cons,List.not_mem_nil,or_false] at hq
 rcases hq with rfl | rfl | rfl | rfl | rfl | rfl | rfl | rfl | rfl <;> rfl
theorem co33:Pg.cellsOf 33 = 9:=by kernel_rfl
theorem qaW (x:tType):qbg Pg 33 (qac x) = some (.agg (qac x)):=by
 have:=qhr (P:=Pg) (t:=33) (l:=qac x) (r:=[]) (by kernel_rfl) (co33.trans (qrB x).symm)
 rwa [List.append_nil] at this
theorem qbn (x:tType) (r:List PVal):qbg Pg 33 ([.int .i64 x.Op,.str x.Name,sl qac x.Args,sl cS x.Names,.int .i64 x.Pred.Op,.str x.Pred.Name,.int .i64 x.Pred.N,sl qaa x.Pred.Kids,sl qaa x.Preds] ++ r) = some (.agg (qac x)):=by
 rw [← qav]; exact qhr (by kernel_rfl) (co33.trans (qrB x).symm)
theorem qbR (x:tType):PVal.agg [.int .i64 x.Op,.str x.Name,sl qac x.Args,sl cS x.Names,.int .i64 x.Pred.Op,.str x.Pred.Name,.int .i64 x.Pred.N,sl qaa x.Pred.Kids,sl qaa x.Preds] = .agg (qac x):=by rw [qav]
theorem quq (x0:Int) (x1:Str) (x3:(List Str)) (x4:tPred):qbL Pg 33 [(0,.int .i64 x0),(1,.str x1),(3,sl cS x3),(4,.agg (qaa x4))] = some (.agg (qac (⟨x0,x1,([]:List tType),x3,x4,([]:List tPred)⟩:tType))):=by
 simp only [qav,qal]
 kernel_rfl
theorem quD (x0:Int) (x1:Str) (x3:(List Str)) (x4:tPred):pnil Pg 33 [(0,.int .i64 x0),(1,.str x1),(3,sl cS x3),(4,.agg (qaa x4))] [(2,33),(8,31)]:=by
 simp only [qal]
 exact ⟨[.int .i64 x0,.str x1,.val nilV,sl cS x3,.int .i64 x4.Op,.str x4.Name,.int .i64 x4.N,sl qaa x4.Kids,.val nilV],by kernel_rfl,(aI rfl (aI rfl trivial))⟩
theorem qhe (x0:Int) (x1:Str) (x3:(List Str)) (x4:tPred) (x5:(List tPred)):qbL Pg 33 [(0,.int .i64 x0),(1,.str x1),(3,sl cS x3),(4,.agg (qaa x4)),(5,sl qaa x5)] = some (.agg (qac (⟨x0,x1,([]:List tType),x3,x4,x5⟩:tType))):=by
 simp only [qav,qal]
 kernel_rfl
theorem qhB (x0:Int) (x1:Str) (x3:(List Str)) (x4:tPred) (x5:(List tPred)):pnil Pg 33 [(0,.int .i64 x0),(1,.str x1),(3,sl cS x3),(4,.agg (qaa x4)),(5,sl qaa x5)] [(2,33)]:=by
 simp only [qal]
 exact ⟨[.int .i64 x0,.str x1,.val nilV,sl cS x3,.int .i64 x4.Op,.str x4.Name,.int .i64 x4.N,sl qaa x4.Kids,sl qaa x5],by kernel_rfl,(aI rfl trivial)⟩
theorem qwR (x0:Int) (x1:Str) (x4:tPred):qbL Pg 33 [(0,.int .i64 x0),(1,.str x1),(4,.agg (qaa x4))] = some (.agg (qac (⟨x0,x1,([]:List tType),([]:List Str),x4,([]:List tPred)⟩:tType))):=by
 simp only [qav,qal]
 kernel_rfl
theorem qwM (x0:Int) (x1:Str) (x4:tPred):pnil Pg 33 [(0,.int .i64 x0),(1,.str x1),(4,.agg (qaa x4))] [(2,33),(3,9),(8,31)]:=by
 simp only [qal]
 exact ⟨[.int .i64 x0,.str x1,.val nilV,.val nilV,.int .i64 x4.Op,.str x4.Name,.int .i64 x4.N,sl qaa x4.Kids,.val nilV],by kernel_rfl,(aI rfl (aI rfl (aI rfl trivial)))⟩
theorem qpM (x0:Int) (x1:Str) (x5:(List tPred)):qbL Pg 33 [(0,.int .i64 x0),(1,.str x1),(5,sl qaa x5)] = some (.agg (qac (⟨x0,x1,([]:List tType),([]:List Str),(⟨0,([]:Str),0,([]:List tPred)⟩:tPred),x5⟩:tType))):=by
 simp only [qav]
 kernel_rfl
theorem qpW (x0:Int) (x1:Str) (x5:(List tPred)):pnil Pg 33 [(0,.int .i64 x0),(1,.str x1),(5,sl qaa x5)] [(2,33),(3,9),(7,31)]:=by
 exact ⟨[.int .i64 x0,.str x1,.val nilV,.val nilV,.int .i64 0,.str ([]:Str),.int .i64 0,.val nilV,sl qaa x5],by kernel_rfl,(aI rfl (aI rfl (aI rfl trivial)))⟩
theorem qpT (x0:Int) (x3:(List Str)) (x2:(List tType)):qbL Pg 33 [(0,.int .i64 x0),(3,sl cS x3),(2,sl qac x2)] = some (.agg (qac (⟨x0,([]:Str),x2,x3,(⟨0,([]:Str),0,([]:List tPred)⟩:tPred),([]:List tPred)⟩:tType))):=by
 simp only [qav]
 kernel_rfl
theorem qpF (x0:Int) (x3:(List Str)) (x2:(List tType)):pnil Pg 33 [(0,.int .i64 x0),(3,sl cS x3),(2,sl qac x2)] [(7,31),(8,31)]:=by
 exact ⟨[.int .i64 x0,.str ([]:Str),sl qac x2,sl cS x3,.int .i64 0,.str ([]:Str),.int .i64 0,.val nilV,.val nilV],by kernel_rfl,(aI rfl (aI rfl trivial))⟩
theorem qzl (x0:Int) (x4:tPred):qbL Pg 33 [(0,.int .i64 x0),(4,.agg (qaa x4))] = some (.agg (qac (⟨x0,([]:Str),([]:List tType),([]:List Str),x4,([]:List tPred)⟩:tType))):=by
 simp only [qav,qal]
 kernel_rfl
theorem qAG (x0:Int) (x4:tPred):pnil Pg 33 [(0,.int .i64 x0),(4,.agg (qaa x4))] [(2,33),(3,9),(8,31)]:=by
 simp only [qal]
 exact ⟨[.int .i64 x0,.str ([]:Str),.val nilV,.val nilV,.int .i64 x4.Op,.str x4.Name,.int .i64 x4.N,sl qaa x4.Kids,.val nilV],by kernel_rfl,(aI rfl (aI rfl (aI rfl trivial)))⟩
theorem qnR (x0:Int) (x1:Str) (b3 n3:Nat) (x4:tPred) (x5:(List tPred)):qbL Pg 33 [(0,.int .i64 x0),(1,.str x1),(3,.bsl b3 0 n3),(4,.agg (qaa x4)),(5,sl qaa x5)] = some (.agg [.int .i64 x0,.str x1,sl qac ([]:List tType),.bsl b3 0 n3,.int .i64 x4.Op,.str x4.Name,.int .i64 x4.N,sl qaa x4.Kids,sl qaa x5]):=by
 simp only [qal]
 kernel_rfl
theorem qn5 (x0:Int) (x1:Str) (b3 n3:Nat) (x4:tPred) (x5:(List tPred)):pnil Pg 33 [(0,.int .i64 x0),(1,.str x1),(3,.bsl b3 0 n3),(4,.agg (qaa x4)),(5,sl qaa x5)] [(2,33)]:=by
 simp only [qal]
 exact ⟨[.int .i64 x0,.str x1,.val nilV,.bsl b3 0 n3,.int .i64 x4.Op,.str x4.Name,.int .i64 x4.N,sl qaa x4.Kids,sl qaa x5],by kernel_rfl,(aI rfl trivial)⟩
theorem qms (x0:Int) (x1:Str) (b3 n3:Nat) (x4:tPred) (x5:(List tPred)) (x2:(List tType)):qbL Pg 33 [(0,.int .i64 x0),(1,.str x1),(3,.bsl b3 0 n3),(4,.agg (qaa x4)),(5,sl qaa x5),(2,sl qac x2)] = some (.agg [.int .i64 x0,.str x1,sl qac x2,.bsl b3 0 n3,.int .i64 x4.Op,.str x4.Name,.int .i64 x4.N,sl qaa x4.Kids,sl qaa x5]):=by
 simp only [qal]
 kernel_rfl
theorem qbv (x:tType):qaM Pg 33 (.eptr (qac x)) 0 = some (.eptr ((qac x).drop 0)):=by rw [qav]; kernel_rfl
theorem qdB (x:tType):qaM Pg 33 (.eptr (qac x)) 1 = some (.eptr ((qac x).drop 1)):=by rw [qav]; kernel_rfl
theorem qaH (x:tType):qaM Pg 33 (.eptr (qac x)) 2 = some (.eptr ((qac x).drop 2)):=by rw [qav]; kernel_rfl
theorem qan (x:tType):qaM Pg 33 (.eptr (qac x)) 3 = some (.eptr ((qac x).drop 3)):=by rw [qav]; kernel_rfl
theorem qbV (x:tType):qaM Pg 33 (.eptr (qac x)) 4 = some (.eptr ((qac x).drop 4)):=by rw [qav]; kernel_rfl
theorem qbp (x:tType):qaM Pg 33 (.eptr (qac x)) 5 = some (.eptr ((qac x).drop 8)):=by rw [qav]; kernel_rfl
theorem qbw (x:tType):qbg Pg 26 ((qac x).drop 0) = some (.int .i64 x.Op):=by rw [qav]; kernel_rfl
theorem qef (x:tType):qbg Pg 9 ((qac x).drop 1) = some (.str x.Name):=by rw [qav]; kernel_rfl
theorem qaI (x:tType):qbg Pg 27 ((qac x).drop 2) = some (sl qac x.Args):=by rw [qav]; kernel_rfl
theorem qao (x:tType):qbg Pg 22 ((qac x).drop 3) = some (sl cS x.Names):=by rw [qav]; kernel_rfl
theorem qbY (x:tType):qbg Pg 31 ((qac x).drop 4) = some (.agg (qaa x.Pred)):=by
 rw [qav,qal]; kernel_rfl
theorem qbo (x:tType):qbg Pg 29 ((qac x).drop 8) = some (sl qaa x.Preds):=by rw [qav]; kernel_rfl
theorem qy4 (x:tType) (r:List PVal):qbg Pg 33 (qac x ++ r) = some (.agg (qac x)):=qhr (by kernel_rfl) (co33.trans (qrB x).symm)
structure tSig where
 Vars:(List Str)
 Needs:(List tNeed)
 Abs:(List tAbs)
 Bounds:(List tBound)
 Type_:tType
 Metric:(List tPred)
def qkR (x:tSig):List PVal:=[sl cS x.Vars,sl qjt x.Needs,sl qap x.Abs,sl qgs x.Bounds] ++ (qac x.Type_ ++ ([sl qaa x.Metric]))
theorem qnH (x:tSig):qkR x = [sl cS x.Vars,sl qjt x.Needs,sl qap x.Abs,sl qgs x.Bounds,.int .i64 x.Type_.Op,.str x.Type_.Name,sl qac x.Type_.Args,sl cS x.Type_.Names,.int .i64 x.Type_.Pred.Op,.str x.Type_.Pred.Name,.int .i64 x.Type_.Pred.N,sl qaa x.Type_.Pred.Kids,sl qaa x.Type_.Preds,sl qaa x.Metric]:=by
 unfold qkR
 simp only [qav,List.cons_append,List.nil_append]
theorem qHR (x:tSig):clL 0 (qkR x):=by rw [qnH]; exact (aI (qad clS x.Vars) (aI (qad qya x.Needs) (aI (qad qaO x.Abs) (aI (qad qzJ x.Bounds) (aI trivial (aI trivial (aI (qad qaf x.Type_.Args) (aI (qad clS x.Type_.Names) (aI trivial (aI trivial (aI trivial (aI (qad qab x.Type_.Pred.Kids) (aI (qad qab x.Type_.Preds) (aI (qad qab x.Metric) trivial))))))))))))))
theorem qF6 (x:tSig):(qkR x).length = 14:=by rw [qnH]; rfl
theorem qHu (x:tSig):qaJ (.agg (qkR x)) = some (qkR x):=rfl
theorem qF5 (x:tSig):qaJ (.agg (qkR x)) = some [sl cS x.Vars,sl qjt x.Needs,sl qap x.Abs,sl qgs x.Bounds,.int .i64 x.Type_.Op,.str x.Type_.Name,sl qac x.Type_.Args,sl cS x.Type_.Names,.int .i64 x.Type_.Pred.Op,.str x.Type_.Pred.Name,.int .i64 x.Type_.Pred.N,sl qaa x.Type_.Pred.Kids,sl qaa x.Type_.Preds,sl qaa x.Metric]:=by rw [qnH]; rfl
theorem co35:Pg.cellsOf 35 = 14:=by kernel_rfl
theorem qGn (x:tSig) (r:List PVal):qbg Pg 35 ([sl cS x.Vars,sl qjt x.Needs,sl qap x.Abs,sl qgs x.Bounds,.int .i64 x.Type_.Op,.str x.Type_.Name,sl qac x.Type_.Args,sl cS x.Type_.Names,.int .i64 x.Type_.Pred.Op,.str x.Type_.Pred.Name,.int .i64 x.Type_.Pred.N,sl qaa x.Type_.Pred.Kids,sl qaa x.Type_.Preds,sl qaa x.Metric] ++ r) = some (.agg (qkR x)):=by
 rw [← qnH]; exact qhr (by kernel_rfl) (co35.trans (qF6 x).symm)
theorem qBx (x2:(List tAbs)) (x4:tType):qbL Pg 35 [(2,sl qap x2),(4,.agg (qac x4))] = some (.agg (qkR (⟨([]:List Str),([]:List tNeed),x2,([]:List tBound),x4,([]:List tPred)⟩:tSig))):=by
 simp only [qnH,qav]
 kernel_rfl
theorem qBs (x2:(List tAbs)) (x4:tType):pnil Pg 35 [(2,sl qap x2),(4,.agg (qac x4))] [(0,9),(1,226),(3,228),(13,31)]:=by
 simp only [qav]
 exact ⟨[.val nilV,.val nilV,sl qap x2,.val nilV,.int .i64 x4.Op,.str x4.Name,sl qac x4.Args,sl cS x4.Names,.int .i64 x4.Pred.Op,.str x4.Pred.Name,.int .i64 x4.Pred.N,sl qaa x4.Pred.Kids,sl qaa x4.Preds,.val nilV],by kernel_rfl,(aI rfl (aI rfl (aI rfl (aI rfl trivial))))⟩
theorem qzg (x:tSig):qaM Pg 35 (.eptr (qkR x)) 2 = some (.eptr ((qkR x).drop 2)):=by rw [qnH]; kernel_rfl
theorem qzI (x:tSig):qbg Pg 24 ((qkR x).drop 2) = some (sl qap x.Abs):=by rw [qnH]; kernel_rfl
structure tHole where
 Name:Str
 Params:(List tVar)
deriving DecidableEq
def qai (x:tHole):List PVal:=[.str x.Name,sl qaz x.Params]
theorem qkP (x:tHole):qai x = [.str x.Name,sl qaz x.Params]:=rfl
theorem qaD (x:tHole):clL 0 (qai x):=(aI trivial (aI (qad qbN x.Params) trivial))
abbrev qFB (x:tHole):PVal := .agg (qai x)
theorem qve (x:tHole):(qai x).length = 2:=by rw [qkP]; rfl
theorem qGD (x:tHole):qaJ (.agg (qai x)) = some (qai x):=rfl
theorem qFa (x:tHole):qaJ (qFB x) = some (qai x):=rfl
theorem qoG (x:tHole):qaJ (.agg (qai x)) = some [.str x.Name,sl qaz x.Params]:=by rw [qkP]; rfl
theorem qFp (x:tHole):∀ q ∈ qai x,q.one = true:=by
 intro q hq
 rw [qkP] at hq
 simp only [List.mem_cons,List.not_mem_nil,or_false] at hq
 rcases hq with rfl | rfl <;> rfl
theorem co82:Pg.cellsOf 82 = 2:=by kernel_rfl
theorem qCI (x:tHole):qbg Pg 82 (qai x) = some (.agg (qai x)):=by
 have:=qhr (P:=Pg) (t:=82) (l:=qai x) (r:=[]) (by kernel_rfl) (co82.trans (qve x).symm)
 rwa [List.append_nil] at this
theorem qzp (x:tHole) (r:List PVal):qbg Pg 82 ([.str x.Name,sl qaz x.Params] ++ r) = some (.agg (qai x)):=by
 rw [← qkP]; exact qhr (by kernel_rfl) (co82.trans (qve x).symm)
theorem qv3 (x:tHole):PVal.agg [.str x.Name,sl qaz x.Params] = .agg (qai x):=by rw [qkP]
theorem qCZ:qbL Pg 82 [] = some (.agg (qai (⟨([]:Str),([]:List tVar)⟩:tHole))):=by
 kernel_rfl
theorem qCV:pnil Pg 82 [] [(1,88)]:=by
 exact ⟨[.str ([]:Str),.val nilV],by kernel_rfl,(aI rfl trivial)⟩
theorem qza (x0:Str) (x1:(List tVar)):qbL Pg 82 [(0,.str x0),(1,sl qaz x1)] = some (.agg (qai (⟨x0,x1⟩:tHole))):=by
 kernel_rfl
theorem qrz (x:tHole):qaM Pg 82 (.eptr (qai x)) 0 = some (.eptr ((qai x).drop 0)):=by kernel_rfl
theorem qdI (x:tHole):qaM Pg 82 (.eptr (qai x)) 1 = some (.eptr ((qai x).drop 1)):=by kernel_rfl
theorem qt7 (x:tHole):qbg Pg 9 ((qai x).drop 0) = some (.str x.Name):=by kernel_rfl
theorem qdD (x:tHole):qbg Pg 36 ((qai x).drop 1) = some (sl qaz x.Params):=by kernel_rfl
structure tCon where
 Name:Str
 Names:(List Str)
 Fields:(List tType)
def qcw (x:tCon):List PVal:=[.str x.Name,sl cS x.Names,sl qac x.Fields]
theorem qBB (x:tCon):qcw x = [.str x.Name,sl cS x.Names,sl qac x.Fields]:=rfl
theorem qmj (x:tCon):clL 0 (qcw x):=(aI trivial (aI (qad clS x.Names) (aI (qad qaf x.Fields) trivial)))
abbrev qG2 (x:tCon):PVal := .agg (qcw x)
theorem qB1 (x:tCon):(qcw x).length = 3:=by rw [qBB]; rfl
theorem qGA (x:tCon):qaJ (qG2 x) = some (qcw x):=rfl
theorem qGc (x:tCon):qaJ (.agg (qcw x)) = some [.str x.Name,sl cS x.Names,sl qac x.Fields]:=by rw [qBB]; rfl
theorem qFQ (x:tCon):∀ q ∈ qcw x,q.one = true:=by
 intro q hq
 rw [qBB] at hq
 simp only [List.mem_cons,List.not_mem_nil,or_false] at hq
 rcases hq with rfl | rfl | rfl <;> rfl
theorem co63:Pg.cellsOf 63 = 3:=by kernel_rfl
theorem qHr (x:tCon):qbg Pg 63 (qcw x) = some (.agg (qcw x)):=by
 have:=qhr (P:=Pg) (t:=63) (l:=qcw x) (r:=[]) (by kernel_rfl) (co63.trans (qB1 x).symm)
 rwa [List.append_nil] at this
theorem qxN (x0:Str) (x1:(List Str)) (x2:(List tType)):qbL Pg 63 [(0,.str x0),(1,sl cS x1),(2,sl qac x2)] = some (.agg (qcw (⟨x0,x1,x2⟩:tCon))):=by
 kernel_rfl
theorem qEv (x0:Str):qbL Pg 63 [(0,.str x0)] = some (.agg (qcw (⟨x0,([]:List Str),([]:List tType)⟩:tCon))):=by
 kernel_rfl
theorem qES (x0:Str):pnil Pg 63 [(0,.str x0)] [(1,9),(2,33)]:=by
 exact ⟨[.str x0,.val nilV,.val nilV],by kernel_rfl,(aI rfl (aI rfl trivial))⟩
theorem qzV (x:tCon):qaM Pg 63 (.eptr (qcw x)) 2 = some (.eptr ((qcw x).drop 2)):=by kernel_rfl
theorem qzw (x:tCon):qbg Pg 27 ((qcw x).drop 2) = some (sl qac x.Fields):=by kernel_rfl
structure tData where
 Name:Str
 Vars:(List Str)
 Preds:(List tVar)
 Cons:(List tCon)
def qaK (x:tData):List PVal:=[.str x.Name,sl cS x.Vars,sl qaz x.Preds,sl qcw x.Cons]
theorem qm0 (x:tData):qaK x = [.str x.Name,sl cS x.Vars,sl qaz x.Preds,sl qcw x.Cons]:=rfl
theorem qdA (x:tData):clL 0 (qaK x):=(aI trivial (aI (qad clS x.Vars) (aI (qad qbN x.Preds) (aI (qad qmj x.Cons) trivial))))
abbrev qE3 (x:tData):PVal := .agg (qaK x)
theorem qsm (x:tData):(qaK x).length = 4:=by rw [qm0]; rfl
theorem qEx (x:tData):qaJ (qE3 x) = some (qaK x):=rfl
theorem qrS (x:tData):qaJ (.agg (qaK x)) = some [.str x.Name,sl cS x.Vars,sl qaz x.Preds,sl qcw x.Cons]:=by rw [qm0]; rfl
theorem qEl (x:tData):∀ q ∈ qaK x,q.one = true:=by
 intro q hq
 rw [qm0] at hq
 simp only [List.mem_cons,List.not_mem_nil,or_false] at hq
 rcases hq with rfl | rfl | rfl | rfl <;> rfl
theorem co61:Pg.cellsOf 61 = 4:=by kernel_rfl
theorem qBR (x:tData):qbg Pg 61 (qaK x) = some (.agg (qaK x)):=by
 have:=qhr (P:=Pg) (t:=61) (l:=qaK x) (r:=[]) (by kernel_rfl) (co61.trans (qsm x).symm)
 rwa [List.append_nil] at this
theorem qEd (x:tData) (r:List PVal):qbg Pg 61 ([.str x.Name,sl cS x.Vars,sl qaz x.Preds,sl qcw x.Cons] ++ r) = some (.agg (qaK x)):=by
 rw [← qm0]; exact qhr (by kernel_rfl) (co61.trans (qsm x).symm)
theorem qz6 (x:tData):PVal.agg [.str x.Name,sl cS x.Vars,sl qaz x.Preds,sl qcw x.Cons] = .agg (qaK x):=by rw [qm0]
theorem qCQ:qbL Pg 61 [] = some (.agg (qaK (⟨([]:Str),([]:List Str),([]:List tVar),([]:List tCon)⟩:tData))):=by
 kernel_rfl
theorem qDn:pnil Pg 61 [] [(1,9),(2,88),(3,63)]:=by
 exact ⟨[.str ([]:Str),.val nilV,.val nilV,.val nilV],by kernel_rfl,(aI rfl (aI rfl (aI rfl trivial)))⟩
theorem qwT (x0:Str) (x2:(List tVar)) (x3:(List tCon)):qbL Pg 61 [(0,.str x0),(2,sl qaz x2),(3,sl qcw x3)] = some (.agg (qaK (⟨x0,([]:List Str),x2,x3⟩:tData))):=by
 kernel_rfl
theorem qw1 (x0:Str) (x2:(List tVar)) (x3:(List tCon)):pnil Pg 61 [(0,.str x0),(2,sl qaz x2),(3,sl qcw x3)] [(1,9)]:=by
 exact ⟨[.str x0,.val nilV,sl qaz x2,sl qcw x3],by kernel_rfl,(aI rfl trivial)⟩
theorem qyp (x:tData):qaM Pg 61 (.eptr (qaK x)) 2 = some (.eptr ((qaK x).drop 2)):=by kernel_rfl
theorem qyX (x:tData):qaM Pg 61 (.eptr (qaK x)) 3 = some (.eptr ((qaK x).drop 3)):=by kernel_rfl
theorem qyJ (x:tData):qbg Pg 36 ((qaK x).drop 2) = some (sl qaz x.Preds):=by kernel_rfl
theorem qyx (x:tData):qbg Pg 59 ((qaK x).drop 3) = some (sl qcw x.Cons):=by kernel_rfl
structure tMethod where
 Name:Str
 Type_:tType
def qrN (x:tMethod):List PVal:=[.str x.Name] ++ (qac x.Type_)
theorem qDu (x:tMethod):qrN x = [.str x.Name,.int .i64 x.Type_.Op,.str x.Type_.Name,sl qac x.Type_.Args,sl cS x.Type_.Names,.int .i64 x.Type_.Pred.Op,.str x.Type_.Pred.Name,.int .i64 x.Type_.Pred.N,sl qaa x.Type_.Pred.Kids,sl qaa x.Type_.Preds]:=by
 unfold qrN
 simp only [qav,List.cons_append,List.nil_append]
theorem qDa (x:tMethod):clL 0 (qrN x):=by rw [qDu]; exact (aI trivial (aI trivial (aI trivial (aI (qad qaf x.Type_.Args) (aI (qad clS x.Type_.Names) (aI trivial (aI trivial (aI trivial (aI (qad qab x.Type_.Pred.Kids) (aI (qad qab x.Type_.Preds) trivial))))))))))
structure tClass where
 Name:Str
 Var:Str
 Methods:(List tMethod)
def qo9 (x:tClass):List PVal:=[.str x.Name,.str x.Var,sl qrN x.Methods]
theorem qEa (x:tClass):clL 0 (qo9 x):=(aI trivial (aI trivial (aI (qad qDa x.Methods) trivial)))
structure tParam where
 Name:Str
 Type_:tType
def qo6 (x:tParam):List PVal:=[.str x.Name] ++ (qac x.Type_)
theorem qEB (x:tParam):qo6 x = [.str x.Name,.int .i64 x.Type_.Op,.str x.Type_.Name,sl qac x.Type_.Args,sl cS x.Type_.Names,.int .i64 x.Type_.Pred.Op,.str x.Type_.Pred.Name,.int .i64 x.Type_.Pred.N,sl qaa x.Type_.Pred.Kids,sl qaa x.Type_.Preds]:=by
 unfold qo6
 simp only [qav,List.cons_append,List.nil_append]
theorem qAJ (x:tParam):clL 0 (qo6 x):=by rw [qEB]; exact (aI trivial (aI trivial (aI trivial (aI (qad qaf x.Type_.Args) (aI (qad clS x.Type_.Names) (aI trivial (aI trivial (aI trivial (aI (qad qab x.Type_.Pred.Kids) (aI (qad qab x.Type_.Preds) trivial))))))))))
mutual
inductive tExpr where
 | mk (Op:Int) (Name:Str) (N:Int) (Kids:(List tExpr)) (Params:(List tParam)) (Alts:(List tAlt)) (Types:(List tType))
inductive tAlt where
 | mk (Con:Str) (Names:(List Str)) (Body:tExpr)
end
def tExpr.Op:tExpr→Int
 | ⟨x,_,_,_,_,_,_⟩ => x
def tExpr.Name:tExpr→Str
 | ⟨_,x,_,_,_,_,_⟩ => x
def tExpr.N:tExpr→Int
 | ⟨_,_,x,_,_,_,_⟩ => x
def tExpr.Kids:tExpr→(List tExpr)
 | ⟨_,_,_,x,_,_,_⟩ => x
def tExpr.Params:tExpr→(List tParam)
 | ⟨_,_,_,_,x,_,_⟩ => x
def tExpr.Alts:tExpr→(List tAlt)
 | ⟨_,_,_,_,_,x,_⟩ => x
def tExpr.Types:tExpr→(List tType)
 | ⟨_,_,_,_,_,_,x⟩ => x
mutual
def qlq:tExpr→List PVal
 | ⟨x0,x1,x2,x3,x4,x5,x6⟩ => [.int .i64 x0,.str x1,.int .i64 x2,.slice (qoL x3),sl qo6 x4,.slice (qtI x5),sl qac x6]
def qxs:tAlt→List PVal
 | ⟨x0,x1,x2⟩ => [.str x0,sl cS x1] ++ (qlq x2)
def qoL:List tExpr→List (List PVal)
 | [] => []
 | x :: r => qlq x :: qoL r
def qtI:List tAlt→List (List PVal)
 | [] => []
 | x :: r => qxs x :: qtI r
end
theorem qxI:∀ (l:List tExpr),qoL l = l.map qlq
 | [] => by simp [qoL]
 | x :: r => by simp [qoL,qxI r]
theorem qAo:∀ (l:List tAlt),qtI l = l.map qxs
 | [] => by simp [qtI]
 | x :: r => by simp [qtI,qAo r]
mutual
theorem qx4:∀ (x:tExpr),clL 0 (qlq x)
 | ⟨x0,x1,x2,x3,x4,x5,x6⟩ => by rw [qlq]; exact (aI trivial (aI trivial (aI trivial (aI (qzZ x3) (aI (qad qAJ x4) (aI (qCb x5) (aI (qad qaf x6) trivial)))))))
theorem qFz:∀ (x:tAlt),clL 0 (qxs x)
 | ⟨x0,x1,x2⟩ => by rw [qxs]; exact qoP.2 (aI ((aI trivial (aI (qad clS x1) trivial))) (qx4 x2))
theorem qzZ:∀ (l:List tExpr),clLL 0 (qoL l)
 | [] => by simp [qoL,clLL]
 | x :: r => by rw [qoL]; exact ⟨qx4 x,qzZ r⟩
theorem qCb:∀ (l:List tAlt),clLL 0 (qtI l)
 | [] => by simp [qtI,clLL]
 | x :: r => by rw [qtI]; exact ⟨qFz x,qCb r⟩
end
theorem qFY:∀ (x:tExpr),qlq x = [.int .i64 x.Op,.str x.Name,.int .i64 x.N,sl qlq x.Kids,sl qo6 x.Params,sl qxs x.Alts,sl qac x.Types]
 | ⟨x0,x1,x2,x3,x4,x5,x6⟩ => by
  simp only [qlq,qxI,qAo]
  rfl
structure tDef where
 Name:Str
 Params:(List Str)
 Body:tExpr
 Mode:Int
 Typed:Bool
 Sig:tSig
def qpG (x:tDef):List PVal:=[.str x.Name,sl cS x.Params] ++ (qlq x.Body ++ ([.int .i64 x.Mode,.bool x.Typed] ++ (qkR x.Sig)))
theorem qH0 (x:tDef):qpG x = [.str x.Name,sl cS x.Params,.int .i64 x.Body.Op,.str x.Body.Name,.int .i64 x.Body.N,sl qlq x.Body.Kids,sl qo6 x.Body.Params,sl qxs x.Body.Alts,sl qac x.Body.Types,.int .i64 x.Mode,.bool x.Typed,sl cS x.Sig.Vars,sl qjt x.Sig.Needs,sl qap x.Sig.Abs,sl qgs x.Sig.Bounds,.int .i64 x.Sig.Type_.Op,.str x.Sig.Type_.Name,sl qac x.Sig.Type_.Args,sl cS x.Sig.Type_.Names,.int .i64 x.Sig.Type_.Pred.Op,.str x.Sig.Type_.Pred.Name,.int .i64 x.Sig.Type_.Pred.N,sl qaa x.Sig.Type_.Pred.Kids,sl qaa x.Sig.Type_.Preds,sl qaa x.Sig.Metric]:=by
 unfold qpG
 simp only [qFY,qnH,List.cons_append,List.nil_append]
theorem qFg (x:tDef):clL 0 (qpG x):=by rw [qH0]; exact (aI trivial (aI (qad clS x.Params) (aI trivial (aI trivial (aI trivial (aI (qad qx4 x.Body.Kids) (aI (qad qAJ x.Body.Params) (aI (qad qFz x.Body.Alts) (aI (qad qaf x.Body.Types) (aI trivial (aI trivial (aI (qad clS x.Sig.Vars) (aI (qad qya x.Sig.Needs) (aI (qad qaO x.Sig.Abs) (aI (qad qzJ x.Sig.Bounds) (aI trivial (aI trivial (aI (qad qaf x.Sig.Type_.Args) (aI (qad clS x.Sig.Type_.Names) (aI trivial (aI trivial (aI trivial (aI (qad qab x.Sig.Type_.Pred.Kids) (aI (qad qab x.Sig.Type_.Preds) (aI (qad qab x.Sig.Metric) trivial)))))))))))))))))))))))))
structure tInstance where
 Class:Str
 Type_:tType
 Needs:(List tNeed)
 Defs:(List tDef)
def qfz (x:tInstance):List PVal:=[.str x.Class] ++ (qac x.Type_ ++ ([sl qjt x.Needs,sl qpG x.Defs]))
theorem qzz (x:tInstance):qfz x = [.str x.Class,.int .i64 x.Type_.Op,.str x.Type_.Name,sl qac x.Type_.Args,sl cS x.Type_.Names,.int .i64 x.Type_.Pred.Op,.str x.Type_.Pred.Name,.int .i64 x.Type_.Pred.N,sl qaa x.Type_.Pred.Kids,sl qaa x.Type_.Preds,sl qjt x.Needs,sl qpG x.Defs]:=by
 unfold qfz
 simp only [qav,List.cons_append,List.nil_append]
theorem qzh (x:tInstance):clL 0 (qfz x):=by rw [qzz]; exact (aI trivial (aI trivial (aI trivial (aI (qad qaf x.Type_.Args) (aI (qad clS x.Type_.Names) (aI trivial (aI trivial (aI trivial (aI (qad qab x.Type_.Pred.Kids) (aI (qad qab x.Type_.Preds) (aI (qad qya x.Needs) (aI (qad qFg x.Defs) trivial))))))))))))
structure tCase where
 Con:Str
 Names:(List Str)
 Body:tPred
def qvz (x:tCase):List PVal:=[.str x.Con,sl cS x.Names] ++ (qaa x.Body)
theorem qGe (x:tCase):qvz x = [.str x.Con,sl cS x.Names,.int .i64 x.Body.Op,.str x.Body.Name,.int .i64 x.Body.N,sl qaa x.Body.Kids]:=by
 unfold qvz
 simp only [qal,List.cons_append,List.nil_append]
theorem qFU (x:tCase):clL 0 (qvz x):=by rw [qGe]; exact (aI trivial (aI (qad clS x.Names) (aI trivial (aI trivial (aI trivial (aI (qad qab x.Body.Kids) trivial))))))
structure tMeasure where
 Name:Str
 Data:Str
 Result:Str
 Cases:(List tCase)
 Inv:tPred
def qgS (x:tMeasure):List PVal:=[.str x.Name,.str x.Data,.str x.Result,sl qvz x.Cases] ++ (qaa x.Inv)
theorem qBD (x:tMeasure):qgS x = [.str x.Name,.str x.Data,.str x.Result,sl qvz x.Cases,.int .i64 x.Inv.Op,.str x.Inv.Name,.int .i64 x.Inv.N,sl qaa x.Inv.Kids]:=by
 unfold qgS
 simp only [qal,List.cons_append,List.nil_append]
theorem qA4 (x:tMeasure):clL 0 (qgS x):=by rw [qBD]; exact (aI trivial (aI trivial (aI trivial (aI (qad qFU x.Cases) (aI trivial (aI trivial (aI trivial (aI (qad qab x.Inv.Kids) trivial))))))))
structure tQual where
 Name:Str
 Vars:(List tVar)
 Body:tPred
def qnV (x:tQual):List PVal:=[.str x.Name,sl qaz x.Vars] ++ (qaa x.Body)
theorem qGb (x:tQual):qnV x = [.str x.Name,sl qaz x.Vars,.int .i64 x.Body.Op,.str x.Body.Name,.int .i64 x.Body.N,sl qaa x.Body.Kids]:=by
 unfold qnV
 simp only [qal,List.cons_append,List.nil_append]
theorem qGx (x:tQual):clL 0 (qnV x):=by rw [qGb]; exact (aI trivial (aI (qad qbN x.Vars) (aI trivial (aI trivial (aI trivial (aI (qad qab x.Body.Kids) trivial))))))
structure tModule where
 Datas:(List tData)
 Classes:(List tClass)
 Instances:(List tInstance)
 Measures:(List tMeasure)
 Quals:(List tQual)
 Defs:(List tDef)
def qcI (x:tModule):List PVal:=[sl qaK x.Datas,sl qo9 x.Classes,sl qfz x.Instances,sl qgS x.Measures,sl qnV x.Quals,sl qpG x.Defs]
theorem qsS (x:tModule):qcI x = [sl qaK x.Datas,sl qo9 x.Classes,sl qfz x.Instances,sl qgS x.Measures,sl qnV x.Quals,sl qpG x.Defs]:=rfl
theorem qlY (x:tModule):clL 0 (qcI x):=(aI (qad qdA x.Datas) (aI (qad qEa x.Classes) (aI (qad qzh x.Instances) (aI (qad qA4 x.Measures) (aI (qad qGx x.Quals) (aI (qad qFg x.Defs) trivial))))))
theorem qBp (x:tModule):(qcI x).length = 6:=by rw [qsS]; rfl
theorem qs5 (x:tModule):qaJ (.agg (qcI x)) = some (qcI x):=rfl
theorem qBz (x:tModule):qaJ (.agg (qcI x)) = some [sl qaK x.Datas,sl qo9 x.Classes,sl qfz x.Instances,sl qgS x.Measures,sl qnV x.Quals,sl qpG x.Defs]:=by rw [qsS]; rfl
theorem co57:Pg.cellsOf 57 = 6:=by kernel_rfl
theorem qDp (x:tModule):qbg Pg 57 (qcI x) = some (.agg (qcI x)):=by
 have:=qhr (P:=Pg) (t:=57) (l:=qcI x) (r:=[]) (by kernel_rfl) (co57.trans (qBp x).symm)
 rwa [List.append_nil] at this
theorem qAM (x:tModule):PVal.agg [sl qaK x.Datas,sl qo9 x.Classes,sl qfz x.Instances,sl qgS x.Measures,sl qnV x.Quals,sl qpG x.Defs] = .agg (qcI x):=by rw [qsS]
theorem qAt (x0:(List tData)):qbL Pg 57 [(0,sl qaK x0)] = some (.agg (qcI (⟨x0,([]:List tClass),([]:List tInstance),([]:List tMeasure),([]:List tQual),([]:List tDef)⟩:tModule))):=by
 kernel_rfl
theorem qAk (x0:(List tData)):pnil Pg 57 [(0,sl qaK x0)] [(1,231),(2,233),(3,236),(4,238),(5,247)]:=by
 exact ⟨[sl qaK x0,.val nilV,.val nilV,.val nilV,.val nilV,.val nilV],by kernel_rfl,(aI rfl (aI rfl (aI rfl (aI rfl (aI rfl trivial)))))⟩
theorem qn7 (x:tModule):qaM Pg 57 (.eptr (qcI x)) 0 = some (.eptr ((qcI x).drop 0)):=by kernel_rfl
theorem qoe (x:tModule):qbg Pg 50 ((qcI x).drop 0) = some (sl qaK x.Datas):=by kernel_rfl
structure reftype_substitution where
 names:(List Str)
 by_:(List tPred)
def qag (x:reftype_substitution):List PVal:=[sl cS x.names,sl qaa x.by_]
theorem qa6 (x:reftype_substitution):qag x = [sl cS x.names,sl qaa x.by_]:=rfl
theorem qat (x:reftype_substitution):clL 0 (qag x):=(aI (qad clS x.names) (aI (qad qab x.by_) trivial))
theorem qgP (x:reftype_substitution):(qag x).length = 2:=by rw [qa6]; rfl
theorem qbF (x:reftype_substitution):qaJ (.agg (qag x)) = some (qag x):=rfl
theorem qcP (x:reftype_substitution):qaJ (.agg (qag x)) = some [sl cS x.names,sl qaa x.by_]:=by rw [qa6]; rfl
theorem qH6:Pg.cellsOf 163 = 2:=by kernel_rfl
theorem qaU (x:reftype_substitution):qbg Pg 163 (qag x) = some (.agg (qag x)):=by
 have:=qhr (P:=Pg) (t:=163) (l:=qag x) (r:=[]) (by kernel_rfl) (qH6.trans (qgP x).symm)
 rwa [List.append_nil] at this
theorem qa1 (x:reftype_substitution) (r:List PVal):qbg Pg 163 ([sl cS x.names,sl qaa x.by_] ++ r) = some (.agg (qag x)):=by
 rw [← qa6]; exact qhr (by kernel_rfl) (qH6.trans (qgP x).symm)
theorem qgR (x:reftype_substitution):PVal.agg [sl cS x.names,sl qaa x.by_] = .agg (qag x):=by rw [qa6]
theorem qkm (x0:(List Str)) (x1:(List tPred)):qbL Pg 163 [(0,sl cS x0),(1,sl qaa x1)] = some (.agg (qag (⟨x0,x1⟩:reftype_substitution))):=by
 kernel_rfl
theorem qeF (x:reftype_substitution):qaM Pg 163 (.eptr (qag x)) 0 = some (.eptr ((qag x).drop 0)):=by kernel_rfl
theorem qcZ (x:reftype_substitution):qaM Pg 163 (.eptr (qag x)) 1 = some (.eptr ((qag x).drop 1)):=by kernel_rfl
theorem qe1 (x:reftype_substitution):qbg Pg 22 ((qag x).drop 0) = some (sl cS x.names):=by kernel_rfl
theorem qc9 (x:reftype_substitution):qbg Pg 29 ((qag x).drop 1) = some (sl qaa x.by_):=by kernel_rfl
structure liquidcheckref32_Change where
 Names:(List Str)
 By:(List tPred)
def qah (x:liquidcheckref32_Change):List PVal:=[sl cS x.Names,sl qaa x.By]
theorem qa3 (x:liquidcheckref32_Change):qah x = [sl cS x.Names,sl qaa x.By]:=rfl
theorem qbK (x:liquidcheckref32_Change):clL 0 (qah x):=(aI (qad clS x.Names) (aI (qad qab x.By) trivial))
theorem qku (x:liquidcheckref32_Change):(qah x).length = 2:=by rw [qa3]; rfl
theorem qdt (x:liquidcheckref32_Change):qaJ (.agg (qah x)) = some (qah x):=rfl
theorem qfB (x:liquidcheckref32_Change):qaJ (.agg (qah x)) = some [sl cS x.Names,sl qaa x.By]:=by rw [qa3]; rfl
theorem qIO:Pg.cellsOf 167 = 2:=by kernel_rfl
theorem qbC (x:liquidcheckref32_Change) (r:List PVal):qbg Pg 167 ([sl cS x.Names,sl qaa x.By] ++ r) = some (.agg (qah x)):=by
 rw [← qa3]; exact qhr (by kernel_rfl) (qIO.trans (qku x).symm)
theorem qka (x:liquidcheckref32_Change):PVal.agg [sl cS x.Names,sl qaa x.By] = .agg (qah x):=by rw [qa3]
theorem qeZ:qbL Pg 167 [] = some (.agg (qah (⟨([]:List Str),([]:List tPred)⟩:liquidcheckref32_Change))):=by
 kernel_rfl
theorem qe2:pnil Pg 167 [] [(0,9),(1,31)]:=by
 exact ⟨[.val nilV,.val nilV],by kernel_rfl,(aI rfl (aI rfl trivial))⟩
theorem qhZ (x:liquidcheckref32_Change):qaM Pg 167 (.eptr (qah x)) 0 = some (.eptr ((qah x).drop 0)):=by kernel_rfl
theorem qbz (x:liquidcheckref32_Change):qaM Pg 167 (.eptr (qah x)) 1 = some (.eptr ((qah x).drop 1)):=by kernel_rfl
theorem qig (x:liquidcheckref32_Change):qbg Pg 22 ((qah x).drop 0) = some (sl cS x.Names):=by kernel_rfl
theorem qbG (x:liquidcheckref32_Change):qbg Pg 29 ((qah x).drop 1) = some (sl qaa x.By):=by kernel_rfl
theorem co9:Pg.cellsOf 9 = 1:=by kernel_rfl
theorem sT22:SlT Pg 22 9 cS:=⟨Tryz.underlying22,fun _ => co9.symm,by kernel_rfl,by rw [co9]; decide,by kernel_rfl,of_decide_eq_true (by kernel_rfl),oneS,clS⟩
theorem sT24:SlT Pg 24 76 qap:=⟨Tryz.underlying24,fun x => (qyu x).trans co76.symm,by kernel_rfl,by rw [co76]; decide,by kernel_rfl,of_decide_eq_true (by kernel_rfl),qFR,qaO⟩
theorem sT27:SlT Pg 27 33 qac:=⟨Tryz.underlying27,fun x => (qrB x).trans co33.symm,by kernel_rfl,by rw [co33]; decide,by kernel_rfl,of_decide_eq_true (by kernel_rfl),qE2,qaf⟩
theorem sT29:SlT Pg 29 31 qaa:=⟨Tryz.underlying29,fun x => (qvX x).trans co31.symm,by kernel_rfl,by rw [co31]; decide,by kernel_rfl,of_decide_eq_true (by kernel_rfl),qEK,qab⟩
theorem sT36:SlT Pg 36 88 qaz:=⟨Tryz.underlying36,fun x => (qxS x).trans co88.symm,by kernel_rfl,by rw [co88]; decide,by kernel_rfl,of_decide_eq_true (by kernel_rfl),qGj,qbN⟩
theorem sT38:SlT Pg 38 82 qai:=⟨Tryz.underlying38,fun x => (qve x).trans co82.symm,by kernel_rfl,by rw [co82]; decide,by kernel_rfl,of_decide_eq_true (by kernel_rfl),qFp,qaD⟩
theorem sT50:SlT Pg 50 61 qaK:=⟨Tryz.underlying50,fun x => (qsm x).trans co61.symm,by kernel_rfl,by rw [co61]; decide,by kernel_rfl,of_decide_eq_true (by kernel_rfl),qEl,qdA⟩
theorem sT59:SlT Pg 59 63 qcw:=⟨Tryz.underlying59,fun x => (qB1 x).trans co63.symm,by kernel_rfl,by rw [co63]; decide,by kernel_rfl,of_decide_eq_true (by kernel_rfl),qFQ,qmj⟩
theorem co5:Pg.cellsOf 5 = 1:=by kernel_rfl
theorem qIE:SlT Pg 165 5 (cI .u8):=⟨Tryz.underlying165,fun _ => co5.symm,by kernel_rfl,by rw [co5]; decide,by kernel_rfl,of_decide_eq_true (by kernel_rfl),(oneI .u8),(clI .u8)⟩
theorem qC7:(Pg.underlying 103).any qzc = true:=by kernel_rfl
theorem sc22:(Pg.underlying 22).any qzc = true:=by kernel_rfl
theorem sc24:(Pg.underlying 24).any qzc = true:=by kernel_rfl
theorem sc29:(Pg.underlying 29).any qzc = true:=by kernel_rfl
theorem sc36:(Pg.underlying 36).any qzc = true:=by kernel_rfl
theorem sc38:(Pg.underlying 38).any qzc = true:=by kernel_rfl
theorem sc9:(Pg.underlying 9).any qzc = true:=by kernel_rfl
theorem zv4:qxE Pg 4 = some (PVal.bool false):=by kernel_rfl
theorem pz31:qh0 Pg 31 = some [.int .i64 0,.str ([]:Str),.int .i64 0,sl qaa ([]:List tPred)]:=by kernel_rfl
theorem pz33:qh0 Pg 33 = some [.int .i64 0,.str ([]:Str),sl qac ([]:List tType),sl cS ([]:List Str),.int .i64 0,.str ([]:Str),.int .i64 0,sl qaa ([]:List tPred),sl qaa ([]:List tPred)]:=by kernel_rfl
theorem pz57:qh0 Pg 57 = some [sl qaK ([]:List tData),sl qo9 ([]:List tClass),sl qfz ([]:List tInstance),sl qgS ([]:List tMeasure),sl qnV ([]:List tQual),sl qpG ([]:List tDef)]:=by kernel_rfl
theorem pz61:qh0 Pg 61 = some [.str ([]:Str),sl cS ([]:List Str),sl qaz ([]:List tVar),sl qcw ([]:List tCon)]:=by kernel_rfl
theorem pz63:qh0 Pg 63 = some [.str ([]:Str),sl cS ([]:List Str),sl qac ([]:List tType)]:=by kernel_rfl
theorem pz76:qh0 Pg 76 = some [.str ([]:Str),.str ([]:Str)]:=by kernel_rfl
theorem pz82:qh0 Pg 82 = some [.str ([]:Str),sl qaz ([]:List tVar)]:=by kernel_rfl
theorem pz88:qh0 Pg 88 = some [.str ([]:Str),.str ([]:Str)]:=by kernel_rfl
theorem qC0:qh0 Pg 163 = some [sl cS ([]:List Str),sl qaa ([]:List tPred)]:=by kernel_rfl
theorem qHy:qh0 Pg 167 = some [sl cS ([]:List Str),sl qaa ([]:List tPred)]:=by kernel_rfl
def qe3:List Int:=[1,10,100,1000,10000,100000,1000000,10000000,100000000,1000000000,10000000000,100000000000,1000000000000,10000000000000,100000000000000,1000000000000000,10000000000000000,100000000000000000,1000000000000000000,10000000000000000000]
theorem qIL:Pg.cellsOf 202 = 20:=by kernel_rfl
theorem qIM:Pg.cellsOf 182 = 1:=by kernel_rfl
def qnb:List Int:=[0,1,28,2,29,14,24,3,30,22,20,15,25,17,4,8,31,27,13,23,21,19,16,7,26,12,18,6,11,5,10,9]
theorem qIN:Pg.cellsOf 208 = 32:=by kernel_rfl
def qmU:List Int:=[0,1,56,2,57,49,28,3,61,58,42,50,38,29,17,4,62,47,59,36,45,43,51,22,53,39,33,30,24,18,12,5,63,55,48,27,60,41,37,16,46,35,44,21,52,32,23,11,54,26,40,15,34,20,31,10,25,14,19,9,13,8,7,6]
theorem qIX:Pg.cellsOf 209 = 64:=by kernel_rfl
def GE:List (Nat×List PVal):=[(0,qe3.map (PVal.int .u64)),(1,qnb.map (PVal.int .u8)),(2,qmU.map (PVal.int .u8))]
theorem pcZ (A:List Nat) {m:Nat} {c:Code} {sc:List It} {F:Prop} {e0:Exit} {st0 st:PSt} (h:PS sc F) (he:F = evC Pg GE A m c sc st (FN e0 st0)):Sat Pg GE m c (EX e0 st0) st:=qjJ mixed h he
theorem nxZ (A:List Nat) {m:Nat} {c:Code} {sc:List It} {F:Prop} {σ X:Type} {S:σ→PSt} {ex:X→Exit} {so:X→PSt} {s:σ} {st:PSt} (h:PS sc F) (he:F = evC Pg GE A m c sc st (FN .normal (S s))):Sat Pg GE m c (LQ S ex so (.inl s)) st:=qIB mixed h he
theorem ovZ (A:List Nat) {m:Nat} {c:Code} {sc:List It} {F:Prop} {σ X:Type} {S:σ→PSt} {ex:X→Exit} {so:X→PSt} {x:X} {st:PSt} (hn:ex x ≠ .normal) (h:PS sc F) (he:F = evC Pg GE A m c sc st (FN (ex x) (so x))):Sat Pg GE m c (LQ S ex so (.inr x)) st:=qIZ mixed hn h he
theorem cvZ (A:List Nat) {f:FuncId} {fn:Func} {c:Code} {args:List PVal} {r:PVal} {ro:List (Nat×TypeId)} (hcall:∀ vs w,(callFunc f vs).run Pg w = .ok (.enter f vs) w) (hfn:Pg.funcs[f]? = some fn) (hb:fn.body = some c) (hcl:clL 0 args) {sc:List It} {F:Prop} (h:PS sc F) (he:F = evC Pg GE A 0 c sc ⟨args ++ List.replicate (fn.ntmps - args.length) .undef,[],[]⟩ (FR Pg fn.results.toList r ro)):CC Pg GE f args r ro:=C.evp mixed hcall hfn hb hcl h he
abbrev waA := List tPred
abbrev waB := List Str
abbrev waC := List tType
abbrev waD := List tHole
abbrev waE := List tAbs
abbrev waF := List tVar
abbrev waG := List tCon
abbrev waH := List tData
end Go.Proofs.YtgldgpdhblndkaaGreatDoor
