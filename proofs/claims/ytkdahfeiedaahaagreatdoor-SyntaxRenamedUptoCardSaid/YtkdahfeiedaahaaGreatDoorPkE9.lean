/- PROVED: a part of the proof. Conditions: none. -/
import Derived.Test.YtkdahfeiedaahaaGreatDoorPkE8
import Derived.Test.YtkdahfeiedaahaaGreatDoorChecked
import Derived.Test.YtkdahfeiedaahaaGreatDoorProg
import Derived.Ground.SlgfProg
import Derived.Ground.SlgnProg
import Derived.Shelf.Lays
import Derived.Shelf.LaysM
import Derived.Shelf.SlGeneric
import Derived.Shelf.SlLaysE
import Derived.Shelf.SlLaysE0
import Derived.Shelf.SlLaysH
import Derived.Test.YtkdahfeiedaahaaGreatDoorPkE7
import Derived.Shelf.Strconv.Itoa3
import Derived.RangeFuncRecord
import Derived.RangeFuncSeq
noncomputable section
namespace Go.Proofs.YtkdahfeiedaahaaGreatDoor
open Go Go.Proofs.Tryz
set_option linter.unusedVariables false
set_option maxRecDepth 100000
noncomputable abbrev Pg:=Tryz.prog
theorem mixed:Pg.follows .mixedOrders=true:=by kernel_rfl
inductive ax where
 |mk (Op:Int) (Name:ag) (N:Int) (Kids:(List ax))
def ax.Op:ax->Int
 |⟨x,_,_,_⟩=>x
def ax.Name:ax->ag
 |⟨_,x,_,_⟩=>x
def ax.N:ax->Int
 |⟨_,_,x,_⟩=>x
def ax.Kids:ax->(List ax)
 |⟨_,_,_,x⟩=>x
mutual
def aw:ax->List PVal
 |⟨x0,x1,x2,x3⟩=>[.int .i64 x0,.str x1,.int .i64 x2,.slice (vQ x3)]
def vQ:List ax->List (List PVal)
 |[]=>[]
 |x::r=>aw x::vQ r
end
theorem H3:∀(l:List ax),vQ l=l.map aw
 |[]=>by simp[vQ]
 |x::r=>by simp[vQ,H3 r]
mutual
theorem bO:∀(x:ax),li 0 (aw x)
 |⟨x0,x1,x2,x3⟩=>by rw[aw];exact(aI trivial (aI trivial (aI trivial (aI (JW x3) trivial))))
theorem JW:∀(l:List ax),u7 0 (vQ l)
 |[]=>by simp[vQ,u7]
 |x::r=>by rw[vQ];exact⟨bO x,JW r⟩
end
theorem eC:∀(x:ax),aw x=[.int .i64 x.Op,.str x.Name,.int .i64 x.N,sl aw x.Kids]
 |⟨x0,x1,x2,x3⟩=>by
  simp only[aw,H3]
  rfl
abbrev LP(x:ax):PVal:=.agg (aw x)
theorem ES(x:ax):(aw x).length=4:=by rw[eC];rfl
theorem DV(x:ax):cN (.agg (aw x))=some (aw x):=rfl
theorem Ko(x:ax):cN (LP x)=some (aw x):=rfl
theorem AW(x:ax):cN (.agg (aw x))=some [.int .i64 x.Op,.str x.Name,.int .i64 x.N,sl aw x.Kids]:=by rw[eC];rfl
theorem PY(x:ax):∀q∈aw x,q.one=true:=by
 intro q hq
 rw[eC]at hq
 simp only[vaE,vbF,or_false]at hq
 rcases hq with rfl|rfl|rfl|rfl<;>rfl
theorem Tg:Pg.cellsOf 58=4:=by kernel_rfl
theorem pN(x:ax):bK Pg 58 (aw x)=some (.agg (aw x)):=by
 have:=sM (P:=Pg) (t:=58) (l:=aw x) (r:=[]) (by kernel_rfl) (Tg.trans (ES x).symm)
 rwa[vbk]at this
theorem wV(x:ax)(r:List PVal):bK Pg 58 ([.int .i64 x.Op,.str x.Name,.int .i64 x.N,sl aw x.Kids]++r)=some (.agg (aw x)):=by
 rw[<-eC];exact sM (by kernel_rfl) (Tg.trans (ES x).symm)
theorem Qh(x:ax):PVal.agg [.int .i64 x.Op,.str x.Name,.int .i64 x.N,sl aw x.Kids]=.agg (aw x):=by rw[eC]
theorem rE(x:ax):bh Pg 58 (.eptr (aw x)) 0=some (.eptr ((aw x).drop 0)):=by rw[eC];kernel_rfl
theorem n8(x:ax):bh Pg 58 (.eptr (aw x)) 1=some (.eptr ((aw x).drop 1)):=by rw[eC];kernel_rfl
theorem rF(x:ax):bh Pg 58 (.eptr (aw x)) 2=some (.eptr ((aw x).drop 2)):=by rw[eC];kernel_rfl
theorem gI(x:ax):bh Pg 58 (.eptr (aw x)) 3=some (.eptr ((aw x).drop 3)):=by rw[eC];kernel_rfl
theorem rH(x:ax):bK Pg 55 ((aw x).drop 0)=some (.int .i64 x.Op):=by rw[eC];kernel_rfl
theorem pM(x:ax):bK Pg 9 ((aw x).drop 1)=some (.str x.Name):=by rw[eC];kernel_rfl
theorem tB(x:ax):bK Pg 3 ((aw x).drop 2)=some (.int .i64 x.N):=by rw[eC];kernel_rfl
theorem gK(x:ax):bK Pg 56 ((aw x).drop 3)=some (sl aw x.Kids):=by rw[eC];kernel_rfl
inductive aj where
 |mk (Op:Int) (Name:ag) (Args:(List aj)) (Names:(List ag)) (Pred:ax) (Preds:(List ax))
def aj.Op:aj->Int
 |⟨x,_,_,_,_,_⟩=>x
def aj.Name:aj->ag
 |⟨_,x,_,_,_,_⟩=>x
def aj.Args:aj->(List aj)
 |⟨_,_,x,_,_,_⟩=>x
def aj.Names:aj->(List ag)
 |⟨_,_,_,x,_,_⟩=>x
def aj.Pred:aj->ax
 |⟨_,_,_,_,x,_⟩=>x
def aj.Preds:aj->(List ax)
 |⟨_,_,_,_,_,x⟩=>x
mutual
def ai:aj->List PVal
 |⟨x0,x1,x2,x3,x4,x5⟩=>[.int .i64 x0,.str x1,.slice (vR x2),sl cS x3]++(aw x4++([sl aw x5]))
def vR:List aj->List (List PVal)
 |[]=>[]
 |x::r=>ai x::vR r
end
theorem H4:∀(l:List aj),vR l=l.map ai
 |[]=>by simp[vR]
 |x::r=>by simp[vR,H4 r]
mutual
theorem aN:∀(x:aj),li 0 (ai x)
 |⟨x0,x1,x2,x3,x4,x5⟩=>by rw[ai];exact Cp.2 (aI ((aI trivial (aI trivial (aI (JX x2) (aI (au cb x3) trivial))))) (Cp.2 (aI (bO x4) ((aI (au bO x5) trivial)))))
theorem JX:∀(l:List aj),u7 0 (vR l)
 |[]=>by simp[vR,u7]
 |x::r=>by rw[vR];exact⟨aN x,JX r⟩
end
theorem dW:∀(x:aj),ai x=[.int .i64 x.Op,.str x.Name,sl ai x.Args,sl cS x.Names,.int .i64 x.Pred.Op,.str x.Pred.Name,.int .i64 x.Pred.N,sl aw x.Pred.Kids,sl aw x.Preds]
 |⟨x0,x1,x2,x3,x4,x5⟩=>by
  simp only[ai,H4,eC,va1,vbj]
  rfl
abbrev LR(x:aj):PVal:=.agg (ai x)
theorem ET(x:aj):(ai x).length=9:=by rw[dW];rfl
theorem pS(x:aj):cN (.agg (ai x))=some (ai x):=rfl
theorem Kp(x:aj):cN (LR x)=some (ai x):=rfl
theorem qX(x:aj):cN (.agg (ai x))=some [.int .i64 x.Op,.str x.Name,sl ai x.Args,sl cS x.Names,.int .i64 x.Pred.Op,.str x.Pred.Name,.int .i64 x.Pred.N,sl aw x.Pred.Kids,sl aw x.Preds]:=by rw[dW];rfl
theorem PZ(x:aj):∀q∈ai x,q.one=true:=by
 intro q hq
 rw[dW]at hq
 simp only[vaE,vbF,or_false]at hq
 rcases hq with rfl|rfl|rfl|rfl|rfl|rfl|rfl|rfl|rfl<;>rfl
theorem Th:Pg.cellsOf 60=9:=by kernel_rfl
theorem lm(x:aj):bK Pg 60 (ai x)=some (.agg (ai x)):=by
 have:=sM (P:=Pg) (t:=60) (l:=ai x) (r:=[]) (by kernel_rfl) (Th.trans (ET x).symm)
 rwa[vbk]at this
theorem kn(x:aj)(r:List PVal):bK Pg 60 ([.int .i64 x.Op,.str x.Name,sl ai x.Args,sl cS x.Names,.int .i64 x.Pred.Op,.str x.Pred.Name,.int .i64 x.Pred.N,sl aw x.Pred.Kids,sl aw x.Preds]++r)=some (.agg (ai x)):=by
 rw[<-dW];exact sM (by kernel_rfl) (Th.trans (ET x).symm)
theorem Qi(x:aj):PVal.agg [.int .i64 x.Op,.str x.Name,sl ai x.Args,sl cS x.Names,.int .i64 x.Pred.Op,.str x.Pred.Name,.int .i64 x.Pred.N,sl aw x.Pred.Kids,sl aw x.Preds]=.agg (ai x):=by rw[dW]
theorem NA:dX Pg 60 []=some (.agg (ai (⟨0,([]:ag),([]:List aj),([]:List ag),(⟨0,([]:ag),0,([]:List ax)⟩:ax),([]:List ax)⟩:aj))):=by
 simp only[dW]
 kernel_rfl
theorem Nz:DZ Pg 60 [] [(2,60),(3,9),(7,58),(8,58)]:=by
 exact⟨[.int .i64 0,.str ([]:ag),.val px,.val px,.int .i64 0,.str ([]:ag),.int .i64 0,.val px,.val px],by kernel_rfl,(aI rfl (aI rfl (aI rfl (aI rfl trivial))))⟩
theorem cO(x:aj):bh Pg 60 (.eptr (ai x)) 0=some (.eptr ((ai x).drop 0)):=by rw[dW];kernel_rfl
theorem gJ(x:aj):bh Pg 60 (.eptr (ai x)) 1=some (.eptr ((ai x).drop 1)):=by rw[dW];kernel_rfl
theorem dG(x:aj):bh Pg 60 (.eptr (ai x)) 2=some (.eptr ((ai x).drop 2)):=by rw[dW];kernel_rfl
theorem eL(x:aj):bh Pg 60 (.eptr (ai x)) 3=some (.eptr ((ai x).drop 3)):=by rw[dW];kernel_rfl
theorem n9(x:aj):bh Pg 60 (.eptr (ai x)) 4=some (.eptr ((ai x).drop 4)):=by rw[dW];kernel_rfl
theorem iJ(x:aj):bh Pg 60 (.eptr (ai x)) 5=some (.eptr ((ai x).drop 8)):=by rw[dW];kernel_rfl
theorem cP(x:aj):bK Pg 54 ((ai x).drop 0)=some (.int .i64 x.Op):=by rw[dW];kernel_rfl
theorem iE(x:aj):bK Pg 9 ((ai x).drop 1)=some (.str x.Name):=by rw[dW];kernel_rfl
theorem dH(x:aj):bK Pg 26 ((ai x).drop 2)=some (sl ai x.Args):=by rw[dW];kernel_rfl
theorem eO(x:aj):bK Pg 38 ((ai x).drop 3)=some (sl cS x.Names):=by rw[dW];kernel_rfl
theorem oc(x:aj):bK Pg 58 ((ai x).drop 4)=some (.agg (aw x.Pred)):=by
 rw[dW,eC];kernel_rfl
theorem iL(x:aj):bK Pg 56 ((ai x).drop 8)=some (sl aw x.Preds):=by rw[dW];kernel_rfl
structure av where
 Name:ag
 Type_:aj
def aq(x:av):List PVal:=[.str x.Name]++(ai x.Type_)
theorem iO(x:av):aq x=[.str x.Name,.int .i64 x.Type_.Op,.str x.Type_.Name,sl ai x.Type_.Args,sl cS x.Type_.Names,.int .i64 x.Type_.Pred.Op,.str x.Type_.Pred.Name,.int .i64 x.Type_.Pred.N,sl aw x.Type_.Pred.Kids,sl aw x.Type_.Preds]:=by
 unfold aq
 simp only[dW,va1,vbj]
theorem bo(x:av):li 0 (aq x):=by rw[iO];exact(aI trivial (aI trivial (aI trivial (aI (au aN x.Type_.Args) (aI (au cb x.Type_.Names) (aI trivial (aI trivial (aI trivial (aI (au bO x.Type_.Pred.Kids) (aI (au bO x.Type_.Preds) trivial))))))))))
abbrev Az(x:av):PVal:=.agg (aq x)
theorem Cu(x:av):(aq x).length=10:=by rw[iO];rfl
theorem yc(x:av):cN (Az x)=some (aq x):=rfl
theorem mQ(x:av):cN (.agg (aq x))=some [.str x.Name,.int .i64 x.Type_.Op,.str x.Type_.Name,sl ai x.Type_.Args,sl cS x.Type_.Names,.int .i64 x.Type_.Pred.Op,.str x.Type_.Pred.Name,.int .i64 x.Type_.Pred.N,sl aw x.Type_.Pred.Kids,sl aw x.Type_.Preds]:=by rw[iO];rfl
theorem NZ(x:av):∀q∈aq x,q.one=true:=by
 intro q hq
 rw[iO]at hq
 simp only[vaE,vbF,or_false]at hq
 rcases hq with rfl|rfl|rfl|rfl|rfl|rfl|rfl|rfl|rfl|rfl<;>rfl
theorem Ti:Pg.cellsOf 85=10:=by kernel_rfl
theorem AQ(x:av):bK Pg 85 (aq x)=some (.agg (aq x)):=by
 have:=sM (P:=Pg) (t:=85) (l:=aq x) (r:=[]) (by kernel_rfl) (Ti.trans (Cu x).symm)
 rwa[vbk]at this
theorem H9(x:av)(r:List PVal):bK Pg 85 ([.str x.Name,.int .i64 x.Type_.Op,.str x.Type_.Name,sl ai x.Type_.Args,sl cS x.Type_.Names,.int .i64 x.Type_.Pred.Op,.str x.Type_.Pred.Name,.int .i64 x.Type_.Pred.N,sl aw x.Type_.Pred.Kids,sl aw x.Type_.Preds]++r)=some (.agg (aq x)):=by
 rw[<-iO];exact sM (by kernel_rfl) (Ti.trans (Cu x).symm)
theorem II(x:av):PVal.agg [.str x.Name,.int .i64 x.Type_.Op,.str x.Type_.Name,sl ai x.Type_.Args,sl cS x.Type_.Names,.int .i64 x.Type_.Pred.Op,.str x.Type_.Pred.Name,.int .i64 x.Type_.Pred.N,sl aw x.Type_.Pred.Kids,sl aw x.Type_.Preds]=.agg (aq x):=by rw[iO]
theorem BJ(x0:ag)(x1:aj):dX Pg 85 [(0,.str x0),(1,.agg (ai x1))]=some (.agg (aq (⟨x0,x1⟩:av))):=by
 simp only[iO,dW]
 kernel_rfl
theorem FL(x0:ag):dX Pg 85 [(0,.str x0)]=some (.agg (aq (⟨x0,(⟨0,([]:ag),([]:List aj),([]:List ag),(⟨0,([]:ag),0,([]:List ax)⟩:ax),([]:List ax)⟩:aj)⟩:av))):=by
 simp only[iO]
 kernel_rfl
theorem FK(x0:ag):DZ Pg 85 [(0,.str x0)] [(3,60),(4,9),(8,58),(9,58)]:=by
 exact⟨[.str x0,.int .i64 0,.str ([]:ag),.val px,.val px,.int .i64 0,.str ([]:ag),.int .i64 0,.val px,.val px],by kernel_rfl,(aI rfl (aI rfl (aI rfl (aI rfl trivial))))⟩
theorem pH(x:av):bh Pg 85 (.eptr (aq x)) 0=some (.eptr ((aq x).drop 0)):=by rw[iO];kernel_rfl
theorem uw(x:av):bh Pg 85 (.eptr (aq x)) 1=some (.eptr ((aq x).drop 1)):=by rw[iO];kernel_rfl
theorem rG(x:av):bK Pg 9 ((aq x).drop 0)=some (.str x.Name):=by rw[iO];kernel_rfl
theorem uB(x:av):bK Pg 60 ((aq x).drop 1)=some (.agg (ai x.Type_)):=by
 rw[iO,dW];kernel_rfl
mutual
inductive af where
 |mk (Op:Int) (Name:ag) (N:Int) (Kids:(List af)) (Params:(List av)) (Alts:(List aH)) (Types:(List aj))
inductive aH where
 |mk (Con:ag) (Names:(List ag)) (Body:af)
end
def af.Op:af->Int
 |⟨x,_,_,_,_,_,_⟩=>x
def af.Name:af->ag
 |⟨_,x,_,_,_,_,_⟩=>x
def af.N:af->Int
 |⟨_,_,x,_,_,_,_⟩=>x
def af.Kids:af->(List af)
 |⟨_,_,_,x,_,_,_⟩=>x
def af.Params:af->(List av)
 |⟨_,_,_,_,x,_,_⟩=>x
def af.Alts:af->(List aH)
 |⟨_,_,_,_,_,x,_⟩=>x
def af.Types:af->(List aj)
 |⟨_,_,_,_,_,_,x⟩=>x
def aH.Con:aH->ag
 |⟨x,_,_⟩=>x
def aH.Names:aH->(List ag)
 |⟨_,x,_⟩=>x
def aH.Body:aH->af
 |⟨_,_,x⟩=>x
mutual
def ae:af->List PVal
 |⟨x0,x1,x2,x3,x4,x5,x6⟩=>[.int .i64 x0,.str x1,.int .i64 x2,.slice (vP x3),sl aq x4,.slice (zR x5),sl ai x6]
def az:aH->List PVal
 |⟨x0,x1,x2⟩=>[.str x0,sl cS x1]++(ae x2)
def vP:List af->List (List PVal)
 |[]=>[]
 |x::r=>ae x::vP r
def zR:List aH->List (List PVal)
 |[]=>[]
 |x::r=>az x::zR r
end
theorem H1:∀(l:List af),vP l=l.map ae
 |[]=>by simp[vP]
 |x::r=>by simp[vP,H1 r]
theorem Kb:∀(l:List aH),zR l=l.map az
 |[]=>by simp[zR]
 |x::r=>by simp[zR,Kb r]
mutual
theorem ay:∀(x:af),li 0 (ae x)
 |⟨x0,x1,x2,x3,x4,x5,x6⟩=>by rw[ae];exact(aI trivial (aI trivial (aI trivial (aI (JV x3) (aI (au bo x4) (aI (Me x5) (aI (au aN x6) trivial)))))))
theorem bW:∀(x:aH),li 0 (az x)
 |⟨x0,x1,x2⟩=>by rw[az];exact Cp.2 (aI ((aI trivial (aI (au cb x1) trivial))) (ay x2))
theorem JV:∀(l:List af),u7 0 (vP l)
 |[]=>by simp[vP,u7]
 |x::r=>by rw[vP];exact⟨ay x,JV r⟩
theorem Me:∀(l:List aH),u7 0 (zR l)
 |[]=>by simp[zR,u7]
 |x::r=>by rw[zR];exact⟨bW x,Me r⟩
end
theorem bD:∀(x:af),ae x=[.int .i64 x.Op,.str x.Name,.int .i64 x.N,sl ae x.Kids,sl aq x.Params,sl az x.Alts,sl ai x.Types]
 |⟨x0,x1,x2,x3,x4,x5,x6⟩=>by
  simp only[ae,H1,Kb]
  rfl
abbrev rR(x:af):PVal:=.agg (ae x)
theorem ER(x:af):(ae x).length=7:=by rw[bD];rfl
theorem cJ(x:af):cN (.agg (ae x))=some (ae x):=rfl
theorem nk(x:af):cN (rR x)=some (ae x):=rfl
theorem kv(x:af):cN (.agg (ae x))=some [.int .i64 x.Op,.str x.Name,.int .i64 x.N,sl ae x.Kids,sl aq x.Params,sl az x.Alts,sl ai x.Types]:=by rw[bD];rfl
theorem PX(x:af):∀q∈ae x,q.one=true:=by
 intro q hq
 rw[bD]at hq
 simp only[vaE,vbF,or_false]at hq
 rcases hq with rfl|rfl|rfl|rfl|rfl|rfl|rfl<;>rfl
theorem Tf:Pg.cellsOf 28=7:=by kernel_rfl
theorem Tj:Pg.cellsOf 89=9:=by kernel_rfl
theorem bv(x:af):bK Pg 28 (ae x)=some (.agg (ae x)):=by
 have:=sM (P:=Pg) (t:=28) (l:=ae x) (r:=[]) (by kernel_rfl) (Tf.trans (ER x).symm)
 rwa[vbk]at this
theorem bu(x:af)(r:List PVal):bK Pg 28 ([.int .i64 x.Op,.str x.Name,.int .i64 x.N,sl ae x.Kids,sl aq x.Params,sl az x.Alts,sl ai x.Types]++r)=some (.agg (ae x)):=by
 rw[<-bD];exact sM (by kernel_rfl) (Tf.trans (ER x).symm)
theorem ra(x:af):PVal.agg [.int .i64 x.Op,.str x.Name,.int .i64 x.N,sl ae x.Kids,sl aq x.Params,sl az x.Alts,sl ai x.Types]=.agg (ae x):=by rw[bD]
theorem Dp(x0:Int)(x1:ag):dX Pg 28 [(0,.int .i64 x0),(1,.str x1)]=some (.agg (ae (⟨x0,x1,0,([]:List af),([]:List av),([]:List aH),([]:List aj)⟩:af))):=by
 simp only[bD]
 kernel_rfl
theorem Dk(x0:Int)(x1:ag):DZ Pg 28 [(0,.int .i64 x0),(1,.str x1)] [(3,28),(4,85),(5,89),(6,60)]:=by
 exact⟨[.int .i64 x0,.str x1,.int .i64 0,.val px,.val px,.val px,.val px],by kernel_rfl,(aI rfl (aI rfl (aI rfl (aI rfl trivial))))⟩
theorem zF(x0:Int)(x1:ag)(x3:(List af)):dX Pg 28 [(0,.int .i64 x0),(1,.str x1),(3,sl ae x3)]=some (.agg (ae (⟨x0,x1,0,x3,([]:List av),([]:List aH),([]:List aj)⟩:af))):=by
 simp only[bD]
 kernel_rfl
theorem zD(x0:Int)(x1:ag)(x3:(List af)):DZ Pg 28 [(0,.int .i64 x0),(1,.str x1),(3,sl ae x3)] [(4,85),(5,89),(6,60)]:=by
 exact⟨[.int .i64 x0,.str x1,.int .i64 0,sl ae x3,.val px,.val px,.val px],by kernel_rfl,(aI rfl (aI rfl (aI rfl trivial)))⟩
theorem KZ(x0:Int)(x2:Int):dX Pg 28 [(0,.int .i64 x0),(2,.int .i64 x2)]=some (.agg (ae (⟨x0,([]:ag),x2,([]:List af),([]:List av),([]:List aH),([]:List aj)⟩:af))):=by
 simp only[bD]
 kernel_rfl
theorem KW(x0:Int)(x2:Int):DZ Pg 28 [(0,.int .i64 x0),(2,.int .i64 x2)] [(3,28),(4,85),(5,89),(6,60)]:=by
 exact⟨[.int .i64 x0,.str ([]:ag),.int .i64 x2,.val px,.val px,.val px,.val px],by kernel_rfl,(aI rfl (aI rfl (aI rfl (aI rfl trivial))))⟩
theorem K0(x0:Int)(x3:(List af)):dX Pg 28 [(0,.int .i64 x0),(3,sl ae x3)]=some (.agg (ae (⟨x0,([]:ag),0,x3,([]:List av),([]:List aH),([]:List aj)⟩:af))):=by
 simp only[bD]
 kernel_rfl
theorem KX(x0:Int)(x3:(List af)):DZ Pg 28 [(0,.int .i64 x0),(3,sl ae x3)] [(4,85),(5,89),(6,60)]:=by
 exact⟨[.int .i64 x0,.str ([]:ag),.int .i64 0,sl ae x3,.val px,.val px,.val px],by kernel_rfl,(aI rfl (aI rfl (aI rfl trivial)))⟩
theorem zG(x0:Int)(x4:(List av))(x3:(List af)):dX Pg 28 [(0,.int .i64 x0),(4,sl aq x4),(3,sl ae x3)]=some (.agg (ae (⟨x0,([]:ag),0,x3,x4,([]:List aH),([]:List aj)⟩:af))):=by
 simp only[bD]
 kernel_rfl
theorem zE(x0:Int)(x4:(List av))(x3:(List af)):DZ Pg 28 [(0,.int .i64 x0),(4,sl aq x4),(3,sl ae x3)] [(5,89),(6,60)]:=by
 exact⟨[.int .i64 x0,.str ([]:ag),.int .i64 0,sl ae x3,sl aq x4,.val px,.val px],by kernel_rfl,(aI rfl (aI rfl trivial))⟩
theorem cX(x:af):bh Pg 28 (.eptr (ae x)) 0=some (.eptr ((ae x).drop 0)):=by rw[bD];kernel_rfl
theorem eu(x:af):bh Pg 28 (.eptr (ae x)) 1=some (.eptr ((ae x).drop 1)):=by rw[bD];kernel_rfl
theorem iI(x:af):bh Pg 28 (.eptr (ae x)) 2=some (.eptr ((ae x).drop 2)):=by rw[bD];kernel_rfl
theorem aX(x:af):bh Pg 28 (.eptr (ae x)) 3=some (.eptr ((ae x).drop 3)):=by rw[bD];kernel_rfl
theorem bE(x:af):bh Pg 28 (.eptr (ae x)) 4=some (.eptr ((ae x).drop 4)):=by rw[bD];kernel_rfl
theorem aE(x:af):bh Pg 28 (.eptr (ae x)) 5=some (.eptr ((ae x).drop 5)):=by rw[bD];kernel_rfl
theorem aL(x:af):bh Pg 28 (.eptr (ae x)) 6=some (.eptr ((ae x).drop 6)):=by rw[bD];kernel_rfl
theorem cY(x:af):bK Pg 22 ((ae x).drop 0)=some (.int .i64 x.Op):=by rw[bD];kernel_rfl
theorem fc(x:af):bK Pg 9 ((ae x).drop 1)=some (.str x.Name):=by rw[bD];kernel_rfl
theorem jM(x:af):bK Pg 3 ((ae x).drop 2)=some (.int .i64 x.N):=by rw[bD];kernel_rfl
theorem aY(x:af):bK Pg 23 ((ae x).drop 3)=some (sl ae x.Kids):=by rw[bD];kernel_rfl
theorem bG(x:af):bK Pg 24 ((ae x).drop 4)=some (sl aq x.Params):=by rw[bD];kernel_rfl
theorem aF(x:af):bK Pg 25 ((ae x).drop 5)=some (sl az x.Alts):=by rw[bD];kernel_rfl
theorem aM(x:af):bK Pg 26 ((ae x).drop 6)=some (sl ai x.Types):=by rw[bD];kernel_rfl
theorem nh:∀(x:aH),az x=[.str x.Con,sl cS x.Names,.int .i64 x.Body.Op,.str x.Body.Name,.int .i64 x.Body.N,sl ae x.Body.Kids,sl aq x.Body.Params,sl az x.Body.Alts,sl ai x.Body.Types]
 |⟨x0,x1,x2⟩=>by
  simp only[az,bD,va1,vbj]
  rfl
abbrev Oi(x:aH):PVal:=.agg (az x)
theorem H7(x:aH):(az x).length=9:=by rw[nh];rfl
theorem LA(x:aH):cN (.agg (az x))=some (az x):=rfl
theorem MR(x:aH):cN (Oi x)=some (az x):=rfl
theorem i8(x:aH):cN (.agg (az x))=some [.str x.Con,sl cS x.Names,.int .i64 x.Body.Op,.str x.Body.Name,.int .i64 x.Body.N,sl ae x.Body.Kids,sl aq x.Body.Params,sl az x.Body.Alts,sl ai x.Body.Types]:=by rw[nh];rfl
theorem Si(x:aH):∀q∈az x,q.one=true:=by
 intro q hq
 rw[nh]at hq
 simp only[vaE,vbF,or_false]at hq
 rcases hq with rfl|rfl|rfl|rfl|rfl|rfl|rfl|rfl|rfl<;>rfl
theorem mi(x:aH):bK Pg 89 (az x)=some (.agg (az x)):=by
 have:=sM (P:=Pg) (t:=89) (l:=az x) (r:=[]) (by kernel_rfl) (Tj.trans (H7 x).symm)
 rwa[vbk]at this
theorem MD(x:aH)(r:List PVal):bK Pg 89 ([.str x.Con,sl cS x.Names,.int .i64 x.Body.Op,.str x.Body.Name,.int .i64 x.Body.N,sl ae x.Body.Kids,sl aq x.Body.Params,sl az x.Body.Alts,sl ai x.Body.Types]++r)=some (.agg (az x)):=by
 rw[<-nh];exact sM (by kernel_rfl) (Tj.trans (H7 x).symm)
theorem M5(x:aH):PVal.agg [.str x.Con,sl cS x.Names,.int .i64 x.Body.Op,.str x.Body.Name,.int .i64 x.Body.N,sl ae x.Body.Kids,sl aq x.Body.Params,sl az x.Body.Alts,sl ai x.Body.Types]=.agg (az x):=by rw[nh]
theorem BI(x0:ag)(x1:(List ag))(x2:af):dX Pg 89 [(0,.str x0),(1,sl cS x1),(2,.agg (ae x2))]=some (.agg (az (⟨x0,x1,x2⟩:aH))):=by
 simp only[nh,bD]
 kernel_rfl
theorem xU(x:aH):bh Pg 89 (.eptr (az x)) 0=some (.eptr ((az x).drop 0)):=by rw[nh];kernel_rfl
theorem pG(x:aH):bh Pg 89 (.eptr (az x)) 1=some (.eptr ((az x).drop 1)):=by rw[nh];kernel_rfl
theorem tv(x:aH):bh Pg 89 (.eptr (az x)) 2=some (.eptr ((az x).drop 2)):=by rw[nh];kernel_rfl
theorem zT(x:aH):bK Pg 9 ((az x).drop 0)=some (.str x.Con):=by rw[nh];kernel_rfl
theorem pL(x:aH):bK Pg 38 ((az x).drop 1)=some (sl cS x.Names):=by rw[nh];kernel_rfl
theorem tA(x:aH):bK Pg 28 ((az x).drop 2)=some (.agg (ae x.Body)):=by
 rw[nh,bD];kernel_rfl
structure aa where
 old:ag
 new:ag
deriving DecidableEq
def ac(x:aa):List PVal:=[.str x.old,.str x.new]
theorem uv(x:aa):ac x=[.str x.old,.str x.new]:=rfl
theorem al(x:aa):li 0 (ac x):=(aI trivial (aI trivial trivial))
abbrev oo(x:aa):PVal:=.agg (ac x)
theorem yv(x:aa):(ac x).length=2:=by rw[uv];rfl
theorem oF(x:aa):cN (oo x)=some (ac x):=rfl
theorem GS(x:aa):cN (.agg (ac x))=some [.str x.old,.str x.new]:=by rw[uv];rfl
theorem GR(x:aa):∀q∈ac x,q.one=true:=by
 intro q hq
 rw[uv]at hq
 simp only[vaE,vbF,or_false]at hq
 rcases hq with rfl|rfl<;>rfl
theorem Ry:Pg.cellsOf 137=2:=by kernel_rfl
theorem H8(x:aa):bK Pg 137 (ac x)=some (.agg (ac x)):=by
 have:=sM (P:=Pg) (t:=137) (l:=ac x) (r:=[]) (by kernel_rfl) (Ry.trans (yv x).symm)
 rwa[vbk]at this
theorem kV(x0:ag)(x1:ag):dX Pg 137 [(0,.str x0),(1,.str x1)]=some (.agg (ac (⟨x0,x1⟩:aa))):=by
 kernel_rfl
structure am where
 n:Bool
 name:Bool
 least:Int
 most:Int
 params:Bool
 alts:Bool
 typesLeast:Int
 typesMost:Int
 types:Bool
deriving DecidableEq
def aC(x:am):List PVal:=[.bool x.n,.bool x.name,.int .i64 x.least,.int .i64 x.most,.bool x.params,.bool x.alts,.int .i64 x.typesLeast,.int .i64 x.typesMost,.bool x.types]
theorem oz(x:am):aC x=[.bool x.n,.bool x.name,.int .i64 x.least,.int .i64 x.most,.bool x.params,.bool x.alts,.int .i64 x.typesLeast,.int .i64 x.typesMost,.bool x.types]:=rfl
theorem bH(x:am):li 0 (aC x):=(aI trivial (aI trivial (aI trivial (aI trivial (aI trivial (aI trivial (aI trivial (aI trivial (aI trivial trivial)))))))))
theorem EQ(x:am):(aC x).length=9:=by rw[oz];rfl
theorem yB(x:am):cN (.agg (aC x))=some (aC x):=rfl
theorem cu(x:am):cN (.agg (aC x))=some [.bool x.n,.bool x.name,.int .i64 x.least,.int .i64 x.most,.bool x.params,.bool x.alts,.int .i64 x.typesLeast,.int .i64 x.typesMost,.bool x.types]:=by rw[oz];rfl
theorem V9:Pg.cellsOf 147=9:=by kernel_rfl
theorem wU(x:am)(r:List PVal):bK Pg 147 ([.bool x.n,.bool x.name,.int .i64 x.least,.int .i64 x.most,.bool x.params,.bool x.alts,.int .i64 x.typesLeast,.int .i64 x.typesMost,.bool x.types]++r)=some (.agg (aC x)):=by
 rw[<-oz];exact sM (by kernel_rfl) (V9.trans (EQ x).symm)
theorem cD(x:am):PVal.agg [.bool x.n,.bool x.name,.int .i64 x.least,.int .i64 x.most,.bool x.params,.bool x.alts,.int .i64 x.typesLeast,.int .i64 x.typesMost,.bool x.types]=.agg (aC x):=by rw[oz]
theorem Do:dX Pg 147 []=some (.agg (aC (⟨false,false,0,0,false,false,0,0,false⟩:am))):=by
 kernel_rfl
theorem Dm(x0:Bool):dX Pg 147 [(0,.bool x0)]=some (.agg (aC (⟨x0,false,0,0,false,false,0,0,false⟩:am))):=by
 kernel_rfl
theorem yO(x1:Bool)(x2:Int)(x3:Int):dX Pg 147 [(1,.bool x1),(2,.int .i64 x2),(3,.int .i64 x3)]=some (.agg (aC (⟨false,x1,x2,x3,false,false,0,0,false⟩:am))):=by
 kernel_rfl
theorem nr(x1:Bool)(x2:Int)(x3:Int)(x8:Bool)(x7:Int):dX Pg 147 [(1,.bool x1),(2,.int .i64 x2),(3,.int .i64 x3),(8,.bool x8),(7,.int .i64 x7)]=some (.agg (aC (⟨false,x1,x2,x3,false,false,0,x7,x8⟩:am))):=by
 kernel_rfl
theorem wL(x1:Bool)(x3:Int)(x8:Bool)(x7:Int):dX Pg 147 [(1,.bool x1),(3,.int .i64 x3),(8,.bool x8),(7,.int .i64 x7)]=some (.agg (aC (⟨false,x1,0,x3,false,false,0,x7,x8⟩:am))):=by
 kernel_rfl
theorem Dn(x1:Bool):dX Pg 147 [(1,.bool x1)]=some (.agg (aC (⟨false,x1,0,0,false,false,0,0,false⟩:am))):=by
 kernel_rfl
theorem nD(x2:Int)(x3:Int):dX Pg 147 [(2,.int .i64 x2),(3,.int .i64 x3)]=some (.agg (aC (⟨false,false,x2,x3,false,false,0,0,false⟩:am))):=by
 kernel_rfl
theorem u6(x2:Int)(x3:Int)(x8:Bool)(x6:Int)(x7:Int):dX Pg 147 [(2,.int .i64 x2),(3,.int .i64 x3),(8,.bool x8),(6,.int .i64 x6),(7,.int .i64 x7)]=some (.agg (aC (⟨false,false,x2,x3,false,false,x6,x7,x8⟩:am))):=by
 kernel_rfl
theorem yP(x4:Bool)(x2:Int)(x3:Int):dX Pg 147 [(4,.bool x4),(2,.int .i64 x2),(3,.int .i64 x3)]=some (.agg (aC (⟨false,false,x2,x3,x4,false,0,0,false⟩:am))):=by
 kernel_rfl
theorem yQ(x5:Bool)(x2:Int)(x3:Int):dX Pg 147 [(5,.bool x5),(2,.int .i64 x2),(3,.int .i64 x3)]=some (.agg (aC (⟨false,false,x2,x3,false,x5,0,0,false⟩:am))):=by
 kernel_rfl
theorem yR(x:am):bh Pg 147 (.eptr (aC x)) 1=some (.eptr ((aC x).drop 1)):=by kernel_rfl
theorem yS(x:am):bh Pg 147 (.eptr (aC x)) 2=some (.eptr ((aC x).drop 2)):=by kernel_rfl
theorem yU(x:am):bh Pg 147 (.eptr (aC x)) 3=some (.eptr ((aC x).drop 3)):=by kernel_rfl
theorem yV(x:am):bh Pg 147 (.eptr (aC x)) 4=some (.eptr ((aC x).drop 4)):=by kernel_rfl
theorem qC(x:am):bh Pg 147 (.eptr (aC x)) 5=some (.eptr ((aC x).drop 5)):=by kernel_rfl
theorem yW(x:am):bh Pg 147 (.eptr (aC x)) 6=some (.eptr ((aC x).drop 6)):=by kernel_rfl
theorem yX(x:am):bh Pg 147 (.eptr (aC x)) 7=some (.eptr ((aC x).drop 7)):=by kernel_rfl
theorem Bi(x:am):bK Pg 4 ((aC x).drop 1)=some (.bool x.name):=by kernel_rfl
theorem Bj(x:am):bK Pg 3 ((aC x).drop 2)=some (.int .i64 x.least):=by kernel_rfl
theorem Bk(x:am):bK Pg 3 ((aC x).drop 3)=some (.int .i64 x.most):=by kernel_rfl
theorem Bl(x:am):bK Pg 4 ((aC x).drop 4)=some (.bool x.params):=by kernel_rfl
theorem ta(x:am):bK Pg 4 ((aC x).drop 5)=some (.bool x.alts):=by kernel_rfl
theorem Bm(x:am):bK Pg 3 ((aC x).drop 6)=some (.int .i64 x.typesLeast):=by kernel_rfl
theorem Bn(x:am):bK Pg 3 ((aC x).drop 7)=some (.int .i64 x.typesMost):=by kernel_rfl
theorem g6:KN Pg 23 28 ae:=⟨underlying23,fun x=>(ER x).trans Tf.symm,by kernel_rfl,by rw[Tf];decide,by kernel_rfl,vbg (by kernel_rfl),PX,ay⟩
theorem lC:KN Pg 24 85 aq:=⟨underlying24,fun x=>(Cu x).trans Ti.symm,by kernel_rfl,by rw[Ti];decide,by kernel_rfl,vbg (by kernel_rfl),NZ,bo⟩
theorem eQ:KN Pg 25 89 az:=⟨underlying25,fun x=>(H7 x).trans Tj.symm,by kernel_rfl,by rw[Tj];decide,by kernel_rfl,vbg (by kernel_rfl),Si,bW⟩
theorem ee:KN Pg 26 60 ai:=⟨underlying26,fun x=>(ET x).trans Th.symm,by kernel_rfl,by rw[Th];decide,by kernel_rfl,vbg (by kernel_rfl),PZ,aN⟩
theorem WN:Pg.cellsOf 9=1:=by kernel_rfl
theorem dK:KN Pg 38 9 cS:=⟨underlying38,fun _=>WN.symm,by kernel_rfl,by rw[WN];decide,by kernel_rfl,vbg (by kernel_rfl),XH,cb⟩
theorem nH:KN Pg 56 58 aw:=⟨underlying56,fun x=>(ES x).trans Tg.symm,by kernel_rfl,by rw[Tg];decide,by kernel_rfl,vbg (by kernel_rfl),PY,bO⟩
theorem IK:KN Pg 92 137 ac:=⟨underlying92,fun x=>(yv x).trans Ry.symm,by kernel_rfl,by rw[Ry];decide,by kernel_rfl,vbg (by kernel_rfl),GR,al⟩
theorem X3:Pg.cellsOf 5=1:=by kernel_rfl
theorem WR:(Pg.underlying 4).any Nb=true:=by kernel_rfl
theorem Ge:(Pg.underlying 9).any Nb=true:=by kernel_rfl
theorem GU:(Pg.underlying 92).any Nb=true:=by kernel_rfl
theorem XU:Fi Pg 4=some (PVal.bool false):=by kernel_rfl
theorem YP:gR Pg 3=some [.int .i64 0]:=by kernel_rfl
theorem X8:gR Pg 4=some [.bool false]:=by kernel_rfl
theorem wG:gR Pg 28=some [.int .i64 0,.str ([]:ag),.int .i64 0,sl ae ([]:List af),sl aq ([]:List av),sl az ([]:List aH),sl ai ([]:List aj)]:=by kernel_rfl
theorem XK:gR Pg 35=some [.int .i64 0]:=by kernel_rfl
theorem XL:gR Pg 38=some [sl cS ([]:List ag)]:=by kernel_rfl
theorem TN:gR Pg 58=some [.int .i64 0,.str ([]:ag),.int .i64 0,sl aw ([]:List ax)]:=by kernel_rfl
theorem Ob:gR Pg 60=some [.int .i64 0,.str ([]:ag),sl ai ([]:List aj),sl cS ([]:List ag),.int .i64 0,.str ([]:ag),.int .i64 0,sl aw ([]:List ax),sl aw ([]:List ax)]:=by kernel_rfl
theorem Qd:gR Pg 85=some [.str ([]:ag),.int .i64 0,.str ([]:ag),sl ai ([]:List aj),sl cS ([]:List ag),.int .i64 0,.str ([]:ag),.int .i64 0,sl aw ([]:List ax),sl aw ([]:List ax)]:=by kernel_rfl
theorem Fh:gR Pg 89=some [.str ([]:ag),sl cS ([]:List ag),.int .i64 0,.str ([]:ag),.int .i64 0,sl ae ([]:List af),sl aq ([]:List av),sl az ([]:List aH),sl ai ([]:List aj)]:=by kernel_rfl
theorem WA:gR Pg 91=some [.val .nilFunc]:=by kernel_rfl
theorem WB:gR Pg 92=some [sl ac ([]:List aa)]:=by kernel_rfl
theorem WC:gR Pg 95=some [.val .nilFunc,.val .nilFunc]:=by kernel_rfl
theorem T9:gR Pg 109=some [.val (.pointer none)]:=by kernel_rfl
theorem Wz:gR Pg 112=some [.val .nilFunc]:=by kernel_rfl
theorem Ua:gR Pg 147=some [.bool false,.bool false,.int .i64 0,.int .i64 0,.bool false,.bool false,.int .i64 0,.int .i64 0,.bool false]:=by kernel_rfl
def ll:List Int:=[1,10,100,1000,10000,100000,1000000,10000000,100000000,1000000000,10000000000,100000000000,1000000000000,10000000000000,100000000000000,1000000000000000,10000000000000000,100000000000000000,1000000000000000000,10000000000000000000]
theorem Wb:Pg.cellsOf 216=20:=by kernel_rfl
theorem Wa:Pg.cellsOf 201=1:=by kernel_rfl
def i7:List ag:=[([97,110,100]:ag),([97,115,115,117,109,101]:ag),([98,111,111,108]:ag),([98,111,117,110,100]:ag),([99,97,115,101]:ag),([99,101,108,108]:ag),([99,108,97,115,115]:ag),([100,97,116,97]:ag),([100,101,102]:ag),([100,105,118]:ag),([101,108,115,101]:ag),([101,110,100]:ag),([102,97,108,115,101]:ag),([102,111,114,97,108,108]:ag),([102,117,110]:ag),([103,101,116]:ag),([105,102]:ag),([105,110]:ag),([105,110,115,116]:ag),([105,110,116]:ag),([105,110,118,97,114,105,97,110,116]:ag),([108,101,116]:ag),([109,97,116,99,104]:ag),([109,101,97,115,117,114,101]:ag),([109,101,116,114,105,99]:ag),([109,111,100]:ag),([109,117]:ag),([110,101,119]:ag),([110,111,116]:ag),([111,102]:ag),([111,114]:ag),([113,117,97,108]:ag),([114,101,102,108,101,99,116]:ag),([115,101,116]:ag),([116,104,101,110]:ag),([116,114,117,101]:ag),([117,115,101]:ag),([118]:ag),([118,97,108]:ag),([116,97,103]:ag),([119,104,101,114,101]:ag),([119,105,116,104]:ag)]
theorem Wc:Pg.cellsOf 218=42:=by kernel_rfl
theorem vU:bK Pg 218 (i7.map PVal.str)=some (.agg (i7.map PVal.str)):=by kernel_rfl
theorem DO{k:IntKind}{i:Int}{x:ag}(h:gY i7 i=some x):yd Pg 218 (.agg (i7.map PVal.str)) (.int k i)=some (PVal.str x):=VM underlying218 WN (by kernel_rfl) (by kernel_rfl) (by kernel_rfl) h
def wX:List Int:=[0,1,28,2,29,14,24,3,30,22,20,15,25,17,4,8,31,27,13,23,21,19,16,7,26,12,18,6,11,5,10,9]
theorem Wd:Pg.cellsOf 223=32:=by kernel_rfl
def wY:List Int:=[0,1,56,2,57,49,28,3,61,58,42,50,38,29,17,4,62,47,59,36,45,43,51,22,53,39,33,30,24,18,12,5,63,55,48,27,60,41,37,16,46,35,44,21,52,32,23,11,54,26,40,15,34,20,31,10,25,14,19,9,13,8,7,6]
theorem We:Pg.cellsOf 224=64:=by kernel_rfl
def GE:List (Nat×List PVal):=[(0,ll.map (PVal.int .u64)),(1,i7.map PVal.str),(2,wX.map (PVal.int .u8)),(3,wY.map (PVal.int .u8))]
theorem bJ(A:List Nat){m:Nat}{c:Code}{sc:List It}{F:Prop}{e0:Exit}{st0 st:aA}(h:PS sc F)(he:F=wI Pg GE A m c sc st (FN e0 st0)):aR Pg GE m c (EX e0 st0) st:=qY mixed h he
theorem AU(A:List Nat){m:Nat}{c:Code}{sc:List It}{F:Prop}{σ X:Type}{S:σ->aA}{ex:X->Exit}{so:X->aA}{s:σ}{st:aA}(h:PS sc F)(he:F=wI Pg GE A m c sc st (FN .normal (S s))):aR Pg GE m c (LQ S ex so (.inl s)) st:=Wr mixed h he
theorem kc(A:List Nat){m:Nat}{c:Code}{sc:List It}{F:Prop}{σ X:Type}{S:σ->aA}{ex:X->Exit}{so:X->aA}{x:X}{st:aA}(hn:ex x≠.normal)(h:PS sc F)(he:F=wI Pg GE A m c sc st (FN (ex x) (so x))):aR Pg GE m c (LQ S ex so (.inr x)) st:=Ww mixed hn h he
theorem cR(A:List Nat){f:FuncId}{fn:Func}{c:Code}{args:List PVal}{r:PVal}{ro:List (Nat×TypeId)}(hcall:∀vs w,(callFunc f vs).run Pg w=.ok (.enter f vs) w)(hfn:Pg.funcs[f]? =some fn)(hb:fn.body=some c)(hcl:li 0 args){sc:List It}{F:Prop}(h:PS sc F)(he:F=wI Pg GE A 0 c sc ⟨args++List.replicate (fn.ntmps - args.length) .undef,[],[]⟩ (FR Pg fn.results.toList r ro)):CC Pg GE f args r ro:=C.evp mixed hcall hfn hb hcl h he
abbrev waA:=List ag
abbrev waB:=List aj
abbrev waC:=List aH
abbrev waD:=List av
abbrev waE:=List af
abbrev waF:=List ax
theorem Mw:∀n,(∀l,Sh Pg n 58 l->∃x,l=aw x):=by
 intro n
 induction n using Nat.strongRecOn with
 | ind n ih =>
  cases n with
  |zero=>exact fun l h=>h.elim
  | succ n =>
   exact fun l h=>by
    unfold Sh at h
    rw[underlying58]at h
    obtain⟨a0,b0,rfl,_,h0,a1,b1,rfl,_,h1,a2,b2,rfl,_,h2,a3,b3,rfl,_,h3,rfl⟩:=h
    obtain⟨x0,rfl⟩:=(RM underlying55) n _ h0
    obtain⟨x1,rfl⟩:=(NO underlying9) n _ h1
    obtain⟨x2,rfl⟩:=(RM underlying3) n _ h2
    obtain⟨x3,rfl⟩:=Mv underlying56 (c:=aw) (fun m hm=>(ih m (by omega))) _ h3
    exact⟨(⟨x0,x1,x2,x3⟩:ax),by rw[eC];rfl⟩
theorem Mx:∀n,(∀l,Sh Pg n 60 l->∃x,l=ai x):=by
 intro n
 induction n using Nat.strongRecOn with
 | ind n ih =>
  cases n with
  |zero=>exact fun l h=>h.elim
  | succ n =>
   exact fun l h=>by
    unfold Sh at h
    rw[underlying60]at h
    obtain⟨a0,b0,rfl,_,h0,a1,b1,rfl,_,h1,a2,b2,rfl,_,h2,a3,b3,rfl,_,h3,a4,b4,rfl,_,h4,a5,b5,rfl,_,h5,rfl⟩:=h
    obtain⟨x0,rfl⟩:=(RM underlying54) n _ h0
    obtain⟨x1,rfl⟩:=(NO underlying9) n _ h1
    obtain⟨x2,rfl⟩:=Mv underlying26 (c:=ai) (fun m hm=>(ih m (by omega))) _ h2
    obtain⟨x3,rfl⟩:=(RN underlying38 (NO underlying9)) n _ h3
    obtain⟨x4,rfl⟩:=Mw n _ h4
    obtain⟨x5,rfl⟩:=(RN underlying56 Mw) n _ h5
    exact⟨(⟨x0,x1,x2,x3,x4,x5⟩:aj),by rw[dW];(try simp only[eC]);rfl⟩
theorem PL:∀n,(∀l,Sh Pg n 85 l->∃x,l=aq x):=by
 intro n
 induction n using Nat.strongRecOn with
 | ind n ih =>
  cases n with
  |zero=>exact fun l h=>h.elim
  | succ n =>
   exact fun l h=>by
    unfold Sh at h
    rw[underlying85]at h
    obtain⟨a0,b0,rfl,_,h0,a1,b1,rfl,_,h1,rfl⟩:=h
    obtain⟨x0,rfl⟩:=(NO underlying9) n _ h0
    obtain⟨x1,rfl⟩:=Mx n _ h1
    exact⟨(⟨x0,x1⟩:av),by rw[iO];(try simp only[dW]);(try simp only[eC]);rfl⟩
theorem Lh:∀n,(∀l,Sh Pg n 28 l->∃x,l=ae x)/\(∀l,Sh Pg n 89 l->∃x,l=az x):=by
 intro n
 induction n using Nat.strongRecOn with
 | ind n ih =>
  cases n with
  |zero=>exact⟨fun l h=>h.elim,fun l h=>h.elim⟩
  | succ n =>
   exact⟨(fun l h=>by
    unfold Sh at h
    rw[underlying28]at h
    obtain⟨a0,b0,rfl,_,h0,a1,b1,rfl,_,h1,a2,b2,rfl,_,h2,a3,b3,rfl,_,h3,a4,b4,rfl,_,h4,a5,b5,rfl,_,h5,a6,b6,rfl,_,h6,rfl⟩:=h
    obtain⟨x0,rfl⟩:=(RM underlying22) n _ h0
    obtain⟨x1,rfl⟩:=(NO underlying9) n _ h1
    obtain⟨x2,rfl⟩:=(RM underlying3) n _ h2
    obtain⟨x3,rfl⟩:=Mv underlying23 (c:=ae) (fun m hm=>(ih m (by omega)).1) _ h3
    obtain⟨x4,rfl⟩:=(RN underlying24 PL) n _ h4
    obtain⟨x5,rfl⟩:=Mv underlying25 (c:=az) (fun m hm=>(ih m (by omega)).2) _ h5
    obtain⟨x6,rfl⟩:=(RN underlying26 Mx) n _ h6
    exact⟨(⟨x0,x1,x2,x3,x4,x5,x6⟩:af),by rw[bD];rfl⟩),(fun l h=>by
    unfold Sh at h
    rw[underlying89]at h
    obtain⟨a0,b0,rfl,_,h0,a1,b1,rfl,_,h1,a2,b2,rfl,_,h2,rfl⟩:=h
    obtain⟨x0,rfl⟩:=(NO underlying9) n _ h0
    obtain⟨x1,rfl⟩:=(RN underlying38 (NO underlying9)) n _ h1
    obtain⟨x2,rfl⟩:=(ih n (vcn n)).1 _ h2
    exact⟨(⟨x0,x1,x2⟩:aH),by rw[nh];(try simp only[bD]);rfl⟩)⟩
theorem RO:In Pg 28 ae:=fun n=>(Lh n).1
end Go.Proofs.YtkdahfeiedaahaaGreatDoor
namespace Go.Proofs
open Go.Shelf
noncomputable def Tryz.laysM171_ren : Go.Shelf.Ren := ⟨fun | 171 => 98 | 243 => 134 | 246 => 156 | 283 => 182 | 284 => 183 | 285 => 184 | 286 => 185 | 129 => 181 | 317 => 202 | 318 => 203 | 319 => 204 | 320 => 205 | 337 => 212 | 338 => 213 | n => n, fun | 3 => 3 | 9 => 9 | 2 => 2 | 4 => 4 | 171 => 202 | 0 => 0 | 53 => 201 | 37 => 169 | 5 => 5 | 173 => 204 | 212 => 216 | 51 => 199 | 20 => 20 | 213 => 217 | 46 => 182 | 232 => 223 | 233 => 224 | n => n, fun | 17 => 0 | 18 => 2 | 19 => 3 | n => n⟩
theorem Tryz.laysM171 : Go.Proofs.LaysM.n171 Tryz.prog Tryz.laysM171_ren := {
 mixed := by kernel_rfl
 f129 := Tryz.func181.trans (congrArg some (by kernel_rfl))
 f171 := Tryz.func98.trans (congrArg some (by kernel_rfl))
 f243 := Tryz.func134.trans (congrArg some (by kernel_rfl))
 f246 := Tryz.func156.trans (congrArg some (by kernel_rfl))
 f283 := Tryz.func182.trans (congrArg some (by kernel_rfl))
 f284 := Tryz.func183.trans (congrArg some (by kernel_rfl))
 f285 := Tryz.func184.trans (congrArg some (by kernel_rfl))
 f286 := Tryz.func185.trans (congrArg some (by kernel_rfl))
 f317 := Tryz.func202.trans (congrArg some (by kernel_rfl))
 f318 := Tryz.func203.trans (congrArg some (by kernel_rfl))
 f319 := Tryz.func204.trans (congrArg some (by kernel_rfl))
 f320 := Tryz.func205.trans (congrArg some (by kernel_rfl))
 f337 := Tryz.func212.trans (congrArg some (by kernel_rfl))
 f338 := Tryz.func213.trans (congrArg some (by kernel_rfl))
 t0 := Tryz.underlying0
 a0 := Tryz.isAgg0
 z0 := Tryz.sizeOf0
 v0 := Tryz.zeroValue0
 t2 := Tryz.underlying2
 a2 := Tryz.isAgg2
 z2 := Tryz.sizeOf2
 v2 := Tryz.zeroValue2
 t3 := Tryz.underlying3
 a3 := Tryz.isAgg3
 z3 := Tryz.sizeOf3
 v3 := Tryz.zeroValue3
 t4 := Tryz.underlying4
 a4 := Tryz.isAgg4
 z4 := Tryz.sizeOf4
 v4 := Tryz.zeroValue4
 t5 := Tryz.underlying5
 a5 := Tryz.isAgg5
 z5 := Tryz.sizeOf5
 v5 := Tryz.zeroValue5
 t9 := Tryz.underlying9
 a9 := Tryz.isAgg9
 z9 := Tryz.sizeOf9
 v9 := Tryz.zeroValue9
 t20 := Tryz.underlying20
 a20 := Tryz.isAgg20
 z20 := Tryz.sizeOf20
 v20 := Tryz.zeroValue20
 t37 := Tryz.underlying169
 a37 := Tryz.isAgg169
 z37 := Tryz.sizeOf169
 v37 := Tryz.zeroValue169
 t46 := Tryz.underlying182
 a46 := Tryz.isAgg182
 z46 := Tryz.sizeOf182
 v46 := Tryz.zeroValue182
 t51 := Tryz.underlying199
 a51 := Tryz.isAgg199
 z51 := Tryz.sizeOf199
 v51 := Tryz.zeroValue199
 t53 := Tryz.underlying201
 a53 := Tryz.isAgg201
 z53 := Tryz.sizeOf201
 v53 := Tryz.zeroValue201
 t171 := Tryz.underlying202
 a171 := Tryz.isAgg202
 z171 := Tryz.sizeOf202
 v171 := Tryz.zeroValue202
 t173 := Tryz.underlying204
 a173 := Tryz.isAgg204
 z173 := Tryz.sizeOf204
 v173 := Tryz.zeroValue204
 t212 := Tryz.underlying216
 a212 := Tryz.isAgg216
 z212 := Tryz.sizeOf216
 v212 := Tryz.zeroValue216
 t213 := Tryz.underlying217
 a213 := Tryz.isAgg217
 z213 := Tryz.sizeOf217
 t232 := Tryz.underlying223
 a232 := Tryz.isAgg223
 z232 := Tryz.sizeOf223
 v232 := Tryz.zeroValue223
 t233 := Tryz.underlying224
 a233 := Tryz.isAgg224
 z233 := Tryz.sizeOf224
 v233 := Tryz.zeroValue224
 g17 := by kernel_rfl
 g18 := by kernel_rfl
 g19 := by kernel_rfl
 i0 := by kernel_rfl
 i2 := by kernel_rfl
 i3 := by kernel_rfl
 i4 := by kernel_rfl
 i5 := by kernel_rfl
 i9 := by kernel_rfl
 i20 := by kernel_rfl
 i37 := by kernel_rfl
 i46 := by kernel_rfl
 i51 := by kernel_rfl
 i53 := by kernel_rfl
 i171 := by kernel_rfl
 i173 := by kernel_rfl
 i212 := by kernel_rfl
 i232 := by kernel_rfl
 i233 := by kernel_rfl
 m17 := by kernel_rfl
 m18 := by kernel_rfl
 m19 := by kernel_rfl }
noncomputable def Tryz.lays190_ren : Go.Shelf.Ren := ⟨fun | 190 => 127 | 125 => 154 | 258 => 153 | 128 => 180 | 129 => 181 | 302 => 171 | 303 => 172 | 304 => 173 | 305 => 174 | 306 => 175 | 307 => 176 | 308 => 177 | 309 => 178 | 310 => 179 | 333 => 196 | 329 => 197 | 330 => 198 | 334 => 199 | 335 => 200 | 336 => 201 | 344 => 211 | n => n, fun | 31 => 38 | 9 => 9 | 3 => 3 | 46 => 182 | 0 => 0 | 51 => 199 | 53 => 201 | 4 => 4 | 183 => 191 | 182 => 190 | 131 => 196 | 5 => 5 | 218 => 208 | 222 => 212 | 228 => 219 | 229 => 220 | n => n, fun | n => n⟩
theorem Tryz.lays190 : Go.Proofs.Lays.n190 Tryz.prog Tryz.lays190_ren := {
 mixed := by kernel_rfl
 f125 := Tryz.func154.trans (congrArg some (by kernel_rfl))
 f128 := Tryz.func180.trans (congrArg some (by kernel_rfl))
 f129 := Tryz.func181.trans (congrArg some (by kernel_rfl))
 f190 := Tryz.func127.trans (congrArg some (by kernel_rfl))
 f258 := Tryz.func153.trans (congrArg some (by kernel_rfl))
 f302 := Tryz.func171.trans (congrArg some (by kernel_rfl))
 f303 := Tryz.func172.trans (congrArg some (by kernel_rfl))
 f304 := Tryz.func173.trans (congrArg some (by kernel_rfl))
 f305 := Tryz.func174.trans (congrArg some (by kernel_rfl))
 f306 := Tryz.func175.trans (congrArg some (by kernel_rfl))
 f307 := Tryz.func176.trans (congrArg some (by kernel_rfl))
 f308 := Tryz.func177.trans (congrArg some (by kernel_rfl))
 f309 := Tryz.func178.trans (congrArg some (by kernel_rfl))
 f310 := Tryz.func179.trans (congrArg some (by kernel_rfl))
 f329 := Tryz.func197.trans (congrArg some (by kernel_rfl))
 f330 := Tryz.func198.trans (congrArg some (by kernel_rfl))
 f333 := Tryz.func196.trans (congrArg some (by kernel_rfl))
 f334 := Tryz.func199.trans (congrArg some (by kernel_rfl))
 f335 := Tryz.func200.trans (congrArg some (by kernel_rfl))
 f336 := Tryz.func201.trans (congrArg some (by kernel_rfl))
 f344 := Tryz.func211.trans (congrArg some (by kernel_rfl))
 t0 := Tryz.underlying0
 a0 := Tryz.isAgg0
 z0 := Tryz.sizeOf0
 v0 := Tryz.zeroValue0
 t3 := Tryz.underlying3
 a3 := Tryz.isAgg3
 z3 := Tryz.sizeOf3
 v3 := Tryz.zeroValue3
 t4 := Tryz.underlying4
 a4 := Tryz.isAgg4
 z4 := Tryz.sizeOf4
 v4 := Tryz.zeroValue4
 t5 := Tryz.underlying5
 a5 := Tryz.isAgg5
 z5 := Tryz.sizeOf5
 v5 := Tryz.zeroValue5
 t9 := Tryz.underlying9
 a9 := Tryz.isAgg9
 z9 := Tryz.sizeOf9
 v9 := Tryz.zeroValue9
 t31 := Tryz.underlying38
 a31 := Tryz.isAgg38
 z31 := Tryz.sizeOf38
 v31 := Tryz.zeroValue38
 t46 := Tryz.underlying182
 a46 := Tryz.isAgg182
 z46 := Tryz.sizeOf182
 v46 := Tryz.zeroValue182
 t51 := Tryz.underlying199
 a51 := Tryz.isAgg199
 z51 := Tryz.sizeOf199
 v51 := Tryz.zeroValue199
 t53 := Tryz.underlying201
 a53 := Tryz.isAgg201
 z53 := Tryz.sizeOf201
 v53 := Tryz.zeroValue201
 t131 := Tryz.underlying196
 a131 := Tryz.isAgg196
 z131 := Tryz.sizeOf196
 v131 := Tryz.zeroValue196
 t182 := Tryz.underlying190
 a182 := Tryz.isAgg190
 z182 := Tryz.sizeOf190
 v182 := Tryz.zeroValue190
 t183 := Tryz.underlying191
 a183 := Tryz.isAgg191
 z183 := Tryz.sizeOf191
 v183 := Tryz.zeroValue191
 t218 := Tryz.underlying208
 a218 := Tryz.isAgg208
 z218 := Tryz.sizeOf208
 v218 := Tryz.zeroValue208
 t222 := Tryz.underlying212
 a222 := Tryz.isAgg212
 z222 := Tryz.sizeOf212
 v222 := Tryz.zeroValue212
 t228 := Tryz.underlying219
 a228 := Tryz.isAgg219
 z228 := Tryz.sizeOf219
 v228 := Tryz.zeroValue219
 t229 := Tryz.underlying220
 a229 := Tryz.isAgg220
 z229 := Tryz.sizeOf220
 v229 := Tryz.zeroValue220 }
noncomputable def Tryz.lc104_ren : Go.Shelf.Ren := ⟨fun | 41 => 104 | n => n, fun | 22 => 92 | 23 => 137 | 4 => 4 | n => n, fun | n => n⟩
theorem Tryz.lc104 : Go.Proofs.SlLaysE0.n41 Tryz.prog Tryz.lc104_ren := {
 mixed := by kernel_rfl
 f41 := ⟨Tryz.f104.name, by decide, Tryz.func104.trans (congrArg some (by kernel_rfl))⟩
 t4 := Tryz.underlying4
 a4 := Tryz.isAgg4
 z4 := Tryz.sizeOf4
 v4 := Tryz.zeroValue4
 t22 := Tryz.underlying92
 a22 := Tryz.isAgg92
 z22 := Tryz.sizeOf92
 v22 := Tryz.zeroValue92 }
noncomputable def Tryz.lc125_ren : Go.Shelf.Ren := ⟨fun | 41 => 125 | n => n, fun | 22 => 38 | 23 => 9 | 4 => 4 | n => n, fun | n => n⟩
theorem Tryz.lc125 : Go.Proofs.SlLaysE0.n41 Tryz.prog Tryz.lc125_ren := {
 mixed := by kernel_rfl
 f41 := ⟨Tryz.f125.name, by decide, Tryz.func125.trans (congrArg some (by kernel_rfl))⟩
 t4 := Tryz.underlying4
 a4 := Tryz.isAgg4
 z4 := Tryz.sizeOf4
 v4 := Tryz.zeroValue4
 t22 := Tryz.underlying38
 a22 := Tryz.isAgg38
 z22 := Tryz.sizeOf38
 v22 := Tryz.zeroValue38 }
end Go.Proofs
namespace Go.Proofs.YtkdahfeiedaahaaGreatDoor
open Go Go.Proofs.Tryz
set_option linter.unusedVariables false
set_option maxRecDepth 100000
theorem NE:sG Pg 104 137:=JY Tryz.lc104 rfl rfl (by kernel_rfl) call104
theorem vL{l r:List aa}(h:qQ l=some r):CC Pg GE 104 [sl ac l] (sl ac r) [(0,137)]:=IK.cloneCC NE h
theorem NF:sG Pg 125 9:=JY Tryz.lc125 rfl rfl (by kernel_rfl) call125
theorem zI{l r:List ag}(h:qQ l=some r):CC Pg GE 125 [sl cS l] (sl cS r) [(0,9)]:=dK.cloneCC NF h
def OM(n:Int):Option ag:=if(decide (-9223372036854775808<=n)&&decide (n<=9223372036854775807))=true then some (Lib.itoa n)else none
theorem Sx:ll=Lib.pow10Tab:=by kernel_rfl
theorem Tt{n:Int}{r:ag}(h:OM n=some r):CC Pg GE 98 [.int .i64 n] (.str r) []:=by
 rcases aP h with⟨b,h⟩|⟨b,h⟩
 ·obtain rfl:=lf h
  simp only[vae,vak]at b
  refine CC.grownIS call98 fun E Γ bs ow w a st hE hS=>?_
  have htab:Lib.TabIs Pg w "internal/strconv.uint64pow10" .u64 Lib.pow10Tab:=U4 hS (g:=0) (by rw[hE,←Sx];simp[GE]) (by kernel_rfl)
  refine(Any.strconv_Itoa Tryz.laysM171 n b.1 b.2 w htab).mono fun e w' he=>?_
  obtain⟨rfl,k,os,rfl⟩:=he
  exact⟨rfl,.of_grow _ _ _⟩
 ·cases h
open Go
abbrev EI(GE:List (Nat×List PVal))(Γ:aV)(w:World):qt:=⟨GE,Γ,w,fun _=>False⟩
structure I5(GE:List (Nat×List PVal))(Γ:aV)(w:World):Prop where
 wi:∀b n,Γ b=some n->∃c t fr,w.heap[b]? =some (.cells c t fr)/\n<=c.size
 gl:∀g cs,(g,cs)∈GE->VR Γ [] w (.eptr cs) (.pointer (some ⟨g,0,none⟩))
 gc:∀g cs,(g,cs)∈GE->li 0 cs
 gx:∀g cs,(g,cs)∈GE->g<w.heap.size/\∃c t fr,w.heap[g]? =some (.cells c t fr)/\c.size=cs.length
theorem VR.clo{Γ:aV}{bs bs':bw}{w:World}{p:PVal}{v:Value}(h:VR Γ bs w p v)(hc:p.cl 0):VR Γ bs' w p v:=h.restrict (n:=0) hc fun i b hi _=>absurd hi (vaO _)
section
variable{P:Program}{E:qt}{Γ:aV}{bs:bw}{ow:Nat->Option l7}{w:World}{a:Array Value}{st:aA}
theorem SR.base(h:SR P E Γ bs ow w a st):I5 E.GE Γ w where
 wi:=h.wi
 gl:=fun g cs hg=>(h.gl g cs hg).clo (by simp only[PVal.cl];exact h.gc g cs hg)
 gc:=h.gc
 gx:=fun g cs hg=>⟨(h.gnow hg).1,(h.gnow hg).2.2.2⟩
theorem I5.good{GE:List (Nat×List PVal)}(hB:I5 GE Γ w):sZ GE 0 (EI GE Γ w) where
 ge:=rfl
 low:=fun b n h=>by obtain⟨c,t,fr,h1,_⟩:=hB.wi b n h;exact(vad.1 h1).1
 nt:=fun _ _ hb=>hb
 gl:=hB.gl
theorem I5.fresh{GE:List (Nat×List PVal)}(hB:I5 GE Γ w)(k:Nat){tmps:List PVal}(hs:a.size=tmps.length)(hv:∀(t:Nat) p v,tmps[t]? =some p->a[t]? =some v->VR Γ [] w p v):SR P (EI GE Γ w) Γ (List.replicate k none) (fun _=>none) w a ⟨tmps,List.replicate k .dead,[]⟩:=by
 have hno:∀(i b:Nat),(List.replicate k (none:Option Nat))[i]? =some (some b)->False:=fun i b h=>by
  rw[vaX]at h
  split at h<;>simp at h
 exact{
  wi:=hB.wi
  sz:=hs
  tm:=fun t p v hp hv'=>(hv t p v hp hv').mono (.refl _ _) (fun i b h=>by simp at h)
  bl:=by simp
  bx:=fun i b B hb=>(hno i b hb).elim
  inj:=fun i j b hb=>(hno i b hb).elim
  bn:=fun i b hb=>(hno i b hb).elim
  on:=fun b L hL=>by cases hL
  ot:=fun t k e he=>by simp at he
  ob:=fun i j e cs own b _ _ hb=>(hno i b hb).elim
  gl:=fun g cs hg=>(hB.gl g cs hg).mono (.refl _ _) (fun i b h=>by simp at h)
  gc:=hB.gc
  gx:=fun g cs hg=>⟨(hB.gx g cs hg).1,fun h=>h,(hB.gx g cs hg).2⟩
  step:=.refl _ _ _ _}
theorem SR.again(h:SR P E Γ bs ow w a st)(hc:li 0 st.tmps){GE:List (Nat×List PVal)}{Γ':aV}{w':World}(hB:I5 GE Γ' w')(hle:Γ.Le w Γ' w')(k:Nat):SR P (EI GE Γ' w') Γ' (List.replicate k none) (fun _=>none) w' a ⟨st.tmps,List.replicate k .dead,[]⟩:=
 hB.fresh k h.sz fun t p v hp hv=>((h.tm t p v hp hv).clo (ou hc hp)).mono hle (.refl _)
theorem SR.aside(h:SR P E Γ bs ow w a st){GE:List (Nat×List PVal)}{Γ':aV}{bs':bw}{ow':Nat->Option l7}{w':World}{a':Array Value}{st':aA}(h':SR P (EI GE Γ w) Γ' bs' ow' w' a' st'):SR P E Γ' bs ow w' a st:=
 h.world (fun _=>False) h'.step.le h'.wi h'.step.os h'.step.tape h'.step.output h'.step.size (fun b hb _=>h'.step.keep b hb id) (fun _ hx=>hx.elim) (fun _ _ _ hx=>hx) (fun _ _ _ hx=>hx) h'.step.drawn
theorem SR.putOther(h:SR P E Γ bs ow w a st){l:Nat}{o:Obj}(hT:¬bg bs ow l)(hE:E.T l\/E.w.heap.size<=l)(ho:∀c t fr,w.heap[l]? ≠some (.cells c t fr)):SR P E Γ bs ow (w.putObj l o) a st/\Γ.Le w Γ (w.putObj l o):=by
 have hg:∀b n,Γ b=some n->b≠l:=fun b n hb e=>by
  obtain⟨c,t,fr,h1,_⟩:=h.wi b n hb
  exact ho c t fr (e▸h1)
 have hle:Γ.Le w Γ (w.putObj l o):=fun b n hb _=>⟨n,hb,vam _,fun k _=>ca (World.putObj_heap_other (hg b n hb)) k⟩
 refine⟨h.world (fun b=>b=l) hle (fun b n hb=>?_) rfl rfl rfl (by simp) (fun b _ hb=>⟨World.putObj_heap_other hb,rfl⟩) (fun b hb=>hb▸hE) (fun i b hb e=>hT (.inl ⟨i,e▸hb⟩)) (fun b L hL e=>hT (.inr (by rw[<-e,hL];simp))),hle⟩
 obtain⟨c,t,fr,h1,h2⟩:=h.wi b n hb
 exact⟨c,t,fr,(World.putObj_heap_other (hg b n hb)).trans h1,h2⟩
theorem SR.rebase(h:SR P E Γ bs ow w a st):SR P ⟨E.GE,Γ,w,bg bs ow⟩ Γ bs ow w a st:=
 { h with
  bn:=fun i b hb=>.inl (.inl ⟨i,hb⟩)
  on:=fun b L hL=>⟨(h.on b L hL).1,.inl (.inr (by rw[hL];simp))⟩
  gx:=fun g cs hg=>by
   obtain⟨k1,k2,k3,k4⟩:=h.gnow hg
   refine⟨k1,fun hT=>?_,k4⟩
   rcases hT with⟨i,hi⟩|hT
   ·exact k2 i g hi rfl
   ·exact hT k3
  step:=.refl _ _ _ _}
theorem SR.touchE(h:SR P E Γ bs ow w a st){b:Nat}(hb:bg bs ow b):E.T b\/E.w.heap.size<=b:=by
 rcases hb with⟨i,hi⟩|hb
 ·exact h.bn i b hi
 ·cases hL:ow b with
  |none=>exact absurd hL hb
  |some L=>exact(h.on b L hL).2
theorem SR.unbase(h:SR P E Γ bs ow w a st){Γ':aV}{bs':bw}{ow':Nat->Option l7}{w':World}{a':Array Value}{st':aA}(h':SR P ⟨E.GE,Γ,w,bg bs ow⟩ Γ' bs' ow' w' a' st'):SR P E Γ' bs' ow' w' a' st':=by
 have hT:∀b,bg bs ow b\/w.heap.size<=b->E.T b\/E.w.heap.size<=b:=fun b hb=>hb.elim h.touchE fun hb=>.inr (vaC h.step.size hb)
 exact{h' with
  bn:=fun i b hb=>hT b (h'.bn i b hb)
  on:=fun b L hL=>⟨(h'.on b L hL).1,hT b (h'.on b L hL).2⟩
  gx:=h.gx
  step:={
   os:=h'.step.os.trans h.step.os
   tape:=h'.step.tape.trans h.step.tape
   output:=h'.step.output.trans h.step.output
   size:=vaC h.step.size h'.step.size
   drawn:=vaC h.step.drawn h'.step.drawn
   keep:=fun b hb hTb=>by
    have hlt:b<w.heap.size:=vaJ hb h.step.size
    have hn:¬bg bs ow b:=fun hx=>(h.touchE hx).elim hTb fun hx=>absurd hx (vce.2 hb)
    obtain⟨k1,k2⟩:=h'.step.keep b hlt hn
    obtain⟨q1,q2⟩:=h.step.keep b hb hTb
    exact⟨k1.trans q1,k2.trans q2⟩
   le:=h.step.le.trans h'.step.le}}
theorem aR.on{m:Nat}{c:Code}{Q:Exit->aA->Prop}(hS:aR P E.GE m c Q st)(hm:m≠0)(h:SR P E Γ bs ow w a st)(hl:m % 1000<=bs.length)(ro:Option Nat)(ds:List Deferred):FP ro P c (fun e a' w'=>a'.defers=ds/\∃Γ' bs' ow' st',SR P E Γ' bs' ow' w' a'.tmps st'/\Q e st'/\(∀i:Nat,i<m % 1000->bs'[i]? =bs[i]?)/\Γ.Le w Γ' w'/\w.heap.size<=w'.heap.size/\
   ∀b,b<w.heap.size->¬bg bs ow b->w'.heap[b]? =w.heap[b]?/\¬bg bs' ow' b) ⟨a,ds⟩ w:=by
 have hE:sZ E.GE m ⟨E.GE,Γ,w,bg bs ow⟩:={
  ge:=rfl
  low:=fun b n hb=>h.lt_of_ghost hb
  nt:=fun h0=>absurd h0 hm
  gl:=h.base.gl}
 have hlen:(bs.take (m % 1000)).length=m % 1000:=by simp;omega
 refine lj (hS ro ⟨E.GE,Γ,w,bg bs ow⟩ (bs.take (m % 1000)) ⟨a,ds⟩ w hE hlen ⟨Γ,bs,ow,h.rebase,fun i hi=>?_⟩) fun e a' w' hq=>?_
 ·rw[van (by omega)]
 obtain⟨hd,st',⟨Γ',bs',ow',h',hk⟩,hQ⟩:=hq
 refine⟨hd,Γ',bs',ow',st',h.unbase h',hQ,fun i hi=>?_,h'.step.le,h'.step.size,fun b hb hT=>⟨(h'.step.keep b hb hT).1,fun hx=>?_⟩⟩
 ·rw[hk i (by omega),van hi]
 ·exact(h'.touchE hx).elim hT fun hx=>absurd hx (vce.2 hb)
theorem aR.wide{GE:List (Nat×List PVal)}{c:Code}{Q:Exit->aA->Prop}{st0:aA}(hS:aR P GE 0 c Q st0)(hB:I5 GE Γ w){ow:Nat->Option l7}{bs:bw}(h:SR P (EI GE Γ w) Γ bs ow w a st0)(n:Nat)(ds:List Deferred):c.wpIn Fence.wide n P (fun e a' w'=>a'.defers=ds/\∃Γ' bs' ow' st',SR P (EI GE Γ w) Γ' bs' ow' w' a'.tmps st'/\Q e st') ⟨a,ds⟩ w:=
 wpIn_wide.2 (wp_mono (hS none (EI GE Γ w) [] ⟨a,ds⟩ w hB.good rfl ⟨Γ,bs,ow,h,fun i hi=>absurd hi (vaO _)⟩) fun e a' w' hq=>by
  obtain⟨hd,st',⟨Γ',bs',ow',h',_⟩,hQ⟩:=hq
  exact⟨hd,Γ',bs',ow',st',h',hQ⟩)
theorem aR.wideE{GE:List (Nat×List PVal)}{c:Code}{Q:Exit->aA->Prop}(hS:aR P GE 0 c Q st)(hE:sZ GE 0 E)(h:SR P E Γ bs ow w a st)(n:Nat)(ds:List Deferred):c.wpIn Fence.wide n P (fun e a' w'=>a'.defers=ds/\∃Γ' bs' ow' st',SR P E Γ' bs' ow' w' a'.tmps st'/\Q e st') ⟨a,ds⟩ w:=
 wpIn_wide.2 (wp_mono (hS none E [] ⟨a,ds⟩ w hE rfl ⟨Γ,bs,ow,h,fun i hi=>absurd hi (vaO _)⟩) fun e a' w' hq=>by
  obtain⟨hd,st',⟨Γ',bs',ow',h',_⟩,hQ⟩:=hq
  exact⟨hd,Γ',bs',ow',st',h',hQ⟩)
theorem SR.allocO(h:SR P E Γ bs ow w a st)(o:Obj):SR P E Γ bs ow (w.alloc o) a st/\Γ.Le w Γ (w.alloc o):=by
 have hlt:∀b n,Γ b=some n->b<w.heap.size:=fun b n hb=>h.lt_of_ghost hb
 have hle:Γ.Le w Γ (w.alloc o):=fun b n hb _=>⟨n,hb,vam _,fun k _=>ca (fm w o (hlt b n hb)) k⟩
 refine⟨h.world (fun _=>False) hle (fun b n hb=>?_) rfl rfl rfl (by simp[World.size_alloc]) (fun b hb _=>⟨fm w o hb,rfl⟩) (fun _ hx=>hx.elim) (fun _ _ _ hx=>hx) (fun _ _ _ hx=>hx),hle⟩
 obtain⟨c,t,fr,h1,h2⟩:=h.wi b n hb
 exact⟨c,t,fr,(fm w o (hlt b n hb)).trans h1,h2⟩
theorem SR.forgetT(h:SR P E Γ bs ow w a st){tm:List PVal}(hf:J3 st.tmps tm=tm):SR P E Γ bs ow w a {st with tmps:=tm}:=
 { h with
  sz:=by rw[h.sz,<-Lb (l:=st.tmps) (bs:=tm),hf]
  tm:=fun t p v hp hv=>by
   rw[<-hf]at hp
   rcases La hp with rfl|hp'
   ·exact .undef v
   ·exact h.tm t p v hp' hv}
theorem SR.back(h:SR P E Γ bs ow w a st)(ho:st.own=[]){Γ':aV}{bs':bw}{ow':Nat->Option l7}{w':World}{a':Array Value}{st':aA}{H':List aB}(h':SR P E Γ' bs' ow' w' a' st')(hle:Γ.Le w Γ' w')
  (hbs:∀i:Nat,i<bs.length->bs'[i]? =bs[i]?) (hH:dO H'.length st'.boxes H') (hl:H'.length=bs.length):
  ∃ow'',SR P E Γ' bs ow'' w' a {st with boxes:=H'}/\∀b,bg bs ow'' b->bg bs' ow' b:=by
 have hf:=h'.finish (H':=H') (v:=undef) (r:=.undef) (src:=fun k=>(0,k)) (ro:=[]) (.undef _) trivial hH (fun x hx=>by simp at hx) (fun x hx=>by simp at hx)
 have hb:bs'.take H'.length=bs:=by
  obtain⟨h1,_⟩:=n7 hH
  have h2:H'.length<=bs'.length:=by rw[h'.bl];exact h1
  refine va6 fun i=>?_
  by_cases hi:i<H'.length
  ·rw[van hi];exact hbs i (by omega)
  ·rw[vb5 (by omega),vaG (by omega)]
 rw[hb]at hf
 refine⟨_,{hf with
  sz:=h.sz
  tm:=fun t p v hp hv=>(h.tm t p v hp hv).mono hle (.refl _)
  ot:=fun t k e he=>by simp only[ho]at he;simp at he},fun b hb=>?_⟩
 rcases hb with⟨i,hi⟩|hb
 ·exact .inl ⟨i,(hbs i (ak hi)).trans hi⟩
 ·refine .inr fun e=>hb ?_
  simp[wQ,e]
end
section
variable{P:Program}{n:Nat}{a:Act}{w:World}{next:Act->World->Prop}{Q:Exit->Act->World->Prop}
theorem P0{o:Oper}(hd:fA o=true)(h:o.wp P a w next Q):o.wpIn Fence.wide n P a w next Q:=by
 refine⟨fun _ _=>trivial,?_⟩
 have hs:o.semAt (Fence.wide).round a.eval=execOp a.eval o:=Oper.semAt_eq _ _ _ fun c hc=>by unfold fA at hd;rw[hc]at hd;cases hd
 rw[hs]
 unfold Oper.wp at h
 generalize (execOp a.eval o).run P w=r at *
 have hdep:(Fence.wide).depth.isSome=true->1<=n:=fun h=>by simp[Fence.wide]at h
 cases r with
 | ok x w' =>
  cases x<;>simp only[Oper.upon]at h<;>simp only[Oper.uponIn]<;>first
   |exact h.elim
   |exact h
   |exact⟨hdep,callsIn_wide.2 h⟩
   | exact ⟨hdep,fun c cs _ => by
     obtain⟨v,w',r,s⟩:=h c cs
     exact⟨v,w',r,stepsIn_wide.2 s⟩⟩
 |halt x w'=>cases x<;>simp only[Oper.upon]at h<;>simp only[Oper.uponIn]<;>exact h
theorem Ol{o:Oper}{f:Operand}{args:Array Operand}{tys:Array TypeId}(ho:o.op=.call {callee:=.value f,args:=args,argTypes:=tys}){l:Nat}(hf:a.eval f=.func (.yield l) #[] #[])
  {R:Ending->World->Prop} (h:YieldAt Fence.wide (n - 1) P l (args.map a.eval) w R) (hR:∀e w',R e w'->∃v,e=.returned v/\next (a.put o.dst v) w'):o.wpIn Fence.wide n P a w next Q:=by
 refine⟨fun _ _=>trivial,?_⟩
 have hs:o.semAt (Fence.wide).round a.eval=execOp a.eval o:=Oper.semAt_eq _ _ _ fun c hc=>by rw[ho]at hc;cases hc
 obtain⟨fn,tmps,assign,body,hy,hr⟩:=h
 have hrun:(execOp a.eval o).run P w=.ok (.round l fn tmps assign body) w:=by
  simp[execOp,ho,resolve,hf,Deferred.ofValue,invoke,hy]
 rw[hs,hrun,Oper.uponIn_round]
 refine⟨fun h=>by simp[Fence.wide]at h,hr.mono fun e w' hr=>?_⟩
 obtain⟨v,rfl,hx⟩:=hR e w' hr
 exact hx
theorem Io{ops:Array Oper}{i:Nat}{rest:List Nat}{o:Oper}(ho:ops[i]? =some o)(hg:o.guard=none)(h:o.wpIn Fence.wide n P a w (wpOpsIn Fence.wide n P ops Q rest) Q):wpOpsIn Fence.wide n P ops Q (i::rest) a w:=by
 unfold wpOpsIn
 simp only[ho,Region.wanted,hg,if_true]
 exact h
theorem Fb{E:qt}{A:List Nat}{ops:Array Oper}{K:aA->Prop}{rest:List Nat}{ds:List Deferred}
  (hK:∀Γ bs ow a w st,SR P E Γ bs ow w a st->K st->wpOpsIn Fence.wide n P ops Q rest ⟨a,ds⟩ w):
  ∀(L:List Oper) (is:List Nat) (Γ:aV) (bs:bw) (ow:Nat->Option l7) (a:Array Value) (w:World) (st:aA),is.map (fun i=>ops[i]?)=L.map some->
   (∀o∈L,o.guard=none/\fA o=true/\aG o.op=false)->SR P E Γ bs ow w a st->dg P E.GE A ops K L 0 st->wpOpsIn Fence.wide n P ops Q (is++rest) ⟨a,ds⟩ w
 |[],[],Γ,bs,ow,a,w,st,_,_,h,hp=>hK Γ bs ow a w st h hp
 |o::L,i::is,Γ,bs,ow,a,w,st,hi,hg,h,hp=>by
  obtain⟨g1,g2,g3⟩:=hg o (by simp)
  unfold dg at hp
  simp only[g1]at hp
  simp only[var,vbA]at hi
  refine Io hi.1 g1 (P0 g2 (Oper.wp_mono (fun a' w' hA=>?_) (D3 (a:=⟨a,ds⟩) h (fun hm=>by rw[g3]at hm;cases hm) hp Q)))
  obtain⟨hd,Γ',bs',ow',st',h1,h2,_⟩:=hA
  obtain⟨a1,ds1⟩:=a'
  simp only at hd h1
  subst hd
  refine Fb (A:=A) hK L is Γ' bs' ow' a1 w' st' hi.2 (fun o ho=>hg o (vaQ _ ho)) h1 ?_
  rw[g3]at h2
  exact h2
end
def DT:Code->Array Oper
 |.region _ ops _=>ops
 |_=>#[]
def YN:Code->Nat
 |.region id _ _=>id
 |_=>0
def Wu(c:Code)(i:Nat):Oper:=(DT c)[i]?.getD default
def XT(o:Oper):Array TypeId:=match o.op with
 |.call c=>c.argTypes
 |_=>#[]
def Fe(o:Oper):Bool:=o.guard.isNone&&fA o&&!aG o.op
theorem Kr{L:List Oper}(h:L.all Fe=true):∀o∈L,o.guard=none/\fA o=true/\aG o.op=false:=fun o ho=>by
 have:=vau.1 h o ho
 simpa[Fe,and_assoc]using this
theorem rK{P:Program}{GE:List (Nat×List PVal)}{A:List Nat}{ops:Array Oper}{K K':aA->Prop}(hK:∀st,K st->K' st):∀(L:List Oper) (id:Nat) (st:aA),dg P GE A ops K L id st->dg P GE A ops K' L id st
 |[],_,st,h=>hK st h
 | o :: L,id,st,h => by
  unfold dg at h ⊢
  split at h
  ·exact su (fun st hx=>rK hK L _ st hx) h
  ·split at h
   ·exact⟨fun hx=>su (fun st hx=>rK hK L _ st hx) (h.1 hx),fun hx=>rK hK L _ _ (h.2 hx)⟩
   ·exact h
theorem O5{P:Program}{GE:List (Nat×List PVal)}{A:List Nat}{ops:Array Oper}{L:List Oper}{st st0:aA}{sc:List It}{F:Prop}(h:PS sc F)(he:F=FQ P GE A ops (fun _ st=>FG st st0) L 0 0 sc st):dg P GE A ops (fun st=>FG st st0) L 0 st:=
 rK (fun st ⟨_,hx⟩=>hx) L 0 st (uu L 0 0 sc st (Eq.mp he h))
theorem FG.sr{P:Program}{E:qt}{Γ:aV}{bs:bw}{ow:Nat->Option l7}{w:World}{a:Array Value}{st st0:aA}(h:SR P E Γ bs ow w a st)(hf:FG st st0):∃Γ' bs' ow',SR P E Γ' bs' ow' w a st0:=by
 obtain⟨Γ',bs',ow',h',_⟩:=(hf.weak (P:=P) (m:=0)) E [] ⟨a,[]⟩ w rfl ⟨Γ,bs,ow,h,fun i hi=>absurd hi (vaO _)⟩
 exact⟨Γ',bs',ow',h'⟩
def WE:Code->Code
 |.rangeFunc _ _ a _=>a
 |_=>.skip
def WF:Code->Code
 |.rangeFunc _ _ _ b=>b
 |_=>.skip
theorem j2{w:World}{b:Nat}{o:Obj}(h:w.heap[b]? =some o):b<w.heap.size:=(vad.1 h).1
structure Sd(P:Program)(GE:List (Nat×List PVal)){S:Type}(J:Bool->S->aV->World->Prop):Prop where
 base:∀b s Γ w,J b s Γ w->I5 GE Γ w
 side:∀b s Γ w,J b s Γ w->∀Γ' bs' ow' w' a' st',SR P (EI GE Γ w) Γ' bs' ow' w' a' st'->J b s Γ' w'
def VG(P:Program){S:Type}(J:Bool->S->aV->World->Prop)(Γ0:aV)(w0:World)(b:Bool)(s:S)(st:aA)(a:Array Value)(w:World):Prop:=∃Γ,J b s Γ w/\Γ0.Le w0 Γ w/\∃E bs ow,SR P E Γ bs ow w a st
structure Dg(st:aA)(k:Nat):Prop where
 c:li 0 st.tmps
 b:st.boxes=List.replicate k .dead
 o:st.own=[]
abbrev sY(l:Nat):PVal:=.val (.func (.yield l) #[] #[])
section
variable{P:Program}{GE:List (Nat×List PVal)}{S:Type}{J:Bool->S->aV->World->Prop}{l:Nat}{Γ0:aV}{w0:World}{b:Bool}{s:S}{st0 st1 stA stB:aA}{k kA kB:Nat}{a:Array Value}{w:World}{n:Nat}{ds:List Deferred}
theorem Vk{N:Nat}{L:List (Nat×PVal)}(h:UV 0 L)(k:Nat){H:List aB}(hH:H=List.replicate k .dead):Dg (bj N L H []) k:=⟨d5 h,hH,rfl⟩
theorem VG.again(hY:Sd P GE J)(hD:Dg st0 k)(h:VG P J Γ0 w0 b s st0 a w):∃Γ,J b s Γ w/\Γ0.Le w0 Γ w/\SR P (EI GE Γ w) Γ (List.replicate k none) (fun _=>none) w a st0:=by
 obtain⟨Γ,hJ,hle,E,bs,ow,hS⟩:=h
 obtain⟨tm,H,own⟩:=st0
 have hb:H=_:=hD.b
 have ho:own=[]:=hD.o
 subst hb;subst ho
 exact⟨Γ,hJ,hle,hS.again hD.c (hY.base _ _ _ _ hJ) (.refl _ _) k⟩
theorem VG.piece(hY:Sd P GE J){c:Code}{e:Exit}(hS:aR P GE 0 c (EX e st1) st0)(hD:Dg st0 k)(h:VG P J Γ0 w0 b s st0 a w):c.wpIn Fence.wide n P (fun e' a' w'=>e'=e/\a'.defers=ds/\VG P J Γ0 w0 b s st1 a'.tmps w') ⟨a,ds⟩ w:=by
 obtain⟨Γ,hJ,hle,hR⟩:=h.again hY hD
 refine wpIn_mono (hS.wide (hY.base _ _ _ _ hJ) hR n ds) ?_
 rintro e' a' w' ⟨hd,Γ',bs',ow',st',h',rfl,rfl⟩
 exact⟨rfl,hd,Γ',hY.side _ _ _ _ hJ _ _ _ _ _ _ h',hle.trans h'.step.le,_,_,_,h'⟩
theorem VG.reg(hY:Sd P GE J){id:Nat}{ops:Array Oper}{is1 is2:List Nat}{i:Nat}{L1 L2:List Oper}{o:Oper}(hrg:List.range ops.size=is1++i::(is2++[]))
  (p1:is1.map (fun i=>ops[i]?)=L1.map some) (p2:L1.all Fe=true) (ho:ops[i]? =some o) (hg:o.guard=none) (q1:is2.map (fun i=>ops[i]?)=L2.map some) (q2:L2.all Fe=true)
  (hD:Dg st0 k) (hDB:Dg stB kB) (hpre:dg P GE [] ops (fun st=>FG st stA) L1 0 st0) (hsuf:dg P GE [] ops (fun st=>FG st st1) L2 0 stB) {r:Bool×S}
  (hcall:∀a w (next:Act->World->Prop) (Q:Exit->Act->World->Prop),VG P J Γ0 w0 b s stA a w->(∀a' w',VG P J Γ0 w0 r.1 r.2 stB a' w'->next ⟨a',ds⟩ w')->o.wpIn Fence.wide n P ⟨a,ds⟩ w next Q)
  (h:VG P J Γ0 w0 b s st0 a w):(Code.region id ops false).wpIn Fence.wide n P (fun e' a' w'=>e'=.normal/\a'.defers=ds/\VG P J Γ0 w0 r.1 r.2 st1 a'.tmps w') ⟨a,ds⟩ w:=by
 refine wpIn_region ?_
 rw[hrg]
 obtain⟨Γ,hJ,hle,hS⟩:=h.again hY hD
 refine Fb (A:=[]) (K:=fun st=>FG st stA) (fun Γ' bs' ow' a' w' st hS' hK=>?_) _ _ Γ _ _ a w st0 p1 (Kr p2) hS hpre
 obtain⟨Γ2,bs2,ow2,hS2⟩:=FG.sr hS' hK
 refine Io ho hg (hcall a' w' _ _ ⟨Γ2,hY.side _ _ _ _ hJ _ _ _ _ _ _ hS2,hle.trans hS2.step.le,_,_,_,hS2⟩ fun a3 w3 h3=>?_)
 obtain⟨Γ3,hJ3,hle3,hS3⟩:=h3.again hY hDB
 refine Fb (A:=[]) (K:=fun st=>FG st st1) (fun Γ' bs' ow' a' w' st hS' hK=>?_) _ _ Γ3 _ _ a3 w3 stB q1 (Kr q2) hS3 hsuf
 obtain⟨Γ4,bs4,ow4,hS4⟩:=FG.sr hS' hK
 exact⟨rfl,rfl,Γ4,hY.side _ _ _ _ hJ3 _ _ _ _ _ _ hS4,hle3.trans hS4.step.le,_,_,_,hS4⟩
theorem VG.ev(h:VG P J Γ0 w0 b s st0 a w){t:Nat}{x:Bool}(ht:st0.tmps.getD t .undef=.bool x):(Act.mk a ds).eval (.tmp t)=.bool x:=by
 obtain⟨Γ,hJ,hle,E,bs,ow,hS⟩:=h
 have h1:=hS.opv ds (.tmp t)
 have e1:opv E.GE st0.tmps (.tmp t)=.bool x:=ht
 rw[e1]at h1
 generalize (Act.mk a ds).eval (.tmp t)=v at h1
 cases h1
 rfl
theorem VG.put(hY:Sd P GE J)(hD:Dg stA kA){Γ Γ':aV}{w':World}{E:qt}{bs:bw}{ow:Nat->Option l7}(hS:SR P E Γ bs ow w a stA)(hle:Γ0.Le w0 Γ w)(hle':Γ.Le w Γ' w'){r:Bool×S}(hJ':J r.1 r.2 Γ' w'){d:Nat}(hB:stB=⟨stA.tmps.set d (.bool r.1),List.replicate kA .dead,[]⟩):VG P J Γ0 w0 r.1 r.2 stB (a.setIfInBounds d (.bool r.1)) w':=by
 have hS':=(hS.again hD.c (hY.base _ _ _ _ hJ') hle' kA).set (d:=d) (p:=.bool r.1) (v:=.bool r.1) (.bool _)
 exact⟨Γ',hJ',hle.trans hle',_,_,_,hB▸hS'⟩
theorem VG.yield2(hY:Sd P GE J)(hD:Dg stA kA){r:Bool×S}{i:Int}{cs:List PVal}(hcl:li 0 cs)
  (hy:∀Γ w v,J true s Γ w->VR Γ [] w (.agg cs) v->YieldAt Fence.wide (n - 1) P l #[.int .i64 i,v] w fun e w'=>∃Γ',e=.returned (.bool r.1)/\Γ.Le w Γ' w'/\J r.1 r.2 Γ' w')
  {o:Oper} {f x y d:Nat} {tys:Array TypeId} (h7:stA.tmps.getD f .undef=sY l) (h8:stA.tmps.getD x .undef=.int .i64 i) (h9:stA.tmps.getD y .undef=.agg cs)
  (ho:o.op=.call {callee:=.value (.tmp f),args:=#[.tmp x,.tmp y],argTypes:=tys}) (hd:o.dst=some d) (hB:stB=⟨stA.tmps.set d (.bool r.1),List.replicate kA .dead,[]⟩)
  {next:Act->World->Prop} {Q:Exit->Act->World->Prop} (h:VG P J Γ0 w0 true s stA a w) (hn:∀a' w',VG P J Γ0 w0 r.1 r.2 stB a' w'->next ⟨a',ds⟩ w'):o.wpIn Fence.wide n P ⟨a,ds⟩ w next Q:=by
 obtain⟨Γ,hJ,hle,hS⟩:=h.again hY hD
 have h1:=hS.opv ds (.tmp f)
 have h2:=hS.opv ds (.tmp x)
 have h3:=hS.opv ds (.tmp y)
 have e1:opv (EI GE Γ w).GE stA.tmps (.tmp f)=sY l:=h7
 have e2:opv (EI GE Γ w).GE stA.tmps (.tmp x)=.int .i64 i:=h8
 have e3:opv (EI GE Γ w).GE stA.tmps (.tmp y)=.agg cs:=h9
 rw[e1]at h1;rw[e2]at h2;rw[e3]at h3
 have hev:(Act.mk a ds).eval (.tmp f)=.func (.yield l) #[] #[]:=by
  generalize (Act.mk a ds).eval (.tmp f)=v at h1
  cases h1;rfl
 have hex:(Act.mk a ds).eval (.tmp x)=.int .i64 i:=by
  generalize (Act.mk a ds).eval (.tmp x)=v at h2
  cases h2;rfl
 refine Ol ho hev (R:=fun e w'=>∃Γ',e=.returned (.bool r.1)/\Γ.Le w Γ' w'/\J r.1 r.2 Γ' w') ?_ ?_
 ·have:=hy Γ w _ hJ (h3.clo (by simp only[PVal.cl];exact hcl))
  simpa[hex]using this
 ·rintro e w' ⟨Γ',rfl,hle',hJ'⟩
  refine⟨_,rfl,?_⟩
  rw[hd]
  exact hn _ _ (VG.put hY hD hS hle hle' hJ' hB)
end
def Oj{α S:Type}(step:S->α->Option (Bool×S)):List α->S->Option (Bool×S)
 |[],s=>some (true,s)
 |x::l,s=>(step s x).bind fun r=>match r.1 with
  |false=>some (false,r.2)
  |true=>Oj step l r.2
theorem SG{α:Type}(l:List α){j:Nat}(h:j<l.length):(l.take (j+1)).reverse=l[j]::(l.take j).reverse:=by
 rw[vaA h,List.reverse_append];rfl
theorem co{n:Int}(h1: -9223372036854775808<=n)(h2:n<9223372036854775808):cp n=n:=U7 h1 h2
theorem bY{α:Type}(l:List α)(i:Nat)(h:i<l.length):gY l (i:Int)=some l[i]:=by
 unfold gY
 rw[vaq (by omega)]
 simp[h]
theorem j1{α:Type}{l r:List α}(h:l.length+r.length<=1073741824):app l r=some (l++r):=vaq h
theorem HI{l r:ag}(h:l.length+r.length<=4611686018427387904):UT l r=some (l++r):=vaq h
theorem wW{σ X:Type}{body:σ->Option (σ⊕X)}{s s':σ}(h:body s=some (.inl s')):loop body s=loop body s':=by rw[tC,h]
theorem tP{σ X:Type}{body:σ->Option (σ⊕X)}{s:σ}{x:X}(h:body s=some (.inr x)):loop body s=some x:=by rw[tC,h]
def CJ{α σ X:Type}(f:Nat->α->σ->σ⊕X)(e:σ->X):List α->Nat->σ->X
 |[],_,s=>e s
 |x::r,i,s=>match f i x s with
  |.inl s'=>CJ f e r (i+1) s'
  |.inr y=>y
theorem DD{α σ τ X:Type}(l:List α)(hl:l.length<9223372036854775808)(mk:Int->σ->τ)(body:τ->Option (τ⊕X))(I:Nat->σ->Prop)(f:Nat->α->σ->σ⊕X)(e:σ->X)
  (hin:∀(i:Nat) (h:i<l.length) s,I i s->body (mk i s)=some (match f i l[i] s with|.inl s'=>.inl (mk (cp ((i:Int)+1)) s')|.inr y=>.inr y)/\∀s',f i l[i] s=.inl s'->I (i+1) s')
  (hend:∀s,I l.length s->body (mk l.length s)=some (.inr (e s))):∀(i:Nat) (s:σ),i<=l.length->I i s->loop body (mk i s)=some (CJ f e (l.drop i) i s):=by
 intro i s hi hI
 obtain⟨k,hk⟩:∃k,k+i=l.length:=⟨l.length - i,by omega⟩
 induction k generalizing i s with
 |zero=>
  have:i=l.length:=by omega
  subst this
  rw[tC,hend s hI,vcL]
  rfl
 | succ k ih =>
  have hlt:i<l.length:=by omega
  obtain⟨h1,h2⟩:=hin i hlt s hI
  rw[tC,h1,vbz hlt]
  unfold CJ
  cases hf:f i l[i] s with
  |inl s'=>
   simp only
   rw[co (by omega) (by omega)]
   have:=ih (i+1) s' (by omega) (h2 s' hf) (by omega)
   rw[show((i:Int)+1)=((i+1:Nat):Int) by omega]
   exact this
  |inr y=>rfl
theorem M7{α X:Type}(p:α->Bool)(y e:X):∀(l:List α) (i:Nat),CJ (fun _ x (_:Unit)=>if p x=true then Sum.inr y else .inl ()) (fun _=>e) l i ()=if l.any p=true then y else e
 |[],i=>by simp[CJ]
 | x :: l,i => by
  have ih:=M7 p y e l (i+1)
  unfold CJ
  by_cases h:p x=true
  ·simp[h]
  ·simp only[h,if_false,ih,List.any_cons,Bool.false_or,vaV]
theorem RZ{α X:Type}(l:List α)(hl:l.length<9223372036854775808)(body:Int->Option (Int⊕X))(p:α->Bool)(y e:X)
  (hin:∀(i:Nat) (h:i<l.length),body i=some (if p l[i]=true then .inr y else .inl (cp ((i:Int)+1)))) (hend:body l.length=some (.inr e)) (i:Nat) (hi:i<=l.length):
  loop body (i:Int)=some (if(l.drop i).any p=true then y else e):=by
 have:=DD l hl (fun i (_:Unit)=>i) body (fun _ _=>True) (fun _ x _=>if p x=true then Sum.inr y else .inl ()) (fun _=>e) (fun i h s _=>⟨?_,fun _ _=>trivial⟩) (fun s _=>hend) i () hi trivial
 ·rw[this,M7]
 ·rw[hin i h]
  by_cases hp:p l[i]=true<;>simp[hp]
theorem Ky{α X:Type}(p:α->Bool)(y:Nat->X)(e:X):∀(l:List α) (i:Nat),CJ (fun j x (_:Unit)=>if p x=true then Sum.inr (y j)else .inl ()) (fun _=>e) l i ()=match l.findIdx? p with|some j=>y (i+j)|none=>e
 |[],i=>by simp[CJ]
 | x :: l,i => by
  have ih:=Ky p y e l (i+1)
  unfold CJ
  rw[List.findIdx?_cons]
  by_cases h:p x=true
  ·simp[h]
  ·simp only[h,if_false,ih,vaV]
   cases l.findIdx? p with
   |none=>rfl
   |some j=>simp only[vah];congr 1;omega
theorem Kd{α X:Type}(l:List α)(hl:l.length<9223372036854775808)(body:Int->Option (Int⊕X))(p:α->Bool)(y:Nat->X)(e:X)
  (hin:∀(i:Nat) (h:i<l.length),body i=some (if p l[i]=true then .inr (y i)else .inl (cp ((i:Int)+1)))) (hend:body l.length=some (.inr e)):
  loop body (0:Int)=some (match l.findIdx? p with|some j=>y j|none=>e):=by
 have:=DD l hl (fun i (_:Unit)=>i) body (fun _ _=>True) (fun j x _=>if p x=true then Sum.inr (y j)else .inl ()) (fun _=>e) (fun i h s _=>⟨?_,fun _ _=>trivial⟩) (fun s _=>hend) 0 () (va5 _) trivial
 ·simp only[Int.ofNat_zero,vcz]at this
  have this2:=Ky p y e l 0
  simp only[vaM]at this2
  rw[<-this2]
  exact this
 ·rw[hin i h]
  by_cases hp:p l[i]=true<;>simp[hp]
abbrev Xw:Nat:=137
abbrev Mk:Nat:=157
noncomputable def Xn:Code:=f137.body.getD .skip
noncomputable def Nw:Code:=f157.body.getD .skip
abbrev Gf(sc:List aa):PVal:=sl ac sc
theorem ND(sc:List aa):(Gf sc).cl 0:=au al sc
theorem FO(sc:List aa):(PVal.eptr [Gf sc]).cl 0:=⟨ND sc,trivial⟩
theorem Wp(sc:List aa):bK Pg 92 [Gf sc]=some (Gf sc):=by kernel_rfl
theorem Ma(sc:List aa):CC Pg GE Xw [Gf sc] (.func (.func Mk) [] [.eptr [Gf sc]]) []:=by
 have z:=se (show cN (Gf sc)=some [Gf sc]from rfl)<|en (aI (rP (.func (.func Mk) [] [.eptr [Gf sc]]))<|(aI trivial (aI (FO sc) trivial)))
 exact C.evp (A:=[]) mixed call137 func137 (c:=Xn) rfl (aI (ND sc) trivial) z (by kernel_rfl)
abbrev X0:Code:=iY Nw [false]
abbrev X1:Code:=iY Nw [true,false,false,false,false]
abbrev KV:Code:=iY Nw [true,false,false,true,false,false,false]
abbrev X2:Code:=iY Nw [true,false,false,true,true]
theorem Tc:Nw=.seq X0 (.block 0 (.loop (.seq (.seq X1 (.cond (.tmp 8) .skip (.exit 0))) (.seq (.block 1 (.seq (.region (YN KV) (DT KV) false) (.cond (.tmp 18) .ret .skip))) X2)))):=by kernel_rfl
theorem UR:List.range (DT KV).size=[0,1,2,3,4,5]++6::([7]++[]):=by kernel_rfl
theorem UN:[0,1,2,3,4,5].map (fun i=>(DT KV)[i]?)=((DT KV).toList.take 6).map some:=by kernel_rfl
theorem UO:((DT KV).toList.take 6).all Fe=true:=by kernel_rfl
theorem V3:(DT KV)[6]? =some (Wu KV 6):=by kernel_rfl
theorem V2:(Wu KV 6).guard=none:=by kernel_rfl
theorem UP:[7].map (fun i=>(DT KV)[i]?)=((DT KV).toList.drop 7).map some:=by kernel_rfl
theorem UQ:((DT KV).toList.drop 7).all Fe=true:=by kernel_rfl
theorem UM:(Wu KV 6).op=.call {callee:=.value (.tmp 11),args:=#[.tmp 12,.tmp 16],argTypes:=XT (Wu KV 6)}:=by kernel_rfl
theorem V1:(Wu KV 6).dst=some 17:=by kernel_rfl
abbrev bS(l:Nat)(sc:List aa)(i:Int):aA:=bj 19 [(0,sY l),(1,.eptr [Gf sc]),(3,.int .i64 i)] [] []
abbrev WL(l:Nat)(sc:List aa)(i:Int):aA:=bj 19 [(0,sY l),(1,.eptr [Gf sc]),(3,.int .i64 i),(8,.bool (decide (i>=0)))] [] []
abbrev Xo(l:Nat)(sc:List aa)(i:Int)(x:aa):aA:=bj 19 [(0,sY l),(1,.eptr [Gf sc]),(3,.int .i64 i),(11,sY l),(12,.int .i64 i),(16,.agg (ac x))] [] []
abbrev Xp(l:Nat)(sc:List aa)(i:Int)(x:aa)(b:Bool):aA:=bj 19 [(0,sY l),(1,.eptr [Gf sc]),(3,.int .i64 i),(11,sY l),(12,.int .i64 i),(16,.agg (ac x)),(17,.bool b)] [] []
abbrev WM(l:Nat)(sc:List aa)(i:Int)(b:Bool):aA:=bj 19 [(0,sY l),(1,.eptr [Gf sc]),(3,.int .i64 i),(18,.bool (!b))] [] []
theorem Xq(l:Nat)(sc:List aa):aR Pg GE 0 X0 (EX .normal (bS l sc (cp ((sc.length:Int) - 1)))) (bj 19 [(0,sY l),(1,.eptr [Gf sc])] [] []):=by
 have z:=sv (Wp sc)<|cq (IK.ln sc)<|eF .normal (bS l sc (cp ((sc.length:Int) - 1)))
 exact qY (A:=[]) mixed z (by kernel_rfl)
theorem Xr(l:Nat)(sc:List aa)(i:Int):aR Pg GE 0 X1 (EX .normal (WL l sc i)) (bS l sc i):=by
 have z:=eF .normal (WL l sc i)
 exact qY (A:=[]) mixed z (by kernel_rfl)
theorem Xt(l:Nat)(sc:List aa)(i:Int)(x:aa)(hx:gY sc i=some x):dg Pg GE [] (DT KV) (fun st=>FG st (Xo l sc i x)) ((DT KV).toList.take 6) 0 (WL l sc i):=by
 have z:=sv (Wp sc)<|sv (IK.ia (k:=.i64) hx)<|sv (H8 x)<|en (fr (Xo l sc i x))
 exact O5 z (by kernel_rfl)
theorem V4(l:Nat)(sc:List aa)(i:Int)(x:aa)(b:Bool):dg Pg GE [] (DT KV) (fun st=>FG st (WM l sc i b)) ((DT KV).toList.drop 7) 0 (Xp l sc i x b):=by
 have z:=en (fr (WM l sc i b))
 exact O5 z (by kernel_rfl)
theorem Xs(l:Nat)(sc:List aa)(i:Int)(b:Bool):aR Pg GE 0 X2 (EX .normal (bS l sc (cp (i - 1)))) (WM l sc i b):=by
 have z:=eF .normal (bS l sc (cp (i - 1)))
 exact qY (A:=[]) mixed z (by kernel_rfl)
theorem Xu(l:Nat)(sc:List aa)(i:Int):Dg (bS l sc i) 0:=Vk (by exact aI trivial<|aI (FO sc)<|aI trivial trivial) 0 rfl
theorem Wi(l:Nat)(sc:List aa)(i:Int):Dg (WL l sc i) 0:=Vk (by exact aI trivial<|aI (FO sc)<|aI trivial<|aI trivial trivial) 0 rfl
theorem Wj(l:Nat)(sc:List aa)(i:Int)(x:aa):Dg (Xo l sc i x) 0:=Vk (by exact aI trivial<|aI (FO sc)<|aI trivial<|aI trivial<|aI trivial<|aI (show li 0 (ac x)from al x) trivial) 0 rfl
theorem Wk(l:Nat)(sc:List aa)(i:Int)(x:aa)(b:Bool):Dg (Xp l sc i x b) 0:=Vk (by exact aI trivial<|aI (FO sc)<|aI trivial<|aI trivial<|aI trivial<|aI (show li 0 (ac x)from al x)<|aI trivial trivial) 0 rfl
theorem Wl(l:Nat)(sc:List aa)(i:Int)(b:Bool):Dg (WM l sc i b) 0:=Vk (by exact aI trivial<|aI (FO sc)<|aI trivial<|aI trivial trivial) 0 rfl
section
variable{S:Type}{step:S->aa->Option (Bool×S)}{J:Bool->S->aV->World->Prop}{l:Nat}
theorem V6(hY:Sd Pg GE J)(hy:∀s Γ w (i:Int) x v n r,J true s Γ w->VR Γ [] w (.agg (ac x)) v->step s x=some r->YieldAt Fence.wide n Pg l #[.int .i64 i,v] w fun e w'=>∃Γ',e=.returned (.bool r.1)/\Γ.Le w Γ' w'/\J r.1 r.2 Γ' w')
  (sc:List aa) (hlen:sc.length<4611686018427387904) {s:S} {r:Bool×S} {Γ:aV} {w:World} {v:Value} {n:Nat} (hv:Oj step sc.reverse s=some r) (hJ:J true s Γ w) (hvr:VR Γ [] w (.eptr [Gf sc]) v):
  CallsIn Fence.wide n Pg Mk #[.func (.yield l) #[] #[],v] w fun e w'=>(∃u,e=.returned u)/\∃Γ',Γ.Le w Γ' w'/\J r.1 r.2 Γ' w':=by
 refine callsIn_of_wp func157 (c:=Nw) rfl trivial ?_
 have h0:VG Pg J Γ w true s (bj 19 [(0,sY l),(1,.eptr [Gf sc])] [] []) (#[.func (.yield l) #[] #[],v]++Array.replicate 17 undef) w:=by
  refine⟨Γ,hJ,.refl _ _,_,_,_,(hY.base _ _ _ _ hJ).fresh 0 (tmps:=[sY l,.eptr [Gf sc]]++List.replicate 17 .undef) (by simp) fun t q u hq hu=>?_⟩
  by_cases ht:t<2
  ·rw[vac (by simpa using ht)]at hq
   rw[vaR (by simpa using ht)]at hu
   match t,ht with
   |0,_=>simp at hq hu;subst hq;subst hu;exact .val _
   |1,_=>simp at hq hu;subst hq;subst hu;exact hvr
  ·rw[vaf (by simpa using ht),vaX]at hq
   split at hq<;>cases hq
   exact .undef u
 show Nw.wpIn Fence.wide n Pg _ ⟨_,[]⟩ w
 have hret:∀{b:Bool} {s:S} {st:aA} {e:Exit} {a':Act} {w':World},(e=.normal\/e=.ret)->a'.defers=[]->VG Pg J Γ w b s st a'.tmps w'->b=r.1->s=r.2->
   bodyPost Pg f157 (fun e w'=>(∃u,e=.returned u)/\∃Γ',Γ.Le w Γ' w'/\J r.1 r.2 Γ' w') e a' w':=by
  rintro b s st e a' w' he hd ⟨Γ',hJ',hle,E,bs,ow,hS⟩ rfl rfl
  obtain⟨u,e1,_⟩:=sA hS (fn:=f157) (r:=.tuple []) (by kernel_rfl)
  rcases he with rfl|rfl
  ·exact⟨hd,u,e1,⟨u,rfl⟩,Γ',hle,hJ'⟩
  ·exact⟨hd,u,e1,⟨u,rfl⟩,Γ',hle,hJ'⟩
 rw[Tc]
 refine wpIn_seq (wpIn_mono (VG.piece hY (Xq l sc) (k:=0) (Vk (by exact aI trivial<|aI (FO sc) trivial) 0 rfl) h0) ?_)
 rintro e ⟨a1,ds1⟩ w1 ⟨rfl,rfl,h1⟩
 refine wpIn_block (wpIn_loop_ghost (fun k a w'=>a.defers=[]/\∃s':S,k<=sc.length/\Oj step (sc.take k).reverse s'=some r/\VG Pg J Γ w true s' (bS l sc ((k:Int) - 1)) a.tmps w') sc.length
  ⟨rfl,s,vam _,by rw[vaP];exact hv,?_⟩ ?_)
 ·rw[co (by omega) (by omega)]at h1;exact h1
 rintro k ⟨a4,ds4⟩ w4 ⟨hd4,s',hk,hvl,h4⟩
 simp only at hd4;subst hd4
 refine wpIn_seq (wpIn_seq (wpIn_mono (VG.piece hY (Xr l sc _) (Xu _ _ _) h4) ?_))
 rintro e ⟨a5,ds5⟩ w5 ⟨rfl,rfl,h5⟩
 refine wpIn_cond (h5.ev (t:=8) (x:=decide ((k:Int) - 1>=0)) rfl) ?_
 cases k with
 |zero=>
  rw[decide_eq_false (by omega)]
  refine wpIn_exit ?_
  rw[List.take_zero]at hvl
  cases hvl
  exact hret (.inl rfl) rfl h5 rfl rfl
 | succ j =>
  rw[decide_eq_true (by omega)]
  refine wpIn_skip ?_
  have hj:j<sc.length:=by omega
  rw[SG sc hj,Oj]at hvl
  obtain⟨q,hq,hvl⟩:=aJ hvl
  have hx:gY sc (((j+1:Nat):Int) - 1)=some sc[j]:=by rw[show((j+1:Nat):Int) - 1=(j:Int)from by omega];exact bY _ _ hj
  generalize sc[j]=x at *
  refine wpIn_seq (wpIn_block (wpIn_seq (wpIn_mono (VG.reg hY UR UN UO V3 V2 UP UQ (k:=0) (kB:=0) (r:=q) (stB:=Xp l sc _ x q.1) (Wi _ _ _) (Wk _ _ _ _ _) (Xt l sc _ x hx) (V4 l sc _ x q.1)
   (fun a w next Q h hn=>VG.yield2 hY (kA:=0) (i:=((j+1:Nat):Int) - 1) (Wj _ _ _ _) (al x) (fun Γ w v hJ hv=>hy s' Γ w _ x v _ q hJ hv hq) (f:=11) (x:=12) (y:=16) (d:=17) rfl rfl rfl UM V1 rfl h hn) h5) ?_)))
  rintro e ⟨a6,ds6⟩ w6 ⟨rfl,rfl,h6⟩
  refine wpIn_cond (h6.ev (t:=18) (x:=!q.1) rfl) ?_
  obtain⟨q1,q2⟩:=q
  cases q1 with
  |false=>
   cases hvl
   refine wpIn_ret ?_
   exact hret (.inr rfl) rfl h6 rfl rfl
  |true=>
   refine wpIn_skip ?_
   refine wpIn_mono (VG.piece hY (Xs l sc _ true) (Wl _ _ _ _) h6) ?_
   rintro e ⟨a7,ds7⟩ w7 ⟨rfl,rfl,h7⟩
   refine⟨j,by omega,rfl,q2,by omega,hvl,?_⟩
   rw[co (by omega) (by omega)]at h7
   rw[show((j+1:Nat):Int) - 1 - 1=(j:Int) - 1 from by omega]at h7
   exact h7
end
end Go.Proofs.YtkdahfeiedaahaaGreatDoor
