/- PROVED: a part of the proof. Conditions: none. -/
import Derived.Test.YtkdahfeiedaahaaGreatDoorPkB8
import Derived.Test.YtkdahfeiedaahaaGreatDoorChecked
import Derived.Test.YtkdahfeiedaahaaGreatDoorProg
import Derived.Ground.SlgnProg
import Derived.Shelf.Lays
import Derived.Shelf.LaysM
import Derived.Shelf.SlGeneric
import Derived.Shelf.SlLaysE0
import Derived.Test.YtkdahfeiedaahaaGreatDoorPkB7
import Derived.Shelf.Strconv.Itoa3
import Derived.RangeFuncRecord
import Derived.RangeFuncSeq
noncomputable section
namespace Go.Proofs.YtkdahfeiedaahaaGreatDoor
open Go Go.Proofs.Tryz
set_option linter.unusedVariables false
set_option maxRecDepth 100000
noncomputable abbrev Pg:=Tryz.prog
theorem mixed:Pg.follows .mixedOrders=true:=by kernel_rfl
inductive ax where
 |mk (Op:Int) (Name:ag) (N:Int) (Kids:(List ax))
def ax.Op:ax->Int
 |⟨x,_,_,_⟩=>x
def ax.Name:ax->ag
 |⟨_,x,_,_⟩=>x
def ax.N:ax->Int
 |⟨_,_,x,_⟩=>x
def ax.Kids:ax->(List ax)
 |⟨_,_,_,x⟩=>x
mutual
def aw:ax->List PVal
 |⟨x0,x1,x2,x3⟩=>[.int .i64 x0,.str x1,.int .i64 x2,.slice (vb x3)]
def vb:List ax->List (List PVal)
 |[]=>[]
 |x::r=>aw x::vb r
end
theorem Ie:∀(l:List ax),vb l=l.map aw
 |[]=>by simp[vb]
 |x::r=>by simp[vb,Ie r]
mutual
theorem bH:∀(x:ax),kD 0 (aw x)
 |⟨x0,x1,x2,x3⟩=>by rw[aw];exact(aI trivial (aI trivial (aI trivial (aI (J4 x3) trivial))))
theorem J4:∀(l:List ax),uA 0 (vb l)
 |[]=>by simp[vb,uA]
 |x::r=>by rw[vb];exact⟨bH x,J4 r⟩
end
theorem ei:∀(x:ax),aw x=[.int .i64 x.Op,.str x.Name,.int .i64 x.N,sl aw x.Kids]
 |⟨x0,x1,x2,x3⟩=>by
  simp only[aw,Ie]
  rfl
abbrev LG(x:ax):PVal:=.agg (aw x)
theorem EO(x:ax):(aw x).length=4:=by rw[ei];rfl
theorem DT(x:ax):cF (.agg (aw x))=some (aw x):=rfl
theorem Kq(x:ax):cF (LG x)=some (aw x):=rfl
theorem AJ(x:ax):cF (.agg (aw x))=some [.int .i64 x.Op,.str x.Name,.int .i64 x.N,sl aw x.Kids]:=by rw[ei];rfl
theorem O5(x:ax):∀q∈aw x,q.one=true:=by
 intro q hq
 rw[ei]at hq
 simp only[vay,vbA,or_false]at hq
 rcases hq with rfl|rfl|rfl|rfl<;>rfl
theorem RF:Pg.cellsOf 58=4:=by kernel_rfl
theorem pq(x:ax):bE Pg 58 (aw x)=some (.agg (aw x)):=by
 have:=rZ (P:=Pg) (t:=58) (l:=aw x) (r:=[]) (by kernel_rfl) (RF.trans (EO x).symm)
 rwa[vbh]at this
theorem wB(x:ax)(r:List PVal):bE Pg 58 ([.int .i64 x.Op,.str x.Name,.int .i64 x.N,sl aw x.Kids]++r)=some (.agg (aw x)):=by
 rw[<-ei];exact rZ (by kernel_rfl) (RF.trans (EO x).symm)
theorem Pp(x:ax):PVal.agg [.int .i64 x.Op,.str x.Name,.int .i64 x.N,sl aw x.Kids]=.agg (aw x):=by rw[ei]
theorem rf(x:ax):bg Pg 58 (.eptr (aw x)) 0=some (.eptr ((aw x).drop 0)):=by rw[ei];kernel_rfl
theorem nF(x:ax):bg Pg 58 (.eptr (aw x)) 1=some (.eptr ((aw x).drop 1)):=by rw[ei];kernel_rfl
theorem rh(x:ax):bg Pg 58 (.eptr (aw x)) 2=some (.eptr ((aw x).drop 2)):=by rw[ei];kernel_rfl
theorem gm(x:ax):bg Pg 58 (.eptr (aw x)) 3=some (.eptr ((aw x).drop 3)):=by rw[ei];kernel_rfl
theorem rj(x:ax):bE Pg 55 ((aw x).drop 0)=some (.int .i64 x.Op):=by rw[ei];kernel_rfl
theorem pp(x:ax):bE Pg 9 ((aw x).drop 1)=some (.str x.Name):=by rw[ei];kernel_rfl
theorem tc(x:ax):bE Pg 3 ((aw x).drop 2)=some (.int .i64 x.N):=by rw[ei];kernel_rfl
theorem gp(x:ax):bE Pg 56 ((aw x).drop 3)=some (sl aw x.Kids):=by rw[ei];kernel_rfl
inductive am where
 |mk (Op:Int) (Name:ag) (Args:(List am)) (Names:(List ag)) (Pred:ax) (Preds:(List ax))
def am.Op:am->Int
 |⟨x,_,_,_,_,_⟩=>x
def am.Name:am->ag
 |⟨_,x,_,_,_,_⟩=>x
def am.Args:am->(List am)
 |⟨_,_,x,_,_,_⟩=>x
def am.Names:am->(List ag)
 |⟨_,_,_,x,_,_⟩=>x
def am.Pred:am->ax
 |⟨_,_,_,_,x,_⟩=>x
def am.Preds:am->(List ax)
 |⟨_,_,_,_,_,x⟩=>x
mutual
def ai:am->List PVal
 |⟨x0,x1,x2,x3,x4,x5⟩=>[.int .i64 x0,.str x1,.slice (vd x2),sl cS x3]++(aw x4++([sl aw x5]))
def vd:List am->List (List PVal)
 |[]=>[]
 |x::r=>ai x::vd r
end
theorem If:∀(l:List am),vd l=l.map ai
 |[]=>by simp[vd]
 |x::r=>by simp[vd,If r]
mutual
theorem aL:∀(x:am),kD 0 (ai x)
 |⟨x0,x1,x2,x3,x4,x5⟩=>by rw[ai];exact Cl.2 (aI ((aI trivial (aI trivial (aI (J5 x2) (aI (aj bD x3) trivial))))) (Cl.2 (aI (bH x4) ((aI (aj bH x5) trivial)))))
theorem J5:∀(l:List am),uA 0 (vd l)
 |[]=>by simp[vd,uA]
 |x::r=>by rw[vd];exact⟨aL x,J5 r⟩
end
theorem dK:∀(x:am),ai x=[.int .i64 x.Op,.str x.Name,sl ai x.Args,sl cS x.Names,.int .i64 x.Pred.Op,.str x.Pred.Name,.int .i64 x.Pred.N,sl aw x.Pred.Kids,sl aw x.Preds]
 |⟨x0,x1,x2,x3,x4,x5⟩=>by
  simp only[ai,If,ei,va1,va5]
  rfl
abbrev LH(x:am):PVal:=.agg (ai x)
theorem EP(x:am):(ai x).length=9:=by rw[dK];rfl
theorem px(x:am):cF (.agg (ai x))=some (ai x):=rfl
theorem Kr(x:am):cF (LH x)=some (ai x):=rfl
theorem qK(x:am):cF (.agg (ai x))=some [.int .i64 x.Op,.str x.Name,sl ai x.Args,sl cS x.Names,.int .i64 x.Pred.Op,.str x.Pred.Name,.int .i64 x.Pred.N,sl aw x.Pred.Kids,sl aw x.Preds]:=by rw[dK];rfl
theorem O6(x:am):∀q∈ai x,q.one=true:=by
 intro q hq
 rw[dK]at hq
 simp only[vay,vbA,or_false]at hq
 rcases hq with rfl|rfl|rfl|rfl|rfl|rfl|rfl|rfl|rfl<;>rfl
theorem RG:Pg.cellsOf 60=9:=by kernel_rfl
theorem kG(x:am):bE Pg 60 (ai x)=some (.agg (ai x)):=by
 have:=rZ (P:=Pg) (t:=60) (l:=ai x) (r:=[]) (by kernel_rfl) (RG.trans (EP x).symm)
 rwa[vbh]at this
theorem jZ(x:am)(r:List PVal):bE Pg 60 ([.int .i64 x.Op,.str x.Name,sl ai x.Args,sl cS x.Names,.int .i64 x.Pred.Op,.str x.Pred.Name,.int .i64 x.Pred.N,sl aw x.Pred.Kids,sl aw x.Preds]++r)=some (.agg (ai x)):=by
 rw[<-dK];exact rZ (by kernel_rfl) (RG.trans (EP x).symm)
theorem Pq(x:am):PVal.agg [.int .i64 x.Op,.str x.Name,sl ai x.Args,sl cS x.Names,.int .i64 x.Pred.Op,.str x.Pred.Name,.int .i64 x.Pred.N,sl aw x.Pred.Kids,sl aw x.Preds]=.agg (ai x):=by rw[dK]
theorem Nb:dL Pg 60 []=some (.agg (ai (⟨0,([]:ag),([]:List am),([]:List ag),(⟨0,([]:ag),0,([]:List ax)⟩:ax),([]:List ax)⟩:am))):=by
 simp only[dK]
 kernel_rfl
theorem Na:DW Pg 60 [] [(2,60),(3,9),(7,58),(8,58)]:=by
 exact⟨[.int .i64 0,.str ([]:ag),.val oW,.val oW,.int .i64 0,.str ([]:ag),.int .i64 0,.val oW,.val oW],by kernel_rfl,(aI rfl (aI rfl (aI rfl (aI rfl trivial))))⟩
theorem cJ(x:am):bg Pg 60 (.eptr (ai x)) 0=some (.eptr ((ai x).drop 0)):=by rw[dK];kernel_rfl
theorem gn(x:am):bg Pg 60 (.eptr (ai x)) 1=some (.eptr ((ai x).drop 1)):=by rw[dK];kernel_rfl
theorem du(x:am):bg Pg 60 (.eptr (ai x)) 2=some (.eptr ((ai x).drop 2)):=by rw[dK];kernel_rfl
theorem ez(x:am):bg Pg 60 (.eptr (ai x)) 3=some (.eptr ((ai x).drop 3)):=by rw[dK];kernel_rfl
theorem nG(x:am):bg Pg 60 (.eptr (ai x)) 4=some (.eptr ((ai x).drop 4)):=by rw[dK];kernel_rfl
theorem ip(x:am):bg Pg 60 (.eptr (ai x)) 5=some (.eptr ((ai x).drop 8)):=by rw[dK];kernel_rfl
theorem cK(x:am):bE Pg 54 ((ai x).drop 0)=some (.int .i64 x.Op):=by rw[dK];kernel_rfl
theorem ik(x:am):bE Pg 9 ((ai x).drop 1)=some (.str x.Name):=by rw[dK];kernel_rfl
theorem dv(x:am):bE Pg 26 ((ai x).drop 2)=some (sl ai x.Args):=by rw[dK];kernel_rfl
theorem eB(x:am):bE Pg 38 ((ai x).drop 3)=some (sl cS x.Names):=by rw[dK];kernel_rfl
theorem nH(x:am):bE Pg 58 ((ai x).drop 4)=some (.agg (aw x.Pred)):=by
 rw[dK,ei];kernel_rfl
theorem ir(x:am):bE Pg 56 ((ai x).drop 8)=some (sl aw x.Preds):=by rw[dK];kernel_rfl
structure ay where
 Name:ag
 Type_:am
def au(x:ay):List PVal:=[.str x.Name]++(ai x.Type_)
theorem iC(x:ay):au x=[.str x.Name,.int .i64 x.Type_.Op,.str x.Type_.Name,sl ai x.Type_.Args,sl cS x.Type_.Names,.int .i64 x.Type_.Pred.Op,.str x.Type_.Pred.Name,.int .i64 x.Type_.Pred.N,sl aw x.Type_.Pred.Kids,sl aw x.Type_.Preds]:=by
 unfold au
 simp only[dK,va1,va5]
theorem bh(x:ay):kD 0 (au x):=by rw[iC];exact(aI trivial (aI trivial (aI trivial (aI (aj aL x.Type_.Args) (aI (aj bD x.Type_.Names) (aI trivial (aI trivial (aI trivial (aI (aj bH x.Type_.Pred.Kids) (aI (aj bH x.Type_.Preds) trivial))))))))))
abbrev Am(x:ay):PVal:=.agg (au x)
theorem Cs(x:ay):(au x).length=10:=by rw[iC];rfl
theorem xQ(x:ay):cF (Am x)=some (au x):=rfl
theorem mr(x:ay):cF (.agg (au x))=some [.str x.Name,.int .i64 x.Type_.Op,.str x.Type_.Name,sl ai x.Type_.Args,sl cS x.Type_.Names,.int .i64 x.Type_.Pred.Op,.str x.Type_.Pred.Name,.int .i64 x.Type_.Pred.N,sl aw x.Type_.Pred.Kids,sl aw x.Type_.Preds]:=by rw[iC];rfl
theorem NA(x:ay):∀q∈au x,q.one=true:=by
 intro q hq
 rw[iC]at hq
 simp only[vay,vbA,or_false]at hq
 rcases hq with rfl|rfl|rfl|rfl|rfl|rfl|rfl|rfl|rfl|rfl<;>rfl
theorem RH:Pg.cellsOf 85=10:=by kernel_rfl
theorem AB(x:ay):bE Pg 85 (au x)=some (.agg (au x)):=by
 have:=rZ (P:=Pg) (t:=85) (l:=au x) (r:=[]) (by kernel_rfl) (RH.trans (Cs x).symm)
 rwa[vbh]at this
theorem Ij(x:ay)(r:List PVal):bE Pg 85 ([.str x.Name,.int .i64 x.Type_.Op,.str x.Type_.Name,sl ai x.Type_.Args,sl cS x.Type_.Names,.int .i64 x.Type_.Pred.Op,.str x.Type_.Pred.Name,.int .i64 x.Type_.Pred.N,sl aw x.Type_.Pred.Kids,sl aw x.Type_.Preds]++r)=some (.agg (au x)):=by
 rw[<-iC];exact rZ (by kernel_rfl) (RH.trans (Cs x).symm)
theorem IN(x:ay):PVal.agg [.str x.Name,.int .i64 x.Type_.Op,.str x.Type_.Name,sl ai x.Type_.Args,sl cS x.Type_.Names,.int .i64 x.Type_.Pred.Op,.str x.Type_.Pred.Name,.int .i64 x.Type_.Pred.N,sl aw x.Type_.Pred.Kids,sl aw x.Type_.Preds]=.agg (au x):=by rw[iC]
theorem Bx(x0:ag)(x1:am):dL Pg 85 [(0,.str x0),(1,.agg (ai x1))]=some (.agg (au (⟨x0,x1⟩:ay))):=by
 simp only[iC,dK]
 kernel_rfl
theorem FJ(x0:ag):dL Pg 85 [(0,.str x0)]=some (.agg (au (⟨x0,(⟨0,([]:ag),([]:List am),([]:List ag),(⟨0,([]:ag),0,([]:List ax)⟩:ax),([]:List ax)⟩:am)⟩:ay))):=by
 simp only[iC]
 kernel_rfl
theorem FH(x0:ag):DW Pg 85 [(0,.str x0)] [(3,60),(4,9),(8,58),(9,58)]:=by
 exact⟨[.str x0,.int .i64 0,.str ([]:ag),.val oW,.val oW,.int .i64 0,.str ([]:ag),.int .i64 0,.val oW,.val oW],by kernel_rfl,(aI rfl (aI rfl (aI rfl (aI rfl trivial))))⟩
theorem pj(x:ay):bg Pg 85 (.eptr (au x)) 0=some (.eptr ((au x).drop 0)):=by rw[iC];kernel_rfl
theorem tT(x:ay):bg Pg 85 (.eptr (au x)) 1=some (.eptr ((au x).drop 1)):=by rw[iC];kernel_rfl
theorem ri(x:ay):bE Pg 9 ((au x).drop 0)=some (.str x.Name):=by rw[iC];kernel_rfl
theorem tW(x:ay):bE Pg 60 ((au x).drop 1)=some (.agg (ai x.Type_)):=by
 rw[iC,dK];kernel_rfl
mutual
inductive af where
 |mk (Op:Int) (Name:ag) (N:Int) (Kids:(List af)) (Params:(List ay)) (Alts:(List aO)) (Types:(List am))
inductive aO where
 |mk (Con:ag) (Names:(List ag)) (Body:af)
end
def af.Op:af->Int
 |⟨x,_,_,_,_,_,_⟩=>x
def af.Name:af->ag
 |⟨_,x,_,_,_,_,_⟩=>x
def af.N:af->Int
 |⟨_,_,x,_,_,_,_⟩=>x
def af.Kids:af->(List af)
 |⟨_,_,_,x,_,_,_⟩=>x
def af.Params:af->(List ay)
 |⟨_,_,_,_,x,_,_⟩=>x
def af.Alts:af->(List aO)
 |⟨_,_,_,_,_,x,_⟩=>x
def af.Types:af->(List am)
 |⟨_,_,_,_,_,_,x⟩=>x
def aO.Con:aO->ag
 |⟨x,_,_⟩=>x
def aO.Names:aO->(List ag)
 |⟨_,x,_⟩=>x
def aO.Body:aO->af
 |⟨_,_,x⟩=>x
mutual
def ac:af->List PVal
 |⟨x0,x1,x2,x3,x4,x5,x6⟩=>[.int .i64 x0,.str x1,.int .i64 x2,.slice (va x3),sl au x4,.slice (zA x5),sl ai x6]
def aA:aO->List PVal
 |⟨x0,x1,x2⟩=>[.str x0,sl cS x1]++(ac x2)
def va:List af->List (List PVal)
 |[]=>[]
 |x::r=>ac x::va r
def zA:List aO->List (List PVal)
 |[]=>[]
 |x::r=>aA x::zA r
end
theorem Id:∀(l:List af),va l=l.map ac
 |[]=>by simp[va]
 |x::r=>by simp[va,Id r]
theorem Kf:∀(l:List aO),zA l=l.map aA
 |[]=>by simp[zA]
 |x::r=>by simp[zA,Kf r]
mutual
theorem av:∀(x:af),kD 0 (ac x)
 |⟨x0,x1,x2,x3,x4,x5,x6⟩=>by rw[ac];exact(aI trivial (aI trivial (aI trivial (aI (J3 x3) (aI (aj bh x4) (aI (L4 x5) (aI (aj aL x6) trivial)))))))
theorem bL:∀(x:aO),kD 0 (aA x)
 |⟨x0,x1,x2⟩=>by rw[aA];exact Cl.2 (aI ((aI trivial (aI (aj bD x1) trivial))) (av x2))
theorem J3:∀(l:List af),uA 0 (va l)
 |[]=>by simp[va,uA]
 |x::r=>by rw[va];exact⟨av x,J3 r⟩
theorem L4:∀(l:List aO),uA 0 (zA l)
 |[]=>by simp[zA,uA]
 |x::r=>by rw[zA];exact⟨bL x,L4 r⟩
end
theorem bI:∀(x:af),ac x=[.int .i64 x.Op,.str x.Name,.int .i64 x.N,sl ac x.Kids,sl au x.Params,sl aA x.Alts,sl ai x.Types]
 |⟨x0,x1,x2,x3,x4,x5,x6⟩=>by
  simp only[ac,Id,Kf]
  rfl
abbrev og(x:af):PVal:=.agg (ac x)
theorem EN(x:af):(ac x).length=7:=by rw[bI];rfl
theorem bK(x:af):cF (.agg (ac x))=some (ac x):=rfl
theorem j4(x:af):cF (og x)=some (ac x):=rfl
theorem jj(x:af):cF (.agg (ac x))=some [.int .i64 x.Op,.str x.Name,.int .i64 x.N,sl ac x.Kids,sl au x.Params,sl aA x.Alts,sl ai x.Types]:=by rw[bI];rfl
theorem O4(x:af):∀q∈ac x,q.one=true:=by
 intro q hq
 rw[bI]at hq
 simp only[vay,vbA,or_false]at hq
 rcases hq with rfl|rfl|rfl|rfl|rfl|rfl|rfl<;>rfl
theorem RE:Pg.cellsOf 28=7:=by kernel_rfl
theorem RI:Pg.cellsOf 89=9:=by kernel_rfl
theorem aW(x:af):bE Pg 28 (ac x)=some (.agg (ac x)):=by
 have:=rZ (P:=Pg) (t:=28) (l:=ac x) (r:=[]) (by kernel_rfl) (RE.trans (EN x).symm)
 rwa[vbh]at this
theorem bQ(x:af)(r:List PVal):bE Pg 28 ([.int .i64 x.Op,.str x.Name,.int .i64 x.N,sl ac x.Kids,sl au x.Params,sl aA x.Alts,sl ai x.Types]++r)=some (.agg (ac x)):=by
 rw[<-bI];exact rZ (by kernel_rfl) (RE.trans (EN x).symm)
theorem qN(x:af):PVal.agg [.int .i64 x.Op,.str x.Name,.int .i64 x.N,sl ac x.Kids,sl au x.Params,sl aA x.Alts,sl ai x.Types]=.agg (ac x):=by rw[bI]
theorem Dr(x0:Int)(x1:ag):dL Pg 28 [(0,.int .i64 x0),(1,.str x1)]=some (.agg (ac (⟨x0,x1,0,([]:List af),([]:List ay),([]:List aO),([]:List am)⟩:af))):=by
 simp only[bI]
 kernel_rfl
theorem Dm(x0:Int)(x1:ag):DW Pg 28 [(0,.int .i64 x0),(1,.str x1)] [(3,28),(4,85),(5,89),(6,60)]:=by
 exact⟨[.int .i64 x0,.str x1,.int .i64 0,.val oW,.val oW,.val oW,.val oW],by kernel_rfl,(aI rfl (aI rfl (aI rfl (aI rfl trivial))))⟩
theorem zo(x0:Int)(x1:ag)(x3:(List af)):dL Pg 28 [(0,.int .i64 x0),(1,.str x1),(3,sl ac x3)]=some (.agg (ac (⟨x0,x1,0,x3,([]:List ay),([]:List aO),([]:List am)⟩:af))):=by
 simp only[bI]
 kernel_rfl
theorem zm(x0:Int)(x1:ag)(x3:(List af)):DW Pg 28 [(0,.int .i64 x0),(1,.str x1),(3,sl ac x3)] [(4,85),(5,89),(6,60)]:=by
 exact⟨[.int .i64 x0,.str x1,.int .i64 0,sl ac x3,.val oW,.val oW,.val oW],by kernel_rfl,(aI rfl (aI rfl (aI rfl trivial)))⟩
theorem K0(x0:Int)(x2:Int):dL Pg 28 [(0,.int .i64 x0),(2,.int .i64 x2)]=some (.agg (ac (⟨x0,([]:ag),x2,([]:List af),([]:List ay),([]:List aO),([]:List am)⟩:af))):=by
 simp only[bI]
 kernel_rfl
theorem KX(x0:Int)(x2:Int):DW Pg 28 [(0,.int .i64 x0),(2,.int .i64 x2)] [(3,28),(4,85),(5,89),(6,60)]:=by
 exact⟨[.int .i64 x0,.str ([]:ag),.int .i64 x2,.val oW,.val oW,.val oW,.val oW],by kernel_rfl,(aI rfl (aI rfl (aI rfl (aI rfl trivial))))⟩
theorem K1(x0:Int)(x3:(List af)):dL Pg 28 [(0,.int .i64 x0),(3,sl ac x3)]=some (.agg (ac (⟨x0,([]:ag),0,x3,([]:List ay),([]:List aO),([]:List am)⟩:af))):=by
 simp only[bI]
 kernel_rfl
theorem KY(x0:Int)(x3:(List af)):DW Pg 28 [(0,.int .i64 x0),(3,sl ac x3)] [(4,85),(5,89),(6,60)]:=by
 exact⟨[.int .i64 x0,.str ([]:ag),.int .i64 0,sl ac x3,.val oW,.val oW,.val oW],by kernel_rfl,(aI rfl (aI rfl (aI rfl trivial)))⟩
theorem zp(x0:Int)(x4:(List ay))(x3:(List af)):dL Pg 28 [(0,.int .i64 x0),(4,sl au x4),(3,sl ac x3)]=some (.agg (ac (⟨x0,([]:ag),0,x3,x4,([]:List aO),([]:List am)⟩:af))):=by
 simp only[bI]
 kernel_rfl
theorem zn(x0:Int)(x4:(List ay))(x3:(List af)):DW Pg 28 [(0,.int .i64 x0),(4,sl au x4),(3,sl ac x3)] [(5,89),(6,60)]:=by
 exact⟨[.int .i64 x0,.str ([]:ag),.int .i64 0,sl ac x3,sl au x4,.val oW,.val oW],by kernel_rfl,(aI rfl (aI rfl trivial))⟩
theorem cd(x:af):bg Pg 28 (.eptr (ac x)) 0=some (.eptr ((ac x).drop 0)):=by rw[bI];kernel_rfl
theorem cp(x:af):bg Pg 28 (.eptr (ac x)) 1=some (.eptr ((ac x).drop 1)):=by rw[bI];kernel_rfl
theorem io(x:af):bg Pg 28 (.eptr (ac x)) 2=some (.eptr ((ac x).drop 2)):=by rw[bI];kernel_rfl
theorem aR(x:af):bg Pg 28 (.eptr (ac x)) 3=some (.eptr ((ac x).drop 3)):=by rw[bI];kernel_rfl
theorem bw(x:af):bg Pg 28 (.eptr (ac x)) 4=some (.eptr ((ac x).drop 4)):=by rw[bI];kernel_rfl
theorem aB(x:af):bg Pg 28 (.eptr (ac x)) 5=some (.eptr ((ac x).drop 5)):=by rw[bI];kernel_rfl
theorem aJ(x:af):bg Pg 28 (.eptr (ac x)) 6=some (.eptr ((ac x).drop 6)):=by rw[bI];kernel_rfl
theorem ce(x:af):bE Pg 22 ((ac x).drop 0)=some (.int .i64 x.Op):=by rw[bI];kernel_rfl
theorem cz(x:af):bE Pg 9 ((ac x).drop 1)=some (.str x.Name):=by rw[bI];kernel_rfl
theorem jt(x:af):bE Pg 3 ((ac x).drop 2)=some (.int .i64 x.N):=by rw[bI];kernel_rfl
theorem aS(x:af):bE Pg 23 ((ac x).drop 3)=some (sl ac x.Kids):=by rw[bI];kernel_rfl
theorem bA(x:af):bE Pg 24 ((ac x).drop 4)=some (sl au x.Params):=by rw[bI];kernel_rfl
theorem aC(x:af):bE Pg 25 ((ac x).drop 5)=some (sl aA x.Alts):=by rw[bI];kernel_rfl
theorem aK(x:af):bE Pg 26 ((ac x).drop 6)=some (sl ai x.Types):=by rw[bI];kernel_rfl
theorem mF:∀(x:aO),aA x=[.str x.Con,sl cS x.Names,.int .i64 x.Body.Op,.str x.Body.Name,.int .i64 x.Body.N,sl ac x.Body.Kids,sl au x.Body.Params,sl aA x.Body.Alts,sl ai x.Body.Types]
 |⟨x0,x1,x2⟩=>by
  simp only[aA,bI,va1,va5]
  rfl
abbrev NR(x:aO):PVal:=.agg (aA x)
theorem Ih(x:aO):(aA x).length=9:=by rw[mF];rfl
theorem Lt(x:aO):cF (.agg (aA x))=some (aA x):=rfl
theorem MA(x:aO):cF (NR x)=some (aA x):=rfl
theorem hX(x:aO):cF (.agg (aA x))=some [.str x.Con,sl cS x.Names,.int .i64 x.Body.Op,.str x.Body.Name,.int .i64 x.Body.N,sl ac x.Body.Kids,sl au x.Body.Params,sl aA x.Body.Alts,sl ai x.Body.Types]:=by rw[mF];rfl
theorem QH(x:aO):∀q∈aA x,q.one=true:=by
 intro q hq
 rw[mF]at hq
 simp only[vay,vbA,or_false]at hq
 rcases hq with rfl|rfl|rfl|rfl|rfl|rfl|rfl|rfl|rfl<;>rfl
theorem ku(x:aO):bE Pg 89 (aA x)=some (.agg (aA x)):=by
 have:=rZ (P:=Pg) (t:=89) (l:=aA x) (r:=[]) (by kernel_rfl) (RI.trans (Ih x).symm)
 rwa[vbh]at this
theorem Mq(x:aO)(r:List PVal):bE Pg 89 ([.str x.Con,sl cS x.Names,.int .i64 x.Body.Op,.str x.Body.Name,.int .i64 x.Body.N,sl ac x.Body.Kids,sl au x.Body.Params,sl aA x.Body.Alts,sl ai x.Body.Types]++r)=some (.agg (aA x)):=by
 rw[<-mF];exact rZ (by kernel_rfl) (RI.trans (Ih x).symm)
theorem MQ(x:aO):PVal.agg [.str x.Con,sl cS x.Names,.int .i64 x.Body.Op,.str x.Body.Name,.int .i64 x.Body.N,sl ac x.Body.Kids,sl au x.Body.Params,sl aA x.Body.Alts,sl ai x.Body.Types]=.agg (aA x):=by rw[mF]
theorem Bw(x0:ag)(x1:(List ag))(x2:af):dL Pg 89 [(0,.str x0),(1,sl cS x1),(2,.agg (ac x2))]=some (.agg (aA (⟨x0,x1,x2⟩:aO))):=by
 simp only[mF,bI]
 kernel_rfl
theorem ta(x:aO):bg Pg 89 (.eptr (aA x)) 0=some (.eptr ((aA x).drop 0)):=by rw[mF];kernel_rfl
theorem pg(x:aO):bg Pg 89 (.eptr (aA x)) 1=some (.eptr ((aA x).drop 1)):=by rw[mF];kernel_rfl
theorem ph(x:aO):bg Pg 89 (.eptr (aA x)) 2=some (.eptr ((aA x).drop 2)):=by rw[mF];kernel_rfl
theorem vg(x:aO):bE Pg 9 ((aA x).drop 0)=some (.str x.Con):=by rw[mF];kernel_rfl
theorem pn(x:aO):bE Pg 38 ((aA x).drop 1)=some (sl cS x.Names):=by rw[mF];kernel_rfl
theorem po(x:aO):bE Pg 28 ((aA x).drop 2)=some (.agg (ac x.Body)):=by
 rw[mF,bI];kernel_rfl
structure ae where
 old:ag
 new:ag
deriving DecidableEq
def aa(x:ae):List PVal:=[.str x.old,.str x.new]
theorem tS(x:ae):aa x=[.str x.old,.str x.new]:=rfl
theorem al(x:ae):kD 0 (aa x):=(aI trivial (aI trivial trivial))
abbrev nV(x:ae):PVal:=.agg (aa x)
theorem yk(x:ae):(aa x).length=2:=by rw[tS];rfl
theorem oc(x:ae):cF (nV x)=some (aa x):=rfl
theorem GR(x:ae):cF (.agg (aa x))=some [.str x.old,.str x.new]:=by rw[tS];rfl
theorem GQ(x:ae):∀q∈aa x,q.one=true:=by
 intro q hq
 rw[tS]at hq
 simp only[vay,vbA,or_false]at hq
 rcases hq with rfl|rfl<;>rfl
theorem P9:Pg.cellsOf 137=2:=by kernel_rfl
theorem Ii(x:ae):bE Pg 137 (aa x)=some (.agg (aa x)):=by
 have:=rZ (P:=Pg) (t:=137) (l:=aa x) (r:=[]) (by kernel_rfl) (P9.trans (yk x).symm)
 rwa[vbh]at this
theorem kr(x0:ag)(x1:ag):dL Pg 137 [(0,.str x0),(1,.str x1)]=some (.agg (aa (⟨x0,x1⟩:ae))):=by
 kernel_rfl
structure aq where
 n:Bool
 name:Bool
 least:Int
 most:Int
 params:Bool
 alts:Bool
 typesLeast:Int
 typesMost:Int
 types:Bool
deriving DecidableEq
def aE(x:aq):List PVal:=[.bool x.n,.bool x.name,.int .i64 x.least,.int .i64 x.most,.bool x.params,.bool x.alts,.int .i64 x.typesLeast,.int .i64 x.typesMost,.bool x.types]
theorem nX(x:aq):aE x=[.bool x.n,.bool x.name,.int .i64 x.least,.int .i64 x.most,.bool x.params,.bool x.alts,.int .i64 x.typesLeast,.int .i64 x.typesMost,.bool x.types]:=rfl
theorem bB(x:aq):kD 0 (aE x):=(aI trivial (aI trivial (aI trivial (aI trivial (aI trivial (aI trivial (aI trivial (aI trivial (aI trivial trivial)))))))))
theorem EM(x:aq):(aE x).length=9:=by rw[nX];rfl
theorem yq(x:aq):cF (.agg (aE x))=some (aE x):=rfl
theorem co(x:aq):cF (.agg (aE x))=some [.bool x.n,.bool x.name,.int .i64 x.least,.int .i64 x.most,.bool x.params,.bool x.alts,.int .i64 x.typesLeast,.int .i64 x.typesMost,.bool x.types]:=by rw[nX];rfl
theorem Ug:Pg.cellsOf 147=9:=by kernel_rfl
theorem wA(x:aq)(r:List PVal):bE Pg 147 ([.bool x.n,.bool x.name,.int .i64 x.least,.int .i64 x.most,.bool x.params,.bool x.alts,.int .i64 x.typesLeast,.int .i64 x.typesMost,.bool x.types]++r)=some (.agg (aE x)):=by
 rw[<-nX];exact rZ (by kernel_rfl) (Ug.trans (EM x).symm)
theorem cr(x:aq):PVal.agg [.bool x.n,.bool x.name,.int .i64 x.least,.int .i64 x.most,.bool x.params,.bool x.alts,.int .i64 x.typesLeast,.int .i64 x.typesMost,.bool x.types]=.agg (aE x):=by rw[nX]
theorem Dq:dL Pg 147 []=some (.agg (aE (⟨false,false,0,0,false,false,0,0,false⟩:aq))):=by
 kernel_rfl
theorem Do(x0:Bool):dL Pg 147 [(0,.bool x0)]=some (.agg (aE (⟨x0,false,0,0,false,false,0,0,false⟩:aq))):=by
 kernel_rfl
theorem yI(x1:Bool)(x2:Int)(x3:Int):dL Pg 147 [(1,.bool x1),(2,.int .i64 x2),(3,.int .i64 x3)]=some (.agg (aE (⟨false,x1,x2,x3,false,false,0,0,false⟩:aq))):=by
 kernel_rfl
theorem mM(x1:Bool)(x2:Int)(x3:Int)(x8:Bool)(x7:Int):dL Pg 147 [(1,.bool x1),(2,.int .i64 x2),(3,.int .i64 x3),(8,.bool x8),(7,.int .i64 x7)]=some (.agg (aE (⟨false,x1,x2,x3,false,false,0,x7,x8⟩:aq))):=by
 kernel_rfl
theorem wv(x1:Bool)(x3:Int)(x8:Bool)(x7:Int):dL Pg 147 [(1,.bool x1),(3,.int .i64 x3),(8,.bool x8),(7,.int .i64 x7)]=some (.agg (aE (⟨false,x1,0,x3,false,false,0,x7,x8⟩:aq))):=by
 kernel_rfl
theorem Dp(x1:Bool):dL Pg 147 [(1,.bool x1)]=some (.agg (aE (⟨false,x1,0,0,false,false,0,0,false⟩:aq))):=by
 kernel_rfl
theorem mU(x2:Int)(x3:Int):dL Pg 147 [(2,.int .i64 x2),(3,.int .i64 x3)]=some (.agg (aE (⟨false,false,x2,x3,false,false,0,0,false⟩:aq))):=by
 kernel_rfl
theorem uz(x2:Int)(x3:Int)(x8:Bool)(x6:Int)(x7:Int):dL Pg 147 [(2,.int .i64 x2),(3,.int .i64 x3),(8,.bool x8),(6,.int .i64 x6),(7,.int .i64 x7)]=some (.agg (aE (⟨false,false,x2,x3,false,false,x6,x7,x8⟩:aq))):=by
 kernel_rfl
theorem yJ(x4:Bool)(x2:Int)(x3:Int):dL Pg 147 [(4,.bool x4),(2,.int .i64 x2),(3,.int .i64 x3)]=some (.agg (aE (⟨false,false,x2,x3,x4,false,0,0,false⟩:aq))):=by
 kernel_rfl
theorem yK(x5:Bool)(x2:Int)(x3:Int):dL Pg 147 [(5,.bool x5),(2,.int .i64 x2),(3,.int .i64 x3)]=some (.agg (aE (⟨false,false,x2,x3,false,x5,0,0,false⟩:aq))):=by
 kernel_rfl
theorem yL(x:aq):bg Pg 147 (.eptr (aE x)) 1=some (.eptr ((aE x).drop 1)):=by kernel_rfl
theorem yM(x:aq):bg Pg 147 (.eptr (aE x)) 2=some (.eptr ((aE x).drop 2)):=by kernel_rfl
theorem yN(x:aq):bg Pg 147 (.eptr (aE x)) 3=some (.eptr ((aE x).drop 3)):=by kernel_rfl
theorem yO(x:aq):bg Pg 147 (.eptr (aE x)) 4=some (.eptr ((aE x).drop 4)):=by kernel_rfl
theorem qm(x:aq):bg Pg 147 (.eptr (aE x)) 5=some (.eptr ((aE x).drop 5)):=by kernel_rfl
theorem yP(x:aq):bg Pg 147 (.eptr (aE x)) 6=some (.eptr ((aE x).drop 6)):=by kernel_rfl
theorem yQ(x:aq):bg Pg 147 (.eptr (aE x)) 7=some (.eptr ((aE x).drop 7)):=by kernel_rfl
theorem AW(x:aq):bE Pg 4 ((aE x).drop 1)=some (.bool x.name):=by kernel_rfl
theorem AX(x:aq):bE Pg 3 ((aE x).drop 2)=some (.int .i64 x.least):=by kernel_rfl
theorem AY(x:aq):bE Pg 3 ((aE x).drop 3)=some (.int .i64 x.most):=by kernel_rfl
theorem AZ(x:aq):bE Pg 4 ((aE x).drop 4)=some (.bool x.params):=by kernel_rfl
theorem sM(x:aq):bE Pg 4 ((aE x).drop 5)=some (.bool x.alts):=by kernel_rfl
theorem A5(x:aq):bE Pg 3 ((aE x).drop 6)=some (.int .i64 x.typesLeast):=by kernel_rfl
theorem A7(x:aq):bE Pg 3 ((aE x).drop 7)=some (.int .i64 x.typesMost):=by kernel_rfl
theorem fi:Ju Pg 23 28 ac:=⟨underlying23,fun x=>(EN x).trans RE.symm,by kernel_rfl,by rw[RE];decide,by kernel_rfl,vbb (by kernel_rfl),O4,av⟩
theorem kU:Ju Pg 24 85 au:=⟨underlying24,fun x=>(Cs x).trans RH.symm,by kernel_rfl,by rw[RH];decide,by kernel_rfl,vbb (by kernel_rfl),NA,bh⟩
theorem ea:Ju Pg 25 89 aA:=⟨underlying25,fun x=>(Ih x).trans RI.symm,by kernel_rfl,by rw[RI];decide,by kernel_rfl,vbb (by kernel_rfl),QH,bL⟩
theorem d4:Ju Pg 26 60 ai:=⟨underlying26,fun x=>(EP x).trans RG.symm,by kernel_rfl,by rw[RG];decide,by kernel_rfl,vbb (by kernel_rfl),O6,aL⟩
theorem UT:Pg.cellsOf 9=1:=by kernel_rfl
theorem ch:Ju Pg 38 9 cS:=⟨underlying38,fun _=>UT.symm,by kernel_rfl,by rw[UT];decide,by kernel_rfl,vbb (by kernel_rfl),VM,bD⟩
theorem mX:Ju Pg 56 58 aw:=⟨underlying56,fun x=>(EO x).trans RF.symm,by kernel_rfl,by rw[RF];decide,by kernel_rfl,vbb (by kernel_rfl),O5,bH⟩
theorem IQ:Ju Pg 92 137 aa:=⟨underlying92,fun x=>(yk x).trans P9.symm,by kernel_rfl,by rw[P9];decide,by kernel_rfl,vbb (by kernel_rfl),GQ,al⟩
theorem Wa:Pg.cellsOf 5=1:=by kernel_rfl
theorem UX:(Pg.underlying 4).any MT=true:=by kernel_rfl
theorem C2:(Pg.underlying 9).any MT=true:=by kernel_rfl
theorem GT:(Pg.underlying 92).any MT=true:=by kernel_rfl
theorem VZ:Fb Pg 4=some (PVal.bool false):=by kernel_rfl
theorem W7:gz Pg 3=some [.int .i64 0]:=by kernel_rfl
theorem Wf:gz Pg 4=some [.bool false]:=by kernel_rfl
theorem wR:gz Pg 28=some [.int .i64 0,.str ([]:ag),.int .i64 0,sl ac ([]:List af),sl au ([]:List ay),sl aA ([]:List aO),sl ai ([]:List am)]:=by kernel_rfl
theorem VP:gz Pg 35=some [.int .i64 0]:=by kernel_rfl
theorem UF:gz Pg 38=some [sl cS ([]:List ag)]:=by kernel_rfl
theorem R9:gz Pg 58=some [.int .i64 0,.str ([]:ag),.int .i64 0,sl aw ([]:List ax)]:=by kernel_rfl
theorem NN:gz Pg 60=some [.int .i64 0,.str ([]:ag),sl ai ([]:List am),sl cS ([]:List ag),.int .i64 0,.str ([]:ag),.int .i64 0,sl aw ([]:List ax),sl aw ([]:List ax)]:=by kernel_rfl
theorem Pm:gz Pg 85=some [.str ([]:ag),.int .i64 0,.str ([]:ag),sl ai ([]:List am),sl cS ([]:List ag),.int .i64 0,.str ([]:ag),.int .i64 0,sl aw ([]:List ax),sl aw ([]:List ax)]:=by kernel_rfl
theorem D2:gz Pg 89=some [.str ([]:ag),sl cS ([]:List ag),.int .i64 0,.str ([]:ag),.int .i64 0,sl ac ([]:List af),sl au ([]:List ay),sl aA ([]:List aO),sl ai ([]:List am)]:=by kernel_rfl
theorem UG:gz Pg 91=some [.val .nilFunc]:=by kernel_rfl
theorem UH:gz Pg 92=some [sl aa ([]:List ae)]:=by kernel_rfl
theorem UI:gz Pg 95=some [.val .nilFunc,.val .nilFunc]:=by kernel_rfl
theorem Sr:gz Pg 109=some [.val (.pointer none)]:=by kernel_rfl
theorem UE:gz Pg 112=some [.val .nilFunc]:=by kernel_rfl
theorem Ss:gz Pg 147=some [.bool false,.bool false,.int .i64 0,.int .i64 0,.bool false,.bool false,.int .i64 0,.int .i64 0,.bool false]:=by kernel_rfl
def kF:List Int:=[1,10,100,1000,10000,100000,1000000,10000000,100000000,1000000000,10000000000,100000000000,1000000000000,10000000000000,100000000000000,1000000000000000,10000000000000000,100000000000000000,1000000000000000000,10000000000000000000]
theorem Ui:Pg.cellsOf 216=20:=by kernel_rfl
theorem Uh:Pg.cellsOf 201=1:=by kernel_rfl
def iM:List ag:=[([97,110,100]:ag),([97,115,115,117,109,101]:ag),([98,111,111,108]:ag),([98,111,117,110,100]:ag),([99,97,115,101]:ag),([99,101,108,108]:ag),([99,108,97,115,115]:ag),([100,97,116,97]:ag),([100,101,102]:ag),([100,105,118]:ag),([101,108,115,101]:ag),([101,110,100]:ag),([102,97,108,115,101]:ag),([102,111,114,97,108,108]:ag),([102,117,110]:ag),([103,101,116]:ag),([105,102]:ag),([105,110]:ag),([105,110,115,116]:ag),([105,110,116]:ag),([105,110,118,97,114,105,97,110,116]:ag),([108,101,116]:ag),([109,97,116,99,104]:ag),([109,101,97,115,117,114,101]:ag),([109,101,116,114,105,99]:ag),([109,111,100]:ag),([109,117]:ag),([110,101,119]:ag),([110,111,116]:ag),([111,102]:ag),([111,114]:ag),([113,117,97,108]:ag),([114,101,102,108,101,99,116]:ag),([115,101,116]:ag),([116,104,101,110]:ag),([116,114,117,101]:ag),([117,115,101]:ag),([118]:ag),([118,97,108]:ag),([116,97,103]:ag),([119,104,101,114,101]:ag),([119,105,116,104]:ag)]
theorem Uj:Pg.cellsOf 218=42:=by kernel_rfl
theorem vp:bE Pg 218 (iM.map PVal.str)=some (.agg (iM.map PVal.str)):=by kernel_rfl
theorem DL{k:IntKind}{i:Int}{x:ag}(h:fO iM i=some x):xS Pg 218 (.agg (iM.map PVal.str)) (.int k i)=some (PVal.str x):=TT underlying218 UT (by kernel_rfl) (by kernel_rfl) (by kernel_rfl) h
def wC:List Int:=[0,1,28,2,29,14,24,3,30,22,20,15,25,17,4,8,31,27,13,23,21,19,16,7,26,12,18,6,11,5,10,9]
theorem Uk:Pg.cellsOf 223=32:=by kernel_rfl
def wD:List Int:=[0,1,56,2,57,49,28,3,61,58,42,50,38,29,17,4,62,47,59,36,45,43,51,22,53,39,33,30,24,18,12,5,63,55,48,27,60,41,37,16,46,35,44,21,52,32,23,11,54,26,40,15,34,20,31,10,25,14,19,9,13,8,7,6]
theorem Ul:Pg.cellsOf 224=64:=by kernel_rfl
def GE:List (Nat×List PVal):=[(0,kF.map (PVal.int .u64)),(1,iM.map PVal.str),(2,wC.map (PVal.int .u8)),(3,wD.map (PVal.int .u8))]
theorem bk(A:List Nat){m:Nat}{c:Code}{sc:List It}{F:Prop}{e0:Exit}{st0 st:az}(h:PS sc F)(he:F=wq Pg GE A m c sc st (FN e0 st0)):aP Pg GE m c (EX e0 st0) st:=qL mixed h he
theorem xO(A:List Nat){m:Nat}{c:Code}{sc:List It}{F:Prop}{σ X:Type}{S:σ->az}{ex:X->Exit}{so:X->az}{s:σ}{st:az}(h:PS sc F)(he:F=wq Pg GE A m c sc st (FN .normal (S s))):aP Pg GE m c (LQ S ex so (.inl s)) st:=Uw mixed h he
theorem iZ(A:List Nat){m:Nat}{c:Code}{sc:List It}{F:Prop}{σ X:Type}{S:σ->az}{ex:X->Exit}{so:X->az}{x:X}{st:az}(hn:ex x≠.normal)(h:PS sc F)(he:F=wq Pg GE A m c sc st (FN (ex x) (so x))):aP Pg GE m c (LQ S ex so (.inr x)) st:=UB mixed hn h he
theorem cC(A:List Nat){f:FuncId}{fn:Func}{c:Code}{args:List PVal}{r:PVal}{ro:List (Nat×TypeId)}(hcall:∀vs w,(callFunc f vs).run Pg w=.ok (.enter f vs) w)(hfn:Pg.funcs[f]? =some fn)(hb:fn.body=some c)(hcl:kD 0 args){sc:List It}{F:Prop}(h:PS sc F)(he:F=wq Pg GE A 0 c sc ⟨args++List.replicate (fn.ntmps - args.length) .undef,[],[]⟩ (FR Pg fn.results.toList r ro)):CC Pg GE f args r ro:=C.evp mixed hcall hfn hb hcl h he
abbrev waA:=List ag
abbrev waB:=List am
abbrev waC:=List aO
abbrev waD:=List ay
abbrev waE:=List af
abbrev waF:=List ax
theorem Ml:∀n,(∀l,Sh Pg n 58 l->∃x,l=aw x):=by
 intro n
 induction n using Nat.strongRecOn with
 | ind n ih =>
  cases n with
  |zero=>exact fun l h=>h.elim
  | succ n =>
   exact fun l h=>by
    unfold Sh at h
    rw[underlying58]at h
    obtain⟨a0,b0,rfl,_,h0,a1,b1,rfl,_,h1,a2,b2,rfl,_,h2,a3,b3,rfl,_,h3,rfl⟩:=h
    obtain⟨x0,rfl⟩:=(Qj underlying55) n _ h0
    obtain⟨x1,rfl⟩:=(Np underlying9) n _ h1
    obtain⟨x2,rfl⟩:=(Qj underlying3) n _ h2
    obtain⟨x3,rfl⟩:=Mk underlying56 (c:=aw) (fun m hm=>(ih m (by omega))) _ h3
    exact⟨(⟨x0,x1,x2,x3⟩:ax),by rw[ei];rfl⟩
theorem Mm:∀n,(∀l,Sh Pg n 60 l->∃x,l=ai x):=by
 intro n
 induction n using Nat.strongRecOn with
 | ind n ih =>
  cases n with
  |zero=>exact fun l h=>h.elim
  | succ n =>
   exact fun l h=>by
    unfold Sh at h
    rw[underlying60]at h
    obtain⟨a0,b0,rfl,_,h0,a1,b1,rfl,_,h1,a2,b2,rfl,_,h2,a3,b3,rfl,_,h3,a4,b4,rfl,_,h4,a5,b5,rfl,_,h5,rfl⟩:=h
    obtain⟨x0,rfl⟩:=(Qj underlying54) n _ h0
    obtain⟨x1,rfl⟩:=(Np underlying9) n _ h1
    obtain⟨x2,rfl⟩:=Mk underlying26 (c:=ai) (fun m hm=>(ih m (by omega))) _ h2
    obtain⟨x3,rfl⟩:=(Qk underlying38 (Np underlying9)) n _ h3
    obtain⟨x4,rfl⟩:=Ml n _ h4
    obtain⟨x5,rfl⟩:=(Qk underlying56 Ml) n _ h5
    exact⟨(⟨x0,x1,x2,x3,x4,x5⟩:am),by rw[dK];(try simp only[ei]);rfl⟩
theorem OT:∀n,(∀l,Sh Pg n 85 l->∃x,l=au x):=by
 intro n
 induction n using Nat.strongRecOn with
 | ind n ih =>
  cases n with
  |zero=>exact fun l h=>h.elim
  | succ n =>
   exact fun l h=>by
    unfold Sh at h
    rw[underlying85]at h
    obtain⟨a0,b0,rfl,_,h0,a1,b1,rfl,_,h1,rfl⟩:=h
    obtain⟨x0,rfl⟩:=(Np underlying9) n _ h0
    obtain⟨x1,rfl⟩:=Mm n _ h1
    exact⟨(⟨x0,x1⟩:ay),by rw[iC];(try simp only[dK]);(try simp only[ei]);rfl⟩
theorem Lg:∀n,(∀l,Sh Pg n 28 l->∃x,l=ac x)/\(∀l,Sh Pg n 89 l->∃x,l=aA x):=by
 intro n
 induction n using Nat.strongRecOn with
 | ind n ih =>
  cases n with
  |zero=>exact⟨fun l h=>h.elim,fun l h=>h.elim⟩
  | succ n =>
   exact⟨(fun l h=>by
    unfold Sh at h
    rw[underlying28]at h
    obtain⟨a0,b0,rfl,_,h0,a1,b1,rfl,_,h1,a2,b2,rfl,_,h2,a3,b3,rfl,_,h3,a4,b4,rfl,_,h4,a5,b5,rfl,_,h5,a6,b6,rfl,_,h6,rfl⟩:=h
    obtain⟨x0,rfl⟩:=(Qj underlying22) n _ h0
    obtain⟨x1,rfl⟩:=(Np underlying9) n _ h1
    obtain⟨x2,rfl⟩:=(Qj underlying3) n _ h2
    obtain⟨x3,rfl⟩:=Mk underlying23 (c:=ac) (fun m hm=>(ih m (by omega)).1) _ h3
    obtain⟨x4,rfl⟩:=(Qk underlying24 OT) n _ h4
    obtain⟨x5,rfl⟩:=Mk underlying25 (c:=aA) (fun m hm=>(ih m (by omega)).2) _ h5
    obtain⟨x6,rfl⟩:=(Qk underlying26 Mm) n _ h6
    exact⟨(⟨x0,x1,x2,x3,x4,x5,x6⟩:af),by rw[bI];rfl⟩),(fun l h=>by
    unfold Sh at h
    rw[underlying89]at h
    obtain⟨a0,b0,rfl,_,h0,a1,b1,rfl,_,h1,a2,b2,rfl,_,h2,rfl⟩:=h
    obtain⟨x0,rfl⟩:=(Np underlying9) n _ h0
    obtain⟨x1,rfl⟩:=(Qk underlying38 (Np underlying9)) n _ h1
    obtain⟨x2,rfl⟩:=(ih n (vcl n)).1 _ h2
    exact⟨(⟨x0,x1,x2⟩:aO),by rw[mF];(try simp only[bI]);rfl⟩)⟩
theorem Ql:In Pg 28 ac:=fun n=>(Lg n).1
end Go.Proofs.YtkdahfeiedaahaaGreatDoor
namespace Go.Proofs
open Go.Shelf
noncomputable def Tryz.laysM171_ren : Go.Shelf.Ren := ⟨fun | 171 => 98 | 243 => 134 | 246 => 156 | 283 => 182 | 284 => 183 | 285 => 184 | 286 => 185 | 129 => 181 | 317 => 202 | 318 => 203 | 319 => 204 | 320 => 205 | 337 => 212 | 338 => 213 | n => n, fun | 3 => 3 | 9 => 9 | 2 => 2 | 4 => 4 | 171 => 202 | 0 => 0 | 53 => 201 | 37 => 169 | 5 => 5 | 173 => 204 | 212 => 216 | 51 => 199 | 20 => 20 | 213 => 217 | 46 => 182 | 232 => 223 | 233 => 224 | n => n, fun | 17 => 0 | 18 => 2 | 19 => 3 | n => n⟩
theorem Tryz.laysM171 : Go.Proofs.LaysM.n171 Tryz.prog Tryz.laysM171_ren := {
 mixed := by kernel_rfl
 f129 := Tryz.func181.trans (congrArg some (by kernel_rfl))
 f171 := Tryz.func98.trans (congrArg some (by kernel_rfl))
 f243 := Tryz.func134.trans (congrArg some (by kernel_rfl))
 f246 := Tryz.func156.trans (congrArg some (by kernel_rfl))
 f283 := Tryz.func182.trans (congrArg some (by kernel_rfl))
 f284 := Tryz.func183.trans (congrArg some (by kernel_rfl))
 f285 := Tryz.func184.trans (congrArg some (by kernel_rfl))
 f286 := Tryz.func185.trans (congrArg some (by kernel_rfl))
 f317 := Tryz.func202.trans (congrArg some (by kernel_rfl))
 f318 := Tryz.func203.trans (congrArg some (by kernel_rfl))
 f319 := Tryz.func204.trans (congrArg some (by kernel_rfl))
 f320 := Tryz.func205.trans (congrArg some (by kernel_rfl))
 f337 := Tryz.func212.trans (congrArg some (by kernel_rfl))
 f338 := Tryz.func213.trans (congrArg some (by kernel_rfl))
 t0 := Tryz.underlying0
 a0 := Tryz.isAgg0
 z0 := Tryz.sizeOf0
 v0 := Tryz.zeroValue0
 t2 := Tryz.underlying2
 a2 := Tryz.isAgg2
 z2 := Tryz.sizeOf2
 v2 := Tryz.zeroValue2
 t3 := Tryz.underlying3
 a3 := Tryz.isAgg3
 z3 := Tryz.sizeOf3
 v3 := Tryz.zeroValue3
 t4 := Tryz.underlying4
 a4 := Tryz.isAgg4
 z4 := Tryz.sizeOf4
 v4 := Tryz.zeroValue4
 t5 := Tryz.underlying5
 a5 := Tryz.isAgg5
 z5 := Tryz.sizeOf5
 v5 := Tryz.zeroValue5
 t9 := Tryz.underlying9
 a9 := Tryz.isAgg9
 z9 := Tryz.sizeOf9
 v9 := Tryz.zeroValue9
 t20 := Tryz.underlying20
 a20 := Tryz.isAgg20
 z20 := Tryz.sizeOf20
 v20 := Tryz.zeroValue20
 t37 := Tryz.underlying169
 a37 := Tryz.isAgg169
 z37 := Tryz.sizeOf169
 v37 := Tryz.zeroValue169
 t46 := Tryz.underlying182
 a46 := Tryz.isAgg182
 z46 := Tryz.sizeOf182
 v46 := Tryz.zeroValue182
 t51 := Tryz.underlying199
 a51 := Tryz.isAgg199
 z51 := Tryz.sizeOf199
 v51 := Tryz.zeroValue199
 t53 := Tryz.underlying201
 a53 := Tryz.isAgg201
 z53 := Tryz.sizeOf201
 v53 := Tryz.zeroValue201
 t171 := Tryz.underlying202
 a171 := Tryz.isAgg202
 z171 := Tryz.sizeOf202
 v171 := Tryz.zeroValue202
 t173 := Tryz.underlying204
 a173 := Tryz.isAgg204
 z173 := Tryz.sizeOf204
 v173 := Tryz.zeroValue204
 t212 := Tryz.underlying216
 a212 := Tryz.isAgg216
 z212 := Tryz.sizeOf216
 v212 := Tryz.zeroValue216
 t213 := Tryz.underlying217
 a213 := Tryz.isAgg217
 z213 := Tryz.sizeOf217
 t232 := Tryz.underlying223
 a232 := Tryz.isAgg223
 z232 := Tryz.sizeOf223
 v232 := Tryz.zeroValue223
 t233 := Tryz.underlying224
 a233 := Tryz.isAgg224
 z233 := Tryz.sizeOf224
 v233 := Tryz.zeroValue224
 g17 := by kernel_rfl
 g18 := by kernel_rfl
 g19 := by kernel_rfl
 i0 := by kernel_rfl
 i2 := by kernel_rfl
 i3 := by kernel_rfl
 i4 := by kernel_rfl
 i5 := by kernel_rfl
 i9 := by kernel_rfl
 i20 := by kernel_rfl
 i37 := by kernel_rfl
 i46 := by kernel_rfl
 i51 := by kernel_rfl
 i53 := by kernel_rfl
 i171 := by kernel_rfl
 i173 := by kernel_rfl
 i212 := by kernel_rfl
 i232 := by kernel_rfl
 i233 := by kernel_rfl
 m17 := by kernel_rfl
 m18 := by kernel_rfl
 m19 := by kernel_rfl }
noncomputable def Tryz.lays190_ren : Go.Shelf.Ren := ⟨fun | 190 => 127 | 125 => 154 | 258 => 153 | 128 => 180 | 129 => 181 | 302 => 171 | 303 => 172 | 304 => 173 | 305 => 174 | 306 => 175 | 307 => 176 | 308 => 177 | 309 => 178 | 310 => 179 | 333 => 196 | 329 => 197 | 330 => 198 | 334 => 199 | 335 => 200 | 336 => 201 | 344 => 211 | n => n, fun | 31 => 38 | 9 => 9 | 3 => 3 | 46 => 182 | 0 => 0 | 51 => 199 | 53 => 201 | 4 => 4 | 183 => 191 | 182 => 190 | 131 => 196 | 5 => 5 | 218 => 208 | 222 => 212 | 228 => 219 | 229 => 220 | n => n, fun | n => n⟩
theorem Tryz.lays190 : Go.Proofs.Lays.n190 Tryz.prog Tryz.lays190_ren := {
 mixed := by kernel_rfl
 f125 := Tryz.func154.trans (congrArg some (by kernel_rfl))
 f128 := Tryz.func180.trans (congrArg some (by kernel_rfl))
 f129 := Tryz.func181.trans (congrArg some (by kernel_rfl))
 f190 := Tryz.func127.trans (congrArg some (by kernel_rfl))
 f258 := Tryz.func153.trans (congrArg some (by kernel_rfl))
 f302 := Tryz.func171.trans (congrArg some (by kernel_rfl))
 f303 := Tryz.func172.trans (congrArg some (by kernel_rfl))
 f304 := Tryz.func173.trans (congrArg some (by kernel_rfl))
 f305 := Tryz.func174.trans (congrArg some (by kernel_rfl))
 f306 := Tryz.func175.trans (congrArg some (by kernel_rfl))
 f307 := Tryz.func176.trans (congrArg some (by kernel_rfl))
 f308 := Tryz.func177.trans (congrArg some (by kernel_rfl))
 f309 := Tryz.func178.trans (congrArg some (by kernel_rfl))
 f310 := Tryz.func179.trans (congrArg some (by kernel_rfl))
 f329 := Tryz.func197.trans (congrArg some (by kernel_rfl))
 f330 := Tryz.func198.trans (congrArg some (by kernel_rfl))
 f333 := Tryz.func196.trans (congrArg some (by kernel_rfl))
 f334 := Tryz.func199.trans (congrArg some (by kernel_rfl))
 f335 := Tryz.func200.trans (congrArg some (by kernel_rfl))
 f336 := Tryz.func201.trans (congrArg some (by kernel_rfl))
 f344 := Tryz.func211.trans (congrArg some (by kernel_rfl))
 t0 := Tryz.underlying0
 a0 := Tryz.isAgg0
 z0 := Tryz.sizeOf0
 v0 := Tryz.zeroValue0
 t3 := Tryz.underlying3
 a3 := Tryz.isAgg3
 z3 := Tryz.sizeOf3
 v3 := Tryz.zeroValue3
 t4 := Tryz.underlying4
 a4 := Tryz.isAgg4
 z4 := Tryz.sizeOf4
 v4 := Tryz.zeroValue4
 t5 := Tryz.underlying5
 a5 := Tryz.isAgg5
 z5 := Tryz.sizeOf5
 v5 := Tryz.zeroValue5
 t9 := Tryz.underlying9
 a9 := Tryz.isAgg9
 z9 := Tryz.sizeOf9
 v9 := Tryz.zeroValue9
 t31 := Tryz.underlying38
 a31 := Tryz.isAgg38
 z31 := Tryz.sizeOf38
 v31 := Tryz.zeroValue38
 t46 := Tryz.underlying182
 a46 := Tryz.isAgg182
 z46 := Tryz.sizeOf182
 v46 := Tryz.zeroValue182
 t51 := Tryz.underlying199
 a51 := Tryz.isAgg199
 z51 := Tryz.sizeOf199
 v51 := Tryz.zeroValue199
 t53 := Tryz.underlying201
 a53 := Tryz.isAgg201
 z53 := Tryz.sizeOf201
 v53 := Tryz.zeroValue201
 t131 := Tryz.underlying196
 a131 := Tryz.isAgg196
 z131 := Tryz.sizeOf196
 v131 := Tryz.zeroValue196
 t182 := Tryz.underlying190
 a182 := Tryz.isAgg190
 z182 := Tryz.sizeOf190
 v182 := Tryz.zeroValue190
 t183 := Tryz.underlying191
 a183 := Tryz.isAgg191
 z183 := Tryz.sizeOf191
 v183 := Tryz.zeroValue191
 t218 := Tryz.underlying208
 a218 := Tryz.isAgg208
 z218 := Tryz.sizeOf208
 v218 := Tryz.zeroValue208
 t222 := Tryz.underlying212
 a222 := Tryz.isAgg212
 z222 := Tryz.sizeOf212
 v222 := Tryz.zeroValue212
 t228 := Tryz.underlying219
 a228 := Tryz.isAgg219
 z228 := Tryz.sizeOf219
 v228 := Tryz.zeroValue219
 t229 := Tryz.underlying220
 a229 := Tryz.isAgg220
 z229 := Tryz.sizeOf220
 v229 := Tryz.zeroValue220 }
noncomputable def Tryz.lc104_ren : Go.Shelf.Ren := ⟨fun | 41 => 104 | n => n, fun | 22 => 92 | 23 => 137 | 4 => 4 | n => n, fun | n => n⟩
theorem Tryz.lc104 : Go.Proofs.SlLaysE0.n41 Tryz.prog Tryz.lc104_ren := {
 mixed := by kernel_rfl
 f41 := ⟨Tryz.f104.name, by decide, Tryz.func104.trans (congrArg some (by kernel_rfl))⟩
 t4 := Tryz.underlying4
 a4 := Tryz.isAgg4
 z4 := Tryz.sizeOf4
 v4 := Tryz.zeroValue4
 t22 := Tryz.underlying92
 a22 := Tryz.isAgg92
 z22 := Tryz.sizeOf92
 v22 := Tryz.zeroValue92 }
noncomputable def Tryz.lc125_ren : Go.Shelf.Ren := ⟨fun | 41 => 125 | n => n, fun | 22 => 38 | 23 => 9 | 4 => 4 | n => n, fun | n => n⟩
theorem Tryz.lc125 : Go.Proofs.SlLaysE0.n41 Tryz.prog Tryz.lc125_ren := {
 mixed := by kernel_rfl
 f41 := ⟨Tryz.f125.name, by decide, Tryz.func125.trans (congrArg some (by kernel_rfl))⟩
 t4 := Tryz.underlying4
 a4 := Tryz.isAgg4
 z4 := Tryz.sizeOf4
 v4 := Tryz.zeroValue4
 t22 := Tryz.underlying38
 a22 := Tryz.isAgg38
 z22 := Tryz.sizeOf38
 v22 := Tryz.zeroValue38 }
end Go.Proofs
namespace Go.Proofs.YtkdahfeiedaahaaGreatDoor
open Go Go.Proofs.Tryz
set_option linter.unusedVariables false
set_option maxRecDepth 100000
theorem Ng:rS Pg 104 137:=J6 Tryz.lc104 rfl rfl (by kernel_rfl) call104
theorem u5{l r:List ae}(h:ol l=some r):CC Pg GE 104 [sl aa l] (sl aa r) [(0,137)]:=IQ.cloneCC Ng h
theorem Nh:rS Pg 125 9:=J6 Tryz.lc125 rfl rfl (by kernel_rfl) call125
theorem rA{l r:List ag}(h:ol l=some r):CC Pg GE 125 [sl cS l] (sl cS r) [(0,9)]:=ch.cloneCC Nh h
def So(n:Int):Option ag:=if(decide (-9223372036854775808<=n)&&decide (n<=9223372036854775807))=true then some (Lib.itoa n)else none
theorem QW:kF=Lib.pow10Tab:=by kernel_rfl
theorem RP{n:Int}{r:ag}(h:So n=some r):CC Pg GE 98 [.int .i64 n] (.str r) []:=by
 rcases aN h with⟨b,h⟩|⟨b,h⟩
 ·obtain rfl:=lf h
  simp only[vae,van]at b
  refine CC.grownIS call98 fun E Γ bs ow w a st hE hS=>?_
  have htab:Lib.TabIs Pg w "internal/strconv.uint64pow10" .u64 Lib.pow10Tab:=Te hS (g:=0) (by rw[hE,←QW];simp[GE]) (by kernel_rfl)
  refine(Any.strconv_Itoa Tryz.laysM171 n b.1 b.2 w htab).mono fun e w' he=>?_
  obtain⟨rfl,k,os,rfl⟩:=he
  exact⟨rfl,.of_grow _ _ _⟩
 ·cases h
open Go
abbrev EG(GE:List (Nat×List PVal))(Γ:aV)(w:World):qb:=⟨GE,Γ,w,fun _=>False⟩
structure Jb(GE:List (Nat×List PVal))(Γ:aV)(w:World):Prop where
 wi:∀b n,Γ b=some n->∃c t fr,w.heap[b]? =some (.cells c t fr)/\n<=c.size
 gl:∀g cs,(g,cs)∈GE->VR Γ [] w (.eptr cs) (.pointer (some ⟨g,0,none⟩))
 gc:∀g cs,(g,cs)∈GE->kD 0 cs
 gx:∀g cs,(g,cs)∈GE->g<w.heap.size/\∃c t fr,w.heap[g]? =some (.cells c t fr)/\c.size=cs.length
theorem VR.clo{Γ:aV}{bs bs':bo}{w:World}{p:PVal}{v:Value}(h:VR Γ bs w p v)(hc:p.cl 0):VR Γ bs' w p v:=h.restrict (n:=0) hc fun i b hi _=>absurd hi (vaK _)
section
variable{P:Program}{E:qb}{Γ:aV}{bs:bo}{ow:Nat->Option lC}{w:World}{a:Array Value}{st:az}
theorem SR.base(h:SR P E Γ bs ow w a st):Jb E.GE Γ w where
 wi:=h.wi
 gl:=fun g cs hg=>(h.gl g cs hg).clo (by simp only[PVal.cl];exact h.gc g cs hg)
 gc:=h.gc
 gx:=fun g cs hg=>⟨(h.gnow hg).1,(h.gnow hg).2.2.2⟩
theorem Jb.good{GE:List (Nat×List PVal)}(hB:Jb GE Γ w):sG GE 0 (EG GE Γ w) where
 ge:=rfl
 low:=fun b n h=>by obtain⟨c,t,fr,h1,_⟩:=hB.wi b n h;exact(vad.1 h1).1
 nt:=fun _ _ hb=>hb
 gl:=hB.gl
theorem Jb.fresh{GE:List (Nat×List PVal)}(hB:Jb GE Γ w)(k:Nat){tmps:List PVal}(hs:a.size=tmps.length)(hv:∀(t:Nat) p v,tmps[t]? =some p->a[t]? =some v->VR Γ [] w p v):SR P (EG GE Γ w) Γ (List.replicate k none) (fun _=>none) w a ⟨tmps,List.replicate k .dead,[]⟩:=by
 have hno:∀(i b:Nat),(List.replicate k (none:Option Nat))[i]? =some (some b)->False:=fun i b h=>by
  rw[vaT]at h
  split at h<;>simp at h
 exact{
  wi:=hB.wi
  sz:=hs
  tm:=fun t p v hp hv'=>(hv t p v hp hv').mono (.refl _ _) (fun i b h=>by simp at h)
  bl:=by simp
  bx:=fun i b B hb=>(hno i b hb).elim
  inj:=fun i j b hb=>(hno i b hb).elim
  bn:=fun i b hb=>(hno i b hb).elim
  on:=fun b L hL=>by cases hL
  ot:=fun t k e he=>by simp at he
  ob:=fun i j e cs own b _ _ hb=>(hno i b hb).elim
  gl:=fun g cs hg=>(hB.gl g cs hg).mono (.refl _ _) (fun i b h=>by simp at h)
  gc:=hB.gc
  gx:=fun g cs hg=>⟨(hB.gx g cs hg).1,fun h=>h,(hB.gx g cs hg).2⟩
  step:=.refl _ _ _ _}
theorem SR.again(h:SR P E Γ bs ow w a st)(hc:kD 0 st.tmps){GE:List (Nat×List PVal)}{Γ':aV}{w':World}(hB:Jb GE Γ' w')(hle:Γ.Le w Γ' w')(k:Nat):SR P (EG GE Γ' w') Γ' (List.replicate k none) (fun _=>none) w' a ⟨st.tmps,List.replicate k .dead,[]⟩:=
 hB.fresh k h.sz fun t p v hp hv=>((h.tm t p v hp hv).clo (nW hc hp)).mono hle (.refl _)
theorem SR.aside(h:SR P E Γ bs ow w a st){GE:List (Nat×List PVal)}{Γ':aV}{bs':bo}{ow':Nat->Option lC}{w':World}{a':Array Value}{st':az}(h':SR P (EG GE Γ w) Γ' bs' ow' w' a' st'):SR P E Γ' bs ow w' a st:=
 h.world (fun _=>False) h'.step.le h'.wi h'.step.os h'.step.tape h'.step.output h'.step.size (fun b hb _=>h'.step.keep b hb id) (fun _ hx=>hx.elim) (fun _ _ _ hx=>hx) (fun _ _ _ hx=>hx) h'.step.drawn
theorem SR.putOther(h:SR P E Γ bs ow w a st){l:Nat}{o:Obj}(hT:¬be bs ow l)(hE:E.T l\/E.w.heap.size<=l)(ho:∀c t fr,w.heap[l]? ≠some (.cells c t fr)):SR P E Γ bs ow (w.putObj l o) a st/\Γ.Le w Γ (w.putObj l o):=by
 have hg:∀b n,Γ b=some n->b≠l:=fun b n hb e=>by
  obtain⟨c,t,fr,h1,_⟩:=h.wi b n hb
  exact ho c t fr (e▸h1)
 have hle:Γ.Le w Γ (w.putObj l o):=fun b n hb _=>⟨n,hb,vak _,fun k _=>b7 (World.putObj_heap_other (hg b n hb)) k⟩
 refine⟨h.world (fun b=>b=l) hle (fun b n hb=>?_) rfl rfl rfl (by simp) (fun b _ hb=>⟨World.putObj_heap_other hb,rfl⟩) (fun b hb=>hb▸hE) (fun i b hb e=>hT (.inl ⟨i,e▸hb⟩)) (fun b L hL e=>hT (.inr (by rw[<-e,hL];simp))),hle⟩
 obtain⟨c,t,fr,h1,h2⟩:=h.wi b n hb
 exact⟨c,t,fr,(World.putObj_heap_other (hg b n hb)).trans h1,h2⟩
theorem SR.rebase(h:SR P E Γ bs ow w a st):SR P ⟨E.GE,Γ,w,be bs ow⟩ Γ bs ow w a st:=
 { h with
  bn:=fun i b hb=>.inl (.inl ⟨i,hb⟩)
  on:=fun b L hL=>⟨(h.on b L hL).1,.inl (.inr (by rw[hL];simp))⟩
  gx:=fun g cs hg=>by
   obtain⟨k1,k2,k3,k4⟩:=h.gnow hg
   refine⟨k1,fun hT=>?_,k4⟩
   rcases hT with⟨i,hi⟩|hT
   ·exact k2 i g hi rfl
   ·exact hT k3
  step:=.refl _ _ _ _}
theorem SR.touchE(h:SR P E Γ bs ow w a st){b:Nat}(hb:be bs ow b):E.T b\/E.w.heap.size<=b:=by
 rcases hb with⟨i,hi⟩|hb
 ·exact h.bn i b hi
 ·cases hL:ow b with
  |none=>exact absurd hL hb
  |some L=>exact(h.on b L hL).2
theorem SR.unbase(h:SR P E Γ bs ow w a st){Γ':aV}{bs':bo}{ow':Nat->Option lC}{w':World}{a':Array Value}{st':az}(h':SR P ⟨E.GE,Γ,w,be bs ow⟩ Γ' bs' ow' w' a' st'):SR P E Γ' bs' ow' w' a' st':=by
 have hT:∀b,be bs ow b\/w.heap.size<=b->E.T b\/E.w.heap.size<=b:=fun b hb=>hb.elim h.touchE fun hb=>.inr (vaC h.step.size hb)
 exact{h' with
  bn:=fun i b hb=>hT b (h'.bn i b hb)
  on:=fun b L hL=>⟨(h'.on b L hL).1,hT b (h'.on b L hL).2⟩
  gx:=h.gx
  step:={
   os:=h'.step.os.trans h.step.os
   tape:=h'.step.tape.trans h.step.tape
   output:=h'.step.output.trans h.step.output
   size:=vaC h.step.size h'.step.size
   drawn:=vaC h.step.drawn h'.step.drawn
   keep:=fun b hb hTb=>by
    have hlt:b<w.heap.size:=vaH hb h.step.size
    have hn:¬be bs ow b:=fun hx=>(h.touchE hx).elim hTb fun hx=>absurd hx (vcd.2 hb)
    obtain⟨k1,k2⟩:=h'.step.keep b hlt hn
    obtain⟨q1,q2⟩:=h.step.keep b hb hTb
    exact⟨k1.trans q1,k2.trans q2⟩
   le:=h.step.le.trans h'.step.le}}
theorem aP.on{m:Nat}{c:Code}{Q:Exit->az->Prop}(hS:aP P E.GE m c Q st)(hm:m≠0)(h:SR P E Γ bs ow w a st)(hl:m % 1000<=bs.length)(ro:Option Nat)(ds:List Deferred):FM ro P c (fun e a' w'=>a'.defers=ds/\∃Γ' bs' ow' st',SR P E Γ' bs' ow' w' a'.tmps st'/\Q e st'/\(∀i:Nat,i<m % 1000->bs'[i]? =bs[i]?)/\Γ.Le w Γ' w'/\w.heap.size<=w'.heap.size/\
   ∀b,b<w.heap.size->¬be bs ow b->w'.heap[b]? =w.heap[b]?/\¬be bs' ow' b) ⟨a,ds⟩ w:=by
 have hE:sG E.GE m ⟨E.GE,Γ,w,be bs ow⟩:={
  ge:=rfl
  low:=fun b n hb=>h.lt_of_ghost hb
  nt:=fun h0=>absurd h0 hm
  gl:=h.base.gl}
 have hlen:(bs.take (m % 1000)).length=m % 1000:=by simp;omega
 refine kE (hS ro ⟨E.GE,Γ,w,be bs ow⟩ (bs.take (m % 1000)) ⟨a,ds⟩ w hE hlen ⟨Γ,bs,ow,h.rebase,fun i hi=>?_⟩) fun e a' w' hq=>?_
 ·rw[vao (by omega)]
 obtain⟨hd,st',⟨Γ',bs',ow',h',hk⟩,hQ⟩:=hq
 refine⟨hd,Γ',bs',ow',st',h.unbase h',hQ,fun i hi=>?_,h'.step.le,h'.step.size,fun b hb hT=>⟨(h'.step.keep b hb hT).1,fun hx=>?_⟩⟩
 ·rw[hk i (by omega),vao hi]
 ·exact(h'.touchE hx).elim hT fun hx=>absurd hx (vcd.2 hb)
theorem aP.wide{GE:List (Nat×List PVal)}{c:Code}{Q:Exit->az->Prop}{st0:az}(hS:aP P GE 0 c Q st0)(hB:Jb GE Γ w){ow:Nat->Option lC}{bs:bo}(h:SR P (EG GE Γ w) Γ bs ow w a st0)(n:Nat)(ds:List Deferred):c.wpIn Fence.wide n P (fun e a' w'=>a'.defers=ds/\∃Γ' bs' ow' st',SR P (EG GE Γ w) Γ' bs' ow' w' a'.tmps st'/\Q e st') ⟨a,ds⟩ w:=
 wpIn_wide.2 (wp_mono (hS none (EG GE Γ w) [] ⟨a,ds⟩ w hB.good rfl ⟨Γ,bs,ow,h,fun i hi=>absurd hi (vaK _)⟩) fun e a' w' hq=>by
  obtain⟨hd,st',⟨Γ',bs',ow',h',_⟩,hQ⟩:=hq
  exact⟨hd,Γ',bs',ow',st',h',hQ⟩)
theorem aP.wideE{GE:List (Nat×List PVal)}{c:Code}{Q:Exit->az->Prop}(hS:aP P GE 0 c Q st)(hE:sG GE 0 E)(h:SR P E Γ bs ow w a st)(n:Nat)(ds:List Deferred):c.wpIn Fence.wide n P (fun e a' w'=>a'.defers=ds/\∃Γ' bs' ow' st',SR P E Γ' bs' ow' w' a'.tmps st'/\Q e st') ⟨a,ds⟩ w:=
 wpIn_wide.2 (wp_mono (hS none E [] ⟨a,ds⟩ w hE rfl ⟨Γ,bs,ow,h,fun i hi=>absurd hi (vaK _)⟩) fun e a' w' hq=>by
  obtain⟨hd,st',⟨Γ',bs',ow',h',_⟩,hQ⟩:=hq
  exact⟨hd,Γ',bs',ow',st',h',hQ⟩)
theorem SR.allocO(h:SR P E Γ bs ow w a st)(o:Obj):SR P E Γ bs ow (w.alloc o) a st/\Γ.Le w Γ (w.alloc o):=by
 have hlt:∀b n,Γ b=some n->b<w.heap.size:=fun b n hb=>h.lt_of_ghost hb
 have hle:Γ.Le w Γ (w.alloc o):=fun b n hb _=>⟨n,hb,vak _,fun k _=>b7 (eZ w o (hlt b n hb)) k⟩
 refine⟨h.world (fun _=>False) hle (fun b n hb=>?_) rfl rfl rfl (by simp[World.size_alloc]) (fun b hb _=>⟨eZ w o hb,rfl⟩) (fun _ hx=>hx.elim) (fun _ _ _ hx=>hx) (fun _ _ _ hx=>hx),hle⟩
 obtain⟨c,t,fr,h1,h2⟩:=h.wi b n hb
 exact⟨c,t,fr,(eZ w o (hlt b n hb)).trans h1,h2⟩
theorem SR.forgetT(h:SR P E Γ bs ow w a st){tm:List PVal}(hf:J8 st.tmps tm=tm):SR P E Γ bs ow w a {st with tmps:=tm}:=
 { h with
  sz:=by rw[h.sz,<-La (l:=st.tmps) (bs:=tm),hf]
  tm:=fun t p v hp hv=>by
   rw[<-hf]at hp
   rcases K9 hp with rfl|hp'
   ·exact .undef v
   ·exact h.tm t p v hp' hv}
theorem SR.back(h:SR P E Γ bs ow w a st)(ho:st.own=[]){Γ':aV}{bs':bo}{ow':Nat->Option lC}{w':World}{a':Array Value}{st':az}{H':List aD}(h':SR P E Γ' bs' ow' w' a' st')(hle:Γ.Le w Γ' w')
  (hbs:∀i:Nat,i<bs.length->bs'[i]? =bs[i]?) (hH:dA H'.length st'.boxes H') (hl:H'.length=bs.length):
  ∃ow'',SR P E Γ' bs ow'' w' a {st with boxes:=H'}/\∀b,be bs ow'' b->be bs' ow' b:=by
 have hf:=h'.finish (H':=H') (v:=undef) (r:=.undef) (src:=fun k=>(0,k)) (ro:=[]) (.undef _) trivial hH (fun x hx=>by simp at hx) (fun x hx=>by simp at hx)
 have hb:bs'.take H'.length=bs:=by
  obtain⟨h1,_⟩:=nD hH
  have h2:H'.length<=bs'.length:=by rw[h'.bl];exact h1
  refine va0 fun i=>?_
  by_cases hi:i<H'.length
  ·rw[vao hi];exact hbs i (by omega)
  ·rw[vb2 (by omega),vaD (by omega)]
 rw[hb]at hf
 refine⟨_,{hf with
  sz:=h.sz
  tm:=fun t p v hp hv=>(h.tm t p v hp hv).mono hle (.refl _)
  ot:=fun t k e he=>by simp only[ho]at he;simp at he},fun b hb=>?_⟩
 rcases hb with⟨i,hi⟩|hb
 ·exact .inl ⟨i,(hbs i (ak hi)).trans hi⟩
 ·refine .inr fun e=>hb ?_
  simp[wy,e]
end
section
variable{P:Program}{n:Nat}{a:Act}{w:World}{next:Act->World->Prop}{Q:Exit->Act->World->Prop}
theorem O7{o:Oper}(hd:ff o=true)(h:o.wp P a w next Q):o.wpIn Fence.wide n P a w next Q:=by
 refine⟨fun _ _=>trivial,?_⟩
 have hs:o.semAt (Fence.wide).round a.eval=execOp a.eval o:=Oper.semAt_eq _ _ _ fun c hc=>by unfold ff at hd;rw[hc]at hd;cases hd
 rw[hs]
 unfold Oper.wp at h
 generalize (execOp a.eval o).run P w=r at *
 have hdep:(Fence.wide).depth.isSome=true->1<=n:=fun h=>by simp[Fence.wide]at h
 cases r with
 | ok x w' =>
  cases x<;>simp only[Oper.upon]at h<;>simp only[Oper.uponIn]<;>first
   |exact h.elim
   |exact h
   |exact⟨hdep,callsIn_wide.2 h⟩
   | exact ⟨hdep,fun c cs _ => by
     obtain⟨v,w',r,s⟩:=h c cs
     exact⟨v,w',r,stepsIn_wide.2 s⟩⟩
 |halt x w'=>cases x<;>simp only[Oper.upon]at h<;>simp only[Oper.uponIn]<;>exact h
theorem NT{o:Oper}{f:Operand}{args:Array Operand}{tys:Array TypeId}(ho:o.op=.call {callee:=.value f,args:=args,argTypes:=tys}){l:Nat}(hf:a.eval f=.func (.yield l) #[] #[])
  {R:Ending->World->Prop} (h:YieldAt Fence.wide (n - 1) P l (args.map a.eval) w R) (hR:∀e w',R e w'->∃v,e=.returned v/\next (a.put o.dst v) w'):o.wpIn Fence.wide n P a w next Q:=by
 refine⟨fun _ _=>trivial,?_⟩
 have hs:o.semAt (Fence.wide).round a.eval=execOp a.eval o:=Oper.semAt_eq _ _ _ fun c hc=>by rw[ho]at hc;cases hc
 obtain⟨fn,tmps,assign,body,hy,hr⟩:=h
 have hrun:(execOp a.eval o).run P w=.ok (.round l fn tmps assign body) w:=by
  simp[execOp,ho,resolve,hf,Deferred.ofValue,invoke,hy]
 rw[hs,hrun,Oper.uponIn_round]
 refine⟨fun h=>by simp[Fence.wide]at h,hr.mono fun e w' hr=>?_⟩
 obtain⟨v,rfl,hx⟩:=hR e w' hr
 exact hx
theorem Iy{ops:Array Oper}{i:Nat}{rest:List Nat}{o:Oper}(ho:ops[i]? =some o)(hg:o.guard=none)(h:o.wpIn Fence.wide n P a w (wpOpsIn Fence.wide n P ops Q rest) Q):wpOpsIn Fence.wide n P ops Q (i::rest) a w:=by
 unfold wpOpsIn
 simp only[ho,Region.wanted,hg,if_true]
 exact h
theorem E5{E:qb}{A:List Nat}{ops:Array Oper}{K:az->Prop}{rest:List Nat}{ds:List Deferred}
  (hK:∀Γ bs ow a w st,SR P E Γ bs ow w a st->K st->wpOpsIn Fence.wide n P ops Q rest ⟨a,ds⟩ w):
  ∀(L:List Oper) (is:List Nat) (Γ:aV) (bs:bo) (ow:Nat->Option lC) (a:Array Value) (w:World) (st:az),is.map (fun i=>ops[i]?)=L.map some->
   (∀o∈L,o.guard=none/\ff o=true/\aH o.op=false)->SR P E Γ bs ow w a st->cV P E.GE A ops K L 0 st->wpOpsIn Fence.wide n P ops Q (is++rest) ⟨a,ds⟩ w
 |[],[],Γ,bs,ow,a,w,st,_,_,h,hp=>hK Γ bs ow a w st h hp
 |o::L,i::is,Γ,bs,ow,a,w,st,hi,hg,h,hp=>by
  obtain⟨g1,g2,g3⟩:=hg o (by simp)
  unfold cV at hp
  simp only[g1]at hp
  simp only[vaA,vbC]at hi
  refine Iy hi.1 g1 (O7 g2 (Oper.wp_mono (fun a' w' hA=>?_) (D0 (a:=⟨a,ds⟩) h (fun hm=>by rw[g3]at hm;cases hm) hp Q)))
  obtain⟨hd,Γ',bs',ow',st',h1,h2,_⟩:=hA
  obtain⟨a1,ds1⟩:=a'
  simp only at hd h1
  subst hd
  refine E5 (A:=A) hK L is Γ' bs' ow' a1 w' st' hi.2 (fun o ho=>hg o (vaM _ ho)) h1 ?_
  rw[g3]at h2
  exact h2
end
def DR:Code->Array Oper
 |.region _ ops _=>ops
 |_=>#[]
def W4:Code->Nat
 |.region id _ _=>id
 |_=>0
def UA(c:Code)(i:Nat):Oper:=(DR c)[i]?.getD default
def VY(o:Oper):Array TypeId:=match o.op with
 |.call c=>c.argTypes
 |_=>#[]
def E9(o:Oper):Bool:=o.guard.isNone&&ff o&&!aH o.op
theorem Kt{L:List Oper}(h:L.all E9=true):∀o∈L,o.guard=none/\ff o=true/\aH o.op=false:=fun o ho=>by
 have:=vas.1 h o ho
 simpa[E9,and_assoc]using this
theorem rq{P:Program}{GE:List (Nat×List PVal)}{A:List Nat}{ops:Array Oper}{K K':az->Prop}(hK:∀st,K st->K' st):∀(L:List Oper) (id:Nat) (st:az),cV P GE A ops K L id st->cV P GE A ops K' L id st
 |[],_,st,h=>hK st h
 | o :: L,id,st,h => by
  unfold cV at h ⊢
  split at h
  ·exact rI (fun st hx=>rq hK L _ st hx) h
  ·split at h
   ·exact⟨fun hx=>rI (fun st hx=>rq hK L _ st hx) (h.1 hx),fun hx=>rq hK L _ _ (h.2 hx)⟩
   ·exact h
theorem Oj{P:Program}{GE:List (Nat×List PVal)}{A:List Nat}{ops:Array Oper}{L:List Oper}{st st0:az}{sc:List It}{F:Prop}(h:PS sc F)(he:F=FO P GE A ops (fun _ st=>FG st st0) L 0 0 sc st):cV P GE A ops (fun st=>FG st st0) L 0 st:=
 rq (fun st ⟨_,hx⟩=>hx) L 0 st (tR L 0 0 sc st (Eq.mp he h))
theorem FG.sr{P:Program}{E:qb}{Γ:aV}{bs:bo}{ow:Nat->Option lC}{w:World}{a:Array Value}{st st0:az}(h:SR P E Γ bs ow w a st)(hf:FG st st0):∃Γ' bs' ow',SR P E Γ' bs' ow' w a st0:=by
 obtain⟨Γ',bs',ow',h',_⟩:=(hf.weak (P:=P) (m:=0)) E [] ⟨a,[]⟩ w rfl ⟨Γ,bs,ow,h,fun i hi=>absurd hi (vaK _)⟩
 exact⟨Γ',bs',ow',h'⟩
def UK:Code->Code
 |.rangeFunc _ _ a _=>a
 |_=>.skip
def UL:Code->Code
 |.rangeFunc _ _ _ b=>b
 |_=>.skip
theorem jM{w:World}{b:Nat}{o:Obj}(h:w.heap[b]? =some o):b<w.heap.size:=(vad.1 h).1
structure Sd(P:Program)(GE:List (Nat×List PVal)){S:Type}(J:Bool->S->aV->World->Prop):Prop where
 base:∀b s Γ w,J b s Γ w->Jb GE Γ w
 side:∀b s Γ w,J b s Γ w->∀Γ' bs' ow' w' a' st',SR P (EG GE Γ w) Γ' bs' ow' w' a' st'->J b s Γ' w'
def VG(P:Program){S:Type}(J:Bool->S->aV->World->Prop)(Γ0:aV)(w0:World)(b:Bool)(s:S)(st:az)(a:Array Value)(w:World):Prop:=∃Γ,J b s Γ w/\Γ0.Le w0 Γ w/\∃E bs ow,SR P E Γ bs ow w a st
structure Dg(st:az)(k:Nat):Prop where
 c:kD 0 st.tmps
 b:st.boxes=List.replicate k .dead
 o:st.own=[]
abbrev sF(l:Nat):PVal:=.val (.func (.yield l) #[] #[])
section
variable{P:Program}{GE:List (Nat×List PVal)}{S:Type}{J:Bool->S->aV->World->Prop}{l:Nat}{Γ0:aV}{w0:World}{b:Bool}{s:S}{st0 st1 stA stB:az}{k kA kB:Nat}{a:Array Value}{w:World}{n:Nat}{ds:List Deferred}
theorem Tv{N:Nat}{L:List (Nat×PVal)}(h:S6 0 L)(k:Nat){H:List aD}(hH:H=List.replicate k .dead):Dg (aZ N L H []) k:=⟨dF h,hH,rfl⟩
theorem VG.again(hY:Sd P GE J)(hD:Dg st0 k)(h:VG P J Γ0 w0 b s st0 a w):∃Γ,J b s Γ w/\Γ0.Le w0 Γ w/\SR P (EG GE Γ w) Γ (List.replicate k none) (fun _=>none) w a st0:=by
 obtain⟨Γ,hJ,hle,E,bs,ow,hS⟩:=h
 obtain⟨tm,H,own⟩:=st0
 have hb:H=_:=hD.b
 have ho:own=[]:=hD.o
 subst hb;subst ho
 exact⟨Γ,hJ,hle,hS.again hD.c (hY.base _ _ _ _ hJ) (.refl _ _) k⟩
theorem VG.piece(hY:Sd P GE J){c:Code}{e:Exit}(hS:aP P GE 0 c (EX e st1) st0)(hD:Dg st0 k)(h:VG P J Γ0 w0 b s st0 a w):c.wpIn Fence.wide n P (fun e' a' w'=>e'=e/\a'.defers=ds/\VG P J Γ0 w0 b s st1 a'.tmps w') ⟨a,ds⟩ w:=by
 obtain⟨Γ,hJ,hle,hR⟩:=h.again hY hD
 refine wpIn_mono (hS.wide (hY.base _ _ _ _ hJ) hR n ds) ?_
 rintro e' a' w' ⟨hd,Γ',bs',ow',st',h',rfl,rfl⟩
 exact⟨rfl,hd,Γ',hY.side _ _ _ _ hJ _ _ _ _ _ _ h',hle.trans h'.step.le,_,_,_,h'⟩
theorem VG.reg(hY:Sd P GE J){id:Nat}{ops:Array Oper}{is1 is2:List Nat}{i:Nat}{L1 L2:List Oper}{o:Oper}(hrg:List.range ops.size=is1++i::(is2++[]))
  (p1:is1.map (fun i=>ops[i]?)=L1.map some) (p2:L1.all E9=true) (ho:ops[i]? =some o) (hg:o.guard=none) (q1:is2.map (fun i=>ops[i]?)=L2.map some) (q2:L2.all E9=true)
  (hD:Dg st0 k) (hDB:Dg stB kB) (hpre:cV P GE [] ops (fun st=>FG st stA) L1 0 st0) (hsuf:cV P GE [] ops (fun st=>FG st st1) L2 0 stB) {r:Bool×S}
  (hcall:∀a w (next:Act->World->Prop) (Q:Exit->Act->World->Prop),VG P J Γ0 w0 b s stA a w->(∀a' w',VG P J Γ0 w0 r.1 r.2 stB a' w'->next ⟨a',ds⟩ w')->o.wpIn Fence.wide n P ⟨a,ds⟩ w next Q)
  (h:VG P J Γ0 w0 b s st0 a w):(Code.region id ops false).wpIn Fence.wide n P (fun e' a' w'=>e'=.normal/\a'.defers=ds/\VG P J Γ0 w0 r.1 r.2 st1 a'.tmps w') ⟨a,ds⟩ w:=by
 refine wpIn_region ?_
 rw[hrg]
 obtain⟨Γ,hJ,hle,hS⟩:=h.again hY hD
 refine E5 (A:=[]) (K:=fun st=>FG st stA) (fun Γ' bs' ow' a' w' st hS' hK=>?_) _ _ Γ _ _ a w st0 p1 (Kt p2) hS hpre
 obtain⟨Γ2,bs2,ow2,hS2⟩:=FG.sr hS' hK
 refine Iy ho hg (hcall a' w' _ _ ⟨Γ2,hY.side _ _ _ _ hJ _ _ _ _ _ _ hS2,hle.trans hS2.step.le,_,_,_,hS2⟩ fun a3 w3 h3=>?_)
 obtain⟨Γ3,hJ3,hle3,hS3⟩:=h3.again hY hDB
 refine E5 (A:=[]) (K:=fun st=>FG st st1) (fun Γ' bs' ow' a' w' st hS' hK=>?_) _ _ Γ3 _ _ a3 w3 stB q1 (Kt q2) hS3 hsuf
 obtain⟨Γ4,bs4,ow4,hS4⟩:=FG.sr hS' hK
 exact⟨rfl,rfl,Γ4,hY.side _ _ _ _ hJ3 _ _ _ _ _ _ hS4,hle3.trans hS4.step.le,_,_,_,hS4⟩
theorem VG.ev(h:VG P J Γ0 w0 b s st0 a w){t:Nat}{x:Bool}(ht:st0.tmps.getD t .undef=.bool x):(Act.mk a ds).eval (.tmp t)=.bool x:=by
 obtain⟨Γ,hJ,hle,E,bs,ow,hS⟩:=h
 have h1:=hS.opv ds (.tmp t)
 have e1:opv E.GE st0.tmps (.tmp t)=.bool x:=ht
 rw[e1]at h1
 generalize (Act.mk a ds).eval (.tmp t)=v at h1
 cases h1
 rfl
theorem VG.put(hY:Sd P GE J)(hD:Dg stA kA){Γ Γ':aV}{w':World}{E:qb}{bs:bo}{ow:Nat->Option lC}(hS:SR P E Γ bs ow w a stA)(hle:Γ0.Le w0 Γ w)(hle':Γ.Le w Γ' w'){r:Bool×S}(hJ':J r.1 r.2 Γ' w'){d:Nat}(hB:stB=⟨stA.tmps.set d (.bool r.1),List.replicate kA .dead,[]⟩):VG P J Γ0 w0 r.1 r.2 stB (a.setIfInBounds d (.bool r.1)) w':=by
 have hS':=(hS.again hD.c (hY.base _ _ _ _ hJ') hle' kA).set (d:=d) (p:=.bool r.1) (v:=.bool r.1) (.bool _)
 exact⟨Γ',hJ',hle.trans hle',_,_,_,hB▸hS'⟩
theorem VG.yield2(hY:Sd P GE J)(hD:Dg stA kA){r:Bool×S}{i:Int}{cs:List PVal}(hcl:kD 0 cs)
  (hy:∀Γ w v,J true s Γ w->VR Γ [] w (.agg cs) v->YieldAt Fence.wide (n - 1) P l #[.int .i64 i,v] w fun e w'=>∃Γ',e=.returned (.bool r.1)/\Γ.Le w Γ' w'/\J r.1 r.2 Γ' w')
  {o:Oper} {f x y d:Nat} {tys:Array TypeId} (h7:stA.tmps.getD f .undef=sF l) (h8:stA.tmps.getD x .undef=.int .i64 i) (h9:stA.tmps.getD y .undef=.agg cs)
  (ho:o.op=.call {callee:=.value (.tmp f),args:=#[.tmp x,.tmp y],argTypes:=tys}) (hd:o.dst=some d) (hB:stB=⟨stA.tmps.set d (.bool r.1),List.replicate kA .dead,[]⟩)
  {next:Act->World->Prop} {Q:Exit->Act->World->Prop} (h:VG P J Γ0 w0 true s stA a w) (hn:∀a' w',VG P J Γ0 w0 r.1 r.2 stB a' w'->next ⟨a',ds⟩ w'):o.wpIn Fence.wide n P ⟨a,ds⟩ w next Q:=by
 obtain⟨Γ,hJ,hle,hS⟩:=h.again hY hD
 have h1:=hS.opv ds (.tmp f)
 have h2:=hS.opv ds (.tmp x)
 have h3:=hS.opv ds (.tmp y)
 have e1:opv (EG GE Γ w).GE stA.tmps (.tmp f)=sF l:=h7
 have e2:opv (EG GE Γ w).GE stA.tmps (.tmp x)=.int .i64 i:=h8
 have e3:opv (EG GE Γ w).GE stA.tmps (.tmp y)=.agg cs:=h9
 rw[e1]at h1;rw[e2]at h2;rw[e3]at h3
 have hev:(Act.mk a ds).eval (.tmp f)=.func (.yield l) #[] #[]:=by
  generalize (Act.mk a ds).eval (.tmp f)=v at h1
  cases h1;rfl
 have hex:(Act.mk a ds).eval (.tmp x)=.int .i64 i:=by
  generalize (Act.mk a ds).eval (.tmp x)=v at h2
  cases h2;rfl
 refine NT ho hev (R:=fun e w'=>∃Γ',e=.returned (.bool r.1)/\Γ.Le w Γ' w'/\J r.1 r.2 Γ' w') ?_ ?_
 ·have:=hy Γ w _ hJ (h3.clo (by simp only[PVal.cl];exact hcl))
  simpa[hex]using this
 ·rintro e w' ⟨Γ',rfl,hle',hJ'⟩
  refine⟨_,rfl,?_⟩
  rw[hd]
  exact hn _ _ (VG.put hY hD hS hle hle' hJ' hB)
end
def Rb{α S:Type}(step:S->α->Option (Bool×S)):List α->S->Option (Bool×S)
 |[],s=>some (true,s)
 |x::l,s=>(step s x).bind fun r=>match r.1 with
  |false=>some (false,r.2)
  |true=>Rb step l r.2
theorem Q8{α:Type}(l:List α){j:Nat}(h:j<l.length):(l.take (j+1)).reverse=l[j]::(l.take j).reverse:=by
 rw[vaw h,List.reverse_append];rfl
theorem cP{n:Int}(h1: -9223372036854775808<=n)(h2:n<9223372036854775808):bZ n=n:=Th h1 h2
theorem dB{α:Type}(l:List α)(i:Nat)(h:i<l.length):fO l (i:Int)=some l[i]:=by
 unfold fO
 rw[vav (by omega)]
 simp[h]
theorem Q7{α:Type}(l:List α)(i:Nat)(h:i<=l.length):Sc l (some (i:Int)) none=some (l.drop i):=by
 simp[Sc,bd,h]
theorem ij{α:Type}{l r:List α}(h:l.length+r.length<=1073741824):app l r=some (l++r):=vav h
theorem O1{σ X:Type}{body:σ->Option (σ⊕X)}{s s':σ}(h:body s=some (.inl s')):loop body s=loop body s':=by rw[td,h]
theorem Kh{σ X:Type}{body:σ->Option (σ⊕X)}{s:σ}{x:X}(h:body s=some (.inr x)):loop body s=some x:=by rw[td,h]
def A8{α σ X:Type}(f:Nat->α->σ->σ⊕X)(e:σ->X):List α->Nat->σ->X
 |[],_,s=>e s
 |x::r,i,s=>match f i x s with
  |.inl s'=>A8 f e r (i+1) s'
  |.inr y=>y
theorem zB{α σ τ X:Type}(l:List α)(hl:l.length<9223372036854775808)(mk:Int->σ->τ)(body:τ->Option (τ⊕X))(I:Nat->σ->Prop)(f:Nat->α->σ->σ⊕X)(e:σ->X)
  (hin:∀(i:Nat) (h:i<l.length) s,I i s->body (mk i s)=some (match f i l[i] s with|.inl s'=>.inl (mk (bZ ((i:Int)+1)) s')|.inr y=>.inr y)/\∀s',f i l[i] s=.inl s'->I (i+1) s')
  (hend:∀s,I l.length s->body (mk l.length s)=some (.inr (e s))):∀(i:Nat) (s:σ),i<=l.length->I i s->loop body (mk i s)=some (A8 f e (l.drop i) i s):=by
 intro i s hi hI
 obtain⟨k,hk⟩:∃k,k+i=l.length:=⟨l.length - i,by omega⟩
 induction k generalizing i s with
 |zero=>
  have:i=l.length:=by omega
  subst this
  rw[td,hend s hI,vcH]
  rfl
 | succ k ih =>
  have hlt:i<l.length:=by omega
  obtain⟨h1,h2⟩:=hin i hlt s hI
  rw[td,h1,vbu hlt]
  unfold A8
  cases hf:f i l[i] s with
  |inl s'=>
   simp only
   rw[cP (by omega) (by omega)]
   have:=ih (i+1) s' (by omega) (h2 s' hf) (by omega)
   rw[show((i:Int)+1)=((i+1:Nat):Int) by omega]
   exact this
  |inr y=>rfl
theorem MR{α X:Type}(p:α->Bool)(y e:X):∀(l:List α) (i:Nat),A8 (fun _ x (_:Unit)=>if p x=true then Sum.inr y else .inl ()) (fun _=>e) l i ()=if l.any p=true then y else e
 |[],i=>by simp[A8]
 | x :: l,i => by
  have ih:=MR p y e l (i+1)
  unfold A8
  by_cases h:p x=true
  ·simp[h]
  ·simp only[h,if_false,ih,List.any_cons,Bool.false_or,vbN]
theorem Qv{α X:Type}(l:List α)(hl:l.length<9223372036854775808)(body:Int->Option (Int⊕X))(p:α->Bool)(y e:X)
  (hin:∀(i:Nat) (h:i<l.length),body i=some (if p l[i]=true then .inr y else .inl (bZ ((i:Int)+1)))) (hend:body l.length=some (.inr e)) (i:Nat) (hi:i<=l.length):
  loop body (i:Int)=some (if(l.drop i).any p=true then y else e):=by
 have:=zB l hl (fun i (_:Unit)=>i) body (fun _ _=>True) (fun _ x _=>if p x=true then Sum.inr y else .inl ()) (fun _=>e) (fun i h s _=>⟨?_,fun _ _=>trivial⟩) (fun s _=>hend) i () hi trivial
 ·rw[this,MR]
 ·rw[hin i h]
  by_cases hp:p l[i]=true<;>simp[hp]
theorem Ky{α X:Type}(p:α->Bool)(y:Nat->X)(e:X):∀(l:List α) (i:Nat),A8 (fun j x (_:Unit)=>if p x=true then Sum.inr (y j)else .inl ()) (fun _=>e) l i ()=match l.findIdx? p with|some j=>y (i+j)|none=>e
 |[],i=>by simp[A8]
 | x :: l,i => by
  have ih:=Ky p y e l (i+1)
  unfold A8
  rw[List.findIdx?_cons]
  by_cases h:p x=true
  ·simp[h]
  ·simp only[h,if_false,ih,vbN]
   cases l.findIdx? p with
   |none=>rfl
   |some j=>simp only[vag];congr 1;omega
theorem Ki{α X:Type}(l:List α)(hl:l.length<9223372036854775808)(body:Int->Option (Int⊕X))(p:α->Bool)(y:Nat->X)(e:X)
  (hin:∀(i:Nat) (h:i<l.length),body i=some (if p l[i]=true then .inr (y i)else .inl (bZ ((i:Int)+1)))) (hend:body l.length=some (.inr e)):
  loop body (0:Int)=some (match l.findIdx? p with|some j=>y j|none=>e):=by
 have:=zB l hl (fun i (_:Unit)=>i) body (fun _ _=>True) (fun j x _=>if p x=true then Sum.inr (y j)else .inl ()) (fun _=>e) (fun i h s _=>⟨?_,fun _ _=>trivial⟩) (fun s _=>hend) 0 () (vaY _) trivial
 ·simp only[Int.ofNat_zero,vbS]at this
  have this2:=Ky p y e l 0
  simp only[vaI]at this2
  rw[<-this2]
  exact this
 ·rw[hin i h]
  by_cases hp:p l[i]=true<;>simp[hp]
abbrev VB:Nat:=137
abbrev Ma:Nat:=157
noncomputable def Vs:Code:=f137.body.getD .skip
noncomputable def M7:Code:=f157.body.getD .skip
abbrev F8(sc:List ae):PVal:=sl aa sc
theorem Nf(sc:List ae):(F8 sc).cl 0:=aj al sc
theorem FL(sc:List ae):(PVal.eptr [F8 sc]).cl 0:=⟨Nf sc,trivial⟩
theorem Ut(sc:List ae):bE Pg 92 [F8 sc]=some (F8 sc):=by kernel_rfl
theorem LY(sc:List ae):CC Pg GE VB [F8 sc] (.func (.func Ma) [] [.eptr [F8 sc]]) []:=by
 have z:=se (show cF (F8 sc)=some [F8 sc]from rfl)<|en (aI (rP (.func (.func Ma) [] [.eptr [F8 sc]]))<|(aI trivial (aI (FL sc) trivial)))
 exact C.evp (A:=[]) mixed call137 func137 (c:=Vs) rfl (aI (Nf sc) trivial) z (by kernel_rfl)
abbrev V7:Code:=iJ M7 [false]
abbrev V8:Code:=iJ M7 [true,false,false,false,false]
abbrev KW:Code:=iJ M7 [true,false,false,true,false,false,false]
abbrev V9:Code:=iJ M7 [true,false,false,true,true]
theorem RB:M7=.seq V7 (.block 0 (.loop (.seq (.seq V8 (.cond (.tmp 8) .skip (.exit 0))) (.seq (.block 1 (.seq (.region (W4 KW) (DR KW) false) (.cond (.tmp 18) .ret .skip))) V9)))):=by kernel_rfl
theorem S3:List.range (DR KW).size=[0,1,2,3,4,5]++6::([7]++[]):=by kernel_rfl
theorem SZ:[0,1,2,3,4,5].map (fun i=>(DR KW)[i]?)=((DR KW).toList.take 6).map some:=by kernel_rfl
theorem S0:((DR KW).toList.take 6).all E9=true:=by kernel_rfl
theorem Ua:(DR KW)[6]? =some (UA KW 6):=by kernel_rfl
theorem T9:(UA KW 6).guard=none:=by kernel_rfl
theorem S1:[7].map (fun i=>(DR KW)[i]?)=((DR KW).toList.drop 7).map some:=by kernel_rfl
theorem S2:((DR KW).toList.drop 7).all E9=true:=by kernel_rfl
theorem SY:(UA KW 6).op=.call {callee:=.value (.tmp 11),args:=#[.tmp 12,.tmp 16],argTypes:=VY (UA KW 6)}:=by kernel_rfl
theorem T8:(UA KW 6).dst=some 17:=by kernel_rfl
abbrev bS(l:Nat)(sc:List ae)(i:Int):az:=aZ 19 [(0,sF l),(1,.eptr [F8 sc]),(3,.int .i64 i)] [] []
abbrev UR(l:Nat)(sc:List ae)(i:Int):az:=aZ 19 [(0,sF l),(1,.eptr [F8 sc]),(3,.int .i64 i),(8,.bool (decide (i>=0)))] [] []
abbrev Vt(l:Nat)(sc:List ae)(i:Int)(x:ae):az:=aZ 19 [(0,sF l),(1,.eptr [F8 sc]),(3,.int .i64 i),(11,sF l),(12,.int .i64 i),(16,.agg (aa x))] [] []
abbrev Vu(l:Nat)(sc:List ae)(i:Int)(x:ae)(b:Bool):az:=aZ 19 [(0,sF l),(1,.eptr [F8 sc]),(3,.int .i64 i),(11,sF l),(12,.int .i64 i),(16,.agg (aa x)),(17,.bool b)] [] []
abbrev US(l:Nat)(sc:List ae)(i:Int)(b:Bool):az:=aZ 19 [(0,sF l),(1,.eptr [F8 sc]),(3,.int .i64 i),(18,.bool (!b))] [] []
theorem Vv(l:Nat)(sc:List ae):aP Pg GE 0 V7 (EX .normal (bS l sc (bZ ((sc.length:Int) - 1)))) (aZ 19 [(0,sF l),(1,.eptr [F8 sc])] [] []):=by
 have z:=sv (Ut sc)<|bW (IQ.ln sc)<|eF .normal (bS l sc (bZ ((sc.length:Int) - 1)))
 exact qL (A:=[]) mixed z (by kernel_rfl)
theorem Vw(l:Nat)(sc:List ae)(i:Int):aP Pg GE 0 V8 (EX .normal (UR l sc i)) (bS l sc i):=by
 have z:=eF .normal (UR l sc i)
 exact qL (A:=[]) mixed z (by kernel_rfl)
theorem Vy(l:Nat)(sc:List ae)(i:Int)(x:ae)(hx:fO sc i=some x):cV Pg GE [] (DR KW) (fun st=>FG st (Vt l sc i x)) ((DR KW).toList.take 6) 0 (UR l sc i):=by
 have z:=sv (Ut sc)<|sv (IQ.ia (k:=.i64) hx)<|sv (Ii x)<|en (fr (Vt l sc i x))
 exact Oj z (by kernel_rfl)
theorem Ub(l:Nat)(sc:List ae)(i:Int)(x:ae)(b:Bool):cV Pg GE [] (DR KW) (fun st=>FG st (US l sc i b)) ((DR KW).toList.drop 7) 0 (Vu l sc i x b):=by
 have z:=en (fr (US l sc i b))
 exact Oj z (by kernel_rfl)
theorem Vx(l:Nat)(sc:List ae)(i:Int)(b:Bool):aP Pg GE 0 V9 (EX .normal (bS l sc (bZ (i - 1)))) (US l sc i b):=by
 have z:=eF .normal (bS l sc (bZ (i - 1)))
 exact qL (A:=[]) mixed z (by kernel_rfl)
theorem VA(l:Nat)(sc:List ae)(i:Int):Dg (bS l sc i) 0:=Tv (by exact aI trivial<|aI (FL sc)<|aI trivial trivial) 0 rfl
theorem Um(l:Nat)(sc:List ae)(i:Int):Dg (UR l sc i) 0:=Tv (by exact aI trivial<|aI (FL sc)<|aI trivial<|aI trivial trivial) 0 rfl
theorem Un(l:Nat)(sc:List ae)(i:Int)(x:ae):Dg (Vt l sc i x) 0:=Tv (by exact aI trivial<|aI (FL sc)<|aI trivial<|aI trivial<|aI trivial<|aI (show kD 0 (aa x)from al x) trivial) 0 rfl
theorem Uo(l:Nat)(sc:List ae)(i:Int)(x:ae)(b:Bool):Dg (Vu l sc i x b) 0:=Tv (by exact aI trivial<|aI (FL sc)<|aI trivial<|aI trivial<|aI trivial<|aI (show kD 0 (aa x)from al x)<|aI trivial trivial) 0 rfl
theorem Up(l:Nat)(sc:List ae)(i:Int)(b:Bool):Dg (US l sc i b) 0:=Tv (by exact aI trivial<|aI (FL sc)<|aI trivial<|aI trivial trivial) 0 rfl
section
variable{S:Type}{step:S->ae->Option (Bool×S)}{J:Bool->S->aV->World->Prop}{l:Nat}
theorem Ud(hY:Sd Pg GE J)(hy:∀s Γ w (i:Int) x v n r,J true s Γ w->VR Γ [] w (.agg (aa x)) v->step s x=some r->YieldAt Fence.wide n Pg l #[.int .i64 i,v] w fun e w'=>∃Γ',e=.returned (.bool r.1)/\Γ.Le w Γ' w'/\J r.1 r.2 Γ' w')
  (sc:List ae) (hlen:sc.length<4611686018427387904) {s:S} {r:Bool×S} {Γ:aV} {w:World} {v:Value} {n:Nat} (hv:Rb step sc.reverse s=some r) (hJ:J true s Γ w) (hvr:VR Γ [] w (.eptr [F8 sc]) v):
  CallsIn Fence.wide n Pg Ma #[.func (.yield l) #[] #[],v] w fun e w'=>(∃u,e=.returned u)/\∃Γ',Γ.Le w Γ' w'/\J r.1 r.2 Γ' w':=by
 refine callsIn_of_wp func157 (c:=M7) rfl trivial ?_
 have h0:VG Pg J Γ w true s (aZ 19 [(0,sF l),(1,.eptr [F8 sc])] [] []) (#[.func (.yield l) #[] #[],v]++Array.replicate 17 undef) w:=by
  refine⟨Γ,hJ,.refl _ _,_,_,_,(hY.base _ _ _ _ hJ).fresh 0 (tmps:=[sF l,.eptr [F8 sc]]++List.replicate 17 .undef) (by simp) fun t q u hq hu=>?_⟩
  by_cases ht:t<2
  ·rw[vac (by simpa using ht)]at hq
   rw[vaN (by simpa using ht)]at hu
   match t,ht with
   |0,_=>simp at hq hu;subst hq;subst hu;exact .val _
   |1,_=>simp at hq hu;subst hq;subst hu;exact hvr
  ·rw[vaf (by simpa using ht),vaT]at hq
   split at hq<;>cases hq
   exact .undef u
 show M7.wpIn Fence.wide n Pg _ ⟨_,[]⟩ w
 have hret:∀{b:Bool} {s:S} {st:az} {e:Exit} {a':Act} {w':World},(e=.normal\/e=.ret)->a'.defers=[]->VG Pg J Γ w b s st a'.tmps w'->b=r.1->s=r.2->
   bodyPost Pg f157 (fun e w'=>(∃u,e=.returned u)/\∃Γ',Γ.Le w Γ' w'/\J r.1 r.2 Γ' w') e a' w':=by
  rintro b s st e a' w' he hd ⟨Γ',hJ',hle,E,bs,ow,hS⟩ rfl rfl
  obtain⟨u,e1,_⟩:=rK hS (fn:=f157) (r:=.tuple []) (by kernel_rfl)
  rcases he with rfl|rfl
  ·exact⟨hd,u,e1,⟨u,rfl⟩,Γ',hle,hJ'⟩
  ·exact⟨hd,u,e1,⟨u,rfl⟩,Γ',hle,hJ'⟩
 rw[RB]
 refine wpIn_seq (wpIn_mono (VG.piece hY (Vv l sc) (k:=0) (Tv (by exact aI trivial<|aI (FL sc) trivial) 0 rfl) h0) ?_)
 rintro e ⟨a1,ds1⟩ w1 ⟨rfl,rfl,h1⟩
 refine wpIn_block (wpIn_loop_ghost (fun k a w'=>a.defers=[]/\∃s':S,k<=sc.length/\Rb step (sc.take k).reverse s'=some r/\VG Pg J Γ w true s' (bS l sc ((k:Int) - 1)) a.tmps w') sc.length
  ⟨rfl,s,vak _,by rw[vaL];exact hv,?_⟩ ?_)
 ·rw[cP (by omega) (by omega)]at h1;exact h1
 rintro k ⟨a4,ds4⟩ w4 ⟨hd4,s',hk,hvl,h4⟩
 simp only at hd4;subst hd4
 refine wpIn_seq (wpIn_seq (wpIn_mono (VG.piece hY (Vw l sc _) (VA _ _ _) h4) ?_))
 rintro e ⟨a5,ds5⟩ w5 ⟨rfl,rfl,h5⟩
 refine wpIn_cond (h5.ev (t:=8) (x:=decide ((k:Int) - 1>=0)) rfl) ?_
 cases k with
 |zero=>
  rw[decide_eq_false (by omega)]
  refine wpIn_exit ?_
  rw[List.take_zero]at hvl
  cases hvl
  exact hret (.inl rfl) rfl h5 rfl rfl
 | succ j =>
  rw[decide_eq_true (by omega)]
  refine wpIn_skip ?_
  have hj:j<sc.length:=by omega
  rw[Q8 sc hj,Rb]at hvl
  obtain⟨q,hq,hvl⟩:=aG hvl
  have hx:fO sc (((j+1:Nat):Int) - 1)=some sc[j]:=by rw[show((j+1:Nat):Int) - 1=(j:Int)from by omega];exact dB _ _ hj
  generalize sc[j]=x at *
  refine wpIn_seq (wpIn_block (wpIn_seq (wpIn_mono (VG.reg hY S3 SZ S0 Ua T9 S1 S2 (k:=0) (kB:=0) (r:=q) (stB:=Vu l sc _ x q.1) (Um _ _ _) (Uo _ _ _ _ _) (Vy l sc _ x hx) (Ub l sc _ x q.1)
   (fun a w next Q h hn=>VG.yield2 hY (kA:=0) (i:=((j+1:Nat):Int) - 1) (Un _ _ _ _) (al x) (fun Γ w v hJ hv=>hy s' Γ w _ x v _ q hJ hv hq) (f:=11) (x:=12) (y:=16) (d:=17) rfl rfl rfl SY T8 rfl h hn) h5) ?_)))
  rintro e ⟨a6,ds6⟩ w6 ⟨rfl,rfl,h6⟩
  refine wpIn_cond (h6.ev (t:=18) (x:=!q.1) rfl) ?_
  obtain⟨q1,q2⟩:=q
  cases q1 with
  |false=>
   cases hvl
   refine wpIn_ret ?_
   exact hret (.inr rfl) rfl h6 rfl rfl
  |true=>
   refine wpIn_skip ?_
   refine wpIn_mono (VG.piece hY (Vx l sc _ true) (Up _ _ _ _) h6) ?_
   rintro e ⟨a7,ds7⟩ w7 ⟨rfl,rfl,h7⟩
   refine⟨j,by omega,rfl,q2,by omega,hvl,?_⟩
   rw[cP (by omega) (by omega)]at h7
   rw[show((j+1:Nat):Int) - 1 - 1=(j:Int) - 1 from by omega]at h7
   exact h7
end
end Go.Proofs.YtkdahfeiedaahaaGreatDoor
