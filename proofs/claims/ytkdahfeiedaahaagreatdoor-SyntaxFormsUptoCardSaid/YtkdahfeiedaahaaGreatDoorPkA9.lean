/- PROVED: a part of the proof. Conditions: none. -/
import Derived.Test.YtkdahfeiedaahaaGreatDoorPkA8
import Derived.Test.YtkdahfeiedaahaaGreatDoorChecked
import Derived.Test.YtkdahfeiedaahaaGreatDoorProg
import Derived.Ground.SlgnProg
import Derived.Shelf.Lays
import Derived.Shelf.LaysM
import Derived.Shelf.SlGeneric
import Derived.Shelf.SlLaysE0
import Derived.Test.YtkdahfeiedaahaaGreatDoorPkA7
import Derived.Shelf.Strconv.Itoa3
import Derived.RangeFuncRecord
import Derived.RangeFuncSeq
noncomputable section
namespace Go.Proofs.YtkdahfeiedaahaaGreatDoor
open Go Go.Proofs.Tryz
set_option linter.unusedVariables false
set_option maxRecDepth 100000
noncomputable abbrev Pg:=Tryz.prog
theorem mixed:Pg.follows .mixedOrders=true:=by kernel_rfl
inductive az where
 |mk (Op:Int) (Name:ah) (N:Int) (Kids:(List az))
def az.Op:az->Int
 |⟨x,_,_,_⟩=>x
def az.Name:az->ah
 |⟨_,x,_,_⟩=>x
def az.N:az->Int
 |⟨_,_,x,_⟩=>x
def az.Kids:az->(List az)
 |⟨_,_,_,x⟩=>x
mutual
def ay:az->List PVal
 |⟨x0,x1,x2,x3⟩=>[.int .i64 x0,.str x1,.int .i64 x2,.slice (Ad x3)]
def Ad:List az->List (List PVal)
 |[]=>[]
 |x::r=>ay x::Ad r
end
theorem MW:∀(l:List az),Ad l=l.map ay
 |[]=>by simp[Ad]
 |x::r=>by simp[Ad,MW r]
mutual
theorem cb:∀(x:az),mD 0 (ay x)
 |⟨x0,x1,x2,x3⟩=>by rw[ay];exact(aI trivial (aI trivial (aI trivial (aI (O2 x3) trivial))))
theorem O2:∀(l:List az),zv 0 (Ad l)
 |[]=>by simp[Ad,zv]
 |x::r=>by rw[Ad];exact⟨cb x,O2 r⟩
end
theorem fa:∀(x:az),ay x=[.int .i64 x.Op,.str x.Name,.int .i64 x.N,sl ay x.Kids]
 |⟨x0,x1,x2,x3⟩=>by
  simp only[ay,MW]
  rfl
abbrev Q8(x:az):PVal:=.agg (ay x)
theorem Jk(x:az):(ay x).length=4:=by rw[fa];rfl
theorem Ie(x:az):cQ (.agg (ay x))=some (ay x):=rfl
theorem Pr(x:az):cQ (Q8 x)=some (ay x):=rfl
theorem Fc(x:az):cQ (.agg (ay x))=some [.int .i64 x.Op,.str x.Name,.int .i64 x.N,sl ay x.Kids]:=by rw[fa];rfl
theorem Va(x:az):∀q∈ay x,q.one=true:=by
 intro q hq
 rw[fa]at hq
 simp only[vaC,vbI,or_false]at hq
 rcases hq with rfl|rfl|rfl|rfl<;>rfl
theorem X0:Pg.cellsOf 58=4:=by kernel_rfl
theorem tk(x:az):bM Pg 58 (ay x)=some (.agg (ay x)):=by
 have:=uM (P:=Pg) (t:=58) (l:=ay x) (r:=[]) (by kernel_rfl) (X0.trans (Jk x).symm)
 rwa[vbv]at this
theorem Bp(x:az)(r:List PVal):bM Pg 58 ([.int .i64 x.Op,.str x.Name,.int .i64 x.N,sl ay x.Kids]++r)=some (.agg (ay x)):=by
 rw[<-fa];exact uM (by kernel_rfl) (X0.trans (Jk x).symm)
theorem Vr(x:az):PVal.agg [.int .i64 x.Op,.str x.Name,.int .i64 x.N,sl ay x.Kids]=.agg (ay x):=by rw[fa]
theorem vg(x:az):bw Pg 58 (.eptr (ay x)) 0=some (.eptr ((ay x).drop 0)):=by rw[fa];kernel_rfl
theorem qV(x:az):bw Pg 58 (.eptr (ay x)) 1=some (.eptr ((ay x).drop 1)):=by rw[fa];kernel_rfl
theorem vj(x:az):bw Pg 58 (.eptr (ay x)) 2=some (.eptr ((ay x).drop 2)):=by rw[fa];kernel_rfl
theorem gY(x:az):bw Pg 58 (.eptr (ay x)) 3=some (.eptr ((ay x).drop 3)):=by rw[fa];kernel_rfl
theorem vp(x:az):bM Pg 55 ((ay x).drop 0)=some (.int .i64 x.Op):=by rw[fa];kernel_rfl
theorem tj(x:az):bM Pg 9 ((ay x).drop 1)=some (.str x.Name):=by rw[fa];kernel_rfl
theorem xV(x:az):bM Pg 3 ((ay x).drop 2)=some (.int .i64 x.N):=by rw[fa];kernel_rfl
theorem g5(x:az):bM Pg 56 ((ay x).drop 3)=some (sl ay x.Kids):=by rw[fa];kernel_rfl
inductive ak where
 |mk (Op:Int) (Name:ah) (Args:(List ak)) (Names:(List ah)) (Pred:az) (Preds:(List az))
def ak.Op:ak->Int
 |⟨x,_,_,_,_,_⟩=>x
def ak.Name:ak->ah
 |⟨_,x,_,_,_,_⟩=>x
def ak.Args:ak->(List ak)
 |⟨_,_,x,_,_,_⟩=>x
def ak.Names:ak->(List ah)
 |⟨_,_,_,x,_,_⟩=>x
def ak.Pred:ak->az
 |⟨_,_,_,_,x,_⟩=>x
def ak.Preds:ak->(List az)
 |⟨_,_,_,_,_,x⟩=>x
mutual
def aj:ak->List PVal
 |⟨x0,x1,x2,x3,x4,x5⟩=>[.int .i64 x0,.str x1,.slice (Ae x2),sl cS x3]++(ay x4++([sl ay x5]))
def Ae:List ak->List (List PVal)
 |[]=>[]
 |x::r=>aj x::Ae r
end
theorem MX:∀(l:List ak),Ae l=l.map aj
 |[]=>by simp[Ae]
 |x::r=>by simp[Ae,MX r]
mutual
theorem aO:∀(x:ak),mD 0 (aj x)
 |⟨x0,x1,x2,x3,x4,x5⟩=>by rw[aj];exact Gy.2 (aI ((aI trivial (aI trivial (aI (O3 x2) (aI (aw cy x3) trivial))))) (Gy.2 (aI (cb x4) ((aI (aw cb x5) trivial)))))
theorem O3:∀(l:List ak),zv 0 (Ae l)
 |[]=>by simp[Ae,zv]
 |x::r=>by rw[Ae];exact⟨aO x,O3 r⟩
end
theorem ef:∀(x:ak),aj x=[.int .i64 x.Op,.str x.Name,sl aj x.Args,sl cS x.Names,.int .i64 x.Pred.Op,.str x.Pred.Name,.int .i64 x.Pred.N,sl ay x.Pred.Kids,sl ay x.Preds]
 |⟨x0,x1,x2,x3,x4,x5⟩=>by
  simp only[aj,MX,fa,va4,vbl]
  rfl
abbrev Q9(x:ak):PVal:=.agg (aj x)
theorem Jl(x:ak):(aj x).length=9:=by rw[ef];rfl
theorem kF(x:ak):cQ (.agg (aj x))=some (aj x):=rfl
theorem Ps(x:ak):cQ (Q9 x)=some (aj x):=rfl
theorem pR(x:ak):cQ (.agg (aj x))=some [.int .i64 x.Op,.str x.Name,sl aj x.Args,sl cS x.Names,.int .i64 x.Pred.Op,.str x.Pred.Name,.int .i64 x.Pred.N,sl ay x.Pred.Kids,sl ay x.Preds]:=by rw[ef];rfl
theorem Vb(x:ak):∀q∈aj x,q.one=true:=by
 intro q hq
 rw[ef]at hq
 simp only[vaC,vbI,or_false]at hq
 rcases hq with rfl|rfl|rfl|rfl|rfl|rfl|rfl|rfl|rfl<;>rfl
theorem X1:Pg.cellsOf 60=9:=by kernel_rfl
theorem fZ(x:ak):bM Pg 60 (aj x)=some (.agg (aj x)):=by
 have:=uM (P:=Pg) (t:=60) (l:=aj x) (r:=[]) (by kernel_rfl) (X1.trans (Jl x).symm)
 rwa[vbv]at this
theorem jr(x:ak)(r:List PVal):bM Pg 60 ([.int .i64 x.Op,.str x.Name,sl aj x.Args,sl cS x.Names,.int .i64 x.Pred.Op,.str x.Pred.Name,.int .i64 x.Pred.N,sl ay x.Pred.Kids,sl ay x.Preds]++r)=some (.agg (aj x)):=by
 rw[<-ef];exact uM (by kernel_rfl) (X1.trans (Jl x).symm)
theorem Vs(x:ak):PVal.agg [.int .i64 x.Op,.str x.Name,sl aj x.Args,sl cS x.Names,.int .i64 x.Pred.Op,.str x.Pred.Name,.int .i64 x.Pred.N,sl ay x.Pred.Kids,sl ay x.Preds]=.agg (aj x):=by rw[ef]
theorem MD:cR Pg 60 []=some (.agg (aj (⟨0,([]:ah),([]:List ak),([]:List ah),(⟨0,([]:ah),0,([]:List az)⟩:az),([]:List az)⟩:ak))):=by
 simp only[ef]
 kernel_rfl
theorem MC:Ih Pg 60 [] [(2,60),(3,9),(7,58),(8,58)]:=by
 exact⟨[.int .i64 0,.str ([]:ah),.val sT,.val sT,.int .i64 0,.str ([]:ah),.int .i64 0,.val sT,.val sT],by kernel_rfl,(aI rfl (aI rfl (aI rfl (aI rfl trivial))))⟩
theorem aR(x:ak):bw Pg 60 (.eptr (aj x)) 0=some (.eptr ((aj x).drop 0)):=by rw[ef];kernel_rfl
theorem er(x:ak):bw Pg 60 (.eptr (aj x)) 1=some (.eptr ((aj x).drop 1)):=by rw[ef];kernel_rfl
theorem bO(x:ak):bw Pg 60 (.eptr (aj x)) 2=some (.eptr ((aj x).drop 2)):=by rw[ef];kernel_rfl
theorem b8(x:ak):bw Pg 60 (.eptr (aj x)) 3=some (.eptr ((aj x).drop 3)):=by rw[ef];kernel_rfl
theorem qW(x:ak):bw Pg 60 (.eptr (aj x)) 4=some (.eptr ((aj x).drop 4)):=by rw[ef];kernel_rfl
theorem je(x:ak):bw Pg 60 (.eptr (aj x)) 5=some (.eptr ((aj x).drop 8)):=by rw[ef];kernel_rfl
theorem aS(x:ak):bM Pg 54 ((aj x).drop 0)=some (.int .i64 x.Op):=by rw[ef];kernel_rfl
theorem e8(x:ak):bM Pg 9 ((aj x).drop 1)=some (.str x.Name):=by rw[ef];kernel_rfl
theorem bP(x:ak):bM Pg 26 ((aj x).drop 2)=some (sl aj x.Args):=by rw[ef];kernel_rfl
theorem b9(x:ak):bM Pg 38 ((aj x).drop 3)=some (sl cS x.Names):=by rw[ef];kernel_rfl
theorem qY(x:ak):bM Pg 58 ((aj x).drop 4)=some (.agg (ay x.Pred)):=by
 rw[ef,fa];kernel_rfl
theorem jh(x:ak):bM Pg 56 ((aj x).drop 8)=some (sl ay x.Preds):=by rw[ef];kernel_rfl
structure aA where
 Name:ah
 Type_:ak
def ax(x:aA):List PVal:=[.str x.Name]++(aj x.Type_)
theorem jq(x:aA):ax x=[.str x.Name,.int .i64 x.Type_.Op,.str x.Type_.Name,sl aj x.Type_.Args,sl cS x.Type_.Names,.int .i64 x.Type_.Pred.Op,.str x.Type_.Pred.Name,.int .i64 x.Type_.Pred.N,sl ay x.Type_.Pred.Kids,sl ay x.Type_.Preds]:=by
 unfold ax
 simp only[ef,va4,vbl]
theorem bj(x:aA):mD 0 (ax x):=by rw[jq];exact(aI trivial (aI trivial (aI trivial (aI (aw aO x.Type_.Args) (aI (aw cy x.Type_.Names) (aI trivial (aI trivial (aI trivial (aI (aw cb x.Type_.Pred.Kids) (aI (aw cb x.Type_.Preds) trivial))))))))))
abbrev EP(x:aA):PVal:=.agg (ax x)
theorem GF(x:aA):(ax x).length=10:=by rw[jq];rfl
theorem Pt(x:aA):cQ (.agg (ax x))=some (ax x):=rfl
theorem Ct(x:aA):cQ (EP x)=some (ax x):=rfl
theorem kW(x:aA):cQ (.agg (ax x))=some [.str x.Name,.int .i64 x.Type_.Op,.str x.Type_.Name,sl aj x.Type_.Args,sl cS x.Type_.Names,.int .i64 x.Type_.Pred.Op,.str x.Type_.Pred.Name,.int .i64 x.Type_.Pred.N,sl ay x.Type_.Pred.Kids,sl ay x.Type_.Preds]:=by rw[jq];rfl
theorem Tu(x:aA):∀q∈ax x,q.one=true:=by
 intro q hq
 rw[jq]at hq
 simp only[vaC,vbI,or_false]at hq
 rcases hq with rfl|rfl|rfl|rfl|rfl|rfl|rfl|rfl|rfl|rfl<;>rfl
theorem X2:Pg.cellsOf 85=10:=by kernel_rfl
theorem ym(x:aA):bM Pg 85 (ax x)=some (.agg (ax x)):=by
 have:=uM (P:=Pg) (t:=85) (l:=ax x) (r:=[]) (by kernel_rfl) (X2.trans (GF x).symm)
 rwa[vbv]at this
theorem Cn(x:aA)(r:List PVal):bM Pg 85 ([.str x.Name,.int .i64 x.Type_.Op,.str x.Type_.Name,sl aj x.Type_.Args,sl cS x.Type_.Names,.int .i64 x.Type_.Pred.Op,.str x.Type_.Pred.Name,.int .i64 x.Type_.Pred.N,sl ay x.Type_.Pred.Kids,sl ay x.Type_.Preds]++r)=some (.agg (ax x)):=by
 rw[<-jq];exact uM (by kernel_rfl) (X2.trans (GF x).symm)
theorem Nw(x:aA):PVal.agg [.str x.Name,.int .i64 x.Type_.Op,.str x.Type_.Name,sl aj x.Type_.Args,sl cS x.Type_.Names,.int .i64 x.Type_.Pred.Op,.str x.Type_.Pred.Name,.int .i64 x.Type_.Pred.N,sl ay x.Type_.Pred.Kids,sl ay x.Type_.Preds]=.agg (ax x):=by rw[jq]
theorem F2(x0:ah)(x1:ak):cR Pg 85 [(0,.str x0),(1,.agg (aj x1))]=some (.agg (ax (⟨x0,x1⟩:aA))):=by
 simp only[jq,ef]
 kernel_rfl
theorem Ke(x0:ah):cR Pg 85 [(0,.str x0)]=some (.agg (ax (⟨x0,(⟨0,([]:ah),([]:List ak),([]:List ah),(⟨0,([]:ah),0,([]:List az)⟩:az),([]:List az)⟩:ak)⟩:aA))):=by
 simp only[jq]
 kernel_rfl
theorem Kd(x0:ah):Ih Pg 85 [(0,.str x0)] [(3,60),(4,9),(8,58),(9,58)]:=by
 exact⟨[.str x0,.int .i64 0,.str ([]:ah),.val sT,.val sT,.int .i64 0,.str ([]:ah),.int .i64 0,.val sT,.val sT],by kernel_rfl,(aI rfl (aI rfl (aI rfl (aI rfl trivial))))⟩
theorem jG(x:aA):bw Pg 85 (.eptr (ax x)) 0=some (.eptr ((ax x).drop 0)):=by rw[jq];kernel_rfl
theorem jH(x:aA):bw Pg 85 (.eptr (ax x)) 1=some (.eptr ((ax x).drop 1)):=by rw[jq];kernel_rfl
theorem kU(x:aA):bM Pg 9 ((ax x).drop 0)=some (.str x.Name):=by rw[jq];kernel_rfl
theorem jI(x:aA):bM Pg 60 ((ax x).drop 1)=some (.agg (aj x.Type_)):=by
 rw[jq,ef];kernel_rfl
mutual
inductive af where
 |mk (Op:Int) (Name:ah) (N:Int) (Kids:(List af)) (Params:(List aA)) (Alts:(List aT)) (Types:(List ak))
inductive aT where
 |mk (Con:ah) (Names:(List ah)) (Body:af)
end
def af.Op:af->Int
 |⟨x,_,_,_,_,_,_⟩=>x
def af.Name:af->ah
 |⟨_,x,_,_,_,_,_⟩=>x
def af.N:af->Int
 |⟨_,_,x,_,_,_,_⟩=>x
def af.Kids:af->(List af)
 |⟨_,_,_,x,_,_,_⟩=>x
def af.Params:af->(List aA)
 |⟨_,_,_,_,x,_,_⟩=>x
def af.Alts:af->(List aT)
 |⟨_,_,_,_,_,x,_⟩=>x
def af.Types:af->(List ak)
 |⟨_,_,_,_,_,_,x⟩=>x
def aT.Con:aT->ah
 |⟨x,_,_⟩=>x
def aT.Names:aT->(List ah)
 |⟨_,x,_⟩=>x
def aT.Body:aT->af
 |⟨_,_,x⟩=>x
mutual
def ac:af->List PVal
 |⟨x0,x1,x2,x3,x4,x5,x6⟩=>[.int .i64 x0,.str x1,.int .i64 x2,.slice (Ac x3),sl ax x4,.slice (Eh x5),sl aj x6]
def aF:aT->List PVal
 |⟨x0,x1,x2⟩=>[.str x0,sl cS x1]++(ac x2)
def Ac:List af->List (List PVal)
 |[]=>[]
 |x::r=>ac x::Ac r
def Eh:List aT->List (List PVal)
 |[]=>[]
 |x::r=>aF x::Eh r
end
theorem MV:∀(l:List af),Ac l=l.map ac
 |[]=>by simp[Ac]
 |x::r=>by simp[Ac,MV r]
theorem Pd:∀(l:List aT),Eh l=l.map aF
 |[]=>by simp[Eh]
 |x::r=>by simp[Eh,Pd r]
mutual
theorem al:∀(x:af),mD 0 (ac x)
 |⟨x0,x1,x2,x3,x4,x5,x6⟩=>by rw[ac];exact(aI trivial (aI trivial (aI trivial (aI (O1 x3) (aI (aw bj x4) (aI (RD x5) (aI (aw aO x6) trivial)))))))
theorem bE:∀(x:aT),mD 0 (aF x)
 |⟨x0,x1,x2⟩=>by rw[aF];exact Gy.2 (aI ((aI trivial (aI (aw cy x1) trivial))) (al x2))
theorem O1:∀(l:List af),zv 0 (Ac l)
 |[]=>by simp[Ac,zv]
 |x::r=>by rw[Ac];exact⟨al x,O1 r⟩
theorem RD:∀(l:List aT),zv 0 (Eh l)
 |[]=>by simp[Eh,zv]
 |x::r=>by rw[Eh];exact⟨bE x,RD r⟩
end
theorem cc:∀(x:af),ac x=[.int .i64 x.Op,.str x.Name,.int .i64 x.N,sl ac x.Kids,sl ax x.Params,sl aF x.Alts,sl aj x.Types]
 |⟨x0,x1,x2,x3,x4,x5,x6⟩=>by
  simp only[ac,MV,Pd]
  rfl
abbrev rJ(x:af):PVal:=.agg (ac x)
theorem Jj(x:af):(ac x).length=7:=by rw[cc];rfl
theorem bX(x:af):cQ (.agg (ac x))=some (ac x):=rfl
theorem lI(x:af):cQ (rJ x)=some (ac x):=rfl
theorem kl(x:af):cQ (.agg (ac x))=some [.int .i64 x.Op,.str x.Name,.int .i64 x.N,sl ac x.Kids,sl ax x.Params,sl aF x.Alts,sl aj x.Types]:=by rw[cc];rfl
theorem U9(x:af):∀q∈ac x,q.one=true:=by
 intro q hq
 rw[cc]at hq
 simp only[vaC,vbI,or_false]at hq
 rcases hq with rfl|rfl|rfl|rfl|rfl|rfl|rfl<;>rfl
theorem XZ:Pg.cellsOf 28=7:=by kernel_rfl
theorem X3:Pg.cellsOf 89=9:=by kernel_rfl
theorem aX(x:af):bM Pg 28 (ac x)=some (.agg (ac x)):=by
 have:=uM (P:=Pg) (t:=28) (l:=ac x) (r:=[]) (by kernel_rfl) (XZ.trans (Jj x).symm)
 rwa[vbv]at this
theorem cz(x:af)(r:List PVal):bM Pg 28 ([.int .i64 x.Op,.str x.Name,.int .i64 x.N,sl ac x.Kids,sl ax x.Params,sl aF x.Alts,sl aj x.Types]++r)=some (.agg (ac x)):=by
 rw[<-cc];exact uM (by kernel_rfl) (XZ.trans (Jj x).symm)
theorem uN(x:af):PVal.agg [.int .i64 x.Op,.str x.Name,.int .i64 x.N,sl ac x.Kids,sl ax x.Params,sl aF x.Alts,sl aj x.Types]=.agg (ac x):=by rw[cc]
theorem HJ(x0:Int)(x1:ah):cR Pg 28 [(0,.int .i64 x0),(1,.str x1)]=some (.agg (ac (⟨x0,x1,0,([]:List af),([]:List aA),([]:List aT),([]:List ak)⟩:af))):=by
 simp only[cc]
 kernel_rfl
theorem HE(x0:Int)(x1:ah):Ih Pg 28 [(0,.int .i64 x0),(1,.str x1)] [(3,28),(4,85),(5,89),(6,60)]:=by
 exact⟨[.int .i64 x0,.str x1,.int .i64 0,.val sT,.val sT,.val sT,.val sT],by kernel_rfl,(aI rfl (aI rfl (aI rfl (aI rfl trivial))))⟩
theorem D6(x0:Int)(x1:ah)(x3:(List af)):cR Pg 28 [(0,.int .i64 x0),(1,.str x1),(3,sl ac x3)]=some (.agg (ac (⟨x0,x1,0,x3,([]:List aA),([]:List aT),([]:List ak)⟩:af))):=by
 simp only[cc]
 kernel_rfl
theorem D4(x0:Int)(x1:ah)(x3:(List af)):Ih Pg 28 [(0,.int .i64 x0),(1,.str x1),(3,sl ac x3)] [(4,85),(5,89),(6,60)]:=by
 exact⟨[.int .i64 x0,.str x1,.int .i64 0,sl ac x3,.val sT,.val sT,.val sT],by kernel_rfl,(aI rfl (aI rfl (aI rfl trivial)))⟩
theorem Qi(x0:Int)(x2:Int):cR Pg 28 [(0,.int .i64 x0),(2,.int .i64 x2)]=some (.agg (ac (⟨x0,([]:ah),x2,([]:List af),([]:List aA),([]:List aT),([]:List ak)⟩:af))):=by
 simp only[cc]
 kernel_rfl
theorem Qg(x0:Int)(x2:Int):Ih Pg 28 [(0,.int .i64 x0),(2,.int .i64 x2)] [(3,28),(4,85),(5,89),(6,60)]:=by
 exact⟨[.int .i64 x0,.str ([]:ah),.int .i64 x2,.val sT,.val sT,.val sT,.val sT],by kernel_rfl,(aI rfl (aI rfl (aI rfl (aI rfl trivial))))⟩
theorem Qj(x0:Int)(x3:(List af)):cR Pg 28 [(0,.int .i64 x0),(3,sl ac x3)]=some (.agg (ac (⟨x0,([]:ah),0,x3,([]:List aA),([]:List aT),([]:List ak)⟩:af))):=by
 simp only[cc]
 kernel_rfl
theorem Qh(x0:Int)(x3:(List af)):Ih Pg 28 [(0,.int .i64 x0),(3,sl ac x3)] [(4,85),(5,89),(6,60)]:=by
 exact⟨[.int .i64 x0,.str ([]:ah),.int .i64 0,sl ac x3,.val sT,.val sT,.val sT],by kernel_rfl,(aI rfl (aI rfl (aI rfl trivial)))⟩
theorem D7(x0:Int)(x4:(List aA))(x3:(List af)):cR Pg 28 [(0,.int .i64 x0),(4,sl ax x4),(3,sl ac x3)]=some (.agg (ac (⟨x0,([]:ah),0,x3,x4,([]:List aT),([]:List ak)⟩:af))):=by
 simp only[cc]
 kernel_rfl
theorem D5(x0:Int)(x4:(List aA))(x3:(List af)):Ih Pg 28 [(0,.int .i64 x0),(4,sl ax x4),(3,sl ac x3)] [(5,89),(6,60)]:=by
 exact⟨[.int .i64 x0,.str ([]:ah),.int .i64 0,sl ac x3,sl ax x4,.val sT,.val sT],by kernel_rfl,(aI rfl (aI rfl trivial))⟩
theorem cp(x:af):bw Pg 28 (.eptr (ac x)) 0=some (.eptr ((ac x).drop 0)):=by rw[cc];kernel_rfl
theorem dq(x:af):bw Pg 28 (.eptr (ac x)) 1=some (.eptr ((ac x).drop 1)):=by rw[cc];kernel_rfl
theorem dg(x:af):bw Pg 28 (.eptr (ac x)) 2=some (.eptr ((ac x).drop 2)):=by rw[cc];kernel_rfl
theorem a8(x:af):bw Pg 28 (.eptr (ac x)) 3=some (.eptr ((ac x).drop 3)):=by rw[cc];kernel_rfl
theorem ba(x:af):bw Pg 28 (.eptr (ac x)) 4=some (.eptr ((ac x).drop 4)):=by rw[cc];kernel_rfl
theorem aD(x:af):bw Pg 28 (.eptr (ac x)) 5=some (.eptr ((ac x).drop 5)):=by rw[cc];kernel_rfl
theorem aJ(x:af):bw Pg 28 (.eptr (ac x)) 6=some (.eptr ((ac x).drop 6)):=by rw[cc];kernel_rfl
theorem cq(x:af):bM Pg 22 ((ac x).drop 0)=some (.int .i64 x.Op):=by rw[cc];kernel_rfl
theorem d8(x:af):bM Pg 9 ((ac x).drop 1)=some (.str x.Name):=by rw[cc];kernel_rfl
theorem dH(x:af):bM Pg 3 ((ac x).drop 2)=some (.int .i64 x.N):=by rw[cc];kernel_rfl
theorem be(x:af):bM Pg 23 ((ac x).drop 3)=some (sl ac x.Kids):=by rw[cc];kernel_rfl
theorem bh(x:af):bM Pg 24 ((ac x).drop 4)=some (sl ax x.Params):=by rw[cc];kernel_rfl
theorem aE(x:af):bM Pg 25 ((ac x).drop 5)=some (sl aF x.Alts):=by rw[cc];kernel_rfl
theorem aK(x:af):bM Pg 26 ((ac x).drop 6)=some (sl aj x.Types):=by rw[cc];kernel_rfl
theorem pL:∀(x:aT),aF x=[.str x.Con,sl cS x.Names,.int .i64 x.Body.Op,.str x.Body.Name,.int .i64 x.Body.N,sl ac x.Body.Kids,sl ax x.Body.Params,sl aF x.Body.Alts,sl aj x.Body.Types]
 |⟨x0,x1,x2⟩=>by
  simp only[aF,cc,va4,vbl]
  rfl
abbrev TL(x:aT):PVal:=.agg (aF x)
theorem MZ(x:aT):(aF x).length=9:=by rw[pL];rfl
theorem Id(x:aT):cQ (.agg (aF x))=some (aF x):=rfl
theorem Sm(x:aT):cQ (TL x)=some (aF x):=rfl
theorem iV(x:aT):cQ (.agg (aF x))=some [.str x.Con,sl cS x.Names,.int .i64 x.Body.Op,.str x.Body.Name,.int .i64 x.Body.N,sl ac x.Body.Kids,sl ax x.Body.Params,sl aF x.Body.Alts,sl aj x.Body.Types]:=by rw[pL];rfl
theorem WY(x:aT):∀q∈aF x,q.one=true:=by
 intro q hq
 rw[pL]at hq
 simp only[vaC,vbI,or_false]at hq
 rcases hq with rfl|rfl|rfl|rfl|rfl|rfl|rfl|rfl|rfl<;>rfl
theorem mt(x:aT):bM Pg 89 (aF x)=some (.agg (aF x)):=by
 have:=uM (P:=Pg) (t:=89) (l:=aF x) (r:=[]) (by kernel_rfl) (X3.trans (MZ x).symm)
 rwa[vbv]at this
theorem HT(x:aT)(r:List PVal):bM Pg 89 ([.str x.Con,sl cS x.Names,.int .i64 x.Body.Op,.str x.Body.Name,.int .i64 x.Body.N,sl ac x.Body.Kids,sl ax x.Body.Params,sl aF x.Body.Alts,sl aj x.Body.Types]++r)=some (.agg (aF x)):=by
 rw[<-pL];exact uM (by kernel_rfl) (X3.trans (MZ x).symm)
theorem SA(x:aT):PVal.agg [.str x.Con,sl cS x.Names,.int .i64 x.Body.Op,.str x.Body.Name,.int .i64 x.Body.N,sl ac x.Body.Kids,sl ax x.Body.Params,sl aF x.Body.Alts,sl aj x.Body.Types]=.agg (aF x):=by rw[pL]
theorem F0(x0:ah)(x1:(List ah))(x2:af):cR Pg 89 [(0,.str x0),(1,sl cS x1),(2,.agg (ac x2))]=some (.agg (aF (⟨x0,x1,x2⟩:aT))):=by
 simp only[pL,cc]
 kernel_rfl
theorem mr(x:aT):bw Pg 89 (.eptr (aF x)) 0=some (.eptr ((aF x).drop 0)):=by rw[pL];kernel_rfl
theorem gX(x:aT):bw Pg 89 (.eptr (aF x)) 1=some (.eptr ((aF x).drop 1)):=by rw[pL];kernel_rfl
theorem pM(x:aT):bw Pg 89 (.eptr (aF x)) 2=some (.eptr ((aF x).drop 2)):=by rw[pL];kernel_rfl
theorem po(x:aT):bM Pg 9 ((aF x).drop 0)=some (.str x.Con):=by rw[pL];kernel_rfl
theorem gZ(x:aT):bM Pg 38 ((aF x).drop 1)=some (sl cS x.Names):=by rw[pL];kernel_rfl
theorem pO(x:aT):bM Pg 28 ((aF x).drop 2)=some (.agg (ac x.Body)):=by
 rw[pL,cc];kernel_rfl
structure ae where
 old:ah
 new:ah
deriving DecidableEq
def aa(x:ae):List PVal:=[.str x.old,.str x.new]
theorem yO(x:ae):aa x=[.str x.old,.str x.new]:=rfl
theorem av(x:ae):mD 0 (aa x):=(aI trivial (aI trivial trivial))
abbrev rj(x:ae):PVal:=.agg (aa x)
theorem CT(x:ae):(aa x).length=2:=by rw[yO];rfl
theorem rD(x:ae):cQ (rj x)=some (aa x):=rfl
theorem Lm(x:ae):cQ (.agg (aa x))=some [.str x.old,.str x.new]:=by rw[yO];rfl
theorem Ll(x:ae):∀q∈aa x,q.one=true:=by
 intro q hq
 rw[yO]at hq
 simp only[vaC,vbI,or_false]at hq
 rcases hq with rfl|rfl<;>rfl
theorem Wl:Pg.cellsOf 137=2:=by kernel_rfl
theorem M0(x:ae):bM Pg 137 (aa x)=some (.agg (aa x)):=by
 have:=uM (P:=Pg) (t:=137) (l:=aa x) (r:=[]) (by kernel_rfl) (Wl.trans (CT x).symm)
 rwa[vbv]at this
theorem mq(x0:ah)(x1:ah):cR Pg 137 [(0,.str x0),(1,.str x1)]=some (.agg (aa (⟨x0,x1⟩:ae))):=by
 kernel_rfl
structure au where
 n:Bool
 name:Bool
 least:Int
 most:Int
 params:Bool
 alts:Bool
 typesLeast:Int
 typesMost:Int
 types:Bool
deriving DecidableEq
def aN(x:au):List PVal:=[.bool x.n,.bool x.name,.int .i64 x.least,.int .i64 x.most,.bool x.params,.bool x.alts,.int .i64 x.typesLeast,.int .i64 x.typesMost,.bool x.types]
theorem ru(x:au):aN x=[.bool x.n,.bool x.name,.int .i64 x.least,.int .i64 x.most,.bool x.params,.bool x.alts,.int .i64 x.typesLeast,.int .i64 x.typesMost,.bool x.types]:=rfl
theorem bY(x:au):mD 0 (aN x):=(aI trivial (aI trivial (aI trivial (aI trivial (aI trivial (aI trivial (aI trivial (aI trivial (aI trivial trivial)))))))))
theorem Ji(x:au):(aN x).length=9:=by rw[ru];rfl
theorem CW(x:au):cQ (.agg (aN x))=some (aN x):=rfl
theorem cN(x:au):cQ (.agg (aN x))=some [.bool x.n,.bool x.name,.int .i64 x.least,.int .i64 x.most,.bool x.params,.bool x.alts,.int .i64 x.typesLeast,.int .i64 x.typesMost,.bool x.types]:=by rw[ru];rfl
theorem qaX:Pg.cellsOf 147=9:=by kernel_rfl
theorem Bo(x:au)(r:List PVal):bM Pg 147 ([.bool x.n,.bool x.name,.int .i64 x.least,.int .i64 x.most,.bool x.params,.bool x.alts,.int .i64 x.typesLeast,.int .i64 x.typesMost,.bool x.types]++r)=some (.agg (aN x)):=by
 rw[<-ru];exact uM (by kernel_rfl) (qaX.trans (Ji x).symm)
theorem cV(x:au):PVal.agg [.bool x.n,.bool x.name,.int .i64 x.least,.int .i64 x.most,.bool x.params,.bool x.alts,.int .i64 x.typesLeast,.int .i64 x.typesMost,.bool x.types]=.agg (aN x):=by rw[ru]
theorem HI:cR Pg 147 []=some (.agg (aN (⟨false,false,0,0,false,false,0,0,false⟩:au))):=by
 kernel_rfl
theorem HG(x0:Bool):cR Pg 147 [(0,.bool x0)]=some (.agg (aN (⟨x0,false,0,0,false,false,0,0,false⟩:au))):=by
 kernel_rfl
theorem C4(x1:Bool)(x2:Int)(x3:Int):cR Pg 147 [(1,.bool x1),(2,.int .i64 x2),(3,.int .i64 x3)]=some (.agg (aN (⟨false,x1,x2,x3,false,false,0,0,false⟩:au))):=by
 kernel_rfl
theorem qa(x1:Bool)(x2:Int)(x3:Int)(x8:Bool)(x7:Int):cR Pg 147 [(1,.bool x1),(2,.int .i64 x2),(3,.int .i64 x3),(8,.bool x8),(7,.int .i64 x7)]=some (.agg (aN (⟨false,x1,x2,x3,false,false,0,x7,x8⟩:au))):=by
 kernel_rfl
theorem Bi(x1:Bool)(x3:Int)(x8:Bool)(x7:Int):cR Pg 147 [(1,.bool x1),(3,.int .i64 x3),(8,.bool x8),(7,.int .i64 x7)]=some (.agg (aN (⟨false,x1,0,x3,false,false,0,x7,x8⟩:au))):=by
 kernel_rfl
theorem HH(x1:Bool):cR Pg 147 [(1,.bool x1)]=some (.agg (aN (⟨false,x1,0,0,false,false,0,0,false⟩:au))):=by
 kernel_rfl
theorem qh(x2:Int)(x3:Int):cR Pg 147 [(2,.int .i64 x2),(3,.int .i64 x3)]=some (.agg (aN (⟨false,false,x2,x3,false,false,0,0,false⟩:au))):=by
 kernel_rfl
theorem zu(x2:Int)(x3:Int)(x8:Bool)(x6:Int)(x7:Int):cR Pg 147 [(2,.int .i64 x2),(3,.int .i64 x3),(8,.bool x8),(6,.int .i64 x6),(7,.int .i64 x7)]=some (.agg (aN (⟨false,false,x2,x3,false,false,x6,x7,x8⟩:au))):=by
 kernel_rfl
theorem C5(x4:Bool)(x2:Int)(x3:Int):cR Pg 147 [(4,.bool x4),(2,.int .i64 x2),(3,.int .i64 x3)]=some (.agg (aN (⟨false,false,x2,x3,x4,false,0,0,false⟩:au))):=by
 kernel_rfl
theorem C6(x5:Bool)(x2:Int)(x3:Int):cR Pg 147 [(5,.bool x5),(2,.int .i64 x2),(3,.int .i64 x3)]=some (.agg (aN (⟨false,false,x2,x3,false,x5,0,0,false⟩:au))):=by
 kernel_rfl
theorem C7(x:au):bw Pg 147 (.eptr (aN x)) 1=some (.eptr ((aN x).drop 1)):=by kernel_rfl
theorem C8(x:au):bw Pg 147 (.eptr (aN x)) 2=some (.eptr ((aN x).drop 2)):=by kernel_rfl
theorem C9(x:au):bw Pg 147 (.eptr (aN x)) 3=some (.eptr ((aN x).drop 3)):=by kernel_rfl
theorem Da(x:au):bw Pg 147 (.eptr (aN x)) 4=some (.eptr ((aN x).drop 4)):=by kernel_rfl
theorem uo(x:au):bw Pg 147 (.eptr (aN x)) 5=some (.eptr ((aN x).drop 5)):=by kernel_rfl
theorem Db(x:au):bw Pg 147 (.eptr (aN x)) 6=some (.eptr ((aN x).drop 6)):=by kernel_rfl
theorem Dc(x:au):bw Pg 147 (.eptr (aN x)) 7=some (.eptr ((aN x).drop 7)):=by kernel_rfl
theorem Fx(x:au):bM Pg 4 ((aN x).drop 1)=some (.bool x.name):=by kernel_rfl
theorem Fy(x:au):bM Pg 3 ((aN x).drop 2)=some (.int .i64 x.least):=by kernel_rfl
theorem FA(x:au):bM Pg 3 ((aN x).drop 3)=some (.int .i64 x.most):=by kernel_rfl
theorem FB(x:au):bM Pg 4 ((aN x).drop 4)=some (.bool x.params):=by kernel_rfl
theorem xh(x:au):bM Pg 4 ((aN x).drop 5)=some (.bool x.alts):=by kernel_rfl
theorem FC(x:au):bM Pg 3 ((aN x).drop 6)=some (.int .i64 x.typesLeast):=by kernel_rfl
theorem FD(x:au):bM Pg 3 ((aN x).drop 7)=some (.int .i64 x.typesMost):=by kernel_rfl
structure ag where
 n:Bool
 name:Bool
 least:Int
 most:Int
 params:Bool
 alts:Bool
 types:Bool
 exactly:Bool
 ok:Bool
deriving DecidableEq
def aq(x:ag):List PVal:=[.bool x.n,.bool x.name,.int .i64 x.least,.int .i64 x.most,.bool x.params,.bool x.alts,.bool x.types,.bool x.exactly,.bool x.ok]
theorem iB(x:ag):aq x=[.bool x.n,.bool x.name,.int .i64 x.least,.int .i64 x.most,.bool x.params,.bool x.alts,.bool x.types,.bool x.exactly,.bool x.ok]:=rfl
theorem aL(x:ag):mD 0 (aq x):=(aI trivial (aI trivial (aI trivial (aI trivial (aI trivial (aI trivial (aI trivial (aI trivial (aI trivial trivial)))))))))
theorem AQ(x:ag):(aq x).length=9:=by rw[iB];rfl
theorem sD(x:ag):cQ (.agg (aq x))=some (aq x):=rfl
theorem bA(x:ag):cQ (.agg (aq x))=some [.bool x.n,.bool x.name,.int .i64 x.least,.int .i64 x.most,.bool x.params,.bool x.alts,.bool x.types,.bool x.exactly,.bool x.ok]:=by rw[iB];rfl
theorem qaY:Pg.cellsOf 177=9:=by kernel_rfl
theorem qZ(x:ag)(r:List PVal):bM Pg 177 ([.bool x.n,.bool x.name,.int .i64 x.least,.int .i64 x.most,.bool x.params,.bool x.alts,.bool x.types,.bool x.exactly,.bool x.ok]++r)=some (.agg (aq x)):=by
 rw[<-iB];exact uM (by kernel_rfl) (qaY.trans (AQ x).symm)
theorem bD(x:ag):PVal.agg [.bool x.n,.bool x.name,.int .i64 x.least,.int .i64 x.most,.bool x.params,.bool x.alts,.bool x.types,.bool x.exactly,.bool x.ok]=.agg (aq x):=by rw[iB]
theorem zt:cR Pg 177 []=some (.agg (aq (⟨false,false,0,0,false,false,false,false,false⟩:ag))):=by
 kernel_rfl
theorem xE(x8:Bool)(x0:Bool):cR Pg 177 [(8,.bool x8),(0,.bool x0)]=some (.agg (aq (⟨x0,false,0,0,false,false,false,false,x8⟩:ag))):=by
 kernel_rfl
theorem xG(x8:Bool)(x1:Bool):cR Pg 177 [(8,.bool x8),(1,.bool x1)]=some (.agg (aq (⟨false,x1,0,0,false,false,false,false,x8⟩:ag))):=by
 kernel_rfl
theorem ud(x8:Bool)(x1:Bool)(x2:Int)(x3:Int):cR Pg 177 [(8,.bool x8),(1,.bool x1),(2,.int .i64 x2),(3,.int .i64 x3)]=some (.agg (aq (⟨false,x1,x2,x3,false,false,false,false,x8⟩:ag))):=by
 kernel_rfl
theorem j3(x8:Bool)(x1:Bool)(x2:Int)(x3:Int)(x6:Bool):cR Pg 177 [(8,.bool x8),(1,.bool x1),(2,.int .i64 x2),(3,.int .i64 x3),(6,.bool x6)]=some (.agg (aq (⟨false,x1,x2,x3,false,false,x6,false,x8⟩:ag))):=by
 kernel_rfl
theorem ue(x8:Bool)(x1:Bool)(x3:Int)(x6:Bool):cR Pg 177 [(8,.bool x8),(1,.bool x1),(3,.int .i64 x3),(6,.bool x6)]=some (.agg (aq (⟨false,x1,0,x3,false,false,x6,false,x8⟩:ag))):=by
 kernel_rfl
theorem hO(x8:Bool)(x2:Int)(x3:Int):cR Pg 177 [(8,.bool x8),(2,.int .i64 x2),(3,.int .i64 x3)]=some (.agg (aq (⟨false,false,x2,x3,false,false,false,false,x8⟩:ag))):=by
 kernel_rfl
theorem sQ(x8:Bool)(x2:Int)(x3:Int)(x6:Bool)(x7:Bool):cR Pg 177 [(8,.bool x8),(2,.int .i64 x2),(3,.int .i64 x3),(6,.bool x6),(7,.bool x7)]=some (.agg (aq (⟨false,false,x2,x3,false,false,x6,x7,x8⟩:ag))):=by
 kernel_rfl
theorem uf(x8:Bool)(x4:Bool)(x2:Int)(x3:Int):cR Pg 177 [(8,.bool x8),(4,.bool x4),(2,.int .i64 x2),(3,.int .i64 x3)]=some (.agg (aq (⟨false,false,x2,x3,x4,false,false,false,x8⟩:ag))):=by
 kernel_rfl
theorem ug(x8:Bool)(x5:Bool)(x2:Int)(x3:Int):cR Pg 177 [(8,.bool x8),(5,.bool x5),(2,.int .i64 x2),(3,.int .i64 x3)]=some (.agg (aq (⟨false,false,x2,x3,false,x5,false,false,x8⟩:ag))):=by
 kernel_rfl
theorem wa(x:ag):bw Pg 177 (.eptr (aq x)) 1=some (.eptr ((aq x).drop 1)):=by kernel_rfl
theorem wb(x:ag):bw Pg 177 (.eptr (aq x)) 2=some (.eptr ((aq x).drop 2)):=by kernel_rfl
theorem wc(x:ag):bw Pg 177 (.eptr (aq x)) 3=some (.eptr ((aq x).drop 3)):=by kernel_rfl
theorem wd(x:ag):bw Pg 177 (.eptr (aq x)) 4=some (.eptr ((aq x).drop 4)):=by kernel_rfl
theorem wg(x:ag):bw Pg 177 (.eptr (aq x)) 5=some (.eptr ((aq x).drop 5)):=by kernel_rfl
theorem wh(x:ag):bw Pg 177 (.eptr (aq x)) 7=some (.eptr ((aq x).drop 7)):=by kernel_rfl
theorem xO(x:ag):bM Pg 4 ((aq x).drop 1)=some (.bool x.name):=by kernel_rfl
theorem xP(x:ag):bM Pg 3 ((aq x).drop 2)=some (.int .i64 x.least):=by kernel_rfl
theorem xQ(x:ag):bM Pg 3 ((aq x).drop 3)=some (.int .i64 x.most):=by kernel_rfl
theorem xS(x:ag):bM Pg 4 ((aq x).drop 4)=some (.bool x.params):=by kernel_rfl
theorem xT(x:ag):bM Pg 4 ((aq x).drop 5)=some (.bool x.alts):=by kernel_rfl
theorem xU(x:ag):bM Pg 4 ((aq x).drop 7)=some (.bool x.exactly):=by kernel_rfl
theorem eP:Oi Pg 23 28 ac:=⟨underlying23,fun x=>(Jj x).trans XZ.symm,by kernel_rfl,by rw[XZ];decide,by kernel_rfl,vbe (by kernel_rfl),U9,al⟩
theorem il:Oi Pg 24 85 ax:=⟨underlying24,fun x=>(GF x).trans X2.symm,by kernel_rfl,by rw[X2];decide,by kernel_rfl,vbe (by kernel_rfl),Tu,bj⟩
theorem dZ:Oi Pg 25 89 aF:=⟨underlying25,fun x=>(MZ x).trans X3.symm,by kernel_rfl,by rw[X3];decide,by kernel_rfl,vbe (by kernel_rfl),WY,bE⟩
theorem db:Oi Pg 26 60 aj:=⟨underlying26,fun x=>(Jl x).trans X1.symm,by kernel_rfl,by rw[X1];decide,by kernel_rfl,vbe (by kernel_rfl),Vb,aO⟩
theorem qbD:Pg.cellsOf 9=1:=by kernel_rfl
theorem cO:Oi Pg 38 9 cS:=⟨underlying38,fun _=>qbD.symm,by kernel_rfl,by rw[qbD];decide,by kernel_rfl,vbe (by kernel_rfl),qcJ,cy⟩
theorem qn:Oi Pg 56 58 ay:=⟨underlying56,fun x=>(Jk x).trans X0.symm,by kernel_rfl,by rw[X0];decide,by kernel_rfl,vbe (by kernel_rfl),Va,cb⟩
theorem Ny:Oi Pg 92 137 aa:=⟨underlying92,fun x=>(CT x).trans Wl.symm,by kernel_rfl,by rw[Wl];decide,by kernel_rfl,vbe (by kernel_rfl),Ll,av⟩
theorem qdd:Pg.cellsOf 5=1:=by kernel_rfl
theorem qbH:(Pg.underlying 4).any SE=true:=by kernel_rfl
theorem GS:(Pg.underlying 9).any SE=true:=by kernel_rfl
theorem Lo:(Pg.underlying 92).any SE=true:=by kernel_rfl
theorem qcW:JO Pg 4=some (PVal.bool false):=by kernel_rfl
theorem qdX:gT Pg 3=some [.int .i64 0]:=by kernel_rfl
theorem qdi:gT Pg 4=some [.bool false]:=by kernel_rfl
theorem BJ:gT Pg 28=some [.int .i64 0,.str ([]:ah),.int .i64 0,sl ac ([]:List af),sl ax ([]:List aA),sl aF ([]:List aT),sl aj ([]:List ak)]:=by kernel_rfl
theorem qcM:gT Pg 35=some [.int .i64 0]:=by kernel_rfl
theorem qcN:gT Pg 38=some [sl cS ([]:List ah)]:=by kernel_rfl
theorem Ys:gT Pg 58=some [.int .i64 0,.str ([]:ah),.int .i64 0,sl ay ([]:List az)]:=by kernel_rfl
theorem QY:gT Pg 60=some [.int .i64 0,.str ([]:ah),sl aj ([]:List ak),sl cS ([]:List ah),.int .i64 0,.str ([]:ah),.int .i64 0,sl ay ([]:List az),sl ay ([]:List az)]:=by kernel_rfl
theorem Sv:gT Pg 85=some [.str ([]:ah),.int .i64 0,.str ([]:ah),sl aj ([]:List ak),sl cS ([]:List ah),.int .i64 0,.str ([]:ah),.int .i64 0,sl ay ([]:List az),sl ay ([]:List az)]:=by kernel_rfl
theorem Ip:gT Pg 89=some [.str ([]:ah),sl cS ([]:List ah),.int .i64 0,.str ([]:ah),.int .i64 0,sl ac ([]:List af),sl ax ([]:List aA),sl aF ([]:List aT),sl aj ([]:List ak)]:=by kernel_rfl
theorem qbn:gT Pg 91=some [.val .nilFunc]:=by kernel_rfl
theorem qbo:gT Pg 92=some [sl aa ([]:List ae)]:=by kernel_rfl
theorem qbp:gT Pg 95=some [.val .nilFunc,.val .nilFunc]:=by kernel_rfl
theorem qbl:gT Pg 109=some [.val (.pointer none)]:=by kernel_rfl
theorem qbm:gT Pg 112=some [.val .nilFunc]:=by kernel_rfl
theorem YK:gT Pg 147=some [.bool false,.bool false,.int .i64 0,.int .i64 0,.bool false,.bool false,.int .i64 0,.int .i64 0,.bool false]:=by kernel_rfl
theorem YL:gT Pg 177=some [.bool false,.bool false,.int .i64 0,.int .i64 0,.bool false,.bool false,.bool false,.bool false,.bool false]:=by kernel_rfl
def mJ:List Int:=[1,10,100,1000,10000,100000,1000000,10000000,100000000,1000000000,10000000000,100000000000,1000000000000,10000000000000,100000000000000,1000000000000000,10000000000000000,100000000000000000,1000000000000000000,10000000000000000000]
theorem qa0:Pg.cellsOf 216=20:=by kernel_rfl
theorem qaZ:Pg.cellsOf 201=1:=by kernel_rfl
def dJ:List ah:=[([97,110,100]:ah),([97,115,115,117,109,101]:ah),([98,111,111,108]:ah),([98,111,117,110,100]:ah),([99,97,115,101]:ah),([99,101,108,108]:ah),([99,108,97,115,115]:ah),([100,97,116,97]:ah),([100,101,102]:ah),([100,105,118]:ah),([101,108,115,101]:ah),([101,110,100]:ah),([102,97,108,115,101]:ah),([102,111,114,97,108,108]:ah),([102,117,110]:ah),([103,101,116]:ah),([105,102]:ah),([105,110]:ah),([105,110,115,116]:ah),([105,110,116]:ah),([105,110,118,97,114,105,97,110,116]:ah),([108,101,116]:ah),([109,97,116,99,104]:ah),([109,101,97,115,117,114,101]:ah),([109,101,116,114,105,99]:ah),([109,111,100]:ah),([109,117]:ah),([110,101,119]:ah),([110,111,116]:ah),([111,102]:ah),([111,114]:ah),([113,117,97,108]:ah),([114,101,102,108,101,99,116]:ah),([115,101,116]:ah),([116,104,101,110]:ah),([116,114,117,101]:ah),([117,115,101]:ah),([118]:ah),([118,97,108]:ah),([116,97,103]:ah),([119,104,101,114,101]:ah),([119,105,116,104]:ah)]
theorem qa1:Pg.cellsOf 218=42:=by kernel_rfl
theorem Af:bM Pg 218 (dJ.map PVal.str)=some (.agg (dJ.map PVal.str)):=by kernel_rfl
theorem H4{k:IntKind}{i:Int}{x:ah}(h:fy dJ i=some x):Cu Pg 218 (.agg (dJ.map PVal.str)) (.int k i)=some (PVal.str x):=qat underlying218 qbD (by kernel_rfl) (by kernel_rfl) (by kernel_rfl) h
def Bt:List Int:=[0,1,28,2,29,14,24,3,30,22,20,15,25,17,4,8,31,27,13,23,21,19,16,7,26,12,18,6,11,5,10,9]
theorem qa2:Pg.cellsOf 223=32:=by kernel_rfl
def Bu:List Int:=[0,1,56,2,57,49,28,3,61,58,42,50,38,29,17,4,62,47,59,36,45,43,51,22,53,39,33,30,24,18,12,5,63,55,48,27,60,41,37,16,46,35,44,21,52,32,23,11,54,26,40,15,34,20,31,10,25,14,19,9,13,8,7,6]
theorem qa3:Pg.cellsOf 224=64:=by kernel_rfl
def GE:List (Nat×List PVal):=[(0,mJ.map (PVal.int .u64)),(1,dJ.map PVal.str),(2,Bt.map (PVal.int .u8)),(3,Bu.map (PVal.int .u8))]
theorem aY(A:List Nat){m:Nat}{c:Code}{sc:List It}{F:Prop}{e0:Exit}{st0 st:aB}(h:PS sc F)(he:F=A7 Pg GE A m c sc st (FN e0 st0)):aU Pg GE m c (EX e0 st0) st:=uK mixed h he
theorem wv(A:List Nat){m:Nat}{c:Code}{sc:List It}{F:Prop}{σ X:Type}{S:σ->aB}{ex:X->Exit}{so:X->aB}{s:σ}{st:aB}(h:PS sc F)(he:F=A7 Pg GE A m c sc st (FN .normal (S s))):aU Pg GE m c (LQ S ex so (.inl s)) st:=qbe mixed h he
theorem gu(A:List Nat){m:Nat}{c:Code}{sc:List It}{F:Prop}{σ X:Type}{S:σ->aB}{ex:X->Exit}{so:X->aB}{x:X}{st:aB}(hn:ex x≠.normal)(h:PS sc F)(he:F=A7 Pg GE A m c sc st (FN (ex x) (so x))):aU Pg GE m c (LQ S ex so (.inr x)) st:=qbi mixed hn h he
theorem bI(A:List Nat){f:FuncId}{fn:Func}{c:Code}{args:List PVal}{r:PVal}{ro:List (Nat×TypeId)}(hcall:∀vs w,(callFunc f vs).run Pg w=.ok (.enter f vs) w)(hfn:Pg.funcs[f]? =some fn)(hb:fn.body=some c)(hcl:mD 0 args){sc:List It}{F:Prop}(h:PS sc F)(he:F=A7 Pg GE A 0 c sc ⟨args++List.replicate (fn.ntmps - args.length) .undef,[],[]⟩ (FR Pg fn.results.toList r ro)):CC Pg GE f args r ro:=C.evp mixed hcall hfn hb hcl h he
abbrev waA:=List ah
abbrev waB:=List ak
abbrev waC:=List aT
abbrev waD:=List af
abbrev waE:=List aA
abbrev waF:=List az
theorem RY:∀n,(∀l,Sh Pg n 58 l->∃x,l=ay x):=by
 intro n
 induction n using Nat.strongRecOn with
 | ind n ih =>
  cases n with
  |zero=>exact fun l h=>h.elim
  | succ n =>
   exact fun l h=>by
    unfold Sh at h
    rw[underlying58]at h
    obtain⟨a0,b0,rfl,_,h0,a1,b1,rfl,_,h1,a2,b2,rfl,_,h2,a3,b3,rfl,_,h3,rfl⟩:=h
    obtain⟨x0,rfl⟩:=(WC underlying55) n _ h0
    obtain⟨x1,rfl⟩:=(Ti underlying9) n _ h1
    obtain⟨x2,rfl⟩:=(WC underlying3) n _ h2
    obtain⟨x3,rfl⟩:=RW underlying56 (c:=ay) (fun m hm=>(ih m (by omega))) _ h3
    exact⟨(⟨x0,x1,x2,x3⟩:az),by rw[fa];rfl⟩
theorem RZ:∀n,(∀l,Sh Pg n 60 l->∃x,l=aj x):=by
 intro n
 induction n using Nat.strongRecOn with
 | ind n ih =>
  cases n with
  |zero=>exact fun l h=>h.elim
  | succ n =>
   exact fun l h=>by
    unfold Sh at h
    rw[underlying60]at h
    obtain⟨a0,b0,rfl,_,h0,a1,b1,rfl,_,h1,a2,b2,rfl,_,h2,a3,b3,rfl,_,h3,a4,b4,rfl,_,h4,a5,b5,rfl,_,h5,rfl⟩:=h
    obtain⟨x0,rfl⟩:=(WC underlying54) n _ h0
    obtain⟨x1,rfl⟩:=(Ti underlying9) n _ h1
    obtain⟨x2,rfl⟩:=RW underlying26 (c:=aj) (fun m hm=>(ih m (by omega))) _ h2
    obtain⟨x3,rfl⟩:=(WD underlying38 (Ti underlying9)) n _ h3
    obtain⟨x4,rfl⟩:=RY n _ h4
    obtain⟨x5,rfl⟩:=(WD underlying56 RY) n _ h5
    exact⟨(⟨x0,x1,x2,x3,x4,x5⟩:ak),by rw[ef];(try simp only[fa]);rfl⟩
theorem UZ:∀n,(∀l,Sh Pg n 85 l->∃x,l=ax x):=by
 intro n
 induction n using Nat.strongRecOn with
 | ind n ih =>
  cases n with
  |zero=>exact fun l h=>h.elim
  | succ n =>
   exact fun l h=>by
    unfold Sh at h
    rw[underlying85]at h
    obtain⟨a0,b0,rfl,_,h0,a1,b1,rfl,_,h1,rfl⟩:=h
    obtain⟨x0,rfl⟩:=(Ti underlying9) n _ h0
    obtain⟨x1,rfl⟩:=RZ n _ h1
    exact⟨(⟨x0,x1⟩:aA),by rw[jq];(try simp only[ef]);(try simp only[fa]);rfl⟩
theorem Qy:∀n,(∀l,Sh Pg n 28 l->∃x,l=ac x)/\(∀l,Sh Pg n 89 l->∃x,l=aF x):=by
 intro n
 induction n using Nat.strongRecOn with
 | ind n ih =>
  cases n with
  |zero=>exact⟨fun l h=>h.elim,fun l h=>h.elim⟩
  | succ n =>
   exact⟨(fun l h=>by
    unfold Sh at h
    rw[underlying28]at h
    obtain⟨a0,b0,rfl,_,h0,a1,b1,rfl,_,h1,a2,b2,rfl,_,h2,a3,b3,rfl,_,h3,a4,b4,rfl,_,h4,a5,b5,rfl,_,h5,a6,b6,rfl,_,h6,rfl⟩:=h
    obtain⟨x0,rfl⟩:=(WC underlying22) n _ h0
    obtain⟨x1,rfl⟩:=(Ti underlying9) n _ h1
    obtain⟨x2,rfl⟩:=(WC underlying3) n _ h2
    obtain⟨x3,rfl⟩:=RW underlying23 (c:=ac) (fun m hm=>(ih m (by omega)).1) _ h3
    obtain⟨x4,rfl⟩:=(WD underlying24 UZ) n _ h4
    obtain⟨x5,rfl⟩:=RW underlying25 (c:=aF) (fun m hm=>(ih m (by omega)).2) _ h5
    obtain⟨x6,rfl⟩:=(WD underlying26 RZ) n _ h6
    exact⟨(⟨x0,x1,x2,x3,x4,x5,x6⟩:af),by rw[cc];rfl⟩),(fun l h=>by
    unfold Sh at h
    rw[underlying89]at h
    obtain⟨a0,b0,rfl,_,h0,a1,b1,rfl,_,h1,a2,b2,rfl,_,h2,rfl⟩:=h
    obtain⟨x0,rfl⟩:=(Ti underlying9) n _ h0
    obtain⟨x1,rfl⟩:=(WD underlying38 (Ti underlying9)) n _ h1
    obtain⟨x2,rfl⟩:=(ih n (vcx n)).1 _ h2
    exact⟨(⟨x0,x1,x2⟩:aT),by rw[pL];(try simp only[cc]);rfl⟩)⟩
theorem RX:In Pg 28 ac:=fun n=>(Qy n).1
end Go.Proofs.YtkdahfeiedaahaaGreatDoor
namespace Go.Proofs
open Go.Shelf
noncomputable def Tryz.laysM171_ren : Go.Shelf.Ren := ⟨fun | 171 => 98 | 243 => 134 | 246 => 156 | 283 => 182 | 284 => 183 | 285 => 184 | 286 => 185 | 129 => 181 | 317 => 202 | 318 => 203 | 319 => 204 | 320 => 205 | 337 => 212 | 338 => 213 | n => n, fun | 3 => 3 | 9 => 9 | 2 => 2 | 4 => 4 | 171 => 202 | 0 => 0 | 53 => 201 | 37 => 169 | 5 => 5 | 173 => 204 | 212 => 216 | 51 => 199 | 20 => 20 | 213 => 217 | 46 => 182 | 232 => 223 | 233 => 224 | n => n, fun | 17 => 0 | 18 => 2 | 19 => 3 | n => n⟩
theorem Tryz.laysM171 : Go.Proofs.LaysM.n171 Tryz.prog Tryz.laysM171_ren := {
 mixed := by kernel_rfl
 f129 := Tryz.func181.trans (congrArg some (by kernel_rfl))
 f171 := Tryz.func98.trans (congrArg some (by kernel_rfl))
 f243 := Tryz.func134.trans (congrArg some (by kernel_rfl))
 f246 := Tryz.func156.trans (congrArg some (by kernel_rfl))
 f283 := Tryz.func182.trans (congrArg some (by kernel_rfl))
 f284 := Tryz.func183.trans (congrArg some (by kernel_rfl))
 f285 := Tryz.func184.trans (congrArg some (by kernel_rfl))
 f286 := Tryz.func185.trans (congrArg some (by kernel_rfl))
 f317 := Tryz.func202.trans (congrArg some (by kernel_rfl))
 f318 := Tryz.func203.trans (congrArg some (by kernel_rfl))
 f319 := Tryz.func204.trans (congrArg some (by kernel_rfl))
 f320 := Tryz.func205.trans (congrArg some (by kernel_rfl))
 f337 := Tryz.func212.trans (congrArg some (by kernel_rfl))
 f338 := Tryz.func213.trans (congrArg some (by kernel_rfl))
 t0 := Tryz.underlying0
 a0 := Tryz.isAgg0
 z0 := Tryz.sizeOf0
 v0 := Tryz.zeroValue0
 t2 := Tryz.underlying2
 a2 := Tryz.isAgg2
 z2 := Tryz.sizeOf2
 v2 := Tryz.zeroValue2
 t3 := Tryz.underlying3
 a3 := Tryz.isAgg3
 z3 := Tryz.sizeOf3
 v3 := Tryz.zeroValue3
 t4 := Tryz.underlying4
 a4 := Tryz.isAgg4
 z4 := Tryz.sizeOf4
 v4 := Tryz.zeroValue4
 t5 := Tryz.underlying5
 a5 := Tryz.isAgg5
 z5 := Tryz.sizeOf5
 v5 := Tryz.zeroValue5
 t9 := Tryz.underlying9
 a9 := Tryz.isAgg9
 z9 := Tryz.sizeOf9
 v9 := Tryz.zeroValue9
 t20 := Tryz.underlying20
 a20 := Tryz.isAgg20
 z20 := Tryz.sizeOf20
 v20 := Tryz.zeroValue20
 t37 := Tryz.underlying169
 a37 := Tryz.isAgg169
 z37 := Tryz.sizeOf169
 v37 := Tryz.zeroValue169
 t46 := Tryz.underlying182
 a46 := Tryz.isAgg182
 z46 := Tryz.sizeOf182
 v46 := Tryz.zeroValue182
 t51 := Tryz.underlying199
 a51 := Tryz.isAgg199
 z51 := Tryz.sizeOf199
 v51 := Tryz.zeroValue199
 t53 := Tryz.underlying201
 a53 := Tryz.isAgg201
 z53 := Tryz.sizeOf201
 v53 := Tryz.zeroValue201
 t171 := Tryz.underlying202
 a171 := Tryz.isAgg202
 z171 := Tryz.sizeOf202
 v171 := Tryz.zeroValue202
 t173 := Tryz.underlying204
 a173 := Tryz.isAgg204
 z173 := Tryz.sizeOf204
 v173 := Tryz.zeroValue204
 t212 := Tryz.underlying216
 a212 := Tryz.isAgg216
 z212 := Tryz.sizeOf216
 v212 := Tryz.zeroValue216
 t213 := Tryz.underlying217
 a213 := Tryz.isAgg217
 z213 := Tryz.sizeOf217
 t232 := Tryz.underlying223
 a232 := Tryz.isAgg223
 z232 := Tryz.sizeOf223
 v232 := Tryz.zeroValue223
 t233 := Tryz.underlying224
 a233 := Tryz.isAgg224
 z233 := Tryz.sizeOf224
 v233 := Tryz.zeroValue224
 g17 := by kernel_rfl
 g18 := by kernel_rfl
 g19 := by kernel_rfl
 i0 := by kernel_rfl
 i2 := by kernel_rfl
 i3 := by kernel_rfl
 i4 := by kernel_rfl
 i5 := by kernel_rfl
 i9 := by kernel_rfl
 i20 := by kernel_rfl
 i37 := by kernel_rfl
 i46 := by kernel_rfl
 i51 := by kernel_rfl
 i53 := by kernel_rfl
 i171 := by kernel_rfl
 i173 := by kernel_rfl
 i212 := by kernel_rfl
 i232 := by kernel_rfl
 i233 := by kernel_rfl
 m17 := by kernel_rfl
 m18 := by kernel_rfl
 m19 := by kernel_rfl }
noncomputable def Tryz.lays190_ren : Go.Shelf.Ren := ⟨fun | 190 => 127 | 125 => 154 | 258 => 153 | 128 => 180 | 129 => 181 | 302 => 171 | 303 => 172 | 304 => 173 | 305 => 174 | 306 => 175 | 307 => 176 | 308 => 177 | 309 => 178 | 310 => 179 | 333 => 196 | 329 => 197 | 330 => 198 | 334 => 199 | 335 => 200 | 336 => 201 | 344 => 211 | n => n, fun | 31 => 38 | 9 => 9 | 3 => 3 | 46 => 182 | 0 => 0 | 51 => 199 | 53 => 201 | 4 => 4 | 183 => 191 | 182 => 190 | 131 => 196 | 5 => 5 | 218 => 208 | 222 => 212 | 228 => 219 | 229 => 220 | n => n, fun | n => n⟩
theorem Tryz.lays190 : Go.Proofs.Lays.n190 Tryz.prog Tryz.lays190_ren := {
 mixed := by kernel_rfl
 f125 := Tryz.func154.trans (congrArg some (by kernel_rfl))
 f128 := Tryz.func180.trans (congrArg some (by kernel_rfl))
 f129 := Tryz.func181.trans (congrArg some (by kernel_rfl))
 f190 := Tryz.func127.trans (congrArg some (by kernel_rfl))
 f258 := Tryz.func153.trans (congrArg some (by kernel_rfl))
 f302 := Tryz.func171.trans (congrArg some (by kernel_rfl))
 f303 := Tryz.func172.trans (congrArg some (by kernel_rfl))
 f304 := Tryz.func173.trans (congrArg some (by kernel_rfl))
 f305 := Tryz.func174.trans (congrArg some (by kernel_rfl))
 f306 := Tryz.func175.trans (congrArg some (by kernel_rfl))
 f307 := Tryz.func176.trans (congrArg some (by kernel_rfl))
 f308 := Tryz.func177.trans (congrArg some (by kernel_rfl))
 f309 := Tryz.func178.trans (congrArg some (by kernel_rfl))
 f310 := Tryz.func179.trans (congrArg some (by kernel_rfl))
 f329 := Tryz.func197.trans (congrArg some (by kernel_rfl))
 f330 := Tryz.func198.trans (congrArg some (by kernel_rfl))
 f333 := Tryz.func196.trans (congrArg some (by kernel_rfl))
 f334 := Tryz.func199.trans (congrArg some (by kernel_rfl))
 f335 := Tryz.func200.trans (congrArg some (by kernel_rfl))
 f336 := Tryz.func201.trans (congrArg some (by kernel_rfl))
 f344 := Tryz.func211.trans (congrArg some (by kernel_rfl))
 t0 := Tryz.underlying0
 a0 := Tryz.isAgg0
 z0 := Tryz.sizeOf0
 v0 := Tryz.zeroValue0
 t3 := Tryz.underlying3
 a3 := Tryz.isAgg3
 z3 := Tryz.sizeOf3
 v3 := Tryz.zeroValue3
 t4 := Tryz.underlying4
 a4 := Tryz.isAgg4
 z4 := Tryz.sizeOf4
 v4 := Tryz.zeroValue4
 t5 := Tryz.underlying5
 a5 := Tryz.isAgg5
 z5 := Tryz.sizeOf5
 v5 := Tryz.zeroValue5
 t9 := Tryz.underlying9
 a9 := Tryz.isAgg9
 z9 := Tryz.sizeOf9
 v9 := Tryz.zeroValue9
 t31 := Tryz.underlying38
 a31 := Tryz.isAgg38
 z31 := Tryz.sizeOf38
 v31 := Tryz.zeroValue38
 t46 := Tryz.underlying182
 a46 := Tryz.isAgg182
 z46 := Tryz.sizeOf182
 v46 := Tryz.zeroValue182
 t51 := Tryz.underlying199
 a51 := Tryz.isAgg199
 z51 := Tryz.sizeOf199
 v51 := Tryz.zeroValue199
 t53 := Tryz.underlying201
 a53 := Tryz.isAgg201
 z53 := Tryz.sizeOf201
 v53 := Tryz.zeroValue201
 t131 := Tryz.underlying196
 a131 := Tryz.isAgg196
 z131 := Tryz.sizeOf196
 v131 := Tryz.zeroValue196
 t182 := Tryz.underlying190
 a182 := Tryz.isAgg190
 z182 := Tryz.sizeOf190
 v182 := Tryz.zeroValue190
 t183 := Tryz.underlying191
 a183 := Tryz.isAgg191
 z183 := Tryz.sizeOf191
 v183 := Tryz.zeroValue191
 t218 := Tryz.underlying208
 a218 := Tryz.isAgg208
 z218 := Tryz.sizeOf208
 v218 := Tryz.zeroValue208
 t222 := Tryz.underlying212
 a222 := Tryz.isAgg212
 z222 := Tryz.sizeOf212
 v222 := Tryz.zeroValue212
 t228 := Tryz.underlying219
 a228 := Tryz.isAgg219
 z228 := Tryz.sizeOf219
 v228 := Tryz.zeroValue219
 t229 := Tryz.underlying220
 a229 := Tryz.isAgg220
 z229 := Tryz.sizeOf220
 v229 := Tryz.zeroValue220 }
noncomputable def Tryz.lc104_ren : Go.Shelf.Ren := ⟨fun | 41 => 104 | n => n, fun | 22 => 92 | 23 => 137 | 4 => 4 | n => n, fun | n => n⟩
theorem Tryz.lc104 : Go.Proofs.SlLaysE0.n41 Tryz.prog Tryz.lc104_ren := {
 mixed := by kernel_rfl
 f41 := ⟨Tryz.f104.name, by decide, Tryz.func104.trans (congrArg some (by kernel_rfl))⟩
 t4 := Tryz.underlying4
 a4 := Tryz.isAgg4
 z4 := Tryz.sizeOf4
 v4 := Tryz.zeroValue4
 t22 := Tryz.underlying92
 a22 := Tryz.isAgg92
 z22 := Tryz.sizeOf92
 v22 := Tryz.zeroValue92 }
noncomputable def Tryz.lc125_ren : Go.Shelf.Ren := ⟨fun | 41 => 125 | n => n, fun | 22 => 38 | 23 => 9 | 4 => 4 | n => n, fun | n => n⟩
theorem Tryz.lc125 : Go.Proofs.SlLaysE0.n41 Tryz.prog Tryz.lc125_ren := {
 mixed := by kernel_rfl
 f41 := ⟨Tryz.f125.name, by decide, Tryz.func125.trans (congrArg some (by kernel_rfl))⟩
 t4 := Tryz.underlying4
 a4 := Tryz.isAgg4
 z4 := Tryz.sizeOf4
 v4 := Tryz.zeroValue4
 t22 := Tryz.underlying38
 a22 := Tryz.isAgg38
 z22 := Tryz.sizeOf38
 v22 := Tryz.zeroValue38 }
end Go.Proofs
namespace Go.Proofs.YtkdahfeiedaahaaGreatDoor
open Go Go.Proofs.Tryz
set_option linter.unusedVariables false
set_option maxRecDepth 100000
theorem S7:ww Pg 104 137:=O4 Tryz.lc104 rfl rfl (by kernel_rfl) call104
theorem z7{l r:List ae}(h:wI l=some r):CC Pg GE 104 [sl aa l] (sl aa r) [(0,137)]:=Ny.cloneCC S7 h
theorem S8:ww Pg 125 9:=O4 Tryz.lc125 rfl rfl (by kernel_rfl) call125
theorem Ea{l r:List ah}(h:wI l=some r):CC Pg GE 125 [sl cS l] (sl cS r) [(0,9)]:=cO.cloneCC S8 h
def YG(n:Int):Option ah:=if(decide (-9223372036854775808<=n)&&decide (n<=9223372036854775807))=true then some (Lib.itoa n)else none
theorem Xf:mJ=Lib.pow10Tab:=by kernel_rfl
theorem Ya{n:Int}{r:ah}(h:YG n=some r):CC Pg GE 98 [.int .i64 n] (.str r) []:=by
 rcases aH h with⟨b,h⟩|⟨b,h⟩
 ·obtain rfl:=lf h
  simp only[vad,vak]at b
  refine CC.grownIS call98 fun E Γ bs ow w a st hE hS=>?_
  have htab:Lib.TabIs Pg w "internal/strconv.uint64pow10" .u64 Lib.pow10Tab:=ZF hS (g:=0) (by rw[hE,←Xf];simp[GE]) (by kernel_rfl)
  refine(Any.strconv_Itoa Tryz.laysM171 n b.1 b.2 w htab).mono fun e w' he=>?_
  obtain⟨rfl,k,os,rfl⟩:=he
  exact⟨rfl,.of_grow _ _ _⟩
 ·cases h
open Go
abbrev I9(GE:List (Nat×List PVal))(Γ:bv)(w:World):uc:=⟨GE,Γ,w,fun _=>False⟩
structure NP(GE:List (Nat×List PVal))(Γ:bv)(w:World):Prop where
 wi:∀b n,Γ b=some n->∃c t fr,w.heap[b]? =some (.cells c t fr)/\n<=c.size
 gl:∀g cs,(g,cs)∈GE->VR Γ [] w (.eptr cs) (.pointer (some ⟨g,0,none⟩))
 gc:∀g cs,(g,cs)∈GE->mD 0 cs
 gx:∀g cs,(g,cs)∈GE->g<w.heap.size/\∃c t fr,w.heap[g]? =some (.cells c t fr)/\c.size=cs.length
theorem VR.clo{Γ:bv}{bs bs':bQ}{w:World}{p:PVal}{v:Value}(h:VR Γ bs w p v)(hc:p.cl 0):VR Γ bs' w p v:=h.restrict (n:=0) hc fun i b hi _=>absurd hi (vaG _)
section
variable{P:Program}{E:uc}{Γ:bv}{bs:bQ}{ow:Nat->Option nQ}{w:World}{a:Array Value}{st:aB}
theorem SR.base(h:SR P E Γ bs ow w a st):NP E.GE Γ w where
 wi:=h.wi
 gl:=fun g cs hg=>(h.gl g cs hg).clo (by simp only[PVal.cl];exact h.gc g cs hg)
 gc:=h.gc
 gx:=fun g cs hg=>⟨(h.gnow hg).1,(h.gnow hg).2.2.2⟩
theorem NP.good{GE:List (Nat×List PVal)}(hB:NP GE Γ w):xe GE 0 (I9 GE Γ w) where
 ge:=rfl
 low:=fun b n h=>by obtain⟨c,t,fr,h1,_⟩:=hB.wi b n h;exact(vae.1 h1).1
 nt:=fun _ _ hb=>hb
 gl:=hB.gl
theorem NP.fresh{GE:List (Nat×List PVal)}(hB:NP GE Γ w)(k:Nat){tmps:List PVal}(hs:a.size=tmps.length)(hv:∀(t:Nat) p v,tmps[t]? =some p->a[t]? =some v->VR Γ [] w p v):SR P (I9 GE Γ w) Γ (List.replicate k none) (fun _=>none) w a ⟨tmps,List.replicate k .dead,[]⟩:=by
 have hno:∀(i b:Nat),(List.replicate k (none:Option Nat))[i]? =some (some b)->False:=fun i b h=>by
  rw[vaV]at h
  split at h<;>simp at h
 exact{
  wi:=hB.wi
  sz:=hs
  tm:=fun t p v hp hv'=>(hv t p v hp hv').mono (.refl _ _) (fun i b h=>by simp at h)
  bl:=by simp
  bx:=fun i b B hb=>(hno i b hb).elim
  inj:=fun i j b hb=>(hno i b hb).elim
  bn:=fun i b hb=>(hno i b hb).elim
  on:=fun b L hL=>by cases hL
  ot:=fun t k e he=>by simp at he
  ob:=fun i j e cs own b _ _ hb=>(hno i b hb).elim
  gl:=fun g cs hg=>(hB.gl g cs hg).mono (.refl _ _) (fun i b h=>by simp at h)
  gc:=hB.gc
  gx:=fun g cs hg=>⟨(hB.gx g cs hg).1,fun h=>h,(hB.gx g cs hg).2⟩
  step:=.refl _ _ _ _}
theorem SR.again(h:SR P E Γ bs ow w a st)(hc:mD 0 st.tmps){GE:List (Nat×List PVal)}{Γ':bv}{w':World}(hB:NP GE Γ' w')(hle:Γ.Le w Γ' w')(k:Nat):SR P (I9 GE Γ' w') Γ' (List.replicate k none) (fun _=>none) w' a ⟨st.tmps,List.replicate k .dead,[]⟩:=
 hB.fresh k h.sz fun t p v hp hv=>((h.tm t p v hp hv).clo (rr hc hp)).mono hle (.refl _)
theorem SR.aside(h:SR P E Γ bs ow w a st){GE:List (Nat×List PVal)}{Γ':bv}{bs':bQ}{ow':Nat->Option nQ}{w':World}{a':Array Value}{st':aB}(h':SR P (I9 GE Γ w) Γ' bs' ow' w' a' st'):SR P E Γ' bs ow w' a st:=
 h.world (fun _=>False) h'.step.le h'.wi h'.step.os h'.step.tape h'.step.output h'.step.size (fun b hb _=>h'.step.keep b hb id) (fun _ hx=>hx.elim) (fun _ _ _ hx=>hx) (fun _ _ _ hx=>hx) h'.step.drawn
theorem SR.putOther(h:SR P E Γ bs ow w a st){l:Nat}{o:Obj}(hT:¬bG bs ow l)(hE:E.T l\/E.w.heap.size<=l)(ho:∀c t fr,w.heap[l]? ≠some (.cells c t fr)):SR P E Γ bs ow (w.putObj l o) a st/\Γ.Le w Γ (w.putObj l o):=by
 have hg:∀b n,Γ b=some n->b≠l:=fun b n hb e=>by
  obtain⟨c,t,fr,h1,_⟩:=h.wi b n hb
  exact ho c t fr (e▸h1)
 have hle:Γ.Le w Γ (w.putObj l o):=fun b n hb _=>⟨n,hb,vaj _,fun k _=>cx (World.putObj_heap_other (hg b n hb)) k⟩
 refine⟨h.world (fun b=>b=l) hle (fun b n hb=>?_) rfl rfl rfl (by simp) (fun b _ hb=>⟨World.putObj_heap_other hb,rfl⟩) (fun b hb=>hb▸hE) (fun i b hb e=>hT (.inl ⟨i,e▸hb⟩)) (fun b L hL e=>hT (.inr (by rw[<-e,hL];simp))),hle⟩
 obtain⟨c,t,fr,h1,h2⟩:=h.wi b n hb
 exact⟨c,t,fr,(World.putObj_heap_other (hg b n hb)).trans h1,h2⟩
theorem SR.rebase(h:SR P E Γ bs ow w a st):SR P ⟨E.GE,Γ,w,bG bs ow⟩ Γ bs ow w a st:=
 { h with
  bn:=fun i b hb=>.inl (.inl ⟨i,hb⟩)
  on:=fun b L hL=>⟨(h.on b L hL).1,.inl (.inr (by rw[hL];simp))⟩
  gx:=fun g cs hg=>by
   obtain⟨k1,k2,k3,k4⟩:=h.gnow hg
   refine⟨k1,fun hT=>?_,k4⟩
   rcases hT with⟨i,hi⟩|hT
   ·exact k2 i g hi rfl
   ·exact hT k3
  step:=.refl _ _ _ _}
theorem SR.touchE(h:SR P E Γ bs ow w a st){b:Nat}(hb:bG bs ow b):E.T b\/E.w.heap.size<=b:=by
 rcases hb with⟨i,hi⟩|hb
 ·exact h.bn i b hi
 ·cases hL:ow b with
  |none=>exact absurd hL hb
  |some L=>exact(h.on b L hL).2
theorem SR.unbase(h:SR P E Γ bs ow w a st){Γ':bv}{bs':bQ}{ow':Nat->Option nQ}{w':World}{a':Array Value}{st':aB}(h':SR P ⟨E.GE,Γ,w,bG bs ow⟩ Γ' bs' ow' w' a' st'):SR P E Γ' bs' ow' w' a' st':=by
 have hT:∀b,bG bs ow b\/w.heap.size<=b->E.T b\/E.w.heap.size<=b:=fun b hb=>hb.elim h.touchE fun hb=>.inr (vay h.step.size hb)
 exact{h' with
  bn:=fun i b hb=>hT b (h'.bn i b hb)
  on:=fun b L hL=>⟨(h'.on b L hL).1,hT b (h'.on b L hL).2⟩
  gx:=h.gx
  step:={
   os:=h'.step.os.trans h.step.os
   tape:=h'.step.tape.trans h.step.tape
   output:=h'.step.output.trans h.step.output
   size:=vay h.step.size h'.step.size
   drawn:=vay h.step.drawn h'.step.drawn
   keep:=fun b hb hTb=>by
    have hlt:b<w.heap.size:=vaE hb h.step.size
    have hn:¬bG bs ow b:=fun hx=>(h.touchE hx).elim hTb fun hx=>absurd hx (vcn.2 hb)
    obtain⟨k1,k2⟩:=h'.step.keep b hlt hn
    obtain⟨q1,q2⟩:=h.step.keep b hb hTb
    exact⟨k1.trans q1,k2.trans q2⟩
   le:=h.step.le.trans h'.step.le}}
theorem aU.on{m:Nat}{c:Code}{Q:Exit->aB->Prop}(hS:aU P E.GE m c Q st)(hm:m≠0)(h:SR P E Γ bs ow w a st)(hl:m % 1000<=bs.length)(ro:Option Nat)(ds:List Deferred):Kh ro P c (fun e a' w'=>a'.defers=ds/\∃Γ' bs' ow' st',SR P E Γ' bs' ow' w' a'.tmps st'/\Q e st'/\(∀i:Nat,i<m % 1000->bs'[i]? =bs[i]?)/\Γ.Le w Γ' w'/\w.heap.size<=w'.heap.size/\
   ∀b,b<w.heap.size->¬bG bs ow b->w'.heap[b]? =w.heap[b]?/\¬bG bs' ow' b) ⟨a,ds⟩ w:=by
 have hE:xe E.GE m ⟨E.GE,Γ,w,bG bs ow⟩:={
  ge:=rfl
  low:=fun b n hb=>h.lt_of_ghost hb
  nt:=fun h0=>absurd h0 hm
  gl:=h.base.gl}
 have hlen:(bs.take (m % 1000)).length=m % 1000:=by simp;omega
 refine mI (hS ro ⟨E.GE,Γ,w,bG bs ow⟩ (bs.take (m % 1000)) ⟨a,ds⟩ w hE hlen ⟨Γ,bs,ow,h.rebase,fun i hi=>?_⟩) fun e a' w' hq=>?_
 ·rw[vao (by omega)]
 obtain⟨hd,st',⟨Γ',bs',ow',h',hk⟩,hQ⟩:=hq
 refine⟨hd,Γ',bs',ow',st',h.unbase h',hQ,fun i hi=>?_,h'.step.le,h'.step.size,fun b hb hT=>⟨(h'.step.keep b hb hT).1,fun hx=>?_⟩⟩
 ·rw[hk i (by omega),vao hi]
 ·exact(h'.touchE hx).elim hT fun hx=>absurd hx (vcn.2 hb)
theorem aU.wide{GE:List (Nat×List PVal)}{c:Code}{Q:Exit->aB->Prop}{st0:aB}(hS:aU P GE 0 c Q st0)(hB:NP GE Γ w){ow:Nat->Option nQ}{bs:bQ}(h:SR P (I9 GE Γ w) Γ bs ow w a st0)(n:Nat)(ds:List Deferred):c.wpIn Fence.wide n P (fun e a' w'=>a'.defers=ds/\∃Γ' bs' ow' st',SR P (I9 GE Γ w) Γ' bs' ow' w' a'.tmps st'/\Q e st') ⟨a,ds⟩ w:=
 wpIn_wide.2 (wp_mono (hS none (I9 GE Γ w) [] ⟨a,ds⟩ w hB.good rfl ⟨Γ,bs,ow,h,fun i hi=>absurd hi (vaG _)⟩) fun e a' w' hq=>by
  obtain⟨hd,st',⟨Γ',bs',ow',h',_⟩,hQ⟩:=hq
  exact⟨hd,Γ',bs',ow',st',h',hQ⟩)
theorem aU.wideE{GE:List (Nat×List PVal)}{c:Code}{Q:Exit->aB->Prop}(hS:aU P GE 0 c Q st)(hE:xe GE 0 E)(h:SR P E Γ bs ow w a st)(n:Nat)(ds:List Deferred):c.wpIn Fence.wide n P (fun e a' w'=>a'.defers=ds/\∃Γ' bs' ow' st',SR P E Γ' bs' ow' w' a'.tmps st'/\Q e st') ⟨a,ds⟩ w:=
 wpIn_wide.2 (wp_mono (hS none E [] ⟨a,ds⟩ w hE rfl ⟨Γ,bs,ow,h,fun i hi=>absurd hi (vaG _)⟩) fun e a' w' hq=>by
  obtain⟨hd,st',⟨Γ',bs',ow',h',_⟩,hQ⟩:=hq
  exact⟨hd,Γ',bs',ow',st',h',hQ⟩)
theorem SR.allocO(h:SR P E Γ bs ow w a st)(o:Obj):SR P E Γ bs ow (w.alloc o) a st/\Γ.Le w Γ (w.alloc o):=by
 have hlt:∀b n,Γ b=some n->b<w.heap.size:=fun b n hb=>h.lt_of_ghost hb
 have hle:Γ.Le w Γ (w.alloc o):=fun b n hb _=>⟨n,hb,vaj _,fun k _=>cx (fI w o (hlt b n hb)) k⟩
 refine⟨h.world (fun _=>False) hle (fun b n hb=>?_) rfl rfl rfl (by simp[World.size_alloc]) (fun b hb _=>⟨fI w o hb,rfl⟩) (fun _ hx=>hx.elim) (fun _ _ _ hx=>hx) (fun _ _ _ hx=>hx),hle⟩
 obtain⟨c,t,fr,h1,h2⟩:=h.wi b n hb
 exact⟨c,t,fr,(fI w o (hlt b n hb)).trans h1,h2⟩
theorem SR.forgetT(h:SR P E Γ bs ow w a st){tm:List PVal}(hf:O7 st.tmps tm=tm):SR P E Γ bs ow w a {st with tmps:=tm}:=
 { h with
  sz:=by rw[h.sz,<-Qs (l:=st.tmps) (bs:=tm),hf]
  tm:=fun t p v hp hv=>by
   rw[<-hf]at hp
   rcases Qr hp with rfl|hp'
   ·exact .undef v
   ·exact h.tm t p v hp' hv}
theorem SR.back(h:SR P E Γ bs ow w a st)(ho:st.own=[]){Γ':bv}{bs':bQ}{ow':Nat->Option nQ}{w':World}{a':Array Value}{st':aB}{H':List aM}(h':SR P E Γ' bs' ow' w' a' st')(hle:Γ.Le w Γ' w')
  (hbs:∀i:Nat,i<bs.length->bs'[i]? =bs[i]?) (hH:d7 H'.length st'.boxes H') (hl:H'.length=bs.length):
  ∃ow'',SR P E Γ' bs ow'' w' a {st with boxes:=H'}/\∀b,bG bs ow'' b->bG bs' ow' b:=by
 have hf:=h'.finish (H':=H') (v:=undef) (r:=.undef) (src:=fun k=>(0,k)) (ro:=[]) (.undef _) trivial hH (fun x hx=>by simp at hx) (fun x hx=>by simp at hx)
 have hb:bs'.take H'.length=bs:=by
  obtain⟨h1,_⟩:=qU hH
  have h2:H'.length<=bs'.length:=by rw[h'.bl];exact h1
  refine va6 fun i=>?_
  by_cases hi:i<H'.length
  ·rw[vao hi];exact hbs i (by omega)
  ·rw[vce (by omega),vaD (by omega)]
 rw[hb]at hf
 refine⟨_,{hf with
  sz:=h.sz
  tm:=fun t p v hp hv=>(h.tm t p v hp hv).mono hle (.refl _)
  ot:=fun t k e he=>by simp only[ho]at he;simp at he},fun b hb=>?_⟩
 rcases hb with⟨i,hi⟩|hb
 ·exact .inl ⟨i,(hbs i (am hi)).trans hi⟩
 ·refine .inr fun e=>hb ?_
  simp[Bm,e]
end
section
variable{P:Program}{n:Nat}{a:Act}{w:World}{next:Act->World->Prop}{Q:Exit->Act->World->Prop}
theorem Vc{o:Oper}(hd:fO o=true)(h:o.wp P a w next Q):o.wpIn Fence.wide n P a w next Q:=by
 refine⟨fun _ _=>trivial,?_⟩
 have hs:o.semAt (Fence.wide).round a.eval=execOp a.eval o:=Oper.semAt_eq _ _ _ fun c hc=>by unfold fO at hd;rw[hc]at hd;cases hd
 rw[hs]
 unfold Oper.wp at h
 generalize (execOp a.eval o).run P w=r at *
 have hdep:(Fence.wide).depth.isSome=true->1<=n:=fun h=>by simp[Fence.wide]at h
 cases r with
 | ok x w' =>
  cases x<;>simp only[Oper.upon]at h<;>simp only[Oper.uponIn]<;>first
   |exact h.elim
   |exact h
   |exact⟨hdep,callsIn_wide.2 h⟩
   | exact ⟨hdep,fun c cs _ => by
     obtain⟨v,w',r,s⟩:=h c cs
     exact⟨v,w',r,stepsIn_wide.2 s⟩⟩
 |halt x w'=>cases x<;>simp only[Oper.upon]at h<;>simp only[Oper.uponIn]<;>exact h
theorem TN{o:Oper}{f:Operand}{args:Array Operand}{tys:Array TypeId}(ho:o.op=.call {callee:=.value f,args:=args,argTypes:=tys}){l:Nat}(hf:a.eval f=.func (.yield l) #[] #[])
  {R:Ending->World->Prop} (h:YieldAt Fence.wide (n - 1) P l (args.map a.eval) w R) (hR:∀e w',R e w'->∃v,e=.returned v/\next (a.put o.dst v) w'):o.wpIn Fence.wide n P a w next Q:=by
 refine⟨fun _ _=>trivial,?_⟩
 have hs:o.semAt (Fence.wide).round a.eval=execOp a.eval o:=Oper.semAt_eq _ _ _ fun c hc=>by rw[ho]at hc;cases hc
 obtain⟨fn,tmps,assign,body,hy,hr⟩:=h
 have hrun:(execOp a.eval o).run P w=.ok (.round l fn tmps assign body) w:=by
  simp[execOp,ho,resolve,hf,Deferred.ofValue,invoke,hy]
 rw[hs,hrun,Oper.uponIn_round]
 refine⟨fun h=>by simp[Fence.wide]at h,hr.mono fun e w' hr=>?_⟩
 obtain⟨v,rfl,hx⟩:=hR e w' hr
 exact hx
theorem Nf{ops:Array Oper}{i:Nat}{rest:List Nat}{o:Oper}(ho:ops[i]? =some o)(hg:o.guard=none)(h:o.wpIn Fence.wide n P a w (wpOpsIn Fence.wide n P ops Q rest) Q):wpOpsIn Fence.wide n P ops Q (i::rest) a w:=by
 unfold wpOpsIn
 simp only[ho,Region.wanted,hg,if_true]
 exact h
theorem JI{E:uc}{A:List Nat}{ops:Array Oper}{K:aB->Prop}{rest:List Nat}{ds:List Deferred}
  (hK:∀Γ bs ow a w st,SR P E Γ bs ow w a st->K st->wpOpsIn Fence.wide n P ops Q rest ⟨a,ds⟩ w):
  ∀(L:List Oper) (is:List Nat) (Γ:bv) (bs:bQ) (ow:Nat->Option nQ) (a:Array Value) (w:World) (st:aB),is.map (fun i=>ops[i]?)=L.map some->
   (∀o∈L,o.guard=none/\fO o=true/\aP o.op=false)->SR P E Γ bs ow w a st->dC P E.GE A ops K L 0 st->wpOpsIn Fence.wide n P ops Q (is++rest) ⟨a,ds⟩ w
 |[],[],Γ,bs,ow,a,w,st,_,_,h,hp=>hK Γ bs ow a w st h hp
 |o::L,i::is,Γ,bs,ow,a,w,st,hi,hg,h,hp=>by
  obtain⟨g1,g2,g3⟩:=hg o (by simp)
  unfold dC at hp
  simp only[g1]at hp
  simp only[vaB,vbB]at hi
  refine Nf hi.1 g1 (Vc g2 (Oper.wp_mono (fun a' w' hA=>?_) (Im (a:=⟨a,ds⟩) h (fun hm=>by rw[g3]at hm;cases hm) hp Q)))
  obtain⟨hd,Γ',bs',ow',st',h1,h2,_⟩:=hA
  obtain⟨a1,ds1⟩:=a'
  simp only at hd h1
  subst hd
  refine JI (A:=A) hK L is Γ' bs' ow' a1 w' st' hi.2 (fun o ho=>hg o (vaU _ ho)) h1 ?_
  rw[g3]at h2
  exact h2
end
def Ib:Code->Array Oper
 |.region _ ops _=>ops
 |_=>#[]
def qdV:Code->Nat
 |.region id _ _=>id
 |_=>0
def qbh(c:Code)(i:Nat):Oper:=(Ib c)[i]?.getD default
def qcV(o:Oper):Array TypeId:=match o.op with
 |.call c=>c.argTypes
 |_=>#[]
def JL(o:Oper):Bool:=o.guard.isNone&&fO o&&!aP o.op
theorem Pv{L:List Oper}(h:L.all JL=true):∀o∈L,o.guard=none/\fO o=true/\aP o.op=false:=fun o ho=>by
 have:=vau.1 h o ho
 simpa[JL,and_assoc]using this
theorem vH{P:Program}{GE:List (Nat×List PVal)}{A:List Nat}{ops:Array Oper}{K K':aB->Prop}(hK:∀st,K st->K' st):∀(L:List Oper) (id:Nat) (st:aB),dC P GE A ops K L id st->dC P GE A ops K' L id st
 |[],_,st,h=>hK st h
 | o :: L,id,st,h => by
  unfold dC at h ⊢
  split at h
  ·exact wm (fun st hx=>vH hK L _ st hx) h
  ·split at h
   ·exact⟨fun hx=>wm (fun st hx=>vH hK L _ st hx) (h.1 hx),fun hx=>vH hK L _ _ (h.2 hx)⟩
   ·exact h
theorem Um{P:Program}{GE:List (Nat×List PVal)}{A:List Nat}{ops:Array Oper}{L:List Oper}{st st0:aB}{sc:List It}{F:Prop}(h:PS sc F)(he:F=Ki P GE A ops (fun _ st=>FG st st0) L 0 0 sc st):dC P GE A ops (fun st=>FG st st0) L 0 st:=
 vH (fun st ⟨_,hx⟩=>hx) L 0 st (yN L 0 0 sc st (Eq.mp he h))
theorem FG.sr{P:Program}{E:uc}{Γ:bv}{bs:bQ}{ow:Nat->Option nQ}{w:World}{a:Array Value}{st st0:aB}(h:SR P E Γ bs ow w a st)(hf:FG st st0):∃Γ' bs' ow',SR P E Γ' bs' ow' w a st0:=by
 obtain⟨Γ',bs',ow',h',_⟩:=(hf.weak (P:=P) (m:=0)) E [] ⟨a,[]⟩ w rfl ⟨Γ,bs,ow,h,fun i hi=>absurd hi (vaG _)⟩
 exact⟨Γ',bs',ow',h'⟩
def qbr:Code->Code
 |.rangeFunc _ _ a _=>a
 |_=>.skip
def qbs:Code->Code
 |.rangeFunc _ _ _ b=>b
 |_=>.skip
theorem kV{w:World}{b:Nat}{o:Obj}(h:w.heap[b]? =some o):b<w.heap.size:=(vae.1 h).1
structure Sd(P:Program)(GE:List (Nat×List PVal)){S:Type}(J:Bool->S->bv->World->Prop):Prop where
 base:∀b s Γ w,J b s Γ w->NP GE Γ w
 side:∀b s Γ w,J b s Γ w->∀Γ' bs' ow' w' a' st',SR P (I9 GE Γ w) Γ' bs' ow' w' a' st'->J b s Γ' w'
def VG(P:Program){S:Type}(J:Bool->S->bv->World->Prop)(Γ0:bv)(w0:World)(b:Bool)(s:S)(st:aB)(a:Array Value)(w:World):Prop:=∃Γ,J b s Γ w/\Γ0.Le w0 Γ w/\∃E bs ow,SR P E Γ bs ow w a st
structure Dg(st:aB)(k:Nat):Prop where
 c:mD 0 st.tmps
 b:st.boxes=List.replicate k .dead
 o:st.own=[]
abbrev xd(l:Nat):PVal:=.val (.func (.yield l) #[] #[])
section
variable{P:Program}{GE:List (Nat×List PVal)}{S:Type}{J:Bool->S->bv->World->Prop}{l:Nat}{Γ0:bv}{w0:World}{b:Bool}{s:S}{st0 st1 stA stB:aB}{k kA kB:Nat}{a:Array Value}{w:World}{n:Nat}{ds:List Deferred}
theorem Z0{N:Nat}{L:List (Nat×PVal)}(h:Zr 0 L)(k:Nat){H:List aM}(hH:H=List.replicate k .dead):Dg (aZ N L H []) k:=⟨dI h,hH,rfl⟩
theorem VG.again(hY:Sd P GE J)(hD:Dg st0 k)(h:VG P J Γ0 w0 b s st0 a w):∃Γ,J b s Γ w/\Γ0.Le w0 Γ w/\SR P (I9 GE Γ w) Γ (List.replicate k none) (fun _=>none) w a st0:=by
 obtain⟨Γ,hJ,hle,E,bs,ow,hS⟩:=h
 obtain⟨tm,H,own⟩:=st0
 have hb:H=_:=hD.b
 have ho:own=[]:=hD.o
 subst hb;subst ho
 exact⟨Γ,hJ,hle,hS.again hD.c (hY.base _ _ _ _ hJ) (.refl _ _) k⟩
theorem VG.piece(hY:Sd P GE J){c:Code}{e:Exit}(hS:aU P GE 0 c (EX e st1) st0)(hD:Dg st0 k)(h:VG P J Γ0 w0 b s st0 a w):c.wpIn Fence.wide n P (fun e' a' w'=>e'=e/\a'.defers=ds/\VG P J Γ0 w0 b s st1 a'.tmps w') ⟨a,ds⟩ w:=by
 obtain⟨Γ,hJ,hle,hR⟩:=h.again hY hD
 refine wpIn_mono (hS.wide (hY.base _ _ _ _ hJ) hR n ds) ?_
 rintro e' a' w' ⟨hd,Γ',bs',ow',st',h',rfl,rfl⟩
 exact⟨rfl,hd,Γ',hY.side _ _ _ _ hJ _ _ _ _ _ _ h',hle.trans h'.step.le,_,_,_,h'⟩
theorem VG.reg(hY:Sd P GE J){id:Nat}{ops:Array Oper}{is1 is2:List Nat}{i:Nat}{L1 L2:List Oper}{o:Oper}(hrg:List.range ops.size=is1++i::(is2++[]))
  (p1:is1.map (fun i=>ops[i]?)=L1.map some) (p2:L1.all JL=true) (ho:ops[i]? =some o) (hg:o.guard=none) (q1:is2.map (fun i=>ops[i]?)=L2.map some) (q2:L2.all JL=true)
  (hD:Dg st0 k) (hDB:Dg stB kB) (hpre:dC P GE [] ops (fun st=>FG st stA) L1 0 st0) (hsuf:dC P GE [] ops (fun st=>FG st st1) L2 0 stB) {r:Bool×S}
  (hcall:∀a w (next:Act->World->Prop) (Q:Exit->Act->World->Prop),VG P J Γ0 w0 b s stA a w->(∀a' w',VG P J Γ0 w0 r.1 r.2 stB a' w'->next ⟨a',ds⟩ w')->o.wpIn Fence.wide n P ⟨a,ds⟩ w next Q)
  (h:VG P J Γ0 w0 b s st0 a w):(Code.region id ops false).wpIn Fence.wide n P (fun e' a' w'=>e'=.normal/\a'.defers=ds/\VG P J Γ0 w0 r.1 r.2 st1 a'.tmps w') ⟨a,ds⟩ w:=by
 refine wpIn_region ?_
 rw[hrg]
 obtain⟨Γ,hJ,hle,hS⟩:=h.again hY hD
 refine JI (A:=[]) (K:=fun st=>FG st stA) (fun Γ' bs' ow' a' w' st hS' hK=>?_) _ _ Γ _ _ a w st0 p1 (Pv p2) hS hpre
 obtain⟨Γ2,bs2,ow2,hS2⟩:=FG.sr hS' hK
 refine Nf ho hg (hcall a' w' _ _ ⟨Γ2,hY.side _ _ _ _ hJ _ _ _ _ _ _ hS2,hle.trans hS2.step.le,_,_,_,hS2⟩ fun a3 w3 h3=>?_)
 obtain⟨Γ3,hJ3,hle3,hS3⟩:=h3.again hY hDB
 refine JI (A:=[]) (K:=fun st=>FG st st1) (fun Γ' bs' ow' a' w' st hS' hK=>?_) _ _ Γ3 _ _ a3 w3 stB q1 (Pv q2) hS3 hsuf
 obtain⟨Γ4,bs4,ow4,hS4⟩:=FG.sr hS' hK
 exact⟨rfl,rfl,Γ4,hY.side _ _ _ _ hJ3 _ _ _ _ _ _ hS4,hle3.trans hS4.step.le,_,_,_,hS4⟩
theorem VG.ev(h:VG P J Γ0 w0 b s st0 a w){t:Nat}{x:Bool}(ht:st0.tmps.getD t .undef=.bool x):(Act.mk a ds).eval (.tmp t)=.bool x:=by
 obtain⟨Γ,hJ,hle,E,bs,ow,hS⟩:=h
 have h1:=hS.opv ds (.tmp t)
 have e1:opv E.GE st0.tmps (.tmp t)=.bool x:=ht
 rw[e1]at h1
 generalize (Act.mk a ds).eval (.tmp t)=v at h1
 cases h1
 rfl
theorem VG.put(hY:Sd P GE J)(hD:Dg stA kA){Γ Γ':bv}{w':World}{E:uc}{bs:bQ}{ow:Nat->Option nQ}(hS:SR P E Γ bs ow w a stA)(hle:Γ0.Le w0 Γ w)(hle':Γ.Le w Γ' w'){r:Bool×S}(hJ':J r.1 r.2 Γ' w'){d:Nat}(hB:stB=⟨stA.tmps.set d (.bool r.1),List.replicate kA .dead,[]⟩):VG P J Γ0 w0 r.1 r.2 stB (a.setIfInBounds d (.bool r.1)) w':=by
 have hS':=(hS.again hD.c (hY.base _ _ _ _ hJ') hle' kA).set (d:=d) (p:=.bool r.1) (v:=.bool r.1) (.bool _)
 exact⟨Γ',hJ',hle.trans hle',_,_,_,hB▸hS'⟩
theorem VG.yield2(hY:Sd P GE J)(hD:Dg stA kA){r:Bool×S}{i:Int}{cs:List PVal}(hcl:mD 0 cs)
  (hy:∀Γ w v,J true s Γ w->VR Γ [] w (.agg cs) v->YieldAt Fence.wide (n - 1) P l #[.int .i64 i,v] w fun e w'=>∃Γ',e=.returned (.bool r.1)/\Γ.Le w Γ' w'/\J r.1 r.2 Γ' w')
  {o:Oper} {f x y d:Nat} {tys:Array TypeId} (h7:stA.tmps.getD f .undef=xd l) (h8:stA.tmps.getD x .undef=.int .i64 i) (h9:stA.tmps.getD y .undef=.agg cs)
  (ho:o.op=.call {callee:=.value (.tmp f),args:=#[.tmp x,.tmp y],argTypes:=tys}) (hd:o.dst=some d) (hB:stB=⟨stA.tmps.set d (.bool r.1),List.replicate kA .dead,[]⟩)
  {next:Act->World->Prop} {Q:Exit->Act->World->Prop} (h:VG P J Γ0 w0 true s stA a w) (hn:∀a' w',VG P J Γ0 w0 r.1 r.2 stB a' w'->next ⟨a',ds⟩ w'):o.wpIn Fence.wide n P ⟨a,ds⟩ w next Q:=by
 obtain⟨Γ,hJ,hle,hS⟩:=h.again hY hD
 have h1:=hS.opv ds (.tmp f)
 have h2:=hS.opv ds (.tmp x)
 have h3:=hS.opv ds (.tmp y)
 have e1:opv (I9 GE Γ w).GE stA.tmps (.tmp f)=xd l:=h7
 have e2:opv (I9 GE Γ w).GE stA.tmps (.tmp x)=.int .i64 i:=h8
 have e3:opv (I9 GE Γ w).GE stA.tmps (.tmp y)=.agg cs:=h9
 rw[e1]at h1;rw[e2]at h2;rw[e3]at h3
 have hev:(Act.mk a ds).eval (.tmp f)=.func (.yield l) #[] #[]:=by
  generalize (Act.mk a ds).eval (.tmp f)=v at h1
  cases h1;rfl
 have hex:(Act.mk a ds).eval (.tmp x)=.int .i64 i:=by
  generalize (Act.mk a ds).eval (.tmp x)=v at h2
  cases h2;rfl
 refine TN ho hev (R:=fun e w'=>∃Γ',e=.returned (.bool r.1)/\Γ.Le w Γ' w'/\J r.1 r.2 Γ' w') ?_ ?_
 ·have:=hy Γ w _ hJ (h3.clo (by simp only[PVal.cl];exact hcl))
  simpa[hex]using this
 ·rintro e w' ⟨Γ',rfl,hle',hJ'⟩
  refine⟨_,rfl,?_⟩
  rw[hd]
  exact hn _ _ (VG.put hY hD hS hle hle' hJ' hB)
end
def Xt{α S:Type}(step:S->α->Option (Bool×S)):List α->S->Option (Bool×S)
 |[],s=>some (true,s)
 |x::l,s=>(step s x).bind fun r=>match r.1 with
  |false=>some (false,r.2)
  |true=>Xt step l r.2
theorem Xm{α:Type}(l:List α){j:Nat}(h:j<l.length):(l.take (j+1)).reverse=l[j]::(l.take j).reverse:=by
 rw[vav h,List.reverse_append];rfl
theorem cJ{n:Int}(h1: -9223372036854775808<=n)(h2:n<9223372036854775808):bN n=n:=ZJ h1 h2
theorem bo{α:Type}(l:List α)(i:Nat)(h:i<l.length):fy l (i:Int)=some l[i]:=by
 unfold fy
 rw[vaq (by omega)]
 simp[h]
theorem pl(l:ah)(i:Nat)(h:i<l.length):ms l (i:Int)=some ((l[i].toNat:Int)):=by
 unfold ms;rw[bo l i h];rfl
theorem uD(c:UInt8)(l:ah):ms (c::l) 0=some (c.toNat:Int):=by
 have:=pl (c::l) 0 (by simp)
 simpa using this
theorem HS{α:Type}(c:α)(l:List α):fy (c::l) 0=some c:=by
 have:=bo (c::l) 0 (by simp)
 simpa using this
theorem Zz{α:Type}(l:List α)(i:Nat)(h:i<=l.length):Rd l none (some (i:Int))=some (l.take i):=by
 simp[Rd,bd,h]
theorem EB{α:Type}(l:List α)(i:Nat)(h:i<=l.length):Rd l (some (i:Int)) none=some (l.drop i):=by
 simp[Rd,bd,h]
theorem th{α:Type}{l r:List α}(h:l.length+r.length<=1073741824):app l r=some (l++r):=vaq h
theorem Bq{σ X:Type}{body:σ->Option (σ⊕X)}{s s':σ}(h:body s=some (.inl s')):loop body s=loop body s':=by rw[jX,h]
theorem nM{σ X:Type}{body:σ->Option (σ⊕X)}{s:σ}{x:X}(h:body s=some (.inr x)):loop body s=some x:=by rw[jX,h]
def xZ{α σ X:Type}(f:Nat->α->σ->σ⊕X)(e:σ->X):List α->Nat->σ->X
 |[],_,s=>e s
 |x::r,i,s=>match f i x s with
  |.inl s'=>xZ f e r (i+1) s'
  |.inr y=>y
theorem Ei{α σ τ X:Type}(l:List α)(hl:l.length<9223372036854775808)(mk:Int->σ->τ)(body:τ->Option (τ⊕X))(I:Nat->σ->Prop)(f:Nat->α->σ->σ⊕X)(e:σ->X)
  (hin:∀(i:Nat) (h:i<l.length) s,I i s->body (mk i s)=some (match f i l[i] s with|.inl s'=>.inl (mk (bN ((i:Int)+1)) s')|.inr y=>.inr y)/\∀s',f i l[i] s=.inl s'->I (i+1) s')
  (hend:∀s,I l.length s->body (mk l.length s)=some (.inr (e s))):∀(i:Nat) (s:σ),i<=l.length->I i s->loop body (mk i s)=some (xZ f e (l.drop i) i s):=by
 intro i s hi hI
 obtain⟨k,hk⟩:∃k,k+i=l.length:=⟨l.length - i,by omega⟩
 induction k generalizing i s with
 |zero=>
  have:i=l.length:=by omega
  subst this
  rw[jX,hend s hI,vb8]
  rfl
 | succ k ih =>
  have hlt:i<l.length:=by omega
  obtain⟨h1,h2⟩:=hin i hlt s hI
  rw[jX,h1,va2 hlt]
  unfold xZ
  cases hf:f i l[i] s with
  |inl s'=>
   simp only
   rw[cJ (by omega) (by omega)]
   have:=ih (i+1) s' (by omega) (h2 s' hf) (by omega)
   rw[show((i:Int)+1)=((i+1:Nat):Int) by omega]
   exact this
  |inr y=>rfl
theorem SC{α X:Type}(p:α->Bool)(y e:X):∀(l:List α) (i:Nat),xZ (fun _ x (_:Unit)=>if p x=true then Sum.inr y else .inl ()) (fun _=>e) l i ()=if l.any p=true then y else e
 |[],i=>by simp[xZ]
 | x :: l,i => by
  have ih:=SC p y e l (i+1)
  unfold xZ
  by_cases h:p x=true
  ·simp[h]
  ·simp only[h,if_false,ih,List.any_cons,vbT,vaz]
theorem pp{α X:Type}(l:List α)(hl:l.length<9223372036854775808)(body:Int->Option (Int⊕X))(p:α->Bool)(y e:X)
  (hin:∀(i:Nat) (h:i<l.length),body i=some (if p l[i]=true then .inr y else .inl (bN ((i:Int)+1)))) (hend:body l.length=some (.inr e)) (i:Nat) (hi:i<=l.length):
  loop body (i:Int)=some (if(l.drop i).any p=true then y else e):=by
 have:=Ei l hl (fun i (_:Unit)=>i) body (fun _ _=>True) (fun _ x _=>if p x=true then Sum.inr y else .inl ()) (fun _=>e) (fun i h s _=>⟨?_,fun _ _=>trivial⟩) (fun s _=>hend) i () hi trivial
 ·rw[this,SC]
 ·rw[hin i h]
  by_cases hp:p l[i]=true<;>simp[hp]
theorem PG{α X:Type}(p:α->Bool)(y:Nat->X)(e:X):∀(l:List α) (i:Nat),xZ (fun j x (_:Unit)=>if p x=true then Sum.inr (y j)else .inl ()) (fun _=>e) l i ()=match l.findIdx? p with|some j=>y (i+j)|none=>e
 |[],i=>by simp[xZ]
 | x :: l,i => by
  have ih:=PG p y e l (i+1)
  unfold xZ
  rw[vcS]
  by_cases h:p x=true
  ·simp[h]
  ·simp only[h,if_false,ih,vaz]
   cases l.findIdx? p with
   |none=>rfl
   |some j=>simp only[vag];congr 1;omega
theorem Pj{α X:Type}(l:List α)(hl:l.length<9223372036854775808)(body:Int->Option (Int⊕X))(p:α->Bool)(y:Nat->X)(e:X)
  (hin:∀(i:Nat) (h:i<l.length),body i=some (if p l[i]=true then .inr (y i)else .inl (bN ((i:Int)+1)))) (hend:body l.length=some (.inr e)):
  loop body (0:Int)=some (match l.findIdx? p with|some j=>y j|none=>e):=by
 have:=Ei l hl (fun i (_:Unit)=>i) body (fun _ _=>True) (fun j x _=>if p x=true then Sum.inr (y j)else .inl ()) (fun _=>e) (fun i h s _=>⟨?_,fun _ _=>trivial⟩) (fun s _=>hend) 0 () (vaN _) trivial
 ·simp only[Int.ofNat_zero,vbi]at this
  have this2:=PG p y e l 0
  simp only[vaK]at this2
  rw[<-this2]
  exact this
 ·rw[hin i h]
  by_cases hp:p l[i]=true<;>simp[hp]
abbrev qcz:Nat:=137
abbrev RL:Nat:=157
noncomputable def qcp:Code:=f137.body.getD .skip
noncomputable def S1:Code:=f157.body.getD .skip
abbrev Ku(sc:List ae):PVal:=sl aa sc
theorem S6(sc:List ae):(Ku sc).cl 0:=aw av sc
theorem Kg(sc:List ae):(PVal.eptr [Ku sc]).cl 0:=⟨S6 sc,trivial⟩
theorem qbc(sc:List ae):bM Pg 92 [Ku sc]=some (Ku sc):=by kernel_rfl
theorem Rz(sc:List ae):CC Pg GE qcz [Ku sc] (.func (.func RL) [] [.eptr [Ku sc]]) []:=by
 have z:=se (show cQ (Ku sc)=some [Ku sc]from rfl)<|en (aI (rP (.func (.func RL) [] [.eptr [Ku sc]]))<|(aI trivial (aI (Kg sc) trivial)))
 exact C.evp (A:=[]) mixed call137 func137 (c:=qcp) rfl (aI (S6 sc) trivial) z (by kernel_rfl)
abbrev qda:Code:=jF S1 [false]
abbrev qdb:Code:=jF S1 [true,false,false,false,false]
abbrev Qf:Code:=jF S1 [true,false,false,true,false,false,false]
abbrev qdc:Code:=jF S1 [true,false,false,true,true]
theorem XW:S1=.seq qda (.block 0 (.loop (.seq (.seq qdb (.cond (.tmp 8) .skip (.exit 0))) (.seq (.block 1 (.seq (.region (qdV Qf) (Ib Qf) false) (.cond (.tmp 18) .ret .skip))) qdc)))):=by kernel_rfl
theorem Zo:List.range (Ib Qf).size=[0,1,2,3,4,5]++6::([7]++[]):=by kernel_rfl
theorem Zk:[0,1,2,3,4,5].map (fun i=>(Ib Qf)[i]?)=((Ib Qf).toList.take 6).map some:=by kernel_rfl
theorem Zl:((Ib Qf).toList.take 6).all JL=true:=by kernel_rfl
theorem qaR:(Ib Qf)[6]? =some (qbh Qf 6):=by kernel_rfl
theorem qaQ:(qbh Qf 6).guard=none:=by kernel_rfl
theorem Zm:[7].map (fun i=>(Ib Qf)[i]?)=((Ib Qf).toList.drop 7).map some:=by kernel_rfl
theorem Zn:((Ib Qf).toList.drop 7).all JL=true:=by kernel_rfl
theorem Zj:(qbh Qf 6).op=.call {callee:=.value (.tmp 11),args:=#[.tmp 12,.tmp 16],argTypes:=qcV (qbh Qf 6)}:=by kernel_rfl
theorem qaP:(qbh Qf 6).dst=some 17:=by kernel_rfl
abbrev bS(l:Nat)(sc:List ae)(i:Int):aB:=aZ 19 [(0,xd l),(1,.eptr [Ku sc]),(3,.int .i64 i)] [] []
abbrev qbB(l:Nat)(sc:List ae)(i:Int):aB:=aZ 19 [(0,xd l),(1,.eptr [Ku sc]),(3,.int .i64 i),(8,.bool (decide (i>=0)))] [] []
abbrev qcq(l:Nat)(sc:List ae)(i:Int)(x:ae):aB:=aZ 19 [(0,xd l),(1,.eptr [Ku sc]),(3,.int .i64 i),(11,xd l),(12,.int .i64 i),(16,.agg (aa x))] [] []
abbrev qcr(l:Nat)(sc:List ae)(i:Int)(x:ae)(b:Bool):aB:=aZ 19 [(0,xd l),(1,.eptr [Ku sc]),(3,.int .i64 i),(11,xd l),(12,.int .i64 i),(16,.agg (aa x)),(17,.bool b)] [] []
abbrev qbC(l:Nat)(sc:List ae)(i:Int)(b:Bool):aB:=aZ 19 [(0,xd l),(1,.eptr [Ku sc]),(3,.int .i64 i),(18,.bool (!b))] [] []
theorem qcs(l:Nat)(sc:List ae):aU Pg GE 0 qda (EX .normal (bS l sc (bN ((sc.length:Int) - 1)))) (aZ 19 [(0,xd l),(1,.eptr [Ku sc])] [] []):=by
 have z:=sv (qbc sc)<|bF (Ny.ln sc)<|eF .normal (bS l sc (bN ((sc.length:Int) - 1)))
 exact uK (A:=[]) mixed z (by kernel_rfl)
theorem qct(l:Nat)(sc:List ae)(i:Int):aU Pg GE 0 qdb (EX .normal (qbB l sc i)) (bS l sc i):=by
 have z:=eF .normal (qbB l sc i)
 exact uK (A:=[]) mixed z (by kernel_rfl)
theorem qcv(l:Nat)(sc:List ae)(i:Int)(x:ae)(hx:fy sc i=some x):dC Pg GE [] (Ib Qf) (fun st=>FG st (qcq l sc i x)) ((Ib Qf).toList.take 6) 0 (qbB l sc i):=by
 have z:=sv (qbc sc)<|sv (Ny.ia (k:=.i64) hx)<|sv (M0 x)<|en (fr (qcq l sc i x))
 exact Um z (by kernel_rfl)
theorem qaS(l:Nat)(sc:List ae)(i:Int)(x:ae)(b:Bool):dC Pg GE [] (Ib Qf) (fun st=>FG st (qbC l sc i b)) ((Ib Qf).toList.drop 7) 0 (qcr l sc i x b):=by
 have z:=en (fr (qbC l sc i b))
 exact Um z (by kernel_rfl)
theorem qcu(l:Nat)(sc:List ae)(i:Int)(b:Bool):aU Pg GE 0 qdc (EX .normal (bS l sc (bN (i - 1)))) (qbC l sc i b):=by
 have z:=eF .normal (bS l sc (bN (i - 1)))
 exact uK (A:=[]) mixed z (by kernel_rfl)
theorem qcx(l:Nat)(sc:List ae)(i:Int):Dg (bS l sc i) 0:=Z0 (by exact aI trivial<|aI (Kg sc)<|aI trivial trivial) 0 rfl
theorem qa6(l:Nat)(sc:List ae)(i:Int):Dg (qbB l sc i) 0:=Z0 (by exact aI trivial<|aI (Kg sc)<|aI trivial<|aI trivial trivial) 0 rfl
theorem qa7(l:Nat)(sc:List ae)(i:Int)(x:ae):Dg (qcq l sc i x) 0:=Z0 (by exact aI trivial<|aI (Kg sc)<|aI trivial<|aI trivial<|aI trivial<|aI (show mD 0 (aa x)from av x) trivial) 0 rfl
theorem qa8(l:Nat)(sc:List ae)(i:Int)(x:ae)(b:Bool):Dg (qcr l sc i x b) 0:=Z0 (by exact aI trivial<|aI (Kg sc)<|aI trivial<|aI trivial<|aI trivial<|aI (show mD 0 (aa x)from av x)<|aI trivial trivial) 0 rfl
theorem qa9(l:Nat)(sc:List ae)(i:Int)(b:Bool):Dg (qbC l sc i b) 0:=Z0 (by exact aI trivial<|aI (Kg sc)<|aI trivial<|aI trivial trivial) 0 rfl
section
variable{S:Type}{step:S->ae->Option (Bool×S)}{J:Bool->S->bv->World->Prop}{l:Nat}
theorem qaU(hY:Sd Pg GE J)(hy:∀s Γ w (i:Int) x v n r,J true s Γ w->VR Γ [] w (.agg (aa x)) v->step s x=some r->YieldAt Fence.wide n Pg l #[.int .i64 i,v] w fun e w'=>∃Γ',e=.returned (.bool r.1)/\Γ.Le w Γ' w'/\J r.1 r.2 Γ' w')
  (sc:List ae) (hlen:sc.length<4611686018427387904) {s:S} {r:Bool×S} {Γ:bv} {w:World} {v:Value} {n:Nat} (hv:Xt step sc.reverse s=some r) (hJ:J true s Γ w) (hvr:VR Γ [] w (.eptr [Ku sc]) v):
  CallsIn Fence.wide n Pg RL #[.func (.yield l) #[] #[],v] w fun e w'=>(∃u,e=.returned u)/\∃Γ',Γ.Le w Γ' w'/\J r.1 r.2 Γ' w':=by
 refine callsIn_of_wp func157 (c:=S1) rfl trivial ?_
 have h0:VG Pg J Γ w true s (aZ 19 [(0,xd l),(1,.eptr [Ku sc])] [] []) (#[.func (.yield l) #[] #[],v]++Array.replicate 17 undef) w:=by
  refine⟨Γ,hJ,.refl _ _,_,_,_,(hY.base _ _ _ _ hJ).fresh 0 (tmps:=[xd l,.eptr [Ku sc]]++List.replicate 17 .undef) (by simp) fun t q u hq hu=>?_⟩
  by_cases ht:t<2
  ·rw[vac (by simpa using ht)]at hq
   rw[vaP (by simpa using ht)]at hu
   match t,ht with
   |0,_=>simp at hq hu;subst hq;subst hu;exact .val _
   |1,_=>simp at hq hu;subst hq;subst hu;exact hvr
  ·rw[vaf (by simpa using ht),vaV]at hq
   split at hq<;>cases hq
   exact .undef u
 show S1.wpIn Fence.wide n Pg _ ⟨_,[]⟩ w
 have hret:∀{b:Bool} {s:S} {st:aB} {e:Exit} {a':Act} {w':World},(e=.normal\/e=.ret)->a'.defers=[]->VG Pg J Γ w b s st a'.tmps w'->b=r.1->s=r.2->
   bodyPost Pg f157 (fun e w'=>(∃u,e=.returned u)/\∃Γ',Γ.Le w Γ' w'/\J r.1 r.2 Γ' w') e a' w':=by
  rintro b s st e a' w' he hd ⟨Γ',hJ',hle,E,bs,ow,hS⟩ rfl rfl
  obtain⟨u,e1,_⟩:=wo hS (fn:=f157) (r:=.tuple []) (by kernel_rfl)
  rcases he with rfl|rfl
  ·exact⟨hd,u,e1,⟨u,rfl⟩,Γ',hle,hJ'⟩
  ·exact⟨hd,u,e1,⟨u,rfl⟩,Γ',hle,hJ'⟩
 rw[XW]
 refine wpIn_seq (wpIn_mono (VG.piece hY (qcs l sc) (k:=0) (Z0 (by exact aI trivial<|aI (Kg sc) trivial) 0 rfl) h0) ?_)
 rintro e ⟨a1,ds1⟩ w1 ⟨rfl,rfl,h1⟩
 refine wpIn_block (wpIn_loop_ghost (fun k a w'=>a.defers=[]/\∃s':S,k<=sc.length/\Xt step (sc.take k).reverse s'=some r/\VG Pg J Γ w true s' (bS l sc ((k:Int) - 1)) a.tmps w') sc.length
  ⟨rfl,s,vaj _,by rw[vaT];exact hv,?_⟩ ?_)
 ·rw[cJ (by omega) (by omega)]at h1;exact h1
 rintro k ⟨a4,ds4⟩ w4 ⟨hd4,s',hk,hvl,h4⟩
 simp only at hd4;subst hd4
 refine wpIn_seq (wpIn_seq (wpIn_mono (VG.piece hY (qct l sc _) (qcx _ _ _) h4) ?_))
 rintro e ⟨a5,ds5⟩ w5 ⟨rfl,rfl,h5⟩
 refine wpIn_cond (h5.ev (t:=8) (x:=decide ((k:Int) - 1>=0)) rfl) ?_
 cases k with
 |zero=>
  rw[decide_eq_false (by omega)]
  refine wpIn_exit ?_
  rw[List.take_zero]at hvl
  cases hvl
  exact hret (.inl rfl) rfl h5 rfl rfl
 | succ j =>
  rw[va3 (by omega)]
  refine wpIn_skip ?_
  have hj:j<sc.length:=by omega
  rw[Xm sc hj,Xt]at hvl
  obtain⟨q,hq,hvl⟩:=aG hvl
  have hx:fy sc (((j+1:Nat):Int) - 1)=some sc[j]:=by rw[show((j+1:Nat):Int) - 1=(j:Int)from by omega];exact bo _ _ hj
  generalize sc[j]=x at *
  refine wpIn_seq (wpIn_block (wpIn_seq (wpIn_mono (VG.reg hY Zo Zk Zl qaR qaQ Zm Zn (k:=0) (kB:=0) (r:=q) (stB:=qcr l sc _ x q.1) (qa6 _ _ _) (qa8 _ _ _ _ _) (qcv l sc _ x hx) (qaS l sc _ x q.1)
   (fun a w next Q h hn=>VG.yield2 hY (kA:=0) (i:=((j+1:Nat):Int) - 1) (qa7 _ _ _ _) (av x) (fun Γ w v hJ hv=>hy s' Γ w _ x v _ q hJ hv hq) (f:=11) (x:=12) (y:=16) (d:=17) rfl rfl rfl Zj qaP rfl h hn) h5) ?_)))
  rintro e ⟨a6,ds6⟩ w6 ⟨rfl,rfl,h6⟩
  refine wpIn_cond (h6.ev (t:=18) (x:=!q.1) rfl) ?_
  obtain⟨q1,q2⟩:=q
  cases q1 with
  |false=>
   cases hvl
   refine wpIn_ret ?_
   exact hret (.inr rfl) rfl h6 rfl rfl
  |true=>
   refine wpIn_skip ?_
   refine wpIn_mono (VG.piece hY (qcu l sc _ true) (qa9 _ _ _ _) h6) ?_
   rintro e ⟨a7,ds7⟩ w7 ⟨rfl,rfl,h7⟩
   refine⟨j,by omega,rfl,q2,by omega,hvl,?_⟩
   rw[cJ (by omega) (by omega)]at h7
   rw[show((j+1:Nat):Int) - 1 - 1=(j:Int) - 1 from by omega]at h7
   exact h7
end
end Go.Proofs.YtkdahfeiedaahaaGreatDoor
