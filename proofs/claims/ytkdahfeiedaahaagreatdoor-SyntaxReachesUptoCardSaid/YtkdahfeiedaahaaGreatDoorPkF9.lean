/- PROVED: a part of the proof. Conditions: none. -/
import Derived.Test.YtkdahfeiedaahaaGreatDoorPkF8
import Derived.Test.YtkdahfeiedaahaaGreatDoorChecked
import Derived.Test.YtkdahfeiedaahaaGreatDoorProg
import Derived.Ground.SlgfProg
import Derived.Ground.SlgnProg
import Derived.Shelf.Lays
import Derived.Shelf.LaysM
import Derived.Shelf.SlGeneric
import Derived.Shelf.SlLaysE
import Derived.Shelf.SlLaysE0
import Derived.Shelf.SlLaysH
import Derived.Test.YtkdahfeiedaahaaGreatDoorPkF7
import Derived.Shelf.Strconv.Itoa3
import Derived.RangeFuncRecord
import Derived.RangeFuncSeq
noncomputable section
namespace Go.Proofs.YtkdahfeiedaahaaGreatDoor
open Go Go.Proofs.Tryz
set_option linter.unusedVariables false
set_option maxRecDepth 100000
noncomputable abbrev Pg:=Tryz.prog
theorem mixed:Pg.follows .mixedOrders=true:=by kernel_rfl
inductive am where
 |mk (Op:Int) (Name:af) (N:Int) (Kids:(List am))
def am.Op:am->Int
 |⟨x,_,_,_⟩=>x
def am.Name:am->af
 |⟨_,x,_,_⟩=>x
def am.N:am->Int
 |⟨_,_,x,_⟩=>x
def am.Kids:am->(List am)
 |⟨_,_,_,x⟩=>x
mutual
def al:am->List PVal
 |⟨x0,x1,x2,x3⟩=>[.int .i64 x0,.str x1,.int .i64 x2,.slice (xa x3)]
def xa:List am->List (List PVal)
 |[]=>[]
 |x::r=>al x::xa r
end
theorem JR:∀(l:List am),xa l=l.map al
 |[]=>by simp[xa]
 |x::r=>by simp[xa,JR r]
mutual
theorem aR:∀(x:am),jK 0 (al x)
 |⟨x0,x1,x2,x3⟩=>by rw[al];exact(aI trivial (aI trivial (aI trivial (aI (LD x3) trivial))))
theorem LD:∀(l:List am),wv 0 (xa l)
 |[]=>by simp[xa,wv]
 |x::r=>by rw[xa];exact⟨aR x,LD r⟩
end
theorem cC:∀(x:am),al x=[.int .i64 x.Op,.str x.Name,.int .i64 x.N,sl al x.Kids]
 |⟨x0,x1,x2,x3⟩=>by
  simp only[al,JR]
  rfl
abbrev NA(x:am):PVal:=.agg (al x)
theorem GD(x:am):(al x).length=4:=by rw[cC];rfl
theorem Fx(x:am):cK (.agg (al x))=some (al x):=rfl
theorem Md(x:am):cK (NA x)=some (al x):=rfl
theorem Ct(x:am):cK (.agg (al x))=some [.int .i64 x.Op,.str x.Name,.int .i64 x.N,sl al x.Kids]:=by rw[cC];rfl
theorem Sn(x:am):∀q∈al x,q.one=true:=by
 intro q hq
 rw[cC]at hq
 simp only[vaB,vbi,or_false]at hq
 rcases hq with rfl|rfl|rfl|rfl<;>rfl
theorem Vv:Pg.cellsOf 58=4:=by kernel_rfl
theorem qj(x:am):bv Pg 58 (al x)=some (.agg (al x)):=by
 have:=pD (P:=Pg) (t:=58) (l:=al x) (r:=[]) (by kernel_rfl) (Vv.trans (GD x).symm)
 rwa[vbh]at this
theorem yr(x:am)(r:List PVal):bv Pg 58 ([.int .i64 x.Op,.str x.Name,.int .i64 x.N,sl al x.Kids]++r)=some (.agg (al x)):=by
 rw[<-cC];exact pD (by kernel_rfl) (Vv.trans (GD x).symm)
theorem SH(x:am):PVal.agg [.int .i64 x.Op,.str x.Name,.int .i64 x.N,sl al x.Kids]=.agg (al x):=by rw[cC]
theorem sX(x:am):aV Pg 58 (.eptr (al x)) 0=some (.eptr ((al x).drop 0)):=by rw[cC];kernel_rfl
theorem oD(x:am):aV Pg 58 (.eptr (al x)) 1=some (.eptr ((al x).drop 1)):=by rw[cC];kernel_rfl
theorem sY(x:am):aV Pg 58 (.eptr (al x)) 2=some (.eptr ((al x).drop 2)):=by rw[cC];kernel_rfl
theorem gY(x:am):aV Pg 58 (.eptr (al x)) 3=some (.eptr ((al x).drop 3)):=by rw[cC];kernel_rfl
theorem sZ(x:am):bv Pg 55 ((al x).drop 0)=some (.int .i64 x.Op):=by rw[cC];kernel_rfl
theorem qi(x:am):bv Pg 9 ((al x).drop 1)=some (.str x.Name):=by rw[cC];kernel_rfl
theorem uO(x:am):bv Pg 3 ((al x).drop 2)=some (.int .i64 x.N):=by rw[cC];kernel_rfl
theorem g5(x:am):bv Pg 56 ((al x).drop 3)=some (sl al x.Kids):=by rw[cC];kernel_rfl
inductive aj where
 |mk (Op:Int) (Name:af) (Args:(List aj)) (Names:(List af)) (Pred:am) (Preds:(List am))
def aj.Op:aj->Int
 |⟨x,_,_,_,_,_⟩=>x
def aj.Name:aj->af
 |⟨_,x,_,_,_,_⟩=>x
def aj.Args:aj->(List aj)
 |⟨_,_,x,_,_,_⟩=>x
def aj.Names:aj->(List af)
 |⟨_,_,_,x,_,_⟩=>x
def aj.Pred:aj->am
 |⟨_,_,_,_,x,_⟩=>x
def aj.Preds:aj->(List am)
 |⟨_,_,_,_,_,x⟩=>x
mutual
def ai:aj->List PVal
 |⟨x0,x1,x2,x3,x4,x5⟩=>[.int .i64 x0,.str x1,.slice (xc x2),sl cS x3]++(al x4++([sl al x5]))
def xc:List aj->List (List PVal)
 |[]=>[]
 |x::r=>ai x::xc r
end
theorem JS:∀(l:List aj),xc l=l.map ai
 |[]=>by simp[xc]
 |x::r=>by simp[xc,JS r]
mutual
theorem aE:∀(x:aj),jK 0 (ai x)
 |⟨x0,x1,x2,x3,x4,x5⟩=>by rw[ai];exact DV.2 (aI ((aI trivial (aI trivial (aI (LE x2) (aI (ak bD x3) trivial))))) (DV.2 (aI (aR x4) ((aI (ak aR x5) trivial)))))
theorem LE:∀(l:List aj),wv 0 (xc l)
 |[]=>by simp[xc,wv]
 |x::r=>by rw[xc];exact⟨aE x,LE r⟩
end
theorem cO:∀(x:aj),ai x=[.int .i64 x.Op,.str x.Name,sl ai x.Args,sl cS x.Names,.int .i64 x.Pred.Op,.str x.Pred.Name,.int .i64 x.Pred.N,sl al x.Pred.Kids,sl al x.Preds]
 |⟨x0,x1,x2,x3,x4,x5⟩=>by
  simp only[ai,JS,cC,vaM,vaZ]
  rfl
abbrev NB(x:aj):PVal:=.agg (ai x)
theorem GF(x:aj):(ai x).length=9:=by rw[cO];rfl
theorem qp(x:aj):cK (.agg (ai x))=some (ai x):=rfl
theorem Me(x:aj):cK (NB x)=some (ai x):=rfl
theorem sa(x:aj):cK (.agg (ai x))=some [.int .i64 x.Op,.str x.Name,sl ai x.Args,sl cS x.Names,.int .i64 x.Pred.Op,.str x.Pred.Name,.int .i64 x.Pred.N,sl al x.Pred.Kids,sl al x.Preds]:=by rw[cO];rfl
theorem So(x:aj):∀q∈ai x,q.one=true:=by
 intro q hq
 rw[cO]at hq
 simp only[vaB,vbi,or_false]at hq
 rcases hq with rfl|rfl|rfl|rfl|rfl|rfl|rfl|rfl|rfl<;>rfl
theorem Vw:Pg.cellsOf 60=9:=by kernel_rfl
theorem lT(x:aj):bv Pg 60 (ai x)=some (.agg (ai x)):=by
 have:=pD (P:=Pg) (t:=60) (l:=ai x) (r:=[]) (by kernel_rfl) (Vw.trans (GF x).symm)
 rwa[vbh]at this
theorem kW(x:aj)(r:List PVal):bv Pg 60 ([.int .i64 x.Op,.str x.Name,sl ai x.Args,sl cS x.Names,.int .i64 x.Pred.Op,.str x.Pred.Name,.int .i64 x.Pred.N,sl al x.Pred.Kids,sl al x.Preds]++r)=some (.agg (ai x)):=by
 rw[<-cO];exact pD (by kernel_rfl) (Vw.trans (GF x).symm)
theorem SI(x:aj):PVal.agg [.int .i64 x.Op,.str x.Name,sl ai x.Args,sl cS x.Names,.int .i64 x.Pred.Op,.str x.Pred.Name,.int .i64 x.Pred.N,sl al x.Pred.Kids,sl al x.Preds]=.agg (ai x):=by rw[cO]
theorem PB:dQ Pg 60 []=some (.agg (ai (⟨0,([]:af),([]:List aj),([]:List af),(⟨0,([]:af),0,([]:List am)⟩:am),([]:List am)⟩:aj))):=by
 simp only[cO]
 kernel_rfl
theorem PA:Ee Pg 60 [] [(2,60),(3,9),(7,58),(8,58)]:=by
 exact⟨[.int .i64 0,.str ([]:af),.val kl,.val kl,.int .i64 0,.str ([]:af),.int .i64 0,.val kl,.val kl],by kernel_rfl,(aI rfl (aI rfl (aI rfl (aI rfl trivial))))⟩
theorem de(x:aj):aV Pg 60 (.eptr (ai x)) 0=some (.eptr ((ai x).drop 0)):=by rw[cO];kernel_rfl
theorem gZ(x:aj):aV Pg 60 (.eptr (ai x)) 1=some (.eptr ((ai x).drop 1)):=by rw[cO];kernel_rfl
theorem dH(x:aj):aV Pg 60 (.eptr (ai x)) 2=some (.eptr ((ai x).drop 2)):=by rw[cO];kernel_rfl
theorem fi(x:aj):aV Pg 60 (.eptr (ai x)) 3=some (.eptr ((ai x).drop 3)):=by rw[cO];kernel_rfl
theorem oE(x:aj):aV Pg 60 (.eptr (ai x)) 4=some (.eptr ((ai x).drop 4)):=by rw[cO];kernel_rfl
theorem jj(x:aj):aV Pg 60 (.eptr (ai x)) 5=some (.eptr ((ai x).drop 8)):=by rw[cO];kernel_rfl
theorem df(x:aj):bv Pg 54 ((ai x).drop 0)=some (.int .i64 x.Op):=by rw[cO];kernel_rfl
theorem jb(x:aj):bv Pg 9 ((ai x).drop 1)=some (.str x.Name):=by rw[cO];kernel_rfl
theorem dI(x:aj):bv Pg 26 ((ai x).drop 2)=some (sl ai x.Args):=by rw[cO];kernel_rfl
theorem fl(x:aj):bv Pg 38 ((ai x).drop 3)=some (sl cS x.Names):=by rw[cO];kernel_rfl
theorem oF(x:aj):bv Pg 58 ((ai x).drop 4)=some (.agg (al x.Pred)):=by
 rw[cO,cC];kernel_rfl
theorem jl(x:aj):bv Pg 56 ((ai x).drop 8)=some (sl al x.Preds):=by rw[cO];kernel_rfl
structure ax where
 Name:af
 Type_:aj
def aw(x:ax):List PVal:=[.str x.Name]++(ai x.Type_)
theorem jq(x:ax):aw x=[.str x.Name,.int .i64 x.Type_.Op,.str x.Type_.Name,sl ai x.Type_.Args,sl cS x.Type_.Names,.int .i64 x.Type_.Pred.Op,.str x.Type_.Pred.Name,.int .i64 x.Type_.Pred.N,sl al x.Type_.Pred.Kids,sl al x.Type_.Preds]:=by
 unfold aw
 simp only[cO,vaM,vaZ]
theorem aY(x:ax):jK 0 (aw x):=by rw[jq];exact(aI trivial (aI trivial (aI trivial (aI (ak aE x.Type_.Args) (aI (ak bD x.Type_.Names) (aI trivial (aI trivial (aI trivial (aI (ak aR x.Type_.Pred.Kids) (aI (ak aR x.Type_.Preds) trivial))))))))))
abbrev B7(x:ax):PVal:=.agg (aw x)
theorem D2(x:ax):(aw x).length=10:=by rw[jq];rfl
theorem zw(x:ax):cK (B7 x)=some (aw x):=rfl
theorem nl(x:ax):cK (.agg (aw x))=some [.str x.Name,.int .i64 x.Type_.Op,.str x.Type_.Name,sl ai x.Type_.Args,sl cS x.Type_.Names,.int .i64 x.Type_.Pred.Op,.str x.Type_.Pred.Name,.int .i64 x.Type_.Pred.N,sl al x.Type_.Pred.Kids,sl al x.Type_.Preds]:=by rw[jq];rfl
theorem P7(x:ax):∀q∈aw x,q.one=true:=by
 intro q hq
 rw[jq]at hq
 simp only[vaB,vbi,or_false]at hq
 rcases hq with rfl|rfl|rfl|rfl|rfl|rfl|rfl|rfl|rfl|rfl<;>rfl
theorem Vy:Pg.cellsOf 85=10:=by kernel_rfl
theorem Co(x:ax):bv Pg 85 (aw x)=some (.agg (aw x)):=by
 have:=pD (P:=Pg) (t:=85) (l:=aw x) (r:=[]) (by kernel_rfl) (Vy.trans (D2 x).symm)
 rwa[vbh]at this
theorem JY(x:ax)(r:List PVal):bv Pg 85 ([.str x.Name,.int .i64 x.Type_.Op,.str x.Type_.Name,sl ai x.Type_.Args,sl cS x.Type_.Names,.int .i64 x.Type_.Pred.Op,.str x.Type_.Pred.Name,.int .i64 x.Type_.Pred.N,sl al x.Type_.Pred.Kids,sl al x.Type_.Preds]++r)=some (.agg (aw x)):=by
 rw[<-jq];exact pD (by kernel_rfl) (Vy.trans (D2 x).symm)
theorem Ks(x:ax):PVal.agg [.str x.Name,.int .i64 x.Type_.Op,.str x.Type_.Name,sl ai x.Type_.Args,sl cS x.Type_.Names,.int .i64 x.Type_.Pred.Op,.str x.Type_.Pred.Name,.int .i64 x.Type_.Pred.N,sl al x.Type_.Pred.Kids,sl al x.Type_.Preds]=.agg (aw x):=by rw[jq]
theorem Db(x0:af)(x1:aj):dQ Pg 85 [(0,.str x0),(1,.agg (ai x1))]=some (.agg (aw (⟨x0,x1⟩:ax))):=by
 simp only[jq,cO]
 kernel_rfl
theorem HF(x0:af):dQ Pg 85 [(0,.str x0)]=some (.agg (aw (⟨x0,(⟨0,([]:af),([]:List aj),([]:List af),(⟨0,([]:af),0,([]:List am)⟩:am),([]:List am)⟩:aj)⟩:ax))):=by
 simp only[jq]
 kernel_rfl
theorem HE(x0:af):Ee Pg 85 [(0,.str x0)] [(3,60),(4,9),(8,58),(9,58)]:=by
 exact⟨[.str x0,.int .i64 0,.str ([]:af),.val kl,.val kl,.int .i64 0,.str ([]:af),.int .i64 0,.val kl,.val kl],by kernel_rfl,(aI rfl (aI rfl (aI rfl (aI rfl trivial))))⟩
theorem vL(x:ax):aV Pg 85 (.eptr (aw x)) 0=some (.eptr ((aw x).drop 0)):=by rw[jq];kernel_rfl
theorem vM(x:ax):aV Pg 85 (.eptr (aw x)) 1=some (.eptr ((aw x).drop 1)):=by rw[jq];kernel_rfl
theorem xO(x:ax):bv Pg 9 ((aw x).drop 0)=some (.str x.Name):=by rw[jq];kernel_rfl
theorem vQ(x:ax):bv Pg 60 ((aw x).drop 1)=some (.agg (ai x.Type_)):=by
 rw[jq,cO];kernel_rfl
mutual
inductive ag where
 |mk (Op:Int) (Name:af) (N:Int) (Kids:(List ag)) (Params:(List ax)) (Alts:(List aG)) (Types:(List aj))
inductive aG where
 |mk (Con:af) (Names:(List af)) (Body:ag)
end
def ag.Op:ag->Int
 |⟨x,_,_,_,_,_,_⟩=>x
def ag.Name:ag->af
 |⟨_,x,_,_,_,_,_⟩=>x
def ag.N:ag->Int
 |⟨_,_,x,_,_,_,_⟩=>x
def ag.Kids:ag->(List ag)
 |⟨_,_,_,x,_,_,_⟩=>x
def ag.Params:ag->(List ax)
 |⟨_,_,_,_,x,_,_⟩=>x
def ag.Alts:ag->(List aG)
 |⟨_,_,_,_,_,x,_⟩=>x
def ag.Types:ag->(List aj)
 |⟨_,_,_,_,_,_,x⟩=>x
def aG.Con:aG->af
 |⟨x,_,_⟩=>x
def aG.Names:aG->(List af)
 |⟨_,x,_⟩=>x
def aG.Body:aG->ag
 |⟨_,_,x⟩=>x
mutual
def ae:ag->List PVal
 |⟨x0,x1,x2,x3,x4,x5,x6⟩=>[.int .i64 x0,.str x1,.int .i64 x2,.slice (w9 x3),sl aw x4,.slice (Bm x5),sl ai x6]
def aA:aG->List PVal
 |⟨x0,x1,x2⟩=>[.str x0,sl cS x1]++(ae x2)
def w9:List ag->List (List PVal)
 |[]=>[]
 |x::r=>ae x::w9 r
def Bm:List aG->List (List PVal)
 |[]=>[]
 |x::r=>aA x::Bm r
end
theorem JQ:∀(l:List ag),w9 l=l.map ae
 |[]=>by simp[w9]
 |x::r=>by simp[w9,JQ r]
theorem LW:∀(l:List aG),Bm l=l.map aA
 |[]=>by simp[Bm]
 |x::r=>by simp[Bm,LW r]
mutual
theorem ay:∀(x:ag),jK 0 (ae x)
 |⟨x0,x1,x2,x3,x4,x5,x6⟩=>by rw[ae];exact(aI trivial (aI trivial (aI trivial (aI (LC x3) (aI (ak aY x4) (aI (N6 x5) (aI (ak aE x6) trivial)))))))
theorem bK:∀(x:aG),jK 0 (aA x)
 |⟨x0,x1,x2⟩=>by rw[aA];exact DV.2 (aI ((aI trivial (aI (ak bD x1) trivial))) (ay x2))
theorem LC:∀(l:List ag),wv 0 (w9 l)
 |[]=>by simp[w9,wv]
 |x::r=>by rw[w9];exact⟨ay x,LC r⟩
theorem N6:∀(l:List aG),wv 0 (Bm l)
 |[]=>by simp[Bm,wv]
 |x::r=>by rw[Bm];exact⟨bK x,N6 r⟩
end
theorem bE:∀(x:ag),ae x=[.int .i64 x.Op,.str x.Name,.int .i64 x.N,sl ae x.Kids,sl aw x.Params,sl aA x.Alts,sl ai x.Types]
 |⟨x0,x1,x2,x3,x4,x5,x6⟩=>by
  simp only[ae,JQ,LW]
  rfl
abbrev td(x:ag):PVal:=.agg (ae x)
theorem GB(x:ag):(ae x).length=7:=by rw[bE];rfl
theorem dy(x:ag):cK (.agg (ae x))=some (ae x):=rfl
theorem nR(x:ag):cK (td x)=some (ae x):=rfl
theorem lb(x:ag):cK (.agg (ae x))=some [.int .i64 x.Op,.str x.Name,.int .i64 x.N,sl ae x.Kids,sl aw x.Params,sl aA x.Alts,sl ai x.Types]:=by rw[bE];rfl
theorem Sm(x:ag):∀q∈ae x,q.one=true:=by
 intro q hq
 rw[bE]at hq
 simp only[vaB,vbi,or_false]at hq
 rcases hq with rfl|rfl|rfl|rfl|rfl|rfl|rfl<;>rfl
theorem Vu:Pg.cellsOf 28=7:=by kernel_rfl
theorem Vz:Pg.cellsOf 89=9:=by kernel_rfl
theorem b9(x:ag):bv Pg 28 (ae x)=some (.agg (ae x)):=by
 have:=pD (P:=Pg) (t:=28) (l:=ae x) (r:=[]) (by kernel_rfl) (Vu.trans (GB x).symm)
 rwa[vbh]at this
theorem ce(x:ag)(r:List PVal):bv Pg 28 ([.int .i64 x.Op,.str x.Name,.int .i64 x.N,sl ae x.Kids,sl aw x.Params,sl aA x.Alts,sl ai x.Types]++r)=some (.agg (ae x)):=by
 rw[<-bE];exact pD (by kernel_rfl) (Vu.trans (GB x).symm)
theorem sj(x:ag):PVal.agg [.int .i64 x.Op,.str x.Name,.int .i64 x.N,sl ae x.Kids,sl aw x.Params,sl aA x.Alts,sl ai x.Types]=.agg (ae x):=by rw[bE]
theorem EU(x0:Int)(x1:af):dQ Pg 28 [(0,.int .i64 x0),(1,.str x1)]=some (.agg (ae (⟨x0,x1,0,([]:List ag),([]:List ax),([]:List aG),([]:List aj)⟩:ag))):=by
 simp only[bE]
 kernel_rfl
theorem EP(x0:Int)(x1:af):Ee Pg 28 [(0,.int .i64 x0),(1,.str x1)] [(3,28),(4,85),(5,89),(6,60)]:=by
 exact⟨[.int .i64 x0,.str x1,.int .i64 0,.val kl,.val kl,.val kl,.val kl],by kernel_rfl,(aI rfl (aI rfl (aI rfl (aI rfl trivial))))⟩
theorem Ba(x0:Int)(x1:af)(x3:(List ag)):dQ Pg 28 [(0,.int .i64 x0),(1,.str x1),(3,sl ae x3)]=some (.agg (ae (⟨x0,x1,0,x3,([]:List ax),([]:List aG),([]:List aj)⟩:ag))):=by
 simp only[bE]
 kernel_rfl
theorem A7(x0:Int)(x1:af)(x3:(List ag)):Ee Pg 28 [(0,.int .i64 x0),(1,.str x1),(3,sl ae x3)] [(4,85),(5,89),(6,60)]:=by
 exact⟨[.int .i64 x0,.str x1,.int .i64 0,sl ae x3,.val kl,.val kl,.val kl],by kernel_rfl,(aI rfl (aI rfl (aI rfl trivial)))⟩
theorem MH(x0:Int)(x2:Int):dQ Pg 28 [(0,.int .i64 x0),(2,.int .i64 x2)]=some (.agg (ae (⟨x0,([]:af),x2,([]:List ag),([]:List ax),([]:List aG),([]:List aj)⟩:ag))):=by
 simp only[bE]
 kernel_rfl
theorem MF(x0:Int)(x2:Int):Ee Pg 28 [(0,.int .i64 x0),(2,.int .i64 x2)] [(3,28),(4,85),(5,89),(6,60)]:=by
 exact⟨[.int .i64 x0,.str ([]:af),.int .i64 x2,.val kl,.val kl,.val kl,.val kl],by kernel_rfl,(aI rfl (aI rfl (aI rfl (aI rfl trivial))))⟩
theorem MI(x0:Int)(x3:(List ag)):dQ Pg 28 [(0,.int .i64 x0),(3,sl ae x3)]=some (.agg (ae (⟨x0,([]:af),0,x3,([]:List ax),([]:List aG),([]:List aj)⟩:ag))):=by
 simp only[bE]
 kernel_rfl
theorem MG(x0:Int)(x3:(List ag)):Ee Pg 28 [(0,.int .i64 x0),(3,sl ae x3)] [(4,85),(5,89),(6,60)]:=by
 exact⟨[.int .i64 x0,.str ([]:af),.int .i64 0,sl ae x3,.val kl,.val kl,.val kl],by kernel_rfl,(aI rfl (aI rfl (aI rfl trivial)))⟩
theorem Bb(x0:Int)(x4:(List ax))(x3:(List ag)):dQ Pg 28 [(0,.int .i64 x0),(4,sl aw x4),(3,sl ae x3)]=some (.agg (ae (⟨x0,([]:af),0,x3,x4,([]:List aG),([]:List aj)⟩:ag))):=by
 simp only[bE]
 kernel_rfl
theorem A9(x0:Int)(x4:(List ax))(x3:(List ag)):Ee Pg 28 [(0,.int .i64 x0),(4,sl aw x4),(3,sl ae x3)] [(5,89),(6,60)]:=by
 exact⟨[.int .i64 x0,.str ([]:af),.int .i64 0,sl ae x3,sl aw x4,.val kl,.val kl],by kernel_rfl,(aI rfl (aI rfl trivial))⟩
theorem dZ(x:ag):aV Pg 28 (.eptr (ae x)) 0=some (.eptr ((ae x).drop 0)):=by rw[bE];kernel_rfl
theorem eJ(x:ag):aV Pg 28 (.eptr (ae x)) 1=some (.eptr ((ae x).drop 1)):=by rw[bE];kernel_rfl
theorem ji(x:ag):aV Pg 28 (.eptr (ae x)) 2=some (.eptr ((ae x).drop 2)):=by rw[bE];kernel_rfl
theorem bw(x:ag):aV Pg 28 (.eptr (ae x)) 3=some (.eptr ((ae x).drop 3)):=by rw[bE];kernel_rfl
theorem bP(x:ag):aV Pg 28 (.eptr (ae x)) 4=some (.eptr ((ae x).drop 4)):=by rw[bE];kernel_rfl
theorem aK(x:ag):aV Pg 28 (.eptr (ae x)) 5=some (.eptr ((ae x).drop 5)):=by rw[bE];kernel_rfl
theorem aM(x:ag):aV Pg 28 (.eptr (ae x)) 6=some (.eptr ((ae x).drop 6)):=by rw[bE];kernel_rfl
theorem d7(x:ag):bv Pg 22 ((ae x).drop 0)=some (.int .i64 x.Op):=by rw[bE];kernel_rfl
theorem ft(x:ag):bv Pg 9 ((ae x).drop 1)=some (.str x.Name):=by rw[bE];kernel_rfl
theorem kk(x:ag):bv Pg 3 ((ae x).drop 2)=some (.int .i64 x.N):=by rw[bE];kernel_rfl
theorem bz(x:ag):bv Pg 23 ((ae x).drop 3)=some (sl ae x.Kids):=by rw[bE];kernel_rfl
theorem bQ(x:ag):bv Pg 24 ((ae x).drop 4)=some (sl aw x.Params):=by rw[bE];kernel_rfl
theorem aL(x:ag):bv Pg 25 ((ae x).drop 5)=some (sl aA x.Alts):=by rw[bE];kernel_rfl
theorem aN(x:ag):bv Pg 26 ((ae x).drop 6)=some (sl ai x.Types):=by rw[bE];kernel_rfl
theorem nI:∀(x:aG),aA x=[.str x.Con,sl cS x.Names,.int .i64 x.Body.Op,.str x.Body.Name,.int .i64 x.Body.N,sl ae x.Body.Kids,sl aw x.Body.Params,sl aA x.Body.Alts,sl ai x.Body.Types]
 |⟨x0,x1,x2⟩=>by
  simp only[aA,bE,vaM,vaZ]
  rfl
abbrev Qr(x:aG):PVal:=.agg (aA x)
theorem JV(x:aG):(aA x).length=9:=by rw[nI];rfl
theorem Nj(x:aG):cK (.agg (aA x))=some (aA x):=rfl
theorem OV(x:aG):cK (Qr x)=some (aA x):=rfl
theorem jz(x:aG):cK (.agg (aA x))=some [.str x.Con,sl cS x.Names,.int .i64 x.Body.Op,.str x.Body.Name,.int .i64 x.Body.N,sl ae x.Body.Kids,sl aw x.Body.Params,sl aA x.Body.Alts,sl ai x.Body.Types]:=by rw[nI];rfl
theorem Uv(x:aG):∀q∈aA x,q.one=true:=by
 intro q hq
 rw[nI]at hq
 simp only[vaB,vbi,or_false]at hq
 rcases hq with rfl|rfl|rfl|rfl|rfl|rfl|rfl|rfl|rfl<;>rfl
theorem mH(x:aG):bv Pg 89 (aA x)=some (.agg (aA x)):=by
 have:=pD (P:=Pg) (t:=89) (l:=aA x) (r:=[]) (by kernel_rfl) (Vz.trans (JV x).symm)
 rwa[vbh]at this
theorem OC(x:aG)(r:List PVal):bv Pg 89 ([.str x.Con,sl cS x.Names,.int .i64 x.Body.Op,.str x.Body.Name,.int .i64 x.Body.N,sl ae x.Body.Kids,sl aw x.Body.Params,sl aA x.Body.Alts,sl ai x.Body.Types]++r)=some (.agg (aA x)):=by
 rw[<-nI];exact pD (by kernel_rfl) (Vz.trans (JV x).symm)
theorem O9(x:aG):PVal.agg [.str x.Con,sl cS x.Names,.int .i64 x.Body.Op,.str x.Body.Name,.int .i64 x.Body.N,sl ae x.Body.Kids,sl aw x.Body.Params,sl aA x.Body.Alts,sl ai x.Body.Types]=.agg (aA x):=by rw[nI]
theorem Da(x0:af)(x1:(List af))(x2:ag):dQ Pg 89 [(0,.str x0),(1,sl cS x1),(2,.agg (ae x2))]=some (.agg (aA (⟨x0,x1,x2⟩:aG))):=by
 simp only[nI,bE]
 kernel_rfl
theorem zm(x:aG):aV Pg 89 (.eptr (aA x)) 0=some (.eptr ((aA x).drop 0)):=by rw[nI];kernel_rfl
theorem uJ(x:aG):aV Pg 89 (.eptr (aA x)) 1=some (.eptr ((aA x).drop 1)):=by rw[nI];kernel_rfl
theorem zn(x:aG):aV Pg 89 (.eptr (aA x)) 2=some (.eptr ((aA x).drop 2)):=by rw[nI];kernel_rfl
theorem Bn(x:aG):bv Pg 9 ((aA x).drop 0)=some (.str x.Con):=by rw[nI];kernel_rfl
theorem uM(x:aG):bv Pg 38 ((aA x).drop 1)=some (sl cS x.Names):=by rw[nI];kernel_rfl
theorem zr(x:aG):bv Pg 28 ((aA x).drop 2)=some (.agg (ae x.Body)):=by
 rw[nI,bE];kernel_rfl
structure ac where
 old:af
 new:af
deriving DecidableEq
def aa(x:ac):List PVal:=[.str x.old,.str x.new]
theorem vJ(x:ac):aa x=[.str x.old,.str x.new]:=rfl
theorem au(x:ac):jK 0 (aa x):=(aI trivial (aI trivial trivial))
abbrev oR(x:ac):PVal:=.agg (aa x)
theorem zU(x:ac):(aa x).length=2:=by rw[vJ];rfl
theorem pk(x:ac):cK (oR x)=some (aa x):=rfl
theorem Iw(x:ac):cK (.agg (aa x))=some [.str x.old,.str x.new]:=by rw[vJ];rfl
theorem Iv(x:ac):∀q∈aa x,q.one=true:=by
 intro q hq
 rw[vJ]at hq
 simp only[vaB,vbi,or_false]at hq
 rcases hq with rfl|rfl<;>rfl
theorem TG:Pg.cellsOf 137=2:=by kernel_rfl
theorem JX(x:ac):bv Pg 137 (aa x)=some (.agg (aa x)):=by
 have:=pD (P:=Pg) (t:=137) (l:=aa x) (r:=[]) (by kernel_rfl) (TG.trans (zU x).symm)
 rwa[vbh]at this
theorem lG(x0:af)(x1:af):dQ Pg 137 [(0,.str x0),(1,.str x1)]=some (.agg (aa (⟨x0,x1⟩:ac))):=by
 kernel_rfl
structure av where
 n:Bool
 name:Bool
 least:Int
 most:Int
 params:Bool
 alts:Bool
 typesLeast:Int
 typesMost:Int
 types:Bool
deriving DecidableEq
def aD(x:av):List PVal:=[.bool x.n,.bool x.name,.int .i64 x.least,.int .i64 x.most,.bool x.params,.bool x.alts,.int .i64 x.typesLeast,.int .i64 x.typesMost,.bool x.types]
theorem oU(x:av):aD x=[.bool x.n,.bool x.name,.int .i64 x.least,.int .i64 x.most,.bool x.params,.bool x.alts,.int .i64 x.typesLeast,.int .i64 x.typesMost,.bool x.types]:=rfl
theorem bJ(x:av):jK 0 (aD x):=(aI trivial (aI trivial (aI trivial (aI trivial (aI trivial (aI trivial (aI trivial (aI trivial (aI trivial trivial)))))))))
theorem GA(x:av):(aD x).length=9:=by rw[oU];rfl
theorem z6(x:av):cK (.agg (aD x))=some (aD x):=rfl
theorem cD(x:av):cK (.agg (aD x))=some [.bool x.n,.bool x.name,.int .i64 x.least,.int .i64 x.most,.bool x.params,.bool x.alts,.int .i64 x.typesLeast,.int .i64 x.typesMost,.bool x.types]:=by rw[oU];rfl
theorem Yj:Pg.cellsOf 147=9:=by kernel_rfl
theorem yq(x:av)(r:List PVal):bv Pg 147 ([.bool x.n,.bool x.name,.int .i64 x.least,.int .i64 x.most,.bool x.params,.bool x.alts,.int .i64 x.typesLeast,.int .i64 x.typesMost,.bool x.types]++r)=some (.agg (aD x)):=by
 rw[<-oU];exact pD (by kernel_rfl) (Yj.trans (GA x).symm)
theorem cQ(x:av):PVal.agg [.bool x.n,.bool x.name,.int .i64 x.least,.int .i64 x.most,.bool x.params,.bool x.alts,.int .i64 x.typesLeast,.int .i64 x.typesMost,.bool x.types]=.agg (aD x):=by rw[oU]
theorem ET:dQ Pg 147 []=some (.agg (aD (⟨false,false,0,0,false,false,0,0,false⟩:av))):=by
 kernel_rfl
theorem ER(x0:Bool):dQ Pg 147 [(0,.bool x0)]=some (.agg (aD (⟨x0,false,0,0,false,false,0,0,false⟩:av))):=by
 kernel_rfl
theorem As(x1:Bool)(x2:Int)(x3:Int):dQ Pg 147 [(1,.bool x1),(2,.int .i64 x2),(3,.int .i64 x3)]=some (.agg (aD (⟨false,x1,x2,x3,false,false,0,0,false⟩:av))):=by
 kernel_rfl
theorem nZ(x1:Bool)(x2:Int)(x3:Int)(x8:Bool)(x7:Int):dQ Pg 147 [(1,.bool x1),(2,.int .i64 x2),(3,.int .i64 x3),(8,.bool x8),(7,.int .i64 x7)]=some (.agg (aD (⟨false,x1,x2,x3,false,false,0,x7,x8⟩:av))):=by
 kernel_rfl
theorem yg(x1:Bool)(x3:Int)(x8:Bool)(x7:Int):dQ Pg 147 [(1,.bool x1),(3,.int .i64 x3),(8,.bool x8),(7,.int .i64 x7)]=some (.agg (aD (⟨false,x1,0,x3,false,false,0,x7,x8⟩:av))):=by
 kernel_rfl
theorem ES(x1:Bool):dQ Pg 147 [(1,.bool x1)]=some (.agg (aD (⟨false,x1,0,0,false,false,0,0,false⟩:av))):=by
 kernel_rfl
theorem oe(x2:Int)(x3:Int):dQ Pg 147 [(2,.int .i64 x2),(3,.int .i64 x3)]=some (.agg (aD (⟨false,false,x2,x3,false,false,0,0,false⟩:av))):=by
 kernel_rfl
theorem wu(x2:Int)(x3:Int)(x8:Bool)(x6:Int)(x7:Int):dQ Pg 147 [(2,.int .i64 x2),(3,.int .i64 x3),(8,.bool x8),(6,.int .i64 x6),(7,.int .i64 x7)]=some (.agg (aD (⟨false,false,x2,x3,false,false,x6,x7,x8⟩:av))):=by
 kernel_rfl
theorem At(x4:Bool)(x2:Int)(x3:Int):dQ Pg 147 [(4,.bool x4),(2,.int .i64 x2),(3,.int .i64 x3)]=some (.agg (aD (⟨false,false,x2,x3,x4,false,0,0,false⟩:av))):=by
 kernel_rfl
theorem Au(x5:Bool)(x2:Int)(x3:Int):dQ Pg 147 [(5,.bool x5),(2,.int .i64 x2),(3,.int .i64 x3)]=some (.agg (aD (⟨false,false,x2,x3,false,x5,0,0,false⟩:av))):=by
 kernel_rfl
theorem Av(x:av):aV Pg 147 (.eptr (aD x)) 1=some (.eptr ((aD x).drop 1)):=by kernel_rfl
theorem Aw(x:av):aV Pg 147 (.eptr (aD x)) 2=some (.eptr ((aD x).drop 2)):=by kernel_rfl
theorem Ax(x:av):aV Pg 147 (.eptr (aD x)) 3=some (.eptr ((aD x).drop 3)):=by kernel_rfl
theorem Ay(x:av):aV Pg 147 (.eptr (aD x)) 4=some (.eptr ((aD x).drop 4)):=by kernel_rfl
theorem ry(x:av):aV Pg 147 (.eptr (aD x)) 5=some (.eptr ((aD x).drop 5)):=by kernel_rfl
theorem Az(x:av):aV Pg 147 (.eptr (aD x)) 6=some (.eptr ((aD x).drop 6)):=by kernel_rfl
theorem AA(x:av):aV Pg 147 (.eptr (aD x)) 7=some (.eptr ((aD x).drop 7)):=by kernel_rfl
theorem CG(x:av):bv Pg 4 ((aD x).drop 1)=some (.bool x.name):=by kernel_rfl
theorem CH(x:av):bv Pg 3 ((aD x).drop 2)=some (.int .i64 x.least):=by kernel_rfl
theorem CI(x:av):bv Pg 3 ((aD x).drop 3)=some (.int .i64 x.most):=by kernel_rfl
theorem CJ(x:av):bv Pg 4 ((aD x).drop 4)=some (.bool x.params):=by kernel_rfl
theorem ug(x:av):bv Pg 4 ((aD x).drop 5)=some (.bool x.alts):=by kernel_rfl
theorem CK(x:av):bv Pg 3 ((aD x).drop 6)=some (.int .i64 x.typesLeast):=by kernel_rfl
theorem CL(x:av):bv Pg 3 ((aD x).drop 7)=some (.int .i64 x.typesMost):=by kernel_rfl
structure Qp where
 Name:af
 Sort_:af
deriving DecidableEq
def zi(x:Qp):List PVal:=[.str x.Name,.str x.Sort_]
theorem VE(x:Qp):zi x=[.str x.Name,.str x.Sort_]:=rfl
theorem MM(x:Qp):jK 0 (zi x):=(aI trivial (aI trivial trivial))
structure Qo where
 Name:af
 Names:(List af)
 Fields:(List aj)
def zh(x:Qo):List PVal:=[.str x.Name,sl cS x.Names,sl ai x.Fields]
theorem MS(x:Qo):zh x=[.str x.Name,sl cS x.Names,sl ai x.Fields]:=rfl
theorem QL(x:Qo):jK 0 (zh x):=(aI trivial (aI (ak bD x.Names) (aI (ak aE x.Fields) trivial)))
theorem Ud(x:Qo):(zh x).length=3:=by rw[MS];rfl
theorem Uw(x:Qo):∀q∈zh x,q.one=true:=by
 intro q hq
 rw[MS]at hq
 simp only[vaB,vbi,or_false]at hq
 rcases hq with rfl|rfl|rfl<;>rfl
theorem Wt:Pg.cellsOf 121=3:=by kernel_rfl
structure F7 where
 Name:af
 Vars:(List af)
 Preds:(List Qp)
 Cons:(List Qo)
def nG(x:F7):List PVal:=[.str x.Name,sl cS x.Vars,sl zi x.Preds,sl zh x.Cons]
theorem JE(x:F7):nG x=[.str x.Name,sl cS x.Vars,sl zi x.Preds,sl zh x.Cons]:=rfl
theorem N4(x:F7):jK 0 (nG x):=(aI trivial (aI (ak bD x.Vars) (aI (ak MM x.Preds) (aI (ak QL x.Cons) trivial))))
theorem R7(x:F7):(nG x).length=4:=by rw[JE];rfl
theorem Sl(x:F7):∀q∈nG x,q.one=true:=by
 intro q hq
 rw[JE]at hq
 simp only[vaB,vbi,or_false]at hq
 rcases hq with rfl|rfl|rfl|rfl<;>rfl
theorem Yp:Pg.cellsOf 70=4:=by kernel_rfl
theorem K6(x:F7):aV Pg 70 (.eptr (nG x)) 3=some (.eptr ((nG x).drop 3)):=by kernel_rfl
theorem La(x:F7):bv Pg 68 ((nG x).drop 3)=some (sl zh x.Cons):=by kernel_rfl
structure F8 where
 Name:af
 Type_:aj
def uZ(x:F8):List PVal:=[.str x.Name]++(ai x.Type_)
theorem JF(x:F8):uZ x=[.str x.Name,.int .i64 x.Type_.Op,.str x.Type_.Name,sl ai x.Type_.Args,sl cS x.Type_.Names,.int .i64 x.Type_.Pred.Op,.str x.Type_.Pred.Name,.int .i64 x.Type_.Pred.N,sl al x.Type_.Pred.Kids,sl al x.Type_.Preds]:=by
 unfold uZ
 simp only[cO,vaM,vaZ]
theorem PF(x:F8):jK 0 (uZ x):=by rw[JF];exact(aI trivial (aI trivial (aI trivial (aI (ak aE x.Type_.Args) (aI (ak bD x.Type_.Names) (aI trivial (aI trivial (aI trivial (aI (ak aR x.Type_.Pred.Kids) (aI (ak aR x.Type_.Preds) trivial))))))))))
structure KC where
 Name:af
 Var:af
 Methods:(List F8)
def Be(x:KC):List PVal:=[.str x.Name,.str x.Var,sl uZ x.Methods]
theorem RO(x:KC):Be x=[.str x.Name,.str x.Var,sl uZ x.Methods]:=rfl
theorem RG(x:KC):jK 0 (Be x):=(aI trivial (aI trivial (aI (ak PF x.Methods) trivial)))
structure gE where
 Class:af
 Var:af
deriving DecidableEq
def gX(x:gE):List PVal:=[.str x.Class,.str x.Var]
theorem TJ(x:gE):gX x=[.str x.Class,.str x.Var]:=rfl
theorem yk(x:gE):jK 0 (gX x):=(aI trivial (aI trivial trivial))
structure na where
 Name:af
 Sort_:af
deriving DecidableEq
def lH(x:na):List PVal:=[.str x.Name,.str x.Sort_]
theorem VD(x:na):lH x=[.str x.Name,.str x.Sort_]:=rfl
theorem EW(x:na):jK 0 (lH x):=(aI trivial (aI trivial trivial))
structure eu where
 Name:af
 Vars:(List Qp)
 Hyp:am
 Goal:am
def fH(x:eu):List PVal:=[.str x.Name,sl zi x.Vars]++(al x.Hyp++(al x.Goal))
theorem LK(x:eu):fH x=[.str x.Name,sl zi x.Vars,.int .i64 x.Hyp.Op,.str x.Hyp.Name,.int .i64 x.Hyp.N,sl al x.Hyp.Kids,.int .i64 x.Goal.Op,.str x.Goal.Name,.int .i64 x.Goal.N,sl al x.Goal.Kids]:=by
 unfold fH
 simp only[cC,vaM,vaZ]
theorem yj(x:eu):jK 0 (fH x):=by rw[LK];exact(aI trivial (aI (ak MM x.Vars) (aI trivial (aI trivial (aI trivial (aI (ak aR x.Hyp.Kids) (aI trivial (aI trivial (aI trivial (aI (ak aR x.Goal.Kids) trivial))))))))))
structure IE where
 Vars:(List af)
 Needs:(List gE)
 Abs:(List na)
 Bounds:(List eu)
 Type_:aj
 Metric:(List am)
def MJ(x:IE):List PVal:=[sl cS x.Vars,sl gX x.Needs,sl lH x.Abs,sl fH x.Bounds]++(ai x.Type_++([sl al x.Metric]))
theorem MT(x:IE):MJ x=[sl cS x.Vars,sl gX x.Needs,sl lH x.Abs,sl fH x.Bounds,.int .i64 x.Type_.Op,.str x.Type_.Name,sl ai x.Type_.Args,sl cS x.Type_.Names,.int .i64 x.Type_.Pred.Op,.str x.Type_.Pred.Name,.int .i64 x.Type_.Pred.N,sl al x.Type_.Pred.Kids,sl al x.Type_.Preds,sl al x.Metric]:=by
 unfold MJ
 simp only[cO,vaM,vaZ]
structure eA where
 Name:af
 Params:(List af)
 Body:ag
 Mode:Int
 Typed:Bool
 Sig:IE
def bH(x:eA):List PVal:=[.str x.Name,sl cS x.Params]++(ae x.Body++([.int .i64 x.Mode,.bool x.Typed]++(MJ x.Sig)))
theorem nJ(x:eA):bH x=[.str x.Name,sl cS x.Params,.int .i64 x.Body.Op,.str x.Body.Name,.int .i64 x.Body.N,sl ae x.Body.Kids,sl aw x.Body.Params,sl aA x.Body.Alts,sl ai x.Body.Types,.int .i64 x.Mode,.bool x.Typed,sl cS x.Sig.Vars,sl gX x.Sig.Needs,sl lH x.Sig.Abs,sl fH x.Sig.Bounds,.int .i64 x.Sig.Type_.Op,.str x.Sig.Type_.Name,sl ai x.Sig.Type_.Args,sl cS x.Sig.Type_.Names,.int .i64 x.Sig.Type_.Pred.Op,.str x.Sig.Type_.Pred.Name,.int .i64 x.Sig.Type_.Pred.N,sl al x.Sig.Type_.Pred.Kids,sl al x.Sig.Type_.Preds,sl al x.Sig.Metric]:=by
 unfold bH
 simp only[bE,MT,vaM,vaZ]
theorem oT(x:eA):jK 0 (bH x):=by rw[nJ];exact(aI trivial (aI (ak bD x.Params) (aI trivial (aI trivial (aI trivial (aI (ak ay x.Body.Kids) (aI (ak aY x.Body.Params) (aI (ak bK x.Body.Alts) (aI (ak aE x.Body.Types) (aI trivial (aI trivial (aI (ak bD x.Sig.Vars) (aI (ak yk x.Sig.Needs) (aI (ak EW x.Sig.Abs) (aI (ak yj x.Sig.Bounds) (aI trivial (aI trivial (aI (ak aE x.Sig.Type_.Args) (aI (ak bD x.Sig.Type_.Names) (aI trivial (aI trivial (aI trivial (aI (ak aR x.Sig.Type_.Pred.Kids) (aI (ak aR x.Sig.Type_.Preds) (aI (ak aR x.Sig.Metric) trivial)))))))))))))))))))))))))
abbrev Nz(x:eA):PVal:=.agg (bH x)
theorem JW(x:eA):(bH x).length=25:=by rw[nJ];rfl
theorem V2(x:eA):cK (.agg (bH x))=some (bH x):=rfl
theorem Kd(x:eA):cK (Nz x)=some (bH x):=rfl
theorem Fy(x:eA):cK (.agg (bH x))=some [.str x.Name,sl cS x.Params,.int .i64 x.Body.Op,.str x.Body.Name,.int .i64 x.Body.N,sl ae x.Body.Kids,sl aw x.Body.Params,sl aA x.Body.Alts,sl ai x.Body.Types,.int .i64 x.Mode,.bool x.Typed,sl cS x.Sig.Vars,sl gX x.Sig.Needs,sl lH x.Sig.Abs,sl fH x.Sig.Bounds,.int .i64 x.Sig.Type_.Op,.str x.Sig.Type_.Name,sl ai x.Sig.Type_.Args,sl cS x.Sig.Type_.Names,.int .i64 x.Sig.Type_.Pred.Op,.str x.Sig.Type_.Pred.Name,.int .i64 x.Sig.Type_.Pred.N,sl al x.Sig.Type_.Pred.Kids,sl al x.Sig.Type_.Preds,sl al x.Sig.Metric]:=by rw[nJ];rfl
theorem Ux(x:eA):∀q∈bH x,q.one=true:=by
 intro q hq
 rw[nJ]at hq
 simp only[vaB,vbi,or_false]at hq
 rcases hq with rfl|rfl|rfl|rfl|rfl|rfl|rfl|rfl|rfl|rfl|rfl|rfl|rfl|rfl|rfl|rfl|rfl|rfl|rfl|rfl|rfl|rfl|rfl|rfl|rfl<;>rfl
theorem Vx:Pg.cellsOf 64=25:=by kernel_rfl
theorem VS(x:eA):bv Pg 64 (bH x)=some (.agg (bH x)):=by
 have:=pD (P:=Pg) (t:=64) (l:=bH x) (r:=[]) (by kernel_rfl) (Vx.trans (JW x).symm)
 rwa[vbh]at this
theorem OD(x:eA)(r:List PVal):bv Pg 64 ([.str x.Name,sl cS x.Params,.int .i64 x.Body.Op,.str x.Body.Name,.int .i64 x.Body.N,sl ae x.Body.Kids,sl aw x.Body.Params,sl aA x.Body.Alts,sl ai x.Body.Types,.int .i64 x.Mode,.bool x.Typed,sl cS x.Sig.Vars,sl gX x.Sig.Needs,sl lH x.Sig.Abs,sl fH x.Sig.Bounds,.int .i64 x.Sig.Type_.Op,.str x.Sig.Type_.Name,sl ai x.Sig.Type_.Args,sl cS x.Sig.Type_.Names,.int .i64 x.Sig.Type_.Pred.Op,.str x.Sig.Type_.Pred.Name,.int .i64 x.Sig.Type_.Pred.N,sl al x.Sig.Type_.Pred.Kids,sl al x.Sig.Type_.Preds,sl al x.Sig.Metric]++r)=some (.agg (bH x)):=by
 rw[<-nJ];exact pD (by kernel_rfl) (Vx.trans (JW x).symm)
theorem Pa(x:eA):PVal.agg [.str x.Name,sl cS x.Params,.int .i64 x.Body.Op,.str x.Body.Name,.int .i64 x.Body.N,sl ae x.Body.Kids,sl aw x.Body.Params,sl aA x.Body.Alts,sl ai x.Body.Types,.int .i64 x.Mode,.bool x.Typed,sl cS x.Sig.Vars,sl gX x.Sig.Needs,sl lH x.Sig.Abs,sl fH x.Sig.Bounds,.int .i64 x.Sig.Type_.Op,.str x.Sig.Type_.Name,sl ai x.Sig.Type_.Args,sl cS x.Sig.Type_.Names,.int .i64 x.Sig.Type_.Pred.Op,.str x.Sig.Type_.Pred.Name,.int .i64 x.Sig.Type_.Pred.N,sl al x.Sig.Type_.Pred.Kids,sl al x.Sig.Type_.Preds,sl al x.Sig.Metric]=.agg (bH x):=by rw[nJ]
theorem RC:dQ Pg 64 []=some (.agg (bH (⟨([]:af),([]:List af),(⟨0,([]:af),0,([]:List ag),([]:List ax),([]:List aG),([]:List aj)⟩:ag),0,false,(⟨([]:List af),([]:List gE),([]:List na),([]:List eu),(⟨0,([]:af),([]:List aj),([]:List af),(⟨0,([]:af),0,([]:List am)⟩:am),([]:List am)⟩:aj),([]:List am)⟩:IE)⟩:eA))):=by
 simp only[nJ]
 kernel_rfl
theorem RA:Ee Pg 64 [] [(1,9),(5,28),(6,85),(7,89),(8,60),(11,9),(12,250),(13,252),(14,254),(17,60),(18,9),(22,58),(23,58),(24,58)]:=by
 exact⟨[.str ([]:af),.val kl,.int .i64 0,.str ([]:af),.int .i64 0,.val kl,.val kl,.val kl,.val kl,.int .i64 0,.bool false,.val kl,.val kl,.val kl,.val kl,.int .i64 0,.str ([]:af),.val kl,.val kl,.int .i64 0,.str ([]:af),.int .i64 0,.val kl,.val kl,.val kl],by kernel_rfl,(aI rfl (aI rfl (aI rfl (aI rfl (aI rfl (aI rfl (aI rfl (aI rfl (aI rfl (aI rfl (aI rfl (aI rfl (aI rfl (aI rfl trivial))))))))))))))⟩
theorem zo(x:eA):aV Pg 64 (.eptr (bH x)) 1=some (.eptr ((bH x).drop 1)):=by rw[nJ];kernel_rfl
theorem uK(x:eA):aV Pg 64 (.eptr (bH x)) 2=some (.eptr ((bH x).drop 2)):=by rw[nJ];kernel_rfl
theorem zt(x:eA):bv Pg 38 ((bH x).drop 1)=some (sl cS x.Params):=by rw[nJ];kernel_rfl
theorem uN(x:eA):bv Pg 28 ((bH x).drop 2)=some (.agg (ae x.Body)):=by
 rw[nJ,bE];kernel_rfl
structure mt where
 Class:af
 Type_:aj
 Needs:(List gE)
 Defs:(List eA)
def dJ(x:mt):List PVal:=[.str x.Class]++(ai x.Type_++([sl gX x.Needs,sl bH x.Defs]))
theorem nK(x:mt):dJ x=[.str x.Class,.int .i64 x.Type_.Op,.str x.Type_.Name,sl ai x.Type_.Args,sl cS x.Type_.Names,.int .i64 x.Type_.Pred.Op,.str x.Type_.Pred.Name,.int .i64 x.Type_.Pred.N,sl al x.Type_.Pred.Kids,sl al x.Type_.Preds,sl gX x.Needs,sl bH x.Defs]:=by
 unfold dJ
 simp only[cO,vaM,vaZ]
theorem EY(x:mt):jK 0 (dJ x):=by rw[nK];exact(aI trivial (aI trivial (aI trivial (aI (ak aE x.Type_.Args) (aI (ak bD x.Type_.Names) (aI trivial (aI trivial (aI trivial (aI (ak aR x.Type_.Pred.Kids) (aI (ak aR x.Type_.Preds) (aI (ak yk x.Needs) (aI (ak oT x.Defs) trivial))))))))))))
theorem K9(x:mt):(dJ x).length=12:=by rw[nK];rfl
theorem Ld(x:mt):∀q∈dJ x,q.one=true:=by
 intro q hq
 rw[nK]at hq
 simp only[vaB,vbi,or_false]at hq
 rcases hq with rfl|rfl|rfl|rfl|rfl|rfl|rfl|rfl|rfl|rfl|rfl|rfl<;>rfl
theorem Ws:Pg.cellsOf 119=12:=by kernel_rfl
theorem vK(x:mt):aV Pg 119 (.eptr (dJ x)) 3=some (.eptr ((dJ x).drop 11)):=by rw[nK];kernel_rfl
theorem vP(x:mt):bv Pg 46 ((dJ x).drop 11)=some (sl bH x.Defs):=by rw[nK];kernel_rfl
structure Ph where
 Con:af
 Names:(List af)
 Body:am
def Cj(x:Ph):List PVal:=[.str x.Con,sl cS x.Names]++(al x.Body)
theorem Ob(x:Ph):Cj x=[.str x.Con,sl cS x.Names,.int .i64 x.Body.Op,.str x.Body.Name,.int .i64 x.Body.N,sl al x.Body.Kids]:=by
 unfold Cj
 simp only[cC,vaM,vaZ]
theorem TE(x:Ph):jK 0 (Cj x):=by rw[Ob];exact(aI trivial (aI (ak bD x.Names) (aI trivial (aI trivial (aI trivial (aI (ak aR x.Body.Kids) trivial))))))
structure BZ where
 Name:af
 Data:af
 Result:af
 Cases:(List Ph)
 Inv:am
def rQ(x:BZ):List PVal:=[.str x.Name,.str x.Data,.str x.Result,sl Cj x.Cases]++(al x.Inv)
theorem HM(x:BZ):rQ x=[.str x.Name,.str x.Data,.str x.Result,sl Cj x.Cases,.int .i64 x.Inv.Op,.str x.Inv.Name,.int .i64 x.Inv.N,sl al x.Inv.Kids]:=by
 unfold rQ
 simp only[cC,vaM,vaZ]
theorem N5(x:BZ):jK 0 (rQ x):=by rw[HM];exact(aI trivial (aI trivial (aI trivial (aI (ak TE x.Cases) (aI trivial (aI trivial (aI trivial (aI (ak aR x.Inv.Kids) trivial))))))))
structure Pj where
 Name:af
 Vars:(List Qp)
 Body:am
def Ck(x:Pj):List PVal:=[.str x.Name,sl zi x.Vars]++(al x.Body)
theorem Oc(x:Pj):Ck x=[.str x.Name,sl zi x.Vars,.int .i64 x.Body.Op,.str x.Body.Name,.int .i64 x.Body.N,sl al x.Body.Kids]:=by
 unfold Ck
 simp only[cC,vaM,vaZ]
theorem TF(x:Pj):jK 0 (Ck x):=by rw[Oc];exact(aI trivial (aI (ak MM x.Vars) (aI trivial (aI trivial (aI trivial (aI (ak aR x.Body.Kids) trivial))))))
structure aP where
 Datas:(List F7)
 Classes:(List KC)
 Instances:(List mt)
 Measures:(List BZ)
 Quals:(List Pj)
 Defs:(List eA)
def az(x:aP):List PVal:=[sl nG x.Datas,sl Be x.Classes,sl dJ x.Instances,sl rQ x.Measures,sl Ck x.Quals,sl bH x.Defs]
theorem DZ(x:aP):az x=[sl nG x.Datas,sl Be x.Classes,sl dJ x.Instances,sl rQ x.Measures,sl Ck x.Quals,sl bH x.Defs]:=rfl
theorem cX(x:aP):jK 0 (az x):=(aI (ak N4 x.Datas) (aI (ak RG x.Classes) (aI (ak EY x.Instances) (aI (ak N5 x.Measures) (aI (ak TF x.Quals) (aI (ak oT x.Defs) trivial))))))
theorem Oz(x:aP):(az x).length=6:=by rw[DZ];rfl
theorem vT(x:aP):cK (.agg (az x))=some (az x):=rfl
theorem qag:Pg.cellsOf 48=6:=by kernel_rfl
theorem nj(x:aP):bv Pg 48 (az x)=some (.agg (az x)):=by
 have:=pD (P:=Pg) (t:=48) (l:=az x) (r:=[]) (by kernel_rfl) (qag.trans (Oz x).symm)
 rwa[vbh]at this
theorem tH(x:aP):aV Pg 48 (.eptr (az x)) 0=some (.eptr ((az x).drop 0)):=by kernel_rfl
theorem oV(x:aP):aV Pg 48 (.eptr (az x)) 2=some (.eptr ((az x).drop 2)):=by kernel_rfl
theorem fq(x:aP):aV Pg 48 (.eptr (az x)) 5=some (.eptr ((az x).drop 5)):=by kernel_rfl
theorem tJ(x:aP):bv Pg 41 ((az x).drop 0)=some (sl nG x.Datas):=by kernel_rfl
theorem oX(x:aP):bv Pg 43 ((az x).drop 2)=some (sl dJ x.Instances):=by kernel_rfl
theorem fu(x:aP):bv Pg 46 ((az x).drop 5)=some (sl bH x.Defs):=by kernel_rfl
theorem jt:Jo Pg 23 28 ae:=⟨underlying23,fun x=>(GB x).trans Vu.symm,by kernel_rfl,by rw[Vu];decide,by kernel_rfl,va3 (by kernel_rfl),Sm,ay⟩
theorem mV:Jo Pg 24 85 aw:=⟨underlying24,fun x=>(D2 x).trans Vy.symm,by kernel_rfl,by rw[Vy];decide,by kernel_rfl,va3 (by kernel_rfl),P7,aY⟩
theorem fO:Jo Pg 25 89 aA:=⟨underlying25,fun x=>(JV x).trans Vz.symm,by kernel_rfl,by rw[Vz];decide,by kernel_rfl,va3 (by kernel_rfl),Uv,bK⟩
theorem er:Jo Pg 26 60 ai:=⟨underlying26,fun x=>(GF x).trans Vw.symm,by kernel_rfl,by rw[Vw];decide,by kernel_rfl,va3 (by kernel_rfl),So,aE⟩
theorem Y5:Pg.cellsOf 9=1:=by kernel_rfl
theorem dp:Jo Pg 38 9 cS:=⟨underlying38,fun _=>Y5.symm,by kernel_rfl,by rw[Y5];decide,by kernel_rfl,va3 (by kernel_rfl),qat,bD⟩
theorem Xw:Jo Pg 41 70 nG:=⟨underlying41,fun x=>(R7 x).trans Yp.symm,by kernel_rfl,by rw[Yp];decide,by kernel_rfl,va3 (by kernel_rfl),Sl,N4⟩
theorem Wf:Jo Pg 43 119 dJ:=⟨underlying43,fun x=>(K9 x).trans Ws.symm,by kernel_rfl,by rw[Ws];decide,by kernel_rfl,va3 (by kernel_rfl),Ld,EY⟩
theorem zD:Jo Pg 46 64 bH:=⟨underlying46,fun x=>(JW x).trans Vx.symm,by kernel_rfl,by rw[Vx];decide,by kernel_rfl,va3 (by kernel_rfl),Ux,oT⟩
theorem oo:Jo Pg 56 58 al:=⟨underlying56,fun x=>(GD x).trans Vv.symm,by kernel_rfl,by rw[Vv];decide,by kernel_rfl,va3 (by kernel_rfl),Sn,aR⟩
theorem qaA:Jo Pg 68 121 zh:=⟨underlying68,fun x=>(Ud x).trans Wt.symm,by kernel_rfl,by rw[Wt];decide,by kernel_rfl,va3 (by kernel_rfl),Uw,QL⟩
theorem Ku:Jo Pg 92 137 aa:=⟨underlying92,fun x=>(zU x).trans TG.symm,by kernel_rfl,by rw[TG];decide,by kernel_rfl,va3 (by kernel_rfl),Iv,au⟩
theorem qaO:Pg.cellsOf 5=1:=by kernel_rfl
theorem Zc:(Pg.underlying 4).any Pe=true:=by kernel_rfl
theorem ED:(Pg.underlying 9).any Pe=true:=by kernel_rfl
theorem Iy:(Pg.underlying 92).any Pe=true:=by kernel_rfl
theorem Ze:G5 Pg 4=some (PVal.bool false):=by kernel_rfl
theorem qbP:gz Pg 3=some [.int .i64 0]:=by kernel_rfl
theorem qaV:gz Pg 4=some [.bool false]:=by kernel_rfl
theorem zB:gz Pg 28=some [.int .i64 0,.str ([]:af),.int .i64 0,sl ae ([]:List ag),sl aw ([]:List ax),sl aA ([]:List aG),sl ai ([]:List aj)]:=by kernel_rfl
theorem qax:gz Pg 35=some [.int .i64 0]:=by kernel_rfl
theorem YJ:gz Pg 38=some [sl cS ([]:List af)]:=by kernel_rfl
theorem Wd:gz Pg 58=some [.int .i64 0,.str ([]:af),.int .i64 0,sl al ([]:List am)]:=by kernel_rfl
theorem Ql:gz Pg 60=some [.int .i64 0,.str ([]:af),sl ai ([]:List aj),sl cS ([]:List af),.int .i64 0,.str ([]:af),.int .i64 0,sl al ([]:List am),sl al ([]:List am)]:=by kernel_rfl
theorem UN:gz Pg 64=some [.str ([]:af),sl cS ([]:List af),.int .i64 0,.str ([]:af),.int .i64 0,sl ae ([]:List ag),sl aw ([]:List ax),sl aA ([]:List aG),sl ai ([]:List aj),.int .i64 0,.bool false,sl cS ([]:List af),sl gX ([]:List gE),sl lH ([]:List na),sl fH ([]:List eu),.int .i64 0,.str ([]:af),sl ai ([]:List aj),sl cS ([]:List af),.int .i64 0,.str ([]:af),.int .i64 0,sl al ([]:List am),sl al ([]:List am),sl al ([]:List am)]:=by kernel_rfl
theorem SC:gz Pg 85=some [.str ([]:af),.int .i64 0,.str ([]:af),sl ai ([]:List aj),sl cS ([]:List af),.int .i64 0,.str ([]:af),.int .i64 0,sl al ([]:List am),sl al ([]:List am)]:=by kernel_rfl
theorem G4:gz Pg 89=some [.str ([]:af),sl cS ([]:List af),.int .i64 0,.str ([]:af),.int .i64 0,sl ae ([]:List ag),sl aw ([]:List ax),sl aA ([]:List aG),sl ai ([]:List aj)]:=by kernel_rfl
theorem YK:gz Pg 91=some [.val .nilFunc]:=by kernel_rfl
theorem YL:gz Pg 92=some [sl aa ([]:List ac)]:=by kernel_rfl
theorem YM:gz Pg 95=some [.val .nilFunc,.val .nilFunc]:=by kernel_rfl
theorem Wx:gz Pg 109=some [.val (.pointer none)]:=by kernel_rfl
theorem YH:gz Pg 112=some [.val .nilFunc]:=by kernel_rfl
theorem YI:gz Pg 122=some [.val .nilFunc]:=by kernel_rfl
theorem Wy:gz Pg 147=some [.bool false,.bool false,.int .i64 0,.int .i64 0,.bool false,.bool false,.int .i64 0,.int .i64 0,.bool false]:=by kernel_rfl
def lS:List Int:=[1,10,100,1000,10000,100000,1000000,10000000,100000000,1000000000,10000000000,100000000000,1000000000000,10000000000000,100000000000000,1000000000000000,10000000000000000,100000000000000000,1000000000000000000,10000000000000000000]
theorem Yl:Pg.cellsOf 216=20:=by kernel_rfl
theorem Yk:Pg.cellsOf 201=1:=by kernel_rfl
def jx:List af:=[([97,110,100]:af),([97,115,115,117,109,101]:af),([98,111,111,108]:af),([98,111,117,110,100]:af),([99,97,115,101]:af),([99,101,108,108]:af),([99,108,97,115,115]:af),([100,97,116,97]:af),([100,101,102]:af),([100,105,118]:af),([101,108,115,101]:af),([101,110,100]:af),([102,97,108,115,101]:af),([102,111,114,97,108,108]:af),([102,117,110]:af),([103,101,116]:af),([105,102]:af),([105,110]:af),([105,110,115,116]:af),([105,110,116]:af),([105,110,118,97,114,105,97,110,116]:af),([108,101,116]:af),([109,97,116,99,104]:af),([109,101,97,115,117,114,101]:af),([109,101,116,114,105,99]:af),([109,111,100]:af),([109,117]:af),([110,101,119]:af),([110,111,116]:af),([111,102]:af),([111,114]:af),([113,117,97,108]:af),([114,101,102,108,101,99,116]:af),([115,101,116]:af),([116,104,101,110]:af),([116,114,117,101]:af),([117,115,101]:af),([118]:af),([118,97,108]:af),([116,97,103]:af),([119,104,101,114,101]:af),([119,105,116,104]:af)]
theorem Ym:Pg.cellsOf 218=42:=by kernel_rfl
theorem xf:bv Pg 218 (jx.map PVal.str)=some (.agg (jx.map PVal.str)):=by kernel_rfl
theorem Fo{k:IntKind}{i:Int}{x:af}(h:gn jx i=some x):zx Pg 218 (.agg (jx.map PVal.str)) (.int k i)=some (PVal.str x):=X3 underlying218 Y5 (by kernel_rfl) (by kernel_rfl) (by kernel_rfl) h
def yv:List Int:=[0,1,28,2,29,14,24,3,30,22,20,15,25,17,4,8,31,27,13,23,21,19,16,7,26,12,18,6,11,5,10,9]
theorem Yn:Pg.cellsOf 223=32:=by kernel_rfl
def yw:List Int:=[0,1,56,2,57,49,28,3,61,58,42,50,38,29,17,4,62,47,59,36,45,43,51,22,53,39,33,30,24,18,12,5,63,55,48,27,60,41,37,16,46,35,44,21,52,32,23,11,54,26,40,15,34,20,31,10,25,14,19,9,13,8,7,6]
theorem Yo:Pg.cellsOf 224=64:=by kernel_rfl
def GE:List (Nat×List PVal):=[(0,lS.map (PVal.int .u64)),(1,jx.map PVal.str),(2,yv.map (PVal.int .u8)),(3,yw.map (PVal.int .u8))]
theorem bF(A:List Nat){m:Nat}{c:Code}{sc:List It}{F:Prop}{e0:Exit}{st0 st:aB}(h:PS sc F)(he:F=wX Pg GE A m c sc st (FN e0 st0)):bh Pg GE m c (EX e0 st0) st:=qr mixed h he
theorem AC(A:List Nat){m:Nat}{c:Code}{sc:List It}{F:Prop}{σ X:Type}{S:σ->aB}{ex:X->Exit}{so:X->aB}{s:σ}{st:aB}(h:PS sc F)(he:F=wX Pg GE A m c sc st (FN .normal (S s))):bh Pg GE m c (LQ S ex so (.inl s)) st:=YA mixed h he
theorem jy(A:List Nat){m:Nat}{c:Code}{sc:List It}{F:Prop}{σ X:Type}{S:σ->aB}{ex:X->Exit}{so:X->aB}{x:X}{st:aB}(hn:ex x≠.normal)(h:PS sc F)(he:F=wX Pg GE A m c sc st (FN (ex x) (so x))):bh Pg GE m c (LQ S ex so (.inr x)) st:=YE mixed hn h he
theorem Y6(A:List Nat){f:FuncId}{fn:Func}{c:Code}{args:List PVal}{r:PVal}{ro:List (Nat×TypeId)}(hcall:∀vs w,(callFunc f vs).run Pg w=.ok (.enter f vs) w)(hfn:Pg.funcs[f]? =some fn)(hb:fn.body=some c)(hcl:jK 0 args){sc:List It}{F:Prop}(h:PS sc F)(he:F=wX Pg GE A 0 c sc ⟨args++List.replicate (fn.ntmps - args.length) .undef,[],[]⟩ (FR Pg fn.results.toList r ro)):CC Pg GE f args r ro:=C.evp mixed hcall hfn hb hcl h he
theorem ZL{P:Program}{GE:List (Nat×List PVal)}{m:Nat}{σ X:Type}{S:σ->aB}{ex:X->Exit}{so:X->aB}{body:σ->Option (σ⊕X)}{c:Code}{s:σ}{x:X}(h:loop body s=some x)(hb:∀s y,body s=some y->bh P GE m c (LQ S ex so y) (S s)){st s1:aB}{e:Exit}(h1:st=S s:=by rfl)(h2:e=ex x:=by rfl)(h3:s1=so x:=by rfl):bh P GE m (.loop c) (EX e s1) st:=by
 subst h1 h2 h3
 exact bh.loop h hb
def ZF(A:List Nat)(f:FuncId)(fn:Func)(c:Code):Prop:=(∀vs w,(callFunc f vs).run Pg w=.ok (.enter f vs) w)/\Pg.funcs[f]? =some fn/\fn.body=some c
theorem ZF.v{A:List Nat}{f:FuncId}{fn:Func}{c:Code}{args:List PVal}{r:PVal}{ro:List (Nat×TypeId)}(g:ZF A f fn c)(hcl:jK 0 args){sc:List It}{F:Prop}(h:PS sc F)(he:F=wX Pg GE A 0 c sc ⟨args++List.replicate (fn.ntmps - args.length) .undef,[],[]⟩ (FR Pg fn.results.toList r ro)):CC Pg GE f args r ro:=Y6 A g.1 g.2.1 g.2.2 hcl h he
theorem ZF.g{A:List Nat}{m:Nat}{f:FuncId}{fn:Func}{c:Code}{args:List PVal}{oa:List ((Nat×Nat)×TypeId)}{H:List aC}{r:PVal}{ro:List (Nat×TypeId)}{H':List aC}(g:ZF A f fn c)(hm:decide (m % 1000=H.length)&&decide (m≠0)&&decide (H'.length=H.length)=true){sc:List It}{F:Prop}(h:PS sc F)(he:F=wX Pg GE A m c sc ⟨args++List.replicate (fn.ntmps - args.length) .undef,H,oa⟩ (Wo Pg fn.results.toList r ro H')):C Pg GE f args oa H r ro H':=C.evGp mixed hm g.1 g.2.1 g.2.2 h he
def Zm:Exit->Bool
 |.normal=>true
 |_=>false
theorem Zn{e:Exit}(h:Zm e=false):e≠.normal:=by
 intro he
 subst he
 cases h
abbrev waA:=List af
abbrev waB:=List aj
abbrev waC:=List am
abbrev waD:=List aG
abbrev waE:=List ax
abbrev waF:=List ag
abbrev waG:=List gE
abbrev waH:=List na
abbrev waI:=List eu
abbrev waJ:=List eA
theorem tq:∀n,(∀l,Sh Pg n 58 l->∃x,l=al x):=by
 intro n
 induction n using Nat.strongRecOn with
 | ind n ih =>
  cases n with
  |zero=>exact fun l h=>h.elim
  | succ n =>
   exact fun l h=>by
    unfold Sh at h
    rw[underlying58]at h
    obtain⟨a0,b0,rfl,_,h0,a1,b1,rfl,_,h1,a2,b2,rfl,_,h2,a3,b3,rfl,_,h3,rfl⟩:=h
    obtain⟨x0,rfl⟩:=(RU underlying55) n _ h0
    obtain⟨x1,rfl⟩:=(oh underlying9) n _ h1
    obtain⟨x2,rfl⟩:=(RU underlying3) n _ h2
    obtain⟨x3,rfl⟩:=Oo underlying56 (c:=al) (fun m hm=>(ih m (by omega))) _ h3
    exact⟨(⟨x0,x1,x2,x3⟩:am),by rw[cC];rfl⟩
theorem yo:∀n,(∀l,Sh Pg n 60 l->∃x,l=ai x):=by
 intro n
 induction n using Nat.strongRecOn with
 | ind n ih =>
  cases n with
  |zero=>exact fun l h=>h.elim
  | succ n =>
   exact fun l h=>by
    unfold Sh at h
    rw[underlying60]at h
    obtain⟨a0,b0,rfl,_,h0,a1,b1,rfl,_,h1,a2,b2,rfl,_,h2,a3,b3,rfl,_,h3,a4,b4,rfl,_,h4,a5,b5,rfl,_,h5,rfl⟩:=h
    obtain⟨x0,rfl⟩:=(RU underlying54) n _ h0
    obtain⟨x1,rfl⟩:=(oh underlying9) n _ h1
    obtain⟨x2,rfl⟩:=Oo underlying26 (c:=ai) (fun m hm=>(ih m (by omega))) _ h2
    obtain⟨x3,rfl⟩:=(qf underlying38 (oh underlying9)) n _ h3
    obtain⟨x4,rfl⟩:=tq n _ h4
    obtain⟨x5,rfl⟩:=(qf underlying56 tq) n _ h5
    exact⟨(⟨x0,x1,x2,x3,x4,x5⟩:aj),by rw[cO];(try simp only[cC]);rfl⟩
theorem RY:∀n,(∀l,Sh Pg n 85 l->∃x,l=aw x):=by
 intro n
 induction n using Nat.strongRecOn with
 | ind n ih =>
  cases n with
  |zero=>exact fun l h=>h.elim
  | succ n =>
   exact fun l h=>by
    unfold Sh at h
    rw[underlying85]at h
    obtain⟨a0,b0,rfl,_,h0,a1,b1,rfl,_,h1,rfl⟩:=h
    obtain⟨x0,rfl⟩:=(oh underlying9) n _ h0
    obtain⟨x1,rfl⟩:=yo n _ h1
    exact⟨(⟨x0,x1⟩:ax),by rw[jq];(try simp only[cO]);(try simp only[cC]);rfl⟩
theorem M1:∀n,(∀l,Sh Pg n 28 l->∃x,l=ae x)/\(∀l,Sh Pg n 89 l->∃x,l=aA x):=by
 intro n
 induction n using Nat.strongRecOn with
 | ind n ih =>
  cases n with
  |zero=>exact⟨fun l h=>h.elim,fun l h=>h.elim⟩
  | succ n =>
   exact⟨(fun l h=>by
    unfold Sh at h
    rw[underlying28]at h
    obtain⟨a0,b0,rfl,_,h0,a1,b1,rfl,_,h1,a2,b2,rfl,_,h2,a3,b3,rfl,_,h3,a4,b4,rfl,_,h4,a5,b5,rfl,_,h5,a6,b6,rfl,_,h6,rfl⟩:=h
    obtain⟨x0,rfl⟩:=(RU underlying22) n _ h0
    obtain⟨x1,rfl⟩:=(oh underlying9) n _ h1
    obtain⟨x2,rfl⟩:=(RU underlying3) n _ h2
    obtain⟨x3,rfl⟩:=Oo underlying23 (c:=ae) (fun m hm=>(ih m (by omega)).1) _ h3
    obtain⟨x4,rfl⟩:=(qf underlying24 RY) n _ h4
    obtain⟨x5,rfl⟩:=Oo underlying25 (c:=aA) (fun m hm=>(ih m (by omega)).2) _ h5
    obtain⟨x6,rfl⟩:=(qf underlying26 yo) n _ h6
    exact⟨(⟨x0,x1,x2,x3,x4,x5,x6⟩:ag),by rw[bE];rfl⟩),(fun l h=>by
    unfold Sh at h
    rw[underlying89]at h
    obtain⟨a0,b0,rfl,_,h0,a1,b1,rfl,_,h1,a2,b2,rfl,_,h2,rfl⟩:=h
    obtain⟨x0,rfl⟩:=(oh underlying9) n _ h0
    obtain⟨x1,rfl⟩:=(qf underlying38 (oh underlying9)) n _ h1
    obtain⟨x2,rfl⟩:=(ih n (vcs n)).1 _ h2
    exact⟨(⟨x0,x1,x2⟩:aG),by rw[nI];(try simp only[bE]);rfl⟩)⟩
theorem TW:In Pg 28 ae:=fun n=>(M1 n).1
theorem M3:∀n,(∀l,Sh Pg n 255 l->∃x,l=zi x):=by
 intro n
 induction n using Nat.strongRecOn with
 | ind n ih =>
  cases n with
  |zero=>exact fun l h=>h.elim
  | succ n =>
   exact fun l h=>by
    unfold Sh at h
    rw[underlying255]at h
    obtain⟨a0,b0,rfl,_,h0,a1,b1,rfl,_,h1,rfl⟩:=h
    obtain⟨x0,rfl⟩:=(oh underlying9) n _ h0
    obtain⟨x1,rfl⟩:=(oh underlying243) n _ h1
    exact⟨(⟨x0,x1⟩:Qp),by rw[VE];rfl⟩
theorem VN:∀n,(∀l,Sh Pg n 121 l->∃x,l=zh x):=by
 intro n
 induction n using Nat.strongRecOn with
 | ind n ih =>
  cases n with
  |zero=>exact fun l h=>h.elim
  | succ n =>
   exact fun l h=>by
    unfold Sh at h
    rw[underlying121]at h
    obtain⟨a0,b0,rfl,_,h0,a1,b1,rfl,_,h1,a2,b2,rfl,_,h2,rfl⟩:=h
    obtain⟨x0,rfl⟩:=(oh underlying9) n _ h0
    obtain⟨x1,rfl⟩:=(qf underlying38 (oh underlying9)) n _ h1
    obtain⟨x2,rfl⟩:=(qf underlying26 yo) n _ h2
    exact⟨(⟨x0,x1,x2⟩:Qo),by rw[MS];rfl⟩
theorem TV:∀n,(∀l,Sh Pg n 70 l->∃x,l=nG x):=by
 intro n
 induction n using Nat.strongRecOn with
 | ind n ih =>
  cases n with
  |zero=>exact fun l h=>h.elim
  | succ n =>
   exact fun l h=>by
    unfold Sh at h
    rw[underlying70]at h
    obtain⟨a0,b0,rfl,_,h0,a1,b1,rfl,_,h1,a2,b2,rfl,_,h2,a3,b3,rfl,_,h3,rfl⟩:=h
    obtain⟨x0,rfl⟩:=(oh underlying9) n _ h0
    obtain⟨x1,rfl⟩:=(qf underlying38 (oh underlying9)) n _ h1
    obtain⟨x2,rfl⟩:=(qf underlying67 M3) n _ h2
    obtain⟨x3,rfl⟩:=(qf underlying68 VN) n _ h3
    exact⟨(⟨x0,x1,x2,x3⟩:F7),by rw[JE];rfl⟩
theorem PV:∀n,(∀l,Sh Pg n 257 l->∃x,l=uZ x):=by
 intro n
 induction n using Nat.strongRecOn with
 | ind n ih =>
  cases n with
  |zero=>exact fun l h=>h.elim
  | succ n =>
   exact fun l h=>by
    unfold Sh at h
    rw[underlying257]at h
    obtain⟨a0,b0,rfl,_,h0,a1,b1,rfl,_,h1,rfl⟩:=h
    obtain⟨x0,rfl⟩:=(oh underlying9) n _ h0
    obtain⟨x1,rfl⟩:=yo n _ h1
    exact⟨(⟨x0,x1⟩:F8),by rw[JF];(try simp only[cO]);(try simp only[cC]);rfl⟩
theorem RX:∀n,(∀l,Sh Pg n 242 l->∃x,l=Be x):=by
 intro n
 induction n using Nat.strongRecOn with
 | ind n ih =>
  cases n with
  |zero=>exact fun l h=>h.elim
  | succ n =>
   exact fun l h=>by
    unfold Sh at h
    rw[underlying242]at h
    obtain⟨a0,b0,rfl,_,h0,a1,b1,rfl,_,h1,a2,b2,rfl,_,h2,rfl⟩:=h
    obtain⟨x0,rfl⟩:=(oh underlying9) n _ h0
    obtain⟨x1,rfl⟩:=(oh underlying9) n _ h1
    obtain⟨x2,rfl⟩:=(qf underlying240 PV) n _ h2
    exact⟨(⟨x0,x1,x2⟩:KC),by rw[RO];rfl⟩
theorem Ot:∀n,(∀l,Sh Pg n 250 l->∃x,l=gX x):=by
 intro n
 induction n using Nat.strongRecOn with
 | ind n ih =>
  cases n with
  |zero=>exact fun l h=>h.elim
  | succ n =>
   exact fun l h=>by
    unfold Sh at h
    rw[underlying250]at h
    obtain⟨a0,b0,rfl,_,h0,a1,b1,rfl,_,h1,rfl⟩:=h
    obtain⟨x0,rfl⟩:=(oh underlying9) n _ h0
    obtain⟨x1,rfl⟩:=(oh underlying9) n _ h1
    exact⟨(⟨x0,x1⟩:gE),by rw[TJ];rfl⟩
theorem VM:∀n,(∀l,Sh Pg n 252 l->∃x,l=lH x):=by
 intro n
 induction n using Nat.strongRecOn with
 | ind n ih =>
  cases n with
  |zero=>exact fun l h=>h.elim
  | succ n =>
   exact fun l h=>by
    unfold Sh at h
    rw[underlying252]at h
    obtain⟨a0,b0,rfl,_,h0,a1,b1,rfl,_,h1,rfl⟩:=h
    obtain⟨x0,rfl⟩:=(oh underlying9) n _ h0
    obtain⟨x1,rfl⟩:=(oh underlying243) n _ h1
    exact⟨(⟨x0,x1⟩:na),by rw[VD];rfl⟩
theorem RW:∀n,(∀l,Sh Pg n 254 l->∃x,l=fH x):=by
 intro n
 induction n using Nat.strongRecOn with
 | ind n ih =>
  cases n with
  |zero=>exact fun l h=>h.elim
  | succ n =>
   exact fun l h=>by
    unfold Sh at h
    rw[underlying254]at h
    obtain⟨a0,b0,rfl,_,h0,a1,b1,rfl,_,h1,a2,b2,rfl,_,h2,a3,b3,rfl,_,h3,rfl⟩:=h
    obtain⟨x0,rfl⟩:=(oh underlying9) n _ h0
    obtain⟨x1,rfl⟩:=(qf underlying67 M3) n _ h1
    obtain⟨x2,rfl⟩:=tq n _ h2
    obtain⟨x3,rfl⟩:=tq n _ h3
    exact⟨(⟨x0,x1,x2,x3⟩:eu),by rw[LK];(try simp only[cC]);rfl⟩
theorem VO:∀n,(∀l,Sh Pg n 62 l->∃x,l=MJ x):=by
 intro n
 induction n using Nat.strongRecOn with
 | ind n ih =>
  cases n with
  |zero=>exact fun l h=>h.elim
  | succ n =>
   exact fun l h=>by
    unfold Sh at h
    rw[underlying62]at h
    obtain⟨a0,b0,rfl,_,h0,a1,b1,rfl,_,h1,a2,b2,rfl,_,h2,a3,b3,rfl,_,h3,a4,b4,rfl,_,h4,a5,b5,rfl,_,h5,rfl⟩:=h
    obtain⟨x0,rfl⟩:=(qf underlying38 (oh underlying9)) n _ h0
    obtain⟨x1,rfl⟩:=(qf underlying51 Ot) n _ h1
    obtain⟨x2,rfl⟩:=(qf underlying52 VM) n _ h2
    obtain⟨x3,rfl⟩:=(qf underlying53 RW) n _ h3
    obtain⟨x4,rfl⟩:=yo n _ h4
    obtain⟨x5,rfl⟩:=(qf underlying56 tq) n _ h5
    exact⟨(⟨x0,x1,x2,x3,x4,x5⟩:IE),by rw[MT];(try simp only[cO]);(try simp only[cC]);rfl⟩
theorem QT:∀n,(∀l,Sh Pg n 64 l->∃x,l=bH x):=by
 intro n
 induction n using Nat.strongRecOn with
 | ind n ih =>
  cases n with
  |zero=>exact fun l h=>h.elim
  | succ n =>
   exact fun l h=>by
    unfold Sh at h
    rw[underlying64]at h
    obtain⟨a0,b0,rfl,_,h0,a1,b1,rfl,_,h1,a2,b2,rfl,_,h2,a3,b3,rfl,_,h3,a4,b4,rfl,_,h4,a5,b5,rfl,_,h5,rfl⟩:=h
    obtain⟨x0,rfl⟩:=(oh underlying9) n _ h0
    obtain⟨x1,rfl⟩:=(qf underlying38 (oh underlying9)) n _ h1
    obtain⟨x2,rfl⟩:=TW n _ h2
    obtain⟨x3,rfl⟩:=(RU underlying50) n _ h3
    obtain⟨x4,rfl⟩:=(qas underlying4) n _ h4
    obtain⟨x5,rfl⟩:=VO n _ h5
    exact⟨(⟨x0,x1,x2,x3,x4,x5⟩:eA),by rw[nJ];(try simp only[bE]);(try simp only[MT]);(try simp only[cO]);(try simp only[cC]);rfl⟩
theorem M2:∀n,(∀l,Sh Pg n 119 l->∃x,l=dJ x):=by
 intro n
 induction n using Nat.strongRecOn with
 | ind n ih =>
  cases n with
  |zero=>exact fun l h=>h.elim
  | succ n =>
   exact fun l h=>by
    unfold Sh at h
    rw[underlying119]at h
    obtain⟨a0,b0,rfl,_,h0,a1,b1,rfl,_,h1,a2,b2,rfl,_,h2,a3,b3,rfl,_,h3,rfl⟩:=h
    obtain⟨x0,rfl⟩:=(oh underlying9) n _ h0
    obtain⟨x1,rfl⟩:=yo n _ h1
    obtain⟨x2,rfl⟩:=(qf underlying51 Ot) n _ h2
    obtain⟨x3,rfl⟩:=(qf underlying46 QT) n _ h3
    exact⟨(⟨x0,x1,x2,x3⟩:mt),by rw[nK];(try simp only[cO]);(try simp only[cC]);rfl⟩
theorem TU:∀n,(∀l,Sh Pg n 259 l->∃x,l=Cj x):=by
 intro n
 induction n using Nat.strongRecOn with
 | ind n ih =>
  cases n with
  |zero=>exact fun l h=>h.elim
  | succ n =>
   exact fun l h=>by
    unfold Sh at h
    rw[underlying259]at h
    obtain⟨a0,b0,rfl,_,h0,a1,b1,rfl,_,h1,a2,b2,rfl,_,h2,rfl⟩:=h
    obtain⟨x0,rfl⟩:=(oh underlying9) n _ h0
    obtain⟨x1,rfl⟩:=(qf underlying38 (oh underlying9)) n _ h1
    obtain⟨x2,rfl⟩:=tq n _ h2
    exact⟨(⟨x0,x1,x2⟩:Ph),by rw[Ob];(try simp only[cC]);rfl⟩
theorem Oq:∀n,(∀l,Sh Pg n 246 l->∃x,l=rQ x):=by
 intro n
 induction n using Nat.strongRecOn with
 | ind n ih =>
  cases n with
  |zero=>exact fun l h=>h.elim
  | succ n =>
   exact fun l h=>by
    unfold Sh at h
    rw[underlying246]at h
    obtain⟨a0,b0,rfl,_,h0,a1,b1,rfl,_,h1,a2,b2,rfl,_,h2,a3,b3,rfl,_,h3,a4,b4,rfl,_,h4,rfl⟩:=h
    obtain⟨x0,rfl⟩:=(oh underlying9) n _ h0
    obtain⟨x1,rfl⟩:=(oh underlying9) n _ h1
    obtain⟨x2,rfl⟩:=(oh underlying243) n _ h2
    obtain⟨x3,rfl⟩:=(qf underlying244 TU) n _ h3
    obtain⟨x4,rfl⟩:=tq n _ h4
    exact⟨(⟨x0,x1,x2,x3,x4⟩:BZ),by rw[HM];(try simp only[cC]);rfl⟩
theorem TX:∀n,(∀l,Sh Pg n 248 l->∃x,l=Ck x):=by
 intro n
 induction n using Nat.strongRecOn with
 | ind n ih =>
  cases n with
  |zero=>exact fun l h=>h.elim
  | succ n =>
   exact fun l h=>by
    unfold Sh at h
    rw[underlying248]at h
    obtain⟨a0,b0,rfl,_,h0,a1,b1,rfl,_,h1,a2,b2,rfl,_,h2,rfl⟩:=h
    obtain⟨x0,rfl⟩:=(oh underlying9) n _ h0
    obtain⟨x1,rfl⟩:=(qf underlying67 M3) n _ h1
    obtain⟨x2,rfl⟩:=tq n _ h2
    exact⟨(⟨x0,x1,x2⟩:Pj),by rw[Oc];(try simp only[cC]);rfl⟩
theorem PW:∀n,(∀l,Sh Pg n 48 l->∃x,l=az x):=by
 intro n
 induction n using Nat.strongRecOn with
 | ind n ih =>
  cases n with
  |zero=>exact fun l h=>h.elim
  | succ n =>
   exact fun l h=>by
    unfold Sh at h
    rw[underlying48]at h
    obtain⟨a0,b0,rfl,_,h0,a1,b1,rfl,_,h1,a2,b2,rfl,_,h2,a3,b3,rfl,_,h3,a4,b4,rfl,_,h4,a5,b5,rfl,_,h5,rfl⟩:=h
    obtain⟨x0,rfl⟩:=(qf underlying41 TV) n _ h0
    obtain⟨x1,rfl⟩:=(qf underlying42 RX) n _ h1
    obtain⟨x2,rfl⟩:=(qf underlying43 M2) n _ h2
    obtain⟨x3,rfl⟩:=(qf underlying44 Oq) n _ h3
    obtain⟨x4,rfl⟩:=(qf underlying45 TX) n _ h4
    obtain⟨x5,rfl⟩:=(qf underlying46 QT) n _ h5
    exact⟨(⟨x0,x1,x2,x3,x4,x5⟩:aP),by rw[DZ];rfl⟩
end Go.Proofs.YtkdahfeiedaahaaGreatDoor
namespace Go.Proofs
open Go.Shelf
noncomputable def Tryz.laysM171_ren : Go.Shelf.Ren := ⟨fun | 171 => 98 | 243 => 134 | 246 => 156 | 283 => 182 | 284 => 183 | 285 => 184 | 286 => 185 | 129 => 181 | 317 => 202 | 318 => 203 | 319 => 204 | 320 => 205 | 337 => 212 | 338 => 213 | n => n, fun | 3 => 3 | 9 => 9 | 2 => 2 | 4 => 4 | 171 => 202 | 0 => 0 | 53 => 201 | 37 => 169 | 5 => 5 | 173 => 204 | 212 => 216 | 51 => 199 | 20 => 20 | 213 => 217 | 46 => 182 | 232 => 223 | 233 => 224 | n => n, fun | 17 => 0 | 18 => 2 | 19 => 3 | n => n⟩
theorem Tryz.laysM171 : Go.Proofs.LaysM.n171 Tryz.prog Tryz.laysM171_ren := {
 mixed := by kernel_rfl
 f129 := Tryz.func181.trans (congrArg some (by kernel_rfl))
 f171 := Tryz.func98.trans (congrArg some (by kernel_rfl))
 f243 := Tryz.func134.trans (congrArg some (by kernel_rfl))
 f246 := Tryz.func156.trans (congrArg some (by kernel_rfl))
 f283 := Tryz.func182.trans (congrArg some (by kernel_rfl))
 f284 := Tryz.func183.trans (congrArg some (by kernel_rfl))
 f285 := Tryz.func184.trans (congrArg some (by kernel_rfl))
 f286 := Tryz.func185.trans (congrArg some (by kernel_rfl))
 f317 := Tryz.func202.trans (congrArg some (by kernel_rfl))
 f318 := Tryz.func203.trans (congrArg some (by kernel_rfl))
 f319 := Tryz.func204.trans (congrArg some (by kernel_rfl))
 f320 := Tryz.func205.trans (congrArg some (by kernel_rfl))
 f337 := Tryz.func212.trans (congrArg some (by kernel_rfl))
 f338 := Tryz.func213.trans (congrArg some (by kernel_rfl))
 t0 := Tryz.underlying0
 a0 := Tryz.isAgg0
 z0 := Tryz.sizeOf0
 v0 := Tryz.zeroValue0
 t2 := Tryz.underlying2
 a2 := Tryz.isAgg2
 z2 := Tryz.sizeOf2
 v2 := Tryz.zeroValue2
 t3 := Tryz.underlying3
 a3 := Tryz.isAgg3
 z3 := Tryz.sizeOf3
 v3 := Tryz.zeroValue3
 t4 := Tryz.underlying4
 a4 := Tryz.isAgg4
 z4 := Tryz.sizeOf4
 v4 := Tryz.zeroValue4
 t5 := Tryz.underlying5
 a5 := Tryz.isAgg5
 z5 := Tryz.sizeOf5
 v5 := Tryz.zeroValue5
 t9 := Tryz.underlying9
 a9 := Tryz.isAgg9
 z9 := Tryz.sizeOf9
 v9 := Tryz.zeroValue9
 t20 := Tryz.underlying20
 a20 := Tryz.isAgg20
 z20 := Tryz.sizeOf20
 v20 := Tryz.zeroValue20
 t37 := Tryz.underlying169
 a37 := Tryz.isAgg169
 z37 := Tryz.sizeOf169
 v37 := Tryz.zeroValue169
 t46 := Tryz.underlying182
 a46 := Tryz.isAgg182
 z46 := Tryz.sizeOf182
 v46 := Tryz.zeroValue182
 t51 := Tryz.underlying199
 a51 := Tryz.isAgg199
 z51 := Tryz.sizeOf199
 v51 := Tryz.zeroValue199
 t53 := Tryz.underlying201
 a53 := Tryz.isAgg201
 z53 := Tryz.sizeOf201
 v53 := Tryz.zeroValue201
 t171 := Tryz.underlying202
 a171 := Tryz.isAgg202
 z171 := Tryz.sizeOf202
 v171 := Tryz.zeroValue202
 t173 := Tryz.underlying204
 a173 := Tryz.isAgg204
 z173 := Tryz.sizeOf204
 v173 := Tryz.zeroValue204
 t212 := Tryz.underlying216
 a212 := Tryz.isAgg216
 z212 := Tryz.sizeOf216
 v212 := Tryz.zeroValue216
 t213 := Tryz.underlying217
 a213 := Tryz.isAgg217
 z213 := Tryz.sizeOf217
 t232 := Tryz.underlying223
 a232 := Tryz.isAgg223
 z232 := Tryz.sizeOf223
 v232 := Tryz.zeroValue223
 t233 := Tryz.underlying224
 a233 := Tryz.isAgg224
 z233 := Tryz.sizeOf224
 v233 := Tryz.zeroValue224
 g17 := by kernel_rfl
 g18 := by kernel_rfl
 g19 := by kernel_rfl
 i0 := by kernel_rfl
 i2 := by kernel_rfl
 i3 := by kernel_rfl
 i4 := by kernel_rfl
 i5 := by kernel_rfl
 i9 := by kernel_rfl
 i20 := by kernel_rfl
 i37 := by kernel_rfl
 i46 := by kernel_rfl
 i51 := by kernel_rfl
 i53 := by kernel_rfl
 i171 := by kernel_rfl
 i173 := by kernel_rfl
 i212 := by kernel_rfl
 i232 := by kernel_rfl
 i233 := by kernel_rfl
 m17 := by kernel_rfl
 m18 := by kernel_rfl
 m19 := by kernel_rfl }
noncomputable def Tryz.lays190_ren : Go.Shelf.Ren := ⟨fun | 190 => 127 | 125 => 154 | 258 => 153 | 128 => 180 | 129 => 181 | 302 => 171 | 303 => 172 | 304 => 173 | 305 => 174 | 306 => 175 | 307 => 176 | 308 => 177 | 309 => 178 | 310 => 179 | 333 => 196 | 329 => 197 | 330 => 198 | 334 => 199 | 335 => 200 | 336 => 201 | 344 => 211 | n => n, fun | 31 => 38 | 9 => 9 | 3 => 3 | 46 => 182 | 0 => 0 | 51 => 199 | 53 => 201 | 4 => 4 | 183 => 191 | 182 => 190 | 131 => 196 | 5 => 5 | 218 => 208 | 222 => 212 | 228 => 219 | 229 => 220 | n => n, fun | n => n⟩
theorem Tryz.lays190 : Go.Proofs.Lays.n190 Tryz.prog Tryz.lays190_ren := {
 mixed := by kernel_rfl
 f125 := Tryz.func154.trans (congrArg some (by kernel_rfl))
 f128 := Tryz.func180.trans (congrArg some (by kernel_rfl))
 f129 := Tryz.func181.trans (congrArg some (by kernel_rfl))
 f190 := Tryz.func127.trans (congrArg some (by kernel_rfl))
 f258 := Tryz.func153.trans (congrArg some (by kernel_rfl))
 f302 := Tryz.func171.trans (congrArg some (by kernel_rfl))
 f303 := Tryz.func172.trans (congrArg some (by kernel_rfl))
 f304 := Tryz.func173.trans (congrArg some (by kernel_rfl))
 f305 := Tryz.func174.trans (congrArg some (by kernel_rfl))
 f306 := Tryz.func175.trans (congrArg some (by kernel_rfl))
 f307 := Tryz.func176.trans (congrArg some (by kernel_rfl))
 f308 := Tryz.func177.trans (congrArg some (by kernel_rfl))
 f309 := Tryz.func178.trans (congrArg some (by kernel_rfl))
 f310 := Tryz.func179.trans (congrArg some (by kernel_rfl))
 f329 := Tryz.func197.trans (congrArg some (by kernel_rfl))
 f330 := Tryz.func198.trans (congrArg some (by kernel_rfl))
 f333 := Tryz.func196.trans (congrArg some (by kernel_rfl))
 f334 := Tryz.func199.trans (congrArg some (by kernel_rfl))
 f335 := Tryz.func200.trans (congrArg some (by kernel_rfl))
 f336 := Tryz.func201.trans (congrArg some (by kernel_rfl))
 f344 := Tryz.func211.trans (congrArg some (by kernel_rfl))
 t0 := Tryz.underlying0
 a0 := Tryz.isAgg0
 z0 := Tryz.sizeOf0
 v0 := Tryz.zeroValue0
 t3 := Tryz.underlying3
 a3 := Tryz.isAgg3
 z3 := Tryz.sizeOf3
 v3 := Tryz.zeroValue3
 t4 := Tryz.underlying4
 a4 := Tryz.isAgg4
 z4 := Tryz.sizeOf4
 v4 := Tryz.zeroValue4
 t5 := Tryz.underlying5
 a5 := Tryz.isAgg5
 z5 := Tryz.sizeOf5
 v5 := Tryz.zeroValue5
 t9 := Tryz.underlying9
 a9 := Tryz.isAgg9
 z9 := Tryz.sizeOf9
 v9 := Tryz.zeroValue9
 t31 := Tryz.underlying38
 a31 := Tryz.isAgg38
 z31 := Tryz.sizeOf38
 v31 := Tryz.zeroValue38
 t46 := Tryz.underlying182
 a46 := Tryz.isAgg182
 z46 := Tryz.sizeOf182
 v46 := Tryz.zeroValue182
 t51 := Tryz.underlying199
 a51 := Tryz.isAgg199
 z51 := Tryz.sizeOf199
 v51 := Tryz.zeroValue199
 t53 := Tryz.underlying201
 a53 := Tryz.isAgg201
 z53 := Tryz.sizeOf201
 v53 := Tryz.zeroValue201
 t131 := Tryz.underlying196
 a131 := Tryz.isAgg196
 z131 := Tryz.sizeOf196
 v131 := Tryz.zeroValue196
 t182 := Tryz.underlying190
 a182 := Tryz.isAgg190
 z182 := Tryz.sizeOf190
 v182 := Tryz.zeroValue190
 t183 := Tryz.underlying191
 a183 := Tryz.isAgg191
 z183 := Tryz.sizeOf191
 v183 := Tryz.zeroValue191
 t218 := Tryz.underlying208
 a218 := Tryz.isAgg208
 z218 := Tryz.sizeOf208
 v218 := Tryz.zeroValue208
 t222 := Tryz.underlying212
 a222 := Tryz.isAgg212
 z222 := Tryz.sizeOf212
 v222 := Tryz.zeroValue212
 t228 := Tryz.underlying219
 a228 := Tryz.isAgg219
 z228 := Tryz.sizeOf219
 v228 := Tryz.zeroValue219
 t229 := Tryz.underlying220
 a229 := Tryz.isAgg220
 z229 := Tryz.sizeOf220
 v229 := Tryz.zeroValue220 }
noncomputable def Tryz.lc104_ren : Go.Shelf.Ren := ⟨fun | 41 => 104 | n => n, fun | 22 => 92 | 23 => 137 | 4 => 4 | n => n, fun | n => n⟩
theorem Tryz.lc104 : Go.Proofs.SlLaysE0.n41 Tryz.prog Tryz.lc104_ren := {
 mixed := by kernel_rfl
 f41 := ⟨Tryz.f104.name, by decide, Tryz.func104.trans (congrArg some (by kernel_rfl))⟩
 t4 := Tryz.underlying4
 a4 := Tryz.isAgg4
 z4 := Tryz.sizeOf4
 v4 := Tryz.zeroValue4
 t22 := Tryz.underlying92
 a22 := Tryz.isAgg92
 z22 := Tryz.sizeOf92
 v22 := Tryz.zeroValue92 }
noncomputable def Tryz.lc125_ren : Go.Shelf.Ren := ⟨fun | 41 => 125 | n => n, fun | 22 => 38 | 23 => 9 | 4 => 4 | n => n, fun | n => n⟩
theorem Tryz.lc125 : Go.Proofs.SlLaysE0.n41 Tryz.prog Tryz.lc125_ren := {
 mixed := by kernel_rfl
 f41 := ⟨Tryz.f125.name, by decide, Tryz.func125.trans (congrArg some (by kernel_rfl))⟩
 t4 := Tryz.underlying4
 a4 := Tryz.isAgg4
 z4 := Tryz.sizeOf4
 v4 := Tryz.zeroValue4
 t22 := Tryz.underlying38
 a22 := Tryz.isAgg38
 z22 := Tryz.sizeOf38
 v22 := Tryz.zeroValue38 }
noncomputable def Tryz.ix131_ren : Go.Shelf.Ren := ⟨fun | 29 => 131 | n => n, fun | 22 => 38 | 23 => 9 | 3 => 3 | 0 => 0 | 4 => 4 | n => n, fun | n => n⟩
theorem Tryz.ix131 : Go.Proofs.SlLaysE.n29 Tryz.prog Tryz.ix131_ren := {
 mixed := by kernel_rfl
 f29 := ⟨Tryz.f131.name, by decide, Tryz.func131.trans (congrArg some (by kernel_rfl))⟩
 t0 := Tryz.underlying0
 a0 := Tryz.isAgg0
 z0 := Tryz.sizeOf0
 v0 := Tryz.zeroValue0
 t3 := Tryz.underlying3
 a3 := Tryz.isAgg3
 z3 := Tryz.sizeOf3
 v3 := Tryz.zeroValue3
 t4 := Tryz.underlying4
 a4 := Tryz.isAgg4
 z4 := Tryz.sizeOf4
 v4 := Tryz.zeroValue4
 t22 := Tryz.underlying38
 a22 := Tryz.isAgg38
 z22 := Tryz.sizeOf38
 v22 := Tryz.zeroValue38
 a23 := Tryz.isAgg9
 z23 := Tryz.sizeOf9 }
noncomputable def Tryz.df129_ren : Go.Shelf.Ren := ⟨fun | 10 => 129 | 6 => 155 | n => n, fun | 22 => 38 | 23 => 9 | 25 => 162 | 3 => 3 | 4 => 4 | 0 => 0 | n => n, fun | n => n⟩
theorem Tryz.df129 : Go.Proofs.SlLaysH.n10 Tryz.prog Tryz.df129_ren := {
 mixed := by kernel_rfl
 f6 := ⟨Tryz.f155.name, by decide, Tryz.func155.trans (congrArg some (by kernel_rfl))⟩
 f10 := ⟨Tryz.f129.name, by decide, Tryz.func129.trans (congrArg some (by kernel_rfl))⟩
 t0 := Tryz.underlying0
 a0 := Tryz.isAgg0
 z0 := Tryz.sizeOf0
 v0 := Tryz.zeroValue0
 t3 := Tryz.underlying3
 a3 := Tryz.isAgg3
 z3 := Tryz.sizeOf3
 v3 := Tryz.zeroValue3
 t4 := Tryz.underlying4
 a4 := Tryz.isAgg4
 z4 := Tryz.sizeOf4
 v4 := Tryz.zeroValue4
 t22 := Tryz.underlying38
 a22 := Tryz.isAgg38
 z22 := Tryz.sizeOf38
 v22 := Tryz.zeroValue38
 a23 := Tryz.isAgg9
 z23 := Tryz.sizeOf9
 t25 := Tryz.underlying162
 a25 := Tryz.isAgg162
 z25 := Tryz.sizeOf162
 v25 := Tryz.zeroValue162 }
end Go.Proofs
namespace Go.Proofs.YtkdahfeiedaahaaGreatDoor
open Go Go.Proofs.Tryz
set_option linter.unusedVariables false
set_option maxRecDepth 100000
theorem PG:tF Pg 104 137:=LF Tryz.lc104 rfl rfl (by kernel_rfl) call104
theorem wW{l r:List ac}(h:px l=some r):CC Pg GE 104 [sl aa l] (sl aa r) [(0,137)]:=Ku.cloneCC PG h
theorem PH:tF Pg 125 9:=LF Tryz.lc125 rfl rfl (by kernel_rfl) call125
theorem tj{l r:List af}(h:px l=some r):CC Pg GE 125 [sl cS l] (sl cS r) [(0,9)]:=dp.cloneCC PH h
def QV(n:Int):Option af:=if(decide (-9223372036854775808<=n)&&decide (n<=9223372036854775807))=true then some (Lib.itoa n)else none
theorem UL:lS=Lib.pow10Tab:=by kernel_rfl
theorem VP{n:Int}{r:af}(h:QV n=some r):CC Pg GE 98 [.int .i64 n] (.str r) []:=by
 rcases aQ h with⟨b,h⟩|⟨b,h⟩
 ·obtain rfl:=lf h
  simp only[vad,vaj]at b
  refine CC.grownIS call98 fun E Γ bs ow w a st hE hS=>?_
  have htab:Lib.TabIs Pg w "internal/strconv.uint64pow10" .u64 Lib.pow10Tab:=XC hS (g:=0) (by rw[hE,←UL];simp[GE]) (by kernel_rfl)
  refine(Any.strconv_Itoa Tryz.laysM171 n b.1 b.2 w htab).mono fun e w' he=>?_
  obtain⟨rfl,k,os,rfl⟩:=he
  exact⟨rfl,.of_grow _ _ _⟩
 ·cases h
open Go
abbrev DU(GE:List (Nat×List PVal))(Γ:aT)(w:World):rf:=⟨GE,Γ,w,fun _=>False⟩
structure Ap(GE:List (Nat×List PVal))(Γ:aT)(w:World):Prop where
 wi:∀b n,Γ b=some n->∃c t fr,w.heap[b]? =some (.cells c t fr)/\n<=c.size
 gl:∀g cs,(g,cs)∈GE->VR Γ [] w (.eptr cs) (.pointer (some ⟨g,0,none⟩))
 gc:∀g cs,(g,cs)∈GE->jK 0 cs
 gx:∀g cs,(g,cs)∈GE->g<w.heap.size/\∃c t fr,w.heap[g]? =some (.cells c t fr)/\c.size=cs.length
theorem VR.clo{Γ:aT}{bs bs':bC}{w:World}{p:PVal}{v:Value}(h:VR Γ bs w p v)(hc:p.cl 0):VR Γ bs' w p v:=h.restrict (n:=0) hc fun i b hi _=>absurd hi (vaK _)
section
variable{P:Program}{E:rf}{Γ:aT}{bs:bC}{ow:Nat->Option mi}{w:World}{a:Array Value}{st:aB}
theorem SR.base(h:SR P E Γ bs ow w a st):Ap E.GE Γ w where
 wi:=h.wi
 gl:=fun g cs hg=>(h.gl g cs hg).clo (by simp only[PVal.cl];exact h.gc g cs hg)
 gc:=h.gc
 gx:=fun g cs hg=>⟨(h.gnow hg).1,(h.gnow hg).2.2.2⟩
theorem Ap.good{GE:List (Nat×List PVal)}(hB:Ap GE Γ w):te GE 0 (DU GE Γ w) where
 ge:=rfl
 low:=fun b n h=>by obtain⟨c,t,fr,h1,_⟩:=hB.wi b n h;exact(vae.1 h1).1
 nt:=fun _ _ hb=>hb
 gl:=hB.gl
theorem Ap.fresh{GE:List (Nat×List PVal)}(hB:Ap GE Γ w)(k:Nat){tmps:List PVal}(hs:a.size=tmps.length)(hv:∀(t:Nat) p v,tmps[t]? =some p->a[t]? =some v->VR Γ [] w p v):SR P (DU GE Γ w) Γ (List.replicate k none) (fun _=>none) w a ⟨tmps,List.replicate k .dead,[]⟩:=by
 have hno:∀(i b:Nat),(List.replicate k (none:Option Nat))[i]? =some (some b)->False:=fun i b h=>by
  rw[vaU]at h
  split at h<;>simp at h
 exact{
  wi:=hB.wi
  sz:=hs
  tm:=fun t p v hp hv'=>(hv t p v hp hv').mono (.refl _ _) (fun i b h=>by simp at h)
  bl:=by simp
  bx:=fun i b B hb=>(hno i b hb).elim
  inj:=fun i j b hb=>(hno i b hb).elim
  bn:=fun i b hb=>(hno i b hb).elim
  on:=fun b L hL=>by cases hL
  ot:=fun t k e he=>by simp at he
  ob:=fun i j e cs own b _ _ hb=>(hno i b hb).elim
  gl:=fun g cs hg=>(hB.gl g cs hg).mono (.refl _ _) (fun i b h=>by simp at h)
  gc:=hB.gc
  gx:=fun g cs hg=>⟨(hB.gx g cs hg).1,fun h=>h,(hB.gx g cs hg).2⟩
  step:=.refl _ _ _ _}
theorem SR.again(h:SR P E Γ bs ow w a st)(hc:jK 0 st.tmps){GE:List (Nat×List PVal)}{Γ':aT}{w':World}(hB:Ap GE Γ' w')(hle:Γ.Le w Γ' w')(k:Nat):SR P (DU GE Γ' w') Γ' (List.replicate k none) (fun _=>none) w' a ⟨st.tmps,List.replicate k .dead,[]⟩:=
 hB.fresh k h.sz fun t p v hp hv=>((h.tm t p v hp hv).clo (oS hc hp)).mono hle (.refl _)
theorem SR.aside(h:SR P E Γ bs ow w a st){GE:List (Nat×List PVal)}{Γ':aT}{bs':bC}{ow':Nat->Option mi}{w':World}{a':Array Value}{st':aB}(h':SR P (DU GE Γ w) Γ' bs' ow' w' a' st'):SR P E Γ' bs ow w' a st:=
 h.world (fun _=>False) h'.step.le h'.wi h'.step.os h'.step.tape h'.step.output h'.step.size (fun b hb _=>h'.step.keep b hb id) (fun _ hx=>hx.elim) (fun _ _ _ hx=>hx) (fun _ _ _ hx=>hx) h'.step.drawn
theorem SR.putOther(h:SR P E Γ bs ow w a st){l:Nat}{o:Obj}(hT:¬bj bs ow l)(hE:E.T l\/E.w.heap.size<=l)(ho:∀c t fr,w.heap[l]? ≠some (.cells c t fr)):SR P E Γ bs ow (w.putObj l o) a st/\Γ.Le w Γ (w.putObj l o):=by
 have hg:∀b n,Γ b=some n->b≠l:=fun b n hb e=>by
  obtain⟨c,t,fr,h1,_⟩:=h.wi b n hb
  exact ho c t fr (e▸h1)
 have hle:Γ.Le w Γ (w.putObj l o):=fun b n hb _=>⟨n,hb,van _,fun k _=>bO (World.putObj_heap_other (hg b n hb)) k⟩
 refine⟨h.world (fun b=>b=l) hle (fun b n hb=>?_) rfl rfl rfl (by simp) (fun b _ hb=>⟨World.putObj_heap_other hb,rfl⟩) (fun b hb=>hb▸hE) (fun i b hb e=>hT (.inl ⟨i,e▸hb⟩)) (fun b L hL e=>hT (.inr (by rw[<-e,hL];simp))),hle⟩
 obtain⟨c,t,fr,h1,h2⟩:=h.wi b n hb
 exact⟨c,t,fr,(World.putObj_heap_other (hg b n hb)).trans h1,h2⟩
theorem SR.rebase(h:SR P E Γ bs ow w a st):SR P ⟨E.GE,Γ,w,bj bs ow⟩ Γ bs ow w a st:=
 { h with
  bn:=fun i b hb=>.inl (.inl ⟨i,hb⟩)
  on:=fun b L hL=>⟨(h.on b L hL).1,.inl (.inr (by rw[hL];simp))⟩
  gx:=fun g cs hg=>by
   obtain⟨k1,k2,k3,k4⟩:=h.gnow hg
   refine⟨k1,fun hT=>?_,k4⟩
   rcases hT with⟨i,hi⟩|hT
   ·exact k2 i g hi rfl
   ·exact hT k3
  step:=.refl _ _ _ _}
theorem SR.touchE(h:SR P E Γ bs ow w a st){b:Nat}(hb:bj bs ow b):E.T b\/E.w.heap.size<=b:=by
 rcases hb with⟨i,hi⟩|hb
 ·exact h.bn i b hi
 ·cases hL:ow b with
  |none=>exact absurd hL hb
  |some L=>exact(h.on b L hL).2
theorem SR.unbase(h:SR P E Γ bs ow w a st){Γ':aT}{bs':bC}{ow':Nat->Option mi}{w':World}{a':Array Value}{st':aB}(h':SR P ⟨E.GE,Γ,w,bj bs ow⟩ Γ' bs' ow' w' a' st'):SR P E Γ' bs' ow' w' a' st':=by
 have hT:∀b,bj bs ow b\/w.heap.size<=b->E.T b\/E.w.heap.size<=b:=fun b hb=>hb.elim h.touchE fun hb=>.inr (vay h.step.size hb)
 exact{h' with
  bn:=fun i b hb=>hT b (h'.bn i b hb)
  on:=fun b L hL=>⟨(h'.on b L hL).1,hT b (h'.on b L hL).2⟩
  gx:=h.gx
  step:={
   os:=h'.step.os.trans h.step.os
   tape:=h'.step.tape.trans h.step.tape
   output:=h'.step.output.trans h.step.output
   size:=vay h.step.size h'.step.size
   drawn:=vay h.step.drawn h'.step.drawn
   keep:=fun b hb hTb=>by
    have hlt:b<w.heap.size:=vaA hb h.step.size
    have hn:¬bj bs ow b:=fun hx=>(h.touchE hx).elim hTb fun hx=>absurd hx (vcj.2 hb)
    obtain⟨k1,k2⟩:=h'.step.keep b hlt hn
    obtain⟨q1,q2⟩:=h.step.keep b hb hTb
    exact⟨k1.trans q1,k2.trans q2⟩
   le:=h.step.le.trans h'.step.le}}
theorem bh.on{m:Nat}{c:Code}{Q:Exit->aB->Prop}(hS:bh P E.GE m c Q st)(hm:m≠0)(h:SR P E Γ bs ow w a st)(hl:m % 1000<=bs.length)(ro:Option Nat)(ds:List Deferred):HI ro P c (fun e a' w'=>a'.defers=ds/\∃Γ' bs' ow' st',SR P E Γ' bs' ow' w' a'.tmps st'/\Q e st'/\(∀i:Nat,i<m % 1000->bs'[i]? =bs[i]?)/\Γ.Le w Γ' w'/\w.heap.size<=w'.heap.size/\
   ∀b,b<w.heap.size->¬bj bs ow b->w'.heap[b]? =w.heap[b]?/\¬bj bs' ow' b) ⟨a,ds⟩ w:=by
 have hE:te E.GE m ⟨E.GE,Γ,w,bj bs ow⟩:={
  ge:=rfl
  low:=fun b n hb=>h.lt_of_ghost hb
  nt:=fun h0=>absurd h0 hm
  gl:=h.base.gl}
 have hlen:(bs.take (m % 1000)).length=m % 1000:=by simp;omega
 refine lQ (hS ro ⟨E.GE,Γ,w,bj bs ow⟩ (bs.take (m % 1000)) ⟨a,ds⟩ w hE hlen ⟨Γ,bs,ow,h.rebase,fun i hi=>?_⟩) fun e a' w' hq=>?_
 ·rw[vak (by omega)]
 obtain⟨hd,st',⟨Γ',bs',ow',h',hk⟩,hQ⟩:=hq
 refine⟨hd,Γ',bs',ow',st',h.unbase h',hQ,fun i hi=>?_,h'.step.le,h'.step.size,fun b hb hT=>⟨(h'.step.keep b hb hT).1,fun hx=>?_⟩⟩
 ·rw[hk i (by omega),vak hi]
 ·exact(h'.touchE hx).elim hT fun hx=>absurd hx (vcj.2 hb)
theorem bh.wide{GE:List (Nat×List PVal)}{c:Code}{Q:Exit->aB->Prop}{st0:aB}(hS:bh P GE 0 c Q st0)(hB:Ap GE Γ w){ow:Nat->Option mi}{bs:bC}(h:SR P (DU GE Γ w) Γ bs ow w a st0)(n:Nat)(ds:List Deferred):c.wpIn Fence.wide n P (fun e a' w'=>a'.defers=ds/\∃Γ' bs' ow' st',SR P (DU GE Γ w) Γ' bs' ow' w' a'.tmps st'/\Q e st') ⟨a,ds⟩ w:=
 wpIn_wide.2 (wp_mono (hS none (DU GE Γ w) [] ⟨a,ds⟩ w hB.good rfl ⟨Γ,bs,ow,h,fun i hi=>absurd hi (vaK _)⟩) fun e a' w' hq=>by
  obtain⟨hd,st',⟨Γ',bs',ow',h',_⟩,hQ⟩:=hq
  exact⟨hd,Γ',bs',ow',st',h',hQ⟩)
theorem bh.wideE{GE:List (Nat×List PVal)}{c:Code}{Q:Exit->aB->Prop}(hS:bh P GE 0 c Q st)(hE:te GE 0 E)(h:SR P E Γ bs ow w a st)(n:Nat)(ds:List Deferred):c.wpIn Fence.wide n P (fun e a' w'=>a'.defers=ds/\∃Γ' bs' ow' st',SR P E Γ' bs' ow' w' a'.tmps st'/\Q e st') ⟨a,ds⟩ w:=
 wpIn_wide.2 (wp_mono (hS none E [] ⟨a,ds⟩ w hE rfl ⟨Γ,bs,ow,h,fun i hi=>absurd hi (vaK _)⟩) fun e a' w' hq=>by
  obtain⟨hd,st',⟨Γ',bs',ow',h',_⟩,hQ⟩:=hq
  exact⟨hd,Γ',bs',ow',st',h',hQ⟩)
theorem SR.allocO(h:SR P E Γ bs ow w a st)(o:Obj):SR P E Γ bs ow (w.alloc o) a st/\Γ.Le w Γ (w.alloc o):=by
 have hlt:∀b n,Γ b=some n->b<w.heap.size:=fun b n hb=>h.lt_of_ghost hb
 have hle:Γ.Le w Γ (w.alloc o):=fun b n hb _=>⟨n,hb,van _,fun k _=>bO (fG w o (hlt b n hb)) k⟩
 refine⟨h.world (fun _=>False) hle (fun b n hb=>?_) rfl rfl rfl (by simp[World.size_alloc]) (fun b hb _=>⟨fG w o hb,rfl⟩) (fun _ hx=>hx.elim) (fun _ _ _ hx=>hx) (fun _ _ _ hx=>hx),hle⟩
 obtain⟨c,t,fr,h1,h2⟩:=h.wi b n hb
 exact⟨c,t,fr,(fG w o (hlt b n hb)).trans h1,h2⟩
theorem SR.forgetT(h:SR P E Γ bs ow w a st){tm:List PVal}(hf:LL st.tmps tm=tm):SR P E Γ bs ow w a {st with tmps:=tm}:=
 { h with
  sz:=by rw[h.sz,<-MW (l:=st.tmps) (bs:=tm),hf]
  tm:=fun t p v hp hv=>by
   rw[<-hf]at hp
   rcases MV hp with rfl|hp'
   ·exact .undef v
   ·exact h.tm t p v hp' hv}
theorem SR.back(h:SR P E Γ bs ow w a st)(ho:st.own=[]){Γ':aT}{bs':bC}{ow':Nat->Option mi}{w':World}{a':Array Value}{st':aB}{H':List aC}(h':SR P E Γ' bs' ow' w' a' st')(hle:Γ.Le w Γ' w')
  (hbs:∀i:Nat,i<bs.length->bs'[i]? =bs[i]?) (hH:dL H'.length st'.boxes H') (hl:H'.length=bs.length):
  ∃ow'',SR P E Γ' bs ow'' w' a {st with boxes:=H'}/\∀b,bj bs ow'' b->bj bs' ow' b:=by
 have hf:=h'.finish (H':=H') (v:=undef) (r:=.undef) (src:=fun k=>(0,k)) (ro:=[]) (.undef _) trivial hH (fun x hx=>by simp at hx) (fun x hx=>by simp at hx)
 have hb:bs'.take H'.length=bs:=by
  obtain⟨h1,_⟩:=oC hH
  have h2:H'.length<=bs'.length:=by rw[h'.bl];exact h1
  refine va2 fun i=>?_
  by_cases hi:i<H'.length
  ·rw[vak hi];exact hbs i (by omega)
  ·rw[vca (by omega),vaE (by omega)]
 rw[hb]at hf
 refine⟨_,{hf with
  sz:=h.sz
  tm:=fun t p v hp hv=>(h.tm t p v hp hv).mono hle (.refl _)
  ot:=fun t k e he=>by simp only[ho]at he;simp at he},fun b hb=>?_⟩
 rcases hb with⟨i,hi⟩|hb
 ·exact .inl ⟨i,(hbs i (aq hi)).trans hi⟩
 ·refine .inr fun e=>hb ?_
  simp[ym,e]
end
section
variable{P:Program}{n:Nat}{a:Act}{w:World}{next:Act->World->Prop}{Q:Exit->Act->World->Prop}
theorem Sp{o:Oper}(hd:fL o=true)(h:o.wp P a w next Q):o.wpIn Fence.wide n P a w next Q:=by
 refine⟨fun _ _=>trivial,?_⟩
 have hs:o.semAt (Fence.wide).round a.eval=execOp a.eval o:=Oper.semAt_eq _ _ _ fun c hc=>by unfold fL at hd;rw[hc]at hd;cases hd
 rw[hs]
 unfold Oper.wp at h
 generalize (execOp a.eval o).run P w=r at *
 have hdep:(Fence.wide).depth.isSome=true->1<=n:=fun h=>by simp[Fence.wide]at h
 cases r with
 | ok x w' =>
  cases x<;>simp only[Oper.upon]at h<;>simp only[Oper.uponIn]<;>first
   |exact h.elim
   |exact h
   |exact⟨hdep,callsIn_wide.2 h⟩
   | exact ⟨hdep,fun c cs _ => by
     obtain⟨v,w',r,s⟩:=h c cs
     exact⟨v,w',r,stepsIn_wide.2 s⟩⟩
 |halt x w'=>cases x<;>simp only[Oper.upon]at h<;>simp only[Oper.uponIn]<;>exact h
theorem Qu{o:Oper}{f:Operand}{args:Array Operand}{tys:Array TypeId}(ho:o.op=.call {callee:=.value f,args:=args,argTypes:=tys}){l:Nat}(hf:a.eval f=.func (.yield l) #[] #[])
  {R:Ending->World->Prop} (h:YieldAt Fence.wide (n - 1) P l (args.map a.eval) w R) (hR:∀e w',R e w'->∃v,e=.returned v/\next (a.put o.dst v) w'):o.wpIn Fence.wide n P a w next Q:=by
 refine⟨fun _ _=>trivial,?_⟩
 have hs:o.semAt (Fence.wide).round a.eval=execOp a.eval o:=Oper.semAt_eq _ _ _ fun c hc=>by rw[ho]at hc;cases hc
 obtain⟨fn,tmps,assign,body,hy,hr⟩:=h
 have hrun:(execOp a.eval o).run P w=.ok (.round l fn tmps assign body) w:=by
  simp[execOp,ho,resolve,hf,Deferred.ofValue,invoke,hy]
 rw[hs,hrun,Oper.uponIn_round]
 refine⟨fun h=>by simp[Fence.wide]at h,hr.mono fun e w' hr=>?_⟩
 obtain⟨v,rfl,hx⟩:=hR e w' hr
 exact hx
theorem Ka{ops:Array Oper}{i:Nat}{rest:List Nat}{o:Oper}(ho:ops[i]? =some o)(hg:o.guard=none)(h:o.wpIn Fence.wide n P a w (wpOpsIn Fence.wide n P ops Q rest) Q):wpOpsIn Fence.wide n P ops Q (i::rest) a w:=by
 unfold wpOpsIn
 simp only[ho,Region.wanted,hg,if_true]
 exact h
theorem GX{E:rf}{A:List Nat}{ops:Array Oper}{K:aB->Prop}{rest:List Nat}{ds:List Deferred}
  (hK:∀Γ bs ow a w st,SR P E Γ bs ow w a st->K st->wpOpsIn Fence.wide n P ops Q rest ⟨a,ds⟩ w):
  ∀(L:List Oper) (is:List Nat) (Γ:aT) (bs:bC) (ow:Nat->Option mi) (a:Array Value) (w:World) (st:aB),is.map (fun i=>ops[i]?)=L.map some->
   (∀o∈L,o.guard=none/\fL o=true/\aF o.op=false)->SR P E Γ bs ow w a st->dz P E.GE A ops K L 0 st->wpOpsIn Fence.wide n P ops Q (is++rest) ⟨a,ds⟩ w
 |[],[],Γ,bs,ow,a,w,st,_,_,h,hp=>hK Γ bs ow a w st h hp
 |o::L,i::is,Γ,bs,ow,a,w,st,hi,hg,h,hp=>by
  obtain⟨g1,g2,g3⟩:=hg o (by simp)
  unfold dz at hp
  simp only[g1]at hp
  simp only[vaC,vbJ]at hi
  refine Ka hi.1 g1 (Sp g2 (Oper.wp_mono (fun a' w' hA=>?_) (FF (a:=⟨a,ds⟩) h (fun hm=>by rw[g3]at hm;cases hm) hp Q)))
  obtain⟨hd,Γ',bs',ow',st',h1,h2,_⟩:=hA
  obtain⟨a1,ds1⟩:=a'
  simp only at hd h1
  subst hd
  refine GX (A:=A) hK L is Γ' bs' ow' a1 w' st' hi.2 (fun o ho=>hg o (vaI _ ho)) h1 ?_
  rw[g3]at h2
  exact h2
end
def Fv:Code->Array Oper
 |.region _ ops _=>ops
 |_=>#[]
def qbN:Code->Nat
 |.region id _ _=>id
 |_=>0
def YD(c:Code)(i:Nat):Oper:=(Fv c)[i]?.getD default
def UV(o:Oper):Array TypeId:=match o.op with
 |.call c=>c.argTypes
 |_=>#[]
def G0(o:Oper):Bool:=o.guard.isNone&&fL o&&!aF o.op
theorem Mg{L:List Oper}(h:L.all G0=true):∀o∈L,o.guard=none/\fL o=true/\aF o.op=false:=fun o ho=>by
 have:=vat.1 h o ho
 simpa[G0,and_assoc]using this
theorem ta{P:Program}{GE:List (Nat×List PVal)}{A:List Nat}{ops:Array Oper}{K K':aB->Prop}(hK:∀st,K st->K' st):∀(L:List Oper) (id:Nat) (st:aB),dz P GE A ops K L id st->dz P GE A ops K' L id st
 |[],_,st,h=>hK st h
 | o :: L,id,st,h => by
  unfold dz at h ⊢
  split at h
  ·exact tx (fun st hx=>ta hK L _ st hx) h
  ·split at h
   ·exact⟨fun hx=>tx (fun st hx=>ta hK L _ st hx) (h.1 hx),fun hx=>ta hK L _ _ (h.2 hx)⟩
   ·exact h
theorem Re{P:Program}{GE:List (Nat×List PVal)}{A:List Nat}{ops:Array Oper}{L:List Oper}{st st0:aB}{sc:List It}{F:Prop}(h:PS sc F)(he:F=HJ P GE A ops (fun _ st=>FG st st0) L 0 0 sc st):dz P GE A ops (fun st=>FG st st0) L 0 st:=
 ta (fun st ⟨_,hx⟩=>hx) L 0 st (vI L 0 0 sc st (Eq.mp he h))
theorem FG.sr{P:Program}{E:rf}{Γ:aT}{bs:bC}{ow:Nat->Option mi}{w:World}{a:Array Value}{st st0:aB}(h:SR P E Γ bs ow w a st)(hf:FG st st0):∃Γ' bs' ow',SR P E Γ' bs' ow' w a st0:=by
 obtain⟨Γ',bs',ow',h',_⟩:=(hf.weak (P:=P) (m:=0)) E [] ⟨a,[]⟩ w rfl ⟨Γ,bs,ow,h,fun i hi=>absurd hi (vaK _)⟩
 exact⟨Γ',bs',ow',h'⟩
def YO:Code->Code
 |.rangeFunc _ _ a _=>a
 |_=>.skip
def YP:Code->Code
 |.rangeFunc _ _ _ b=>b
 |_=>.skip
theorem eD{w:World}{b:Nat}{o:Obj}(h:w.heap[b]? =some o):b<w.heap.size:=(vae.1 h).1
end Go.Proofs.YtkdahfeiedaahaaGreatDoor
