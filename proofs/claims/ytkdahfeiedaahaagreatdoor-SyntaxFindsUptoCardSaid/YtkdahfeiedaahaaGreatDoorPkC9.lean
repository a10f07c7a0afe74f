/- PROVED: a part of the proof. Conditions: none. -/
import Derived.Test.YtkdahfeiedaahaaGreatDoorPkC8
import Derived.Test.YtkdahfeiedaahaaGreatDoorChecked
import Derived.Test.YtkdahfeiedaahaaGreatDoorProg
import Derived.Ground.SlgfProg
import Derived.Ground.SlgnProg
import Derived.Shelf.Lays
import Derived.Shelf.LaysM
import Derived.Shelf.SlGeneric
import Derived.Shelf.SlLaysE
import Derived.Shelf.SlLaysE0
import Derived.Shelf.SlLaysH
import Derived.Test.YtkdahfeiedaahaaGreatDoorPkC7
import Derived.Shelf.Strconv.Itoa3
import Derived.RangeFuncRecord
import Derived.RangeFuncSeq
noncomputable section
namespace Go.Proofs.YtkdahfeiedaahaaGreatDoor
open Go Go.Proofs.Tryz
set_option linter.unusedVariables false
set_option maxRecDepth 100000
noncomputable abbrev Pg:=Tryz.prog
theorem mixed:Pg.follows .mixedOrders=true:=by kernel_rfl
inductive aj where
 |mk (Op:Int) (Name:ae) (N:Int) (Kids:(List aj))
def aj.Op:aj->Int
 |⟨x,_,_,_⟩=>x
def aj.Name:aj->ae
 |⟨_,x,_,_⟩=>x
def aj.N:aj->Int
 |⟨_,_,x,_⟩=>x
def aj.Kids:aj->(List aj)
 |⟨_,_,_,x⟩=>x
mutual
def al:aj->List PVal
 |⟨x0,x1,x2,x3⟩=>[.int .i64 x0,.str x1,.int .i64 x2,.slice (uD x3)]
def uD:List aj->List (List PVal)
 |[]=>[]
 |x::r=>al x::uD r
end
theorem Hj:∀(l:List aj),uD l=l.map al
 |[]=>by simp[uD]
 |x::r=>by simp[uD,Hj r]
mutual
theorem aS:∀(x:aj),iN 0 (al x)
 |⟨x0,x1,x2,x3⟩=>by rw[al];exact(aI trivial (aI trivial (aI trivial (aI (Jf x3) trivial))))
theorem Jf:∀(l:List aj),ub 0 (uD l)
 |[]=>by simp[uD,ub]
 |x::r=>by rw[uD];exact⟨aS x,Jf r⟩
end
theorem cj:∀(x:aj),al x=[.int .i64 x.Op,.str x.Name,.int .i64 x.N,sl al x.Kids]
 |⟨x0,x1,x2,x3⟩=>by
  simp only[al,Hj]
  rfl
abbrev KU(x:aj):PVal:=.agg (al x)
theorem Ev(x:aj):(al x).length=4:=by rw[cj];rfl
theorem DD(x:aj):co (.agg (al x))=some (al x):=rfl
theorem JA(x:aj):co (KU x)=some (al x):=rfl
theorem Aw(x:aj):co (.agg (al x))=some [.int .i64 x.Op,.str x.Name,.int .i64 x.N,sl al x.Kids]:=by rw[cj];rfl
theorem OK(x:aj):∀q∈al x,q.one=true:=by
 intro q hq
 rw[cj]at hq
 simp only[vaw,vbc,or_false]at hq
 rcases hq with rfl|rfl|rfl|rfl<;>rfl
theorem Rq:Pg.cellsOf 58=4:=by kernel_rfl
theorem pu(x:aj):be Pg 58 (al x)=some (.agg (al x)):=by
 have:=lB (P:=Pg) (t:=58) (l:=al x) (r:=[]) (by kernel_rfl) (Rq.trans (Ev x).symm)
 rwa[vba]at this
theorem vV(x:aj)(r:List PVal):be Pg 58 ([.int .i64 x.Op,.str x.Name,.int .i64 x.N,sl al x.Kids]++r)=some (.agg (al x)):=by
 rw[<-cj];exact lB (by kernel_rfl) (Rq.trans (Ev x).symm)
theorem O0(x:aj):PVal.agg [.int .i64 x.Op,.str x.Name,.int .i64 x.N,sl al x.Kids]=.agg (al x):=by rw[cj]
theorem qR(x:aj):aR Pg 58 (.eptr (al x)) 0=some (.eptr ((al x).drop 0)):=by rw[cj];kernel_rfl
theorem nC(x:aj):aR Pg 58 (.eptr (al x)) 1=some (.eptr ((al x).drop 1)):=by rw[cj];kernel_rfl
theorem qS(x:aj):aR Pg 58 (.eptr (al x)) 2=some (.eptr ((al x).drop 2)):=by rw[cj];kernel_rfl
theorem gh(x:aj):aR Pg 58 (.eptr (al x)) 3=some (.eptr ((al x).drop 3)):=by rw[cj];kernel_rfl
theorem qT(x:aj):be Pg 55 ((al x).drop 0)=some (.int .i64 x.Op):=by rw[cj];kernel_rfl
theorem pr(x:aj):be Pg 9 ((al x).drop 1)=some (.str x.Name):=by rw[cj];kernel_rfl
theorem sP(x:aj):be Pg 3 ((al x).drop 2)=some (.int .i64 x.N):=by rw[cj];kernel_rfl
theorem gk(x:aj):be Pg 56 ((al x).drop 3)=some (sl al x.Kids):=by rw[cj];kernel_rfl
inductive ah where
 |mk (Op:Int) (Name:ae) (Args:(List ah)) (Names:(List ae)) (Pred:aj) (Preds:(List aj))
def ah.Op:ah->Int
 |⟨x,_,_,_,_,_⟩=>x
def ah.Name:ah->ae
 |⟨_,x,_,_,_,_⟩=>x
def ah.Args:ah->(List ah)
 |⟨_,_,x,_,_,_⟩=>x
def ah.Names:ah->(List ae)
 |⟨_,_,_,x,_,_⟩=>x
def ah.Pred:ah->aj
 |⟨_,_,_,_,x,_⟩=>x
def ah.Preds:ah->(List aj)
 |⟨_,_,_,_,_,x⟩=>x
mutual
def ai:ah->List PVal
 |⟨x0,x1,x2,x3,x4,x5⟩=>[.int .i64 x0,.str x1,.slice (uE x2),sl cS x3]++(al x4++([sl al x5]))
def uE:List ah->List (List PVal)
 |[]=>[]
 |x::r=>ai x::uE r
end
theorem Hk:∀(l:List ah),uE l=l.map ai
 |[]=>by simp[uE]
 |x::r=>by simp[uE,Hk r]
mutual
theorem aE:∀(x:ah),iN 0 (ai x)
 |⟨x0,x1,x2,x3,x4,x5⟩=>by rw[ai];exact Cb.2 (aI ((aI trivial (aI trivial (aI (Jg x2) (aI (am bO x3) trivial))))) (Cb.2 (aI (aS x4) ((aI (am aS x5) trivial)))))
theorem Jg:∀(l:List ah),ub 0 (uE l)
 |[]=>by simp[uE,ub]
 |x::r=>by rw[uE];exact⟨aE x,Jg r⟩
end
theorem ct:∀(x:ah),ai x=[.int .i64 x.Op,.str x.Name,sl ai x.Args,sl cS x.Names,.int .i64 x.Pred.Op,.str x.Pred.Name,.int .i64 x.Pred.N,sl al x.Pred.Kids,sl al x.Preds]
 |⟨x0,x1,x2,x3,x4,x5⟩=>by
  simp only[ai,Hk,cj,vaO,vaX]
  rfl
abbrev KV(x:ah):PVal:=.agg (ai x)
theorem Ew(x:ah):(ai x).length=9:=by rw[ct];rfl
theorem py(x:ah):co (.agg (ai x))=some (ai x):=rfl
theorem JB(x:ah):co (KV x)=some (ai x):=rfl
theorem qB(x:ah):co (.agg (ai x))=some [.int .i64 x.Op,.str x.Name,sl ai x.Args,sl cS x.Names,.int .i64 x.Pred.Op,.str x.Pred.Name,.int .i64 x.Pred.N,sl al x.Pred.Kids,sl al x.Preds]:=by rw[ct];rfl
theorem OL(x:ah):∀q∈ai x,q.one=true:=by
 intro q hq
 rw[ct]at hq
 simp only[vaw,vbc,or_false]at hq
 rcases hq with rfl|rfl|rfl|rfl|rfl|rfl|rfl|rfl|rfl<;>rfl
theorem Rr:Pg.cellsOf 60=9:=by kernel_rfl
theorem ku(x:ah):be Pg 60 (ai x)=some (.agg (ai x)):=by
 have:=lB (P:=Pg) (t:=60) (l:=ai x) (r:=[]) (by kernel_rfl) (Rr.trans (Ew x).symm)
 rwa[vba]at this
theorem jO(x:ah)(r:List PVal):be Pg 60 ([.int .i64 x.Op,.str x.Name,sl ai x.Args,sl cS x.Names,.int .i64 x.Pred.Op,.str x.Pred.Name,.int .i64 x.Pred.N,sl al x.Pred.Kids,sl al x.Preds]++r)=some (.agg (ai x)):=by
 rw[<-ct];exact lB (by kernel_rfl) (Rr.trans (Ew x).symm)
theorem O1(x:ah):PVal.agg [.int .i64 x.Op,.str x.Name,sl ai x.Args,sl cS x.Names,.int .i64 x.Pred.Op,.str x.Pred.Name,.int .i64 x.Pred.N,sl al x.Pred.Kids,sl al x.Preds]=.agg (ai x):=by rw[ct]
theorem Mx:dB Pg 60 []=some (.agg (ai (⟨0,([]:ae),([]:List ah),([]:List ae),(⟨0,([]:ae),0,([]:List aj)⟩:aj),([]:List aj)⟩:ah))):=by
 simp only[ct]
 kernel_rfl
theorem Mw:AQ Pg 60 [] [(2,60),(3,9),(7,58),(8,58)]:=by
 exact⟨[.int .i64 0,.str ([]:ae),.val iB,.val iB,.int .i64 0,.str ([]:ae),.int .i64 0,.val iB,.val iB],by kernel_rfl,(aI rfl (aI rfl (aI rfl (aI rfl trivial))))⟩
theorem cN(x:ah):aR Pg 60 (.eptr (ai x)) 0=some (.eptr ((ai x).drop 0)):=by rw[ct];kernel_rfl
theorem gi(x:ah):aR Pg 60 (.eptr (ai x)) 1=some (.eptr ((ai x).drop 1)):=by rw[ct];kernel_rfl
theorem dy(x:ah):aR Pg 60 (.eptr (ai x)) 2=some (.eptr ((ai x).drop 2)):=by rw[ct];kernel_rfl
theorem eA(x:ah):aR Pg 60 (.eptr (ai x)) 3=some (.eptr ((ai x).drop 3)):=by rw[ct];kernel_rfl
theorem nD(x:ah):aR Pg 60 (.eptr (ai x)) 4=some (.eptr ((ai x).drop 4)):=by rw[ct];kernel_rfl
theorem hX(x:ah):aR Pg 60 (.eptr (ai x)) 5=some (.eptr ((ai x).drop 8)):=by rw[ct];kernel_rfl
theorem cO(x:ah):be Pg 54 ((ai x).drop 0)=some (.int .i64 x.Op):=by rw[ct];kernel_rfl
theorem g9(x:ah):be Pg 9 ((ai x).drop 1)=some (.str x.Name):=by rw[ct];kernel_rfl
theorem dz(x:ah):be Pg 26 ((ai x).drop 2)=some (sl ai x.Args):=by rw[ct];kernel_rfl
theorem eC(x:ah):be Pg 38 ((ai x).drop 3)=some (sl cS x.Names):=by rw[ct];kernel_rfl
theorem nG(x:ah):be Pg 58 ((ai x).drop 4)=some (.agg (al x.Pred)):=by
 rw[ct,cj];kernel_rfl
theorem ib(x:ah):be Pg 56 ((ai x).drop 8)=some (sl al x.Preds):=by rw[ct];kernel_rfl
structure aw where
 Name:ae
 Type_:ah
def av(x:aw):List PVal:=[.str x.Name]++(ai x.Type_)
theorem ik(x:aw):av x=[.str x.Name,.int .i64 x.Type_.Op,.str x.Type_.Name,sl ai x.Type_.Args,sl cS x.Type_.Names,.int .i64 x.Type_.Pred.Op,.str x.Type_.Pred.Name,.int .i64 x.Type_.Pred.N,sl al x.Type_.Pred.Kids,sl al x.Type_.Preds]:=by
 unfold av
 simp only[ct,vaO,vaX]
theorem ba(x:aw):iN 0 (av x):=by rw[ik];exact(aI trivial (aI trivial (aI trivial (aI (am aE x.Type_.Args) (aI (am bO x.Type_.Names) (aI trivial (aI trivial (aI trivial (aI (am aS x.Type_.Pred.Kids) (aI (am aS x.Type_.Preds) trivial))))))))))
abbrev Ah(x:aw):PVal:=.agg (av x)
theorem Ci(x:aw):(av x).length=10:=by rw[ik];rfl
theorem xj(x:aw):co (Ah x)=some (av x):=rfl
theorem mi(x:aw):co (.agg (av x))=some [.str x.Name,.int .i64 x.Type_.Op,.str x.Type_.Name,sl ai x.Type_.Args,sl cS x.Type_.Names,.int .i64 x.Type_.Pred.Op,.str x.Type_.Pred.Name,.int .i64 x.Type_.Pred.N,sl al x.Type_.Pred.Kids,sl al x.Type_.Preds]:=by rw[ik];rfl
theorem MY(x:aw):∀q∈av x,q.one=true:=by
 intro q hq
 rw[ik]at hq
 simp only[vaw,vbc,or_false]at hq
 rcases hq with rfl|rfl|rfl|rfl|rfl|rfl|rfl|rfl|rfl|rfl<;>rfl
theorem Rv:Pg.cellsOf 85=10:=by kernel_rfl
theorem As(x:aw):be Pg 85 (av x)=some (.agg (av x)):=by
 have:=lB (P:=Pg) (t:=85) (l:=av x) (r:=[]) (by kernel_rfl) (Rv.trans (Ci x).symm)
 rwa[vba]at this
theorem Hq(x:aw)(r:List PVal):be Pg 85 ([.str x.Name,.int .i64 x.Type_.Op,.str x.Type_.Name,sl ai x.Type_.Args,sl cS x.Type_.Names,.int .i64 x.Type_.Pred.Op,.str x.Type_.Pred.Name,.int .i64 x.Type_.Pred.N,sl al x.Type_.Pred.Kids,sl al x.Type_.Preds]++r)=some (.agg (av x)):=by
 rw[<-ik];exact lB (by kernel_rfl) (Rv.trans (Ci x).symm)
theorem HT(x:aw):PVal.agg [.str x.Name,.int .i64 x.Type_.Op,.str x.Type_.Name,sl ai x.Type_.Args,sl cS x.Type_.Names,.int .i64 x.Type_.Pred.Op,.str x.Type_.Pred.Name,.int .i64 x.Type_.Pred.N,sl al x.Type_.Pred.Kids,sl al x.Type_.Preds]=.agg (av x):=by rw[ik]
theorem Bk(x0:ae)(x1:ah):dB Pg 85 [(0,.str x0),(1,.agg (ai x1))]=some (.agg (av (⟨x0,x1⟩:aw))):=by
 simp only[ik,ct]
 kernel_rfl
theorem Fe(x0:ae):dB Pg 85 [(0,.str x0)]=some (.agg (av (⟨x0,(⟨0,([]:ae),([]:List ah),([]:List ae),(⟨0,([]:ae),0,([]:List aj)⟩:aj),([]:List aj)⟩:ah)⟩:aw))):=by
 simp only[ik]
 kernel_rfl
theorem Fd(x0:ae):AQ Pg 85 [(0,.str x0)] [(3,60),(4,9),(8,58),(9,58)]:=by
 exact⟨[.str x0,.int .i64 0,.str ([]:ae),.val iB,.val iB,.int .i64 0,.str ([]:ae),.int .i64 0,.val iB,.val iB],by kernel_rfl,(aI rfl (aI rfl (aI rfl (aI rfl trivial))))⟩
theorem tv(x:aw):aR Pg 85 (.eptr (av x)) 0=some (.eptr ((av x).drop 0)):=by rw[ik];kernel_rfl
theorem tw(x:aw):aR Pg 85 (.eptr (av x)) 1=some (.eptr ((av x).drop 1)):=by rw[ik];kernel_rfl
theorem vB(x:aw):be Pg 9 ((av x).drop 0)=some (.str x.Name):=by rw[ik];kernel_rfl
theorem tB(x:aw):be Pg 60 ((av x).drop 1)=some (.agg (ai x.Type_)):=by
 rw[ik,ct];kernel_rfl
mutual
inductive ag where
 |mk (Op:Int) (Name:ae) (N:Int) (Kids:(List ag)) (Params:(List aw)) (Alts:(List aF)) (Types:(List ah))
inductive aF where
 |mk (Con:ae) (Names:(List ae)) (Body:ag)
end
def ag.Op:ag->Int
 |⟨x,_,_,_,_,_,_⟩=>x
def ag.Name:ag->ae
 |⟨_,x,_,_,_,_,_⟩=>x
def ag.N:ag->Int
 |⟨_,_,x,_,_,_,_⟩=>x
def ag.Kids:ag->(List ag)
 |⟨_,_,_,x,_,_,_⟩=>x
def ag.Params:ag->(List aw)
 |⟨_,_,_,_,x,_,_⟩=>x
def ag.Alts:ag->(List aF)
 |⟨_,_,_,_,_,x,_⟩=>x
def ag.Types:ag->(List ah)
 |⟨_,_,_,_,_,_,x⟩=>x
def aF.Con:aF->ae
 |⟨x,_,_⟩=>x
def aF.Names:aF->(List ae)
 |⟨_,x,_⟩=>x
def aF.Body:aF->ag
 |⟨_,_,x⟩=>x
mutual
def af:ag->List PVal
 |⟨x0,x1,x2,x3,x4,x5,x6⟩=>[.int .i64 x0,.str x1,.int .i64 x2,.slice (uC x3),sl av x4,.slice (zn x5),sl ai x6]
def ay:aF->List PVal
 |⟨x0,x1,x2⟩=>[.str x0,sl cS x1]++(af x2)
def uC:List ag->List (List PVal)
 |[]=>[]
 |x::r=>af x::uC r
def zn:List aF->List (List PVal)
 |[]=>[]
 |x::r=>ay x::zn r
end
theorem Hi:∀(l:List ag),uC l=l.map af
 |[]=>by simp[uC]
 |x::r=>by simp[uC,Hi r]
theorem Jq:∀(l:List aF),zn l=l.map ay
 |[]=>by simp[zn]
 |x::r=>by simp[zn,Jq r]
mutual
theorem az:∀(x:ag),iN 0 (af x)
 |⟨x0,x1,x2,x3,x4,x5,x6⟩=>by rw[af];exact(aI trivial (aI trivial (aI trivial (aI (Je x3) (aI (am ba x4) (aI (Lf x5) (aI (am aE x6) trivial)))))))
theorem bL:∀(x:aF),iN 0 (ay x)
 |⟨x0,x1,x2⟩=>by rw[ay];exact Cb.2 (aI ((aI trivial (aI (am bO x1) trivial))) (az x2))
theorem Je:∀(l:List ag),ub 0 (uC l)
 |[]=>by simp[uC,ub]
 |x::r=>by rw[uC];exact⟨az x,Je r⟩
theorem Lf:∀(l:List aF),ub 0 (zn l)
 |[]=>by simp[zn,ub]
 |x::r=>by rw[zn];exact⟨bL x,Lf r⟩
end
theorem bz:∀(x:ag),af x=[.int .i64 x.Op,.str x.Name,.int .i64 x.N,sl af x.Kids,sl av x.Params,sl ay x.Alts,sl ai x.Types]
 |⟨x0,x1,x2,x3,x4,x5,x6⟩=>by
  simp only[af,Hi,Jq]
  rfl
abbrev qX(x:ag):PVal:=.agg (af x)
theorem Eu(x:ag):(af x).length=7:=by rw[bz];rfl
theorem dM(x:ag):co (.agg (af x))=some (af x):=rfl
theorem mJ(x:ag):co (qX x)=some (af x):=rfl
theorem ly(x:ag):co (.agg (af x))=some [.int .i64 x.Op,.str x.Name,.int .i64 x.N,sl af x.Kids,sl av x.Params,sl ay x.Alts,sl ai x.Types]:=by rw[bz];rfl
theorem OJ(x:ag):∀q∈af x,q.one=true:=by
 intro q hq
 rw[bz]at hq
 simp only[vaw,vbc,or_false]at hq
 rcases hq with rfl|rfl|rfl|rfl|rfl|rfl|rfl<;>rfl
theorem Rp:Pg.cellsOf 28=7:=by kernel_rfl
theorem Rw:Pg.cellsOf 89=9:=by kernel_rfl
theorem cu(x:ag):be Pg 28 (af x)=some (.agg (af x)):=by
 have:=lB (P:=Pg) (t:=28) (l:=af x) (r:=[]) (by kernel_rfl) (Rp.trans (Eu x).symm)
 rwa[vba]at this
theorem b8(x:ag)(r:List PVal):be Pg 28 ([.int .i64 x.Op,.str x.Name,.int .i64 x.N,sl af x.Kids,sl av x.Params,sl ay x.Alts,sl ai x.Types]++r)=some (.agg (af x)):=by
 rw[<-bz];exact lB (by kernel_rfl) (Rp.trans (Eu x).symm)
theorem qF(x:ag):PVal.agg [.int .i64 x.Op,.str x.Name,.int .i64 x.N,sl af x.Kids,sl av x.Params,sl ay x.Alts,sl ai x.Types]=.agg (af x):=by rw[bz]
theorem Dc(x0:Int)(x1:ae):dB Pg 28 [(0,.int .i64 x0),(1,.str x1)]=some (.agg (af (⟨x0,x1,0,([]:List ag),([]:List aw),([]:List aF),([]:List ah)⟩:ag))):=by
 simp only[bz]
 kernel_rfl
theorem C7(x0:Int)(x1:ae):AQ Pg 28 [(0,.int .i64 x0),(1,.str x1)] [(3,28),(4,85),(5,89),(6,60)]:=by
 exact⟨[.int .i64 x0,.str x1,.int .i64 0,.val iB,.val iB,.val iB,.val iB],by kernel_rfl,(aI rfl (aI rfl (aI rfl (aI rfl trivial))))⟩
theorem zc(x0:Int)(x1:ae)(x3:(List ag)):dB Pg 28 [(0,.int .i64 x0),(1,.str x1),(3,sl af x3)]=some (.agg (af (⟨x0,x1,0,x3,([]:List aw),([]:List aF),([]:List ah)⟩:ag))):=by
 simp only[bz]
 kernel_rfl
theorem za(x0:Int)(x1:ae)(x3:(List ag)):AQ Pg 28 [(0,.int .i64 x0),(1,.str x1),(3,sl af x3)] [(4,85),(5,89),(6,60)]:=by
 exact⟨[.int .i64 x0,.str x1,.int .i64 0,sl af x3,.val iB,.val iB,.val iB],by kernel_rfl,(aI rfl (aI rfl (aI rfl trivial)))⟩
theorem J0(x0:Int)(x2:Int):dB Pg 28 [(0,.int .i64 x0),(2,.int .i64 x2)]=some (.agg (af (⟨x0,([]:ae),x2,([]:List ag),([]:List aw),([]:List aF),([]:List ah)⟩:ag))):=by
 simp only[bz]
 kernel_rfl
theorem JY(x0:Int)(x2:Int):AQ Pg 28 [(0,.int .i64 x0),(2,.int .i64 x2)] [(3,28),(4,85),(5,89),(6,60)]:=by
 exact⟨[.int .i64 x0,.str ([]:ae),.int .i64 x2,.val iB,.val iB,.val iB,.val iB],by kernel_rfl,(aI rfl (aI rfl (aI rfl (aI rfl trivial))))⟩
theorem J1(x0:Int)(x3:(List ag)):dB Pg 28 [(0,.int .i64 x0),(3,sl af x3)]=some (.agg (af (⟨x0,([]:ae),0,x3,([]:List aw),([]:List aF),([]:List ah)⟩:ag))):=by
 simp only[bz]
 kernel_rfl
theorem JZ(x0:Int)(x3:(List ag)):AQ Pg 28 [(0,.int .i64 x0),(3,sl af x3)] [(4,85),(5,89),(6,60)]:=by
 exact⟨[.int .i64 x0,.str ([]:ae),.int .i64 0,sl af x3,.val iB,.val iB,.val iB],by kernel_rfl,(aI rfl (aI rfl (aI rfl trivial)))⟩
theorem zd(x0:Int)(x4:(List aw))(x3:(List ag)):dB Pg 28 [(0,.int .i64 x0),(4,sl av x4),(3,sl af x3)]=some (.agg (af (⟨x0,([]:ae),0,x3,x4,([]:List aF),([]:List ah)⟩:ag))):=by
 simp only[bz]
 kernel_rfl
theorem zb(x0:Int)(x4:(List aw))(x3:(List ag)):AQ Pg 28 [(0,.int .i64 x0),(4,sl av x4),(3,sl af x3)] [(5,89),(6,60)]:=by
 exact⟨[.int .i64 x0,.str ([]:ae),.int .i64 0,sl af x3,sl av x4,.val iB,.val iB],by kernel_rfl,(aI rfl (aI rfl trivial))⟩
theorem ei(x:ag):aR Pg 28 (.eptr (af x)) 0=some (.eptr ((af x).drop 0)):=by rw[bz];kernel_rfl
theorem fg(x:ag):aR Pg 28 (.eptr (af x)) 1=some (.eptr ((af x).drop 1)):=by rw[bz];kernel_rfl
theorem hU(x:ag):aR Pg 28 (.eptr (af x)) 2=some (.eptr ((af x).drop 2)):=by rw[bz];kernel_rfl
theorem bu(x:ag):aR Pg 28 (.eptr (af x)) 3=some (.eptr ((af x).drop 3)):=by rw[bz];kernel_rfl
theorem bM(x:ag):aR Pg 28 (.eptr (af x)) 4=some (.eptr ((af x).drop 4)):=by rw[bz];kernel_rfl
theorem aH(x:ag):aR Pg 28 (.eptr (af x)) 5=some (.eptr ((af x).drop 5)):=by rw[bz];kernel_rfl
theorem aK(x:ag):aR Pg 28 (.eptr (af x)) 6=some (.eptr ((af x).drop 6)):=by rw[bz];kernel_rfl
theorem ej(x:ag):be Pg 22 ((af x).drop 0)=some (.int .i64 x.Op):=by rw[bz];kernel_rfl
theorem gj(x:ag):be Pg 9 ((af x).drop 1)=some (.str x.Name):=by rw[bz];kernel_rfl
theorem jh(x:ag):be Pg 3 ((af x).drop 2)=some (.int .i64 x.N):=by rw[bz];kernel_rfl
theorem bv(x:ag):be Pg 23 ((af x).drop 3)=some (sl af x.Kids):=by rw[bz];kernel_rfl
theorem bN(x:ag):be Pg 24 ((af x).drop 4)=some (sl av x.Params):=by rw[bz];kernel_rfl
theorem aJ(x:ag):be Pg 25 ((af x).drop 5)=some (sl ay x.Alts):=by rw[bz];kernel_rfl
theorem aL(x:ag):be Pg 26 ((af x).drop 6)=some (sl ai x.Types):=by rw[bz];kernel_rfl
theorem mD:∀(x:aF),ay x=[.str x.Con,sl cS x.Names,.int .i64 x.Body.Op,.str x.Body.Name,.int .i64 x.Body.N,sl af x.Body.Kids,sl av x.Body.Params,sl ay x.Body.Alts,sl ai x.Body.Types]
 |⟨x0,x1,x2⟩=>by
  simp only[ay,bz,vaO,vaX]
  rfl
abbrev Ni(x:aF):PVal:=.agg (ay x)
theorem Hn(x:aF):(ay x).length=9:=by rw[mD];rfl
theorem KF(x:aF):co (.agg (ay x))=some (ay x):=rfl
theorem LR(x:aF):co (Ni x)=some (ay x):=rfl
theorem ji(x:aF):co (.agg (ay x))=some [.str x.Con,sl cS x.Names,.int .i64 x.Body.Op,.str x.Body.Name,.int .i64 x.Body.N,sl af x.Body.Kids,sl av x.Body.Params,sl ay x.Body.Alts,sl ai x.Body.Types]:=by rw[mD];rfl
theorem Qs(x:aF):∀q∈ay x,q.one=true:=by
 intro q hq
 rw[mD]at hq
 simp only[vaw,vbc,or_false]at hq
 rcases hq with rfl|rfl|rfl|rfl|rfl|rfl|rfl|rfl|rfl<;>rfl
theorem mF(x:aF):be Pg 89 (ay x)=some (.agg (ay x)):=by
 have:=lB (P:=Pg) (t:=89) (l:=ay x) (r:=[]) (by kernel_rfl) (Rw.trans (Hn x).symm)
 rwa[vba]at this
theorem LG(x:aF)(r:List PVal):be Pg 89 ([.str x.Con,sl cS x.Names,.int .i64 x.Body.Op,.str x.Body.Name,.int .i64 x.Body.N,sl af x.Body.Kids,sl av x.Body.Params,sl ay x.Body.Alts,sl ai x.Body.Types]++r)=some (.agg (ay x)):=by
 rw[<-mD];exact lB (by kernel_rfl) (Rw.trans (Hn x).symm)
theorem L7(x:aF):PVal.agg [.str x.Con,sl cS x.Names,.int .i64 x.Body.Op,.str x.Body.Name,.int .i64 x.Body.N,sl af x.Body.Kids,sl av x.Body.Params,sl ay x.Body.Alts,sl ai x.Body.Types]=.agg (ay x):=by rw[mD]
theorem Bj(x0:ae)(x1:(List ae))(x2:ag):dB Pg 89 [(0,.str x0),(1,sl cS x1),(2,.agg (af x2))]=some (.agg (ay (⟨x0,x1,x2⟩:aF))):=by
 simp only[mD,bz]
 kernel_rfl
theorem xa(x:aF):aR Pg 89 (.eptr (ay x)) 0=some (.eptr ((ay x).drop 0)):=by rw[mD];kernel_rfl
theorem sL(x:aF):aR Pg 89 (.eptr (ay x)) 1=some (.eptr ((ay x).drop 1)):=by rw[mD];kernel_rfl
theorem xc(x:aF):aR Pg 89 (.eptr (ay x)) 2=some (.eptr ((ay x).drop 2)):=by rw[mD];kernel_rfl
theorem zo(x:aF):be Pg 9 ((ay x).drop 0)=some (.str x.Con):=by rw[mD];kernel_rfl
theorem sO(x:aF):be Pg 38 ((ay x).drop 1)=some (sl cS x.Names):=by rw[mD];kernel_rfl
theorem xg(x:aF):be Pg 28 ((ay x).drop 2)=some (.agg (af x.Body)):=by
 rw[mD,bz];kernel_rfl
structure ac where
 old:ae
 new:ae
deriving DecidableEq
def aa(x:ac):List PVal:=[.str x.old,.str x.new]
theorem tt(x:ac):aa x=[.str x.old,.str x.new]:=rfl
theorem au(x:ac):iN 0 (aa x):=(aI trivial (aI trivial trivial))
abbrev nT(x:ac):PVal:=.agg (aa x)
theorem xI(x:ac):(aa x).length=2:=by rw[tt];rfl
theorem oc(x:ac):co (nT x)=some (aa x):=rfl
theorem Gb(x:ac):co (.agg (aa x))=some [.str x.old,.str x.new]:=by rw[tt];rfl
theorem Ga(x:ac):∀q∈aa x,q.one=true:=by
 intro q hq
 rw[tt]at hq
 simp only[vaw,vbc,or_false]at hq
 rcases hq with rfl|rfl<;>rfl
theorem PO:Pg.cellsOf 137=2:=by kernel_rfl
theorem Hp(x:ac):be Pg 137 (aa x)=some (.agg (aa x)):=by
 have:=lB (P:=Pg) (t:=137) (l:=aa x) (r:=[]) (by kernel_rfl) (PO.trans (xI x).symm)
 rwa[vba]at this
theorem kl(x0:ae)(x1:ae):dB Pg 137 [(0,.str x0),(1,.str x1)]=some (.agg (aa (⟨x0,x1⟩:ac))):=by
 kernel_rfl
structure ax where
 n:Bool
 name:Bool
 least:Int
 most:Int
 params:Bool
 alts:Bool
 typesLeast:Int
 typesMost:Int
 types:Bool
deriving DecidableEq
def aC(x:ax):List PVal:=[.bool x.n,.bool x.name,.int .i64 x.least,.int .i64 x.most,.bool x.params,.bool x.alts,.int .i64 x.typesLeast,.int .i64 x.typesMost,.bool x.types]
theorem nV(x:ax):aC x=[.bool x.n,.bool x.name,.int .i64 x.least,.int .i64 x.most,.bool x.params,.bool x.alts,.int .i64 x.typesLeast,.int .i64 x.typesMost,.bool x.types]:=rfl
theorem bF(x:ax):iN 0 (aC x):=(aI trivial (aI trivial (aI trivial (aI trivial (aI trivial (aI trivial (aI trivial (aI trivial (aI trivial trivial)))))))))
theorem Es(x:ax):(aC x).length=9:=by rw[nV];rfl
theorem xP(x:ax):co (.agg (aC x))=some (aC x):=rfl
theorem ck(x:ax):co (.agg (aC x))=some [.bool x.n,.bool x.name,.int .i64 x.least,.int .i64 x.most,.bool x.params,.bool x.alts,.int .i64 x.typesLeast,.int .i64 x.typesMost,.bool x.types]:=by rw[nV];rfl
theorem Uj:Pg.cellsOf 147=9:=by kernel_rfl
theorem vU(x:ax)(r:List PVal):be Pg 147 ([.bool x.n,.bool x.name,.int .i64 x.least,.int .i64 x.most,.bool x.params,.bool x.alts,.int .i64 x.typesLeast,.int .i64 x.typesMost,.bool x.types]++r)=some (.agg (aC x)):=by
 rw[<-nV];exact lB (by kernel_rfl) (Uj.trans (Es x).symm)
theorem cx(x:ax):PVal.agg [.bool x.n,.bool x.name,.int .i64 x.least,.int .i64 x.most,.bool x.params,.bool x.alts,.int .i64 x.typesLeast,.int .i64 x.typesMost,.bool x.types]=.agg (aC x):=by rw[nV]
theorem Db:dB Pg 147 []=some (.agg (aC (⟨false,false,0,0,false,false,0,0,false⟩:ax))):=by
 kernel_rfl
theorem C9(x0:Bool):dB Pg 147 [(0,.bool x0)]=some (.agg (aC (⟨x0,false,0,0,false,false,0,0,false⟩:ax))):=by
 kernel_rfl
theorem ym(x1:Bool)(x2:Int)(x3:Int):dB Pg 147 [(1,.bool x1),(2,.int .i64 x2),(3,.int .i64 x3)]=some (.agg (aC (⟨false,x1,x2,x3,false,false,0,0,false⟩:ax))):=by
 kernel_rfl
theorem mO(x1:Bool)(x2:Int)(x3:Int)(x8:Bool)(x7:Int):dB Pg 147 [(1,.bool x1),(2,.int .i64 x2),(3,.int .i64 x3),(8,.bool x8),(7,.int .i64 x7)]=some (.agg (aC (⟨false,x1,x2,x3,false,false,0,x7,x8⟩:ax))):=by
 kernel_rfl
theorem vN(x1:Bool)(x3:Int)(x8:Bool)(x7:Int):dB Pg 147 [(1,.bool x1),(3,.int .i64 x3),(8,.bool x8),(7,.int .i64 x7)]=some (.agg (aC (⟨false,x1,0,x3,false,false,0,x7,x8⟩:ax))):=by
 kernel_rfl
theorem Da(x1:Bool):dB Pg 147 [(1,.bool x1)]=some (.agg (aC (⟨false,x1,0,0,false,false,0,0,false⟩:ax))):=by
 kernel_rfl
theorem mX(x2:Int)(x3:Int):dB Pg 147 [(2,.int .i64 x2),(3,.int .i64 x3)]=some (.agg (aC (⟨false,false,x2,x3,false,false,0,0,false⟩:ax))):=by
 kernel_rfl
theorem ua(x2:Int)(x3:Int)(x8:Bool)(x6:Int)(x7:Int):dB Pg 147 [(2,.int .i64 x2),(3,.int .i64 x3),(8,.bool x8),(6,.int .i64 x6),(7,.int .i64 x7)]=some (.agg (aC (⟨false,false,x2,x3,false,false,x6,x7,x8⟩:ax))):=by
 kernel_rfl
theorem yn(x4:Bool)(x2:Int)(x3:Int):dB Pg 147 [(4,.bool x4),(2,.int .i64 x2),(3,.int .i64 x3)]=some (.agg (aC (⟨false,false,x2,x3,x4,false,0,0,false⟩:ax))):=by
 kernel_rfl
theorem yo(x5:Bool)(x2:Int)(x3:Int):dB Pg 147 [(5,.bool x5),(2,.int .i64 x2),(3,.int .i64 x3)]=some (.agg (aC (⟨false,false,x2,x3,false,x5,0,0,false⟩:ax))):=by
 kernel_rfl
theorem yp(x:ax):aR Pg 147 (.eptr (aC x)) 1=some (.eptr ((aC x).drop 1)):=by kernel_rfl
theorem yq(x:ax):aR Pg 147 (.eptr (aC x)) 2=some (.eptr ((aC x).drop 2)):=by kernel_rfl
theorem yr(x:ax):aR Pg 147 (.eptr (aC x)) 3=some (.eptr ((aC x).drop 3)):=by kernel_rfl
theorem yt(x:ax):aR Pg 147 (.eptr (aC x)) 4=some (.eptr ((aC x).drop 4)):=by kernel_rfl
theorem qe(x:ax):aR Pg 147 (.eptr (aC x)) 5=some (.eptr ((aC x).drop 5)):=by kernel_rfl
theorem yu(x:ax):aR Pg 147 (.eptr (aC x)) 6=some (.eptr ((aC x).drop 6)):=by kernel_rfl
theorem yv(x:ax):aR Pg 147 (.eptr (aC x)) 7=some (.eptr ((aC x).drop 7)):=by kernel_rfl
theorem AK(x:ax):be Pg 4 ((aC x).drop 1)=some (.bool x.name):=by kernel_rfl
theorem AL(x:ax):be Pg 3 ((aC x).drop 2)=some (.int .i64 x.least):=by kernel_rfl
theorem AM(x:ax):be Pg 3 ((aC x).drop 3)=some (.int .i64 x.most):=by kernel_rfl
theorem AN(x:ax):be Pg 4 ((aC x).drop 4)=some (.bool x.params):=by kernel_rfl
theorem sa(x:ax):be Pg 4 ((aC x).drop 5)=some (.bool x.alts):=by kernel_rfl
theorem AO(x:ax):be Pg 3 ((aC x).drop 6)=some (.int .i64 x.typesLeast):=by kernel_rfl
theorem AP(x:ax):be Pg 3 ((aC x).drop 7)=some (.int .i64 x.typesMost):=by kernel_rfl
structure a8 where
 Name:ae
 Sort_:ae
deriving DecidableEq
def dL(x:a8):List PVal:=[.str x.Name,.str x.Sort_]
theorem Rz(x:a8):dL x=[.str x.Name,.str x.Sort_]:=rfl
theorem po(x:a8):iN 0 (dL x):=(aI trivial (aI trivial trivial))
structure aY where
 Name:ae
 Names:(List ae)
 Fields:(List ah)
def cM(x:aY):List PVal:=[.str x.Name,sl cS x.Names,sl ai x.Fields]
theorem Gx(x:aY):cM x=[.str x.Name,sl cS x.Names,sl ai x.Fields]:=rfl
theorem pn(x:aY):iN 0 (cM x):=(aI trivial (aI (am bO x.Names) (aI (am aE x.Fields) trivial)))
theorem LB(x:aY):(cM x).length=3:=by rw[Gx];rfl
theorem Qx(x:aY):co (.agg (cM x))=some [.str x.Name,sl cS x.Names,sl ai x.Fields]:=by rw[Gx];rfl
theorem Qt(x:aY):∀q∈cM x,q.one=true:=by
 intro q hq
 rw[Gx]at hq
 simp only[vaw,vbc,or_false]at hq
 rcases hq with rfl|rfl|rfl<;>rfl
theorem PN:Pg.cellsOf 121=3:=by kernel_rfl
theorem RL(x:aY):be Pg 121 (cM x)=some (.agg (cM x)):=by
 have:=lB (P:=Pg) (t:=121) (l:=cM x) (r:=[]) (by kernel_rfl) (PN.trans (LB x).symm)
 rwa[vba]at this
theorem IG(x:aY):aR Pg 121 (.eptr (cM x)) 0=some (.eptr ((cM x).drop 0)):=by kernel_rfl
theorem LD(x:aY):be Pg 9 ((cM x).drop 0)=some (.str x.Name):=by kernel_rfl
structure cF where
 Name:ae
 Vars:(List ae)
 Preds:(List a8)
 Cons:(List aY)
def da(x:cF):List PVal:=[.str x.Name,sl cS x.Vars,sl dL x.Preds,sl cM x.Cons]
theorem me(x:cF):da x=[.str x.Name,sl cS x.Vars,sl dL x.Preds,sl cM x.Cons]:=rfl
theorem jM(x:cF):iN 0 (da x):=(aI trivial (aI (am bO x.Vars) (aI (am po x.Preds) (aI (am pn x.Cons) trivial))))
theorem Et(x:cF):(da x).length=4:=by rw[me];rfl
theorem jT(x:cF):co (.agg (da x))=some [.str x.Name,sl cS x.Vars,sl dL x.Preds,sl cM x.Cons]:=by rw[me];rfl
theorem OI(x:cF):∀q∈da x,q.one=true:=by
 intro q hq
 rw[me]at hq
 simp only[vaw,vbc,or_false]at hq
 rcases hq with rfl|rfl|rfl|rfl<;>rfl
theorem Ru:Pg.cellsOf 70=4:=by kernel_rfl
theorem zp(x:cF):be Pg 70 (da x)=some (.agg (da x)):=by
 have:=lB (P:=Pg) (t:=70) (l:=da x) (r:=[]) (by kernel_rfl) (Ru.trans (Et x).symm)
 rwa[vba]at this
theorem Jt(x:cF)(r:List PVal):be Pg 70 ([.str x.Name,sl cS x.Vars,sl dL x.Preds,sl cM x.Cons]++r)=some (.agg (da x)):=by
 rw[<-me];exact lB (by kernel_rfl) (Ru.trans (Et x).symm)
theorem oI(x:cF):PVal.agg [.str x.Name,sl cS x.Vars,sl dL x.Preds,sl cM x.Cons]=.agg (da x):=by rw[me]
theorem wY:dB Pg 70 []=some (.agg (da (⟨([]:ae),([]:List ae),([]:List a8),([]:List aY)⟩:cF))):=by
 kernel_rfl
theorem wX:AQ Pg 70 [] [(1,9),(2,255),(3,121)]:=by
 exact⟨[.str ([]:ae),.val iB,.val iB,.val iB],by kernel_rfl,(aI rfl (aI rfl (aI rfl trivial)))⟩
theorem IH(x:cF):aR Pg 70 (.eptr (da x)) 0=some (.eptr ((da x).drop 0)):=by kernel_rfl
theorem vq(x:cF):aR Pg 70 (.eptr (da x)) 3=some (.eptr ((da x).drop 3)):=by kernel_rfl
theorem Ks(x:cF):be Pg 9 ((da x).drop 0)=some (.str x.Name):=by kernel_rfl
theorem vA(x:cF):be Pg 68 ((da x).drop 3)=some (sl cM x.Cons):=by kernel_rfl
structure D7 where
 Name:ae
 Type_:ah
def sY(x:D7):List PVal:=[.str x.Name]++(ai x.Type_)
theorem G9(x:D7):sY x=[.str x.Name,.int .i64 x.Type_.Op,.str x.Type_.Name,sl ai x.Type_.Args,sl cS x.Type_.Names,.int .i64 x.Type_.Pred.Op,.str x.Type_.Pred.Name,.int .i64 x.Type_.Pred.N,sl al x.Type_.Pred.Kids,sl al x.Type_.Preds]:=by
 unfold sY
 simp only[ct,vaO,vaX]
theorem MB(x:D7):iN 0 (sY x):=by rw[G9];exact(aI trivial (aI trivial (aI trivial (aI (am aE x.Type_.Args) (aI (am bO x.Type_.Names) (aI trivial (aI trivial (aI trivial (aI (am aS x.Type_.Pred.Kids) (aI (am aS x.Type_.Preds) trivial))))))))))
structure H6 where
 Name:ae
 Var:ae
 Methods:(List D7)
def zf(x:H6):List PVal:=[.str x.Name,.str x.Var,sl sY x.Methods]
theorem On(x:H6):zf x=[.str x.Name,.str x.Var,sl sY x.Methods]:=rfl
theorem Oi(x:H6):iN 0 (zf x):=(aI trivial (aI trivial (aI (am MB x.Methods) trivial)))
structure cw where
 Class:ae
 Var:ae
deriving DecidableEq
def d9(x:cw):List PVal:=[.str x.Class,.str x.Var]
theorem PQ(x:cw):d9 x=[.str x.Class,.str x.Var]:=rfl
theorem De(x:cw):iN 0 (d9 x):=(aI trivial (aI trivial trivial))
structure eU where
 Name:ae
 Sort_:ae
deriving DecidableEq
def gq(x:eU):List PVal:=[.str x.Name,.str x.Sort_]
theorem Ry(x:eU):gq x=[.str x.Name,.str x.Sort_]:=rfl
theorem J5(x:eU):iN 0 (gq x):=(aI trivial (aI trivial trivial))
structure bH where
 Name:ae
 Vars:(List a8)
 Hyp:aj
 Goal:aj
def dc(x:bH):List PVal:=[.str x.Name,sl dL x.Vars]++(al x.Hyp++(al x.Goal))
theorem Jl(x:bH):dc x=[.str x.Name,sl dL x.Vars,.int .i64 x.Hyp.Op,.str x.Hyp.Name,.int .i64 x.Hyp.N,sl al x.Hyp.Kids,.int .i64 x.Goal.Op,.str x.Goal.Name,.int .i64 x.Goal.N,sl al x.Goal.Kids]:=by
 unfold dc
 simp only[cj,vaO,vaX]
theorem En(x:bH):iN 0 (dc x):=by rw[Jl];exact(aI trivial (aI (am po x.Vars) (aI trivial (aI trivial (aI trivial (aI (am aS x.Hyp.Kids) (aI trivial (aI trivial (aI trivial (aI (am aS x.Goal.Kids) trivial))))))))))
structure xE where
 Vars:(List ae)
 Needs:(List cw)
 Abs:(List eU)
 Bounds:(List bH)
 Type_:ah
 Metric:(List aj)
def J2(x:xE):List PVal:=[sl cS x.Vars,sl d9 x.Needs,sl gq x.Abs,sl dc x.Bounds]++(ai x.Type_++([sl al x.Metric]))
theorem Kb(x:xE):J2 x=[sl cS x.Vars,sl d9 x.Needs,sl gq x.Abs,sl dc x.Bounds,.int .i64 x.Type_.Op,.str x.Type_.Name,sl ai x.Type_.Args,sl cS x.Type_.Names,.int .i64 x.Type_.Pred.Op,.str x.Type_.Pred.Name,.int .i64 x.Type_.Pred.N,sl al x.Type_.Pred.Kids,sl al x.Type_.Preds,sl al x.Metric]:=by
 unfold J2
 simp only[ct,vaO,vaX]
structure ey where
 Name:ae
 Params:(List ae)
 Body:ag
 Mode:Int
 Typed:Bool
 Sig:xE
def cq(x:ey):List PVal:=[.str x.Name,sl cS x.Params]++(af x.Body++([.int .i64 x.Mode,.bool x.Typed]++(J2 x.Sig)))
theorem jG(x:ey):cq x=[.str x.Name,sl cS x.Params,.int .i64 x.Body.Op,.str x.Body.Name,.int .i64 x.Body.N,sl af x.Body.Kids,sl av x.Body.Params,sl ay x.Body.Alts,sl ai x.Body.Types,.int .i64 x.Mode,.bool x.Typed,sl cS x.Sig.Vars,sl d9 x.Sig.Needs,sl gq x.Sig.Abs,sl dc x.Sig.Bounds,.int .i64 x.Sig.Type_.Op,.str x.Sig.Type_.Name,sl ai x.Sig.Type_.Args,sl cS x.Sig.Type_.Names,.int .i64 x.Sig.Type_.Pred.Op,.str x.Sig.Type_.Pred.Name,.int .i64 x.Sig.Type_.Pred.N,sl al x.Sig.Type_.Pred.Kids,sl al x.Sig.Type_.Preds,sl al x.Sig.Metric]:=by
 unfold cq
 simp only[bz,Kb,vaO,vaX]
theorem uw(x:ey):iN 0 (cq x):=by rw[jG];exact(aI trivial (aI (am bO x.Params) (aI trivial (aI trivial (aI trivial (aI (am az x.Body.Kids) (aI (am ba x.Body.Params) (aI (am bL x.Body.Alts) (aI (am aE x.Body.Types) (aI trivial (aI trivial (aI (am bO x.Sig.Vars) (aI (am De x.Sig.Needs) (aI (am J5 x.Sig.Abs) (aI (am En x.Sig.Bounds) (aI trivial (aI trivial (aI (am aE x.Sig.Type_.Args) (aI (am bO x.Sig.Type_.Names) (aI trivial (aI trivial (aI trivial (aI (am aS x.Sig.Type_.Pred.Kids) (aI (am aS x.Sig.Type_.Preds) (aI (am aS x.Sig.Metric) trivial)))))))))))))))))))))))))
abbrev KT(x:ey):PVal:=.agg (cq x)
theorem Ho(x:ey):(cq x).length=25:=by rw[jG];rfl
theorem HF(x:ey):co (KT x)=some (cq x):=rfl
theorem zB(x:ey):co (.agg (cq x))=some [.str x.Name,sl cS x.Params,.int .i64 x.Body.Op,.str x.Body.Name,.int .i64 x.Body.N,sl af x.Body.Kids,sl av x.Body.Params,sl ay x.Body.Alts,sl ai x.Body.Types,.int .i64 x.Mode,.bool x.Typed,sl cS x.Sig.Vars,sl d9 x.Sig.Needs,sl gq x.Sig.Abs,sl dc x.Sig.Bounds,.int .i64 x.Sig.Type_.Op,.str x.Sig.Type_.Name,sl ai x.Sig.Type_.Args,sl cS x.Sig.Type_.Names,.int .i64 x.Sig.Type_.Pred.Op,.str x.Sig.Type_.Pred.Name,.int .i64 x.Sig.Type_.Pred.N,sl al x.Sig.Type_.Pred.Kids,sl al x.Sig.Type_.Preds,sl al x.Sig.Metric]:=by rw[jG];rfl
theorem Qu(x:ey):∀q∈cq x,q.one=true:=by
 intro q hq
 rw[jG]at hq
 simp only[vaw,vbc,or_false]at hq
 rcases hq with rfl|rfl|rfl|rfl|rfl|rfl|rfl|rfl|rfl|rfl|rfl|rfl|rfl|rfl|rfl|rfl|rfl|rfl|rfl|rfl|rfl|rfl|rfl|rfl|rfl<;>rfl
theorem Rt:Pg.cellsOf 64=25:=by kernel_rfl
theorem NE(x:ey):be Pg 64 (cq x)=some (.agg (cq x)):=by
 have:=lB (P:=Pg) (t:=64) (l:=cq x) (r:=[]) (by kernel_rfl) (Rt.trans (Ho x).symm)
 rwa[vba]at this
theorem Qc(x:ey)(r:List PVal):be Pg 64 ([.str x.Name,sl cS x.Params,.int .i64 x.Body.Op,.str x.Body.Name,.int .i64 x.Body.N,sl af x.Body.Kids,sl av x.Body.Params,sl ay x.Body.Alts,sl ai x.Body.Types,.int .i64 x.Mode,.bool x.Typed,sl cS x.Sig.Vars,sl d9 x.Sig.Needs,sl gq x.Sig.Abs,sl dc x.Sig.Bounds,.int .i64 x.Sig.Type_.Op,.str x.Sig.Type_.Name,sl ai x.Sig.Type_.Args,sl cS x.Sig.Type_.Names,.int .i64 x.Sig.Type_.Pred.Op,.str x.Sig.Type_.Pred.Name,.int .i64 x.Sig.Type_.Pred.N,sl al x.Sig.Type_.Pred.Kids,sl al x.Sig.Type_.Preds,sl al x.Sig.Metric]++r)=some (.agg (cq x)):=by
 rw[<-jG];exact lB (by kernel_rfl) (Rt.trans (Ho x).symm)
theorem DM(x:ey):PVal.agg [.str x.Name,sl cS x.Params,.int .i64 x.Body.Op,.str x.Body.Name,.int .i64 x.Body.N,sl af x.Body.Kids,sl av x.Body.Params,sl ay x.Body.Alts,sl ai x.Body.Types,.int .i64 x.Mode,.bool x.Typed,sl cS x.Sig.Vars,sl d9 x.Sig.Needs,sl gq x.Sig.Abs,sl dc x.Sig.Bounds,.int .i64 x.Sig.Type_.Op,.str x.Sig.Type_.Name,sl ai x.Sig.Type_.Args,sl cS x.Sig.Type_.Names,.int .i64 x.Sig.Type_.Pred.Op,.str x.Sig.Type_.Pred.Name,.int .i64 x.Sig.Type_.Pred.N,sl al x.Sig.Type_.Pred.Kids,sl al x.Sig.Type_.Preds,sl al x.Sig.Metric]=.agg (cq x):=by rw[jG]
theorem Jc:dB Pg 64 []=some (.agg (cq (⟨([]:ae),([]:List ae),(⟨0,([]:ae),0,([]:List ag),([]:List aw),([]:List aF),([]:List ah)⟩:ag),0,false,(⟨([]:List ae),([]:List cw),([]:List eU),([]:List bH),(⟨0,([]:ae),([]:List ah),([]:List ae),(⟨0,([]:ae),0,([]:List aj)⟩:aj),([]:List aj)⟩:ah),([]:List aj)⟩:xE)⟩:ey))):=by
 simp only[jG]
 kernel_rfl
theorem Jb:AQ Pg 64 [] [(1,9),(5,28),(6,85),(7,89),(8,60),(11,9),(12,250),(13,252),(14,254),(17,60),(18,9),(22,58),(23,58),(24,58)]:=by
 exact⟨[.str ([]:ae),.val iB,.int .i64 0,.str ([]:ae),.int .i64 0,.val iB,.val iB,.val iB,.val iB,.int .i64 0,.bool false,.val iB,.val iB,.val iB,.val iB,.int .i64 0,.str ([]:ae),.val iB,.val iB,.int .i64 0,.str ([]:ae),.int .i64 0,.val iB,.val iB,.val iB],by kernel_rfl,(aI rfl (aI rfl (aI rfl (aI rfl (aI rfl (aI rfl (aI rfl (aI rfl (aI rfl (aI rfl (aI rfl (aI rfl (aI rfl (aI rfl trivial))))))))))))))⟩
theorem Kc(x:ey):aR Pg 64 (.eptr (cq x)) 0=some (.eptr ((cq x).drop 0)):=by rw[jG];kernel_rfl
theorem Kd(x:ey):aR Pg 64 (.eptr (cq x)) 1=some (.eptr ((cq x).drop 1)):=by rw[jG];kernel_rfl
theorem Ke(x:ey):aR Pg 64 (.eptr (cq x)) 2=some (.eptr ((cq x).drop 2)):=by rw[jG];kernel_rfl
theorem LE(x:ey):be Pg 9 ((cq x).drop 0)=some (.str x.Name):=by rw[jG];kernel_rfl
theorem Kt(x:ey):be Pg 38 ((cq x).drop 1)=some (sl cS x.Params):=by rw[jG];kernel_rfl
theorem Ku(x:ey):be Pg 28 ((cq x).drop 2)=some (.agg (af x.Body)):=by
 rw[jG,bz];kernel_rfl
structure lz where
 Class:ae
 Type_:ah
 Needs:(List cw)
 Defs:(List ey)
def dC(x:lz):List PVal:=[.str x.Class]++(ai x.Type_++([sl d9 x.Needs,sl cq x.Defs]))
theorem mE(x:lz):dC x=[.str x.Class,.int .i64 x.Type_.Op,.str x.Type_.Name,sl ai x.Type_.Args,sl cS x.Type_.Names,.int .i64 x.Type_.Pred.Op,.str x.Type_.Pred.Name,.int .i64 x.Type_.Pred.N,sl al x.Type_.Pred.Kids,sl al x.Type_.Preds,sl d9 x.Needs,sl cq x.Defs]:=by
 unfold dC
 simp only[ct,vaO,vaX]
theorem Dd(x:lz):iN 0 (dC x):=by rw[mE];exact(aI trivial (aI trivial (aI trivial (aI (am aE x.Type_.Args) (aI (am bO x.Type_.Names) (aI trivial (aI trivial (aI trivial (aI (am aS x.Type_.Pred.Kids) (aI (am aS x.Type_.Preds) (aI (am De x.Needs) (aI (am uw x.Defs) trivial))))))))))))
theorem IK(x:lz):(dC x).length=12:=by rw[mE];rfl
theorem IN(x:lz):∀q∈dC x,q.one=true:=by
 intro q hq
 rw[mE]at hq
 simp only[vaw,vbc,or_false]at hq
 rcases hq with rfl|rfl|rfl|rfl|rfl|rfl|rfl|rfl|rfl|rfl|rfl|rfl<;>rfl
theorem Sl:Pg.cellsOf 119=12:=by kernel_rfl
theorem tu(x:lz):aR Pg 119 (.eptr (dC x)) 3=some (.eptr ((dC x).drop 11)):=by rw[mE];kernel_rfl
theorem tA(x:lz):be Pg 46 ((dC x).drop 11)=some (sl cq x.Defs):=by rw[mE];kernel_rfl
structure Md where
 Con:ae
 Names:(List ae)
 Body:aj
def An(x:Md):List PVal:=[.str x.Con,sl cS x.Names]++(al x.Body)
theorem Ll(x:Md):An x=[.str x.Con,sl cS x.Names,.int .i64 x.Body.Op,.str x.Body.Name,.int .i64 x.Body.N,sl al x.Body.Kids]:=by
 unfold An
 simp only[cj,vaO,vaX]
theorem PL(x:Md):iN 0 (An x):=by rw[Ll];exact(aI trivial (aI (am bO x.Names) (aI trivial (aI trivial (aI trivial (aI (am aS x.Body.Kids) trivial))))))
structure Ac where
 Name:ae
 Data:ae
 Result:ae
 Cases:(List Md)
 Inv:aj
def qv(x:Ac):List PVal:=[.str x.Name,.str x.Data,.str x.Result,sl An x.Cases]++(al x.Inv)
theorem Fl(x:Ac):qv x=[.str x.Name,.str x.Data,.str x.Result,sl An x.Cases,.int .i64 x.Inv.Op,.str x.Inv.Name,.int .i64 x.Inv.N,sl al x.Inv.Kids]:=by
 unfold qv
 simp only[cj,vaO,vaX]
theorem Ld(x:Ac):iN 0 (qv x):=by rw[Fl];exact(aI trivial (aI trivial (aI trivial (aI (am PL x.Cases) (aI trivial (aI trivial (aI trivial (aI (am aS x.Inv.Kids) trivial))))))))
structure Me where
 Name:ae
 Vars:(List a8)
 Body:aj
def Ao(x:Me):List PVal:=[.str x.Name,sl dL x.Vars]++(al x.Body)
theorem Lm(x:Me):Ao x=[.str x.Name,sl dL x.Vars,.int .i64 x.Body.Op,.str x.Body.Name,.int .i64 x.Body.N,sl al x.Body.Kids]:=by
 unfold Ao
 simp only[cj,vaO,vaX]
theorem PM(x:Me):iN 0 (Ao x):=by rw[Lm];exact(aI trivial (aI (am po x.Vars) (aI trivial (aI trivial (aI trivial (aI (am aS x.Body.Kids) trivial))))))
structure bo where
 Datas:(List cF)
 Classes:(List H6)
 Instances:(List lz)
 Measures:(List Ac)
 Quals:(List Me)
 Defs:(List ey)
def aO(x:bo):List PVal:=[sl da x.Datas,sl zf x.Classes,sl dC x.Instances,sl qv x.Measures,sl Ao x.Quals,sl cq x.Defs]
theorem Cf(x:bo):aO x=[sl da x.Datas,sl zf x.Classes,sl dC x.Instances,sl qv x.Measures,sl Ao x.Quals,sl cq x.Defs]:=rfl
theorem cr(x:bo):iN 0 (aO x):=(aI (am jM x.Datas) (aI (am Oi x.Classes) (aI (am Dd x.Instances) (aI (am Ld x.Measures) (aI (am PM x.Quals) (aI (am uw x.Defs) trivial))))))
theorem LC(x:bo):(aO x).length=6:=by rw[Cf];rfl
theorem fm(x:bo):co (.agg (aO x))=some (aO x):=rfl
theorem VH:Pg.cellsOf 48=6:=by kernel_rfl
theorem oo(x:bo):be Pg 48 (aO x)=some (.agg (aO x)):=by
 have:=lB (P:=Pg) (t:=48) (l:=aO x) (r:=[]) (by kernel_rfl) (VH.trans (LC x).symm)
 rwa[vba]at this
theorem cD(x:bo):aR Pg 48 (.eptr (aO x)) 0=some (.eptr ((aO x).drop 0)):=by kernel_rfl
theorem nW(x:bo):aR Pg 48 (.eptr (aO x)) 2=some (.eptr ((aO x).drop 2)):=by kernel_rfl
theorem eP(x:bo):aR Pg 48 (.eptr (aO x)) 5=some (.eptr ((aO x).drop 5)):=by kernel_rfl
theorem cE(x:bo):be Pg 41 ((aO x).drop 0)=some (sl da x.Datas):=by kernel_rfl
theorem nY(x:bo):be Pg 43 ((aO x).drop 2)=some (sl dC x.Instances):=by kernel_rfl
theorem eQ(x:bo):be Pg 46 ((aO x).drop 5)=some (sl cq x.Defs):=by kernel_rfl
theorem iJ:GZ Pg 23 28 af:=⟨underlying23,fun x=>(Eu x).trans Rp.symm,by kernel_rfl,by rw[Rp];decide,by kernel_rfl,va0 (by kernel_rfl),OJ,az⟩
theorem lT:GZ Pg 24 85 av:=⟨underlying24,fun x=>(Ci x).trans Rv.symm,by kernel_rfl,by rw[Rv];decide,by kernel_rfl,va0 (by kernel_rfl),MY,ba⟩
theorem fo:GZ Pg 25 89 ay:=⟨underlying25,fun x=>(Hn x).trans Rw.symm,by kernel_rfl,by rw[Rw];decide,by kernel_rfl,va0 (by kernel_rfl),Qs,bL⟩
theorem d5:GZ Pg 26 60 ai:=⟨underlying26,fun x=>(Ew x).trans Rr.symm,by kernel_rfl,by rw[Rr];decide,by kernel_rfl,va0 (by kernel_rfl),OL,aE⟩
theorem U1:Pg.cellsOf 9=1:=by kernel_rfl
theorem eu:GZ Pg 38 9 cS:=⟨underlying38,fun _=>U1.symm,by kernel_rfl,by rw[U1];decide,by kernel_rfl,va0 (by kernel_rfl),VW,bO⟩
theorem zJ:GZ Pg 41 70 da:=⟨underlying41,fun x=>(Et x).trans Ru.symm,by kernel_rfl,by rw[Ru];decide,by kernel_rfl,va0 (by kernel_rfl),OI,jM⟩
theorem R8:GZ Pg 43 119 dC:=⟨underlying43,fun x=>(IK x).trans Sl.symm,by kernel_rfl,by rw[Sl];decide,by kernel_rfl,va0 (by kernel_rfl),IN,Dd⟩
theorem xo:GZ Pg 46 64 cq:=⟨underlying46,fun x=>(Ho x).trans Rt.symm,by kernel_rfl,by rw[Rt];decide,by kernel_rfl,va0 (by kernel_rfl),Qu,uw⟩
theorem nb:GZ Pg 56 58 al:=⟨underlying56,fun x=>(Ev x).trans Rq.symm,by kernel_rfl,by rw[Rq];decide,by kernel_rfl,va0 (by kernel_rfl),OK,aS⟩
theorem IX:GZ Pg 68 121 cM:=⟨underlying68,fun x=>(LB x).trans PN.symm,by kernel_rfl,by rw[PN];decide,by kernel_rfl,va0 (by kernel_rfl),Qt,pn⟩
theorem HV:GZ Pg 92 137 aa:=⟨underlying92,fun x=>(xI x).trans PO.symm,by kernel_rfl,by rw[PO];decide,by kernel_rfl,va0 (by kernel_rfl),Ga,au⟩
theorem Wh:Pg.cellsOf 5=1:=by kernel_rfl
theorem U5:(Pg.underlying 4).any Mb=true:=by kernel_rfl
theorem GB:(Pg.underlying 9).any Mb=true:=by kernel_rfl
theorem Ge:(Pg.underlying 92).any Mb=true:=by kernel_rfl
theorem V9:ES Pg 4=some (PVal.bool false):=by kernel_rfl
theorem WZ:fB Pg 3=some [.int .i64 0]:=by kernel_rfl
theorem Wm:fB Pg 4=some [.bool false]:=by kernel_rfl
theorem yx:fB Pg 28=some [.int .i64 0,.str ([]:ae),.int .i64 0,sl af ([]:List ag),sl av ([]:List aw),sl ay ([]:List aF),sl ai ([]:List ah)]:=by kernel_rfl
theorem VZ:fB Pg 35=some [.int .i64 0]:=by kernel_rfl
theorem V0:fB Pg 38=some [sl cS ([]:List ae)]:=by kernel_rfl
theorem R0:fB Pg 58=some [.int .i64 0,.str ([]:ae),.int .i64 0,sl al ([]:List aj)]:=by kernel_rfl
theorem Na:fB Pg 60=some [.int .i64 0,.str ([]:ae),sl ai ([]:List ah),sl cS ([]:List ae),.int .i64 0,.str ([]:ae),.int .i64 0,sl al ([]:List aj),sl al ([]:List aj)]:=by kernel_rfl
theorem Nb:fB Pg 64=some [.str ([]:ae),sl cS ([]:List ae),.int .i64 0,.str ([]:ae),.int .i64 0,sl af ([]:List ag),sl av ([]:List aw),sl ay ([]:List aF),sl ai ([]:List ah),.int .i64 0,.bool false,sl cS ([]:List ae),sl d9 ([]:List cw),sl gq ([]:List eU),sl dc ([]:List bH),.int .i64 0,.str ([]:ae),sl ai ([]:List ah),sl cS ([]:List ae),.int .i64 0,.str ([]:ae),.int .i64 0,sl al ([]:List aj),sl al ([]:List aj),sl al ([]:List aj)]:=by kernel_rfl
theorem Cu:fB Pg 70=some [.str ([]:ae),sl cS ([]:List ae),sl dL ([]:List a8),sl cM ([]:List aY)]:=by kernel_rfl
theorem OY:fB Pg 85=some [.str ([]:ae),.int .i64 0,.str ([]:ae),sl ai ([]:List ah),sl cS ([]:List ae),.int .i64 0,.str ([]:ae),.int .i64 0,sl al ([]:List aj),sl al ([]:List aj)]:=by kernel_rfl
theorem Gd:fB Pg 89=some [.str ([]:ae),sl cS ([]:List ae),.int .i64 0,.str ([]:ae),.int .i64 0,sl af ([]:List ag),sl av ([]:List aw),sl ay ([]:List aF),sl ai ([]:List ah)]:=by kernel_rfl
theorem UJ:fB Pg 91=some [.val .nilFunc]:=by kernel_rfl
theorem UK:fB Pg 92=some [sl aa ([]:List ac)]:=by kernel_rfl
theorem UL:fB Pg 95=some [.val .nilFunc,.val .nilFunc]:=by kernel_rfl
theorem UG:fB Pg 109=some [.val (.pointer none)]:=by kernel_rfl
theorem UH:fB Pg 112=some [.val .nilFunc]:=by kernel_rfl
theorem UI:fB Pg 121=some [.str ([]:ae),sl cS ([]:List ae),sl ai ([]:List ah)]:=by kernel_rfl
theorem Sq:fB Pg 147=some [.bool false,.bool false,.int .i64 0,.int .i64 0,.bool false,.bool false,.int .i64 0,.int .i64 0,.bool false]:=by kernel_rfl
def kr:List Int:=[1,10,100,1000,10000,100000,1000000,10000000,100000000,1000000000,10000000000,100000000000,1000000000000,10000000000000,100000000000000,1000000000000000,10000000000000000,100000000000000000,1000000000000000000,10000000000000000000]
theorem Ul:Pg.cellsOf 216=20:=by kernel_rfl
theorem Uk:Pg.cellsOf 201=1:=by kernel_rfl
def iA:List ae:=[([97,110,100]:ae),([97,115,115,117,109,101]:ae),([98,111,111,108]:ae),([98,111,117,110,100]:ae),([99,97,115,101]:ae),([99,101,108,108]:ae),([99,108,97,115,115]:ae),([100,97,116,97]:ae),([100,101,102]:ae),([100,105,118]:ae),([101,108,115,101]:ae),([101,110,100]:ae),([102,97,108,115,101]:ae),([102,111,114,97,108,108]:ae),([102,117,110]:ae),([103,101,116]:ae),([105,102]:ae),([105,110]:ae),([105,110,115,116]:ae),([105,110,116]:ae),([105,110,118,97,114,105,97,110,116]:ae),([108,101,116]:ae),([109,97,116,99,104]:ae),([109,101,97,115,117,114,101]:ae),([109,101,116,114,105,99]:ae),([109,111,100]:ae),([109,117]:ae),([110,101,119]:ae),([110,111,116]:ae),([111,102]:ae),([111,114]:ae),([113,117,97,108]:ae),([114,101,102,108,101,99,116]:ae),([115,101,116]:ae),([116,104,101,110]:ae),([116,114,117,101]:ae),([117,115,101]:ae),([118]:ae),([118,97,108]:ae),([116,97,103]:ae),([119,104,101,114,101]:ae),([119,105,116,104]:ae)]
theorem Um:Pg.cellsOf 218=42:=by kernel_rfl
theorem uH:be Pg 218 (iA.map PVal.str)=some (.agg (iA.map PVal.str)):=by kernel_rfl
theorem Dw{k:IntKind}{i:Int}{x:ae}(h:fJ iA i=some x):xk Pg 218 (.agg (iA.map PVal.str)) (.int k i)=some (PVal.str x):=TV underlying218 U1 (by kernel_rfl) (by kernel_rfl) (by kernel_rfl) h
def vW:List Int:=[0,1,28,2,29,14,24,3,30,22,20,15,25,17,4,8,31,27,13,23,21,19,16,7,26,12,18,6,11,5,10,9]
theorem Un:Pg.cellsOf 223=32:=by kernel_rfl
def vX:List Int:=[0,1,56,2,57,49,28,3,61,58,42,50,38,29,17,4,62,47,59,36,45,43,51,22,53,39,33,30,24,18,12,5,63,55,48,27,60,41,37,16,46,35,44,21,52,32,23,11,54,26,40,15,34,20,31,10,25,14,19,9,13,8,7,6]
theorem Uo:Pg.cellsOf 224=64:=by kernel_rfl
def GE:List (Nat×List PVal):=[(0,kr.map (PVal.int .u64)),(1,iA.map PVal.str),(2,vW.map (PVal.int .u8)),(3,vX.map (PVal.int .u8))]
theorem bA(A:List Nat){m:Nat}{c:Code}{sc:List It}{F:Prop}{e0:Exit}{st0 st:aA}(h:PS sc F)(he:F=vK Pg GE A m c sc st (FN e0 st0)):aQ Pg GE m c (EX e0 st0) st:=qC mixed h he
theorem yz(A:List Nat){m:Nat}{c:Code}{sc:List It}{F:Prop}{σ X:Type}{S:σ->aA}{ex:X->Exit}{so:X->aA}{s:σ}{st:aA}(h:PS sc F)(he:F=vK Pg GE A m c sc st (FN .normal (S s))):aQ Pg GE m c (LQ S ex so (.inl s)) st:=Uy mixed h he
theorem iI(A:List Nat){m:Nat}{c:Code}{sc:List It}{F:Prop}{σ X:Type}{S:σ->aA}{ex:X->Exit}{so:X->aA}{x:X}{st:aA}(hn:ex x≠.normal)(h:PS sc F)(he:F=vK Pg GE A m c sc st (FN (ex x) (so x))):aQ Pg GE m c (LQ S ex so (.inr x)) st:=UD mixed hn h he
theorem cH(A:List Nat){f:FuncId}{fn:Func}{c:Code}{args:List PVal}{r:PVal}{ro:List (Nat×TypeId)}(hcall:∀vs w,(callFunc f vs).run Pg w=.ok (.enter f vs) w)(hfn:Pg.funcs[f]? =some fn)(hb:fn.body=some c)(hcl:iN 0 args){sc:List It}{F:Prop}(h:PS sc F)(he:F=vK Pg GE A 0 c sc ⟨args++List.replicate (fn.ntmps - args.length) .undef,[],[]⟩ (FR Pg fn.results.toList r ro)):CC Pg GE f args r ro:=C.evp mixed hcall hfn hb hcl h he
abbrev waA:=List ae
abbrev waB:=List aj
abbrev waC:=List ah
abbrev waD:=List aF
abbrev waE:=List a8
abbrev waF:=List aY
abbrev waG:=List aw
abbrev waH:=List ag
abbrev waI:=List cw
abbrev waJ:=List eU
abbrev wbA:=List bH
abbrev wbB:=List ey
theorem rf:∀n,(∀l,Sh Pg n 58 l->∃x,l=al x):=by
 intro n
 induction n using Nat.strongRecOn with
 | ind n ih =>
  cases n with
  |zero=>exact fun l h=>h.elim
  | succ n =>
   exact fun l h=>by
    unfold Sh at h
    rw[underlying58]at h
    obtain⟨a0,b0,rfl,_,h0,a1,b1,rfl,_,h1,a2,b2,rfl,_,h2,a3,b3,rfl,_,h3,rfl⟩:=h
    obtain⟨x0,rfl⟩:=(Oq underlying55) n _ h0
    obtain⟨x1,rfl⟩:=(nF underlying9) n _ h1
    obtain⟨x2,rfl⟩:=(Oq underlying3) n _ h2
    obtain⟨x3,rfl⟩:=Lw underlying56 (c:=al) (fun m hm=>(ih m (by omega))) _ h3
    exact⟨(⟨x0,x1,x2,x3⟩:aj),by rw[cj];rfl⟩
theorem vT:∀n,(∀l,Sh Pg n 60 l->∃x,l=ai x):=by
 intro n
 induction n using Nat.strongRecOn with
 | ind n ih =>
  cases n with
  |zero=>exact fun l h=>h.elim
  | succ n =>
   exact fun l h=>by
    unfold Sh at h
    rw[underlying60]at h
    obtain⟨a0,b0,rfl,_,h0,a1,b1,rfl,_,h1,a2,b2,rfl,_,h2,a3,b3,rfl,_,h3,a4,b4,rfl,_,h4,a5,b5,rfl,_,h5,rfl⟩:=h
    obtain⟨x0,rfl⟩:=(Oq underlying54) n _ h0
    obtain⟨x1,rfl⟩:=(nF underlying9) n _ h1
    obtain⟨x2,rfl⟩:=Lw underlying26 (c:=ai) (fun m hm=>(ih m (by omega))) _ h2
    obtain⟨x3,rfl⟩:=(pq underlying38 (nF underlying9)) n _ h3
    obtain⟨x4,rfl⟩:=rf n _ h4
    obtain⟨x5,rfl⟩:=(pq underlying56 rf) n _ h5
    exact⟨(⟨x0,x1,x2,x3,x4,x5⟩:ah),by rw[ct];(try simp only[cj]);rfl⟩
theorem Ow:∀n,(∀l,Sh Pg n 85 l->∃x,l=av x):=by
 intro n
 induction n using Nat.strongRecOn with
 | ind n ih =>
  cases n with
  |zero=>exact fun l h=>h.elim
  | succ n =>
   exact fun l h=>by
    unfold Sh at h
    rw[underlying85]at h
    obtain⟨a0,b0,rfl,_,h0,a1,b1,rfl,_,h1,rfl⟩:=h
    obtain⟨x0,rfl⟩:=(nF underlying9) n _ h0
    obtain⟨x1,rfl⟩:=vT n _ h1
    exact⟨(⟨x0,x1⟩:aw),by rw[ik];(try simp only[ct]);(try simp only[cj]);rfl⟩
theorem Kn:∀n,(∀l,Sh Pg n 28 l->∃x,l=af x)/\(∀l,Sh Pg n 89 l->∃x,l=ay x):=by
 intro n
 induction n using Nat.strongRecOn with
 | ind n ih =>
  cases n with
  |zero=>exact⟨fun l h=>h.elim,fun l h=>h.elim⟩
  | succ n =>
   exact⟨(fun l h=>by
    unfold Sh at h
    rw[underlying28]at h
    obtain⟨a0,b0,rfl,_,h0,a1,b1,rfl,_,h1,a2,b2,rfl,_,h2,a3,b3,rfl,_,h3,a4,b4,rfl,_,h4,a5,b5,rfl,_,h5,a6,b6,rfl,_,h6,rfl⟩:=h
    obtain⟨x0,rfl⟩:=(Oq underlying22) n _ h0
    obtain⟨x1,rfl⟩:=(nF underlying9) n _ h1
    obtain⟨x2,rfl⟩:=(Oq underlying3) n _ h2
    obtain⟨x3,rfl⟩:=Lw underlying23 (c:=af) (fun m hm=>(ih m (by omega)).1) _ h3
    obtain⟨x4,rfl⟩:=(pq underlying24 Ow) n _ h4
    obtain⟨x5,rfl⟩:=Lw underlying25 (c:=ay) (fun m hm=>(ih m (by omega)).2) _ h5
    obtain⟨x6,rfl⟩:=(pq underlying26 vT) n _ h6
    exact⟨(⟨x0,x1,x2,x3,x4,x5,x6⟩:ag),by rw[bz];rfl⟩),(fun l h=>by
    unfold Sh at h
    rw[underlying89]at h
    obtain⟨a0,b0,rfl,_,h0,a1,b1,rfl,_,h1,a2,b2,rfl,_,h2,rfl⟩:=h
    obtain⟨x0,rfl⟩:=(nF underlying9) n _ h0
    obtain⟨x1,rfl⟩:=(pq underlying38 (nF underlying9)) n _ h1
    obtain⟨x2,rfl⟩:=(ih n (vcf n)).1 _ h2
    exact⟨(⟨x0,x1,x2⟩:aF),by rw[mD];(try simp only[bz]);rfl⟩)⟩
theorem P1:In Pg 28 af:=fun n=>(Kn n).1
theorem Kp:∀n,(∀l,Sh Pg n 255 l->∃x,l=dL x):=by
 intro n
 induction n using Nat.strongRecOn with
 | ind n ih =>
  cases n with
  |zero=>exact fun l h=>h.elim
  | succ n =>
   exact fun l h=>by
    unfold Sh at h
    rw[underlying255]at h
    obtain⟨a0,b0,rfl,_,h0,a1,b1,rfl,_,h1,rfl⟩:=h
    obtain⟨x0,rfl⟩:=(nF underlying9) n _ h0
    obtain⟨x1,rfl⟩:=(nF underlying243) n _ h1
    exact⟨(⟨x0,x1⟩:a8),by rw[Rz];rfl⟩
theorem RG:∀n,(∀l,Sh Pg n 121 l->∃x,l=cM x):=by
 intro n
 induction n using Nat.strongRecOn with
 | ind n ih =>
  cases n with
  |zero=>exact fun l h=>h.elim
  | succ n =>
   exact fun l h=>by
    unfold Sh at h
    rw[underlying121]at h
    obtain⟨a0,b0,rfl,_,h0,a1,b1,rfl,_,h1,a2,b2,rfl,_,h2,rfl⟩:=h
    obtain⟨x0,rfl⟩:=(nF underlying9) n _ h0
    obtain⟨x1,rfl⟩:=(pq underlying38 (nF underlying9)) n _ h1
    obtain⟨x2,rfl⟩:=(pq underlying26 vT) n _ h2
    exact⟨(⟨x0,x1,x2⟩:aY),by rw[Gx];rfl⟩
theorem P0:∀n,(∀l,Sh Pg n 70 l->∃x,l=da x):=by
 intro n
 induction n using Nat.strongRecOn with
 | ind n ih =>
  cases n with
  |zero=>exact fun l h=>h.elim
  | succ n =>
   exact fun l h=>by
    unfold Sh at h
    rw[underlying70]at h
    obtain⟨a0,b0,rfl,_,h0,a1,b1,rfl,_,h1,a2,b2,rfl,_,h2,a3,b3,rfl,_,h3,rfl⟩:=h
    obtain⟨x0,rfl⟩:=(nF underlying9) n _ h0
    obtain⟨x1,rfl⟩:=(pq underlying38 (nF underlying9)) n _ h1
    obtain⟨x2,rfl⟩:=(pq underlying67 Kp) n _ h2
    obtain⟨x3,rfl⟩:=(pq underlying68 RG) n _ h3
    exact⟨(⟨x0,x1,x2,x3⟩:cF),by rw[me];rfl⟩
theorem MN:∀n,(∀l,Sh Pg n 257 l->∃x,l=sY x):=by
 intro n
 induction n using Nat.strongRecOn with
 | ind n ih =>
  cases n with
  |zero=>exact fun l h=>h.elim
  | succ n =>
   exact fun l h=>by
    unfold Sh at h
    rw[underlying257]at h
    obtain⟨a0,b0,rfl,_,h0,a1,b1,rfl,_,h1,rfl⟩:=h
    obtain⟨x0,rfl⟩:=(nF underlying9) n _ h0
    obtain⟨x1,rfl⟩:=vT n _ h1
    exact⟨(⟨x0,x1⟩:D7),by rw[G9];(try simp only[ct]);(try simp only[cj]);rfl⟩
theorem Ov:∀n,(∀l,Sh Pg n 242 l->∃x,l=zf x):=by
 intro n
 induction n using Nat.strongRecOn with
 | ind n ih =>
  cases n with
  |zero=>exact fun l h=>h.elim
  | succ n =>
   exact fun l h=>by
    unfold Sh at h
    rw[underlying242]at h
    obtain⟨a0,b0,rfl,_,h0,a1,b1,rfl,_,h1,a2,b2,rfl,_,h2,rfl⟩:=h
    obtain⟨x0,rfl⟩:=(nF underlying9) n _ h0
    obtain⟨x1,rfl⟩:=(nF underlying9) n _ h1
    obtain⟨x2,rfl⟩:=(pq underlying240 MN) n _ h2
    exact⟨(⟨x0,x1,x2⟩:H6),by rw[On];rfl⟩
theorem Ly:∀n,(∀l,Sh Pg n 250 l->∃x,l=d9 x):=by
 intro n
 induction n using Nat.strongRecOn with
 | ind n ih =>
  cases n with
  |zero=>exact fun l h=>h.elim
  | succ n =>
   exact fun l h=>by
    unfold Sh at h
    rw[underlying250]at h
    obtain⟨a0,b0,rfl,_,h0,a1,b1,rfl,_,h1,rfl⟩:=h
    obtain⟨x0,rfl⟩:=(nF underlying9) n _ h0
    obtain⟨x1,rfl⟩:=(nF underlying9) n _ h1
    exact⟨(⟨x0,x1⟩:cw),by rw[PQ];rfl⟩
theorem RF:∀n,(∀l,Sh Pg n 252 l->∃x,l=gq x):=by
 intro n
 induction n using Nat.strongRecOn with
 | ind n ih =>
  cases n with
  |zero=>exact fun l h=>h.elim
  | succ n =>
   exact fun l h=>by
    unfold Sh at h
    rw[underlying252]at h
    obtain⟨a0,b0,rfl,_,h0,a1,b1,rfl,_,h1,rfl⟩:=h
    obtain⟨x0,rfl⟩:=(nF underlying9) n _ h0
    obtain⟨x1,rfl⟩:=(nF underlying243) n _ h1
    exact⟨(⟨x0,x1⟩:eU),by rw[Ry];rfl⟩
theorem Ou:∀n,(∀l,Sh Pg n 254 l->∃x,l=dc x):=by
 intro n
 induction n using Nat.strongRecOn with
 | ind n ih =>
  cases n with
  |zero=>exact fun l h=>h.elim
  | succ n =>
   exact fun l h=>by
    unfold Sh at h
    rw[underlying254]at h
    obtain⟨a0,b0,rfl,_,h0,a1,b1,rfl,_,h1,a2,b2,rfl,_,h2,a3,b3,rfl,_,h3,rfl⟩:=h
    obtain⟨x0,rfl⟩:=(nF underlying9) n _ h0
    obtain⟨x1,rfl⟩:=(pq underlying67 Kp) n _ h1
    obtain⟨x2,rfl⟩:=rf n _ h2
    obtain⟨x3,rfl⟩:=rf n _ h3
    exact⟨(⟨x0,x1,x2,x3⟩:bH),by rw[Jl];(try simp only[cj]);rfl⟩
theorem RH:∀n,(∀l,Sh Pg n 62 l->∃x,l=J2 x):=by
 intro n
 induction n using Nat.strongRecOn with
 | ind n ih =>
  cases n with
  |zero=>exact fun l h=>h.elim
  | succ n =>
   exact fun l h=>by
    unfold Sh at h
    rw[underlying62]at h
    obtain⟨a0,b0,rfl,_,h0,a1,b1,rfl,_,h1,a2,b2,rfl,_,h2,a3,b3,rfl,_,h3,a4,b4,rfl,_,h4,a5,b5,rfl,_,h5,rfl⟩:=h
    obtain⟨x0,rfl⟩:=(pq underlying38 (nF underlying9)) n _ h0
    obtain⟨x1,rfl⟩:=(pq underlying51 Ly) n _ h1
    obtain⟨x2,rfl⟩:=(pq underlying52 RF) n _ h2
    obtain⟨x3,rfl⟩:=(pq underlying53 Ou) n _ h3
    obtain⟨x4,rfl⟩:=vT n _ h4
    obtain⟨x5,rfl⟩:=(pq underlying56 rf) n _ h5
    exact⟨(⟨x0,x1,x2,x3,x4,x5⟩:xE),by rw[Kb];(try simp only[ct]);(try simp only[cj]);rfl⟩
theorem NA:∀n,(∀l,Sh Pg n 64 l->∃x,l=cq x):=by
 intro n
 induction n using Nat.strongRecOn with
 | ind n ih =>
  cases n with
  |zero=>exact fun l h=>h.elim
  | succ n =>
   exact fun l h=>by
    unfold Sh at h
    rw[underlying64]at h
    obtain⟨a0,b0,rfl,_,h0,a1,b1,rfl,_,h1,a2,b2,rfl,_,h2,a3,b3,rfl,_,h3,a4,b4,rfl,_,h4,a5,b5,rfl,_,h5,rfl⟩:=h
    obtain⟨x0,rfl⟩:=(nF underlying9) n _ h0
    obtain⟨x1,rfl⟩:=(pq underlying38 (nF underlying9)) n _ h1
    obtain⟨x2,rfl⟩:=P1 n _ h2
    obtain⟨x3,rfl⟩:=(Oq underlying50) n _ h3
    obtain⟨x4,rfl⟩:=(VV underlying4) n _ h4
    obtain⟨x5,rfl⟩:=RH n _ h5
    exact⟨(⟨x0,x1,x2,x3,x4,x5⟩:ey),by rw[jG];(try simp only[bz]);(try simp only[Kb]);(try simp only[ct]);(try simp only[cj]);rfl⟩
theorem Ko:∀n,(∀l,Sh Pg n 119 l->∃x,l=dC x):=by
 intro n
 induction n using Nat.strongRecOn with
 | ind n ih =>
  cases n with
  |zero=>exact fun l h=>h.elim
  | succ n =>
   exact fun l h=>by
    unfold Sh at h
    rw[underlying119]at h
    obtain⟨a0,b0,rfl,_,h0,a1,b1,rfl,_,h1,a2,b2,rfl,_,h2,a3,b3,rfl,_,h3,rfl⟩:=h
    obtain⟨x0,rfl⟩:=(nF underlying9) n _ h0
    obtain⟨x1,rfl⟩:=vT n _ h1
    obtain⟨x2,rfl⟩:=(pq underlying51 Ly) n _ h2
    obtain⟨x3,rfl⟩:=(pq underlying46 NA) n _ h3
    exact⟨(⟨x0,x1,x2,x3⟩:lz),by rw[mE];(try simp only[ct]);(try simp only[cj]);rfl⟩
theorem PZ:∀n,(∀l,Sh Pg n 259 l->∃x,l=An x):=by
 intro n
 induction n using Nat.strongRecOn with
 | ind n ih =>
  cases n with
  |zero=>exact fun l h=>h.elim
  | succ n =>
   exact fun l h=>by
    unfold Sh at h
    rw[underlying259]at h
    obtain⟨a0,b0,rfl,_,h0,a1,b1,rfl,_,h1,a2,b2,rfl,_,h2,rfl⟩:=h
    obtain⟨x0,rfl⟩:=(nF underlying9) n _ h0
    obtain⟨x1,rfl⟩:=(pq underlying38 (nF underlying9)) n _ h1
    obtain⟨x2,rfl⟩:=rf n _ h2
    exact⟨(⟨x0,x1,x2⟩:Md),by rw[Ll];(try simp only[cj]);rfl⟩
theorem Lx:∀n,(∀l,Sh Pg n 246 l->∃x,l=qv x):=by
 intro n
 induction n using Nat.strongRecOn with
 | ind n ih =>
  cases n with
  |zero=>exact fun l h=>h.elim
  | succ n =>
   exact fun l h=>by
    unfold Sh at h
    rw[underlying246]at h
    obtain⟨a0,b0,rfl,_,h0,a1,b1,rfl,_,h1,a2,b2,rfl,_,h2,a3,b3,rfl,_,h3,a4,b4,rfl,_,h4,rfl⟩:=h
    obtain⟨x0,rfl⟩:=(nF underlying9) n _ h0
    obtain⟨x1,rfl⟩:=(nF underlying9) n _ h1
    obtain⟨x2,rfl⟩:=(nF underlying243) n _ h2
    obtain⟨x3,rfl⟩:=(pq underlying244 PZ) n _ h3
    obtain⟨x4,rfl⟩:=rf n _ h4
    exact⟨(⟨x0,x1,x2,x3,x4⟩:Ac),by rw[Fl];(try simp only[cj]);rfl⟩
theorem P2:∀n,(∀l,Sh Pg n 248 l->∃x,l=Ao x):=by
 intro n
 induction n using Nat.strongRecOn with
 | ind n ih =>
  cases n with
  |zero=>exact fun l h=>h.elim
  | succ n =>
   exact fun l h=>by
    unfold Sh at h
    rw[underlying248]at h
    obtain⟨a0,b0,rfl,_,h0,a1,b1,rfl,_,h1,a2,b2,rfl,_,h2,rfl⟩:=h
    obtain⟨x0,rfl⟩:=(nF underlying9) n _ h0
    obtain⟨x1,rfl⟩:=(pq underlying67 Kp) n _ h1
    obtain⟨x2,rfl⟩:=rf n _ h2
    exact⟨(⟨x0,x1,x2⟩:Me),by rw[Lm];(try simp only[cj]);rfl⟩
theorem MO:∀n,(∀l,Sh Pg n 48 l->∃x,l=aO x):=by
 intro n
 induction n using Nat.strongRecOn with
 | ind n ih =>
  cases n with
  |zero=>exact fun l h=>h.elim
  | succ n =>
   exact fun l h=>by
    unfold Sh at h
    rw[underlying48]at h
    obtain⟨a0,b0,rfl,_,h0,a1,b1,rfl,_,h1,a2,b2,rfl,_,h2,a3,b3,rfl,_,h3,a4,b4,rfl,_,h4,a5,b5,rfl,_,h5,rfl⟩:=h
    obtain⟨x0,rfl⟩:=(pq underlying41 P0) n _ h0
    obtain⟨x1,rfl⟩:=(pq underlying42 Ov) n _ h1
    obtain⟨x2,rfl⟩:=(pq underlying43 Ko) n _ h2
    obtain⟨x3,rfl⟩:=(pq underlying44 Lx) n _ h3
    obtain⟨x4,rfl⟩:=(pq underlying45 P2) n _ h4
    obtain⟨x5,rfl⟩:=(pq underlying46 NA) n _ h5
    exact⟨(⟨x0,x1,x2,x3,x4,x5⟩:bo),by rw[Cf];rfl⟩
end Go.Proofs.YtkdahfeiedaahaaGreatDoor
namespace Go.Proofs
open Go.Shelf
noncomputable def Tryz.laysM171_ren : Go.Shelf.Ren := ⟨fun | 171 => 98 | 243 => 134 | 246 => 156 | 283 => 182 | 284 => 183 | 285 => 184 | 286 => 185 | 129 => 181 | 317 => 202 | 318 => 203 | 319 => 204 | 320 => 205 | 337 => 212 | 338 => 213 | n => n, fun | 3 => 3 | 9 => 9 | 2 => 2 | 4 => 4 | 171 => 202 | 0 => 0 | 53 => 201 | 37 => 169 | 5 => 5 | 173 => 204 | 212 => 216 | 51 => 199 | 20 => 20 | 213 => 217 | 46 => 182 | 232 => 223 | 233 => 224 | n => n, fun | 17 => 0 | 18 => 2 | 19 => 3 | n => n⟩
theorem Tryz.laysM171 : Go.Proofs.LaysM.n171 Tryz.prog Tryz.laysM171_ren := {
 mixed := by kernel_rfl
 f129 := Tryz.func181.trans (congrArg some (by kernel_rfl))
 f171 := Tryz.func98.trans (congrArg some (by kernel_rfl))
 f243 := Tryz.func134.trans (congrArg some (by kernel_rfl))
 f246 := Tryz.func156.trans (congrArg some (by kernel_rfl))
 f283 := Tryz.func182.trans (congrArg some (by kernel_rfl))
 f284 := Tryz.func183.trans (congrArg some (by kernel_rfl))
 f285 := Tryz.func184.trans (congrArg some (by kernel_rfl))
 f286 := Tryz.func185.trans (congrArg some (by kernel_rfl))
 f317 := Tryz.func202.trans (congrArg some (by kernel_rfl))
 f318 := Tryz.func203.trans (congrArg some (by kernel_rfl))
 f319 := Tryz.func204.trans (congrArg some (by kernel_rfl))
 f320 := Tryz.func205.trans (congrArg some (by kernel_rfl))
 f337 := Tryz.func212.trans (congrArg some (by kernel_rfl))
 f338 := Tryz.func213.trans (congrArg some (by kernel_rfl))
 t0 := Tryz.underlying0
 a0 := Tryz.isAgg0
 z0 := Tryz.sizeOf0
 v0 := Tryz.zeroValue0
 t2 := Tryz.underlying2
 a2 := Tryz.isAgg2
 z2 := Tryz.sizeOf2
 v2 := Tryz.zeroValue2
 t3 := Tryz.underlying3
 a3 := Tryz.isAgg3
 z3 := Tryz.sizeOf3
 v3 := Tryz.zeroValue3
 t4 := Tryz.underlying4
 a4 := Tryz.isAgg4
 z4 := Tryz.sizeOf4
 v4 := Tryz.zeroValue4
 t5 := Tryz.underlying5
 a5 := Tryz.isAgg5
 z5 := Tryz.sizeOf5
 v5 := Tryz.zeroValue5
 t9 := Tryz.underlying9
 a9 := Tryz.isAgg9
 z9 := Tryz.sizeOf9
 v9 := Tryz.zeroValue9
 t20 := Tryz.underlying20
 a20 := Tryz.isAgg20
 z20 := Tryz.sizeOf20
 v20 := Tryz.zeroValue20
 t37 := Tryz.underlying169
 a37 := Tryz.isAgg169
 z37 := Tryz.sizeOf169
 v37 := Tryz.zeroValue169
 t46 := Tryz.underlying182
 a46 := Tryz.isAgg182
 z46 := Tryz.sizeOf182
 v46 := Tryz.zeroValue182
 t51 := Tryz.underlying199
 a51 := Tryz.isAgg199
 z51 := Tryz.sizeOf199
 v51 := Tryz.zeroValue199
 t53 := Tryz.underlying201
 a53 := Tryz.isAgg201
 z53 := Tryz.sizeOf201
 v53 := Tryz.zeroValue201
 t171 := Tryz.underlying202
 a171 := Tryz.isAgg202
 z171 := Tryz.sizeOf202
 v171 := Tryz.zeroValue202
 t173 := Tryz.underlying204
 a173 := Tryz.isAgg204
 z173 := Tryz.sizeOf204
 v173 := Tryz.zeroValue204
 t212 := Tryz.underlying216
 a212 := Tryz.isAgg216
 z212 := Tryz.sizeOf216
 v212 := Tryz.zeroValue216
 t213 := Tryz.underlying217
 a213 := Tryz.isAgg217
 z213 := Tryz.sizeOf217
 t232 := Tryz.underlying223
 a232 := Tryz.isAgg223
 z232 := Tryz.sizeOf223
 v232 := Tryz.zeroValue223
 t233 := Tryz.underlying224
 a233 := Tryz.isAgg224
 z233 := Tryz.sizeOf224
 v233 := Tryz.zeroValue224
 g17 := by kernel_rfl
 g18 := by kernel_rfl
 g19 := by kernel_rfl
 i0 := by kernel_rfl
 i2 := by kernel_rfl
 i3 := by kernel_rfl
 i4 := by kernel_rfl
 i5 := by kernel_rfl
 i9 := by kernel_rfl
 i20 := by kernel_rfl
 i37 := by kernel_rfl
 i46 := by kernel_rfl
 i51 := by kernel_rfl
 i53 := by kernel_rfl
 i171 := by kernel_rfl
 i173 := by kernel_rfl
 i212 := by kernel_rfl
 i232 := by kernel_rfl
 i233 := by kernel_rfl
 m17 := by kernel_rfl
 m18 := by kernel_rfl
 m19 := by kernel_rfl }
noncomputable def Tryz.lays190_ren : Go.Shelf.Ren := ⟨fun | 190 => 127 | 125 => 154 | 258 => 153 | 128 => 180 | 129 => 181 | 302 => 171 | 303 => 172 | 304 => 173 | 305 => 174 | 306 => 175 | 307 => 176 | 308 => 177 | 309 => 178 | 310 => 179 | 333 => 196 | 329 => 197 | 330 => 198 | 334 => 199 | 335 => 200 | 336 => 201 | 344 => 211 | n => n, fun | 31 => 38 | 9 => 9 | 3 => 3 | 46 => 182 | 0 => 0 | 51 => 199 | 53 => 201 | 4 => 4 | 183 => 191 | 182 => 190 | 131 => 196 | 5 => 5 | 218 => 208 | 222 => 212 | 228 => 219 | 229 => 220 | n => n, fun | n => n⟩
theorem Tryz.lays190 : Go.Proofs.Lays.n190 Tryz.prog Tryz.lays190_ren := {
 mixed := by kernel_rfl
 f125 := Tryz.func154.trans (congrArg some (by kernel_rfl))
 f128 := Tryz.func180.trans (congrArg some (by kernel_rfl))
 f129 := Tryz.func181.trans (congrArg some (by kernel_rfl))
 f190 := Tryz.func127.trans (congrArg some (by kernel_rfl))
 f258 := Tryz.func153.trans (congrArg some (by kernel_rfl))
 f302 := Tryz.func171.trans (congrArg some (by kernel_rfl))
 f303 := Tryz.func172.trans (congrArg some (by kernel_rfl))
 f304 := Tryz.func173.trans (congrArg some (by kernel_rfl))
 f305 := Tryz.func174.trans (congrArg some (by kernel_rfl))
 f306 := Tryz.func175.trans (congrArg some (by kernel_rfl))
 f307 := Tryz.func176.trans (congrArg some (by kernel_rfl))
 f308 := Tryz.func177.trans (congrArg some (by kernel_rfl))
 f309 := Tryz.func178.trans (congrArg some (by kernel_rfl))
 f310 := Tryz.func179.trans (congrArg some (by kernel_rfl))
 f329 := Tryz.func197.trans (congrArg some (by kernel_rfl))
 f330 := Tryz.func198.trans (congrArg some (by kernel_rfl))
 f333 := Tryz.func196.trans (congrArg some (by kernel_rfl))
 f334 := Tryz.func199.trans (congrArg some (by kernel_rfl))
 f335 := Tryz.func200.trans (congrArg some (by kernel_rfl))
 f336 := Tryz.func201.trans (congrArg some (by kernel_rfl))
 f344 := Tryz.func211.trans (congrArg some (by kernel_rfl))
 t0 := Tryz.underlying0
 a0 := Tryz.isAgg0
 z0 := Tryz.sizeOf0
 v0 := Tryz.zeroValue0
 t3 := Tryz.underlying3
 a3 := Tryz.isAgg3
 z3 := Tryz.sizeOf3
 v3 := Tryz.zeroValue3
 t4 := Tryz.underlying4
 a4 := Tryz.isAgg4
 z4 := Tryz.sizeOf4
 v4 := Tryz.zeroValue4
 t5 := Tryz.underlying5
 a5 := Tryz.isAgg5
 z5 := Tryz.sizeOf5
 v5 := Tryz.zeroValue5
 t9 := Tryz.underlying9
 a9 := Tryz.isAgg9
 z9 := Tryz.sizeOf9
 v9 := Tryz.zeroValue9
 t31 := Tryz.underlying38
 a31 := Tryz.isAgg38
 z31 := Tryz.sizeOf38
 v31 := Tryz.zeroValue38
 t46 := Tryz.underlying182
 a46 := Tryz.isAgg182
 z46 := Tryz.sizeOf182
 v46 := Tryz.zeroValue182
 t51 := Tryz.underlying199
 a51 := Tryz.isAgg199
 z51 := Tryz.sizeOf199
 v51 := Tryz.zeroValue199
 t53 := Tryz.underlying201
 a53 := Tryz.isAgg201
 z53 := Tryz.sizeOf201
 v53 := Tryz.zeroValue201
 t131 := Tryz.underlying196
 a131 := Tryz.isAgg196
 z131 := Tryz.sizeOf196
 v131 := Tryz.zeroValue196
 t182 := Tryz.underlying190
 a182 := Tryz.isAgg190
 z182 := Tryz.sizeOf190
 v182 := Tryz.zeroValue190
 t183 := Tryz.underlying191
 a183 := Tryz.isAgg191
 z183 := Tryz.sizeOf191
 v183 := Tryz.zeroValue191
 t218 := Tryz.underlying208
 a218 := Tryz.isAgg208
 z218 := Tryz.sizeOf208
 v218 := Tryz.zeroValue208
 t222 := Tryz.underlying212
 a222 := Tryz.isAgg212
 z222 := Tryz.sizeOf212
 v222 := Tryz.zeroValue212
 t228 := Tryz.underlying219
 a228 := Tryz.isAgg219
 z228 := Tryz.sizeOf219
 v228 := Tryz.zeroValue219
 t229 := Tryz.underlying220
 a229 := Tryz.isAgg220
 z229 := Tryz.sizeOf220
 v229 := Tryz.zeroValue220 }
noncomputable def Tryz.lc104_ren : Go.Shelf.Ren := ⟨fun | 41 => 104 | n => n, fun | 22 => 92 | 23 => 137 | 4 => 4 | n => n, fun | n => n⟩
theorem Tryz.lc104 : Go.Proofs.SlLaysE0.n41 Tryz.prog Tryz.lc104_ren := {
 mixed := by kernel_rfl
 f41 := ⟨Tryz.f104.name, by decide, Tryz.func104.trans (congrArg some (by kernel_rfl))⟩
 t4 := Tryz.underlying4
 a4 := Tryz.isAgg4
 z4 := Tryz.sizeOf4
 v4 := Tryz.zeroValue4
 t22 := Tryz.underlying92
 a22 := Tryz.isAgg92
 z22 := Tryz.sizeOf92
 v22 := Tryz.zeroValue92 }
noncomputable def Tryz.lc125_ren : Go.Shelf.Ren := ⟨fun | 41 => 125 | n => n, fun | 22 => 38 | 23 => 9 | 4 => 4 | n => n, fun | n => n⟩
theorem Tryz.lc125 : Go.Proofs.SlLaysE0.n41 Tryz.prog Tryz.lc125_ren := {
 mixed := by kernel_rfl
 f41 := ⟨Tryz.f125.name, by decide, Tryz.func125.trans (congrArg some (by kernel_rfl))⟩
 t4 := Tryz.underlying4
 a4 := Tryz.isAgg4
 z4 := Tryz.sizeOf4
 v4 := Tryz.zeroValue4
 t22 := Tryz.underlying38
 a22 := Tryz.isAgg38
 z22 := Tryz.sizeOf38
 v22 := Tryz.zeroValue38 }
end Go.Proofs
namespace Go.Proofs.YtkdahfeiedaahaaGreatDoor
open Go Go.Proofs.Tryz
set_option linter.unusedVariables false
set_option maxRecDepth 100000
theorem MC:ry Pg 104 137:=Jh Tryz.lc104 rfl rfl (by kernel_rfl) call104
theorem uy{l r:List ac}(h:rE l=some r):CC Pg GE 104 [sl aa l] (sl aa r) [(0,137)]:=HV.cloneCC MC h
theorem MD:ry Pg 125 9:=Jh Tryz.lc125 rfl rfl (by kernel_rfl) call125
theorem zg{l r:List ae}(h:rE l=some r):CC Pg GE 125 [sl cS l] (sl cS r) [(0,9)]:=eu.cloneCC MD h
def Sn(n:Int):Option ae:=if(decide (-9223372036854775808<=n)&&decide (n<=9223372036854775807))=true then some (Lib.itoa n)else none
theorem QL:kr=Lib.pow10Tab:=by kernel_rfl
theorem RJ{n:Int}{r:ae}(h:Sn n=some r):CC Pg GE 98 [.int .i64 n] (.str r) []:=by
 rcases aN h with⟨b,h⟩|⟨b,h⟩
 ·obtain rfl:=lf h
  simp only[vae,vaj]at b
  refine CC.grownIS call98 fun E Γ bs ow w a st hE hS=>?_
  have htab:Lib.TabIs Pg w "internal/strconv.uint64pow10" .u64 Lib.pow10Tab:=Td hS (g:=0) (by rw[hE,←QL];simp[GE]) (by kernel_rfl)
  refine(Any.strconv_Itoa Tryz.laysM171 n b.1 b.2 w htab).mono fun e w' he=>?_
  obtain⟨rfl,k,os,rfl⟩:=he
  exact⟨rfl,.of_grow _ _ _⟩
 ·cases h
open Go
abbrev Ek(GE:List (Nat×List PVal))(Γ:aW)(w:World):pX:=⟨GE,Γ,w,fun _=>False⟩
structure Ig(GE:List (Nat×List PVal))(Γ:aW)(w:World):Prop where
 wi:∀b n,Γ b=some n->∃c t fr,w.heap[b]? =some (.cells c t fr)/\n<=c.size
 gl:∀g cs,(g,cs)∈GE->VR Γ [] w (.eptr cs) (.pointer (some ⟨g,0,none⟩))
 gc:∀g cs,(g,cs)∈GE->iN 0 cs
 gx:∀g cs,(g,cs)∈GE->g<w.heap.size/\∃c t fr,w.heap[g]? =some (.cells c t fr)/\c.size=cs.length
theorem VR.clo{Γ:aW}{bs bs':bw}{w:World}{p:PVal}{v:Value}(h:VR Γ bs w p v)(hc:p.cl 0):VR Γ bs' w p v:=h.restrict (n:=0) hc fun i b hi _=>absurd hi (vaF _)
section
variable{P:Program}{E:pX}{Γ:aW}{bs:bw}{ow:Nat->Option lA}{w:World}{a:Array Value}{st:aA}
theorem SR.base(h:SR P E Γ bs ow w a st):Ig E.GE Γ w where
 wi:=h.wi
 gl:=fun g cs hg=>(h.gl g cs hg).clo (by simp only[PVal.cl];exact h.gc g cs hg)
 gc:=h.gc
 gx:=fun g cs hg=>⟨(h.gnow hg).1,(h.gnow hg).2.2.2⟩
theorem Ig.good{GE:List (Nat×List PVal)}(hB:Ig GE Γ w):rX GE 0 (Ek GE Γ w) where
 ge:=rfl
 low:=fun b n h=>by obtain⟨c,t,fr,h1,_⟩:=hB.wi b n h;exact(vad.1 h1).1
 nt:=fun _ _ hb=>hb
 gl:=hB.gl
theorem Ig.fresh{GE:List (Nat×List PVal)}(hB:Ig GE Γ w)(k:Nat){tmps:List PVal}(hs:a.size=tmps.length)(hv:∀(t:Nat) p v,tmps[t]? =some p->a[t]? =some v->VR Γ [] w p v):SR P (Ek GE Γ w) Γ (List.replicate k none) (fun _=>none) w a ⟨tmps,List.replicate k .dead,[]⟩:=by
 have hno:∀(i b:Nat),(List.replicate k (none:Option Nat))[i]? =some (some b)->False:=fun i b h=>by
  rw[vaQ]at h
  split at h<;>simp at h
 exact{
  wi:=hB.wi
  sz:=hs
  tm:=fun t p v hp hv'=>(hv t p v hp hv').mono (.refl _ _) (fun i b h=>by simp at h)
  bl:=by simp
  bx:=fun i b B hb=>(hno i b hb).elim
  inj:=fun i j b hb=>(hno i b hb).elim
  bn:=fun i b hb=>(hno i b hb).elim
  on:=fun b L hL=>by cases hL
  ot:=fun t k e he=>by simp at he
  ob:=fun i j e cs own b _ _ hb=>(hno i b hb).elim
  gl:=fun g cs hg=>(hB.gl g cs hg).mono (.refl _ _) (fun i b h=>by simp at h)
  gc:=hB.gc
  gx:=fun g cs hg=>⟨(hB.gx g cs hg).1,fun h=>h,(hB.gx g cs hg).2⟩
  step:=.refl _ _ _ _}
theorem SR.again(h:SR P E Γ bs ow w a st)(hc:iN 0 st.tmps){GE:List (Nat×List PVal)}{Γ':aW}{w':World}(hB:Ig GE Γ' w')(hle:Γ.Le w Γ' w')(k:Nat):SR P (Ek GE Γ' w') Γ' (List.replicate k none) (fun _=>none) w' a ⟨st.tmps,List.replicate k .dead,[]⟩:=
 hB.fresh k h.sz fun t p v hp hv=>((h.tm t p v hp hv).clo (nU hc hp)).mono hle (.refl _)
theorem SR.aside(h:SR P E Γ bs ow w a st){GE:List (Nat×List PVal)}{Γ':aW}{bs':bw}{ow':Nat->Option lA}{w':World}{a':Array Value}{st':aA}(h':SR P (Ek GE Γ w) Γ' bs' ow' w' a' st'):SR P E Γ' bs ow w' a st:=
 h.world (fun _=>False) h'.step.le h'.wi h'.step.os h'.step.tape h'.step.output h'.step.size (fun b hb _=>h'.step.keep b hb id) (fun _ hx=>hx.elim) (fun _ _ _ hx=>hx) (fun _ _ _ hx=>hx) h'.step.drawn
theorem SR.putOther(h:SR P E Γ bs ow w a st){l:Nat}{o:Obj}(hT:¬bj bs ow l)(hE:E.T l\/E.w.heap.size<=l)(ho:∀c t fr,w.heap[l]? ≠some (.cells c t fr)):SR P E Γ bs ow (w.putObj l o) a st/\Γ.Le w Γ (w.putObj l o):=by
 have hg:∀b n,Γ b=some n->b≠l:=fun b n hb e=>by
  obtain⟨c,t,fr,h1,_⟩:=h.wi b n hb
  exact ho c t fr (e▸h1)
 have hle:Γ.Le w Γ (w.putObj l o):=fun b n hb _=>⟨n,hb,vao _,fun k _=>bZ (World.putObj_heap_other (hg b n hb)) k⟩
 refine⟨h.world (fun b=>b=l) hle (fun b n hb=>?_) rfl rfl rfl (by simp) (fun b _ hb=>⟨World.putObj_heap_other hb,rfl⟩) (fun b hb=>hb▸hE) (fun i b hb e=>hT (.inl ⟨i,e▸hb⟩)) (fun b L hL e=>hT (.inr (by rw[<-e,hL];simp))),hle⟩
 obtain⟨c,t,fr,h1,h2⟩:=h.wi b n hb
 exact⟨c,t,fr,(World.putObj_heap_other (hg b n hb)).trans h1,h2⟩
theorem SR.rebase(h:SR P E Γ bs ow w a st):SR P ⟨E.GE,Γ,w,bj bs ow⟩ Γ bs ow w a st:=
 { h with
  bn:=fun i b hb=>.inl (.inl ⟨i,hb⟩)
  on:=fun b L hL=>⟨(h.on b L hL).1,.inl (.inr (by rw[hL];simp))⟩
  gx:=fun g cs hg=>by
   obtain⟨k1,k2,k3,k4⟩:=h.gnow hg
   refine⟨k1,fun hT=>?_,k4⟩
   rcases hT with⟨i,hi⟩|hT
   ·exact k2 i g hi rfl
   ·exact hT k3
  step:=.refl _ _ _ _}
theorem SR.touchE(h:SR P E Γ bs ow w a st){b:Nat}(hb:bj bs ow b):E.T b\/E.w.heap.size<=b:=by
 rcases hb with⟨i,hi⟩|hb
 ·exact h.bn i b hi
 ·cases hL:ow b with
  |none=>exact absurd hL hb
  |some L=>exact(h.on b L hL).2
theorem SR.unbase(h:SR P E Γ bs ow w a st){Γ':aW}{bs':bw}{ow':Nat->Option lA}{w':World}{a':Array Value}{st':aA}(h':SR P ⟨E.GE,Γ,w,bj bs ow⟩ Γ' bs' ow' w' a' st'):SR P E Γ' bs' ow' w' a' st':=by
 have hT:∀b,bj bs ow b\/w.heap.size<=b->E.T b\/E.w.heap.size<=b:=fun b hb=>hb.elim h.touchE fun hb=>.inr (vav h.step.size hb)
 exact{h' with
  bn:=fun i b hb=>hT b (h'.bn i b hb)
  on:=fun b L hL=>⟨(h'.on b L hL).1,hT b (h'.on b L hL).2⟩
  gx:=h.gx
  step:={
   os:=h'.step.os.trans h.step.os
   tape:=h'.step.tape.trans h.step.tape
   output:=h'.step.output.trans h.step.output
   size:=vav h.step.size h'.step.size
   drawn:=vav h.step.drawn h'.step.drawn
   keep:=fun b hb hTb=>by
    have hlt:b<w.heap.size:=vaD hb h.step.size
    have hn:¬bj bs ow b:=fun hx=>(h.touchE hx).elim hTb fun hx=>absurd hx (vb7.2 hb)
    obtain⟨k1,k2⟩:=h'.step.keep b hlt hn
    obtain⟨q1,q2⟩:=h.step.keep b hb hTb
    exact⟨k1.trans q1,k2.trans q2⟩
   le:=h.step.le.trans h'.step.le}}
theorem aQ.on{m:Nat}{c:Code}{Q:Exit->aA->Prop}(hS:aQ P E.GE m c Q st)(hm:m≠0)(h:SR P E Γ bs ow w a st)(hl:m % 1000<=bs.length)(ro:Option Nat)(ds:List Deferred):Fh ro P c (fun e a' w'=>a'.defers=ds/\∃Γ' bs' ow' st',SR P E Γ' bs' ow' w' a'.tmps st'/\Q e st'/\(∀i:Nat,i<m % 1000->bs'[i]? =bs[i]?)/\Γ.Le w Γ' w'/\w.heap.size<=w'.heap.size/\
   ∀b,b<w.heap.size->¬bj bs ow b->w'.heap[b]? =w.heap[b]?/\¬bj bs' ow' b) ⟨a,ds⟩ w:=by
 have hE:rX E.GE m ⟨E.GE,Γ,w,bj bs ow⟩:={
  ge:=rfl
  low:=fun b n hb=>h.lt_of_ghost hb
  nt:=fun h0=>absurd h0 hm
  gl:=h.base.gl}
 have hlen:(bs.take (m % 1000)).length=m % 1000:=by simp;omega
 refine kq (hS ro ⟨E.GE,Γ,w,bj bs ow⟩ (bs.take (m % 1000)) ⟨a,ds⟩ w hE hlen ⟨Γ,bs,ow,h.rebase,fun i hi=>?_⟩) fun e a' w' hq=>?_
 ·rw[vam (by omega)]
 obtain⟨hd,st',⟨Γ',bs',ow',h',hk⟩,hQ⟩:=hq
 refine⟨hd,Γ',bs',ow',st',h.unbase h',hQ,fun i hi=>?_,h'.step.le,h'.step.size,fun b hb hT=>⟨(h'.step.keep b hb hT).1,fun hx=>?_⟩⟩
 ·rw[hk i (by omega),vam hi]
 ·exact(h'.touchE hx).elim hT fun hx=>absurd hx (vb7.2 hb)
theorem aQ.wide{GE:List (Nat×List PVal)}{c:Code}{Q:Exit->aA->Prop}{st0:aA}(hS:aQ P GE 0 c Q st0)(hB:Ig GE Γ w){ow:Nat->Option lA}{bs:bw}(h:SR P (Ek GE Γ w) Γ bs ow w a st0)(n:Nat)(ds:List Deferred):c.wpIn Fence.wide n P (fun e a' w'=>a'.defers=ds/\∃Γ' bs' ow' st',SR P (Ek GE Γ w) Γ' bs' ow' w' a'.tmps st'/\Q e st') ⟨a,ds⟩ w:=
 wpIn_wide.2 (wp_mono (hS none (Ek GE Γ w) [] ⟨a,ds⟩ w hB.good rfl ⟨Γ,bs,ow,h,fun i hi=>absurd hi (vaF _)⟩) fun e a' w' hq=>by
  obtain⟨hd,st',⟨Γ',bs',ow',h',_⟩,hQ⟩:=hq
  exact⟨hd,Γ',bs',ow',st',h',hQ⟩)
theorem aQ.wideE{GE:List (Nat×List PVal)}{c:Code}{Q:Exit->aA->Prop}(hS:aQ P GE 0 c Q st)(hE:rX GE 0 E)(h:SR P E Γ bs ow w a st)(n:Nat)(ds:List Deferred):c.wpIn Fence.wide n P (fun e a' w'=>a'.defers=ds/\∃Γ' bs' ow' st',SR P E Γ' bs' ow' w' a'.tmps st'/\Q e st') ⟨a,ds⟩ w:=
 wpIn_wide.2 (wp_mono (hS none E [] ⟨a,ds⟩ w hE rfl ⟨Γ,bs,ow,h,fun i hi=>absurd hi (vaF _)⟩) fun e a' w' hq=>by
  obtain⟨hd,st',⟨Γ',bs',ow',h',_⟩,hQ⟩:=hq
  exact⟨hd,Γ',bs',ow',st',h',hQ⟩)
theorem SR.allocO(h:SR P E Γ bs ow w a st)(o:Obj):SR P E Γ bs ow (w.alloc o) a st/\Γ.Le w Γ (w.alloc o):=by
 have hlt:∀b n,Γ b=some n->b<w.heap.size:=fun b n hb=>h.lt_of_ghost hb
 have hle:Γ.Le w Γ (w.alloc o):=fun b n hb _=>⟨n,hb,vao _,fun k _=>bZ (eY w o (hlt b n hb)) k⟩
 refine⟨h.world (fun _=>False) hle (fun b n hb=>?_) rfl rfl rfl (by simp[World.size_alloc]) (fun b hb _=>⟨eY w o hb,rfl⟩) (fun _ hx=>hx.elim) (fun _ _ _ hx=>hx) (fun _ _ _ hx=>hx),hle⟩
 obtain⟨c,t,fr,h1,h2⟩:=h.wi b n hb
 exact⟨c,t,fr,(eY w o (hlt b n hb)).trans h1,h2⟩
theorem SR.forgetT(h:SR P E Γ bs ow w a st){tm:List PVal}(hf:Jm st.tmps tm=tm):SR P E Γ bs ow w a {st with tmps:=tm}:=
 { h with
  sz:=by rw[h.sz,<-Kh (l:=st.tmps) (bs:=tm),hf]
  tm:=fun t p v hp hv=>by
   rw[<-hf]at hp
   rcases Kg hp with rfl|hp'
   ·exact .undef v
   ·exact h.tm t p v hp' hv}
theorem SR.back(h:SR P E Γ bs ow w a st)(ho:st.own=[]){Γ':aW}{bs':bw}{ow':Nat->Option lA}{w':World}{a':Array Value}{st':aA}{H':List aB}(h':SR P E Γ' bs' ow' w' a' st')(hle:Γ.Le w Γ' w')
  (hbs:∀i:Nat,i<bs.length->bs'[i]? =bs[i]?) (hH:dF H'.length st'.boxes H') (hl:H'.length=bs.length):
  ∃ow'',SR P E Γ' bs ow'' w' a {st with boxes:=H'}/\∀b,bj bs ow'' b->bj bs' ow' b:=by
 have hf:=h'.finish (H':=H') (v:=undef) (r:=.undef) (src:=fun k=>(0,k)) (ro:=[]) (.undef _) trivial hH (fun x hx=>by simp at hx) (fun x hx=>by simp at hx)
 have hb:bs'.take H'.length=bs:=by
  obtain⟨h1,_⟩:=nB hH
  have h2:H'.length<=bs'.length:=by rw[h'.bl];exact h1
  refine va2 fun i=>?_
  by_cases hi:i<H'.length
  ·rw[vam hi];exact hbs i (by omega)
  ·rw[vbY (by omega),vaz (by omega)]
 rw[hb]at hf
 refine⟨_,{hf with
  sz:=h.sz
  tm:=fun t p v hp hv=>(h.tm t p v hp hv).mono hle (.refl _)
  ot:=fun t k e he=>by simp only[ho]at he;simp at he},fun b hb=>?_⟩
 rcases hb with⟨i,hi⟩|hb
 ·exact .inl ⟨i,(hbs i (aq hi)).trans hi⟩
 ·refine .inr fun e=>hb ?_
  simp[vR,e]
end
section
variable{P:Program}{n:Nat}{a:Act}{w:World}{next:Act->World->Prop}{Q:Exit->Act->World->Prop}
theorem OM{o:Oper}(hd:fb o=true)(h:o.wp P a w next Q):o.wpIn Fence.wide n P a w next Q:=by
 refine⟨fun _ _=>trivial,?_⟩
 have hs:o.semAt (Fence.wide).round a.eval=execOp a.eval o:=Oper.semAt_eq _ _ _ fun c hc=>by unfold fb at hd;rw[hc]at hd;cases hd
 rw[hs]
 unfold Oper.wp at h
 generalize (execOp a.eval o).run P w=r at *
 have hdep:(Fence.wide).depth.isSome=true->1<=n:=fun h=>by simp[Fence.wide]at h
 cases r with
 | ok x w' =>
  cases x<;>simp only[Oper.upon]at h<;>simp only[Oper.uponIn]<;>first
   |exact h.elim
   |exact h
   |exact⟨hdep,callsIn_wide.2 h⟩
   | exact ⟨hdep,fun c cs _ => by
     obtain⟨v,w',r,s⟩:=h c cs
     exact⟨v,w',r,stepsIn_wide.2 s⟩⟩
 |halt x w'=>cases x<;>simp only[Oper.upon]at h<;>simp only[Oper.uponIn]<;>exact h
theorem Nk{o:Oper}{f:Operand}{args:Array Operand}{tys:Array TypeId}(ho:o.op=.call {callee:=.value f,args:=args,argTypes:=tys}){l:Nat}(hf:a.eval f=.func (.yield l) #[] #[])
  {R:Ending->World->Prop} (h:YieldAt Fence.wide (n - 1) P l (args.map a.eval) w R) (hR:∀e w',R e w'->∃v,e=.returned v/\next (a.put o.dst v) w'):o.wpIn Fence.wide n P a w next Q:=by
 refine⟨fun _ _=>trivial,?_⟩
 have hs:o.semAt (Fence.wide).round a.eval=execOp a.eval o:=Oper.semAt_eq _ _ _ fun c hc=>by rw[ho]at hc;cases hc
 obtain⟨fn,tmps,assign,body,hy,hr⟩:=h
 have hrun:(execOp a.eval o).run P w=.ok (.round l fn tmps assign body) w:=by
  simp[execOp,ho,resolve,hf,Deferred.ofValue,invoke,hy]
 rw[hs,hrun,Oper.uponIn_round]
 refine⟨fun h=>by simp[Fence.wide]at h,hr.mono fun e w' hr=>?_⟩
 obtain⟨v,rfl,hx⟩:=hR e w' hr
 exact hx
theorem HC{ops:Array Oper}{i:Nat}{rest:List Nat}{o:Oper}(ho:ops[i]? =some o)(hg:o.guard=none)(h:o.wpIn Fence.wide n P a w (wpOpsIn Fence.wide n P ops Q rest) Q):wpOpsIn Fence.wide n P ops Q (i::rest) a w:=by
 unfold wpOpsIn
 simp only[ho,Region.wanted,hg,if_true]
 exact h
theorem EL{E:pX}{A:List Nat}{ops:Array Oper}{K:aA->Prop}{rest:List Nat}{ds:List Deferred}
  (hK:∀Γ bs ow a w st,SR P E Γ bs ow w a st->K st->wpOpsIn Fence.wide n P ops Q rest ⟨a,ds⟩ w):
  ∀(L:List Oper) (is:List Nat) (Γ:aW) (bs:bw) (ow:Nat->Option lA) (a:Array Value) (w:World) (st:aA),is.map (fun i=>ops[i]?)=L.map some->
   (∀o∈L,o.guard=none/\fb o=true/\aD o.op=false)->SR P E Γ bs ow w a st->cV P E.GE A ops K L 0 st->wpOpsIn Fence.wide n P ops Q (is++rest) ⟨a,ds⟩ w
 |[],[],Γ,bs,ow,a,w,st,_,_,h,hp=>hK Γ bs ow a w st h hp
 |o::L,i::is,Γ,bs,ow,a,w,st,hi,hg,h,hp=>by
  obtain⟨g1,g2,g3⟩:=hg o (by simp)
  unfold cV at hp
  simp only[g1]at hp
  simp only[vaB,vbt]at hi
  refine HC hi.1 g1 (OM g2 (Oper.wp_mono (fun a' w' hA=>?_) (DJ (a:=⟨a,ds⟩) h (fun hm=>by rw[g3]at hm;cases hm) hp Q)))
  obtain⟨hd,Γ',bs',ow',st',h1,h2,_⟩:=hA
  obtain⟨a1,ds1⟩:=a'
  simp only at hd h1
  subst hd
  refine EL (A:=A) hK L is Γ' bs' ow' a1 w' st' hi.2 (fun o ho=>hg o (vaP _ ho)) h1 ?_
  rw[g3]at h2
  exact h2
end
def DB:Code->Array Oper
 |.region _ ops _=>ops
 |_=>#[]
def WX:Code->Nat
 |.region id _ _=>id
 |_=>0
def UB(c:Code)(i:Nat):Oper:=(DB c)[i]?.getD default
def V8(o:Oper):Array TypeId:=match o.op with
 |.call c=>c.argTypes
 |_=>#[]
def EO(o:Oper):Bool:=o.guard.isNone&&fb o&&!aD o.op
theorem JE{L:List Oper}(h:L.all EO=true):∀o∈L,o.guard=none/\fb o=true/\aD o.op=false:=fun o ho=>by
 have:=vaq.1 h o ho
 simpa[EO,and_assoc]using this
theorem qW{P:Program}{GE:List (Nat×List PVal)}{A:List Nat}{ops:Array Oper}{K K':aA->Prop}(hK:∀st,K st->K' st):∀(L:List Oper) (id:Nat) (st:aA),cV P GE A ops K L id st->cV P GE A ops K' L id st
 |[],_,st,h=>hK st h
 | o :: L,id,st,h => by
  unfold cV at h ⊢
  split at h
  ·exact rl (fun st hx=>qW hK L _ st hx) h
  ·split at h
   ·exact⟨fun hx=>rl (fun st hx=>qW hK L _ st hx) (h.1 hx),fun hx=>qW hK L _ _ (h.2 hx)⟩
   ·exact h
theorem NU{P:Program}{GE:List (Nat×List PVal)}{A:List Nat}{ops:Array Oper}{L:List Oper}{st st0:aA}{sc:List It}{F:Prop}(h:PS sc F)(he:F=Fi P GE A ops (fun _ st=>FG st st0) L 0 0 sc st):cV P GE A ops (fun st=>FG st st0) L 0 st:=
 qW (fun st ⟨_,hx⟩=>hx) L 0 st (tr L 0 0 sc st (Eq.mp he h))
theorem FG.sr{P:Program}{E:pX}{Γ:aW}{bs:bw}{ow:Nat->Option lA}{w:World}{a:Array Value}{st st0:aA}(h:SR P E Γ bs ow w a st)(hf:FG st st0):∃Γ' bs' ow',SR P E Γ' bs' ow' w a st0:=by
 obtain⟨Γ',bs',ow',h',_⟩:=(hf.weak (P:=P) (m:=0)) E [] ⟨a,[]⟩ w rfl ⟨Γ,bs,ow,h,fun i hi=>absurd hi (vaF _)⟩
 exact⟨Γ',bs',ow',h'⟩
def UN:Code->Code
 |.rangeFunc _ _ a _=>a
 |_=>.skip
def UO:Code->Code
 |.rangeFunc _ _ _ b=>b
 |_=>.skip
theorem jz{w:World}{b:Nat}{o:Obj}(h:w.heap[b]? =some o):b<w.heap.size:=(vad.1 h).1
end Go.Proofs.YtkdahfeiedaahaaGreatDoor
