/- PROVED: a part of the proof. Conditions: none. -/
import Derived.Test.YtkdahfeiedaahaaGreatDoorPkD8
import Derived.Test.YtkdahfeiedaahaaGreatDoorChecked
import Derived.Test.YtkdahfeiedaahaaGreatDoorProg
import Derived.Ground.SlgfProg
import Derived.Ground.SlgnProg
import Derived.Shelf.Lays
import Derived.Shelf.LaysM
import Derived.Shelf.SlGeneric
import Derived.Shelf.SlLaysE
import Derived.Shelf.SlLaysE0
import Derived.Shelf.SlLaysH
import Derived.Test.YtkdahfeiedaahaaGreatDoorPkD7
import Derived.Shelf.Strconv.Itoa3
import Derived.RangeFuncRecord
import Derived.RangeFuncSeq
noncomputable section
namespace Go.Proofs.YtkdahfeiedaahaaGreatDoor
open Go Go.Proofs.Tryz
set_option linter.unusedVariables false
set_option maxRecDepth 100000
noncomputable abbrev Pg:=Tryz.prog
theorem mixed:Pg.follows .mixedOrders=true:=by kernel_rfl
inductive am where
 |mk (Op:Int) (Name:ae) (N:Int) (Kids:(List am))
def am.Op:am->Int
 |⟨x,_,_,_⟩=>x
def am.Name:am->ae
 |⟨_,x,_,_⟩=>x
def am.N:am->Int
 |⟨_,_,x,_⟩=>x
def am.Kids:am->(List am)
 |⟨_,_,_,x⟩=>x
mutual
def al:am->List PVal
 |⟨x0,x1,x2,x3⟩=>[.int .i64 x0,.str x1,.int .i64 x2,.slice (xU x3)]
def xU:List am->List (List PVal)
 |[]=>[]
 |x::r=>al x::xU r
end
theorem Lz:∀(l:List am),xU l=l.map al
 |[]=>by simp[xU]
 |x::r=>by simp[xU,Lz r]
mutual
theorem aQ:∀(x:am),jl 0 (al x)
 |⟨x0,x1,x2,x3⟩=>by rw[al];exact(aI trivial (aI trivial (aI trivial (aI (Nw x3) trivial))))
theorem Nw:∀(l:List am),xh 0 (xU l)
 |[]=>by simp[xU,xh]
 |x::r=>by rw[xU];exact⟨aQ x,Nw r⟩
end
theorem cx:∀(x:am),al x=[.int .i64 x.Op,.str x.Name,.int .i64 x.N,sl al x.Kids]
 |⟨x0,x1,x2,x3⟩=>by
  simp only[al,Lz]
  rfl
abbrev Py(x:am):PVal:=.agg (al x)
theorem HW(x:am):(al x).length=4:=by rw[cx];rfl
theorem GO(x:am):ct (.agg (al x))=some (al x):=rfl
theorem NT(x:am):ct (Py x)=some (al x):=rfl
theorem Dx(x:am):ct (.agg (al x))=some [.int .i64 x.Op,.str x.Name,.int .i64 x.N,sl al x.Kids]:=by rw[cx];rfl
theorem TG(x:am):∀q∈al x,q.one=true:=by
 intro q hq
 rw[cx]at hq
 simp only[vay,vbf,or_false]at hq
 rcases hq with rfl|rfl|rfl|rfl<;>rfl
theorem Wm:Pg.cellsOf 58=4:=by kernel_rfl
theorem qH(x:am):bo Pg 58 (al x)=some (.agg (al x)):=by
 have:=oe (P:=Pg) (t:=58) (l:=al x) (r:=[]) (by kernel_rfl) (Wm.trans (HW x).symm)
 rwa[va9]at this
theorem za(x:am)(r:List PVal):bo Pg 58 ([.int .i64 x.Op,.str x.Name,.int .i64 x.N,sl al x.Kids]++r)=some (.agg (al x)):=by
 rw[<-cx];exact oe (by kernel_rfl) (Wm.trans (HW x).symm)
theorem TZ(x:am):PVal.agg [.int .i64 x.Op,.str x.Name,.int .i64 x.N,sl al x.Kids]=.agg (al x):=by rw[cx]
theorem tt(x:am):aR Pg 58 (.eptr (al x)) 0=some (.eptr ((al x).drop 0)):=by rw[cx];kernel_rfl
theorem oF(x:am):aR Pg 58 (.eptr (al x)) 1=some (.eptr ((al x).drop 1)):=by rw[cx];kernel_rfl
theorem tu(x:am):aR Pg 58 (.eptr (al x)) 2=some (.eptr ((al x).drop 2)):=by rw[cx];kernel_rfl
theorem gG(x:am):aR Pg 58 (.eptr (al x)) 3=some (.eptr ((al x).drop 3)):=by rw[cx];kernel_rfl
theorem tw(x:am):bo Pg 55 ((al x).drop 0)=some (.int .i64 x.Op):=by rw[cx];kernel_rfl
theorem qG(x:am):bo Pg 9 ((al x).drop 1)=some (.str x.Name):=by rw[cx];kernel_rfl
theorem vC(x:am):bo Pg 3 ((al x).drop 2)=some (.int .i64 x.N):=by rw[cx];kernel_rfl
theorem gI(x:am):bo Pg 56 ((al x).drop 3)=some (sl al x.Kids):=by rw[cx];kernel_rfl
inductive ai where
 |mk (Op:Int) (Name:ae) (Args:(List ai)) (Names:(List ae)) (Pred:am) (Preds:(List am))
def ai.Op:ai->Int
 |⟨x,_,_,_,_,_⟩=>x
def ai.Name:ai->ae
 |⟨_,x,_,_,_,_⟩=>x
def ai.Args:ai->(List ai)
 |⟨_,_,x,_,_,_⟩=>x
def ai.Names:ai->(List ae)
 |⟨_,_,_,x,_,_⟩=>x
def ai.Pred:ai->am
 |⟨_,_,_,_,x,_⟩=>x
def ai.Preds:ai->(List am)
 |⟨_,_,_,_,_,x⟩=>x
mutual
def ah:ai->List PVal
 |⟨x0,x1,x2,x3,x4,x5⟩=>[.int .i64 x0,.str x1,.slice (xV x2),sl cS x3]++(al x4++([sl al x5]))
def xV:List ai->List (List PVal)
 |[]=>[]
 |x::r=>ah x::xV r
end
theorem LA:∀(l:List ai),xV l=l.map ah
 |[]=>by simp[xV]
 |x::r=>by simp[xV,LA r]
mutual
theorem aF:∀(x:ai),jl 0 (ah x)
 |⟨x0,x1,x2,x3,x4,x5⟩=>by rw[ah];exact E4.2 (aI ((aI trivial (aI trivial (aI (Nx x2) (aI (aj bz x3) trivial))))) (E4.2 (aI (aQ x4) ((aI (aj aQ x5) trivial)))))
theorem Nx:∀(l:List ai),xh 0 (xV l)
 |[]=>by simp[xV,xh]
 |x::r=>by rw[xV];exact⟨aF x,Nx r⟩
end
theorem cJ:∀(x:ai),ah x=[.int .i64 x.Op,.str x.Name,sl ah x.Args,sl cS x.Names,.int .i64 x.Pred.Op,.str x.Pred.Name,.int .i64 x.Pred.N,sl al x.Pred.Kids,sl al x.Preds]
 |⟨x0,x1,x2,x3,x4,x5⟩=>by
  simp only[ah,LA,cx,vaF,vaL]
  rfl
abbrev Pz(x:ai):PVal:=.agg (ah x)
theorem HX(x:ai):(ah x).length=9:=by rw[cJ];rfl
theorem qL(x:ai):ct (.agg (ah x))=some (ah x):=rfl
theorem NU(x:ai):ct (Pz x)=some (ah x):=rfl
theorem sH(x:ai):ct (.agg (ah x))=some [.int .i64 x.Op,.str x.Name,sl ah x.Args,sl cS x.Names,.int .i64 x.Pred.Op,.str x.Pred.Name,.int .i64 x.Pred.N,sl al x.Pred.Kids,sl al x.Preds]:=by rw[cJ];rfl
theorem TH(x:ai):∀q∈ah x,q.one=true:=by
 intro q hq
 rw[cJ]at hq
 simp only[vay,vbf,or_false]at hq
 rcases hq with rfl|rfl|rfl|rfl|rfl|rfl|rfl|rfl|rfl<;>rfl
theorem Wn:Pg.cellsOf 60=9:=by kernel_rfl
theorem lC(x:ai):bo Pg 60 (ah x)=some (.agg (ah x)):=by
 have:=oe (P:=Pg) (t:=60) (l:=ah x) (r:=[]) (by kernel_rfl) (Wn.trans (HX x).symm)
 rwa[va9]at this
theorem kz(x:ai)(r:List PVal):bo Pg 60 ([.int .i64 x.Op,.str x.Name,sl ah x.Args,sl cS x.Names,.int .i64 x.Pred.Op,.str x.Pred.Name,.int .i64 x.Pred.N,sl al x.Pred.Kids,sl al x.Preds]++r)=some (.agg (ah x)):=by
 rw[<-cJ];exact oe (by kernel_rfl) (Wn.trans (HX x).symm)
theorem T4(x:ai):PVal.agg [.int .i64 x.Op,.str x.Name,sl ah x.Args,sl cS x.Names,.int .i64 x.Pred.Op,.str x.Pred.Name,.int .i64 x.Pred.N,sl al x.Pred.Kids,sl al x.Preds]=.agg (ah x):=by rw[cJ]
theorem Rm:dG Pg 60 []=some (.agg (ah (⟨0,([]:ae),([]:List ai),([]:List ae),(⟨0,([]:ae),0,([]:List am)⟩:am),([]:List am)⟩:ai))):=by
 simp only[cJ]
 kernel_rfl
theorem Rl:Fp Pg 60 [] [(2,60),(3,9),(7,58),(8,58)]:=by
 exact⟨[.int .i64 0,.str ([]:ae),.val jW,.val jW,.int .i64 0,.str ([]:ae),.int .i64 0,.val jW,.val jW],by kernel_rfl,(aI rfl (aI rfl (aI rfl (aI rfl trivial))))⟩
theorem db(x:ai):aR Pg 60 (.eptr (ah x)) 0=some (.eptr ((ah x).drop 0)):=by rw[cJ];kernel_rfl
theorem gH(x:ai):aR Pg 60 (.eptr (ah x)) 1=some (.eptr ((ah x).drop 1)):=by rw[cJ];kernel_rfl
theorem dA(x:ai):aR Pg 60 (.eptr (ah x)) 2=some (.eptr ((ah x).drop 2)):=by rw[cJ];kernel_rfl
theorem e9(x:ai):aR Pg 60 (.eptr (ah x)) 3=some (.eptr ((ah x).drop 3)):=by rw[cJ];kernel_rfl
theorem oG(x:ai):aR Pg 60 (.eptr (ah x)) 4=some (.eptr ((ah x).drop 4)):=by rw[cJ];kernel_rfl
theorem iO(x:ai):aR Pg 60 (.eptr (ah x)) 5=some (.eptr ((ah x).drop 8)):=by rw[cJ];kernel_rfl
theorem dc(x:ai):bo Pg 54 ((ah x).drop 0)=some (.int .i64 x.Op):=by rw[cJ];kernel_rfl
theorem iK(x:ai):bo Pg 9 ((ah x).drop 1)=some (.str x.Name):=by rw[cJ];kernel_rfl
theorem dB(x:ai):bo Pg 26 ((ah x).drop 2)=some (sl ah x.Args):=by rw[cJ];kernel_rfl
theorem fb(x:ai):bo Pg 38 ((ah x).drop 3)=some (sl cS x.Names):=by rw[cJ];kernel_rfl
theorem oH(x:ai):bo Pg 58 ((ah x).drop 4)=some (.agg (al x.Pred)):=by
 rw[cJ,cx];kernel_rfl
theorem iQ(x:ai):bo Pg 56 ((ah x).drop 8)=some (sl al x.Preds):=by rw[cJ];kernel_rfl
structure aw where
 Name:ae
 Type_:ai
def au(x:aw):List PVal:=[.str x.Name]++(ah x.Type_)
theorem iW(x:aw):au x=[.str x.Name,.int .i64 x.Type_.Op,.str x.Type_.Name,sl ah x.Type_.Args,sl cS x.Type_.Names,.int .i64 x.Type_.Pred.Op,.str x.Type_.Pred.Name,.int .i64 x.Type_.Pred.N,sl al x.Type_.Pred.Kids,sl al x.Type_.Preds]:=by
 unfold au
 simp only[cJ,vaF,vaL]
theorem aZ(x:aw):jl 0 (au x):=by rw[iW];exact(aI trivial (aI trivial (aI trivial (aI (aj aF x.Type_.Args) (aI (aj bz x.Type_.Names) (aI trivial (aI trivial (aI trivial (aI (aj aQ x.Type_.Pred.Kids) (aI (aj aQ x.Type_.Preds) trivial))))))))))
abbrev Da(x:aw):PVal:=.agg (au x)
theorem Fc(x:aw):(au x).length=10:=by rw[iW];rfl
theorem AA(x:aw):ct (Da x)=some (au x):=rfl
theorem nb(x:aw):ct (.agg (au x))=some [.str x.Name,.int .i64 x.Type_.Op,.str x.Type_.Name,sl ah x.Type_.Args,sl cS x.Type_.Names,.int .i64 x.Type_.Pred.Op,.str x.Type_.Pred.Name,.int .i64 x.Type_.Pred.N,sl al x.Type_.Pred.Kids,sl al x.Type_.Preds]:=by rw[iW];rfl
theorem RQ(x:aw):∀q∈au x,q.one=true:=by
 intro q hq
 rw[iW]at hq
 simp only[vay,vbf,or_false]at hq
 rcases hq with rfl|rfl|rfl|rfl|rfl|rfl|rfl|rfl|rfl|rfl<;>rfl
theorem Wp:Pg.cellsOf 85=10:=by kernel_rfl
theorem Dr(x:aw):bo Pg 85 (au x)=some (.agg (au x)):=by
 have:=oe (P:=Pg) (t:=85) (l:=au x) (r:=[]) (by kernel_rfl) (Wp.trans (Fc x).symm)
 rwa[va9]at this
theorem LF(x:aw)(r:List PVal):bo Pg 85 ([.str x.Name,.int .i64 x.Type_.Op,.str x.Type_.Name,sl ah x.Type_.Args,sl cS x.Type_.Names,.int .i64 x.Type_.Pred.Op,.str x.Type_.Pred.Name,.int .i64 x.Type_.Pred.N,sl al x.Type_.Pred.Kids,sl al x.Type_.Preds]++r)=some (.agg (au x)):=by
 rw[<-iW];exact oe (by kernel_rfl) (Wp.trans (Fc x).symm)
theorem Ma(x:aw):PVal.agg [.str x.Name,.int .i64 x.Type_.Op,.str x.Type_.Name,sl ah x.Type_.Args,sl cS x.Type_.Names,.int .i64 x.Type_.Pred.Op,.str x.Type_.Pred.Name,.int .i64 x.Type_.Pred.N,sl al x.Type_.Pred.Kids,sl al x.Type_.Preds]=.agg (au x):=by rw[iW]
theorem Eg(x0:ae)(x1:ai):dG Pg 85 [(0,.str x0),(1,.agg (ah x1))]=some (.agg (au (⟨x0,x1⟩:aw))):=by
 simp only[iW,cJ]
 kernel_rfl
theorem IX(x0:ae):dG Pg 85 [(0,.str x0)]=some (.agg (au (⟨x0,(⟨0,([]:ae),([]:List ai),([]:List ae),(⟨0,([]:ae),0,([]:List am)⟩:am),([]:List am)⟩:ai)⟩:aw))):=by
 simp only[iW]
 kernel_rfl
theorem IV(x0:ae):Fp Pg 85 [(0,.str x0)] [(3,60),(4,9),(8,58),(9,58)]:=by
 exact⟨[.str x0,.int .i64 0,.str ([]:ae),.val jW,.val jW,.int .i64 0,.str ([]:ae),.int .i64 0,.val jW,.val jW],by kernel_rfl,(aI rfl (aI rfl (aI rfl (aI rfl trivial))))⟩
theorem qA(x:aw):aR Pg 85 (.eptr (au x)) 0=some (.eptr ((au x).drop 0)):=by rw[iW];kernel_rfl
theorem wD(x:aw):aR Pg 85 (.eptr (au x)) 1=some (.eptr ((au x).drop 1)):=by rw[iW];kernel_rfl
theorem tv(x:aw):bo Pg 9 ((au x).drop 0)=some (.str x.Name):=by rw[iW];kernel_rfl
theorem wG(x:aw):bo Pg 60 ((au x).drop 1)=some (.agg (ah x.Type_)):=by
 rw[iW,cJ];kernel_rfl
mutual
inductive af where
 |mk (Op:Int) (Name:ae) (N:Int) (Kids:(List af)) (Params:(List aw)) (Alts:(List aJ)) (Types:(List ai))
inductive aJ where
 |mk (Con:ae) (Names:(List ae)) (Body:af)
end
def af.Op:af->Int
 |⟨x,_,_,_,_,_,_⟩=>x
def af.Name:af->ae
 |⟨_,x,_,_,_,_,_⟩=>x
def af.N:af->Int
 |⟨_,_,x,_,_,_,_⟩=>x
def af.Kids:af->(List af)
 |⟨_,_,_,x,_,_,_⟩=>x
def af.Params:af->(List aw)
 |⟨_,_,_,_,x,_,_⟩=>x
def af.Alts:af->(List aJ)
 |⟨_,_,_,_,_,x,_⟩=>x
def af.Types:af->(List ai)
 |⟨_,_,_,_,_,_,x⟩=>x
def aJ.Con:aJ->ae
 |⟨x,_,_⟩=>x
def aJ.Names:aJ->(List ae)
 |⟨_,x,_⟩=>x
def aJ.Body:aJ->af
 |⟨_,_,x⟩=>x
mutual
def ac:af->List PVal
 |⟨x0,x1,x2,x3,x4,x5,x6⟩=>[.int .i64 x0,.str x1,.int .i64 x2,.slice (xT x3),sl au x4,.slice (Cm x5),sl ah x6]
def aA:aJ->List PVal
 |⟨x0,x1,x2⟩=>[.str x0,sl cS x1]++(ac x2)
def xT:List af->List (List PVal)
 |[]=>[]
 |x::r=>ac x::xT r
def Cm:List aJ->List (List PVal)
 |[]=>[]
 |x::r=>aA x::Cm r
end
theorem Ly:∀(l:List af),xT l=l.map ac
 |[]=>by simp[xT]
 |x::r=>by simp[xT,Ly r]
theorem NL:∀(l:List aJ),Cm l=l.map aA
 |[]=>by simp[Cm]
 |x::r=>by simp[Cm,NL r]
mutual
theorem az:∀(x:af),jl 0 (ac x)
 |⟨x0,x1,x2,x3,x4,x5,x6⟩=>by rw[ac];exact(aI trivial (aI trivial (aI trivial (aI (Nv x3) (aI (aj aZ x4) (aI (PX x5) (aI (aj aF x6) trivial)))))))
theorem bF:∀(x:aJ),jl 0 (aA x)
 |⟨x0,x1,x2⟩=>by rw[aA];exact E4.2 (aI ((aI trivial (aI (aj bz x1) trivial))) (az x2))
theorem Nv:∀(l:List af),xh 0 (xT l)
 |[]=>by simp[xT,xh]
 |x::r=>by rw[xT];exact⟨az x,Nv r⟩
theorem PX:∀(l:List aJ),xh 0 (Cm l)
 |[]=>by simp[Cm,xh]
 |x::r=>by rw[Cm];exact⟨bF x,PX r⟩
end
theorem bE:∀(x:af),ac x=[.int .i64 x.Op,.str x.Name,.int .i64 x.N,sl ac x.Kids,sl au x.Params,sl aA x.Alts,sl ah x.Types]
 |⟨x0,x1,x2,x3,x4,x5,x6⟩=>by
  simp only[ac,Ly,NL]
  rfl
abbrev pA(x:af):PVal:=.agg (ac x)
theorem HV(x:af):(ac x).length=7:=by rw[bE];rfl
theorem cF(x:af):ct (.agg (ac x))=some (ac x):=rfl
theorem kE(x:af):ct (pA x)=some (ac x):=rfl
theorem kF(x:af):ct (.agg (ac x))=some [.int .i64 x.Op,.str x.Name,.int .i64 x.N,sl ac x.Kids,sl au x.Params,sl aA x.Alts,sl ah x.Types]:=by rw[bE];rfl
theorem TF(x:af):∀q∈ac x,q.one=true:=by
 intro q hq
 rw[bE]at hq
 simp only[vay,vbf,or_false]at hq
 rcases hq with rfl|rfl|rfl|rfl|rfl|rfl|rfl<;>rfl
theorem Wl:Pg.cellsOf 28=7:=by kernel_rfl
theorem Wq:Pg.cellsOf 89=9:=by kernel_rfl
theorem bM(x:af):bo Pg 28 (ac x)=some (.agg (ac x)):=by
 have:=oe (P:=Pg) (t:=28) (l:=ac x) (r:=[]) (by kernel_rfl) (Wl.trans (HV x).symm)
 rwa[va9]at this
theorem bW(x:af)(r:List PVal):bo Pg 28 ([.int .i64 x.Op,.str x.Name,.int .i64 x.N,sl ac x.Kids,sl au x.Params,sl aA x.Alts,sl ah x.Types]++r)=some (.agg (ac x)):=by
 rw[<-bE];exact oe (by kernel_rfl) (Wl.trans (HV x).symm)
theorem sK(x:af):PVal.agg [.int .i64 x.Op,.str x.Name,.int .i64 x.N,sl ac x.Kids,sl au x.Params,sl aA x.Alts,sl ah x.Types]=.agg (ac x):=by rw[bE]
theorem Gh(x0:Int)(x1:ae):dG Pg 28 [(0,.int .i64 x0),(1,.str x1)]=some (.agg (ac (⟨x0,x1,0,([]:List af),([]:List aw),([]:List aJ),([]:List ai)⟩:af))):=by
 simp only[bE]
 kernel_rfl
theorem Gc(x0:Int)(x1:ae):Fp Pg 28 [(0,.int .i64 x0),(1,.str x1)] [(3,28),(4,85),(5,89),(6,60)]:=by
 exact⟨[.int .i64 x0,.str x1,.int .i64 0,.val jW,.val jW,.val jW,.val jW],by kernel_rfl,(aI rfl (aI rfl (aI rfl (aI rfl trivial))))⟩
theorem Cc(x0:Int)(x1:ae)(x3:(List af)):dG Pg 28 [(0,.int .i64 x0),(1,.str x1),(3,sl ac x3)]=some (.agg (ac (⟨x0,x1,0,x3,([]:List aw),([]:List aJ),([]:List ai)⟩:af))):=by
 simp only[bE]
 kernel_rfl
theorem Ca(x0:Int)(x1:ae)(x3:(List af)):Fp Pg 28 [(0,.int .i64 x0),(1,.str x1),(3,sl ac x3)] [(4,85),(5,89),(6,60)]:=by
 exact⟨[.int .i64 x0,.str x1,.int .i64 0,sl ac x3,.val jW,.val jW,.val jW],by kernel_rfl,(aI rfl (aI rfl (aI rfl trivial)))⟩
theorem OB(x0:Int)(x2:Int):dG Pg 28 [(0,.int .i64 x0),(2,.int .i64 x2)]=some (.agg (ac (⟨x0,([]:ae),x2,([]:List af),([]:List aw),([]:List aJ),([]:List ai)⟩:af))):=by
 simp only[bE]
 kernel_rfl
theorem Ox(x0:Int)(x2:Int):Fp Pg 28 [(0,.int .i64 x0),(2,.int .i64 x2)] [(3,28),(4,85),(5,89),(6,60)]:=by
 exact⟨[.int .i64 x0,.str ([]:ae),.int .i64 x2,.val jW,.val jW,.val jW,.val jW],by kernel_rfl,(aI rfl (aI rfl (aI rfl (aI rfl trivial))))⟩
theorem OC(x0:Int)(x3:(List af)):dG Pg 28 [(0,.int .i64 x0),(3,sl ac x3)]=some (.agg (ac (⟨x0,([]:ae),0,x3,([]:List aw),([]:List aJ),([]:List ai)⟩:af))):=by
 simp only[bE]
 kernel_rfl
theorem Oy(x0:Int)(x3:(List af)):Fp Pg 28 [(0,.int .i64 x0),(3,sl ac x3)] [(4,85),(5,89),(6,60)]:=by
 exact⟨[.int .i64 x0,.str ([]:ae),.int .i64 0,sl ac x3,.val jW,.val jW,.val jW],by kernel_rfl,(aI rfl (aI rfl (aI rfl trivial)))⟩
theorem Cd(x0:Int)(x4:(List aw))(x3:(List af)):dG Pg 28 [(0,.int .i64 x0),(4,sl au x4),(3,sl ac x3)]=some (.agg (ac (⟨x0,([]:ae),0,x3,x4,([]:List aJ),([]:List ai)⟩:af))):=by
 simp only[bE]
 kernel_rfl
theorem Cb(x0:Int)(x4:(List aw))(x3:(List af)):Fp Pg 28 [(0,.int .i64 x0),(4,sl au x4),(3,sl ac x3)] [(5,89),(6,60)]:=by
 exact⟨[.int .i64 x0,.str ([]:ae),.int .i64 0,sl ac x3,sl au x4,.val jW,.val jW],by kernel_rfl,(aI rfl (aI rfl trivial))⟩
theorem cK(x:af):aR Pg 28 (.eptr (ac x)) 0=some (.eptr ((ac x).drop 0)):=by rw[bE];kernel_rfl
theorem da(x:af):aR Pg 28 (.eptr (ac x)) 1=some (.eptr ((ac x).drop 1)):=by rw[bE];kernel_rfl
theorem iN(x:af):aR Pg 28 (.eptr (ac x)) 2=some (.eptr ((ac x).drop 2)):=by rw[bE];kernel_rfl
theorem ba(x:af):aR Pg 28 (.eptr (ac x)) 3=some (.eptr ((ac x).drop 3)):=by rw[bE];kernel_rfl
theorem bH(x:af):aR Pg 28 (.eptr (ac x)) 4=some (.eptr ((ac x).drop 4)):=by rw[bE];kernel_rfl
theorem aG(x:af):aR Pg 28 (.eptr (ac x)) 5=some (.eptr ((ac x).drop 5)):=by rw[bE];kernel_rfl
theorem aM(x:af):aR Pg 28 (.eptr (ac x)) 6=some (.eptr ((ac x).drop 6)):=by rw[bE];kernel_rfl
theorem cM(x:af):bo Pg 22 ((ac x).drop 0)=some (.int .i64 x.Op):=by rw[bE];kernel_rfl
theorem dv(x:af):bo Pg 9 ((ac x).drop 1)=some (.str x.Name):=by rw[bE];kernel_rfl
theorem jU(x:af):bo Pg 3 ((ac x).drop 2)=some (.int .i64 x.N):=by rw[bE];kernel_rfl
theorem be(x:af):bo Pg 23 ((ac x).drop 3)=some (sl ac x.Kids):=by rw[bE];kernel_rfl
theorem bJ(x:af):bo Pg 24 ((ac x).drop 4)=some (sl au x.Params):=by rw[bE];kernel_rfl
theorem aH(x:af):bo Pg 25 ((ac x).drop 5)=some (sl aA x.Alts):=by rw[bE];kernel_rfl
theorem aN(x:af):bo Pg 26 ((ac x).drop 6)=some (sl ah x.Types):=by rw[bE];kernel_rfl
theorem ny:∀(x:aJ),aA x=[.str x.Con,sl cS x.Names,.int .i64 x.Body.Op,.str x.Body.Name,.int .i64 x.Body.N,sl ac x.Body.Kids,sl au x.Body.Params,sl aA x.Body.Alts,sl ah x.Body.Types]
 |⟨x0,x1,x2⟩=>by
  simp only[aA,bE,vaF,vaL]
  rfl
abbrev Sb(x:aJ):PVal:=.agg (aA x)
theorem LC(x:aJ):(aA x).length=9:=by rw[ny];rfl
theorem Ph(x:aJ):ct (.agg (aA x))=some (aA x):=rfl
theorem QD(x:aJ):ct (Sb x)=some (aA x):=rfl
theorem i7(x:aJ):ct (.agg (aA x))=some [.str x.Con,sl cS x.Names,.int .i64 x.Body.Op,.str x.Body.Name,.int .i64 x.Body.N,sl ac x.Body.Kids,sl au x.Body.Params,sl aA x.Body.Alts,sl ah x.Body.Types]:=by rw[ny];rfl
theorem Vh(x:aJ):∀q∈aA x,q.one=true:=by
 intro q hq
 rw[ny]at hq
 simp only[vay,vbf,or_false]at hq
 rcases hq with rfl|rfl|rfl|rfl|rfl|rfl|rfl|rfl|rfl<;>rfl
theorem mA(x:aJ):bo Pg 89 (aA x)=some (.agg (aA x)):=by
 have:=oe (P:=Pg) (t:=89) (l:=aA x) (r:=[]) (by kernel_rfl) (Wq.trans (LC x).symm)
 rwa[va9]at this
theorem Qq(x:aJ)(r:List PVal):bo Pg 89 ([.str x.Con,sl cS x.Names,.int .i64 x.Body.Op,.str x.Body.Name,.int .i64 x.Body.N,sl ac x.Body.Kids,sl au x.Body.Params,sl aA x.Body.Alts,sl ah x.Body.Types]++r)=some (.agg (aA x)):=by
 rw[<-ny];exact oe (by kernel_rfl) (Wq.trans (LC x).symm)
theorem QV(x:aJ):PVal.agg [.str x.Con,sl cS x.Names,.int .i64 x.Body.Op,.str x.Body.Name,.int .i64 x.Body.N,sl ac x.Body.Kids,sl au x.Body.Params,sl aA x.Body.Alts,sl ah x.Body.Types]=.agg (aA x):=by rw[ny]
theorem Ef(x0:ae)(x1:(List ae))(x2:af):dG Pg 89 [(0,.str x0),(1,sl cS x1),(2,.agg (ac x2))]=some (.agg (aA (⟨x0,x1,x2⟩:aJ))):=by
 simp only[ny,bE]
 kernel_rfl
theorem Aq(x:aJ):aR Pg 89 (.eptr (aA x)) 0=some (.eptr ((aA x).drop 0)):=by rw[ny];kernel_rfl
theorem qy(x:aJ):aR Pg 89 (.eptr (aA x)) 1=some (.eptr ((aA x).drop 1)):=by rw[ny];kernel_rfl
theorem qz(x:aJ):aR Pg 89 (.eptr (aA x)) 2=some (.eptr ((aA x).drop 2)):=by rw[ny];kernel_rfl
theorem Cn(x:aJ):bo Pg 9 ((aA x).drop 0)=some (.str x.Con):=by rw[ny];kernel_rfl
theorem qE(x:aJ):bo Pg 38 ((aA x).drop 1)=some (sl cS x.Names):=by rw[ny];kernel_rfl
theorem qF(x:aJ):bo Pg 28 ((aA x).drop 2)=some (.agg (ac x.Body)):=by
 rw[ny,bE];kernel_rfl
structure ag where
 old:ae
 new:ae
deriving DecidableEq
def aa(x:ag):List PVal:=[.str x.old,.str x.new]
theorem wC(x:ag):aa x=[.str x.old,.str x.new]:=rfl
theorem av(x:ag):jl 0 (aa x):=(aI trivial (aI trivial trivial))
abbrev oT(x:ag):PVal:=.agg (aa x)
theorem AV(x:ag):(aa x).length=2:=by rw[wC];rfl
theorem pn(x:ag):ct (oT x)=some (aa x):=rfl
theorem J5(x:ag):ct (.agg (aa x))=some [.str x.old,.str x.new]:=by rw[wC];rfl
theorem J4(x:ag):∀q∈aa x,q.one=true:=by
 intro q hq
 rw[wC]at hq
 simp only[vay,vbf,or_false]at hq
 rcases hq with rfl|rfl<;>rfl
theorem UF:Pg.cellsOf 137=2:=by kernel_rfl
theorem LE(x:ag):bo Pg 137 (aa x)=some (.agg (aa x)):=by
 have:=oe (P:=Pg) (t:=137) (l:=aa x) (r:=[]) (by kernel_rfl) (UF.trans (AV x).symm)
 rwa[va9]at this
theorem lj(x0:ae)(x1:ae):dG Pg 137 [(0,.str x0),(1,.str x1)]=some (.agg (aa (⟨x0,x1⟩:ag))):=by
 kernel_rfl
structure ax where
 n:Bool
 name:Bool
 least:Int
 most:Int
 params:Bool
 alts:Bool
 typesLeast:Int
 typesMost:Int
 types:Bool
deriving DecidableEq
def aD(x:ax):List PVal:=[.bool x.n,.bool x.name,.int .i64 x.least,.int .i64 x.most,.bool x.params,.bool x.alts,.int .i64 x.typesLeast,.int .i64 x.typesMost,.bool x.types]
theorem oY(x:ax):aD x=[.bool x.n,.bool x.name,.int .i64 x.least,.int .i64 x.most,.bool x.params,.bool x.alts,.int .i64 x.typesLeast,.int .i64 x.typesMost,.bool x.types]:=rfl
theorem bK(x:ax):jl 0 (aD x):=(aI trivial (aI trivial (aI trivial (aI trivial (aI trivial (aI trivial (aI trivial (aI trivial (aI trivial trivial)))))))))
theorem HU(x:ax):(aD x).length=9:=by rw[oY];rfl
theorem A6(x:ax):ct (.agg (aD x))=some (aD x):=rfl
theorem cy(x:ax):ct (.agg (aD x))=some [.bool x.n,.bool x.name,.int .i64 x.least,.int .i64 x.most,.bool x.params,.bool x.alts,.int .i64 x.typesLeast,.int .i64 x.typesMost,.bool x.types]:=by rw[oY];rfl
theorem Y1:Pg.cellsOf 147=9:=by kernel_rfl
theorem y8(x:ax)(r:List PVal):bo Pg 147 ([.bool x.n,.bool x.name,.int .i64 x.least,.int .i64 x.most,.bool x.params,.bool x.alts,.int .i64 x.typesLeast,.int .i64 x.typesMost,.bool x.types]++r)=some (.agg (aD x)):=by
 rw[<-oY];exact oe (by kernel_rfl) (Y1.trans (HU x).symm)
theorem cO(x:ax):PVal.agg [.bool x.n,.bool x.name,.int .i64 x.least,.int .i64 x.most,.bool x.params,.bool x.alts,.int .i64 x.typesLeast,.int .i64 x.typesMost,.bool x.types]=.agg (aD x):=by rw[oY]
theorem Gg:dG Pg 147 []=some (.agg (aD (⟨false,false,0,0,false,false,0,0,false⟩:ax))):=by
 kernel_rfl
theorem Ge(x0:Bool):dG Pg 147 [(0,.bool x0)]=some (.agg (aD (⟨x0,false,0,0,false,false,0,0,false⟩:ax))):=by
 kernel_rfl
theorem Br(x1:Bool)(x2:Int)(x3:Int):dG Pg 147 [(1,.bool x1),(2,.int .i64 x2),(3,.int .i64 x3)]=some (.agg (aD (⟨false,x1,x2,x3,false,false,0,0,false⟩:ax))):=by
 kernel_rfl
theorem nT(x1:Bool)(x2:Int)(x3:Int)(x8:Bool)(x7:Int):dG Pg 147 [(1,.bool x1),(2,.int .i64 x2),(3,.int .i64 x3),(8,.bool x8),(7,.int .i64 x7)]=some (.agg (aD (⟨false,x1,x2,x3,false,false,0,x7,x8⟩:ax))):=by
 kernel_rfl
theorem yX(x1:Bool)(x3:Int)(x8:Bool)(x7:Int):dG Pg 147 [(1,.bool x1),(3,.int .i64 x3),(8,.bool x8),(7,.int .i64 x7)]=some (.agg (aD (⟨false,x1,0,x3,false,false,0,x7,x8⟩:ax))):=by
 kernel_rfl
theorem Gf(x1:Bool):dG Pg 147 [(1,.bool x1)]=some (.agg (aD (⟨false,x1,0,0,false,false,0,0,false⟩:ax))):=by
 kernel_rfl
theorem n9(x2:Int)(x3:Int):dG Pg 147 [(2,.int .i64 x2),(3,.int .i64 x3)]=some (.agg (aD (⟨false,false,x2,x3,false,false,0,0,false⟩:ax))):=by
 kernel_rfl
theorem xg(x2:Int)(x3:Int)(x8:Bool)(x6:Int)(x7:Int):dG Pg 147 [(2,.int .i64 x2),(3,.int .i64 x3),(8,.bool x8),(6,.int .i64 x6),(7,.int .i64 x7)]=some (.agg (aD (⟨false,false,x2,x3,false,false,x6,x7,x8⟩:ax))):=by
 kernel_rfl
theorem Bt(x4:Bool)(x2:Int)(x3:Int):dG Pg 147 [(4,.bool x4),(2,.int .i64 x2),(3,.int .i64 x3)]=some (.agg (aD (⟨false,false,x2,x3,x4,false,0,0,false⟩:ax))):=by
 kernel_rfl
theorem Bu(x5:Bool)(x2:Int)(x3:Int):dG Pg 147 [(5,.bool x5),(2,.int .i64 x2),(3,.int .i64 x3)]=some (.agg (aD (⟨false,false,x2,x3,false,x5,0,0,false⟩:ax))):=by
 kernel_rfl
theorem Bv(x:ax):aR Pg 147 (.eptr (aD x)) 1=some (.eptr ((aD x).drop 1)):=by kernel_rfl
theorem Bw(x:ax):aR Pg 147 (.eptr (aD x)) 2=some (.eptr ((aD x).drop 2)):=by kernel_rfl
theorem Bx(x:ax):aR Pg 147 (.eptr (aD x)) 3=some (.eptr ((aD x).drop 3)):=by kernel_rfl
theorem By(x:ax):aR Pg 147 (.eptr (aD x)) 4=some (.eptr ((aD x).drop 4)):=by kernel_rfl
theorem rR(x:ax):aR Pg 147 (.eptr (aD x)) 5=some (.eptr ((aD x).drop 5)):=by kernel_rfl
theorem Bz(x:ax):aR Pg 147 (.eptr (aD x)) 6=some (.eptr ((aD x).drop 6)):=by kernel_rfl
theorem BA(x:ax):aR Pg 147 (.eptr (aD x)) 7=some (.eptr ((aD x).drop 7)):=by kernel_rfl
theorem DK(x:ax):bo Pg 4 ((aD x).drop 1)=some (.bool x.name):=by kernel_rfl
theorem DL(x:ax):bo Pg 3 ((aD x).drop 2)=some (.int .i64 x.least):=by kernel_rfl
theorem DM(x:ax):bo Pg 3 ((aD x).drop 3)=some (.int .i64 x.most):=by kernel_rfl
theorem DN(x:ax):bo Pg 4 ((aD x).drop 4)=some (.bool x.params):=by kernel_rfl
theorem uI(x:ax):bo Pg 4 ((aD x).drop 5)=some (.bool x.alts):=by kernel_rfl
theorem DO(x:ax):bo Pg 3 ((aD x).drop 6)=some (.int .i64 x.typesLeast):=by kernel_rfl
theorem DP(x:ax):bo Pg 3 ((aD x).drop 7)=some (.int .i64 x.typesMost):=by kernel_rfl
structure R9 where
 Name:ae
 Sort_:ae
deriving DecidableEq
def Al(x:R9):List PVal:=[.str x.Name,.str x.Sort_]
theorem Wu(x:R9):Al x=[.str x.Name,.str x.Sort_]:=rfl
theorem OG(x:R9):jl 0 (Al x):=(aI trivial (aI trivial trivial))
structure R8 where
 Name:ae
 Names:(List ae)
 Fields:(List ai)
def Ak(x:R8):List PVal:=[.str x.Name,sl cS x.Names,sl ah x.Fields]
theorem OL(x:R8):Ak x=[.str x.Name,sl cS x.Names,sl ah x.Fields]:=rfl
theorem Sn(x:R8):jl 0 (Ak x):=(aI trivial (aI (aj bz x.Names) (aI (aj aF x.Fields) trivial)))
theorem U2(x:R8):(Ak x).length=3:=by rw[OL];rfl
theorem Vi(x:R8):∀q∈Ak x,q.one=true:=by
 intro q hq
 rw[OL]at hq
 simp only[vay,vbf,or_false]at hq
 rcases hq with rfl|rfl|rfl<;>rfl
theorem W6:Pg.cellsOf 121=3:=by kernel_rfl
structure Hl where
 Name:ae
 Vars:(List ae)
 Preds:(List R9)
 Cons:(List R8)
def nu(x:Hl):List PVal:=[.str x.Name,sl cS x.Vars,sl Al x.Preds,sl Ak x.Cons]
theorem Lo(x:Hl):nu x=[.str x.Name,sl cS x.Vars,sl Al x.Preds,sl Ak x.Cons]:=rfl
theorem PV(x:Hl):jl 0 (nu x):=(aI trivial (aI (aj bz x.Vars) (aI (aj OG x.Preds) (aI (aj Sn x.Cons) trivial))))
theorem Tx(x:Hl):(nu x).length=4:=by rw[Lo];rfl
theorem TE(x:Hl):∀q∈nu x,q.one=true:=by
 intro q hq
 rw[Lo]at hq
 simp only[vay,vbf,or_false]at hq
 rcases hq with rfl|rfl|rfl|rfl<;>rfl
theorem Y7:Pg.cellsOf 70=4:=by kernel_rfl
theorem M2(x:Hl):aR Pg 70 (.eptr (nu x)) 3=some (.eptr ((nu x).drop 3)):=by kernel_rfl
theorem M5(x:Hl):bo Pg 68 ((nu x).drop 3)=some (sl Ak x.Cons):=by kernel_rfl
structure Hm where
 Name:ae
 Type_:ai
def vP(x:Hm):List PVal:=[.str x.Name]++(ah x.Type_)
theorem Lp(x:Hm):vP x=[.str x.Name,.int .i64 x.Type_.Op,.str x.Type_.Name,sl ah x.Type_.Args,sl cS x.Type_.Names,.int .i64 x.Type_.Pred.Op,.str x.Type_.Pred.Name,.int .i64 x.Type_.Pred.N,sl al x.Type_.Pred.Kids,sl al x.Type_.Preds]:=by
 unfold vP
 simp only[cJ,vaF,vaL]
theorem Rq(x:Hm):jl 0 (vP x):=by rw[Lp];exact(aI trivial (aI trivial (aI trivial (aI (aj aF x.Type_.Args) (aI (aj bz x.Type_.Names) (aI trivial (aI trivial (aI trivial (aI (aj aQ x.Type_.Pred.Kids) (aI (aj aQ x.Type_.Preds) trivial))))))))))
structure Mn where
 Name:ae
 Var:ae
 Methods:(List Hm)
def Cf(x:Mn):List PVal:=[.str x.Name,.str x.Var,sl vP x.Methods]
theorem Tg(x:Mn):Cf x=[.str x.Name,.str x.Var,sl vP x.Methods]:=rfl
theorem Tb(x:Mn):jl 0 (Cf x):=(aI trivial (aI trivial (aI (aj Rq x.Methods) trivial)))
structure cr where
 Class:ae
 Var:ae
deriving DecidableEq
def cW(x:cr):List PVal:=[.str x.Class,.str x.Var]
theorem UH(x:cr):cW x=[.str x.Class,.str x.Var]:=rfl
theorem wA(x:cr):jl 0 (cW x):=(aI trivial (aI trivial trivial))
structure eP where
 Name:ae
 Sort_:ae
deriving DecidableEq
def eQ(x:eP):List PVal:=[.str x.Name,.str x.Sort_]
theorem Wt(x:eP):eQ x=[.str x.Name,.str x.Sort_]:=rfl
theorem Do(x:eP):jl 0 (eQ x):=(aI trivial (aI trivial trivial))
structure bC where
 Name:ae
 Vars:(List R9)
 Hyp:am
 Goal:am
def cw(x:bC):List PVal:=[.str x.Name,sl Al x.Vars]++(al x.Hyp++(al x.Goal))
theorem NE(x:bC):cw x=[.str x.Name,sl Al x.Vars,.int .i64 x.Hyp.Op,.str x.Hyp.Name,.int .i64 x.Hyp.N,sl al x.Hyp.Kids,.int .i64 x.Goal.Op,.str x.Goal.Name,.int .i64 x.Goal.N,sl al x.Goal.Kids]:=by
 unfold cw
 simp only[cx,vaF,vaL]
theorem vR(x:bC):jl 0 (cw x):=by rw[NE];exact(aI trivial (aI (aj OG x.Vars) (aI trivial (aI trivial (aI trivial (aI (aj aQ x.Hyp.Kids) (aI trivial (aI trivial (aI trivial (aI (aj aQ x.Goal.Kids) trivial))))))))))
structure AP where
 Vars:(List ae)
 Needs:(List cr)
 Abs:(List eP)
 Bounds:(List bC)
 Type_:ai
 Metric:(List am)
def OD(x:AP):List PVal:=[sl cS x.Vars,sl cW x.Needs,sl eQ x.Abs,sl cw x.Bounds]++(ah x.Type_++([sl al x.Metric]))
theorem OM(x:AP):OD x=[sl cS x.Vars,sl cW x.Needs,sl eQ x.Abs,sl cw x.Bounds,.int .i64 x.Type_.Op,.str x.Type_.Name,sl ah x.Type_.Args,sl cS x.Type_.Names,.int .i64 x.Type_.Pred.Op,.str x.Type_.Pred.Name,.int .i64 x.Type_.Pred.N,sl al x.Type_.Pred.Kids,sl al x.Type_.Preds,sl al x.Metric]:=by
 unfold OD
 simp only[cJ,vaF,vaL]
structure cp where
 Name:ae
 Params:(List ae)
 Body:af
 Mode:Int
 Typed:Bool
 Sig:AP
def aX(x:cp):List PVal:=[.str x.Name,sl cS x.Params]++(ac x.Body++([.int .i64 x.Mode,.bool x.Typed]++(OD x.Sig)))
theorem jn(x:cp):aX x=[.str x.Name,sl cS x.Params,.int .i64 x.Body.Op,.str x.Body.Name,.int .i64 x.Body.N,sl ac x.Body.Kids,sl au x.Body.Params,sl aA x.Body.Alts,sl ah x.Body.Types,.int .i64 x.Mode,.bool x.Typed,sl cS x.Sig.Vars,sl cW x.Sig.Needs,sl eQ x.Sig.Abs,sl cw x.Sig.Bounds,.int .i64 x.Sig.Type_.Op,.str x.Sig.Type_.Name,sl ah x.Sig.Type_.Args,sl cS x.Sig.Type_.Names,.int .i64 x.Sig.Type_.Pred.Op,.str x.Sig.Type_.Pred.Name,.int .i64 x.Sig.Type_.Pred.N,sl al x.Sig.Type_.Pred.Kids,sl al x.Sig.Type_.Preds,sl al x.Sig.Metric]:=by
 unfold aX
 simp only[bE,OM,vaF,vaL]
theorem jm(x:cp):jl 0 (aX x):=by rw[jn];exact(aI trivial (aI (aj bz x.Params) (aI trivial (aI trivial (aI trivial (aI (aj az x.Body.Kids) (aI (aj aZ x.Body.Params) (aI (aj bF x.Body.Alts) (aI (aj aF x.Body.Types) (aI trivial (aI trivial (aI (aj bz x.Sig.Vars) (aI (aj wA x.Sig.Needs) (aI (aj Do x.Sig.Abs) (aI (aj vR x.Sig.Bounds) (aI trivial (aI trivial (aI (aj aF x.Sig.Type_.Args) (aI (aj bz x.Sig.Type_.Names) (aI trivial (aI trivial (aI trivial (aI (aj aQ x.Sig.Type_.Pred.Kids) (aI (aj aQ x.Sig.Type_.Preds) (aI (aj aQ x.Sig.Metric) trivial)))))))))))))))))))))))))
abbrev Ms(x:cp):PVal:=.agg (aX x)
theorem LD(x:cp):(aX x).length=25:=by rw[jn];rfl
theorem WN(x:cp):ct (.agg (aX x))=some (aX x):=rfl
theorem GN(x:cp):ct (Ms x)=some (aX x):=rfl
theorem tQ(x:cp):ct (.agg (aX x))=some [.str x.Name,sl cS x.Params,.int .i64 x.Body.Op,.str x.Body.Name,.int .i64 x.Body.N,sl ac x.Body.Kids,sl au x.Body.Params,sl aA x.Body.Alts,sl ah x.Body.Types,.int .i64 x.Mode,.bool x.Typed,sl cS x.Sig.Vars,sl cW x.Sig.Needs,sl eQ x.Sig.Abs,sl cw x.Sig.Bounds,.int .i64 x.Sig.Type_.Op,.str x.Sig.Type_.Name,sl ah x.Sig.Type_.Args,sl cS x.Sig.Type_.Names,.int .i64 x.Sig.Type_.Pred.Op,.str x.Sig.Type_.Pred.Name,.int .i64 x.Sig.Type_.Pred.N,sl al x.Sig.Type_.Pred.Kids,sl al x.Sig.Type_.Preds,sl al x.Sig.Metric]:=by rw[jn];rfl
theorem Vj(x:cp):∀q∈aX x,q.one=true:=by
 intro q hq
 rw[jn]at hq
 simp only[vay,vbf,or_false]at hq
 rcases hq with rfl|rfl|rfl|rfl|rfl|rfl|rfl|rfl|rfl|rfl|rfl|rfl|rfl|rfl|rfl|rfl|rfl|rfl|rfl|rfl|rfl|rfl|rfl|rfl|rfl<;>rfl
theorem Wo:Pg.cellsOf 64=25:=by kernel_rfl
theorem O5(x:cp):bo Pg 64 (aX x)=some (.agg (aX x)):=by
 have:=oe (P:=Pg) (t:=64) (l:=aX x) (r:=[]) (by kernel_rfl) (Wo.trans (LD x).symm)
 rwa[va9]at this
theorem Qr(x:cp)(r:List PVal):bo Pg 64 ([.str x.Name,sl cS x.Params,.int .i64 x.Body.Op,.str x.Body.Name,.int .i64 x.Body.N,sl ac x.Body.Kids,sl au x.Body.Params,sl aA x.Body.Alts,sl ah x.Body.Types,.int .i64 x.Mode,.bool x.Typed,sl cS x.Sig.Vars,sl cW x.Sig.Needs,sl eQ x.Sig.Abs,sl cw x.Sig.Bounds,.int .i64 x.Sig.Type_.Op,.str x.Sig.Type_.Name,sl ah x.Sig.Type_.Args,sl cS x.Sig.Type_.Names,.int .i64 x.Sig.Type_.Pred.Op,.str x.Sig.Type_.Pred.Name,.int .i64 x.Sig.Type_.Pred.N,sl al x.Sig.Type_.Pred.Kids,sl al x.Sig.Type_.Preds,sl al x.Sig.Metric]++r)=some (.agg (aX x)):=by
 rw[<-jn];exact oe (by kernel_rfl) (Wo.trans (LD x).symm)
theorem GY(x:cp):PVal.agg [.str x.Name,sl cS x.Params,.int .i64 x.Body.Op,.str x.Body.Name,.int .i64 x.Body.N,sl ac x.Body.Kids,sl au x.Body.Params,sl aA x.Body.Alts,sl ah x.Body.Types,.int .i64 x.Mode,.bool x.Typed,sl cS x.Sig.Vars,sl cW x.Sig.Needs,sl eQ x.Sig.Abs,sl cw x.Sig.Bounds,.int .i64 x.Sig.Type_.Op,.str x.Sig.Type_.Name,sl ah x.Sig.Type_.Args,sl cS x.Sig.Type_.Names,.int .i64 x.Sig.Type_.Pred.Op,.str x.Sig.Type_.Pred.Name,.int .i64 x.Sig.Type_.Pred.N,sl al x.Sig.Type_.Pred.Kids,sl al x.Sig.Type_.Preds,sl al x.Sig.Metric]=.agg (aX x):=by rw[jn]
theorem Nt:dG Pg 64 []=some (.agg (aX (⟨([]:ae),([]:List ae),(⟨0,([]:ae),0,([]:List af),([]:List aw),([]:List aJ),([]:List ai)⟩:af),0,false,(⟨([]:List ae),([]:List cr),([]:List eP),([]:List bC),(⟨0,([]:ae),([]:List ai),([]:List ae),(⟨0,([]:ae),0,([]:List am)⟩:am),([]:List am)⟩:ai),([]:List am)⟩:AP)⟩:cp))):=by
 simp only[jn]
 kernel_rfl
theorem Ns:Fp Pg 64 [] [(1,9),(5,28),(6,85),(7,89),(8,60),(11,9),(12,250),(13,252),(14,254),(17,60),(18,9),(22,58),(23,58),(24,58)]:=by
 exact⟨[.str ([]:ae),.val jW,.int .i64 0,.str ([]:ae),.int .i64 0,.val jW,.val jW,.val jW,.val jW,.int .i64 0,.bool false,.val jW,.val jW,.val jW,.val jW,.int .i64 0,.str ([]:ae),.val jW,.val jW,.int .i64 0,.str ([]:ae),.int .i64 0,.val jW,.val jW,.val jW],by kernel_rfl,(aI rfl (aI rfl (aI rfl (aI rfl (aI rfl (aI rfl (aI rfl (aI rfl (aI rfl (aI rfl (aI rfl (aI rfl (aI rfl (aI rfl trivial))))))))))))))⟩
theorem ON(x:cp):aR Pg 64 (.eptr (aX x)) 0=some (.eptr ((aX x).drop 0)):=by rw[jn];kernel_rfl
theorem Ar(x:cp):aR Pg 64 (.eptr (aX x)) 1=some (.eptr ((aX x).drop 1)):=by rw[jn];kernel_rfl
theorem As(x:cp):aR Pg 64 (.eptr (aX x)) 2=some (.eptr ((aX x).drop 2)):=by rw[jn];kernel_rfl
theorem OO(x:cp):aR Pg 64 (.eptr (aX x)) 3=some (.eptr ((aX x).drop 9)):=by rw[jn];kernel_rfl
theorem Qo(x:cp):bo Pg 9 ((aX x).drop 0)=some (.str x.Name):=by rw[jn];kernel_rfl
theorem Aw(x:cp):bo Pg 38 ((aX x).drop 1)=some (sl cS x.Params):=by rw[jn];kernel_rfl
theorem Ax(x:cp):bo Pg 28 ((aX x).drop 2)=some (.agg (ac x.Body)):=by
 rw[jn,bE];kernel_rfl
theorem O4(x:cp):bo Pg 50 ((aX x).drop 9)=some (.int .i64 x.Mode):=by rw[jn];kernel_rfl
structure iy where
 Class:ae
 Type_:ai
 Needs:(List cr)
 Defs:(List cp)
def cC(x:iy):List PVal:=[.str x.Class]++(ah x.Type_++([sl cW x.Needs,sl aX x.Defs]))
theorem ll(x:iy):cC x=[.str x.Class,.int .i64 x.Type_.Op,.str x.Type_.Name,sl ah x.Type_.Args,sl cS x.Type_.Names,.int .i64 x.Type_.Pred.Op,.str x.Type_.Pred.Name,.int .i64 x.Type_.Pred.N,sl al x.Type_.Pred.Kids,sl al x.Type_.Preds,sl cW x.Needs,sl aX x.Defs]:=by
 unfold cC
 simp only[cJ,vaF,vaL]
theorem Am(x:iy):jl 0 (cC x):=by rw[ll];exact(aI trivial (aI trivial (aI trivial (aI (aj aF x.Type_.Args) (aI (aj bz x.Type_.Names) (aI trivial (aI trivial (aI trivial (aI (aj aQ x.Type_.Pred.Kids) (aI (aj aQ x.Type_.Preds) (aI (aj wA x.Needs) (aI (aj jm x.Defs) trivial))))))))))))
theorem El(x:iy):(cC x).length=12:=by rw[ll];rfl
theorem M9(x:iy):ct (.agg (cC x))=some [.str x.Class,.int .i64 x.Type_.Op,.str x.Type_.Name,sl ah x.Type_.Args,sl cS x.Type_.Names,.int .i64 x.Type_.Pred.Op,.str x.Type_.Pred.Name,.int .i64 x.Type_.Pred.N,sl al x.Type_.Pred.Kids,sl al x.Type_.Preds,sl cW x.Needs,sl aX x.Defs]:=by rw[ll];rfl
theorem M7(x:iy):∀q∈cC x,q.one=true:=by
 intro q hq
 rw[ll]at hq
 simp only[vay,vbf,or_false]at hq
 rcases hq with rfl|rfl|rfl|rfl|rfl|rfl|rfl|rfl|rfl|rfl|rfl|rfl<;>rfl
theorem UE:Pg.cellsOf 119=12:=by kernel_rfl
theorem O6(x:iy):bo Pg 119 (cC x)=some (.agg (cC x)):=by
 have:=oe (P:=Pg) (t:=119) (l:=cC x) (r:=[]) (by kernel_rfl) (UE.trans (El x).symm)
 rwa[va9]at this
theorem pD(x:iy):aR Pg 119 (.eptr (cC x)) 3=some (.eptr ((cC x).drop 11)):=by rw[ll];kernel_rfl
theorem pG(x:iy):bo Pg 46 ((cC x).drop 11)=some (sl aX x.Defs):=by rw[ll];kernel_rfl
structure Q4 where
 Con:ae
 Names:(List ae)
 Body:am
def Dm(x:Q4):List PVal:=[.str x.Con,sl cS x.Names]++(al x.Body)
theorem P2(x:Q4):Dm x=[.str x.Con,sl cS x.Names,.int .i64 x.Body.Op,.str x.Body.Name,.int .i64 x.Body.N,sl al x.Body.Kids]:=by
 unfold Dm
 simp only[cx,vaF,vaL]
theorem UC(x:Q4):jl 0 (Dm x):=by rw[P2];exact(aI trivial (aI (aj bz x.Names) (aI trivial (aI trivial (aI trivial (aI (aj aQ x.Body.Kids) trivial))))))
structure C5 where
 Name:ae
 Data:ae
 Result:ae
 Cases:(List Q4)
 Inv:am
def sA(x:C5):List PVal:=[.str x.Name,.str x.Data,.str x.Result,sl Dm x.Cases]++(al x.Inv)
theorem I4(x:C5):sA x=[.str x.Name,.str x.Data,.str x.Result,sl Dm x.Cases,.int .i64 x.Inv.Op,.str x.Inv.Name,.int .i64 x.Inv.N,sl al x.Inv.Kids]:=by
 unfold sA
 simp only[cx,vaF,vaL]
theorem PW(x:C5):jl 0 (sA x):=by rw[I4];exact(aI trivial (aI trivial (aI trivial (aI (aj UC x.Cases) (aI trivial (aI trivial (aI trivial (aI (aj aQ x.Inv.Kids) trivial))))))))
structure Q5 where
 Name:ae
 Vars:(List R9)
 Body:am
def Dn(x:Q5):List PVal:=[.str x.Name,sl Al x.Vars]++(al x.Body)
theorem P3(x:Q5):Dn x=[.str x.Name,sl Al x.Vars,.int .i64 x.Body.Op,.str x.Body.Name,.int .i64 x.Body.N,sl al x.Body.Kids]:=by
 unfold Dn
 simp only[cx,vaF,vaL]
theorem UD(x:Q5):jl 0 (Dn x):=by rw[P3];exact(aI trivial (aI (aj OG x.Vars) (aI trivial (aI trivial (aI trivial (aI (aj aQ x.Body.Kids) trivial))))))
structure aE where
 Datas:(List Hl)
 Classes:(List Mn)
 Instances:(List iy)
 Measures:(List C5)
 Quals:(List Q5)
 Defs:(List cp)
def ay(x:aE):List PVal:=[sl nu x.Datas,sl Cf x.Classes,sl cC x.Instances,sl sA x.Measures,sl Dn x.Quals,sl aX x.Defs]
theorem E8(x:aE):ay x=[sl nu x.Datas,sl Cf x.Classes,sl cC x.Instances,sl sA x.Measures,sl Dn x.Quals,sl aX x.Defs]:=rfl
theorem bp(x:aE):jl 0 (ay x):=(aI (aj PV x.Datas) (aI (aj Tb x.Classes) (aI (aj Am x.Instances) (aI (aj PW x.Measures) (aI (aj UD x.Quals) (aI (aj jm x.Defs) trivial))))))
theorem Qn(x:aE):(ay x).length=6:=by rw[E8];rfl
theorem gr(x:aE):ct (.agg (ay x))=some (ay x):=rfl
theorem qa7:Pg.cellsOf 48=6:=by kernel_rfl
theorem eo(x:aE):bo Pg 48 (ay x)=some (.agg (ay x)):=by
 have:=oe (P:=Pg) (t:=48) (l:=ay x) (r:=[]) (by kernel_rfl) (qa7.trans (Qn x).symm)
 rwa[va9]at this
theorem ue(x:aE):aR Pg 48 (.eptr (ay x)) 0=some (.eptr ((ay x).drop 0)):=by kernel_rfl
theorem iA(x:aE):aR Pg 48 (.eptr (ay x)) 2=some (.eptr ((ay x).drop 2)):=by kernel_rfl
theorem dO(x:aE):aR Pg 48 (.eptr (ay x)) 5=some (.eptr ((ay x).drop 5)):=by kernel_rfl
theorem uf(x:aE):bo Pg 41 ((ay x).drop 0)=some (sl nu x.Datas):=by kernel_rfl
theorem iB(x:aE):bo Pg 43 ((ay x).drop 2)=some (sl cC x.Instances):=by kernel_rfl
theorem dP(x:aE):bo Pg 46 ((ay x).drop 5)=some (sl aX x.Defs):=by kernel_rfl
theorem fQ:JV Pg 23 28 ac:=⟨underlying23,fun x=>(HV x).trans Wl.symm,by kernel_rfl,by rw[Wl];decide,by kernel_rfl,va3 (by kernel_rfl),TF,az⟩
theorem lH:JV Pg 24 85 au:=⟨underlying24,fun x=>(Fc x).trans Wp.symm,by kernel_rfl,by rw[Wp];decide,by kernel_rfl,va3 (by kernel_rfl),RQ,aZ⟩
theorem eZ:JV Pg 25 89 aA:=⟨underlying25,fun x=>(LC x).trans Wq.symm,by kernel_rfl,by rw[Wq];decide,by kernel_rfl,va3 (by kernel_rfl),Vh,bF⟩
theorem ee:JV Pg 26 60 ah:=⟨underlying26,fun x=>(HX x).trans Wn.symm,by kernel_rfl,by rw[Wn];decide,by kernel_rfl,va3 (by kernel_rfl),TH,aF⟩
theorem ZV:Pg.cellsOf 9=1:=by kernel_rfl
theorem bN:JV Pg 38 9 cS:=⟨underlying38,fun _=>ZV.symm,by kernel_rfl,by rw[ZV];decide,by kernel_rfl,va3 (by kernel_rfl),qbl,bz⟩
theorem X6:JV Pg 41 70 nu:=⟨underlying41,fun x=>(Tx x).trans Y7.symm,by kernel_rfl,by rw[Y7];decide,by kernel_rfl,va3 (by kernel_rfl),TE,PV⟩
theorem QX:JV Pg 43 119 cC:=⟨underlying43,fun x=>(El x).trans UE.symm,by kernel_rfl,by rw[UE];decide,by kernel_rfl,va3 (by kernel_rfl),M7,Am⟩
theorem rF:JV Pg 46 64 aX:=⟨underlying46,fun x=>(LD x).trans Wo.symm,by kernel_rfl,by rw[Wo];decide,by kernel_rfl,va3 (by kernel_rfl),Vj,jm⟩
theorem oh:JV Pg 56 58 al:=⟨underlying56,fun x=>(HW x).trans Wm.symm,by kernel_rfl,by rw[Wm];decide,by kernel_rfl,va3 (by kernel_rfl),TG,aQ⟩
theorem qbr:JV Pg 68 121 Ak:=⟨underlying68,fun x=>(U2 x).trans W6.symm,by kernel_rfl,by rw[W6];decide,by kernel_rfl,va3 (by kernel_rfl),Vi,Sn⟩
theorem Mc:JV Pg 92 137 aa:=⟨underlying92,fun x=>(AV x).trans UF.symm,by kernel_rfl,by rw[UF];decide,by kernel_rfl,va3 (by kernel_rfl),J4,av⟩
theorem qbE:Pg.cellsOf 5=1:=by kernel_rfl
theorem Z1:(Pg.underlying 4).any QZ=true:=by kernel_rfl
theorem AF:(Pg.underlying 9).any QZ=true:=by kernel_rfl
theorem J7:(Pg.underlying 92).any QZ=true:=by kernel_rfl
theorem Z2:Ip Pg 4=some (PVal.bool false):=by kernel_rfl
theorem qbM:fM Pg 3=some [.int .i64 0]:=by kernel_rfl
theorem qbN:fM Pg 4=some [.bool false]:=by kernel_rfl
theorem AD:fM Pg 28=some [.int .i64 0,.str ([]:ae),.int .i64 0,sl ac ([]:List af),sl au ([]:List aw),sl aA ([]:List aJ),sl ah ([]:List ai)]:=by kernel_rfl
theorem qbo:fM Pg 35=some [.int .i64 0]:=by kernel_rfl
theorem Zw:fM Pg 38=some [sl cS ([]:List ae)]:=by kernel_rfl
theorem WU:fM Pg 58=some [.int .i64 0,.str ([]:ae),.int .i64 0,sl al ([]:List am)]:=by kernel_rfl
theorem R2:fM Pg 60=some [.int .i64 0,.str ([]:ae),sl ah ([]:List ai),sl cS ([]:List ae),.int .i64 0,.str ([]:ae),.int .i64 0,sl al ([]:List am),sl al ([]:List am)]:=by kernel_rfl
theorem Pr:fM Pg 64=some [.str ([]:ae),sl cS ([]:List ae),.int .i64 0,.str ([]:ae),.int .i64 0,sl ac ([]:List af),sl au ([]:List aw),sl aA ([]:List aJ),sl ah ([]:List ai),.int .i64 0,.bool false,sl cS ([]:List ae),sl cW ([]:List cr),sl eQ ([]:List eP),sl cw ([]:List bC),.int .i64 0,.str ([]:ae),sl ah ([]:List ai),sl cS ([]:List ae),.int .i64 0,.str ([]:ae),.int .i64 0,sl al ([]:List am),sl al ([]:List am),sl al ([]:List am)]:=by kernel_rfl
theorem TU:fM Pg 85=some [.str ([]:ae),.int .i64 0,.str ([]:ae),sl ah ([]:List ai),sl cS ([]:List ae),.int .i64 0,.str ([]:ae),.int .i64 0,sl al ([]:List am),sl al ([]:List am)]:=by kernel_rfl
theorem Io:fM Pg 89=some [.str ([]:ae),sl cS ([]:List ae),.int .i64 0,.str ([]:ae),.int .i64 0,sl ac ([]:List af),sl au ([]:List aw),sl aA ([]:List aJ),sl ah ([]:List ai)]:=by kernel_rfl
theorem Zx:fM Pg 91=some [.val .nilFunc]:=by kernel_rfl
theorem Zy:fM Pg 92=some [sl aa ([]:List ag)]:=by kernel_rfl
theorem Zz:fM Pg 95=some [.val .nilFunc,.val .nilFunc]:=by kernel_rfl
theorem Xb:fM Pg 109=some [.val (.pointer none)]:=by kernel_rfl
theorem Zt:fM Pg 112=some [.val .nilFunc]:=by kernel_rfl
theorem Zu:fM Pg 119=some [.str ([]:ae),.int .i64 0,.str ([]:ae),sl ah ([]:List ai),sl cS ([]:List ae),.int .i64 0,.str ([]:ae),.int .i64 0,sl al ([]:List am),sl al ([]:List am),sl cW ([]:List cr),sl aX ([]:List cp)]:=by kernel_rfl
theorem Zv:fM Pg 122=some [.val .nilFunc]:=by kernel_rfl
theorem Xc:fM Pg 147=some [.bool false,.bool false,.int .i64 0,.int .i64 0,.bool false,.bool false,.int .i64 0,.int .i64 0,.bool false]:=by kernel_rfl
def lB:List Int:=[1,10,100,1000,10000,100000,1000000,10000000,100000000,1000000000,10000000000,100000000000,1000000000000,10000000000000,100000000000000,1000000000000000,10000000000000000,100000000000000000,1000000000000000000,10000000000000000000]
theorem Y3:Pg.cellsOf 216=20:=by kernel_rfl
theorem Y2:Pg.cellsOf 201=1:=by kernel_rfl
def i6:List ae:=[([97,110,100]:ae),([97,115,115,117,109,101]:ae),([98,111,111,108]:ae),([98,111,117,110,100]:ae),([99,97,115,101]:ae),([99,101,108,108]:ae),([99,108,97,115,115]:ae),([100,97,116,97]:ae),([100,101,102]:ae),([100,105,118]:ae),([101,108,115,101]:ae),([101,110,100]:ae),([102,97,108,115,101]:ae),([102,111,114,97,108,108]:ae),([102,117,110]:ae),([103,101,116]:ae),([105,102]:ae),([105,110]:ae),([105,110,115,116]:ae),([105,110,116]:ae),([105,110,118,97,114,105,97,110,116]:ae),([108,101,116]:ae),([109,97,116,99,104]:ae),([109,101,97,115,117,114,101]:ae),([109,101,116,114,105,99]:ae),([109,111,100]:ae),([109,117]:ae),([110,101,119]:ae),([110,111,116]:ae),([111,102]:ae),([111,114]:ae),([113,117,97,108]:ae),([114,101,102,108,101,99,116]:ae),([115,101,116]:ae),([116,104,101,110]:ae),([116,114,117,101]:ae),([117,115,101]:ae),([118]:ae),([118,97,108]:ae),([116,97,103]:ae),([119,104,101,114,101]:ae),([119,105,116,104]:ae)]
theorem Y4:Pg.cellsOf 218=42:=by kernel_rfl
theorem xY:bo Pg 218 (i6.map PVal.str)=some (.agg (i6.map PVal.str)):=by kernel_rfl
theorem GF{k:IntKind}{i:Int}{x:ae}(h:eT i6 i=some x):AB Pg 218 (.agg (i6.map PVal.str)) (.int k i)=some (PVal.str x):=YJ underlying218 ZV (by kernel_rfl) (by kernel_rfl) (by kernel_rfl) h
def zc:List Int:=[0,1,28,2,29,14,24,3,30,22,20,15,25,17,4,8,31,27,13,23,21,19,16,7,26,12,18,6,11,5,10,9]
theorem Y5:Pg.cellsOf 223=32:=by kernel_rfl
def zd:List Int:=[0,1,56,2,57,49,28,3,61,58,42,50,38,29,17,4,62,47,59,36,45,43,51,22,53,39,33,30,24,18,12,5,63,55,48,27,60,41,37,16,46,35,44,21,52,32,23,11,54,26,40,15,34,20,31,10,25,14,19,9,13,8,7,6]
theorem Y6:Pg.cellsOf 224=64:=by kernel_rfl
def GE:List (Nat×List PVal):=[(0,lB.map (PVal.int .u64)),(1,i6.map PVal.str),(2,zc.map (PVal.int .u8)),(3,zd.map (PVal.int .u8))]
theorem bv(A:List Nat){m:Nat}{c:Code}{sc:List It}{F:Prop}{e0:Exit}{st0 st:aB}(h:PS sc F)(he:F=xO Pg GE A m c sc st (FN e0 st0)):aW Pg GE m c (EX e0 st0) st:=qN mixed h he
theorem wJ(A:List Nat){m:Nat}{c:Code}{sc:List It}{F:Prop}{σ X:Type}{S:σ->aB}{ex:X->Exit}{so:X->aB}{s:σ}{st:aB}(h:PS sc F)(he:F=xO Pg GE A m c sc st (FN .normal (S s))):aW Pg GE m c (LQ S ex so (.inl s)) st:=Zk mixed h he
theorem hU(A:List Nat){m:Nat}{c:Code}{sc:List It}{F:Prop}{σ X:Type}{S:σ->aB}{ex:X->Exit}{so:X->aB}{x:X}{st:aB}(hn:ex x≠.normal)(h:PS sc F)(he:F=xO Pg GE A m c sc st (FN (ex x) (so x))):aW Pg GE m c (LQ S ex so (.inr x)) st:=Zq mixed hn h he
theorem ZW(A:List Nat){f:FuncId}{fn:Func}{c:Code}{args:List PVal}{r:PVal}{ro:List (Nat×TypeId)}(hcall:∀vs w,(callFunc f vs).run Pg w=.ok (.enter f vs) w)(hfn:Pg.funcs[f]? =some fn)(hb:fn.body=some c)(hcl:jl 0 args){sc:List It}{F:Prop}(h:PS sc F)(he:F=xO Pg GE A 0 c sc ⟨args++List.replicate (fn.ntmps - args.length) .undef,[],[]⟩ (FR Pg fn.results.toList r ro)):CC Pg GE f args r ro:=C.evp mixed hcall hfn hb hcl h he
theorem ZL{P:Program}{GE:List (Nat×List PVal)}{m:Nat}{σ X:Type}{S:σ->aB}{ex:X->Exit}{so:X->aB}{body:σ->Option (σ⊕X)}{c:Code}{s:σ}{x:X}(h:loop body s=some x)(hb:∀s y,body s=some y->aW P GE m c (LQ S ex so y) (S s)){st s1:aB}{e:Exit}(h1:st=S s:=by rfl)(h2:e=ex x:=by rfl)(h3:s1=so x:=by rfl):aW P GE m (.loop c) (EX e s1) st:=by
 subst h1 h2 h3
 exact aW.loop h hb
def ZF(A:List Nat)(f:FuncId)(fn:Func)(c:Code):Prop:=(∀vs w,(callFunc f vs).run Pg w=.ok (.enter f vs) w)/\Pg.funcs[f]? =some fn/\fn.body=some c
theorem ZF.v{A:List Nat}{f:FuncId}{fn:Func}{c:Code}{args:List PVal}{r:PVal}{ro:List (Nat×TypeId)}(g:ZF A f fn c)(hcl:jl 0 args){sc:List It}{F:Prop}(h:PS sc F)(he:F=xO Pg GE A 0 c sc ⟨args++List.replicate (fn.ntmps - args.length) .undef,[],[]⟩ (FR Pg fn.results.toList r ro)):CC Pg GE f args r ro:=ZW A g.1 g.2.1 g.2.2 hcl h he
theorem ZF.g{A:List Nat}{m:Nat}{f:FuncId}{fn:Func}{c:Code}{args:List PVal}{oa:List ((Nat×Nat)×TypeId)}{H:List aC}{r:PVal}{ro:List (Nat×TypeId)}{H':List aC}(g:ZF A f fn c)(hm:decide (m % 1000=H.length)&&decide (m≠0)&&decide (H'.length=H.length)=true){sc:List It}{F:Prop}(h:PS sc F)(he:F=xO Pg GE A m c sc ⟨args++List.replicate (fn.ntmps - args.length) .undef,H,oa⟩ (W3 Pg fn.results.toList r ro H')):C Pg GE f args oa H r ro H':=C.evGp mixed hm g.1 g.2.1 g.2.2 h he
def Zm:Exit->Bool
 |.normal=>true
 |_=>false
theorem Zn{e:Exit}(h:Zm e=false):e≠.normal:=by
 intro he
 subst he
 cases h
abbrev waA:=List ae
abbrev waB:=List am
abbrev waC:=List ai
abbrev waD:=List aJ
abbrev waE:=List aw
abbrev waF:=List af
abbrev waG:=List cr
abbrev waH:=List eP
abbrev waI:=List bC
abbrev waJ:=List cp
theorem tM:∀n,(∀l,Sh Pg n 58 l->∃x,l=al x):=by
 intro n
 induction n using Nat.strongRecOn with
 | ind n ih =>
  cases n with
  |zero=>exact fun l h=>h.elim
  | succ n =>
   exact fun l h=>by
    unfold Sh at h
    rw[underlying58]at h
    obtain⟨a0,b0,rfl,_,h0,a1,b1,rfl,_,h1,a2,b2,rfl,_,h2,a3,b3,rfl,_,h3,rfl⟩:=h
    obtain⟨x0,rfl⟩:=(Tl underlying55) n _ h0
    obtain⟨x1,rfl⟩:=(od underlying9) n _ h1
    obtain⟨x2,rfl⟩:=(Tl underlying3) n _ h2
    obtain⟨x3,rfl⟩:=Qf underlying56 (c:=al) (fun m hm=>(ih m (by omega))) _ h3
    exact⟨(⟨x0,x1,x2,x3⟩:am),by rw[cx];rfl⟩
theorem y6:∀n,(∀l,Sh Pg n 60 l->∃x,l=ah x):=by
 intro n
 induction n using Nat.strongRecOn with
 | ind n ih =>
  cases n with
  |zero=>exact fun l h=>h.elim
  | succ n =>
   exact fun l h=>by
    unfold Sh at h
    rw[underlying60]at h
    obtain⟨a0,b0,rfl,_,h0,a1,b1,rfl,_,h1,a2,b2,rfl,_,h2,a3,b3,rfl,_,h3,a4,b4,rfl,_,h4,a5,b5,rfl,_,h5,rfl⟩:=h
    obtain⟨x0,rfl⟩:=(Tl underlying54) n _ h0
    obtain⟨x1,rfl⟩:=(od underlying9) n _ h1
    obtain⟨x2,rfl⟩:=Qf underlying26 (c:=ah) (fun m hm=>(ih m (by omega))) _ h2
    obtain⟨x3,rfl⟩:=(qB underlying38 (od underlying9)) n _ h3
    obtain⟨x4,rfl⟩:=tM n _ h4
    obtain⟨x5,rfl⟩:=(qB underlying56 tM) n _ h5
    exact⟨(⟨x0,x1,x2,x3,x4,x5⟩:ai),by rw[cJ];(try simp only[cx]);rfl⟩
theorem Tp:∀n,(∀l,Sh Pg n 85 l->∃x,l=au x):=by
 intro n
 induction n using Nat.strongRecOn with
 | ind n ih =>
  cases n with
  |zero=>exact fun l h=>h.elim
  | succ n =>
   exact fun l h=>by
    unfold Sh at h
    rw[underlying85]at h
    obtain⟨a0,b0,rfl,_,h0,a1,b1,rfl,_,h1,rfl⟩:=h
    obtain⟨x0,rfl⟩:=(od underlying9) n _ h0
    obtain⟨x1,rfl⟩:=y6 n _ h1
    exact⟨(⟨x0,x1⟩:aw),by rw[iW];(try simp only[cJ]);(try simp only[cx]);rfl⟩
theorem OX:∀n,(∀l,Sh Pg n 28 l->∃x,l=ac x)/\(∀l,Sh Pg n 89 l->∃x,l=aA x):=by
 intro n
 induction n using Nat.strongRecOn with
 | ind n ih =>
  cases n with
  |zero=>exact⟨fun l h=>h.elim,fun l h=>h.elim⟩
  | succ n =>
   exact⟨(fun l h=>by
    unfold Sh at h
    rw[underlying28]at h
    obtain⟨a0,b0,rfl,_,h0,a1,b1,rfl,_,h1,a2,b2,rfl,_,h2,a3,b3,rfl,_,h3,a4,b4,rfl,_,h4,a5,b5,rfl,_,h5,a6,b6,rfl,_,h6,rfl⟩:=h
    obtain⟨x0,rfl⟩:=(Tl underlying22) n _ h0
    obtain⟨x1,rfl⟩:=(od underlying9) n _ h1
    obtain⟨x2,rfl⟩:=(Tl underlying3) n _ h2
    obtain⟨x3,rfl⟩:=Qf underlying23 (c:=ac) (fun m hm=>(ih m (by omega)).1) _ h3
    obtain⟨x4,rfl⟩:=(qB underlying24 Tp) n _ h4
    obtain⟨x5,rfl⟩:=Qf underlying25 (c:=aA) (fun m hm=>(ih m (by omega)).2) _ h5
    obtain⟨x6,rfl⟩:=(qB underlying26 y6) n _ h6
    exact⟨(⟨x0,x1,x2,x3,x4,x5,x6⟩:af),by rw[bE];rfl⟩),(fun l h=>by
    unfold Sh at h
    rw[underlying89]at h
    obtain⟨a0,b0,rfl,_,h0,a1,b1,rfl,_,h1,a2,b2,rfl,_,h2,rfl⟩:=h
    obtain⟨x0,rfl⟩:=(od underlying9) n _ h0
    obtain⟨x1,rfl⟩:=(qB underlying38 (od underlying9)) n _ h1
    obtain⟨x2,rfl⟩:=(ih n (vb1 n)).1 _ h2
    exact⟨(⟨x0,x1,x2⟩:aJ),by rw[ny];(try simp only[bE]);rfl⟩)⟩
theorem US:In Pg 28 ac:=fun n=>(OX n).1
theorem OZ:∀n,(∀l,Sh Pg n 255 l->∃x,l=Al x):=by
 intro n
 induction n using Nat.strongRecOn with
 | ind n ih =>
  cases n with
  |zero=>exact fun l h=>h.elim
  | succ n =>
   exact fun l h=>by
    unfold Sh at h
    rw[underlying255]at h
    obtain⟨a0,b0,rfl,_,h0,a1,b1,rfl,_,h1,rfl⟩:=h
    obtain⟨x0,rfl⟩:=(od underlying9) n _ h0
    obtain⟨x1,rfl⟩:=(od underlying243) n _ h1
    exact⟨(⟨x0,x1⟩:R9),by rw[Wu];rfl⟩
theorem WB:∀n,(∀l,Sh Pg n 121 l->∃x,l=Ak x):=by
 intro n
 induction n using Nat.strongRecOn with
 | ind n ih =>
  cases n with
  |zero=>exact fun l h=>h.elim
  | succ n =>
   exact fun l h=>by
    unfold Sh at h
    rw[underlying121]at h
    obtain⟨a0,b0,rfl,_,h0,a1,b1,rfl,_,h1,a2,b2,rfl,_,h2,rfl⟩:=h
    obtain⟨x0,rfl⟩:=(od underlying9) n _ h0
    obtain⟨x1,rfl⟩:=(qB underlying38 (od underlying9)) n _ h1
    obtain⟨x2,rfl⟩:=(qB underlying26 y6) n _ h2
    exact⟨(⟨x0,x1,x2⟩:R8),by rw[OL];rfl⟩
theorem UR:∀n,(∀l,Sh Pg n 70 l->∃x,l=nu x):=by
 intro n
 induction n using Nat.strongRecOn with
 | ind n ih =>
  cases n with
  |zero=>exact fun l h=>h.elim
  | succ n =>
   exact fun l h=>by
    unfold Sh at h
    rw[underlying70]at h
    obtain⟨a0,b0,rfl,_,h0,a1,b1,rfl,_,h1,a2,b2,rfl,_,h2,a3,b3,rfl,_,h3,rfl⟩:=h
    obtain⟨x0,rfl⟩:=(od underlying9) n _ h0
    obtain⟨x1,rfl⟩:=(qB underlying38 (od underlying9)) n _ h1
    obtain⟨x2,rfl⟩:=(qB underlying67 OZ) n _ h2
    obtain⟨x3,rfl⟩:=(qB underlying68 WB) n _ h3
    exact⟨(⟨x0,x1,x2,x3⟩:Hl),by rw[Lo];rfl⟩
theorem RF:∀n,(∀l,Sh Pg n 257 l->∃x,l=vP x):=by
 intro n
 induction n using Nat.strongRecOn with
 | ind n ih =>
  cases n with
  |zero=>exact fun l h=>h.elim
  | succ n =>
   exact fun l h=>by
    unfold Sh at h
    rw[underlying257]at h
    obtain⟨a0,b0,rfl,_,h0,a1,b1,rfl,_,h1,rfl⟩:=h
    obtain⟨x0,rfl⟩:=(od underlying9) n _ h0
    obtain⟨x1,rfl⟩:=y6 n _ h1
    exact⟨(⟨x0,x1⟩:Hm),by rw[Lp];(try simp only[cJ]);(try simp only[cx]);rfl⟩
theorem To:∀n,(∀l,Sh Pg n 242 l->∃x,l=Cf x):=by
 intro n
 induction n using Nat.strongRecOn with
 | ind n ih =>
  cases n with
  |zero=>exact fun l h=>h.elim
  | succ n =>
   exact fun l h=>by
    unfold Sh at h
    rw[underlying242]at h
    obtain⟨a0,b0,rfl,_,h0,a1,b1,rfl,_,h1,a2,b2,rfl,_,h2,rfl⟩:=h
    obtain⟨x0,rfl⟩:=(od underlying9) n _ h0
    obtain⟨x1,rfl⟩:=(od underlying9) n _ h1
    obtain⟨x2,rfl⟩:=(qB underlying240 RF) n _ h2
    exact⟨(⟨x0,x1,x2⟩:Mn),by rw[Tg];rfl⟩
theorem Qh:∀n,(∀l,Sh Pg n 250 l->∃x,l=cW x):=by
 intro n
 induction n using Nat.strongRecOn with
 | ind n ih =>
  cases n with
  |zero=>exact fun l h=>h.elim
  | succ n =>
   exact fun l h=>by
    unfold Sh at h
    rw[underlying250]at h
    obtain⟨a0,b0,rfl,_,h0,a1,b1,rfl,_,h1,rfl⟩:=h
    obtain⟨x0,rfl⟩:=(od underlying9) n _ h0
    obtain⟨x1,rfl⟩:=(od underlying9) n _ h1
    exact⟨(⟨x0,x1⟩:cr),by rw[UH];rfl⟩
theorem WA:∀n,(∀l,Sh Pg n 252 l->∃x,l=eQ x):=by
 intro n
 induction n using Nat.strongRecOn with
 | ind n ih =>
  cases n with
  |zero=>exact fun l h=>h.elim
  | succ n =>
   exact fun l h=>by
    unfold Sh at h
    rw[underlying252]at h
    obtain⟨a0,b0,rfl,_,h0,a1,b1,rfl,_,h1,rfl⟩:=h
    obtain⟨x0,rfl⟩:=(od underlying9) n _ h0
    obtain⟨x1,rfl⟩:=(od underlying243) n _ h1
    exact⟨(⟨x0,x1⟩:eP),by rw[Wt];rfl⟩
theorem Tn:∀n,(∀l,Sh Pg n 254 l->∃x,l=cw x):=by
 intro n
 induction n using Nat.strongRecOn with
 | ind n ih =>
  cases n with
  |zero=>exact fun l h=>h.elim
  | succ n =>
   exact fun l h=>by
    unfold Sh at h
    rw[underlying254]at h
    obtain⟨a0,b0,rfl,_,h0,a1,b1,rfl,_,h1,a2,b2,rfl,_,h2,a3,b3,rfl,_,h3,rfl⟩:=h
    obtain⟨x0,rfl⟩:=(od underlying9) n _ h0
    obtain⟨x1,rfl⟩:=(qB underlying67 OZ) n _ h1
    obtain⟨x2,rfl⟩:=tM n _ h2
    obtain⟨x3,rfl⟩:=tM n _ h3
    exact⟨(⟨x0,x1,x2,x3⟩:bC),by rw[NE];(try simp only[cx]);rfl⟩
theorem WC:∀n,(∀l,Sh Pg n 62 l->∃x,l=OD x):=by
 intro n
 induction n using Nat.strongRecOn with
 | ind n ih =>
  cases n with
  |zero=>exact fun l h=>h.elim
  | succ n =>
   exact fun l h=>by
    unfold Sh at h
    rw[underlying62]at h
    obtain⟨a0,b0,rfl,_,h0,a1,b1,rfl,_,h1,a2,b2,rfl,_,h2,a3,b3,rfl,_,h3,a4,b4,rfl,_,h4,a5,b5,rfl,_,h5,rfl⟩:=h
    obtain⟨x0,rfl⟩:=(qB underlying38 (od underlying9)) n _ h0
    obtain⟨x1,rfl⟩:=(qB underlying51 Qh) n _ h1
    obtain⟨x2,rfl⟩:=(qB underlying52 WA) n _ h2
    obtain⟨x3,rfl⟩:=(qB underlying53 Tn) n _ h3
    obtain⟨x4,rfl⟩:=y6 n _ h4
    obtain⟨x5,rfl⟩:=(qB underlying56 tM) n _ h5
    exact⟨(⟨x0,x1,x2,x3,x4,x5⟩:AP),by rw[OM];(try simp only[cJ]);(try simp only[cx]);rfl⟩
theorem Sv:∀n,(∀l,Sh Pg n 64 l->∃x,l=aX x):=by
 intro n
 induction n using Nat.strongRecOn with
 | ind n ih =>
  cases n with
  |zero=>exact fun l h=>h.elim
  | succ n =>
   exact fun l h=>by
    unfold Sh at h
    rw[underlying64]at h
    obtain⟨a0,b0,rfl,_,h0,a1,b1,rfl,_,h1,a2,b2,rfl,_,h2,a3,b3,rfl,_,h3,a4,b4,rfl,_,h4,a5,b5,rfl,_,h5,rfl⟩:=h
    obtain⟨x0,rfl⟩:=(od underlying9) n _ h0
    obtain⟨x1,rfl⟩:=(qB underlying38 (od underlying9)) n _ h1
    obtain⟨x2,rfl⟩:=US n _ h2
    obtain⟨x3,rfl⟩:=(Tl underlying50) n _ h3
    obtain⟨x4,rfl⟩:=(qbj underlying4) n _ h4
    obtain⟨x5,rfl⟩:=WC n _ h5
    exact⟨(⟨x0,x1,x2,x3,x4,x5⟩:cp),by rw[jn];(try simp only[bE]);(try simp only[OM]);(try simp only[cJ]);(try simp only[cx]);rfl⟩
theorem OY:∀n,(∀l,Sh Pg n 119 l->∃x,l=cC x):=by
 intro n
 induction n using Nat.strongRecOn with
 | ind n ih =>
  cases n with
  |zero=>exact fun l h=>h.elim
  | succ n =>
   exact fun l h=>by
    unfold Sh at h
    rw[underlying119]at h
    obtain⟨a0,b0,rfl,_,h0,a1,b1,rfl,_,h1,a2,b2,rfl,_,h2,a3,b3,rfl,_,h3,rfl⟩:=h
    obtain⟨x0,rfl⟩:=(od underlying9) n _ h0
    obtain⟨x1,rfl⟩:=y6 n _ h1
    obtain⟨x2,rfl⟩:=(qB underlying51 Qh) n _ h2
    obtain⟨x3,rfl⟩:=(qB underlying46 Sv) n _ h3
    exact⟨(⟨x0,x1,x2,x3⟩:iy),by rw[ll];(try simp only[cJ]);(try simp only[cx]);rfl⟩
theorem UQ:∀n,(∀l,Sh Pg n 259 l->∃x,l=Dm x):=by
 intro n
 induction n using Nat.strongRecOn with
 | ind n ih =>
  cases n with
  |zero=>exact fun l h=>h.elim
  | succ n =>
   exact fun l h=>by
    unfold Sh at h
    rw[underlying259]at h
    obtain⟨a0,b0,rfl,_,h0,a1,b1,rfl,_,h1,a2,b2,rfl,_,h2,rfl⟩:=h
    obtain⟨x0,rfl⟩:=(od underlying9) n _ h0
    obtain⟨x1,rfl⟩:=(qB underlying38 (od underlying9)) n _ h1
    obtain⟨x2,rfl⟩:=tM n _ h2
    exact⟨(⟨x0,x1,x2⟩:Q4),by rw[P2];(try simp only[cx]);rfl⟩
theorem Qg:∀n,(∀l,Sh Pg n 246 l->∃x,l=sA x):=by
 intro n
 induction n using Nat.strongRecOn with
 | ind n ih =>
  cases n with
  |zero=>exact fun l h=>h.elim
  | succ n =>
   exact fun l h=>by
    unfold Sh at h
    rw[underlying246]at h
    obtain⟨a0,b0,rfl,_,h0,a1,b1,rfl,_,h1,a2,b2,rfl,_,h2,a3,b3,rfl,_,h3,a4,b4,rfl,_,h4,rfl⟩:=h
    obtain⟨x0,rfl⟩:=(od underlying9) n _ h0
    obtain⟨x1,rfl⟩:=(od underlying9) n _ h1
    obtain⟨x2,rfl⟩:=(od underlying243) n _ h2
    obtain⟨x3,rfl⟩:=(qB underlying244 UQ) n _ h3
    obtain⟨x4,rfl⟩:=tM n _ h4
    exact⟨(⟨x0,x1,x2,x3,x4⟩:C5),by rw[I4];(try simp only[cx]);rfl⟩
theorem UT:∀n,(∀l,Sh Pg n 248 l->∃x,l=Dn x):=by
 intro n
 induction n using Nat.strongRecOn with
 | ind n ih =>
  cases n with
  |zero=>exact fun l h=>h.elim
  | succ n =>
   exact fun l h=>by
    unfold Sh at h
    rw[underlying248]at h
    obtain⟨a0,b0,rfl,_,h0,a1,b1,rfl,_,h1,a2,b2,rfl,_,h2,rfl⟩:=h
    obtain⟨x0,rfl⟩:=(od underlying9) n _ h0
    obtain⟨x1,rfl⟩:=(qB underlying67 OZ) n _ h1
    obtain⟨x2,rfl⟩:=tM n _ h2
    exact⟨(⟨x0,x1,x2⟩:Q5),by rw[P3];(try simp only[cx]);rfl⟩
theorem RG:∀n,(∀l,Sh Pg n 48 l->∃x,l=ay x):=by
 intro n
 induction n using Nat.strongRecOn with
 | ind n ih =>
  cases n with
  |zero=>exact fun l h=>h.elim
  | succ n =>
   exact fun l h=>by
    unfold Sh at h
    rw[underlying48]at h
    obtain⟨a0,b0,rfl,_,h0,a1,b1,rfl,_,h1,a2,b2,rfl,_,h2,a3,b3,rfl,_,h3,a4,b4,rfl,_,h4,a5,b5,rfl,_,h5,rfl⟩:=h
    obtain⟨x0,rfl⟩:=(qB underlying41 UR) n _ h0
    obtain⟨x1,rfl⟩:=(qB underlying42 To) n _ h1
    obtain⟨x2,rfl⟩:=(qB underlying43 OY) n _ h2
    obtain⟨x3,rfl⟩:=(qB underlying44 Qg) n _ h3
    obtain⟨x4,rfl⟩:=(qB underlying45 UT) n _ h4
    obtain⟨x5,rfl⟩:=(qB underlying46 Sv) n _ h5
    exact⟨(⟨x0,x1,x2,x3,x4,x5⟩:aE),by rw[E8];rfl⟩
end Go.Proofs.YtkdahfeiedaahaaGreatDoor
namespace Go.Proofs
open Go.Shelf
noncomputable def Tryz.laysM171_ren : Go.Shelf.Ren := ⟨fun | 171 => 98 | 243 => 134 | 246 => 156 | 283 => 182 | 284 => 183 | 285 => 184 | 286 => 185 | 129 => 181 | 317 => 202 | 318 => 203 | 319 => 204 | 320 => 205 | 337 => 212 | 338 => 213 | n => n, fun | 3 => 3 | 9 => 9 | 2 => 2 | 4 => 4 | 171 => 202 | 0 => 0 | 53 => 201 | 37 => 169 | 5 => 5 | 173 => 204 | 212 => 216 | 51 => 199 | 20 => 20 | 213 => 217 | 46 => 182 | 232 => 223 | 233 => 224 | n => n, fun | 17 => 0 | 18 => 2 | 19 => 3 | n => n⟩
theorem Tryz.laysM171 : Go.Proofs.LaysM.n171 Tryz.prog Tryz.laysM171_ren := {
 mixed := by kernel_rfl
 f129 := Tryz.func181.trans (congrArg some (by kernel_rfl))
 f171 := Tryz.func98.trans (congrArg some (by kernel_rfl))
 f243 := Tryz.func134.trans (congrArg some (by kernel_rfl))
 f246 := Tryz.func156.trans (congrArg some (by kernel_rfl))
 f283 := Tryz.func182.trans (congrArg some (by kernel_rfl))
 f284 := Tryz.func183.trans (congrArg some (by kernel_rfl))
 f285 := Tryz.func184.trans (congrArg some (by kernel_rfl))
 f286 := Tryz.func185.trans (congrArg some (by kernel_rfl))
 f317 := Tryz.func202.trans (congrArg some (by kernel_rfl))
 f318 := Tryz.func203.trans (congrArg some (by kernel_rfl))
 f319 := Tryz.func204.trans (congrArg some (by kernel_rfl))
 f320 := Tryz.func205.trans (congrArg some (by kernel_rfl))
 f337 := Tryz.func212.trans (congrArg some (by kernel_rfl))
 f338 := Tryz.func213.trans (congrArg some (by kernel_rfl))
 t0 := Tryz.underlying0
 a0 := Tryz.isAgg0
 z0 := Tryz.sizeOf0
 v0 := Tryz.zeroValue0
 t2 := Tryz.underlying2
 a2 := Tryz.isAgg2
 z2 := Tryz.sizeOf2
 v2 := Tryz.zeroValue2
 t3 := Tryz.underlying3
 a3 := Tryz.isAgg3
 z3 := Tryz.sizeOf3
 v3 := Tryz.zeroValue3
 t4 := Tryz.underlying4
 a4 := Tryz.isAgg4
 z4 := Tryz.sizeOf4
 v4 := Tryz.zeroValue4
 t5 := Tryz.underlying5
 a5 := Tryz.isAgg5
 z5 := Tryz.sizeOf5
 v5 := Tryz.zeroValue5
 t9 := Tryz.underlying9
 a9 := Tryz.isAgg9
 z9 := Tryz.sizeOf9
 v9 := Tryz.zeroValue9
 t20 := Tryz.underlying20
 a20 := Tryz.isAgg20
 z20 := Tryz.sizeOf20
 v20 := Tryz.zeroValue20
 t37 := Tryz.underlying169
 a37 := Tryz.isAgg169
 z37 := Tryz.sizeOf169
 v37 := Tryz.zeroValue169
 t46 := Tryz.underlying182
 a46 := Tryz.isAgg182
 z46 := Tryz.sizeOf182
 v46 := Tryz.zeroValue182
 t51 := Tryz.underlying199
 a51 := Tryz.isAgg199
 z51 := Tryz.sizeOf199
 v51 := Tryz.zeroValue199
 t53 := Tryz.underlying201
 a53 := Tryz.isAgg201
 z53 := Tryz.sizeOf201
 v53 := Tryz.zeroValue201
 t171 := Tryz.underlying202
 a171 := Tryz.isAgg202
 z171 := Tryz.sizeOf202
 v171 := Tryz.zeroValue202
 t173 := Tryz.underlying204
 a173 := Tryz.isAgg204
 z173 := Tryz.sizeOf204
 v173 := Tryz.zeroValue204
 t212 := Tryz.underlying216
 a212 := Tryz.isAgg216
 z212 := Tryz.sizeOf216
 v212 := Tryz.zeroValue216
 t213 := Tryz.underlying217
 a213 := Tryz.isAgg217
 z213 := Tryz.sizeOf217
 t232 := Tryz.underlying223
 a232 := Tryz.isAgg223
 z232 := Tryz.sizeOf223
 v232 := Tryz.zeroValue223
 t233 := Tryz.underlying224
 a233 := Tryz.isAgg224
 z233 := Tryz.sizeOf224
 v233 := Tryz.zeroValue224
 g17 := by kernel_rfl
 g18 := by kernel_rfl
 g19 := by kernel_rfl
 i0 := by kernel_rfl
 i2 := by kernel_rfl
 i3 := by kernel_rfl
 i4 := by kernel_rfl
 i5 := by kernel_rfl
 i9 := by kernel_rfl
 i20 := by kernel_rfl
 i37 := by kernel_rfl
 i46 := by kernel_rfl
 i51 := by kernel_rfl
 i53 := by kernel_rfl
 i171 := by kernel_rfl
 i173 := by kernel_rfl
 i212 := by kernel_rfl
 i232 := by kernel_rfl
 i233 := by kernel_rfl
 m17 := by kernel_rfl
 m18 := by kernel_rfl
 m19 := by kernel_rfl }
noncomputable def Tryz.lays190_ren : Go.Shelf.Ren := ⟨fun | 190 => 127 | 125 => 154 | 258 => 153 | 128 => 180 | 129 => 181 | 302 => 171 | 303 => 172 | 304 => 173 | 305 => 174 | 306 => 175 | 307 => 176 | 308 => 177 | 309 => 178 | 310 => 179 | 333 => 196 | 329 => 197 | 330 => 198 | 334 => 199 | 335 => 200 | 336 => 201 | 344 => 211 | n => n, fun | 31 => 38 | 9 => 9 | 3 => 3 | 46 => 182 | 0 => 0 | 51 => 199 | 53 => 201 | 4 => 4 | 183 => 191 | 182 => 190 | 131 => 196 | 5 => 5 | 218 => 208 | 222 => 212 | 228 => 219 | 229 => 220 | n => n, fun | n => n⟩
theorem Tryz.lays190 : Go.Proofs.Lays.n190 Tryz.prog Tryz.lays190_ren := {
 mixed := by kernel_rfl
 f125 := Tryz.func154.trans (congrArg some (by kernel_rfl))
 f128 := Tryz.func180.trans (congrArg some (by kernel_rfl))
 f129 := Tryz.func181.trans (congrArg some (by kernel_rfl))
 f190 := Tryz.func127.trans (congrArg some (by kernel_rfl))
 f258 := Tryz.func153.trans (congrArg some (by kernel_rfl))
 f302 := Tryz.func171.trans (congrArg some (by kernel_rfl))
 f303 := Tryz.func172.trans (congrArg some (by kernel_rfl))
 f304 := Tryz.func173.trans (congrArg some (by kernel_rfl))
 f305 := Tryz.func174.trans (congrArg some (by kernel_rfl))
 f306 := Tryz.func175.trans (congrArg some (by kernel_rfl))
 f307 := Tryz.func176.trans (congrArg some (by kernel_rfl))
 f308 := Tryz.func177.trans (congrArg some (by kernel_rfl))
 f309 := Tryz.func178.trans (congrArg some (by kernel_rfl))
 f310 := Tryz.func179.trans (congrArg some (by kernel_rfl))
 f329 := Tryz.func197.trans (congrArg some (by kernel_rfl))
 f330 := Tryz.func198.trans (congrArg some (by kernel_rfl))
 f333 := Tryz.func196.trans (congrArg some (by kernel_rfl))
 f334 := Tryz.func199.trans (congrArg some (by kernel_rfl))
 f335 := Tryz.func200.trans (congrArg some (by kernel_rfl))
 f336 := Tryz.func201.trans (congrArg some (by kernel_rfl))
 f344 := Tryz.func211.trans (congrArg some (by kernel_rfl))
 t0 := Tryz.underlying0
 a0 := Tryz.isAgg0
 z0 := Tryz.sizeOf0
 v0 := Tryz.zeroValue0
 t3 := Tryz.underlying3
 a3 := Tryz.isAgg3
 z3 := Tryz.sizeOf3
 v3 := Tryz.zeroValue3
 t4 := Tryz.underlying4
 a4 := Tryz.isAgg4
 z4 := Tryz.sizeOf4
 v4 := Tryz.zeroValue4
 t5 := Tryz.underlying5
 a5 := Tryz.isAgg5
 z5 := Tryz.sizeOf5
 v5 := Tryz.zeroValue5
 t9 := Tryz.underlying9
 a9 := Tryz.isAgg9
 z9 := Tryz.sizeOf9
 v9 := Tryz.zeroValue9
 t31 := Tryz.underlying38
 a31 := Tryz.isAgg38
 z31 := Tryz.sizeOf38
 v31 := Tryz.zeroValue38
 t46 := Tryz.underlying182
 a46 := Tryz.isAgg182
 z46 := Tryz.sizeOf182
 v46 := Tryz.zeroValue182
 t51 := Tryz.underlying199
 a51 := Tryz.isAgg199
 z51 := Tryz.sizeOf199
 v51 := Tryz.zeroValue199
 t53 := Tryz.underlying201
 a53 := Tryz.isAgg201
 z53 := Tryz.sizeOf201
 v53 := Tryz.zeroValue201
 t131 := Tryz.underlying196
 a131 := Tryz.isAgg196
 z131 := Tryz.sizeOf196
 v131 := Tryz.zeroValue196
 t182 := Tryz.underlying190
 a182 := Tryz.isAgg190
 z182 := Tryz.sizeOf190
 v182 := Tryz.zeroValue190
 t183 := Tryz.underlying191
 a183 := Tryz.isAgg191
 z183 := Tryz.sizeOf191
 v183 := Tryz.zeroValue191
 t218 := Tryz.underlying208
 a218 := Tryz.isAgg208
 z218 := Tryz.sizeOf208
 v218 := Tryz.zeroValue208
 t222 := Tryz.underlying212
 a222 := Tryz.isAgg212
 z222 := Tryz.sizeOf212
 v222 := Tryz.zeroValue212
 t228 := Tryz.underlying219
 a228 := Tryz.isAgg219
 z228 := Tryz.sizeOf219
 v228 := Tryz.zeroValue219
 t229 := Tryz.underlying220
 a229 := Tryz.isAgg220
 z229 := Tryz.sizeOf220
 v229 := Tryz.zeroValue220 }
noncomputable def Tryz.lc104_ren : Go.Shelf.Ren := ⟨fun | 41 => 104 | n => n, fun | 22 => 92 | 23 => 137 | 4 => 4 | n => n, fun | n => n⟩
theorem Tryz.lc104 : Go.Proofs.SlLaysE0.n41 Tryz.prog Tryz.lc104_ren := {
 mixed := by kernel_rfl
 f41 := ⟨Tryz.f104.name, by decide, Tryz.func104.trans (congrArg some (by kernel_rfl))⟩
 t4 := Tryz.underlying4
 a4 := Tryz.isAgg4
 z4 := Tryz.sizeOf4
 v4 := Tryz.zeroValue4
 t22 := Tryz.underlying92
 a22 := Tryz.isAgg92
 z22 := Tryz.sizeOf92
 v22 := Tryz.zeroValue92 }
noncomputable def Tryz.lc125_ren : Go.Shelf.Ren := ⟨fun | 41 => 125 | n => n, fun | 22 => 38 | 23 => 9 | 4 => 4 | n => n, fun | n => n⟩
theorem Tryz.lc125 : Go.Proofs.SlLaysE0.n41 Tryz.prog Tryz.lc125_ren := {
 mixed := by kernel_rfl
 f41 := ⟨Tryz.f125.name, by decide, Tryz.func125.trans (congrArg some (by kernel_rfl))⟩
 t4 := Tryz.underlying4
 a4 := Tryz.isAgg4
 z4 := Tryz.sizeOf4
 v4 := Tryz.zeroValue4
 t22 := Tryz.underlying38
 a22 := Tryz.isAgg38
 z22 := Tryz.sizeOf38
 v22 := Tryz.zeroValue38 }
noncomputable def Tryz.ix131_ren : Go.Shelf.Ren := ⟨fun | 29 => 131 | n => n, fun | 22 => 38 | 23 => 9 | 3 => 3 | 0 => 0 | 4 => 4 | n => n, fun | n => n⟩
theorem Tryz.ix131 : Go.Proofs.SlLaysE.n29 Tryz.prog Tryz.ix131_ren := {
 mixed := by kernel_rfl
 f29 := ⟨Tryz.f131.name, by decide, Tryz.func131.trans (congrArg some (by kernel_rfl))⟩
 t0 := Tryz.underlying0
 a0 := Tryz.isAgg0
 z0 := Tryz.sizeOf0
 v0 := Tryz.zeroValue0
 t3 := Tryz.underlying3
 a3 := Tryz.isAgg3
 z3 := Tryz.sizeOf3
 v3 := Tryz.zeroValue3
 t4 := Tryz.underlying4
 a4 := Tryz.isAgg4
 z4 := Tryz.sizeOf4
 v4 := Tryz.zeroValue4
 t22 := Tryz.underlying38
 a22 := Tryz.isAgg38
 z22 := Tryz.sizeOf38
 v22 := Tryz.zeroValue38
 a23 := Tryz.isAgg9
 z23 := Tryz.sizeOf9 }
noncomputable def Tryz.df129_ren : Go.Shelf.Ren := ⟨fun | 10 => 129 | 6 => 155 | n => n, fun | 22 => 38 | 23 => 9 | 25 => 162 | 3 => 3 | 4 => 4 | 0 => 0 | n => n, fun | n => n⟩
theorem Tryz.df129 : Go.Proofs.SlLaysH.n10 Tryz.prog Tryz.df129_ren := {
 mixed := by kernel_rfl
 f6 := ⟨Tryz.f155.name, by decide, Tryz.func155.trans (congrArg some (by kernel_rfl))⟩
 f10 := ⟨Tryz.f129.name, by decide, Tryz.func129.trans (congrArg some (by kernel_rfl))⟩
 t0 := Tryz.underlying0
 a0 := Tryz.isAgg0
 z0 := Tryz.sizeOf0
 v0 := Tryz.zeroValue0
 t3 := Tryz.underlying3
 a3 := Tryz.isAgg3
 z3 := Tryz.sizeOf3
 v3 := Tryz.zeroValue3
 t4 := Tryz.underlying4
 a4 := Tryz.isAgg4
 z4 := Tryz.sizeOf4
 v4 := Tryz.zeroValue4
 t22 := Tryz.underlying38
 a22 := Tryz.isAgg38
 z22 := Tryz.sizeOf38
 v22 := Tryz.zeroValue38
 a23 := Tryz.isAgg9
 z23 := Tryz.sizeOf9
 t25 := Tryz.underlying162
 a25 := Tryz.isAgg162
 z25 := Tryz.sizeOf162
 v25 := Tryz.zeroValue162 }
end Go.Proofs
namespace Go.Proofs.YtkdahfeiedaahaaGreatDoor
open Go Go.Proofs.Tryz
set_option linter.unusedVariables false
set_option maxRecDepth 100000
theorem Rt:tZ Pg 104 137:=Ny Tryz.lc104 rfl rfl (by kernel_rfl) call104
theorem xN{l r:List ag}(h:pC l=some r):CC Pg GE 104 [sl aa l] (sl aa r) [(0,137)]:=Mc.cloneCC Rt h
theorem Ru:tZ Pg 125 9:=Ny Tryz.lc125 rfl rfl (by kernel_rfl) call125
theorem tJ{l r:List ae}(h:pC l=some r):CC Pg GE 125 [sl cS l] (sl cS r) [(0,9)]:=bN.cloneCC Ru h
def W8(n:Int):Option ae:=if(decide (-9223372036854775808<=n)&&decide (n<=9223372036854775807))=true then some (Lib.itoa n)else none
theorem Vx:lB=Lib.pow10Tab:=by kernel_rfl
theorem WD{n:Int}{r:ae}(h:W8 n=some r):CC Pg GE 98 [.int .i64 n] (.str r) []:=by
 rcases aO h with⟨b,h⟩|⟨b,h⟩
 ·obtain rfl:=lf h
  simp only[vad,vai]at b
  refine CC.grownIS call98 fun E Γ bs ow w a st hE hS=>?_
  have htab:Lib.TabIs Pg w "internal/strconv.uint64pow10" .u64 Lib.pow10Tab:=Ye hS (g:=0) (by rw[hE,←Vx];simp[GE]) (by kernel_rfl)
  refine(Any.strconv_Itoa Tryz.laysM171 n b.1 b.2 w htab).mono fun e w' he=>?_
  obtain⟨rfl,k,os,rfl⟩:=he
  exact⟨rfl,.of_grow _ _ _⟩
 ·cases h
open Go
abbrev E3(GE:List (Nat×List PVal))(Γ:aU)(w:World):rD:=⟨GE,Γ,w,fun _=>False⟩
structure Bo(GE:List (Nat×List PVal))(Γ:aU)(w:World):Prop where
 wi:∀b n,Γ b=some n->∃c t fr,w.heap[b]? =some (.cells c t fr)/\n<=c.size
 gl:∀g cs,(g,cs)∈GE->VR Γ [] w (.eptr cs) (.pointer (some ⟨g,0,none⟩))
 gc:∀g cs,(g,cs)∈GE->jl 0 cs
 gx:∀g cs,(g,cs)∈GE->g<w.heap.size/\∃c t fr,w.heap[g]? =some (.cells c t fr)/\c.size=cs.length
theorem VR.clo{Γ:aU}{bs bs':bD}{w:World}{p:PVal}{v:Value}(h:VR Γ bs w p v)(hc:p.cl 0):VR Γ bs' w p v:=h.restrict (n:=0) hc fun i b hi _=>absurd hi (vaK _)
section
variable{P:Program}{E:rD}{Γ:aU}{bs:bD}{ow:Nat->Option lX}{w:World}{a:Array Value}{st:aB}
theorem SR.base(h:SR P E Γ bs ow w a st):Bo E.GE Γ w where
 wi:=h.wi
 gl:=fun g cs hg=>(h.gl g cs hg).clo (by simp only[PVal.cl];exact h.gc g cs hg)
 gc:=h.gc
 gx:=fun g cs hg=>⟨(h.gnow hg).1,(h.gnow hg).2.2.2⟩
theorem Bo.good{GE:List (Nat×List PVal)}(hB:Bo GE Γ w):tC GE 0 (E3 GE Γ w) where
 ge:=rfl
 low:=fun b n h=>by obtain⟨c,t,fr,h1,_⟩:=hB.wi b n h;exact(vae.1 h1).1
 nt:=fun _ _ hb=>hb
 gl:=hB.gl
theorem Bo.fresh{GE:List (Nat×List PVal)}(hB:Bo GE Γ w)(k:Nat){tmps:List PVal}(hs:a.size=tmps.length)(hv:∀(t:Nat) p v,tmps[t]? =some p->a[t]? =some v->VR Γ [] w p v):SR P (E3 GE Γ w) Γ (List.replicate k none) (fun _=>none) w a ⟨tmps,List.replicate k .dead,[]⟩:=by
 have hno:∀(i b:Nat),(List.replicate k (none:Option Nat))[i]? =some (some b)->False:=fun i b h=>by
  rw[vaW]at h
  split at h<;>simp at h
 exact{
  wi:=hB.wi
  sz:=hs
  tm:=fun t p v hp hv'=>(hv t p v hp hv').mono (.refl _ _) (fun i b h=>by simp at h)
  bl:=by simp
  bx:=fun i b B hb=>(hno i b hb).elim
  inj:=fun i j b hb=>(hno i b hb).elim
  bn:=fun i b hb=>(hno i b hb).elim
  on:=fun b L hL=>by cases hL
  ot:=fun t k e he=>by simp at he
  ob:=fun i j e cs own b _ _ hb=>(hno i b hb).elim
  gl:=fun g cs hg=>(hB.gl g cs hg).mono (.refl _ _) (fun i b h=>by simp at h)
  gc:=hB.gc
  gx:=fun g cs hg=>⟨(hB.gx g cs hg).1,fun h=>h,(hB.gx g cs hg).2⟩
  step:=.refl _ _ _ _}
theorem SR.again(h:SR P E Γ bs ow w a st)(hc:jl 0 st.tmps){GE:List (Nat×List PVal)}{Γ':aU}{w':World}(hB:Bo GE Γ' w')(hle:Γ.Le w Γ' w')(k:Nat):SR P (E3 GE Γ' w') Γ' (List.replicate k none) (fun _=>none) w' a ⟨st.tmps,List.replicate k .dead,[]⟩:=
 hB.fresh k h.sz fun t p v hp hv=>((h.tm t p v hp hv).clo (oX hc hp)).mono hle (.refl _)
theorem SR.aside(h:SR P E Γ bs ow w a st){GE:List (Nat×List PVal)}{Γ':aU}{bs':bD}{ow':Nat->Option lX}{w':World}{a':Array Value}{st':aB}(h':SR P (E3 GE Γ w) Γ' bs' ow' w' a' st'):SR P E Γ' bs ow w' a st:=
 h.world (fun _=>False) h'.step.le h'.wi h'.step.os h'.step.tape h'.step.output h'.step.size (fun b hb _=>h'.step.keep b hb id) (fun _ hx=>hx.elim) (fun _ _ _ hx=>hx) (fun _ _ _ hx=>hx) h'.step.drawn
theorem SR.putOther(h:SR P E Γ bs ow w a st){l:Nat}{o:Obj}(hT:¬bj bs ow l)(hE:E.T l\/E.w.heap.size<=l)(ho:∀c t fr,w.heap[l]? ≠some (.cells c t fr)):SR P E Γ bs ow (w.putObj l o) a st/\Γ.Le w Γ (w.putObj l o):=by
 have hg:∀b n,Γ b=some n->b≠l:=fun b n hb e=>by
  obtain⟨c,t,fr,h1,_⟩:=h.wi b n hb
  exact ho c t fr (e▸h1)
 have hle:Γ.Le w Γ (w.putObj l o):=fun b n hb _=>⟨n,hb,vam _,fun k _=>bR (World.putObj_heap_other (hg b n hb)) k⟩
 refine⟨h.world (fun b=>b=l) hle (fun b n hb=>?_) rfl rfl rfl (by simp) (fun b _ hb=>⟨World.putObj_heap_other hb,rfl⟩) (fun b hb=>hb▸hE) (fun i b hb e=>hT (.inl ⟨i,e▸hb⟩)) (fun b L hL e=>hT (.inr (by rw[<-e,hL];simp))),hle⟩
 obtain⟨c,t,fr,h1,h2⟩:=h.wi b n hb
 exact⟨c,t,fr,(World.putObj_heap_other (hg b n hb)).trans h1,h2⟩
theorem SR.rebase(h:SR P E Γ bs ow w a st):SR P ⟨E.GE,Γ,w,bj bs ow⟩ Γ bs ow w a st:=
 { h with
  bn:=fun i b hb=>.inl (.inl ⟨i,hb⟩)
  on:=fun b L hL=>⟨(h.on b L hL).1,.inl (.inr (by rw[hL];simp))⟩
  gx:=fun g cs hg=>by
   obtain⟨k1,k2,k3,k4⟩:=h.gnow hg
   refine⟨k1,fun hT=>?_,k4⟩
   rcases hT with⟨i,hi⟩|hT
   ·exact k2 i g hi rfl
   ·exact hT k3
  step:=.refl _ _ _ _}
theorem SR.touchE(h:SR P E Γ bs ow w a st){b:Nat}(hb:bj bs ow b):E.T b\/E.w.heap.size<=b:=by
 rcases hb with⟨i,hi⟩|hb
 ·exact h.bn i b hi
 ·cases hL:ow b with
  |none=>exact absurd hL hb
  |some L=>exact(h.on b L hL).2
theorem SR.unbase(h:SR P E Γ bs ow w a st){Γ':aU}{bs':bD}{ow':Nat->Option lX}{w':World}{a':Array Value}{st':aB}(h':SR P ⟨E.GE,Γ,w,bj bs ow⟩ Γ' bs' ow' w' a' st'):SR P E Γ' bs' ow' w' a' st':=by
 have hT:∀b,bj bs ow b\/w.heap.size<=b->E.T b\/E.w.heap.size<=b:=fun b hb=>hb.elim h.touchE fun hb=>.inr (vaB h.step.size hb)
 exact{h' with
  bn:=fun i b hb=>hT b (h'.bn i b hb)
  on:=fun b L hL=>⟨(h'.on b L hL).1,hT b (h'.on b L hL).2⟩
  gx:=h.gx
  step:={
   os:=h'.step.os.trans h.step.os
   tape:=h'.step.tape.trans h.step.tape
   output:=h'.step.output.trans h.step.output
   size:=vaB h.step.size h'.step.size
   drawn:=vaB h.step.drawn h'.step.drawn
   keep:=fun b hb hTb=>by
    have hlt:b<w.heap.size:=vaA hb h.step.size
    have hn:¬bj bs ow b:=fun hx=>(h.touchE hx).elim hTb fun hx=>absurd hx (vcf.2 hb)
    obtain⟨k1,k2⟩:=h'.step.keep b hlt hn
    obtain⟨q1,q2⟩:=h.step.keep b hb hTb
    exact⟨k1.trans q1,k2.trans q2⟩
   le:=h.step.le.trans h'.step.le}}
theorem aW.on{m:Nat}{c:Code}{Q:Exit->aB->Prop}(hS:aW P E.GE m c Q st)(hm:m≠0)(h:SR P E Γ bs ow w a st)(hl:m % 1000<=bs.length)(ro:Option Nat)(ds:List Deferred):I0 ro P c (fun e a' w'=>a'.defers=ds/\∃Γ' bs' ow' st',SR P E Γ' bs' ow' w' a'.tmps st'/\Q e st'/\(∀i:Nat,i<m % 1000->bs'[i]? =bs[i]?)/\Γ.Le w Γ' w'/\w.heap.size<=w'.heap.size/\
   ∀b,b<w.heap.size->¬bj bs ow b->w'.heap[b]? =w.heap[b]?/\¬bj bs' ow' b) ⟨a,ds⟩ w:=by
 have hE:tC E.GE m ⟨E.GE,Γ,w,bj bs ow⟩:={
  ge:=rfl
  low:=fun b n hb=>h.lt_of_ghost hb
  nt:=fun h0=>absurd h0 hm
  gl:=h.base.gl}
 have hlen:(bs.take (m % 1000)).length=m % 1000:=by simp;omega
 refine lA (hS ro ⟨E.GE,Γ,w,bj bs ow⟩ (bs.take (m % 1000)) ⟨a,ds⟩ w hE hlen ⟨Γ,bs,ow,h.rebase,fun i hi=>?_⟩) fun e a' w' hq=>?_
 ·rw[vak (by omega)]
 obtain⟨hd,st',⟨Γ',bs',ow',h',hk⟩,hQ⟩:=hq
 refine⟨hd,Γ',bs',ow',st',h.unbase h',hQ,fun i hi=>?_,h'.step.le,h'.step.size,fun b hb hT=>⟨(h'.step.keep b hb hT).1,fun hx=>?_⟩⟩
 ·rw[hk i (by omega),vak hi]
 ·exact(h'.touchE hx).elim hT fun hx=>absurd hx (vcf.2 hb)
theorem aW.wide{GE:List (Nat×List PVal)}{c:Code}{Q:Exit->aB->Prop}{st0:aB}(hS:aW P GE 0 c Q st0)(hB:Bo GE Γ w){ow:Nat->Option lX}{bs:bD}(h:SR P (E3 GE Γ w) Γ bs ow w a st0)(n:Nat)(ds:List Deferred):c.wpIn Fence.wide n P (fun e a' w'=>a'.defers=ds/\∃Γ' bs' ow' st',SR P (E3 GE Γ w) Γ' bs' ow' w' a'.tmps st'/\Q e st') ⟨a,ds⟩ w:=
 wpIn_wide.2 (wp_mono (hS none (E3 GE Γ w) [] ⟨a,ds⟩ w hB.good rfl ⟨Γ,bs,ow,h,fun i hi=>absurd hi (vaK _)⟩) fun e a' w' hq=>by
  obtain⟨hd,st',⟨Γ',bs',ow',h',_⟩,hQ⟩:=hq
  exact⟨hd,Γ',bs',ow',st',h',hQ⟩)
theorem aW.wideE{GE:List (Nat×List PVal)}{c:Code}{Q:Exit->aB->Prop}(hS:aW P GE 0 c Q st)(hE:tC GE 0 E)(h:SR P E Γ bs ow w a st)(n:Nat)(ds:List Deferred):c.wpIn Fence.wide n P (fun e a' w'=>a'.defers=ds/\∃Γ' bs' ow' st',SR P E Γ' bs' ow' w' a'.tmps st'/\Q e st') ⟨a,ds⟩ w:=
 wpIn_wide.2 (wp_mono (hS none E [] ⟨a,ds⟩ w hE rfl ⟨Γ,bs,ow,h,fun i hi=>absurd hi (vaK _)⟩) fun e a' w' hq=>by
  obtain⟨hd,st',⟨Γ',bs',ow',h',_⟩,hQ⟩:=hq
  exact⟨hd,Γ',bs',ow',st',h',hQ⟩)
theorem SR.allocO(h:SR P E Γ bs ow w a st)(o:Obj):SR P E Γ bs ow (w.alloc o) a st/\Γ.Le w Γ (w.alloc o):=by
 have hlt:∀b n,Γ b=some n->b<w.heap.size:=fun b n hb=>h.lt_of_ghost hb
 have hle:Γ.Le w Γ (w.alloc o):=fun b n hb _=>⟨n,hb,vam _,fun k _=>bR (fp w o (hlt b n hb)) k⟩
 refine⟨h.world (fun _=>False) hle (fun b n hb=>?_) rfl rfl rfl (by simp[World.size_alloc]) (fun b hb _=>⟨fp w o hb,rfl⟩) (fun _ hx=>hx.elim) (fun _ _ _ hx=>hx) (fun _ _ _ hx=>hx),hle⟩
 obtain⟨c,t,fr,h1,h2⟩:=h.wi b n hb
 exact⟨c,t,fr,(fp w o (hlt b n hb)).trans h1,h2⟩
theorem SR.forgetT(h:SR P E Γ bs ow w a st){tm:List PVal}(hf:NF st.tmps tm=tm):SR P E Γ bs ow w a {st with tmps:=tm}:=
 { h with
  sz:=by rw[h.sz,<-OR (l:=st.tmps) (bs:=tm),hf]
  tm:=fun t p v hp hv=>by
   rw[<-hf]at hp
   rcases OQ hp with rfl|hp'
   ·exact .undef v
   ·exact h.tm t p v hp' hv}
theorem SR.back(h:SR P E Γ bs ow w a st)(ho:st.own=[]){Γ':aU}{bs':bD}{ow':Nat->Option lX}{w':World}{a':Array Value}{st':aB}{H':List aC}(h':SR P E Γ' bs' ow' w' a' st')(hle:Γ.Le w Γ' w')
  (hbs:∀i:Nat,i<bs.length->bs'[i]? =bs[i]?) (hH:dF H'.length st'.boxes H') (hl:H'.length=bs.length):
  ∃ow'',SR P E Γ' bs ow'' w' a {st with boxes:=H'}/\∀b,bj bs ow'' b->bj bs' ow' b:=by
 have hf:=h'.finish (H':=H') (v:=undef) (r:=.undef) (src:=fun k=>(0,k)) (ro:=[]) (.undef _) trivial hH (fun x hx=>by simp at hx) (fun x hx=>by simp at hx)
 have hb:bs'.take H'.length=bs:=by
  obtain⟨h1,_⟩:=oE hH
  have h2:H'.length<=bs'.length:=by rw[h'.bl];exact h1
  refine va2 fun i=>?_
  by_cases hi:i<H'.length
  ·rw[vak hi];exact hbs i (by omega)
  ·rw[vb6 (by omega),vaE (by omega)]
 rw[hb]at hf
 refine⟨_,{hf with
  sz:=h.sz
  tm:=fun t p v hp hv=>(h.tm t p v hp hv).mono hle (.refl _)
  ot:=fun t k e he=>by simp only[ho]at he;simp at he},fun b hb=>?_⟩
 rcases hb with⟨i,hi⟩|hb
 ·exact .inl ⟨i,(hbs i (aq hi)).trans hi⟩
 ·refine .inr fun e=>hb ?_
  simp[y5,e]
end
section
variable{P:Program}{n:Nat}{a:Act}{w:World}{next:Act->World->Prop}{Q:Exit->Act->World->Prop}
theorem TI{o:Oper}(hd:ft o=true)(h:o.wp P a w next Q):o.wpIn Fence.wide n P a w next Q:=by
 refine⟨fun _ _=>trivial,?_⟩
 have hs:o.semAt (Fence.wide).round a.eval=execOp a.eval o:=Oper.semAt_eq _ _ _ fun c hc=>by unfold ft at hd;rw[hc]at hd;cases hd
 rw[hs]
 unfold Oper.wp at h
 generalize (execOp a.eval o).run P w=r at *
 have hdep:(Fence.wide).depth.isSome=true->1<=n:=fun h=>by simp[Fence.wide]at h
 cases r with
 | ok x w' =>
  cases x<;>simp only[Oper.upon]at h<;>simp only[Oper.uponIn]<;>first
   |exact h.elim
   |exact h
   |exact⟨hdep,callsIn_wide.2 h⟩
   | exact ⟨hdep,fun c cs _ => by
     obtain⟨v,w',r,s⟩:=h c cs
     exact⟨v,w',r,stepsIn_wide.2 s⟩⟩
 |halt x w'=>cases x<;>simp only[Oper.upon]at h<;>simp only[Oper.uponIn]<;>exact h
theorem Se{o:Oper}{f:Operand}{args:Array Operand}{tys:Array TypeId}(ho:o.op=.call {callee:=.value f,args:=args,argTypes:=tys}){l:Nat}(hf:a.eval f=.func (.yield l) #[] #[])
  {R:Ending->World->Prop} (h:YieldAt Fence.wide (n - 1) P l (args.map a.eval) w R) (hR:∀e w',R e w'->∃v,e=.returned v/\next (a.put o.dst v) w'):o.wpIn Fence.wide n P a w next Q:=by
 refine⟨fun _ _=>trivial,?_⟩
 have hs:o.semAt (Fence.wide).round a.eval=execOp a.eval o:=Oper.semAt_eq _ _ _ fun c hc=>by rw[ho]at hc;cases hc
 obtain⟨fn,tmps,assign,body,hy,hr⟩:=h
 have hrun:(execOp a.eval o).run P w=.ok (.round l fn tmps assign body) w:=by
  simp[execOp,ho,resolve,hf,Deferred.ofValue,invoke,hy]
 rw[hs,hrun,Oper.uponIn_round]
 refine⟨fun h=>by simp[Fence.wide]at h,hr.mono fun e w' hr=>?_⟩
 obtain⟨v,rfl,hx⟩:=hR e w' hr
 exact hx
theorem LT{ops:Array Oper}{i:Nat}{rest:List Nat}{o:Oper}(ho:ops[i]? =some o)(hg:o.guard=none)(h:o.wpIn Fence.wide n P a w (wpOpsIn Fence.wide n P ops Q rest) Q):wpOpsIn Fence.wide n P ops Q (i::rest) a w:=by
 unfold wpOpsIn
 simp only[ho,Region.wanted,hg,if_true]
 exact h
theorem Ig{E:rD}{A:List Nat}{ops:Array Oper}{K:aB->Prop}{rest:List Nat}{ds:List Deferred}
  (hK:∀Γ bs ow a w st,SR P E Γ bs ow w a st->K st->wpOpsIn Fence.wide n P ops Q rest ⟨a,ds⟩ w):
  ∀(L:List Oper) (is:List Nat) (Γ:aU) (bs:bD) (ow:Nat->Option lX) (a:Array Value) (w:World) (st:aB),is.map (fun i=>ops[i]?)=L.map some->
   (∀o∈L,o.guard=none/\ft o=true/\aK o.op=false)->SR P E Γ bs ow w a st->dn P E.GE A ops K L 0 st->wpOpsIn Fence.wide n P ops Q (is++rest) ⟨a,ds⟩ w
 |[],[],Γ,bs,ow,a,w,st,_,_,h,hp=>hK Γ bs ow a w st h hp
 |o::L,i::is,Γ,bs,ow,a,w,st,hi,hg,h,hp=>by
  obtain⟨g1,g2,g3⟩:=hg o (by simp)
  unfold dn at hp
  simp only[g1]at hp
  simp only[vaD,vbH]at hi
  refine LT hi.1 g1 (TI g2 (Oper.wp_mono (fun a' w' hA=>?_) (GV (a:=⟨a,ds⟩) h (fun hm=>by rw[g3]at hm;cases hm) hp Q)))
  obtain⟨hd,Γ',bs',ow',st',h1,h2,_⟩:=hA
  obtain⟨a1,ds1⟩:=a'
  simp only at hd h1
  subst hd
  refine Ig (A:=A) hK L is Γ' bs' ow' a1 w' st' hi.2 (fun o ho=>hg o (vaU _ ho)) h1 ?_
  rw[g3]at h2
  exact h2
end
def GL:Code->Array Oper
 |.region _ ops _=>ops
 |_=>#[]
def qcO:Code->Nat
 |.region id _ _=>id
 |_=>0
def Zp(c:Code)(i:Nat):Oper:=(GL c)[i]?.getD default
def VK(o:Oper):Array TypeId:=match o.op with
 |.call c=>c.argTypes
 |_=>#[]
def Il(o:Oper):Bool:=o.guard.isNone&&ft o&&!aK o.op
theorem NW{L:List Oper}(h:L.all Il=true):∀o∈L,o.guard=none/\ft o=true/\aK o.op=false:=fun o ho=>by
 have:=vau.1 h o ho
 simpa[Il,and_assoc]using this
theorem tA{P:Program}{GE:List (Nat×List PVal)}{A:List Nat}{ops:Array Oper}{K K':aB->Prop}(hK:∀st,K st->K' st):∀(L:List Oper) (id:Nat) (st:aB),dn P GE A ops K L id st->dn P GE A ops K' L id st
 |[],_,st,h=>hK st h
 | o :: L,id,st,h => by
  unfold dn at h ⊢
  split at h
  ·exact tR (fun st hx=>tA hK L _ st hx) h
  ·split at h
   ·exact⟨fun hx=>tR (fun st hx=>tA hK L _ st hx) (h.1 hx),fun hx=>tA hK L _ _ (h.2 hx)⟩
   ·exact h
theorem SL{P:Program}{GE:List (Nat×List PVal)}{A:List Nat}{ops:Array Oper}{L:List Oper}{st st0:aB}{sc:List It}{F:Prop}(h:PS sc F)(he:F=I1 P GE A ops (fun _ st=>FG st st0) L 0 0 sc st):dn P GE A ops (fun st=>FG st st0) L 0 st:=
 tA (fun st ⟨_,hx⟩=>hx) L 0 st (wB L 0 0 sc st (Eq.mp he h))
theorem FG.sr{P:Program}{E:rD}{Γ:aU}{bs:bD}{ow:Nat->Option lX}{w:World}{a:Array Value}{st st0:aB}(h:SR P E Γ bs ow w a st)(hf:FG st st0):∃Γ' bs' ow',SR P E Γ' bs' ow' w a st0:=by
 obtain⟨Γ',bs',ow',h',_⟩:=(hf.weak (P:=P) (m:=0)) E [] ⟨a,[]⟩ w rfl ⟨Γ,bs,ow,h,fun i hi=>absurd hi (vaK _)⟩
 exact⟨Γ',bs',ow',h'⟩
def ZB:Code->Code
 |.rangeFunc _ _ a _=>a
 |_=>.skip
def ZC:Code->Code
 |.rangeFunc _ _ _ b=>b
 |_=>.skip
theorem er{w:World}{b:Nat}{o:Obj}(h:w.heap[b]? =some o):b<w.heap.size:=(vae.1 h).1
end Go.Proofs.YtkdahfeiedaahaaGreatDoor
