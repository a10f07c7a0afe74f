/- PROVED: a part of the proof. Conditions: none. -/
import Derived.Test.YtjddnhkahpfhdaaGreatDoorPkC9
import Derived.Test.YtjddnhkahpfhdaaGreatDoorChecked
import Derived.RangeFuncRecord
import Derived.RangeFuncSeq
set_option linter.unusedSimpArgs false
set_option linter.unusedVariables false
noncomputable section
namespace Go.Proofs.YtjddnhkahpfhdaaGreatDoor
open Go Go.Proofs.Tryz
set_option linter.unusedVariables false
set_option linter.defProp false
set_option maxRecDepth 100000
noncomputable abbrev Pg:=Tryz.prog
theorem mixed:Pg.follows .mixedOrders=true:=by kernel_rfl
structure ch where
 Name:ai
 Sort_:ai
deriving DecidableEq
def bT(x:ch):List PVal:=[.str x.Name,.str x.Sort_]
theorem Ht(x:ch):bT x=[.str x.Name,.str x.Sort_]:=rfl
theorem yB(x:ch):dU 0 (bT x):=(aI vzz (aI vzz vzz))
instance iE_tVar:KE bT:=⟨yB⟩
theorem O3(x:ch):(bT x).length=2:=by rw[Ht];rfl
theorem Pv(x:ch):∀q∈bT x,q.one=true:=by
 intro q hq
 rw[Ht]at hq
 simp only[vat,vaP,or_false]at hq
 rcases hq with rfl|rfl<;>rfl
theorem RM:Pg.cellsOf 223=2:=by kernel_rfl
inductive ah where
 |mk (Op:Int) (Name:ai) (N:Int) (Kids:(List ah))
def ah.Op:ah->Int
 |⟨x,_,_,_⟩=>x
def ah.Name:ah->ai
 |⟨_,x,_,_⟩=>x
def ah.N:ah->Int
 |⟨_,_,x,_⟩=>x
def ah.Kids:ah->(List ah)
 |⟨_,_,_,x⟩=>x
mutual
def aj:ah->List PVal
 |⟨x0,x1,x2,x3⟩=>[.int .i64 x0,.str x1,.int .i64 x2,.slice (pI x3)]
def pI:List ah->List (List PVal)
 |[]=>[]
 |x::r=>aj x::pI r
end
theorem DM:∀(l:List ah),pI l=l.map aj
 |[]=>by simp[pI]
 |x::r=>by simp[pI,DM r]
mutual
theorem dl:∀(x:ah),dU 0 (aj x)
 |⟨x0,x1,x2,x3⟩=>by rw[aj];exact(aI vzz (aI vzz (aI vzz (aI (Gk x3) trivial))))
theorem Gk:∀(l:List ah),lV 0 (pI l)
 |[]=>by simp[pI,lV]
 |x::r=>by rw[pI];exact⟨dl x,Gk r⟩
end
theorem bG:∀(x:ah),aj x=[.int .i64 x.Op,.str x.Name,.int .i64 x.N,sl aj x.Kids]
 |⟨x0,x1,x2,x3⟩=>by
  simp only[aj,DM]
  rfl
abbrev sw(x:ah):PVal:=.agg (aj x)
instance iK_tPred{x:ah}:K0l (aj x):=⟨dl x⟩
instance iE_tPred:KE aj:=⟨dl⟩
theorem Av(x:ah):(aj x).length=4:=by rw[bG];rfl
theorem Jt(x:ah):bv (.agg (aj x))=some (aj x):=rfl
theorem nK(x:ah):bv (sw x)=some (aj x):=rfl
theorem GO(x:ah):bv (.agg (aj x))=some [.int .i64 x.Op,.str x.Name,.int .i64 x.N,sl aj x.Kids]:=by rw[bG];rfl
theorem Ni(x:ah):∀q∈aj x,q.one=true:=by
 intro q hq
 rw[bG]at hq
 simp only[vat,vaP,or_false]at hq
 rcases hq with rfl|rfl|rfl|rfl<;>rfl
theorem QC:Pg.cellsOf 42=4:=by kernel_rfl
theorem yQ(x:ah):aC Pg 42 (aj x)=some (.agg (aj x)):=by
 have:=gW (P:=Pg) (t:=42) (l:=aj x) (r:=[]) (by kernel_rfl) (QC.trans (Av x).symm)
 rwa[vbe]at this
theorem Gz(x:ah)(r:List PVal):aC Pg 42 ([.int .i64 x.Op,.str x.Name,.int .i64 x.N,sl aj x.Kids]++r)=some (.agg (aj x)):=by
 rw[<-bG];exact gW (by kernel_rfl) (QC.trans (Av x).symm)
theorem oe(x:ah):au Pg 42 (.eptr (aj x)) 0=some (.eptr ((aj x).drop 0))/\aC Pg 39 ((aj x).drop 0)=some (.int .i64 x.Op):=⟨by rw[bG];kernel_rfl,by rw[bG];kernel_rfl⟩
theorem iR(x:ah):au Pg 42 (.eptr (aj x)) 1=some (.eptr ((aj x).drop 1))/\aC Pg 9 ((aj x).drop 1)=some (.str x.Name):=⟨by rw[bG];kernel_rfl,by rw[bG];kernel_rfl⟩
theorem pB(x:ah):au Pg 42 (.eptr (aj x)) 2=some (.eptr ((aj x).drop 2))/\aC Pg 3 ((aj x).drop 2)=some (.int .i64 x.N):=⟨by rw[bG];kernel_rfl,by rw[bG];kernel_rfl⟩
theorem gR(x:ah):au Pg 42 (.eptr (aj x)) 3=some (.eptr ((aj x).drop 3))/\aC Pg 40 ((aj x).drop 3)=some (sl aj x.Kids):=⟨by rw[bG];kernel_rfl,by rw[bG];kernel_rfl⟩
inductive ae where
 |mk (Op:Int) (Name:ai) (Args:(List ae)) (Names:(List ai)) (Pred:ah) (Preds:(List ah))
def ae.Op:ae->Int
 |⟨x,_,_,_,_,_⟩=>x
def ae.Name:ae->ai
 |⟨_,x,_,_,_,_⟩=>x
def ae.Args:ae->(List ae)
 |⟨_,_,x,_,_,_⟩=>x
def ae.Names:ae->(List ai)
 |⟨_,_,_,x,_,_⟩=>x
def ae.Pred:ae->ah
 |⟨_,_,_,_,x,_⟩=>x
def ae.Preds:ae->(List ah)
 |⟨_,_,_,_,_,x⟩=>x
mutual
def af:ae->List PVal
 |⟨x0,x1,x2,x3,x4,x5⟩=>[.int .i64 x0,.str x1,.slice (pJ x2),sl cS x3]++(aj x4++([sl aj x5]))
def pJ:List ae->List (List PVal)
 |[]=>[]
 |x::r=>af x::pJ r
end
theorem DN:∀(l:List ae),pJ l=l.map af
 |[]=>by simp[pJ]
 |x::r=>by simp[pJ,DN r]
mutual
theorem dD:∀(x:ae),dU 0 (af x)
 |⟨x0,x1,x2,x3,x4,x5⟩=>by rw[af];exact la.2 (aI ((aI vzz (aI vzz (aI (Gl x2) (aI (ba Ix x3) trivial))))) (la.2 (aI (dl x4) ((aI (ba dl x5) trivial)))))
theorem Gl:∀(l:List ae),lV 0 (pJ l)
 |[]=>by simp[pJ,lV]
 |x::r=>by rw[pJ];exact⟨dD x,Gl r⟩
end
theorem aV:∀(x:ae),af x=[.int .i64 x.Op,.str x.Name,sl af x.Args,sl cS x.Names,.int .i64 x.Pred.Op,.str x.Pred.Name,.int .i64 x.Pred.N,sl aj x.Pred.Kids,sl aj x.Preds]
 |⟨x0,x1,x2,x3,x4,x5⟩=>by
  simp only[af,DN,bG,vaS,va3]
  rfl
abbrev pX(x:ae):PVal:=.agg (af x)
instance iK_tType{x:ae}:K0l (af x):=⟨dD x⟩
instance iE_tType:KE af:=⟨dD⟩
theorem Aw(x:ae):(af x).length=9:=by rw[aV];rfl
theorem kH(x:ae):bv (.agg (af x))=some (af x):=rfl
theorem ll(x:ae):bv (pX x)=some (af x):=rfl
theorem jn(x:ae):bv (.agg (af x))=some [.int .i64 x.Op,.str x.Name,sl af x.Args,sl cS x.Names,.int .i64 x.Pred.Op,.str x.Pred.Name,.int .i64 x.Pred.N,sl aj x.Pred.Kids,sl aj x.Preds]:=by rw[aV];rfl
theorem Nk(x:ae):∀q∈af x,q.one=true:=by
 intro q hq
 rw[aV]at hq
 simp only[vat,vaP,or_false]at hq
 rcases hq with rfl|rfl|rfl|rfl|rfl|rfl|rfl|rfl|rfl<;>rfl
theorem QD:Pg.cellsOf 44=9:=by kernel_rfl
theorem fT(x:ae):aC Pg 44 (af x)=some (.agg (af x)):=by
 have:=gW (P:=Pg) (t:=44) (l:=af x) (r:=[]) (by kernel_rfl) (QD.trans (Aw x).symm)
 rwa[vbe]at this
theorem fH(x:ae)(r:List PVal):aC Pg 44 ([.int .i64 x.Op,.str x.Name,sl af x.Args,sl cS x.Names,.int .i64 x.Pred.Op,.str x.Pred.Name,.int .i64 x.Pred.N,sl aj x.Pred.Kids,sl aj x.Preds]++r)=some (.agg (af x)):=by
 rw[<-aV];exact gW (by kernel_rfl) (QD.trans (Aw x).symm)
theorem lp(x:ae):PVal.agg [.int .i64 x.Op,.str x.Name,sl af x.Args,sl cS x.Names,.int .i64 x.Pred.Op,.str x.Pred.Name,.int .i64 x.Pred.N,sl aj x.Pred.Kids,sl aj x.Preds]=.agg (af x):=by rw[aV]
theorem Kc:dF Pg 44 []=some (.agg (af (⟨0,([]:ai),([]:List ae),([]:List ai),(⟨0,([]:ai),0,([]:List ah)⟩:ah),([]:List ah)⟩:ae))):=by
 simp only[aV]
 kernel_rfl
theorem Ka:tB Pg 44 [] [(2,44),(3,9),(7,42),(8,42)]:=by
 exact⟨[.int .i64 0,.str ([]:ai),.val fB,.val fB,.int .i64 0,.str ([]:ai),.int .i64 0,.val fB,.val fB],by kernel_rfl,(aI rfl (aI rfl (aI rfl (aI rfl vzz))))⟩
theorem rH(x0:Int)(x1:ai):dF Pg 44 [(0,.int .i64 x0),(1,.str x1)]=some (.agg (af (⟨x0,x1,([]:List ae),([]:List ai),(⟨0,([]:ai),0,([]:List ah)⟩:ah),([]:List ah)⟩:ae))):=by
 simp only[aV]
 kernel_rfl
theorem rG(x0:Int)(x1:ai):tB Pg 44 [(0,.int .i64 x0),(1,.str x1)] [(2,44),(3,9),(7,42),(8,42)]:=by
 exact⟨[.int .i64 x0,.str x1,.val fB,.val fB,.int .i64 0,.str ([]:ai),.int .i64 0,.val fB,.val fB],by kernel_rfl,(aI rfl (aI rfl (aI rfl (aI rfl vzz))))⟩
theorem nY(x0:Int):dF Pg 44 [(0,.int .i64 x0)]=some (.agg (af (⟨x0,([]:ai),([]:List ae),([]:List ai),(⟨0,([]:ai),0,([]:List ah)⟩:ah),([]:List ah)⟩:ae))):=by
 simp only[aV]
 kernel_rfl
theorem nW(x0:Int):tB Pg 44 [(0,.int .i64 x0)] [(2,44),(3,9),(7,42),(8,42)]:=by
 exact⟨[.int .i64 x0,.str ([]:ai),.val fB,.val fB,.int .i64 0,.str ([]:ai),.int .i64 0,.val fB,.val fB],by kernel_rfl,(aI rfl (aI rfl (aI rfl (aI rfl vzz))))⟩
theorem wI(x:ae):au Pg 44 (.eptr (af x)) 0=some (.eptr ((af x).drop 0)):=by rw[aV];kernel_rfl
theorem df(x:ae):au Pg 44 (.eptr (af x)) 0=some (.eptr ((af x).drop 0))/\aC Pg 37 ((af x).drop 0)=some (.int .i64 x.Op):=⟨by rw[aV];kernel_rfl,by rw[aV];kernel_rfl⟩
theorem Fk(x:ae):au Pg 44 (.eptr (af x)) 1=some (.eptr ((af x).drop 1)):=by rw[aV];kernel_rfl
theorem cz(x:ae):au Pg 44 (.eptr (af x)) 1=some (.eptr ((af x).drop 1))/\aC Pg 9 ((af x).drop 1)=some (.str x.Name):=⟨by rw[aV];kernel_rfl,by rw[aV];kernel_rfl⟩
theorem Fl(x:ae):au Pg 44 (.eptr (af x)) 2=some (.eptr ((af x).drop 2)):=by rw[aV];kernel_rfl
theorem bo(x:ae):au Pg 44 (.eptr (af x)) 2=some (.eptr ((af x).drop 2))/\aC Pg 38 ((af x).drop 2)=some (sl af x.Args):=⟨by rw[aV];kernel_rfl,by rw[aV];kernel_rfl⟩
theorem gS(x:ae):au Pg 44 (.eptr (af x)) 3=some (.eptr ((af x).drop 3))/\aC Pg 32 ((af x).drop 3)=some (sl cS x.Names):=⟨by rw[aV];kernel_rfl,by rw[aV];kernel_rfl⟩
theorem gT(x:ae):au Pg 44 (.eptr (af x)) 4=some (.eptr ((af x).drop 4))/\aC Pg 42 ((af x).drop 4)=some (.agg (aj x.Pred)):=⟨by rw[aV];kernel_rfl,by rw[aV,bG];kernel_rfl⟩
theorem gU(x:ae):au Pg 44 (.eptr (af x)) 5=some (.eptr ((af x).drop 8))/\aC Pg 40 ((af x).drop 8)=some (sl aj x.Preds):=⟨by rw[aV];kernel_rfl,by rw[aV];kernel_rfl⟩
theorem wL(x:ae):aC Pg 37 ((af x).drop 0)=some (.int .i64 x.Op):=by rw[aV];kernel_rfl
theorem HO(x:ae):aC Pg 9 ((af x).drop 1)=some (.str x.Name):=by rw[aV];kernel_rfl
theorem Fu(x:ae):aC Pg 38 ((af x).drop 2)=some (sl af x.Args):=by rw[aV];kernel_rfl
structure aO where
 Name:ai
 Names:(List ai)
 Fields:(List ae)
def aG(x:aO):List PVal:=[.str x.Name,sl cS x.Names,sl af x.Fields]
theorem CA(x:aO):aG x=[.str x.Name,sl cS x.Names,sl af x.Fields]:=rfl
theorem lK(x:aO):dU 0 (aG x):=(aI vzz (aI (ba Ix x.Names) (aI (ba dD x.Fields) trivial)))
abbrev Qd(x:aO):PVal:=.agg (aG x)
instance iE_tCon:KE aG:=⟨lK⟩
theorem Jd(x:aO):(aG x).length=3:=by rw[CA];rfl
theorem PB(x:aO):bv (Qd x)=some (aG x):=rfl
theorem Jv(x:aO):bv (.agg (aG x))=some [.str x.Name,sl cS x.Names,sl af x.Fields]:=by rw[CA];rfl
theorem Pt(x:aO):∀q∈aG x,q.one=true:=by
 intro q hq
 rw[CA]at hq
 simp only[vat,vaP,or_false]at hq
 rcases hq with rfl|rfl|rfl<;>rfl
theorem SA:Pg.cellsOf 76=3:=by kernel_rfl
theorem L3(x:aO):aC Pg 76 (aG x)=some (.agg (aG x)):=by
 have:=gW (P:=Pg) (t:=76) (l:=aG x) (r:=[]) (by kernel_rfl) (SA.trans (Jd x).symm)
 rwa[vbe]at this
theorem E4(x0:ai)(x1:(List ai))(x2:(List ae)):dF Pg 76 [(0,.str x0),(1,sl cS x1),(2,sl af x2)]=some (.agg (aG (⟨x0,x1,x2⟩:aO))):=by
 kernel_rfl
theorem ME(x0:ai):dF Pg 76 [(0,.str x0)]=some (.agg (aG (⟨x0,([]:List ai),([]:List ae)⟩:aO))):=by
 kernel_rfl
theorem MD(x0:ai):tB Pg 76 [(0,.str x0)] [(1,9),(2,44)]:=by
 exact⟨[.str x0,.val fB,.val fB],by kernel_rfl,(aI rfl (aI rfl vzz))⟩
theorem nk(x:aO):au Pg 76 (.eptr (aG x)) 0=some (.eptr ((aG x).drop 0)):=by kernel_rfl
theorem yL(x:aO):au Pg 76 (.eptr (aG x)) 1=some (.eptr ((aG x).drop 1))/\aC Pg 32 ((aG x).drop 1)=some (sl cS x.Names):=⟨by kernel_rfl,by kernel_rfl⟩
theorem Hw(x:aO):au Pg 76 (.eptr (aG x)) 2=some (.eptr ((aG x).drop 2)):=by kernel_rfl
theorem pz(x:aO):au Pg 76 (.eptr (aG x)) 2=some (.eptr ((aG x).drop 2))/\aC Pg 38 ((aG x).drop 2)=some (sl af x.Fields):=⟨by kernel_rfl,by kernel_rfl⟩
theorem pL(x:aO):aC Pg 9 ((aG x).drop 0)=some (.str x.Name):=by kernel_rfl
theorem HN(x:aO):aC Pg 38 ((aG x).drop 2)=some (sl af x.Fields):=by kernel_rfl
structure aM where
 Name:ai
 Vars:(List ai)
 Preds:(List ch)
 Cons:(List aO)
def ay(x:aM):List PVal:=[.str x.Name,sl cS x.Vars,sl bT x.Preds,sl aG x.Cons]
theorem kE(x:aM):ay x=[.str x.Name,sl cS x.Vars,sl bT x.Preds,sl aG x.Cons]:=rfl
theorem gZ(x:aM):dU 0 (ay x):=(aI vzz (aI (ba Ix x.Vars) (aI (ba yB x.Preds) (aI (ba lK x.Cons) trivial))))
abbrev Mu(x:aM):PVal:=.agg (ay x)
instance iK_tData{x:aM}:K0l (ay x):=⟨gZ x⟩
instance iE_tData:KE ay:=⟨gZ⟩
theorem As(x:aM):(ay x).length=4:=by rw[kE];rfl
theorem Nq(x:aM):bv (Mu x)=some (ay x):=rfl
theorem iy(x:aM):bv (.agg (ay x))=some [.str x.Name,sl cS x.Vars,sl bT x.Preds,sl aG x.Cons]:=by rw[kE];rfl
theorem Nf(x:aM):∀q∈ay x,q.one=true:=by
 intro q hq
 rw[kE]at hq
 simp only[vat,vaP,or_false]at hq
 rcases hq with rfl|rfl|rfl|rfl<;>rfl
theorem QF:Pg.cellsOf 74=4:=by kernel_rfl
theorem DQ(x:aM):aC Pg 74 (ay x)=some (.agg (ay x)):=by
 have:=gW (P:=Pg) (t:=74) (l:=ay x) (r:=[]) (by kernel_rfl) (QF.trans (As x).symm)
 rwa[vbe]at this
theorem Gx(x:aM)(r:List PVal):aC Pg 74 ([.str x.Name,sl cS x.Vars,sl bT x.Preds,sl aG x.Cons]++r)=some (.agg (ay x)):=by
 rw[<-kE];exact gW (by kernel_rfl) (QF.trans (As x).symm)
theorem vV(x:aM):PVal.agg [.str x.Name,sl cS x.Vars,sl bT x.Preds,sl aG x.Cons]=.agg (ay x):=by rw[kE]
theorem Dj:dF Pg 74 []=some (.agg (ay (⟨([]:ai),([]:List ai),([]:List ch),([]:List aO)⟩:aM))):=by
 kernel_rfl
theorem Di:tB Pg 74 [] [(1,9),(2,223),(3,76)]:=by
 exact⟨[.str ([]:ai),.val fB,.val fB,.val fB],by kernel_rfl,(aI rfl (aI rfl (aI rfl vzz)))⟩
theorem Hh(x0:ai)(x3:(List aO)):dF Pg 74 [(0,.str x0),(3,sl aG x3)]=some (.agg (ay (⟨x0,([]:List ai),([]:List ch),x3⟩:aM))):=by
 kernel_rfl
theorem Hf(x0:ai)(x3:(List aO)):tB Pg 74 [(0,.str x0),(3,sl aG x3)] [(1,9),(2,223)]:=by
 exact⟨[.str x0,.val fB,.val fB,sl aG x3],by kernel_rfl,(aI rfl (aI rfl vzz))⟩
theorem qb(x:aM):au Pg 74 (.eptr (ay x)) 0=some (.eptr ((ay x).drop 0)):=by kernel_rfl
theorem yM(x:aM):au Pg 74 (.eptr (ay x)) 0=some (.eptr ((ay x).drop 0))/\aC Pg 9 ((ay x).drop 0)=some (.str x.Name):=⟨by kernel_rfl,by kernel_rfl⟩
theorem xq(x:aM):au Pg 74 (.eptr (ay x)) 1=some (.eptr ((ay x).drop 1))/\aC Pg 32 ((ay x).drop 1)=some (sl cS x.Vars):=⟨by kernel_rfl,by kernel_rfl⟩
theorem xr(x:aM):au Pg 74 (.eptr (ay x)) 2=some (.eptr ((ay x).drop 2))/\aC Pg 71 ((ay x).drop 2)=some (sl bT x.Preds):=⟨by kernel_rfl,by kernel_rfl⟩
theorem Fj(x:aM):au Pg 74 (.eptr (ay x)) 3=some (.eptr ((ay x).drop 3)):=by kernel_rfl
theorem ke(x:aM):au Pg 74 (.eptr (ay x)) 3=some (.eptr ((ay x).drop 3))/\aC Pg 72 ((ay x).drop 3)=some (sl aG x.Cons):=⟨by kernel_rfl,by kernel_rfl⟩
theorem rU(x:aM):aC Pg 9 ((ay x).drop 0)=some (.str x.Name):=by kernel_rfl
theorem Ft(x:aM):aC Pg 72 ((ay x).drop 3)=some (sl aG x.Cons):=by kernel_rfl
structure nu where
 Name:ai
 Type_:ae
def cY(x:nu):List PVal:=[.str x.Name]++(af x.Type_)
theorem lc(x:nu):cY x=[.str x.Name,.int .i64 x.Type_.Op,.str x.Type_.Name,sl af x.Type_.Args,sl cS x.Type_.Names,.int .i64 x.Type_.Pred.Op,.str x.Type_.Pred.Name,.int .i64 x.Type_.Pred.N,sl aj x.Type_.Pred.Kids,sl aj x.Type_.Preds]:=by
 unfold cY
 simp only[aV,vaS,va3]
theorem Dl(x:nu):dU 0 (cY x):=by rw[lc];exact(aI vzz (aI vzz (aI vzz (aI (ba dD x.Type_.Args) (aI (ba Ix x.Type_.Names) (aI vzz (aI vzz (aI vzz (aI (ba dl x.Type_.Pred.Kids) (aI (ba dl x.Type_.Preds) trivial))))))))))
theorem Je(x:nu):(cY x).length=10:=by rw[lc];rfl
theorem Jn(x:nu):∀q∈cY x,q.one=true:=by
 intro q hq
 rw[lc]at hq
 simp only[vat,vaP,or_false]at hq
 rcases hq with rfl|rfl|rfl|rfl|rfl|rfl|rfl|rfl|rfl|rfl<;>rfl
theorem T1:Pg.cellsOf 82=10:=by kernel_rfl
theorem uF(x:nu):au Pg 82 (.eptr (cY x)) 1=some (.eptr ((cY x).drop 1))/\aC Pg 44 ((cY x).drop 1)=some (.agg (af x.Type_)):=⟨by rw[lc];kernel_rfl,by rw[lc,aV];kernel_rfl⟩
structure di where
 Name:ai
 Var:ai
 Methods:(List nu)
def bS(x:di):List PVal:=[.str x.Name,.str x.Var,sl cY x.Methods]
theorem Al(x:di):bS x=[.str x.Name,.str x.Var,sl cY x.Methods]:=rfl
theorem Ah(x:di):dU 0 (bS x):=(aI vzz (aI vzz (aI (ba Dl x.Methods) trivial)))
instance iE_tClass:KE bS:=⟨Ah⟩
theorem KK(x:di):(bS x).length=3:=by rw[Al];rfl
theorem KT(x:di):∀q∈bS x,q.one=true:=by
 intro q hq
 rw[Al]at hq
 simp only[vat,vaP,or_false]at hq
 rcases hq with rfl|rfl|rfl<;>rfl
theorem T0:Pg.cellsOf 80=3:=by kernel_rfl
theorem mQ(x:di):au Pg 80 (.eptr (bS x)) 2=some (.eptr ((bS x).drop 2))/\aC Pg 78 ((bS x).drop 2)=some (sl cY x.Methods):=⟨by kernel_rfl,by kernel_rfl⟩
structure vw where
 Class:ai
 Var:ai
deriving DecidableEq
def fP(x:vw):List PVal:=[.str x.Class,.str x.Var]
theorem DA(x:vw):fP x=[.str x.Class,.str x.Var]:=rfl
theorem Dm(x:vw):dU 0 (fP x):=(aI vzz (aI vzz vzz))
theorem M3(x:vw):(fP x).length=2:=by rw[DA];rfl
theorem Nh(x:vw):∀q∈fP x,q.one=true:=by
 intro q hq
 rw[DA]at hq
 simp only[vat,vaP,or_false]at hq
 rcases hq with rfl|rfl<;>rfl
theorem RN:Pg.cellsOf 228=2:=by kernel_rfl
structure cD where
 Name:ai
 Type_:ae
def aJ(x:cD):List PVal:=[.str x.Name]++(af x.Type_)
theorem iw(x:cD):aJ x=[.str x.Name,.int .i64 x.Type_.Op,.str x.Type_.Name,sl af x.Type_.Args,sl cS x.Type_.Names,.int .i64 x.Type_.Pred.Op,.str x.Type_.Pred.Name,.int .i64 x.Type_.Pred.N,sl aj x.Type_.Pred.Kids,sl aj x.Type_.Preds]:=by
 unfold aJ
 simp only[aV,vaS,va3]
theorem qB(x:cD):dU 0 (aJ x):=by rw[iw];exact(aI vzz (aI vzz (aI vzz (aI (ba dD x.Type_.Args) (aI (ba Ix x.Type_.Names) (aI vzz (aI vzz (aI vzz (aI (ba dl x.Type_.Pred.Kids) (aI (ba dl x.Type_.Preds) trivial))))))))))
instance iK_tParam{x:cD}:K0l (aJ x):=⟨qB x⟩
instance iE_tParam:KE aJ:=⟨qB⟩
theorem xB(x:cD):(aJ x).length=10:=by rw[iw];rfl
theorem GL(x:cD):bv (.agg (aJ x))=some (aJ x):=rfl
theorem D3(x:cD):bv (.agg (aJ x))=some [.str x.Name,.int .i64 x.Type_.Op,.str x.Type_.Name,sl af x.Type_.Args,sl cS x.Type_.Names,.int .i64 x.Type_.Pred.Op,.str x.Type_.Pred.Name,.int .i64 x.Type_.Pred.N,sl aj x.Type_.Pred.Kids,sl aj x.Type_.Preds]:=by rw[iw];rfl
theorem KU(x:cD):∀q∈aJ x,q.one=true:=by
 intro q hq
 rw[iw]at hq
 simp only[vat,vaP,or_false]at hq
 rcases hq with rfl|rfl|rfl|rfl|rfl|rfl|rfl|rfl|rfl|rfl<;>rfl
theorem QG:Pg.cellsOf 96=10:=by kernel_rfl
theorem Gv(x:cD):aC Pg 96 (aJ x)=some (.agg (aJ x)):=by
 have:=gW (P:=Pg) (t:=96) (l:=aJ x) (r:=[]) (by kernel_rfl) (QG.trans (xB x).symm)
 rwa[vbe]at this
theorem DR(x:cD)(r:List PVal):aC Pg 96 ([.str x.Name,.int .i64 x.Type_.Op,.str x.Type_.Name,sl af x.Type_.Args,sl cS x.Type_.Names,.int .i64 x.Type_.Pred.Op,.str x.Type_.Pred.Name,.int .i64 x.Type_.Pred.N,sl aj x.Type_.Pred.Kids,sl aj x.Type_.Preds]++r)=some (.agg (aJ x)):=by
 rw[<-iw];exact gW (by kernel_rfl) (QG.trans (xB x).symm)
theorem gQ(x:cD):au Pg 96 (.eptr (aJ x)) 0=some (.eptr ((aJ x).drop 0))/\aC Pg 9 ((aJ x).drop 0)=some (.str x.Name):=⟨by rw[iw];kernel_rfl,by rw[iw];kernel_rfl⟩
theorem gb(x:cD):au Pg 96 (.eptr (aJ x)) 1=some (.eptr ((aJ x).drop 1))/\aC Pg 44 ((aJ x).drop 1)=some (.agg (af x.Type_)):=⟨by rw[iw];kernel_rfl,by rw[iw,aV];kernel_rfl⟩
mutual
inductive al where
 |mk (Op:Int) (Name:ai) (N:Int) (Kids:(List al)) (Params:(List cD)) (Alts:(List dR)) (Types:(List ae))
inductive dR where
 |mk (Con:ai) (Names:(List ai)) (Body:al)
end
def al.Op:al->Int
 |⟨x,_,_,_,_,_,_⟩=>x
def al.Name:al->ai
 |⟨_,x,_,_,_,_,_⟩=>x
def al.N:al->Int
 |⟨_,_,x,_,_,_,_⟩=>x
def al.Kids:al->(List al)
 |⟨_,_,_,x,_,_,_⟩=>x
def al.Params:al->(List cD)
 |⟨_,_,_,_,x,_,_⟩=>x
def al.Alts:al->(List dR)
 |⟨_,_,_,_,_,x,_⟩=>x
def al.Types:al->(List ae)
 |⟨_,_,_,_,_,_,x⟩=>x
def dR.Con:dR->ai
 |⟨x,_,_⟩=>x
def dR.Names:dR->(List ai)
 |⟨_,x,_⟩=>x
def dR.Body:dR->al
 |⟨_,_,x⟩=>x
mutual
def ak:al->List PVal
 |⟨x0,x1,x2,x3,x4,x5,x6⟩=>[.int .i64 x0,.str x1,.int .i64 x2,.slice (pG x3),sl aJ x4,.slice (uJ x5),sl af x6]
def bm:dR->List PVal
 |⟨x0,x1,x2⟩=>[.str x0,sl cS x1]++(ak x2)
def pG:List al->List (List PVal)
 |[]=>[]
 |x::r=>ak x::pG r
def uJ:List dR->List (List PVal)
 |[]=>[]
 |x::r=>bm x::uJ r
end
theorem DL:∀(l:List al),pG l=l.map ak
 |[]=>by simp[pG]
 |x::r=>by simp[pG,DL r]
theorem Gt:∀(l:List dR),uJ l=l.map bm
 |[]=>by simp[uJ]
 |x::r=>by simp[uJ,Gt r]
mutual
theorem jK:∀(x:al),dU 0 (ak x)
 |⟨x0,x1,x2,x3,x4,x5,x6⟩=>by rw[ak];exact(aI vzz (aI vzz (aI vzz (aI (Gj x3) (aI (ba qB x4) (aI (IU x5) (aI (ba dD x6) trivial)))))))
theorem yA:∀(x:dR),dU 0 (bm x)
 |⟨x0,x1,x2⟩=>by rw[bm];exact la.2 (aI ((aI vzz (aI (ba Ix x1) trivial))) (jK x2))
theorem Gj:∀(l:List al),lV 0 (pG l)
 |[]=>by simp[pG,lV]
 |x::r=>by rw[pG];exact⟨jK x,Gj r⟩
theorem IU:∀(l:List dR),lV 0 (uJ l)
 |[]=>by simp[uJ,lV]
 |x::r=>by rw[uJ];exact⟨yA x,IU r⟩
end
theorem ce:∀(x:al),ak x=[.int .i64 x.Op,.str x.Name,.int .i64 x.N,sl ak x.Kids,sl aJ x.Params,sl bm x.Alts,sl af x.Types]
 |⟨x0,x1,x2,x3,x4,x5,x6⟩=>by
  simp only[ak,DL,Gt]
  rfl
instance iK_tExpr{x:al}:K0l (ak x):=⟨jK x⟩
instance iE_tExpr:KE ak:=⟨jK⟩
theorem Au(x:al):(ak x).length=7:=by rw[ce];rfl
theorem y0(x:al):bv (.agg (ak x))=some (ak x):=rfl
theorem GN(x:al):bv (.agg (ak x))=some [.int .i64 x.Op,.str x.Name,.int .i64 x.N,sl ak x.Kids,sl aJ x.Params,sl bm x.Alts,sl af x.Types]:=by rw[ce];rfl
theorem Ng(x:al):∀q∈ak x,q.one=true:=by
 intro q hq
 rw[ce]at hq
 simp only[vat,vaP,or_false]at hq
 rcases hq with rfl|rfl|rfl|rfl|rfl|rfl|rfl<;>rfl
theorem QE:Pg.cellsOf 52=7:=by kernel_rfl
theorem QH:Pg.cellsOf 98=9:=by kernel_rfl
theorem uK(x:al):aC Pg 52 (ak x)=some (.agg (ak x)):=by
 have:=gW (P:=Pg) (t:=52) (l:=ak x) (r:=[]) (by kernel_rfl) (QE.trans (Au x).symm)
 rwa[vbe]at this
theorem Gy(x:al)(r:List PVal):aC Pg 52 ([.int .i64 x.Op,.str x.Name,.int .i64 x.N,sl ak x.Kids,sl aJ x.Params,sl bm x.Alts,sl af x.Types]++r)=some (.agg (ak x)):=by
 rw[<-ce];exact gW (by kernel_rfl) (QE.trans (Au x).symm)
theorem od(x:al):au Pg 52 (.eptr (ak x)) 0=some (.eptr ((ak x).drop 0))/\aC Pg 48 ((ak x).drop 0)=some (.int .i64 x.Op):=⟨by rw[ce];kernel_rfl,by rw[ce];kernel_rfl⟩
theorem iQ(x:al):au Pg 52 (.eptr (ak x)) 1=some (.eptr ((ak x).drop 1))/\aC Pg 9 ((ak x).drop 1)=some (.str x.Name):=⟨by rw[ce];kernel_rfl,by rw[ce];kernel_rfl⟩
theorem pA(x:al):au Pg 52 (.eptr (ak x)) 2=some (.eptr ((ak x).drop 2))/\aC Pg 3 ((ak x).drop 2)=some (.int .i64 x.N):=⟨by rw[ce];kernel_rfl,by rw[ce];kernel_rfl⟩
theorem eb(x:al):au Pg 52 (.eptr (ak x)) 3=some (.eptr ((ak x).drop 3))/\aC Pg 33 ((ak x).drop 3)=some (sl ak x.Kids):=⟨by rw[ce];kernel_rfl,by rw[ce];kernel_rfl⟩
theorem cH(x:al):au Pg 52 (.eptr (ak x)) 4=some (.eptr ((ak x).drop 4))/\aC Pg 49 ((ak x).drop 4)=some (sl aJ x.Params):=⟨by rw[ce];kernel_rfl,by rw[ce];kernel_rfl⟩
theorem ct(x:al):au Pg 52 (.eptr (ak x)) 5=some (.eptr ((ak x).drop 5))/\aC Pg 50 ((ak x).drop 5)=some (sl bm x.Alts):=⟨by rw[ce];kernel_rfl,by rw[ce];kernel_rfl⟩
theorem gP(x:al):au Pg 52 (.eptr (ak x)) 6=some (.eptr ((ak x).drop 6))/\aC Pg 38 ((ak x).drop 6)=some (sl af x.Types):=⟨by rw[ce];kernel_rfl,by rw[ce];kernel_rfl⟩
theorem jW:∀(x:dR),bm x=[.str x.Con,sl cS x.Names,.int .i64 x.Body.Op,.str x.Body.Name,.int .i64 x.Body.N,sl ak x.Body.Kids,sl aJ x.Body.Params,sl bm x.Body.Alts,sl af x.Body.Types]
 |⟨x0,x1,x2⟩=>by
  simp only[bm,ce,vaS,va3]
  rfl
instance iK_tAlt{x:dR}:K0l (bm x):=⟨yA x⟩
instance iE_tAlt:KE bm:=⟨yA⟩
theorem DP(x:dR):(bm x).length=9:=by rw[jW];rfl
theorem Me(x:dR):bv (.agg (bm x))=some (bm x):=rfl
theorem Ju(x:dR):bv (.agg (bm x))=some [.str x.Con,sl cS x.Names,.int .i64 x.Body.Op,.str x.Body.Name,.int .i64 x.Body.N,sl ak x.Body.Kids,sl aJ x.Body.Params,sl bm x.Body.Alts,sl af x.Body.Types]:=by rw[jW];rfl
theorem Ps(x:dR):∀q∈bm x,q.one=true:=by
 intro q hq
 rw[jW]at hq
 simp only[vat,vaP,or_false]at hq
 rcases hq with rfl|rfl|rfl|rfl|rfl|rfl|rfl|rfl|rfl<;>rfl
theorem L2(x:dR):aC Pg 98 (bm x)=some (.agg (bm x)):=by
 have:=gW (P:=Pg) (t:=98) (l:=bm x) (r:=[]) (by kernel_rfl) (QH.trans (DP x).symm)
 rwa[vbe]at this
theorem Jh(x:dR)(r:List PVal):aC Pg 98 ([.str x.Con,sl cS x.Names,.int .i64 x.Body.Op,.str x.Body.Name,.int .i64 x.Body.N,sl ak x.Body.Kids,sl aJ x.Body.Params,sl bm x.Body.Alts,sl af x.Body.Types]++r)=some (.agg (bm x)):=by
 rw[<-jW];exact gW (by kernel_rfl) (QH.trans (DP x).symm)
theorem lh(x:dR):au Pg 98 (.eptr (bm x)) 0=some (.eptr ((bm x).drop 0))/\aC Pg 9 ((bm x).drop 0)=some (.str x.Con):=⟨by rw[jW];kernel_rfl,by rw[jW];kernel_rfl⟩
theorem iO(x:dR):au Pg 98 (.eptr (bm x)) 1=some (.eptr ((bm x).drop 1))/\aC Pg 32 ((bm x).drop 1)=some (sl cS x.Names):=⟨by rw[jW];kernel_rfl,by rw[jW];kernel_rfl⟩
theorem iP(x:dR):au Pg 98 (.eptr (bm x)) 2=some (.eptr ((bm x).drop 2))/\aC Pg 52 ((bm x).drop 2)=some (.agg (ak x.Body)):=⟨by rw[jW];kernel_rfl,by rw[jW,ce];kernel_rfl⟩
structure FK where
 Name:ai
 Sort_:ai
deriving DecidableEq
def kB(x:FK):List PVal:=[.str x.Name,.str x.Sort_]
theorem Hs(x:FK):kB x=[.str x.Name,.str x.Sort_]:=rfl
theorem LH(x:FK):dU 0 (kB x):=(aI vzz (aI vzz vzz))
theorem O1(x:FK):(kB x).length=2:=by rw[Hs];rfl
theorem Pr(x:FK):∀q∈kB x,q.one=true:=by
 intro q hq
 rw[Hs]at hq
 simp only[vat,vaP,or_false]at hq
 rcases hq with rfl|rfl<;>rfl
theorem RO:Pg.cellsOf 229=2:=by kernel_rfl
structure kT where
 Name:ai
 Vars:(List ch)
 Hyp:ah
 Goal:ah
def bZ(x:kT):List PVal:=[.str x.Name,sl bT x.Vars]++(aj x.Hyp++(aj x.Goal))
theorem iv(x:kT):bZ x=[.str x.Name,sl bT x.Vars,.int .i64 x.Hyp.Op,.str x.Hyp.Name,.int .i64 x.Hyp.N,sl aj x.Hyp.Kids,.int .i64 x.Goal.Op,.str x.Goal.Name,.int .i64 x.Goal.N,sl aj x.Goal.Kids]:=by
 unfold bZ
 simp only[bG,vaS,va3]
theorem Gh(x:kT):dU 0 (bZ x):=by rw[iv];exact(aI vzz (aI (ba yB x.Vars) (aI vzz (aI vzz (aI vzz (aI (ba dl x.Hyp.Kids) (aI vzz (aI vzz (aI vzz (aI (ba dl x.Goal.Kids) trivial))))))))))
theorem KI(x:kT):(bZ x).length=10:=by rw[iv];rfl
theorem KR(x:kT):∀q∈bZ x,q.one=true:=by
 intro q hq
 rw[iv]at hq
 simp only[vat,vaP,or_false]at hq
 rcases hq with rfl|rfl|rfl|rfl|rfl|rfl|rfl|rfl|rfl|rfl<;>rfl
theorem RL:Pg.cellsOf 140=10:=by kernel_rfl
theorem uB(x:kT):au Pg 140 (.eptr (bZ x)) 1=some (.eptr ((bZ x).drop 1))/\aC Pg 71 ((bZ x).drop 1)=some (sl bT x.Vars):=⟨by rw[iv];kernel_rfl,by rw[iv];kernel_rfl⟩
theorem uC(x:kT):au Pg 140 (.eptr (bZ x)) 2=some (.eptr ((bZ x).drop 2))/\aC Pg 42 ((bZ x).drop 2)=some (.agg (aj x.Hyp)):=⟨by rw[iv];kernel_rfl,by rw[iv,bG];kernel_rfl⟩
theorem uD(x:kT):au Pg 140 (.eptr (bZ x)) 3=some (.eptr ((bZ x).drop 6))/\aC Pg 42 ((bZ x).drop 6)=some (.agg (aj x.Goal)):=⟨by rw[iv];kernel_rfl,by rw[iv,bG];kernel_rfl⟩
structure NN where
 Vars:(List ai)
 Needs:(List vw)
 Abs:(List FK)
 Bounds:(List kT)
 Type_:ae
 Metric:(List ah)
def rI(x:NN):List PVal:=[sl cS x.Vars,sl fP x.Needs,sl kB x.Abs,sl bZ x.Bounds]++(af x.Type_++([sl aj x.Metric]))
theorem yK(x:NN):rI x=[sl cS x.Vars,sl fP x.Needs,sl kB x.Abs,sl bZ x.Bounds,.int .i64 x.Type_.Op,.str x.Type_.Name,sl af x.Type_.Args,sl cS x.Type_.Names,.int .i64 x.Type_.Pred.Op,.str x.Type_.Pred.Name,.int .i64 x.Type_.Pred.N,sl aj x.Type_.Pred.Kids,sl aj x.Type_.Preds,sl aj x.Metric]:=by
 unfold rI
 simp only[aV,vaS,va3]
theorem PC(x:NN):bv (.agg (rI x))=some [sl cS x.Vars,sl fP x.Needs,sl kB x.Abs,sl bZ x.Bounds,.int .i64 x.Type_.Op,.str x.Type_.Name,sl af x.Type_.Args,sl cS x.Type_.Names,.int .i64 x.Type_.Pred.Op,.str x.Type_.Pred.Name,.int .i64 x.Type_.Pred.N,sl aj x.Type_.Pred.Kids,sl aj x.Type_.Preds,sl aj x.Metric]:=by rw[yK];rfl
structure ga where
 Name:ai
 Params:(List ai)
 Body:al
 Mode:Int
 Typed:Bool
 Sig:NN
def bI(x:ga):List PVal:=[.str x.Name,sl cS x.Params]++(ak x.Body++([.int .i64 x.Mode,.bool x.Typed]++(rI x.Sig)))
theorem jX(x:ga):bI x=[.str x.Name,sl cS x.Params,.int .i64 x.Body.Op,.str x.Body.Name,.int .i64 x.Body.N,sl ak x.Body.Kids,sl aJ x.Body.Params,sl bm x.Body.Alts,sl af x.Body.Types,.int .i64 x.Mode,.bool x.Typed,sl cS x.Sig.Vars,sl fP x.Sig.Needs,sl kB x.Sig.Abs,sl bZ x.Sig.Bounds,.int .i64 x.Sig.Type_.Op,.str x.Sig.Type_.Name,sl af x.Sig.Type_.Args,sl cS x.Sig.Type_.Names,.int .i64 x.Sig.Type_.Pred.Op,.str x.Sig.Type_.Pred.Name,.int .i64 x.Sig.Type_.Pred.N,sl aj x.Sig.Type_.Pred.Kids,sl aj x.Sig.Type_.Preds,sl aj x.Sig.Metric]:=by
 unfold bI
 simp only[ce,yK,vaS,va3]
theorem Cv(x:ga):dU 0 (bI x):=by rw[jX];exact(aI vzz (aI (ba Ix x.Params) (aI vzz (aI vzz (aI vzz (aI (ba jK x.Body.Kids) (aI (ba qB x.Body.Params) (aI (ba yA x.Body.Alts) (aI (ba dD x.Body.Types) (aI vzz (aI vzz (aI (ba Ix x.Sig.Vars) (aI (ba Dm x.Sig.Needs) (aI (ba LH x.Sig.Abs) (aI (ba Gh x.Sig.Bounds) (aI vzz (aI vzz (aI (ba dD x.Sig.Type_.Args) (aI (ba Ix x.Sig.Type_.Names) (aI vzz (aI vzz (aI vzz (aI (ba dl x.Sig.Type_.Pred.Kids) (aI (ba dl x.Sig.Type_.Preds) (aI (ba dl x.Sig.Metric) trivial)))))))))))))))))))))))))
instance iE_tDef:KE bI:=⟨Cv⟩
theorem O2(x:ga):(bI x).length=25:=by rw[jX];rfl
theorem Pu(x:ga):∀q∈bI x,q.one=true:=by
 intro q hq
 rw[jX]at hq
 simp only[vat,vaP,or_false]at hq
 rcases hq with rfl|rfl|rfl|rfl|rfl|rfl|rfl|rfl|rfl|rfl|rfl|rfl|rfl|rfl|rfl|rfl|rfl|rfl|rfl|rfl|rfl|rfl|rfl|rfl|rfl<;>rfl
theorem RK:Pg.cellsOf 131=25:=by kernel_rfl
theorem yN(x:ga):au Pg 131 (.eptr (bI x)) 0=some (.eptr ((bI x).drop 0))/\aC Pg 9 ((bI x).drop 0)=some (.str x.Name):=⟨by rw[jX];kernel_rfl,by rw[jX];kernel_rfl⟩
theorem xt(x:ga):au Pg 131 (.eptr (bI x)) 1=some (.eptr ((bI x).drop 1))/\aC Pg 32 ((bI x).drop 1)=some (sl cS x.Params):=⟨by rw[jX];kernel_rfl,by rw[jX];kernel_rfl⟩
theorem xu(x:ga):au Pg 131 (.eptr (bI x)) 2=some (.eptr ((bI x).drop 2))/\aC Pg 52 ((bI x).drop 2)=some (.agg (ak x.Body)):=⟨by rw[jX];kernel_rfl,by rw[jX,ce];kernel_rfl⟩
theorem uE(x:ga):au Pg 131 (.eptr (bI x)) 5=some (.eptr ((bI x).drop 11))/\aC Pg 128 ((bI x).drop 11)=some (.agg (rI x.Sig)):=⟨by rw[jX];kernel_rfl,by rw[jX,yK];kernel_rfl⟩
structure bB where
 Class:ai
 Type_:ae
 Needs:(List vw)
 Defs:(List ga)
def aH(x:bB):List PVal:=[.str x.Class]++(af x.Type_++([sl fP x.Needs,sl bI x.Defs]))
theorem ei(x:bB):aH x=[.str x.Class,.int .i64 x.Type_.Op,.str x.Type_.Name,sl af x.Type_.Args,sl cS x.Type_.Names,.int .i64 x.Type_.Pred.Op,.str x.Type_.Pred.Name,.int .i64 x.Type_.Pred.N,sl aj x.Type_.Pred.Kids,sl aj x.Type_.Preds,sl fP x.Needs,sl bI x.Defs]:=by
 unfold aH
 simp only[aV,vaS,va3]
theorem rJ(x:bB):dU 0 (aH x):=by rw[ei];exact(aI vzz (aI vzz (aI vzz (aI (ba dD x.Type_.Args) (aI (ba Ix x.Type_.Names) (aI vzz (aI vzz (aI vzz (aI (ba dl x.Type_.Pred.Kids) (aI (ba dl x.Type_.Preds) (aI (ba Dm x.Needs) (aI (ba Cv x.Defs) trivial))))))))))))
instance iE_tInstance:KE aH:=⟨rJ⟩
theorem Fs(x:bB):(aH x).length=12:=by rw[ei];rfl
theorem Fw(x:bB):∀q∈aH x,q.one=true:=by
 intro q hq
 rw[ei]at hq
 simp only[vat,vaP,or_false]at hq
 rcases hq with rfl|rfl|rfl|rfl|rfl|rfl|rfl|rfl|rfl|rfl|rfl|rfl<;>rfl
theorem T3:Pg.cellsOf 85=12:=by kernel_rfl
theorem rO(x:bB):au Pg 85 (.eptr (aH x)) 1=some (.eptr ((aH x).drop 1))/\aC Pg 44 ((aH x).drop 1)=some (.agg (af x.Type_)):=⟨by rw[ei];kernel_rfl,by rw[ei,aV];kernel_rfl⟩
theorem qD(x:bB):au Pg 85 (.eptr (aH x)) 2=some (.eptr ((aH x).drop 10))/\aC Pg 83 ((aH x).drop 10)=some (sl fP x.Needs):=⟨by rw[ei];kernel_rfl,by rw[ei];kernel_rfl⟩
theorem qE(x:bB):au Pg 85 (.eptr (aH x)) 3=some (.eptr ((aH x).drop 11))/\aC Pg 27 ((aH x).drop 11)=some (sl bI x.Defs):=⟨by rw[ei];kernel_rfl,by rw[ei];kernel_rfl⟩
structure wO where
 Con:ai
 Names:(List ai)
 Body:ah
def ef(x:wO):List PVal:=[.str x.Con,sl cS x.Names]++(aj x.Body)
theorem mc(x:wO):ef x=[.str x.Con,sl cS x.Names,.int .i64 x.Body.Op,.str x.Body.Name,.int .i64 x.Body.N,sl aj x.Body.Kids]:=by
 unfold ef
 simp only[bG,vaS,va3]
theorem IT(x:wO):dU 0 (ef x):=by rw[mc];exact(aI vzz (aI (ba Ix x.Names) (aI vzz (aI vzz (aI vzz (aI (ba dl x.Body.Kids) trivial))))))
theorem M2(x:wO):(ef x).length=6:=by rw[mc];rfl
theorem Nd(x:wO):∀q∈ef x,q.one=true:=by
 intro q hq
 rw[mc]at hq
 simp only[vat,vaP,or_false]at hq
 rcases hq with rfl|rfl|rfl|rfl|rfl|rfl<;>rfl
theorem T6:Pg.cellsOf 92=6:=by kernel_rfl
theorem xo(x:wO):au Pg 92 (.eptr (ef x)) 1=some (.eptr ((ef x).drop 1))/\aC Pg 32 ((ef x).drop 1)=some (sl cS x.Names):=⟨by rw[mc];kernel_rfl,by rw[mc];kernel_rfl⟩
theorem xp(x:wO):au Pg 92 (.eptr (ef x)) 2=some (.eptr ((ef x).drop 2))/\aC Pg 42 ((ef x).drop 2)=some (.agg (aj x.Body)):=⟨by rw[mc];kernel_rfl,by rw[mc,bG];kernel_rfl⟩
structure bP where
 Name:ai
 Data:ai
 Result:ai
 Cases:(List wO)
 Inv:ah
def aX(x:bP):List PVal:=[.str x.Name,.str x.Data,.str x.Result,sl ef x.Cases]++(aj x.Inv)
theorem gF(x:bP):aX x=[.str x.Name,.str x.Data,.str x.Result,sl ef x.Cases,.int .i64 x.Inv.Op,.str x.Inv.Name,.int .i64 x.Inv.N,sl aj x.Inv.Kids]:=by
 unfold aX
 simp only[bG,vaS,va3]
theorem uq(x:bP):dU 0 (aX x):=by rw[gF];exact(aI vzz (aI vzz (aI vzz (aI (ba IT x.Cases) (aI vzz (aI vzz (aI vzz (aI (ba dl x.Inv.Kids) trivial))))))))
instance iE_tMeasure:KE aX:=⟨uq⟩
theorem HL(x:bP):(aX x).length=8:=by rw[gF];rfl
theorem HY(x:bP):∀q∈aX x,q.one=true:=by
 intro q hq
 rw[gF]at hq
 simp only[vat,vaP,or_false]at hq
 rcases hq with rfl|rfl|rfl|rfl|rfl|rfl|rfl|rfl<;>rfl
theorem T4:Pg.cellsOf 90=8:=by kernel_rfl
theorem iz(x:bP):au Pg 90 (.eptr (aX x)) 3=some (.eptr ((aX x).drop 3))/\aC Pg 88 ((aX x).drop 3)=some (sl ef x.Cases):=⟨by rw[gF];kernel_rfl,by rw[gF];kernel_rfl⟩
theorem tA(x:bP):au Pg 90 (.eptr (aX x)) 4=some (.eptr ((aX x).drop 4))/\aC Pg 42 ((aX x).drop 4)=some (.agg (aj x.Inv)):=⟨by rw[gF];kernel_rfl,by rw[gF,bG];kernel_rfl⟩
structure eY where
 Name:ai
 Vars:(List ch)
 Body:ah
def ca(x:eY):List PVal:=[.str x.Name,sl bT x.Vars]++(aj x.Body)
theorem mf(x:eY):ca x=[.str x.Name,sl bT x.Vars,.int .i64 x.Body.Op,.str x.Body.Name,.int .i64 x.Body.N,sl aj x.Body.Kids]:=by
 unfold ca
 simp only[bG,vaS,va3]
theorem Dn(x:eY):dU 0 (ca x):=by rw[mf];exact(aI vzz (aI (ba yB x.Vars) (aI vzz (aI vzz (aI vzz (aI (ba dl x.Body.Kids) trivial))))))
instance iE_tQual:KE ca:=⟨Dn⟩
theorem M4(x:eY):(ca x).length=6:=by rw[mf];rfl
theorem Nj(x:eY):∀q∈ca x,q.one=true:=by
 intro q hq
 rw[mf]at hq
 simp only[vat,vaP,or_false]at hq
 rcases hq with rfl|rfl|rfl|rfl|rfl|rfl<;>rfl
theorem T7:Pg.cellsOf 94=6:=by kernel_rfl
theorem xv(x:eY):au Pg 94 (.eptr (ca x)) 1=some (.eptr ((ca x).drop 1))/\aC Pg 71 ((ca x).drop 1)=some (sl bT x.Vars):=⟨by rw[mf];kernel_rfl,by rw[mf];kernel_rfl⟩
theorem xw(x:eY):au Pg 94 (.eptr (ca x)) 2=some (.eptr ((ca x).drop 2))/\aC Pg 42 ((ca x).drop 2)=some (.agg (aj x.Body)):=⟨by rw[mf];kernel_rfl,by rw[mf,bG];kernel_rfl⟩
structure am where
 Datas:(List aM)
 Classes:(List di)
 Instances:(List bB)
 Measures:(List bP)
 Quals:(List eY)
 Defs:(List ga)
def aq(x:am):List PVal:=[sl ay x.Datas,sl bS x.Classes,sl aH x.Instances,sl aX x.Measures,sl ca x.Quals,sl bI x.Defs]
theorem rN(x:am):aq x=[sl ay x.Datas,sl bS x.Classes,sl aH x.Instances,sl aX x.Measures,sl ca x.Quals,sl bI x.Defs]:=rfl
theorem rK(x:am):dU 0 (aq x):=(aI (ba gZ x.Datas) (aI (ba Ah x.Classes) (aI (ba rJ x.Instances) (aI (ba uq x.Measures) (aI (ba Dn x.Quals) (aI (ba Cv x.Defs) trivial))))))
instance iK_tModule{x:am}:K0l (aq x):=⟨rK x⟩
theorem ko(x:am):(aq x).length=6:=by rw[rN];rfl
theorem fU(x:am):bv (.agg (aq x))=some (aq x):=rfl
theorem TZ:Pg.cellsOf 29=6:=by kernel_rfl
theorem eJ(x:am):aC Pg 29 (aq x)=some (.agg (aq x)):=by
 have:=gW (P:=Pg) (t:=29) (l:=aq x) (r:=[]) (by kernel_rfl) (TZ.trans (ko x).symm)
 rwa[vbe]at this
theorem gG(x:am)(r:List PVal):aC Pg 29 ([sl ay x.Datas,sl bS x.Classes,sl aH x.Instances,sl aX x.Measures,sl ca x.Quals,sl bI x.Defs]++r)=some (.agg (aq x)):=by
 rw[<-rN];exact gW (by kernel_rfl) (TZ.trans (ko x).symm)
theorem Hi(x0:(List aM)):dF Pg 29 [(0,sl ay x0)]=some (.agg (aq (⟨x0,([]:List di),([]:List bB),([]:List bP),([]:List eY),([]:List ga)⟩:am))):=by
 kernel_rfl
theorem Hg(x0:(List aM)):tB Pg 29 [(0,sl ay x0)] [(1,80),(2,85),(3,90),(4,94),(5,131)]:=by
 exact⟨[sl ay x0,.val fB,.val fB,.val fB,.val fB,.val fB],by kernel_rfl,(aI rfl (aI rfl (aI rfl (aI rfl (aI rfl vzz)))))⟩
theorem bO(x:am):au Pg 29 (.eptr (aq x)) 0=some (.eptr ((aq x).drop 0))/\aC Pg 22 ((aq x).drop 0)=some (sl ay x.Datas):=⟨by kernel_rfl,by kernel_rfl⟩
theorem fQ(x:am):au Pg 29 (.eptr (aq x)) 1=some (.eptr ((aq x).drop 1))/\aC Pg 23 ((aq x).drop 1)=some (sl bS x.Classes):=⟨by kernel_rfl,by kernel_rfl⟩
theorem eu(x:am):au Pg 29 (.eptr (aq x)) 2=some (.eptr ((aq x).drop 2))/\aC Pg 24 ((aq x).drop 2)=some (sl aH x.Instances):=⟨by kernel_rfl,by kernel_rfl⟩
theorem dm(x:am):au Pg 29 (.eptr (aq x)) 3=some (.eptr ((aq x).drop 3))/\aC Pg 25 ((aq x).drop 3)=some (sl aX x.Measures):=⟨by kernel_rfl,by kernel_rfl⟩
theorem fR(x:am):au Pg 29 (.eptr (aq x)) 4=some (.eptr ((aq x).drop 4))/\aC Pg 26 ((aq x).drop 4)=some (sl ca x.Quals):=⟨by kernel_rfl,by kernel_rfl⟩
theorem mg(x:am):au Pg 29 (.eptr (aq x)) 5=some (.eptr ((aq x).drop 5))/\aC Pg 27 ((aq x).drop 5)=some (sl bI x.Defs):=⟨by kernel_rfl,by kernel_rfl⟩
mutual
inductive aa where
 |mk (Op:Int) (N:Int) (Name:ai) (Kids:(List aa)) (Params:(List ai)) (Body:(List al)) (Binds:(List aB))
inductive aB where
 |mk (Name:ai) (Value:aa)
end
def aa.Op:aa->Int
 |⟨x,_,_,_,_,_,_⟩=>x
def aa.N:aa->Int
 |⟨_,x,_,_,_,_,_⟩=>x
def aa.Name:aa->ai
 |⟨_,_,x,_,_,_,_⟩=>x
def aa.Kids:aa->(List aa)
 |⟨_,_,_,x,_,_,_⟩=>x
def aa.Params:aa->(List ai)
 |⟨_,_,_,_,x,_,_⟩=>x
def aa.Body:aa->(List al)
 |⟨_,_,_,_,_,x,_⟩=>x
def aa.Binds:aa->(List aB)
 |⟨_,_,_,_,_,_,x⟩=>x
def aB.Name:aB->ai
 |⟨x,_⟩=>x
def aB.Value:aB->aa
 |⟨_,x⟩=>x
mutual
def ac:aa->List PVal
 |⟨x0,x1,x2,x3,x4,x5,x6⟩=>[.int .i64 x0,.int .i64 x1,.str x2,.slice (mj x3),sl cS x4,sl ak x5,.slice (pF x6)]
def aP:aB->List PVal
 |⟨x0,x1⟩=>[.str x0]++(ac x1)
def mj:List aa->List (List PVal)
 |[]=>[]
 |x::r=>ac x::mj r
def pF:List aB->List (List PVal)
 |[]=>[]
 |x::r=>aP x::pF r
end
theorem Bt:∀(l:List aa),mj l=l.map ac
 |[]=>by simp[mj]
 |x::r=>by simp[mj,Bt r]
theorem DK:∀(l:List aB),pF l=l.map aP
 |[]=>by simp[pF]
 |x::r=>by simp[pF,DK r]
mutual
theorem cq:∀(x:aa),dU 0 (ac x)
 |⟨x0,x1,x2,x3,x4,x5,x6⟩=>by rw[ac];exact(aI vzz (aI vzz (aI vzz (aI (Do x3) (aI (ba Ix x4) (aI (ba jK x5) (aI (Gi x6) trivial)))))))
theorem nZ:∀(x:aB),dU 0 (aP x)
 |⟨x0,x1⟩=>by rw[aP];exact la.2 (aI ((aI vzz vzz)) (cq x1))
theorem Do:∀(l:List aa),lV 0 (mj l)
 |[]=>by simp[mj,lV]
 |x::r=>by rw[mj];exact⟨cq x,Do r⟩
theorem Gi:∀(l:List aB),lV 0 (pF l)
 |[]=>by simp[pF,lV]
 |x::r=>by rw[pF];exact⟨nZ x,Gi r⟩
end
theorem aZ:∀(x:aa),ac x=[.int .i64 x.Op,.int .i64 x.N,.str x.Name,sl ac x.Kids,sl cS x.Params,sl ak x.Body,sl aP x.Binds]
 |⟨x0,x1,x2,x3,x4,x5,x6⟩=>by
  simp only[ac,Bt,DK]
  rfl
abbrev oJ(x:aa):PVal:=.agg (ac x)
instance iK_tValue{x:aa}:K0l (ac x):=⟨cq x⟩
instance iE_tValue:KE ac:=⟨cq⟩
theorem xC(x:aa):(ac x).length=7:=by rw[aZ];rfl
theorem dP(x:aa):bv (.agg (ac x))=some (ac x):=rfl
theorem lm(x:aa):bv (oJ x)=some (ac x):=rfl
theorem dG(x:aa):bv (.agg (ac x))=some [.int .i64 x.Op,.int .i64 x.N,.str x.Name,sl ac x.Kids,sl cS x.Params,sl ak x.Body,sl aP x.Binds]:=by rw[aZ];rfl
theorem KW(x:aa):∀q∈ac x,q.one=true:=by
 intro q hq
 rw[aZ]at hq
 simp only[vat,vaP,or_false]at hq
 rcases hq with rfl|rfl|rfl|rfl|rfl|rfl|rfl<;>rfl
theorem QB:Pg.cellsOf 36=7:=by kernel_rfl
theorem LL:Pg.cellsOf 113=8:=by kernel_rfl
theorem aK(x:aa):aC Pg 36 (ac x)=some (.agg (ac x)):=by
 have:=gW (P:=Pg) (t:=36) (l:=ac x) (r:=[]) (by kernel_rfl) (QB.trans (xC x).symm)
 rwa[vbe]at this
theorem aF(x:aa)(r:List PVal):aC Pg 36 ([.int .i64 x.Op,.int .i64 x.N,.str x.Name,sl ac x.Kids,sl cS x.Params,sl ak x.Body,sl aP x.Binds]++r)=some (.agg (ac x)):=by
 rw[<-aZ];exact gW (by kernel_rfl) (QB.trans (xC x).symm)
theorem El(x:aa):PVal.agg [.int .i64 x.Op,.int .i64 x.N,.str x.Name,sl ac x.Kids,sl cS x.Params,sl ak x.Body,sl aP x.Binds]=.agg (ac x):=by rw[aZ]
theorem lJ(x0:Int)(x1:Int):dF Pg 36 [(0,.int .i64 x0),(1,.int .i64 x1)]=some (.agg (ac (⟨x0,x1,([]:ai),([]:List aa),([]:List ai),([]:List al),([]:List aB)⟩:aa))):=by
 simp only[aZ]
 kernel_rfl
theorem lH(x0:Int)(x1:Int):tB Pg 36 [(0,.int .i64 x0),(1,.int .i64 x1)] [(3,36),(4,9),(5,52),(6,113)]:=by
 exact⟨[.int .i64 x0,.int .i64 x1,.str ([]:ai),.val fB,.val fB,.val fB,.val fB],by kernel_rfl,(aI rfl (aI rfl (aI rfl (aI rfl vzz))))⟩
theorem E5(x0:Int)(x2:ai):dF Pg 36 [(0,.int .i64 x0),(2,.str x2)]=some (.agg (ac (⟨x0,0,x2,([]:List aa),([]:List ai),([]:List al),([]:List aB)⟩:aa))):=by
 simp only[aZ]
 kernel_rfl
theorem E3(x0:Int)(x2:ai):tB Pg 36 [(0,.int .i64 x0),(2,.str x2)] [(3,36),(4,9),(5,52),(6,113)]:=by
 exact⟨[.int .i64 x0,.int .i64 0,.str x2,.val fB,.val fB,.val fB,.val fB],by kernel_rfl,(aI rfl (aI rfl (aI rfl (aI rfl vzz))))⟩
theorem sH(x0:Int)(x2:ai)(x3:(List aa)):dF Pg 36 [(0,.int .i64 x0),(2,.str x2),(3,sl ac x3)]=some (.agg (ac (⟨x0,0,x2,x3,([]:List ai),([]:List al),([]:List aB)⟩:aa))):=by
 simp only[aZ]
 kernel_rfl
theorem Ck(x0:Int)(x2:ai)(x3:(List aa)):tB Pg 36 [(0,.int .i64 x0),(2,.str x2),(3,sl ac x3)] [(4,9),(5,52),(6,113)]:=by
 exact⟨[.int .i64 x0,.int .i64 0,.str x2,sl ac x3,.val fB,.val fB,.val fB],by kernel_rfl,(aI rfl (aI rfl (aI rfl vzz)))⟩
theorem IM(x0:Int):dF Pg 36 [(0,.int .i64 x0)]=some (.agg (ac (⟨x0,0,([]:ai),([]:List aa),([]:List ai),([]:List al),([]:List aB)⟩:aa))):=by
 simp only[aZ]
 kernel_rfl
theorem IK(x0:Int):tB Pg 36 [(0,.int .i64 x0)] [(3,36),(4,9),(5,52),(6,113)]:=by
 exact⟨[.int .i64 x0,.int .i64 0,.str ([]:ai),.val fB,.val fB,.val fB,.val fB],by kernel_rfl,(aI rfl (aI rfl (aI rfl (aI rfl vzz))))⟩
theorem bA(x:aa):au Pg 36 (.eptr (ac x)) 0=some (.eptr ((ac x).drop 0))/\aC Pg 30 ((ac x).drop 0)=some (.int .i64 x.Op):=⟨by rw[aZ];kernel_rfl,by rw[aZ];kernel_rfl⟩
theorem aS(x:aa):au Pg 36 (.eptr (ac x)) 1=some (.eptr ((ac x).drop 1))/\aC Pg 3 ((ac x).drop 1)=some (.int .i64 x.N):=⟨by rw[aZ];kernel_rfl,by rw[aZ];kernel_rfl⟩
theorem bJ(x:aa):au Pg 36 (.eptr (ac x)) 2=some (.eptr ((ac x).drop 2))/\aC Pg 9 ((ac x).drop 2)=some (.str x.Name):=⟨by rw[aZ];kernel_rfl,by rw[aZ];kernel_rfl⟩
theorem bh(x:aa):au Pg 36 (.eptr (ac x)) 3=some (.eptr ((ac x).drop 3))/\aC Pg 31 ((ac x).drop 3)=some (sl ac x.Kids):=⟨by rw[aZ];kernel_rfl,by rw[aZ];kernel_rfl⟩
theorem gd(x:aa):au Pg 36 (.eptr (ac x)) 4=some (.eptr ((ac x).drop 4))/\aC Pg 32 ((ac x).drop 4)=some (sl cS x.Params):=⟨by rw[aZ];kernel_rfl,by rw[aZ];kernel_rfl⟩
theorem cW(x:aa):au Pg 36 (.eptr (ac x)) 5=some (.eptr ((ac x).drop 5))/\aC Pg 33 ((ac x).drop 5)=some (sl ak x.Body):=⟨by rw[aZ];kernel_rfl,by rw[aZ];kernel_rfl⟩
theorem dO(x:aa):au Pg 36 (.eptr (ac x)) 6=some (.eptr ((ac x).drop 6))/\aC Pg 34 ((ac x).drop 6)=some (sl aP x.Binds):=⟨by rw[aZ];kernel_rfl,by rw[aZ];kernel_rfl⟩
theorem kD:∀(x:aB),aP x=[.str x.Name,.int .i64 x.Value.Op,.int .i64 x.Value.N,.str x.Value.Name,sl ac x.Value.Kids,sl cS x.Value.Params,sl ak x.Value.Body,sl aP x.Value.Binds]
 |⟨x0,x1⟩=>by
  simp only[aP,aZ,vaS,va3]
  rfl
instance iK_tBind{x:aB}:K0l (aP x):=⟨nZ x⟩
instance iE_tBind:KE aP:=⟨nZ⟩
theorem Ar(x:aB):(aP x).length=8:=by rw[kD];rfl
theorem Js(x:aB):bv (.agg (aP x))=some (aP x):=rfl
theorem GM(x:aB):bv (.agg (aP x))=some [.str x.Name,.int .i64 x.Value.Op,.int .i64 x.Value.N,.str x.Value.Name,sl ac x.Value.Kids,sl cS x.Value.Params,sl ak x.Value.Body,sl aP x.Value.Binds]:=by rw[kD];rfl
theorem Nc(x:aB):∀q∈aP x,q.one=true:=by
 intro q hq
 rw[kD]at hq
 simp only[vat,vaP,or_false]at hq
 rcases hq with rfl|rfl|rfl|rfl|rfl|rfl|rfl|rfl<;>rfl
theorem Jg(x:aB):aC Pg 113 (aP x)=some (.agg (aP x)):=by
 have:=gW (P:=Pg) (t:=113) (l:=aP x) (r:=[]) (by kernel_rfl) (LL.trans (Ar x).symm)
 rwa[vbe]at this
theorem Gw(x:aB)(r:List PVal):aC Pg 113 ([.str x.Name,.int .i64 x.Value.Op,.int .i64 x.Value.N,.str x.Value.Name,sl ac x.Value.Kids,sl cS x.Value.Params,sl ak x.Value.Body,sl aP x.Value.Binds]++r)=some (.agg (aP x)):=by
 rw[<-kD];exact gW (by kernel_rfl) (LL.trans (Ar x).symm)
theorem kc(x:aB):au Pg 113 (.eptr (aP x)) 0=some (.eptr ((aP x).drop 0))/\aC Pg 9 ((aP x).drop 0)=some (.str x.Name):=⟨by rw[kD];kernel_rfl,by rw[kD];kernel_rfl⟩
theorem jB(x:aB):au Pg 113 (.eptr (aP x)) 1=some (.eptr ((aP x).drop 1))/\aC Pg 36 ((aP x).drop 1)=some (.agg (ac x.Value)):=⟨by rw[kD];kernel_rfl,by rw[kD,aZ];kernel_rfl⟩
structure J0 where
 A0:aa
 A1:aa
 A2:aa
def iK(x:J0):List PVal:=ac x.A0++(ac x.A1++(ac x.A2))
theorem uA(x:J0):iK x=[.int .i64 x.A0.Op,.int .i64 x.A0.N,.str x.A0.Name,sl ac x.A0.Kids,sl cS x.A0.Params,sl ak x.A0.Body,sl aP x.A0.Binds,.int .i64 x.A1.Op,.int .i64 x.A1.N,.str x.A1.Name,sl ac x.A1.Kids,sl cS x.A1.Params,sl ak x.A1.Body,sl aP x.A1.Binds,.int .i64 x.A2.Op,.int .i64 x.A2.N,.str x.A2.Name,sl ac x.A2.Kids,sl cS x.A2.Params,sl ak x.A2.Body,sl aP x.A2.Binds]:=by
 unfold iK
 simp only[aZ,vaS,va3]
theorem Sy(x:J0):dU 0 (iK x):=by rw[uA];exact(aI vzz (aI vzz (aI vzz (aI (ba cq x.A0.Kids) (aI (ba Ix x.A0.Params) (aI (ba jK x.A0.Body) (aI (ba nZ x.A0.Binds) (aI vzz (aI vzz (aI vzz (aI (ba cq x.A1.Kids) (aI (ba Ix x.A1.Params) (aI (ba jK x.A1.Body) (aI (ba nZ x.A1.Binds) (aI vzz (aI vzz (aI vzz (aI (ba cq x.A2.Kids) (aI (ba Ix x.A2.Params) (aI (ba jK x.A2.Body) (aI (ba nZ x.A2.Binds) trivial)))))))))))))))))))))
instance iK_S64{x:J0}:K0l (iK x):=⟨Sy x⟩
theorem SZ(x:J0):bv (.agg (iK x))=some (iK x):=rfl
theorem fb(x:J0):fV Pg 64 (.eptr (iK x)) (.int .i64 0)=some (.eptr ((iK x).drop 0))/\aC Pg 36 ((iK x).drop 0)=some (.agg (ac x.A0)):=⟨by rw[uA];kernel_rfl,by rw[uA,aZ];kernel_rfl⟩
theorem fc(x:J0):fV Pg 64 (.eptr (iK x)) (.int .i64 1)=some (.eptr ((iK x).drop 7))/\aC Pg 36 ((iK x).drop 7)=some (.agg (ac x.A1)):=⟨by rw[uA];kernel_rfl,by rw[uA,aZ];kernel_rfl⟩
theorem kF(x:J0):fV Pg 64 (.eptr (iK x)) (.int .i64 2)=some (.eptr ((iK x).drop 14))/\aC Pg 36 ((iK x).drop 14)=some (.agg (ac x.A2)):=⟨by rw[uA];kernel_rfl,by rw[uA,aZ];kernel_rfl⟩
theorem AQ:tJ Pg 22 74 ay:=⟨underlying22,λx=>(As x).trans QF.symm,by kernel_rfl,by rw[QF];decide,by kernel_rfl,vaI (by kernel_rfl),Nf,gZ⟩
theorem Rt:tJ Pg 23 80 bS:=⟨underlying23,λx=>(KK x).trans T0.symm,by kernel_rfl,by rw[T0];decide,by kernel_rfl,vaI (by kernel_rfl),KT,Ah⟩
theorem PU:tJ Pg 24 85 aH:=⟨underlying24,λx=>(Fs x).trans T3.symm,by kernel_rfl,by rw[T3];decide,by kernel_rfl,vaI (by kernel_rfl),Fw,rJ⟩
theorem NG:tJ Pg 25 90 aX:=⟨underlying25,λx=>(HL x).trans T4.symm,by kernel_rfl,by rw[T4];decide,by kernel_rfl,vaI (by kernel_rfl),HY,uq⟩
theorem Ru:tJ Pg 26 94 ca:=⟨underlying26,λx=>(M4 x).trans T7.symm,by kernel_rfl,by rw[T7];decide,by kernel_rfl,vaI (by kernel_rfl),Nj,Dn⟩
theorem Li:tJ Pg 27 131 bI:=⟨underlying27,λx=>(O2 x).trans RK.symm,by kernel_rfl,by rw[RK];decide,by kernel_rfl,vaI (by kernel_rfl),Pu,Cv⟩
theorem bz:tJ Pg 31 36 ac:=⟨underlying31,λx=>(xC x).trans QB.symm,by kernel_rfl,by rw[QB];decide,by kernel_rfl,vaI (by kernel_rfl),KW,cq⟩
theorem VQ:Pg.cellsOf 9=1:=by kernel_rfl
theorem qO:tJ Pg 32 9 cS:=⟨underlying32,λ_=>VQ.symm,by kernel_rfl,by rw[VQ];decide,by kernel_rfl,vaI (by kernel_rfl),V9,Ix⟩
theorem zb:tJ Pg 33 52 ak:=⟨underlying33,λx=>(Au x).trans QE.symm,by kernel_rfl,by rw[QE];decide,by kernel_rfl,vaI (by kernel_rfl),Ng,jK⟩
theorem Il:tJ Pg 34 113 aP:=⟨underlying34,λx=>(Ar x).trans LL.symm,by kernel_rfl,by rw[LL];decide,by kernel_rfl,vaI (by kernel_rfl),Nc,nZ⟩
theorem fe:tJ Pg 38 44 af:=⟨underlying38,λx=>(Aw x).trans QD.symm,by kernel_rfl,by rw[QD];decide,by kernel_rfl,vaI (by kernel_rfl),Nk,dD⟩
theorem my:tJ Pg 40 42 aj:=⟨underlying40,λx=>(Av x).trans QC.symm,by kernel_rfl,by rw[QC];decide,by kernel_rfl,vaI (by kernel_rfl),Ni,dl⟩
theorem En:tJ Pg 49 96 aJ:=⟨underlying49,λx=>(xB x).trans QG.symm,by kernel_rfl,by rw[QG];decide,by kernel_rfl,vaI (by kernel_rfl),KU,qB⟩
theorem Cm:tJ Pg 50 98 bm:=⟨underlying50,λx=>(DP x).trans QH.symm,by kernel_rfl,by rw[QH];decide,by kernel_rfl,vaI (by kernel_rfl),Ps,yA⟩
theorem S8:tJ Pg 71 223 bT:=⟨underlying71,λx=>(O3 x).trans RM.symm,by kernel_rfl,by rw[RM];decide,by kernel_rfl,vaI (by kernel_rfl),Pv,yB⟩
theorem Im:tJ Pg 72 76 aG:=⟨underlying72,λx=>(Jd x).trans SA.symm,by kernel_rfl,by rw[SA];decide,by kernel_rfl,vaI (by kernel_rfl),Pt,lK⟩
theorem UF:tJ Pg 78 82 cY:=⟨underlying78,λx=>(Je x).trans T1.symm,by kernel_rfl,by rw[T1];decide,by kernel_rfl,vaI (by kernel_rfl),Jn,Dl⟩
theorem UG:tJ Pg 83 228 fP:=⟨underlying83,λx=>(M3 x).trans RN.symm,by kernel_rfl,by rw[RN];decide,by kernel_rfl,vaI (by kernel_rfl),Nh,Dm⟩
theorem S9:tJ Pg 88 92 ef:=⟨underlying88,λx=>(M2 x).trans T6.symm,by kernel_rfl,by rw[T6];decide,by kernel_rfl,vaI (by kernel_rfl),Nd,IT⟩
theorem UE:tJ Pg 125 229 kB:=⟨underlying125,λx=>(O1 x).trans RO.symm,by kernel_rfl,by rw[RO];decide,by kernel_rfl,vaI (by kernel_rfl),Pr,LH⟩
theorem Mk:tJ Pg 126 140 bZ:=⟨underlying126,λx=>(KI x).trans RL.symm,by kernel_rfl,by rw[RL];decide,by kernel_rfl,vaI (by kernel_rfl),KR,Gh⟩
theorem WX:Pg.cellsOf 3=1:=by kernel_rfl
theorem GZ:tJ Pg 146 3 (cI .i64):=⟨underlying146,λ_=>WX.symm,by kernel_rfl,by rw[WX];decide,by kernel_rfl,vaI (by kernel_rfl),(V8 .i64),(WW .i64)⟩
theorem WY:Pg.cellsOf 5=1:=by kernel_rfl
theorem Um(l:List ai)(n:Nat)(hn:(decide (l.length=n)&&decide (n * 1<=16777216))=true):dS Pg 32 n ((l.map PVal.str).zipIdx 0|>.map λx=>(x.2,x.1))=some (sl cS l):=qO.mk' (v:=PVal.str) Yc l n (by rw[VQ];exact hn)
theorem Xi:(Pg.underlying 3).any Mo=true:=by kernel_rfl
theorem Wo:(Pg.underlying 9).any Mo=true:=by kernel_rfl
theorem Wc:eX Pg 29=some [sl ay ([]:List aM),sl bS ([]:List di),sl aH ([]:List bB),sl aX ([]:List bP),sl ca ([]:List eY),sl bI ([]:List ga)]:=by kernel_rfl
theorem wo:eX Pg 36=some [.int .i64 0,.int .i64 0,.str ([]:ai),sl ac ([]:List aa),sl cS ([]:List ai),sl ak ([]:List al),sl aP ([]:List aB)]:=by kernel_rfl
theorem Uv:eX Pg 42=some [.int .i64 0,.str ([]:ai),.int .i64 0,sl aj ([]:List ah)]:=by kernel_rfl
theorem AN:eX Pg 44=some [.int .i64 0,.str ([]:ai),sl af ([]:List ae),sl cS ([]:List ai),.int .i64 0,.str ([]:ai),.int .i64 0,sl aj ([]:List ah),sl aj ([]:List ah)]:=by kernel_rfl
theorem Uw:eX Pg 52=some [.int .i64 0,.str ([]:ai),.int .i64 0,sl ak ([]:List al),sl aJ ([]:List cD),sl bm ([]:List dR),sl af ([]:List ae)]:=by kernel_rfl
theorem FI:eX Pg 74=some [.str ([]:ai),sl cS ([]:List ai),sl bT ([]:List ch),sl aG ([]:List aO)]:=by kernel_rfl
theorem Ux:eX Pg 76=some [.str ([]:ai),sl cS ([]:List ai),sl af ([]:List ae)]:=by kernel_rfl
theorem Uy:eX Pg 96=some [.str ([]:ai),.int .i64 0,.str ([]:ai),sl af ([]:List ae),sl cS ([]:List ai),.int .i64 0,.str ([]:ai),.int .i64 0,sl aj ([]:List ah),sl aj ([]:List ah)]:=by kernel_rfl
theorem Uz:eX Pg 98=some [.str ([]:ai),sl cS ([]:List ai),.int .i64 0,.str ([]:ai),.int .i64 0,sl ak ([]:List al),sl aJ ([]:List cD),sl bm ([]:List dR),sl af ([]:List ae)]:=by kernel_rfl
theorem RX:eX Pg 113=some [.str ([]:ai),.int .i64 0,.int .i64 0,.str ([]:ai),sl ac ([]:List aa),sl cS ([]:List ai),sl ak ([]:List al),sl aP ([]:List aB)]:=by kernel_rfl
theorem Ut:eX Pg 128=some [sl cS ([]:List ai),sl fP ([]:List vw),sl kB ([]:List FK),sl bZ ([]:List kT),.int .i64 0,.str ([]:ai),sl af ([]:List ae),sl cS ([]:List ai),.int .i64 0,.str ([]:ai),.int .i64 0,sl aj ([]:List ah),sl aj ([]:List ah),sl aj ([]:List ah)]:=by kernel_rfl
theorem Uu:eX Pg 135=some [sl ay ([]:List aM),sl bS ([]:List di),sl aH ([]:List bB),sl aX ([]:List bP),sl ca ([]:List eY),sl bI ([]:List ga),.val (.map none)]:=by kernel_rfl
def hU:List Int:=[1,10,100,1000,10000,100000,1000000,10000000,100000000,1000000000,10000000000,100000000000,1000000000000,10000000000000,100000000000000,1000000000000000,10000000000000000,100000000000000000,1000000000000000000,10000000000000000000]
theorem TW:Pg.cellsOf 238=20:=by kernel_rfl
theorem TV:Pg.cellsOf 217=1:=by kernel_rfl
def qG:List Int:=[0,1,28,2,29,14,24,3,30,22,20,15,25,17,4,8,31,27,13,23,21,19,16,7,26,12,18,6,11,5,10,9]
theorem TX:Pg.cellsOf 252=32:=by kernel_rfl
def qH:List Int:=[0,1,56,2,57,49,28,3,61,58,42,50,38,29,17,4,62,47,59,36,45,43,51,22,53,39,33,30,24,18,12,5,63,55,48,27,60,41,37,16,46,35,44,21,52,32,23,11,54,26,40,15,34,20,31,10,25,14,19,9,13,8,7,6]
theorem TY:Pg.cellsOf 253=64:=by kernel_rfl
def Ti:ai:=[116,114,117,101]
def RE:ai:=[102,97,108,115,101]
def JZ:ai:=[110,101,119,32,40]
def R0:ai:=[41]
def Qg:ai:=[32,40]
def Qh:ai:=[44,32]
def UP:ai:=[102,117,110]
def GE:List (Nat×List PVal):=[(1,hU.map (PVal.int .u64)),(2,qG.map (PVal.int .u8)),(3,qH.map (PVal.int .u8))]
abbrev OV(f:FuncId)(args:List PVal){R:Type}(o:Option R)(res:R->PVal)(ro:List (Nat×TypeId)):Prop:=Tl Pg GE f args o res ro
abbrev OU(m:Nat)(c:Code){X:Type}(o:Option X)(e:Exit)(u:X->List (Nat×PVal))(st:az):Prop:=Vc Pg GE m c o e (λx=>Yo st (u x)) st
abbrev OK(m:Nat)(c:Code){X:Type}(o:Option X)(ex:X->Exit)(so:X->az)(st:az):Prop:=Vd Pg GE m c o ex so st
abbrev OL(m:Nat)(c:Code){σ X:Type}(o:Option (σ⊕X))(S:σ->az)(ex:X->Exit)(so:X->az)(st:az):Prop:=Tk Pg GE m c o S ex so st
abbrev waA:=List aa
abbrev waB:=List ae
abbrev waC:=List ai
abbrev waD:=List ah
abbrev waE:=List ch
abbrev waF:=List aO
abbrev waG:=List al
abbrev waH:=List ga
abbrev waI:=List aB
theorem HJ:∀n,(∀l,Sh Pg n 223 l->∃x,l=bT x):=by
 intro n
 induction n using Nat.strongRecOn with
 | ind n ih =>
  cases n with
  |zero=>exact λl h=>h.elim
  | succ n =>
   exact λl h=>by
    unfold Sh at h
    rw[underlying223]at h
    obtain⟨a0,b0,rfl,_,h0,a1,b1,rfl,_,h1,rfl⟩:=h
    obtain⟨x0,rfl⟩:=(jj underlying9) n _ h0
    obtain⟨x1,rfl⟩:=(jj underlying87) n _ h1
    exact⟨(⟨x0,x1⟩:ch),by rw[Ht];rfl⟩
theorem mi:∀n,(∀l,Sh Pg n 42 l->∃x,l=aj x):=by
 intro n
 induction n using Nat.strongRecOn with
 | ind n ih =>
  cases n with
  |zero=>exact λl h=>h.elim
  | succ n =>
   exact λl h=>by
    unfold Sh at h
    rw[underlying42]at h
    obtain⟨a0,b0,rfl,_,h0,a1,b1,rfl,_,h1,a2,b2,rfl,_,h2,a3,b3,rfl,_,h3,rfl⟩:=h
    obtain⟨x0,rfl⟩:=(I7 underlying39) n _ h0
    obtain⟨x1,rfl⟩:=(jj underlying9) n _ h1
    obtain⟨x2,rfl⟩:=(I7 underlying3) n _ h2
    obtain⟨x3,rfl⟩:=DI underlying40 (c:=aj) (λm hm=>(ih m (by omega))) _ h3
    exact⟨(⟨x0,x1,x2,x3⟩:ah),by rw[bG];rfl⟩
theorem qF:∀n,(∀l,Sh Pg n 44 l->∃x,l=af x):=by
 intro n
 induction n using Nat.strongRecOn with
 | ind n ih =>
  cases n with
  |zero=>exact λl h=>h.elim
  | succ n =>
   exact λl h=>by
    unfold Sh at h
    rw[underlying44]at h
    obtain⟨a0,b0,rfl,_,h0,a1,b1,rfl,_,h1,a2,b2,rfl,_,h2,a3,b3,rfl,_,h3,a4,b4,rfl,_,h4,a5,b5,rfl,_,h5,rfl⟩:=h
    obtain⟨x0,rfl⟩:=(I7 underlying37) n _ h0
    obtain⟨x1,rfl⟩:=(jj underlying9) n _ h1
    obtain⟨x2,rfl⟩:=DI underlying38 (c:=af) (λm hm=>(ih m (by omega))) _ h2
    obtain⟨x3,rfl⟩:=(kg underlying32 (jj underlying9)) n _ h3
    obtain⟨x4,rfl⟩:=mi n _ h4
    obtain⟨x5,rfl⟩:=(kg underlying40 mi) n _ h5
    exact⟨(⟨x0,x1,x2,x3,x4,x5⟩:ae),by rw[aV];(try simp only[bG]);rfl⟩
theorem QY:∀n,(∀l,Sh Pg n 76 l->∃x,l=aG x):=by
 intro n
 induction n using Nat.strongRecOn with
 | ind n ih =>
  cases n with
  |zero=>exact λl h=>h.elim
  | succ n =>
   exact λl h=>by
    unfold Sh at h
    rw[underlying76]at h
    obtain⟨a0,b0,rfl,_,h0,a1,b1,rfl,_,h1,a2,b2,rfl,_,h2,rfl⟩:=h
    obtain⟨x0,rfl⟩:=(jj underlying9) n _ h0
    obtain⟨x1,rfl⟩:=(kg underlying32 (jj underlying9)) n _ h1
    obtain⟨x2,rfl⟩:=(kg underlying38 qF) n _ h2
    exact⟨(⟨x0,x1,x2⟩:aO),by rw[CA];rfl⟩
theorem ON:∀n,(∀l,Sh Pg n 74 l->∃x,l=ay x):=by
 intro n
 induction n using Nat.strongRecOn with
 | ind n ih =>
  cases n with
  |zero=>exact λl h=>h.elim
  | succ n =>
   exact λl h=>by
    unfold Sh at h
    rw[underlying74]at h
    obtain⟨a0,b0,rfl,_,h0,a1,b1,rfl,_,h1,a2,b2,rfl,_,h2,a3,b3,rfl,_,h3,rfl⟩:=h
    obtain⟨x0,rfl⟩:=(jj underlying9) n _ h0
    obtain⟨x1,rfl⟩:=(kg underlying32 (jj underlying9)) n _ h1
    obtain⟨x2,rfl⟩:=(kg underlying71 HJ) n _ h2
    obtain⟨x3,rfl⟩:=(kg underlying72 QY) n _ h3
    exact⟨(⟨x0,x1,x2,x3⟩:aM),by rw[kE];rfl⟩
theorem Kx:∀n,(∀l,Sh Pg n 82 l->∃x,l=cY x):=by
 intro n
 induction n using Nat.strongRecOn with
 | ind n ih =>
  cases n with
  |zero=>exact λl h=>h.elim
  | succ n =>
   exact λl h=>by
    unfold Sh at h
    rw[underlying82]at h
    obtain⟨a0,b0,rfl,_,h0,a1,b1,rfl,_,h1,rfl⟩:=h
    obtain⟨x0,rfl⟩:=(jj underlying9) n _ h0
    obtain⟨x1,rfl⟩:=qF n _ h1
    exact⟨(⟨x0,x1⟩:nu),by rw[lc];(try simp only[aV]);(try simp only[bG]);rfl⟩
theorem MT:∀n,(∀l,Sh Pg n 80 l->∃x,l=bS x):=by
 intro n
 induction n using Nat.strongRecOn with
 | ind n ih =>
  cases n with
  |zero=>exact λl h=>h.elim
  | succ n =>
   exact λl h=>by
    unfold Sh at h
    rw[underlying80]at h
    obtain⟨a0,b0,rfl,_,h0,a1,b1,rfl,_,h1,a2,b2,rfl,_,h2,rfl⟩:=h
    obtain⟨x0,rfl⟩:=(jj underlying9) n _ h0
    obtain⟨x1,rfl⟩:=(jj underlying9) n _ h1
    obtain⟨x2,rfl⟩:=(kg underlying78 Kx) n _ h2
    exact⟨(⟨x0,x1,x2⟩:di),by rw[Al];rfl⟩
theorem Jb:∀n,(∀l,Sh Pg n 228 l->∃x,l=fP x):=by
 intro n
 induction n using Nat.strongRecOn with
 | ind n ih =>
  cases n with
  |zero=>exact λl h=>h.elim
  | succ n =>
   exact λl h=>by
    unfold Sh at h
    rw[underlying228]at h
    obtain⟨a0,b0,rfl,_,h0,a1,b1,rfl,_,h1,rfl⟩:=h
    obtain⟨x0,rfl⟩:=(jj underlying9) n _ h0
    obtain⟨x1,rfl⟩:=(jj underlying9) n _ h1
    exact⟨(⟨x0,x1⟩:vw),by rw[DA];rfl⟩
theorem MU:∀n,(∀l,Sh Pg n 96 l->∃x,l=aJ x):=by
 intro n
 induction n using Nat.strongRecOn with
 | ind n ih =>
  cases n with
  |zero=>exact λl h=>h.elim
  | succ n =>
   exact λl h=>by
    unfold Sh at h
    rw[underlying96]at h
    obtain⟨a0,b0,rfl,_,h0,a1,b1,rfl,_,h1,rfl⟩:=h
    obtain⟨x0,rfl⟩:=(jj underlying9) n _ h0
    obtain⟨x1,rfl⟩:=qF n _ h1
    exact⟨(⟨x0,x1⟩:cD),by rw[iw];(try simp only[aV]);(try simp only[bG]);rfl⟩
theorem HG:∀n,(∀l,Sh Pg n 52 l->∃x,l=ak x)/\(∀l,Sh Pg n 98 l->∃x,l=bm x):=by
 intro n
 induction n using Nat.strongRecOn with
 | ind n ih =>
  cases n with
  |zero=>exact⟨λl h=>h.elim,λl h=>h.elim⟩
  | succ n =>
   exact⟨(λl h=>by
    unfold Sh at h
    rw[underlying52]at h
    obtain⟨a0,b0,rfl,_,h0,a1,b1,rfl,_,h1,a2,b2,rfl,_,h2,a3,b3,rfl,_,h3,a4,b4,rfl,_,h4,a5,b5,rfl,_,h5,a6,b6,rfl,_,h6,rfl⟩:=h
    obtain⟨x0,rfl⟩:=(I7 underlying48) n _ h0
    obtain⟨x1,rfl⟩:=(jj underlying9) n _ h1
    obtain⟨x2,rfl⟩:=(I7 underlying3) n _ h2
    obtain⟨x3,rfl⟩:=DI underlying33 (c:=ak) (λm hm=>(ih m (by omega)).1) _ h3
    obtain⟨x4,rfl⟩:=(kg underlying49 MU) n _ h4
    obtain⟨x5,rfl⟩:=DI underlying50 (c:=bm) (λm hm=>(ih m (by omega)).2) _ h5
    obtain⟨x6,rfl⟩:=(kg underlying38 qF) n _ h6
    exact⟨(⟨x0,x1,x2,x3,x4,x5,x6⟩:al),by rw[ce];rfl⟩),(λl h=>by
    unfold Sh at h
    rw[underlying98]at h
    obtain⟨a0,b0,rfl,_,h0,a1,b1,rfl,_,h1,a2,b2,rfl,_,h2,rfl⟩:=h
    obtain⟨x0,rfl⟩:=(jj underlying9) n _ h0
    obtain⟨x1,rfl⟩:=(kg underlying32 (jj underlying9)) n _ h1
    obtain⟨x2,rfl⟩:=(ih n (vb3 n)).1 _ h2
    exact⟨(⟨x0,x1,x2⟩:dR),by rw[jW];(try simp only[ce]);rfl⟩)⟩
theorem I8:In Pg 52 ak:=λn=>(HG n).1
theorem QX:∀n,(∀l,Sh Pg n 229 l->∃x,l=kB x):=by
 intro n
 induction n using Nat.strongRecOn with
 | ind n ih =>
  cases n with
  |zero=>exact λl h=>h.elim
  | succ n =>
   exact λl h=>by
    unfold Sh at h
    rw[underlying229]at h
    obtain⟨a0,b0,rfl,_,h0,a1,b1,rfl,_,h1,rfl⟩:=h
    obtain⟨x0,rfl⟩:=(jj underlying9) n _ h0
    obtain⟨x1,rfl⟩:=(jj underlying87) n _ h1
    exact⟨(⟨x0,x1⟩:FK),by rw[Hs];rfl⟩
theorem MS:∀n,(∀l,Sh Pg n 140 l->∃x,l=bZ x):=by
 intro n
 induction n using Nat.strongRecOn with
 | ind n ih =>
  cases n with
  |zero=>exact λl h=>h.elim
  | succ n =>
   exact λl h=>by
    unfold Sh at h
    rw[underlying140]at h
    obtain⟨a0,b0,rfl,_,h0,a1,b1,rfl,_,h1,a2,b2,rfl,_,h2,a3,b3,rfl,_,h3,rfl⟩:=h
    obtain⟨x0,rfl⟩:=(jj underlying9) n _ h0
    obtain⟨x1,rfl⟩:=(kg underlying71 HJ) n _ h1
    obtain⟨x2,rfl⟩:=mi n _ h2
    obtain⟨x3,rfl⟩:=mi n _ h3
    exact⟨(⟨x0,x1,x2,x3⟩:kT),by rw[iv];(try simp only[bG]);rfl⟩
theorem QZ:∀n,(∀l,Sh Pg n 128 l->∃x,l=rI x):=by
 intro n
 induction n using Nat.strongRecOn with
 | ind n ih =>
  cases n with
  |zero=>exact λl h=>h.elim
  | succ n =>
   exact λl h=>by
    unfold Sh at h
    rw[underlying128]at h
    obtain⟨a0,b0,rfl,_,h0,a1,b1,rfl,_,h1,a2,b2,rfl,_,h2,a3,b3,rfl,_,h3,a4,b4,rfl,_,h4,a5,b5,rfl,_,h5,rfl⟩:=h
    obtain⟨x0,rfl⟩:=(kg underlying32 (jj underlying9)) n _ h0
    obtain⟨x1,rfl⟩:=(kg underlying83 Jb) n _ h1
    obtain⟨x2,rfl⟩:=(kg underlying125 QX) n _ h2
    obtain⟨x3,rfl⟩:=(kg underlying126 MS) n _ h3
    obtain⟨x4,rfl⟩:=qF n _ h4
    obtain⟨x5,rfl⟩:=(kg underlying40 mi) n _ h5
    exact⟨(⟨x0,x1,x2,x3,x4,x5⟩:NN),by rw[yK];(try simp only[aV]);(try simp only[bG]);rfl⟩
theorem LY:∀n,(∀l,Sh Pg n 131 l->∃x,l=bI x):=by
 intro n
 induction n using Nat.strongRecOn with
 | ind n ih =>
  cases n with
  |zero=>exact λl h=>h.elim
  | succ n =>
   exact λl h=>by
    unfold Sh at h
    rw[underlying131]at h
    obtain⟨a0,b0,rfl,_,h0,a1,b1,rfl,_,h1,a2,b2,rfl,_,h2,a3,b3,rfl,_,h3,a4,b4,rfl,_,h4,a5,b5,rfl,_,h5,rfl⟩:=h
    obtain⟨x0,rfl⟩:=(jj underlying9) n _ h0
    obtain⟨x1,rfl⟩:=(kg underlying32 (jj underlying9)) n _ h1
    obtain⟨x2,rfl⟩:=I8 n _ h2
    obtain⟨x3,rfl⟩:=(I7 underlying129) n _ h3
    obtain⟨x4,rfl⟩:=(V7 underlying4) n _ h4
    obtain⟨x5,rfl⟩:=QZ n _ h5
    exact⟨(⟨x0,x1,x2,x3,x4,x5⟩:ga),by rw[jX];(try simp only[ce]);(try simp only[yK]);(try simp only[aV]);(try simp only[bG]);rfl⟩
theorem HH:∀n,(∀l,Sh Pg n 85 l->∃x,l=aH x):=by
 intro n
 induction n using Nat.strongRecOn with
 | ind n ih =>
  cases n with
  |zero=>exact λl h=>h.elim
  | succ n =>
   exact λl h=>by
    unfold Sh at h
    rw[underlying85]at h
    obtain⟨a0,b0,rfl,_,h0,a1,b1,rfl,_,h1,a2,b2,rfl,_,h2,a3,b3,rfl,_,h3,rfl⟩:=h
    obtain⟨x0,rfl⟩:=(jj underlying9) n _ h0
    obtain⟨x1,rfl⟩:=qF n _ h1
    obtain⟨x2,rfl⟩:=(kg underlying83 Jb) n _ h2
    obtain⟨x3,rfl⟩:=(kg underlying27 LY) n _ h3
    exact⟨(⟨x0,x1,x2,x3⟩:bB),by rw[ei];(try simp only[aV]);(try simp only[bG]);rfl⟩
theorem OM:∀n,(∀l,Sh Pg n 92 l->∃x,l=ef x):=by
 intro n
 induction n using Nat.strongRecOn with
 | ind n ih =>
  cases n with
  |zero=>exact λl h=>h.elim
  | succ n =>
   exact λl h=>by
    unfold Sh at h
    rw[underlying92]at h
    obtain⟨a0,b0,rfl,_,h0,a1,b1,rfl,_,h1,a2,b2,rfl,_,h2,rfl⟩:=h
    obtain⟨x0,rfl⟩:=(jj underlying9) n _ h0
    obtain⟨x1,rfl⟩:=(kg underlying32 (jj underlying9)) n _ h1
    obtain⟨x2,rfl⟩:=mi n _ h2
    exact⟨(⟨x0,x1,x2⟩:wO),by rw[mc];(try simp only[bG]);rfl⟩
theorem Ja:∀n,(∀l,Sh Pg n 90 l->∃x,l=aX x):=by
 intro n
 induction n using Nat.strongRecOn with
 | ind n ih =>
  cases n with
  |zero=>exact λl h=>h.elim
  | succ n =>
   exact λl h=>by
    unfold Sh at h
    rw[underlying90]at h
    obtain⟨a0,b0,rfl,_,h0,a1,b1,rfl,_,h1,a2,b2,rfl,_,h2,a3,b3,rfl,_,h3,a4,b4,rfl,_,h4,rfl⟩:=h
    obtain⟨x0,rfl⟩:=(jj underlying9) n _ h0
    obtain⟨x1,rfl⟩:=(jj underlying9) n _ h1
    obtain⟨x2,rfl⟩:=(jj underlying87) n _ h2
    obtain⟨x3,rfl⟩:=(kg underlying88 OM) n _ h3
    obtain⟨x4,rfl⟩:=mi n _ h4
    exact⟨(⟨x0,x1,x2,x3,x4⟩:bP),by rw[gF];(try simp only[bG]);rfl⟩
theorem OO:∀n,(∀l,Sh Pg n 94 l->∃x,l=ca x):=by
 intro n
 induction n using Nat.strongRecOn with
 | ind n ih =>
  cases n with
  |zero=>exact λl h=>h.elim
  | succ n =>
   exact λl h=>by
    unfold Sh at h
    rw[underlying94]at h
    obtain⟨a0,b0,rfl,_,h0,a1,b1,rfl,_,h1,a2,b2,rfl,_,h2,rfl⟩:=h
    obtain⟨x0,rfl⟩:=(jj underlying9) n _ h0
    obtain⟨x1,rfl⟩:=(kg underlying71 HJ) n _ h1
    obtain⟨x2,rfl⟩:=mi n _ h2
    exact⟨(⟨x0,x1,x2⟩:eY),by rw[mf];(try simp only[bG]);rfl⟩
theorem Ky:∀n,(∀l,Sh Pg n 29 l->∃x,l=aq x):=by
 intro n
 induction n using Nat.strongRecOn with
 | ind n ih =>
  cases n with
  |zero=>exact λl h=>h.elim
  | succ n =>
   exact λl h=>by
    unfold Sh at h
    rw[underlying29]at h
    obtain⟨a0,b0,rfl,_,h0,a1,b1,rfl,_,h1,a2,b2,rfl,_,h2,a3,b3,rfl,_,h3,a4,b4,rfl,_,h4,a5,b5,rfl,_,h5,rfl⟩:=h
    obtain⟨x0,rfl⟩:=(kg underlying22 ON) n _ h0
    obtain⟨x1,rfl⟩:=(kg underlying23 MT) n _ h1
    obtain⟨x2,rfl⟩:=(kg underlying24 HH) n _ h2
    obtain⟨x3,rfl⟩:=(kg underlying25 Ja) n _ h3
    obtain⟨x4,rfl⟩:=(kg underlying26 OO) n _ h4
    obtain⟨x5,rfl⟩:=(kg underlying27 LY) n _ h5
    exact⟨(⟨x0,x1,x2,x3,x4,x5⟩:am),by rw[rN];rfl⟩
theorem Fo:∀n,(∀l,Sh Pg n 36 l->∃x,l=ac x)/\(∀l,Sh Pg n 113 l->∃x,l=aP x):=by
 intro n
 induction n using Nat.strongRecOn with
 | ind n ih =>
  cases n with
  |zero=>exact⟨λl h=>h.elim,λl h=>h.elim⟩
  | succ n =>
   exact⟨(λl h=>by
    unfold Sh at h
    rw[underlying36]at h
    obtain⟨a0,b0,rfl,_,h0,a1,b1,rfl,_,h1,a2,b2,rfl,_,h2,a3,b3,rfl,_,h3,a4,b4,rfl,_,h4,a5,b5,rfl,_,h5,a6,b6,rfl,_,h6,rfl⟩:=h
    obtain⟨x0,rfl⟩:=(I7 underlying30) n _ h0
    obtain⟨x1,rfl⟩:=(I7 underlying3) n _ h1
    obtain⟨x2,rfl⟩:=(jj underlying9) n _ h2
    obtain⟨x3,rfl⟩:=DI underlying31 (c:=ac) (λm hm=>(ih m (by omega)).1) _ h3
    obtain⟨x4,rfl⟩:=(kg underlying32 (jj underlying9)) n _ h4
    obtain⟨x5,rfl⟩:=(kg underlying33 I8) n _ h5
    obtain⟨x6,rfl⟩:=DI underlying34 (c:=aP) (λm hm=>(ih m (by omega)).2) _ h6
    exact⟨(⟨x0,x1,x2,x3,x4,x5,x6⟩:aa),by rw[aZ];rfl⟩),(λl h=>by
    unfold Sh at h
    rw[underlying113]at h
    obtain⟨a0,b0,rfl,_,h0,a1,b1,rfl,_,h1,rfl⟩:=h
    obtain⟨x0,rfl⟩:=(jj underlying9) n _ h0
    obtain⟨x1,rfl⟩:=(ih n (vb3 n)).1 _ h1
    exact⟨(⟨x0,x1⟩:aB),by rw[kD];(try simp only[aZ]);rfl⟩)⟩
theorem An:In Pg 36 ac:=λn=>(Fo n).1
theorem SL:∀n,(∀l,Sh Pg n 64 l->∃x,l=iK x):=by
 intro n
 induction n using Nat.strongRecOn with
 | ind n ih =>
  cases n with
  |zero=>exact λl h=>h.elim
  | succ n =>
   exact λl h=>by
    unfold Sh at h
    rw[underlying64]at h
    obtain⟨a0,b0,rfl,_,h0,a1,b1,rfl,_,h1,a2,b2,rfl,_,h2,rfl⟩:=h
    obtain⟨x0,rfl⟩:=An n _ h0
    obtain⟨x1,rfl⟩:=An n _ h1
    obtain⟨x2,rfl⟩:=An n _ h2
    exact⟨(⟨x0,x1,x2⟩:J0),by rw[uA];(try simp only[aZ]);rfl⟩
open Go
abbrev Sj(GE:List (Nat×List PVal))(Γ:ax)(w:World):mo:=⟨GE,Γ,w,λ_=>False⟩
structure dQ(GE:List (Nat×List PVal))(Γ:ax)(w:World):Prop where
 wi:∀b n,Γ b=some n->∃c t fr,w.heap[b]? =some (.cells c t fr)/\n<=c.size
 gl:∀g cs,(g,cs)∈GE->VR Γ [] w (.eptr cs) (.pointer (some ⟨g,0,none⟩))
 gc:∀g cs,(g,cs)∈GE->dU 0 cs
 gx:∀g cs,(g,cs)∈GE->g<w.heap.size/\∃c t fr,w.heap[g]? =some (.cells c t fr)/\c.size=cs.length
theorem VR.clo{Γ:ax}{bs bs':bp}{w:World}{p:PVal}{v:Value}(h:VR Γ bs w p v)(hc:p.cl 0):VR Γ bs' w p v:=h.restrict (n:=0) hc λi b hi _=>absurd hi (va8 _)
section
variable{P:Program}{E:mo}{Γ:ax}{bs:bp}{ow:Nat->Option jx}{w:World}{a:Array Value}{st:az}
theorem SR.base(h:SR P E Γ bs ow w a st):dQ E.GE Γ w where
 wi:=h.wi
 gl:=λg cs hg=>(h.gl g cs hg).clo (by simp only[PVal.cl];exact h.gc g cs hg)
 gc:=h.gc
 gx:=λg cs hg=>⟨(h.gnow hg).1,(h.gnow hg).2.2.2⟩
theorem dQ.good{GE:List (Nat×List PVal)}(hB:dQ GE Γ w):N5 GE 0 (Sj GE Γ w) where
 ge:=rfl
 low:=λb n h=>by obtain⟨c,t,fr,h1,_⟩:=hB.wi b n h;exact(vaf.1 h1).1
 nt:=λ_ _ hb=>hb
 gl:=hB.gl
theorem dQ.fresh{GE:List (Nat×List PVal)}(hB:dQ GE Γ w)(k:Nat){tmps:List PVal}(hs:a.size=tmps.length)(hv:∀(t:Nat) p v,tmps[t]? =some p->a[t]? =some v->VR Γ [] w p v):SR P (Sj GE Γ w) Γ (List.replicate k none) (λ_=>none) w a ⟨tmps,List.replicate k .dead,[]⟩:=by
 have hno:∀(i b:Nat),(List.replicate k (none:Option Nat))[i]? =some (some b)->False:=λi b h=>by
  rw[vaX]at h
  split at h<;>simp at h
 exact{
  wi:=hB.wi
  sz:=hs
  tm:=λt p v hp hv'=>(hv t p v hp hv').mono (.refl _ _) (λi b h=>by simp at h)
  bl:=by simp
  bx:=λi b B hb=>(hno i b hb).elim
  inj:=λi j b hb=>(hno i b hb).elim
  bn:=λi b hb=>(hno i b hb).elim
  on:=λb L hL=>by cases hL
  ot:=λt k e he=>by simp at he
  ob:=λi j e cs own b _ _ hb=>(hno i b hb).elim
  gl:=λg cs hg=>(hB.gl g cs hg).mono (.refl _ _) (λi b h=>by simp at h)
  gc:=hB.gc
  gx:=λg cs hg=>⟨(hB.gx g cs hg).1,λh=>h,(hB.gx g cs hg).2⟩
  step:=.refl _ _ _ _}
theorem cQ.wide{GE:List (Nat×List PVal)}{c:Code}{Q:Exit->az->Prop}{st0:az}(hS:cQ P GE 0 c Q st0)(hB:dQ GE Γ w){ow:Nat->Option jx}{bs:bp}(h:SR P (Sj GE Γ w) Γ bs ow w a st0)(n:Nat)(ds:List Deferred):c.wpIn Fence.wide n P (λe a' w'=>a'.defers=ds/\∃Γ' bs' ow' st',SR P (Sj GE Γ w) Γ' bs' ow' w' a'.tmps st'/\Q e st') ⟨a,ds⟩ w:=
 wpIn_wide.2 (wp_mono (hS none (Sj GE Γ w) [] ⟨a,ds⟩ w hB.good rfl ⟨Γ,bs,ow,h,λi hi=>absurd hi (va8 _)⟩) λe a' w' hq=>by
  obtain⟨hd,st',⟨Γ',bs',ow',h',_⟩,hQ⟩:=hq
  exact⟨hd,Γ',bs',ow',st',h',hQ⟩)
end
section
variable{P:Program}{n:Nat}{a:Act}{w:World}{next:Act->World->Prop}{Q:Exit->Act->World->Prop}
theorem Nl{o:Oper}(hd:cw o=true)(h:o.wp P a w next Q):o.wpIn Fence.wide n P a w next Q:=by
 refine⟨λ_ _=>trivial,?_⟩
 have hs:o.semAt (Fence.wide).round a.eval=execOp a.eval o:=Oper.semAt_eq _ _ _ λc hc=>by unfold cw at hd;rw[hc]at hd;cases hd
 rw[hs]
 unfold Oper.wp at h
 generalize (execOp a.eval o).run P w=r at *
 have hdep:(Fence.wide).depth.isSome=true->1<=n:=λh=>by simp[Fence.wide]at h
 cases r with
 | ok x w' =>
  cases x<;>simp only[Oper.upon]at h<;>simp only[Oper.uponIn]<;>first
   |exact h.elim
   |exact h
   |exact⟨hdep,callsIn_wide.2 h⟩
   | exact ⟨hdep,fun c cs _ => by
     obtain⟨v,w',r,s⟩:=h c cs
     exact⟨v,w',r,stepsIn_wide.2 s⟩⟩
 |halt x w'=>cases x<;>simp only[Oper.upon]at h<;>simp only[Oper.uponIn]<;>exact h
theorem Ag{o:Oper}{f:Operand}{args:Array Operand}{tys:Array TypeId}(ho:o.op=.call {callee:=.value f,args:=args,argTypes:=tys}){g:FuncId}{fs cs:Array Value}(hf:a.eval f=.func (.func g) fs cs)
  (hc:∀vs w,(callFunc g vs).run P w=.ok (.enter g vs) w) {R:Ending->World->Prop} (h:CallsIn Fence.wide (n - 1) P g (fs++args.map a.eval++cs) w R) (hR:∀e w',R e w'->∃v,e=.returned v/\next (a.put o.dst v) w'):o.wpIn Fence.wide n P a w next Q:=by
 refine⟨λ_ _=>trivial,?_⟩
 have hs:o.semAt (Fence.wide).round a.eval=execOp a.eval o:=Oper.semAt_eq _ _ _ λc hc=>by rw[ho]at hc;cases hc
 have hrun:(execOp a.eval o).run P w=.ok (.enter g (fs++args.map a.eval++cs)) w:=by
  simp[execOp,ho,resolve,hf,Deferred.ofValue,invoke,hc]
 rw[hs,hrun,Oper.uponIn_enter]
 refine⟨λh=>by simp[Fence.wide]at h,h.mono λe w' hr=>?_⟩
 obtain⟨v,rfl,hx⟩:=hR e w' hr
 exact hx
theorem Lt{o:Oper}{f:Operand}{args:Array Operand}{tys:Array TypeId}(ho:o.op=.call {callee:=.value f,args:=args,argTypes:=tys}){l:Nat}(hf:a.eval f=.func (.yield l) #[] #[])
  {R:Ending->World->Prop} (h:YieldAt Fence.wide (n - 1) P l (args.map a.eval) w R) (hR:∀e w',R e w'->∃v,e=.returned v/\next (a.put o.dst v) w'):o.wpIn Fence.wide n P a w next Q:=by
 refine⟨λ_ _=>trivial,?_⟩
 have hs:o.semAt (Fence.wide).round a.eval=execOp a.eval o:=Oper.semAt_eq _ _ _ λc hc=>by rw[ho]at hc;cases hc
 obtain⟨fn,tmps,assign,body,hy,hr⟩:=h
 have hrun:(execOp a.eval o).run P w=.ok (.round l fn tmps assign body) w:=by
  simp[execOp,ho,resolve,hf,Deferred.ofValue,invoke,hy]
 rw[hs,hrun,Oper.uponIn_round]
 refine⟨λh=>by simp[Fence.wide]at h,hr.mono λe w' hr=>?_⟩
 obtain⟨v,rfl,hx⟩:=hR e w' hr
 exact hx
theorem bM{ops:Array Oper}{i:Nat}{rest:List Nat}{o:Oper}(ho:ops[i]? =some o)(hg:o.guard=none)(h:o.wpIn Fence.wide n P a w (wpOpsIn Fence.wide n P ops Q rest) Q):wpOpsIn Fence.wide n P ops Q (i::rest) a w:=by
 unfold wpOpsIn
 simp only[ho,Region.wanted,hg,if_true]
 exact h
end
def bW:Code->Array Oper
 |.region _ ops _=>ops
 |_=>#[]
def wJ:Code->Nat
 |.region id _ _=>id
 |_=>0
def bD(c:Code)(i:Nat):Oper:=(bW c)[i]?.getD default
def JX(o:Oper):Array TypeId:=match o.op with
 |.call c=>c.argTypes
 |_=>#[]
theorem VY{P:Program}{m:Nat}{sc:List It}{F:Prop}{st st0:az}(h:PS sc F)(he:F=Ku m sc st (λ_ st'=>FG st' st0)):oQ P m st st0:=by
 obtain⟨_,st',hw,hf⟩:=xx (P:=P) (Eq.mp he h)
 exact hw.trans hf.weak
theorem cQ.thenW{P:Program}{GE:List (Nat×List PVal)}{m:Nat}{c:Code}{e:Exit}{st0 st1 st2:az}(h:cQ P GE m c (EX e st1) st0)(hw:oQ P m st1 st2):cQ P GE m c (EX e st2) st0:=
 h.mono λe' st' hx=>⟨st2,hx.2▸hw,hx.1,rfl⟩
def PT:Code->Code
 |.rangeFunc _ _ a _=>a
 |_=>.skip
def Yf:Code->Code
 |.rangeFunc _ _ _ b=>b
 |_=>.skip
theorem om{w:World}{b:Nat}{o:Obj}(h:w.heap[b]? =some o):b<w.heap.size:=(vaf.1 h).1
end Go.Proofs.YtjddnhkahpfhdaaGreatDoor
