/- PROVED: a part of the proof. Conditions: none. -/
import Derived.Test.YtibglelmlnfojaaGreatDoorpt8
import Derived.Test.YtibglelmlnfojaaGreatDoorChecked
import Derived.Test.YtibglelmlnfojaaGreatDoorpt7
import Derived.Test.YtibglelmlnfojaaGreatDoorpt3
import Derived.Shelf.SlicesE.Clone
set_option linter.unusedSimpArgs false
set_option linter.unusedVariables false
noncomputable section
namespace Go.Proofs.YtibglelmlnfojaaGreatDoor
open Go Go.Proofs.Tryz
set_option linter.unusedVariables false
set_option maxRecDepth 100000
noncomputable abbrev Pg:=Tryz.prog
theorem mixed:Pg.follows .mixedOrders=true:=by kernel_rfl
inductive aa where
 |mk (Op:Int) (Name:ae) (N:Int) (Kids:(List aa))
def aa.Op:aa->Int
 |⟨x,_,_,_⟩=>x
def aa.Name:aa->ae
 |⟨_,x,_,_⟩=>x
def aa.N:aa->Int
 |⟨_,_,x,_⟩=>x
def aa.Kids:aa->(List aa)
 |⟨_,_,_,x⟩=>x
mutual
def ac:aa->List PVal
 |⟨x0,x1,x2,x3⟩=>[.int .i64 x0,.str x1,.int .i64 x2,.slice (BN x3)]
def BN:List aa->List (List PVal)
 |[]=>[]
 |x::r=>ac x::BN r
end
theorem SO:∀(l:List aa),BN l=l.map ac
 |[]=>by simp[BN]
 |x::r=>by simp[BN,SO r]
mutual
theorem bK:∀(x:aa),jl 0 (ac x)
 |⟨x0,x1,x2,x3⟩=>by rw[ac];exact(aI vzz (aI vzz (aI vzz (aI (U5 x3) trivial))))
theorem U5:∀(l:List aa),AC 0 (BN l)
 |[]=>by simp[BN,AC]
 |x::r=>by rw[BN];exact⟨bK x,U5 r⟩
end
theorem cf:∀(x:aa),ac x=[.int .i64 x.Op,.str x.Name,.int .i64 x.N,sl ac x.Kids]
 |⟨x0,x1,x2,x3⟩=>by
  simp only[ac,SO]
  rfl
abbrev qbU(x:aa):PVal:=.agg (ac x)
instance iK_tPred{x:aa}:K0l (ac x):=⟨bK x⟩
instance iE_tPred:KE ac:=⟨bK⟩
theorem Ob(x:aa):(ac x).length=4:=by rw[cf];rfl
theorem dQ(x:aa):ca (.agg (ac x))=some (ac x):=rfl
theorem qc0(x:aa):ca (qbU x)=some (ac x):=rfl
theorem fT(x:aa):ca (.agg (ac x))=some [.int .i64 x.Op,.str x.Name,.int .i64 x.N,sl ac x.Kids]:=by rw[cf];rfl
theorem qcN(x:aa):∀q∈ac x,q.one=true:=by
 intro q hq
 rw[cf]at hq
 simp only[vaF,vbf,or_false]at hq
 rcases hq with rfl|rfl|rfl|rfl<;>rfl
theorem qgP:Pg.cellsOf 28=4:=by kernel_rfl
theorem bu(x:aa):bz Pg 28 (ac x)=some (.agg (ac x)):=by
 have:=iE (P:=Pg) (t:=28) (l:=ac x) (r:=[]) (by kernel_rfl) (qgP.trans (Ob x).symm)
 rwa[vak]at this
theorem fS(x:aa)(r:List PVal):bz Pg 28 ([.int .i64 x.Op,.str x.Name,.int .i64 x.N,sl ac x.Kids]++r)=some (.agg (ac x)):=by
 rw[<-cf];exact iE (by kernel_rfl) (qgP.trans (Ob x).symm)
theorem qdk(x:aa):PVal.agg [.int .i64 x.Op,.str x.Name,.int .i64 x.N,sl ac x.Kids]=.agg (ac x):=by rw[cf]
theorem Kx:cx Pg 28 []=some (.agg (ac (⟨0,([]:ae),0,([]:List aa)⟩:aa))):=by
 simp only[cf]
 kernel_rfl
theorem Ku:wT Pg 28 [] [(3,28)]:=by
 exact⟨[.int .i64 0,.str ([]:ae),.int .i64 0,.val eO],by kernel_rfl,(aI rfl vzz)⟩
theorem Mb(x0:Int)(x1:ae):cx Pg 28 [(0,.int .i64 x0),(1,.str x1)]=some (.agg (ac (⟨x0,x1,0,([]:List aa)⟩:aa))):=by
 simp only[cf]
 kernel_rfl
theorem L6(x0:Int)(x1:ae):wT Pg 28 [(0,.int .i64 x0),(1,.str x1)] [(3,28)]:=by
 exact⟨[.int .i64 x0,.str x1,.int .i64 0,.val eO],by kernel_rfl,(aI rfl vzz)⟩
theorem WC(x0:Int)(x2:Int):cx Pg 28 [(0,.int .i64 x0),(2,.int .i64 x2)]=some (.agg (ac (⟨x0,([]:ae),x2,([]:List aa)⟩:aa))):=by
 simp only[cf]
 kernel_rfl
theorem Ww(x0:Int)(x2:Int):wT Pg 28 [(0,.int .i64 x0),(2,.int .i64 x2)] [(3,28)]:=by
 exact⟨[.int .i64 x0,.str ([]:ae),.int .i64 x2,.val eO],by kernel_rfl,(aI rfl vzz)⟩
theorem WD(x0:Int)(x3:(List aa)):cx Pg 28 [(0,.int .i64 x0),(3,sl ac x3)]=some (.agg (ac (⟨x0,([]:ae),0,x3⟩:aa))):=by
 simp only[cf]
 kernel_rfl
theorem aD(x:aa):aY Pg 28 (.eptr (ac x)) 0=some (.eptr ((ac x).drop 0))/\bz Pg 25 ((ac x).drop 0)=some (.int .i64 x.Op):=⟨by rw[cf];kernel_rfl,by rw[cf];kernel_rfl⟩
theorem bv(x:aa):aY Pg 28 (.eptr (ac x)) 1=some (.eptr ((ac x).drop 1))/\bz Pg 9 ((ac x).drop 1)=some (.str x.Name):=⟨by rw[cf];kernel_rfl,by rw[cf];kernel_rfl⟩
theorem bh(x:aa):aY Pg 28 (.eptr (ac x)) 2=some (.eptr ((ac x).drop 2))/\bz Pg 3 ((ac x).drop 2)=some (.int .i64 x.N):=⟨by rw[cf];kernel_rfl,by rw[cf];kernel_rfl⟩
theorem Us(x:aa):aY Pg 28 (.eptr (ac x)) 3=some (.eptr ((ac x).drop 3)):=by rw[cf];kernel_rfl
theorem aC(x:aa):aY Pg 28 (.eptr (ac x)) 3=some (.eptr ((ac x).drop 3))/\bz Pg 26 ((ac x).drop 3)=some (sl ac x.Kids):=⟨by rw[cf];kernel_rfl,by rw[cf];kernel_rfl⟩
theorem Uw(x:aa):bz Pg 26 ((ac x).drop 3)=some (sl ac x.Kids):=by rw[cf];kernel_rfl
inductive af where
 |mk (Op:Int) (Name:ae) (Args:(List af)) (Names:(List ae)) (Pred:aa) (Preds:(List aa))
def af.Op:af->Int
 |⟨x,_,_,_,_,_⟩=>x
def af.Name:af->ae
 |⟨_,x,_,_,_,_⟩=>x
def af.Args:af->(List af)
 |⟨_,_,x,_,_,_⟩=>x
def af.Names:af->(List ae)
 |⟨_,_,_,x,_,_⟩=>x
def af.Pred:af->aa
 |⟨_,_,_,_,x,_⟩=>x
def af.Preds:af->(List aa)
 |⟨_,_,_,_,_,x⟩=>x
mutual
def ai:af->List PVal
 |⟨x0,x1,x2,x3,x4,x5⟩=>[.int .i64 x0,.str x1,.slice (BO x2),sl cS x3]++(ac x4++([sl ac x5]))
def BO:List af->List (List PVal)
 |[]=>[]
 |x::r=>ai x::BO r
end
theorem SP:∀(l:List af),BO l=l.map ai
 |[]=>by simp[BO]
 |x::r=>by simp[BO,SP r]
mutual
theorem cJ:∀(x:af),jl 0 (ai x)
 |⟨x0,x1,x2,x3,x4,x5⟩=>by rw[ai];exact KD.2 (aI ((aI vzz (aI vzz (aI (U6 x2) (aI (aZ Q0 x3) trivial))))) (KD.2 (aI (bK x4) ((aI (aZ bK x5) trivial)))))
theorem U6:∀(l:List af),AC 0 (BO l)
 |[]=>by simp[BO,AC]
 |x::r=>by rw[BO];exact⟨cJ x,U6 r⟩
end
theorem dp:∀(x:af),ai x=[.int .i64 x.Op,.str x.Name,sl ai x.Args,sl cS x.Names,.int .i64 x.Pred.Op,.str x.Pred.Name,.int .i64 x.Pred.N,sl ac x.Pred.Kids,sl ac x.Preds]
 |⟨x0,x1,x2,x3,x4,x5⟩=>by
  simp only[ai,SP,cf,vaN,vaS]
  rfl
abbrev qbV(x:af):PVal:=.agg (ai x)
instance iK_tType{x:af}:K0l (ai x):=⟨cJ x⟩
instance iE_tType:KE ai:=⟨cJ⟩
theorem Od(x:af):(ai x).length=9:=by rw[dp];rfl
theorem dR(x:af):ca (.agg (ai x))=some (ai x):=rfl
theorem qc1(x:af):ca (qbV x)=some (ai x):=rfl
theorem gJ(x:af):ca (.agg (ai x))=some [.int .i64 x.Op,.str x.Name,sl ai x.Args,sl cS x.Names,.int .i64 x.Pred.Op,.str x.Pred.Name,.int .i64 x.Pred.N,sl ac x.Pred.Kids,sl ac x.Preds]:=by rw[dp];rfl
theorem qcP(x:af):∀q∈ai x,q.one=true:=by
 intro q hq
 rw[dp]at hq
 simp only[vaF,vbf,or_false]at hq
 rcases hq with rfl|rfl|rfl|rfl|rfl|rfl|rfl|rfl|rfl<;>rfl
theorem qgQ:Pg.cellsOf 30=9:=by kernel_rfl
theorem bo(x:af):bz Pg 30 (ai x)=some (.agg (ai x)):=by
 have:=iE (P:=Pg) (t:=30) (l:=ai x) (r:=[]) (by kernel_rfl) (qgQ.trans (Od x).symm)
 rwa[vak]at this
theorem ed(x:af)(r:List PVal):bz Pg 30 ([.int .i64 x.Op,.str x.Name,sl ai x.Args,sl cS x.Names,.int .i64 x.Pred.Op,.str x.Pred.Name,.int .i64 x.Pred.N,sl ac x.Pred.Kids,sl ac x.Preds]++r)=some (.agg (ai x)):=by
 rw[<-dp];exact iE (by kernel_rfl) (qgQ.trans (Od x).symm)
theorem Sl:cx Pg 30 []=some (.agg (ai (⟨0,([]:ae),([]:List af),([]:List ae),(⟨0,([]:ae),0,([]:List aa)⟩:aa),([]:List aa)⟩:af))):=by
 simp only[dp]
 kernel_rfl
theorem Si:wT Pg 30 [] [(2,30),(3,9),(7,28),(8,28)]:=by
 exact⟨[.int .i64 0,.str ([]:ae),.val eO,.val eO,.int .i64 0,.str ([]:ae),.int .i64 0,.val eO,.val eO],by kernel_rfl,(aI rfl (aI rfl (aI rfl (aI rfl vzz))))⟩
theorem Sk(x0:Int)(x3:(List ae))(x2:(List af)):cx Pg 30 [(0,.int .i64 x0),(3,sl cS x3),(2,sl ai x2)]=some (.agg (ai (⟨x0,([]:ae),x2,x3,(⟨0,([]:ae),0,([]:List aa)⟩:aa),([]:List aa)⟩:af))):=by
 simp only[dp]
 kernel_rfl
theorem Sg(x0:Int)(x3:(List ae))(x2:(List af)):wT Pg 30 [(0,.int .i64 x0),(3,sl cS x3),(2,sl ai x2)] [(7,28),(8,28)]:=by
 exact⟨[.int .i64 x0,.str ([]:ae),sl ai x2,sl cS x3,.int .i64 0,.str ([]:ae),.int .i64 0,.val eO,.val eO],by kernel_rfl,(aI rfl (aI rfl vzz))⟩
theorem WE(x0:Int)(x4:aa):cx Pg 30 [(0,.int .i64 x0),(4,.agg (ac x4))]=some (.agg (ai (⟨x0,([]:ae),([]:List af),([]:List ae),x4,([]:List aa)⟩:af))):=by
 simp only[dp,cf]
 kernel_rfl
theorem Wx(x0:Int)(x4:aa):wT Pg 30 [(0,.int .i64 x0),(4,.agg (ac x4))] [(2,30),(3,9),(8,28)]:=by
 simp only[cf]
 exact⟨[.int .i64 x0,.str ([]:ae),.val eO,.val eO,.int .i64 x4.Op,.str x4.Name,.int .i64 x4.N,sl ac x4.Kids,.val eO],by kernel_rfl,(aI rfl (aI rfl (aI rfl vzz)))⟩
theorem Sj(x0:Int):cx Pg 30 [(0,.int .i64 x0)]=some (.agg (ai (⟨x0,([]:ae),([]:List af),([]:List ae),(⟨0,([]:ae),0,([]:List aa)⟩:aa),([]:List aa)⟩:af))):=by
 simp only[dp]
 kernel_rfl
theorem Sf(x0:Int):wT Pg 30 [(0,.int .i64 x0)] [(2,30),(3,9),(7,28),(8,28)]:=by
 exact⟨[.int .i64 x0,.str ([]:ae),.val eO,.val eO,.int .i64 0,.str ([]:ae),.int .i64 0,.val eO,.val eO],by kernel_rfl,(aI rfl (aI rfl (aI rfl (aI rfl vzz))))⟩
theorem az(x:af):aY Pg 30 (.eptr (ai x)) 0=some (.eptr ((ai x).drop 0))/\bz Pg 22 ((ai x).drop 0)=some (.int .i64 x.Op):=⟨by rw[dp];kernel_rfl,by rw[dp];kernel_rfl⟩
theorem bP(x:af):aY Pg 30 (.eptr (ai x)) 1=some (.eptr ((ai x).drop 1))/\bz Pg 9 ((ai x).drop 1)=some (.str x.Name):=⟨by rw[dp];kernel_rfl,by rw[dp];kernel_rfl⟩
theorem aM(x:af):aY Pg 30 (.eptr (ai x)) 2=some (.eptr ((ai x).drop 2))/\bz Pg 23 ((ai x).drop 2)=some (sl ai x.Args):=⟨by rw[dp];kernel_rfl,by rw[dp];kernel_rfl⟩
theorem aX(x:af):aY Pg 30 (.eptr (ai x)) 3=some (.eptr ((ai x).drop 3))/\bz Pg 24 ((ai x).drop 3)=some (sl cS x.Names):=⟨by rw[dp];kernel_rfl,by rw[dp];kernel_rfl⟩
theorem cj(x:af):aY Pg 30 (.eptr (ai x)) 4=some (.eptr ((ai x).drop 4))/\bz Pg 28 ((ai x).drop 4)=some (.agg (ac x.Pred)):=⟨by rw[dp];kernel_rfl,by rw[dp,cf];kernel_rfl⟩
theorem bm(x:af):aY Pg 30 (.eptr (ai x)) 5=some (.eptr ((ai x).drop 8))/\bz Pg 26 ((ai x).drop 8)=some (sl ac x.Preds):=⟨by rw[dp];kernel_rfl,by rw[dp];kernel_rfl⟩
structure cP where
 Name:ae
 Type_:af
def bw(x:cP):List PVal:=[.str x.Name]++(ai x.Type_)
theorem oe(x:cP):bw x=[.str x.Name,.int .i64 x.Type_.Op,.str x.Type_.Name,sl ai x.Type_.Args,sl cS x.Type_.Names,.int .i64 x.Type_.Pred.Op,.str x.Type_.Pred.Name,.int .i64 x.Type_.Pred.N,sl ac x.Type_.Pred.Kids,sl ac x.Type_.Preds]:=by
 unfold bw
 simp only[dp,vaN,vaS]
theorem qK(x:cP):jl 0 (bw x):=by rw[oe];exact(aI vzz (aI vzz (aI vzz (aI (aZ cJ x.Type_.Args) (aI (aZ Q0 x.Type_.Names) (aI vzz (aI vzz (aI vzz (aI (aZ bK x.Type_.Pred.Kids) (aI (aZ bK x.Type_.Preds) trivial))))))))))
instance iE_tParam:KE bw:=⟨qK⟩
theorem SV(x:cP):(bw x).length=10:=by rw[oe];rfl
theorem EF(x:cP):ca (.agg (bw x))=some [.str x.Name,.int .i64 x.Type_.Op,.str x.Type_.Name,sl ai x.Type_.Args,sl cS x.Type_.Names,.int .i64 x.Type_.Pred.Op,.str x.Type_.Pred.Name,.int .i64 x.Type_.Pred.N,sl ac x.Type_.Pred.Kids,sl ac x.Type_.Preds]:=by rw[oe];rfl
theorem qar(x:cP):∀q∈bw x,q.one=true:=by
 intro q hq
 rw[oe]at hq
 simp only[vaF,vbf,or_false]at hq
 rcases hq with rfl|rfl|rfl|rfl|rfl|rfl|rfl|rfl|rfl|rfl<;>rfl
theorem qel:Pg.cellsOf 114=10:=by kernel_rfl
theorem IJ(x:cP):bz Pg 114 (bw x)=some (.agg (bw x)):=by
 have:=iE (P:=Pg) (t:=114) (l:=bw x) (r:=[]) (by kernel_rfl) (qel.trans (SV x).symm)
 rwa[vak]at this
theorem o0(x:cP):aY Pg 114 (.eptr (bw x)) 0=some (.eptr ((bw x).drop 0))/\bz Pg 9 ((bw x).drop 0)=some (.str x.Name):=⟨by rw[oe];kernel_rfl,by rw[oe];kernel_rfl⟩
theorem jz(x:cP):aY Pg 114 (.eptr (bw x)) 1=some (.eptr ((bw x).drop 1))/\bz Pg 30 ((bw x).drop 1)=some (.agg (ai x.Type_)):=⟨by rw[oe];kernel_rfl,by rw[oe,dp];kernel_rfl⟩
mutual
inductive ag where
 |mk (Op:Int) (Name:ae) (N:Int) (Kids:(List ag)) (Params:(List cP)) (Alts:(List cK)) (Types:(List af))
inductive cK where
 |mk (Con:ae) (Names:(List ae)) (Body:ag)
end
def ag.Op:ag->Int
 |⟨x,_,_,_,_,_,_⟩=>x
def ag.Name:ag->ae
 |⟨_,x,_,_,_,_,_⟩=>x
def ag.N:ag->Int
 |⟨_,_,x,_,_,_,_⟩=>x
def ag.Kids:ag->(List ag)
 |⟨_,_,_,x,_,_,_⟩=>x
def ag.Params:ag->(List cP)
 |⟨_,_,_,_,x,_,_⟩=>x
def ag.Alts:ag->(List cK)
 |⟨_,_,_,_,_,x,_⟩=>x
def ag.Types:ag->(List af)
 |⟨_,_,_,_,_,_,x⟩=>x
def cK.Con:cK->ae
 |⟨x,_,_⟩=>x
def cK.Names:cK->(List ae)
 |⟨_,x,_⟩=>x
def cK.Body:cK->ag
 |⟨_,_,x⟩=>x
mutual
def ah:ag->List PVal
 |⟨x0,x1,x2,x3,x4,x5,x6⟩=>[.int .i64 x0,.str x1,.int .i64 x2,.slice (BM x3),sl bw x4,.slice (HO x5),sl ai x6]
def bE:cK->List PVal
 |⟨x0,x1,x2⟩=>[.str x0,sl cS x1]++(ah x2)
def BM:List ag->List (List PVal)
 |[]=>[]
 |x::r=>ah x::BM r
def HO:List cK->List (List PVal)
 |[]=>[]
 |x::r=>bE x::HO r
end
theorem SN:∀(l:List ag),BM l=l.map ah
 |[]=>by simp[BM]
 |x::r=>by simp[BM,SN r]
theorem Vf:∀(l:List cK),HO l=l.map bE
 |[]=>by simp[HO]
 |x::r=>by simp[HO,Vf r]
mutual
theorem dM:∀(x:ag),jl 0 (ah x)
 |⟨x0,x1,x2,x3,x4,x5,x6⟩=>by rw[ah];exact(aI vzz (aI vzz (aI vzz (aI (U4 x3) (aI (aZ qK x4) (aI (Yl x5) (aI (aZ cJ x6) trivial)))))))
theorem oc:∀(x:cK),jl 0 (bE x)
 |⟨x0,x1,x2⟩=>by rw[bE];exact KD.2 (aI ((aI vzz (aI (aZ Q0 x1) trivial))) (dM x2))
theorem U4:∀(l:List ag),AC 0 (BM l)
 |[]=>by simp[BM,AC]
 |x::r=>by rw[BM];exact⟨dM x,U4 r⟩
theorem Yl:∀(l:List cK),AC 0 (HO l)
 |[]=>by simp[HO,AC]
 |x::r=>by rw[HO];exact⟨oc x,Yl r⟩
end
theorem cp:∀(x:ag),ah x=[.int .i64 x.Op,.str x.Name,.int .i64 x.N,sl ah x.Kids,sl bw x.Params,sl bE x.Alts,sl ai x.Types]
 |⟨x0,x1,x2,x3,x4,x5,x6⟩=>by
  simp only[ah,SN,Vf]
  rfl
abbrev ta(x:ag):PVal:=.agg (ah x)
instance iK_tExpr{x:ag}:K0l (ah x):=⟨dM x⟩
instance iE_tExpr:KE ah:=⟨dM⟩
theorem Oa(x:ag):(ah x).length=7:=by rw[cp];rfl
theorem bQ(x:ag):ca (.agg (ah x))=some (ah x):=rfl
theorem lW(x:ag):ca (ta x)=some (ah x):=rfl
theorem y2(x:ag):ca (.agg (ah x))=some [.int .i64 x.Op,.str x.Name,.int .i64 x.N,sl ah x.Kids,sl bw x.Params,sl bE x.Alts,sl ai x.Types]:=by rw[cp];rfl
theorem qcM(x:ag):∀q∈ah x,q.one=true:=by
 intro q hq
 rw[cp]at hq
 simp only[vaF,vbf,or_false]at hq
 rcases hq with rfl|rfl|rfl|rfl|rfl|rfl|rfl<;>rfl
theorem qgR:Pg.cellsOf 36=7:=by kernel_rfl
theorem qem:Pg.cellsOf 116=9:=by kernel_rfl
theorem aF(x:ag):bz Pg 36 (ah x)=some (.agg (ah x)):=by
 have:=iE (P:=Pg) (t:=36) (l:=ah x) (r:=[]) (by kernel_rfl) (qgR.trans (Oa x).symm)
 rwa[vak]at this
theorem im(x:ag)(r:List PVal):bz Pg 36 ([.int .i64 x.Op,.str x.Name,.int .i64 x.N,sl ah x.Kids,sl bw x.Params,sl bE x.Alts,sl ai x.Types]++r)=some (.agg (ah x)):=by
 rw[<-cp];exact iE (by kernel_rfl) (qgR.trans (Oa x).symm)
theorem OS(x:ag):PVal.agg [.int .i64 x.Op,.str x.Name,.int .i64 x.N,sl ah x.Kids,sl bw x.Params,sl bE x.Alts,sl ai x.Types]=.agg (ah x):=by rw[cp]
theorem Kw:cx Pg 36 []=some (.agg (ah (⟨0,([]:ae),0,([]:List ag),([]:List cP),([]:List cK),([]:List af)⟩:ag))):=by
 simp only[cp]
 kernel_rfl
theorem Kt:wT Pg 36 [] [(3,36),(4,114),(5,116),(6,30)]:=by
 exact⟨[.int .i64 0,.str ([]:ae),.int .i64 0,.val eO,.val eO,.val eO,.val eO],by kernel_rfl,(aI rfl (aI rfl (aI rfl (aI rfl vzz))))⟩
theorem Wy(x0:Int)(x1:ae):cx Pg 36 [(0,.int .i64 x0),(1,.str x1)]=some (.agg (ah (⟨x0,x1,0,([]:List ag),([]:List cP),([]:List cK),([]:List af)⟩:ag))):=by
 simp only[cp]
 kernel_rfl
theorem Ws(x0:Int)(x1:ae):wT Pg 36 [(0,.int .i64 x0),(1,.str x1)] [(3,36),(4,114),(5,116),(6,30)]:=by
 exact⟨[.int .i64 x0,.str x1,.int .i64 0,.val eO,.val eO,.val eO,.val eO],by kernel_rfl,(aI rfl (aI rfl (aI rfl (aI rfl vzz))))⟩
theorem Wz(x0:Int)(x2:Int):cx Pg 36 [(0,.int .i64 x0),(2,.int .i64 x2)]=some (.agg (ah (⟨x0,([]:ae),x2,([]:List ag),([]:List cP),([]:List cK),([]:List af)⟩:ag))):=by
 simp only[cp]
 kernel_rfl
theorem Wt(x0:Int)(x2:Int):wT Pg 36 [(0,.int .i64 x0),(2,.int .i64 x2)] [(3,36),(4,114),(5,116),(6,30)]:=by
 exact⟨[.int .i64 x0,.str ([]:ae),.int .i64 x2,.val eO,.val eO,.val eO,.val eO],by kernel_rfl,(aI rfl (aI rfl (aI rfl (aI rfl vzz))))⟩
theorem WA(x0:Int)(x3:(List ag)):cx Pg 36 [(0,.int .i64 x0),(3,sl ah x3)]=some (.agg (ah (⟨x0,([]:ae),0,x3,([]:List cP),([]:List cK),([]:List af)⟩:ag))):=by
 simp only[cp]
 kernel_rfl
theorem Wu(x0:Int)(x3:(List ag)):wT Pg 36 [(0,.int .i64 x0),(3,sl ah x3)] [(4,114),(5,116),(6,30)]:=by
 exact⟨[.int .i64 x0,.str ([]:ae),.int .i64 0,sl ah x3,.val eO,.val eO,.val eO],by kernel_rfl,(aI rfl (aI rfl (aI rfl vzz)))⟩
theorem bk(x:ag):aY Pg 36 (.eptr (ah x)) 0=some (.eptr ((ah x).drop 0))/\bz Pg 31 ((ah x).drop 0)=some (.int .i64 x.Op):=⟨by rw[cp];kernel_rfl,by rw[cp];kernel_rfl⟩
theorem ch(x:ag):aY Pg 36 (.eptr (ah x)) 1=some (.eptr ((ah x).drop 1))/\bz Pg 9 ((ah x).drop 1)=some (.str x.Name):=⟨by rw[cp];kernel_rfl,by rw[cp];kernel_rfl⟩
theorem bF(x:ag):aY Pg 36 (.eptr (ah x)) 2=some (.eptr ((ah x).drop 2))/\bz Pg 3 ((ah x).drop 2)=some (.int .i64 x.N):=⟨by rw[cp];kernel_rfl,by rw[cp];kernel_rfl⟩
theorem aq(x:ag):aY Pg 36 (.eptr (ah x)) 3=some (.eptr ((ah x).drop 3))/\bz Pg 32 ((ah x).drop 3)=some (sl ah x.Kids):=⟨by rw[cp];kernel_rfl,by rw[cp];kernel_rfl⟩
theorem aS(x:ag):aY Pg 36 (.eptr (ah x)) 4=some (.eptr ((ah x).drop 4))/\bz Pg 33 ((ah x).drop 4)=some (sl bw x.Params):=⟨by rw[cp];kernel_rfl,by rw[cp];kernel_rfl⟩
theorem aB(x:ag):aY Pg 36 (.eptr (ah x)) 5=some (.eptr ((ah x).drop 5))/\bz Pg 34 ((ah x).drop 5)=some (sl bE x.Alts):=⟨by rw[cp];kernel_rfl,by rw[cp];kernel_rfl⟩
theorem aw(x:ag):aY Pg 36 (.eptr (ah x)) 6=some (.eptr ((ah x).drop 6))/\bz Pg 23 ((ah x).drop 6)=some (sl ai x.Types):=⟨by rw[cp];kernel_rfl,by rw[cp];kernel_rfl⟩
theorem uX:∀(x:cK),bE x=[.str x.Con,sl cS x.Names,.int .i64 x.Body.Op,.str x.Body.Name,.int .i64 x.Body.N,sl ah x.Body.Kids,sl bw x.Body.Params,sl bE x.Body.Alts,sl ai x.Body.Types]
 |⟨x0,x1,x2⟩=>by
  simp only[bE,cp,vaN,vaS]
  rfl
instance iK_tAlt{x:cK}:K0l (bE x):=⟨oc x⟩
instance iE_tAlt:KE bE:=⟨oc⟩
theorem YR(x:cK):(bE x).length=9:=by rw[uX];rfl
theorem qhj(x:cK):ca (.agg (bE x))=some (bE x):=rfl
theorem wk(x:cK):ca (.agg (bE x))=some [.str x.Con,sl cS x.Names,.int .i64 x.Body.Op,.str x.Body.Name,.int .i64 x.Body.N,sl ah x.Body.Kids,sl bw x.Body.Params,sl bE x.Body.Alts,sl ai x.Body.Types]:=by rw[uX];rfl
theorem qfa(x:cK):∀q∈bE x,q.one=true:=by
 intro q hq
 rw[uX]at hq
 simp only[vaF,vbf,or_false]at hq
 rcases hq with rfl|rfl|rfl|rfl|rfl|rfl|rfl|rfl|rfl<;>rfl
theorem yp(x:cK):bz Pg 116 (bE x)=some (.agg (bE x)):=by
 have:=iE (P:=Pg) (t:=116) (l:=bE x) (r:=[]) (by kernel_rfl) (qem.trans (YR x).symm)
 rwa[vak]at this
theorem BH(x:cK):aY Pg 116 (.eptr (bE x)) 0=some (.eptr ((bE x).drop 0))/\bz Pg 9 ((bE x).drop 0)=some (.str x.Con):=⟨by rw[uX];kernel_rfl,by rw[uX];kernel_rfl⟩
theorem iB(x:cK):aY Pg 116 (.eptr (bE x)) 1=some (.eptr ((bE x).drop 1))/\bz Pg 24 ((bE x).drop 1)=some (sl cS x.Names):=⟨by rw[uX];kernel_rfl,by rw[uX];kernel_rfl⟩
theorem KI(x:cK):aY Pg 116 (.eptr (bE x)) 2=some (.eptr ((bE x).drop 2))/\bz Pg 36 ((bE x).drop 2)=some (.agg (ah x.Body)):=⟨by rw[uX];kernel_rfl,by rw[uX,cp];kernel_rfl⟩
structure DN where
 Class:ae
 Var:ae
deriving DecidableEq
def p5(x:DN):List PVal:=[.str x.Class,.str x.Var]
theorem Sp(x:DN):jl 0 (p5 x):=(aI vzz (aI vzz vzz))
structure TR where
 Name:ae
 Sort_:ae
deriving DecidableEq
def Ky(x:TR):List PVal:=[.str x.Name,.str x.Sort_]
theorem qaX(x:TR):jl 0 (Ky x):=(aI vzz (aI vzz vzz))
structure qaH where
 Name:ae
 Sort_:ae
deriving DecidableEq
def ug(x:qaH):List PVal:=[.str x.Name,.str x.Sort_]
theorem WI(x:qaH):jl 0 (ug x):=(aI vzz (aI vzz vzz))
structure xm where
 Name:ae
 Vars:(List qaH)
 Hyp:aa
 Goal:aa
def rL(x:xm):List PVal:=[.str x.Name,sl ug x.Vars]++(ac x.Hyp++(ac x.Goal))
theorem qcq(x:xm):rL x=[.str x.Name,sl ug x.Vars,.int .i64 x.Hyp.Op,.str x.Hyp.Name,.int .i64 x.Hyp.N,sl ac x.Hyp.Kids,.int .i64 x.Goal.Op,.str x.Goal.Name,.int .i64 x.Goal.N,sl ac x.Goal.Kids]:=by
 unfold rL
 simp only[cf,vaN,vaS]
theorem U3(x:xm):jl 0 (rL x):=by rw[qcq];exact(aI vzz (aI (aZ WI x.Vars) (aI vzz (aI vzz (aI vzz (aI (aZ bK x.Hyp.Kids) (aI vzz (aI vzz (aI vzz (aI (aZ bK x.Goal.Kids) trivial))))))))))
structure Nn where
 Vars:(List ae)
 Needs:(List DN)
 Abs:(List TR)
 Bounds:(List xm)
 Type_:af
 Metric:(List aa)
def Kz(x:Nn):List PVal:=[sl cS x.Vars,sl p5 x.Needs,sl Ky x.Abs,sl rL x.Bounds]++(ai x.Type_++([sl ac x.Metric]))
theorem WO(x:Nn):Kz x=[sl cS x.Vars,sl p5 x.Needs,sl Ky x.Abs,sl rL x.Bounds,.int .i64 x.Type_.Op,.str x.Type_.Name,sl ai x.Type_.Args,sl cS x.Type_.Names,.int .i64 x.Type_.Pred.Op,.str x.Type_.Pred.Name,.int .i64 x.Type_.Pred.N,sl ac x.Type_.Pred.Kids,sl ac x.Type_.Preds,sl ac x.Metric]:=by
 unfold Kz
 simp only[dp,vaN,vaS]
theorem qgN(x:Nn):jl 0 (Kz x):=by rw[WO];exact(aI (aZ Q0 x.Vars) (aI (aZ Sp x.Needs) (aI (aZ qaX x.Abs) (aI (aZ U3 x.Bounds) (aI vzz (aI vzz (aI (aZ cJ x.Type_.Args) (aI (aZ Q0 x.Type_.Names) (aI vzz (aI vzz (aI vzz (aI (aZ bK x.Type_.Pred.Kids) (aI (aZ bK x.Type_.Preds) (aI (aZ bK x.Metric) trivial))))))))))))))
instance iK_tSig{x:Nn}:K0l (Kz x):=⟨qgN x⟩
structure j3 where
 Name:ae
 Params:(List ae)
 Body:ag
 Mode:Int
 Typed:Bool
 Sig:Nn
def ct(x:j3):List PVal:=[.str x.Name,sl cS x.Params]++(ah x.Body++([.int .i64 x.Mode,.bool x.Typed]++(Kz x.Sig)))
theorem gY(x:j3):ct x=[.str x.Name,sl cS x.Params,.int .i64 x.Body.Op,.str x.Body.Name,.int .i64 x.Body.N,sl ah x.Body.Kids,sl bw x.Body.Params,sl bE x.Body.Alts,sl ai x.Body.Types,.int .i64 x.Mode,.bool x.Typed,sl cS x.Sig.Vars,sl p5 x.Sig.Needs,sl Ky x.Sig.Abs,sl rL x.Sig.Bounds,.int .i64 x.Sig.Type_.Op,.str x.Sig.Type_.Name,sl ai x.Sig.Type_.Args,sl cS x.Sig.Type_.Names,.int .i64 x.Sig.Type_.Pred.Op,.str x.Sig.Type_.Pred.Name,.int .i64 x.Sig.Type_.Pred.N,sl ac x.Sig.Type_.Pred.Kids,sl ac x.Sig.Type_.Preds,sl ac x.Sig.Metric]:=by
 unfold ct
 simp only[cp,WO,vaN,vaS]
theorem Me(x:j3):jl 0 (ct x):=by rw[gY];exact(aI vzz (aI (aZ Q0 x.Params) (aI vzz (aI vzz (aI vzz (aI (aZ dM x.Body.Kids) (aI (aZ qK x.Body.Params) (aI (aZ oc x.Body.Alts) (aI (aZ cJ x.Body.Types) (aI vzz (aI vzz (aI (aZ Q0 x.Sig.Vars) (aI (aZ Sp x.Sig.Needs) (aI (aZ qaX x.Sig.Abs) (aI (aZ U3 x.Sig.Bounds) (aI vzz (aI vzz (aI (aZ cJ x.Sig.Type_.Args) (aI (aZ Q0 x.Sig.Type_.Names) (aI vzz (aI vzz (aI vzz (aI (aZ bK x.Sig.Type_.Pred.Kids) (aI (aZ bK x.Sig.Type_.Preds) (aI (aZ bK x.Sig.Metric) trivial)))))))))))))))))))))))))
abbrev qf2(x:j3):PVal:=.agg (ct x)
instance iK_tDef{x:j3}:K0l (ct x):=⟨Me x⟩
theorem SU(x:j3):(ct x).length=25:=by rw[gY];rfl
theorem qby(x:j3):ca (.agg (ct x))=some (ct x):=rfl
theorem qfg(x:j3):ca (qf2 x)=some (ct x):=rfl
theorem qfi(x:j3):ca (.agg (ct x))=some [.str x.Name,sl cS x.Params,.int .i64 x.Body.Op,.str x.Body.Name,.int .i64 x.Body.N,sl ah x.Body.Kids,sl bw x.Body.Params,sl bE x.Body.Alts,sl ai x.Body.Types,.int .i64 x.Mode,.bool x.Typed,sl cS x.Sig.Vars,sl p5 x.Sig.Needs,sl Ky x.Sig.Abs,sl rL x.Sig.Bounds,.int .i64 x.Sig.Type_.Op,.str x.Sig.Type_.Name,sl ai x.Sig.Type_.Args,sl cS x.Sig.Type_.Names,.int .i64 x.Sig.Type_.Pred.Op,.str x.Sig.Type_.Pred.Name,.int .i64 x.Sig.Type_.Pred.N,sl ac x.Sig.Type_.Pred.Kids,sl ac x.Sig.Type_.Preds,sl ac x.Sig.Metric]:=by rw[gY];rfl
theorem qfb(x:j3):∀q∈ct x,q.one=true:=by
 intro q hq
 rw[gY]at hq
 simp only[vaF,vbf,or_false]at hq
 rcases hq with rfl|rfl|rfl|rfl|rfl|rfl|rfl|rfl|rfl|rfl|rfl|rfl|rfl|rfl|rfl|rfl|rfl|rfl|rfl|rfl|rfl|rfl|rfl|rfl|rfl<;>rfl
theorem qgS:Pg.cellsOf 58=25:=by kernel_rfl
theorem qbh(x:j3):bz Pg 58 (ct x)=some (.agg (ct x)):=by
 have:=iE (P:=Pg) (t:=58) (l:=ct x) (r:=[]) (by kernel_rfl) (qgS.trans (SU x).symm)
 rwa[vak]at this
theorem qeV(x:j3)(r:List PVal):bz Pg 58 ([.str x.Name,sl cS x.Params,.int .i64 x.Body.Op,.str x.Body.Name,.int .i64 x.Body.N,sl ah x.Body.Kids,sl bw x.Body.Params,sl bE x.Body.Alts,sl ai x.Body.Types,.int .i64 x.Mode,.bool x.Typed,sl cS x.Sig.Vars,sl p5 x.Sig.Needs,sl Ky x.Sig.Abs,sl rL x.Sig.Bounds,.int .i64 x.Sig.Type_.Op,.str x.Sig.Type_.Name,sl ai x.Sig.Type_.Args,sl cS x.Sig.Type_.Names,.int .i64 x.Sig.Type_.Pred.Op,.str x.Sig.Type_.Pred.Name,.int .i64 x.Sig.Type_.Pred.N,sl ac x.Sig.Type_.Pred.Kids,sl ac x.Sig.Type_.Preds,sl ac x.Sig.Metric]++r)=some (.agg (ct x)):=by
 rw[<-gY];exact iE (by kernel_rfl) (qgS.trans (SU x).symm)
theorem Ui(x0:ae)(x1:(List ae))(x2:ag):cx Pg 58 [(0,.str x0),(1,sl cS x1),(2,.agg (ah x2))]=some (.agg (ct (⟨x0,x1,x2,0,false,(⟨([]:List ae),([]:List DN),([]:List TR),([]:List xm),(⟨0,([]:ae),([]:List af),([]:List ae),(⟨0,([]:ae),0,([]:List aa)⟩:aa),([]:List aa)⟩:af),([]:List aa)⟩:Nn)⟩:j3))):=by
 simp only[gY,cp]
 kernel_rfl
theorem Ug(x0:ae)(x1:(List ae))(x2:ag):wT Pg 58 [(0,.str x0),(1,sl cS x1),(2,.agg (ah x2))] [(11,9),(12,159),(13,166),(14,168),(17,30),(18,9),(22,28),(23,28),(24,28)]:=by
 simp only[cp]
 exact⟨[.str x0,sl cS x1,.int .i64 x2.Op,.str x2.Name,.int .i64 x2.N,sl ah x2.Kids,sl bw x2.Params,sl bE x2.Alts,sl ai x2.Types,.int .i64 0,.bool false,.val eO,.val eO,.val eO,.val eO,.int .i64 0,.str ([]:ae),.val eO,.val eO,.int .i64 0,.str ([]:ae),.int .i64 0,.val eO,.val eO,.val eO],by kernel_rfl,(aI rfl (aI rfl (aI rfl (aI rfl (aI rfl (aI rfl (aI rfl (aI rfl (aI rfl vzz)))))))))⟩
theorem Yh(x0:ae)(x2:ag):cx Pg 58 [(0,.str x0),(2,.agg (ah x2))]=some (.agg (ct (⟨x0,([]:List ae),x2,0,false,(⟨([]:List ae),([]:List DN),([]:List TR),([]:List xm),(⟨0,([]:ae),([]:List af),([]:List ae),(⟨0,([]:ae),0,([]:List aa)⟩:aa),([]:List aa)⟩:af),([]:List aa)⟩:Nn)⟩:j3))):=by
 simp only[gY,cp]
 kernel_rfl
theorem Yf(x0:ae)(x2:ag):wT Pg 58 [(0,.str x0),(2,.agg (ah x2))] [(1,9),(11,9),(12,159),(13,166),(14,168),(17,30),(18,9),(22,28),(23,28),(24,28)]:=by
 simp only[cp]
 exact⟨[.str x0,.val eO,.int .i64 x2.Op,.str x2.Name,.int .i64 x2.N,sl ah x2.Kids,sl bw x2.Params,sl bE x2.Alts,sl ai x2.Types,.int .i64 0,.bool false,.val eO,.val eO,.val eO,.val eO,.int .i64 0,.str ([]:ae),.val eO,.val eO,.int .i64 0,.str ([]:ae),.int .i64 0,.val eO,.val eO,.val eO],by kernel_rfl,(aI rfl (aI rfl (aI rfl (aI rfl (aI rfl (aI rfl (aI rfl (aI rfl (aI rfl (aI rfl vzz))))))))))⟩
theorem N4(x:j3):aY Pg 58 (.eptr (ct x)) 0=some (.eptr ((ct x).drop 0))/\bz Pg 9 ((ct x).drop 0)=some (.str x.Name):=⟨by rw[gY];kernel_rfl,by rw[gY];kernel_rfl⟩
theorem Mp(x:j3):aY Pg 58 (.eptr (ct x)) 1=some (.eptr ((ct x).drop 1))/\bz Pg 24 ((ct x).drop 1)=some (sl cS x.Params):=⟨by rw[gY];kernel_rfl,by rw[gY];kernel_rfl⟩
theorem rS(x:j3):aY Pg 58 (.eptr (ct x)) 2=some (.eptr ((ct x).drop 2))/\bz Pg 36 ((ct x).drop 2)=some (.agg (ah x.Body)):=⟨by rw[gY];kernel_rfl,by rw[gY,cp];kernel_rfl⟩
theorem rT(x:j3):aY Pg 58 (.eptr (ct x)) 3=some (.eptr ((ct x).drop 9))/\bz Pg 51 ((ct x).drop 9)=some (.int .i64 x.Mode):=⟨by rw[gY];kernel_rfl,by rw[gY];kernel_rfl⟩
theorem BJ(x:j3):aY Pg 58 (.eptr (ct x)) 4=some (.eptr ((ct x).drop 10))/\bz Pg 4 ((ct x).drop 10)=some (.bool x.Typed):=⟨by rw[gY];kernel_rfl,by rw[gY];kernel_rfl⟩
theorem KK(x:j3):aY Pg 58 (.eptr (ct x)) 5=some (.eptr ((ct x).drop 11))/\bz Pg 56 ((ct x).drop 11)=some (.agg (Kz x.Sig)):=⟨by rw[gY];kernel_rfl,by rw[gY,WO];kernel_rfl⟩
structure aR where
 level:Int
 left:Int
 right:Int
 sign:ae
deriving DecidableEq
def fC(x:aR):List PVal:=[.int .i64 x.level,.int .i64 x.left,.int .i64 x.right,.str x.sign]
theorem C9(x:aR):fC x=[.int .i64 x.level,.int .i64 x.left,.int .i64 x.right,.str x.sign]:=rfl
theorem NX(x:aR):jl 0 (fC x):=(aI vzz (aI vzz (aI vzz (aI vzz vzz))))
instance iK_predtext_form{x:aR}:K0l (fC x):=⟨NX x⟩
theorem cr(x:aR):ca (.agg (fC x))=some [.int .i64 x.level,.int .i64 x.left,.int .i64 x.right,.str x.sign]:=by rw[C9];rfl
theorem cV(x:aR):PVal.agg [.int .i64 x.level,.int .i64 x.left,.int .i64 x.right,.str x.sign]=.agg (fC x):=by rw[C9]
theorem Kv:cx Pg 193 []=some (.agg (fC (⟨0,0,0,([]:ae)⟩:aR))):=by
 kernel_rfl
theorem bR(x0:Int)(x1:Int)(x2:Int)(x3:ae):cx Pg 193 [(0,.int .i64 x0),(1,.int .i64 x1),(2,.int .i64 x2),(3,.str x3)]=some (.agg (fC (⟨x0,x1,x2,x3⟩:aR))):=by
 kernel_rfl
structure aA where
 n:Bool
 name:Bool
 least:Int
 most:Int
 params:Bool
 alts:Bool
 typesLeast:Int
 typesMost:Int
 types:Bool
deriving DecidableEq
def aL(x:aA):List PVal:=[.bool x.n,.bool x.name,.int .i64 x.least,.int .i64 x.most,.bool x.params,.bool x.alts,.int .i64 x.typesLeast,.int .i64 x.typesMost,.bool x.types]
theorem p6(x:aA):aL x=[.bool x.n,.bool x.name,.int .i64 x.least,.int .i64 x.most,.bool x.params,.bool x.alts,.int .i64 x.typesLeast,.int .i64 x.typesMost,.bool x.types]:=rfl
theorem Qv(x:aA):jl 0 (aL x):=(aI vzz (aI vzz (aI vzz (aI vzz (aI vzz (aI vzz (aI vzz (aI vzz (aI vzz vzz)))))))))
instance iK_syntax_shape{x:aA}:K0l (aL x):=⟨Qv x⟩
theorem N8(x:aA):(aL x).length=9:=by rw[p6];rfl
theorem FI(x:aA):ca (.agg (aL x))=some (aL x):=rfl
theorem cF(x:aA):ca (.agg (aL x))=some [.bool x.n,.bool x.name,.int .i64 x.least,.int .i64 x.most,.bool x.params,.bool x.alts,.int .i64 x.typesLeast,.int .i64 x.typesMost,.bool x.types]:=by rw[p6];rfl
theorem qk2:Pg.cellsOf 176=9:=by kernel_rfl
theorem Df(x:aA)(r:List PVal):bz Pg 176 ([.bool x.n,.bool x.name,.int .i64 x.least,.int .i64 x.most,.bool x.params,.bool x.alts,.int .i64 x.typesLeast,.int .i64 x.typesMost,.bool x.types]++r)=some (.agg (aL x)):=by
 rw[<-p6];exact iE (by kernel_rfl) (qk2.trans (N8 x).symm)
theorem cQ(x:aA):PVal.agg [.bool x.n,.bool x.name,.int .i64 x.least,.int .i64 x.most,.bool x.params,.bool x.alts,.int .i64 x.typesLeast,.int .i64 x.typesMost,.bool x.types]=.agg (aL x):=by rw[p6]
theorem Ma:cx Pg 176 []=some (.agg (aL (⟨false,false,0,0,false,false,0,0,false⟩:aA))):=by
 kernel_rfl
theorem L8(x0:Bool):cx Pg 176 [(0,.bool x0)]=some (.agg (aL (⟨x0,false,0,0,false,false,0,0,false⟩:aA))):=by
 kernel_rfl
theorem Gj(x1:Bool)(x2:Int)(x3:Int):cx Pg 176 [(1,.bool x1),(2,.int .i64 x2),(3,.int .i64 x3)]=some (.agg (aL (⟨false,x1,x2,x3,false,false,0,0,false⟩:aA))):=by
 kernel_rfl
theorem oE(x1:Bool)(x2:Int)(x3:Int)(x8:Bool)(x7:Int):cx Pg 176 [(1,.bool x1),(2,.int .i64 x2),(3,.int .i64 x3),(8,.bool x8),(7,.int .i64 x7)]=some (.agg (aL (⟨false,x1,x2,x3,false,false,0,x7,x8⟩:aA))):=by
 kernel_rfl
theorem C4(x1:Bool)(x3:Int)(x8:Bool)(x7:Int):cx Pg 176 [(1,.bool x1),(3,.int .i64 x3),(8,.bool x8),(7,.int .i64 x7)]=some (.agg (aL (⟨false,x1,0,x3,false,false,0,x7,x8⟩:aA))):=by
 kernel_rfl
theorem L9(x1:Bool):cx Pg 176 [(1,.bool x1)]=some (.agg (aL (⟨false,x1,0,0,false,false,0,0,false⟩:aA))):=by
 kernel_rfl
theorem oX(x2:Int)(x3:Int):cx Pg 176 [(2,.int .i64 x2),(3,.int .i64 x3)]=some (.agg (aL (⟨false,false,x2,x3,false,false,0,0,false⟩:aA))):=by
 kernel_rfl
theorem AB(x2:Int)(x3:Int)(x8:Bool)(x6:Int)(x7:Int):cx Pg 176 [(2,.int .i64 x2),(3,.int .i64 x3),(8,.bool x8),(6,.int .i64 x6),(7,.int .i64 x7)]=some (.agg (aL (⟨false,false,x2,x3,false,false,x6,x7,x8⟩:aA))):=by
 kernel_rfl
theorem Gk(x4:Bool)(x2:Int)(x3:Int):cx Pg 176 [(4,.bool x4),(2,.int .i64 x2),(3,.int .i64 x3)]=some (.agg (aL (⟨false,false,x2,x3,x4,false,0,0,false⟩:aA))):=by
 kernel_rfl
theorem Gl(x5:Bool)(x2:Int)(x3:Int):cx Pg 176 [(5,.bool x5),(2,.int .i64 x2),(3,.int .i64 x3)]=some (.agg (aL (⟨false,false,x2,x3,false,x5,0,0,false⟩:aA))):=by
 kernel_rfl
theorem AF(x:aA):aY Pg 176 (.eptr (aL x)) 1=some (.eptr ((aL x).drop 1))/\bz Pg 4 ((aL x).drop 1)=some (.bool x.name):=⟨by kernel_rfl,by kernel_rfl⟩
theorem AG(x:aA):aY Pg 176 (.eptr (aL x)) 2=some (.eptr ((aL x).drop 2))/\bz Pg 3 ((aL x).drop 2)=some (.int .i64 x.least):=⟨by kernel_rfl,by kernel_rfl⟩
theorem AH(x:aA):aY Pg 176 (.eptr (aL x)) 3=some (.eptr ((aL x).drop 3))/\bz Pg 3 ((aL x).drop 3)=some (.int .i64 x.most):=⟨by kernel_rfl,by kernel_rfl⟩
theorem AI(x:aA):aY Pg 176 (.eptr (aL x)) 4=some (.eptr ((aL x).drop 4))/\bz Pg 4 ((aL x).drop 4)=some (.bool x.params):=⟨by kernel_rfl,by kernel_rfl⟩
theorem oF(x:aA):aY Pg 176 (.eptr (aL x)) 5=some (.eptr ((aL x).drop 5))/\bz Pg 4 ((aL x).drop 5)=some (.bool x.alts):=⟨by kernel_rfl,by kernel_rfl⟩
theorem AJ(x:aA):aY Pg 176 (.eptr (aL x)) 6=some (.eptr ((aL x).drop 6))/\bz Pg 3 ((aL x).drop 6)=some (.int .i64 x.typesLeast):=⟨by kernel_rfl,by kernel_rfl⟩
theorem AK(x:aA):aY Pg 176 (.eptr (aL x)) 7=some (.eptr ((aL x).drop 7))/\bz Pg 3 ((aL x).drop 7)=some (.int .i64 x.typesMost):=⟨by kernel_rfl,by kernel_rfl⟩
structure qhM where
 Name:ae
 Names:(List ae)
 Fields:(List af)
def NW(x:qhM):List PVal:=[.str x.Name,sl cS x.Names,sl ai x.Fields]
theorem qgM(x:qhM):jl 0 (NW x):=(aI vzz (aI (aZ Q0 x.Names) (aI (aZ cJ x.Fields) trivial)))
structure As where
 Name:ae
 Vars:(List ae)
 Preds:(List qaH)
 Cons:(List qhM)
def lm(x:As):List PVal:=[.str x.Name,sl cS x.Vars,sl ug x.Preds,sl NW x.Cons]
theorem Mn(x:As):lm x=[.str x.Name,sl cS x.Vars,sl ug x.Preds,sl NW x.Cons]:=rfl
theorem Md(x:As):jl 0 (lm x):=(aI vzz (aI (aZ Q0 x.Vars) (aI (aZ WI x.Preds) (aI (aZ qgM x.Cons) trivial))))
instance iK_tData{x:As}:K0l (lm x):=⟨Md x⟩
theorem N9(x:As):(lm x).length=4:=by rw[Mn];rfl
theorem qc3(x:As):ca (.agg (lm x))=some [.str x.Name,sl cS x.Vars,sl ug x.Preds,sl NW x.Cons]:=by rw[Mn];rfl
theorem qcL(x:As):∀q∈lm x,q.one=true:=by
 intro q hq
 rw[Mn]at hq
 simp only[vaF,vbf,or_false]at hq
 rcases hq with rfl|rfl|rfl|rfl<;>rfl
theorem qgU:Pg.cellsOf 92=4:=by kernel_rfl
theorem qeT(x:As):bz Pg 92 (lm x)=some (.agg (lm x)):=by
 have:=iE (P:=Pg) (t:=92) (l:=lm x) (r:=[]) (by kernel_rfl) (qgU.trans (N9 x).symm)
 rwa[vak]at this
theorem qcA(x:As)(r:List PVal):bz Pg 92 ([.str x.Name,sl cS x.Vars,sl ug x.Preds,sl NW x.Cons]++r)=some (.agg (lm x)):=by
 rw[<-Mn];exact iE (by kernel_rfl) (qgU.trans (N9 x).symm)
structure Nm where
 Name:ae
 Type_:af
def qI(x:Nm):List PVal:=[.str x.Name]++(ai x.Type_)
theorem Z2(x:Nm):qI x=[.str x.Name,.int .i64 x.Type_.Op,.str x.Type_.Name,sl ai x.Type_.Args,sl cS x.Type_.Names,.int .i64 x.Type_.Pred.Op,.str x.Type_.Pred.Name,.int .i64 x.Type_.Pred.N,sl ac x.Type_.Pred.Kids,sl ac x.Type_.Preds]:=by
 unfold qI
 simp only[dp,vaN,vaS]
theorem ZV(x:Nm):jl 0 (qI x):=by rw[Z2];exact(aI vzz (aI vzz (aI vzz (aI (aZ cJ x.Type_.Args) (aI (aZ Q0 x.Type_.Names) (aI vzz (aI vzz (aI vzz (aI (aZ bK x.Type_.Pred.Kids) (aI (aZ bK x.Type_.Preds) trivial))))))))))
structure qx where
 Name:ae
 Var:ae
 Methods:(List Nm)
def iy(x:qx):List PVal:=[.str x.Name,.str x.Var,sl qI x.Methods]
theorem IF(x:qx):iy x=[.str x.Name,.str x.Var,sl qI x.Methods]:=rfl
theorem Iz(x:qx):jl 0 (iy x):=(aI vzz (aI vzz (aI (aZ ZV x.Methods) trivial)))
instance iK_tClass{x:qx}:K0l (iy x):=⟨Iz x⟩
theorem KN(x:qx):(iy x).length=3:=by rw[IF];rfl
theorem qav(x:qx):ca (.agg (iy x))=some [.str x.Name,.str x.Var,sl qI x.Methods]:=by rw[IF];rfl
theorem qaq(x:qx):∀q∈iy x,q.one=true:=by
 intro q hq
 rw[IF]at hq
 simp only[vaF,vbf,or_false]at hq
 rcases hq with rfl|rfl|rfl<;>rfl
theorem qgV:Pg.cellsOf 97=3:=by kernel_rfl
theorem qcz(x:qx):bz Pg 97 (iy x)=some (.agg (iy x)):=by
 have:=iE (P:=Pg) (t:=97) (l:=iy x) (r:=[]) (by kernel_rfl) (qgV.trans (KN x).symm)
 rwa[vak]at this
theorem qai(x:qx)(r:List PVal):bz Pg 97 ([.str x.Name,.str x.Var,sl qI x.Methods]++r)=some (.agg (iy x)):=by
 rw[<-IF];exact iE (by kernel_rfl) (qgV.trans (KN x).symm)
structure gd where
 Class:ae
 Type_:af
 Needs:(List DN)
 Defs:(List j3)
def dZ(x:gd):List PVal:=[.str x.Class]++(ai x.Type_++([sl p5 x.Needs,sl ct x.Defs]))
theorem rR(x:gd):dZ x=[.str x.Class,.int .i64 x.Type_.Op,.str x.Type_.Name,sl ai x.Type_.Args,sl cS x.Type_.Names,.int .i64 x.Type_.Pred.Op,.str x.Type_.Pred.Name,.int .i64 x.Type_.Pred.N,sl ac x.Type_.Pred.Kids,sl ac x.Type_.Preds,sl p5 x.Needs,sl ct x.Defs]:=by
 unfold dZ
 simp only[dp,vaN,vaS]
theorem ym(x:gd):jl 0 (dZ x):=by rw[rR];exact(aI vzz (aI vzz (aI vzz (aI (aZ cJ x.Type_.Args) (aI (aZ Q0 x.Type_.Names) (aI vzz (aI vzz (aI vzz (aI (aZ bK x.Type_.Pred.Kids) (aI (aZ bK x.Type_.Preds) (aI (aZ Sp x.Needs) (aI (aZ Me x.Defs) trivial))))))))))))
instance iK_tInstance{x:gd}:K0l (dZ x):=⟨ym x⟩
theorem Cy(x:gd):(dZ x).length=12:=by rw[rR];rfl
theorem UF(x:gd):ca (.agg (dZ x))=some [.str x.Class,.int .i64 x.Type_.Op,.str x.Type_.Name,sl ai x.Type_.Args,sl cS x.Type_.Names,.int .i64 x.Type_.Pred.Op,.str x.Type_.Pred.Name,.int .i64 x.Type_.Pred.N,sl ac x.Type_.Pred.Kids,sl ac x.Type_.Preds,sl p5 x.Needs,sl ct x.Defs]:=by rw[rR];rfl
theorem UC(x:gd):∀q∈dZ x,q.one=true:=by
 intro q hq
 rw[rR]at hq
 simp only[vaF,vbf,or_false]at hq
 rcases hq with rfl|rfl|rfl|rfl|rfl|rfl|rfl|rfl|rfl|rfl|rfl|rfl<;>rfl
theorem qgT:Pg.cellsOf 88=12:=by kernel_rfl
theorem W3(x:gd):bz Pg 88 (dZ x)=some (.agg (dZ x)):=by
 have:=iE (P:=Pg) (t:=88) (l:=dZ x) (r:=[]) (by kernel_rfl) (qgT.trans (Cy x).symm)
 rwa[vak]at this
theorem Ux(x:gd)(r:List PVal):bz Pg 88 ([.str x.Class,.int .i64 x.Type_.Op,.str x.Type_.Name,sl ai x.Type_.Args,sl cS x.Type_.Names,.int .i64 x.Type_.Pred.Op,.str x.Type_.Pred.Name,.int .i64 x.Type_.Pred.N,sl ac x.Type_.Pred.Kids,sl ac x.Type_.Preds,sl p5 x.Needs,sl ct x.Defs]++r)=some (.agg (dZ x)):=by
 rw[<-rR];exact iE (by kernel_rfl) (qgT.trans (Cy x).symm)
structure Zv where
 Con:ae
 Names:(List ae)
 Body:aa
def BD(x:Zv):List PVal:=[.str x.Con,sl cS x.Names]++(ac x.Body)
theorem qey(x:Zv):BD x=[.str x.Con,sl cS x.Names,.int .i64 x.Body.Op,.str x.Body.Name,.int .i64 x.Body.N,sl ac x.Body.Kids]:=by
 unfold BD
 simp only[cf,vaN,vaS]
theorem qej(x:Zv):jl 0 (BD x):=by rw[qey];exact(aI vzz (aI (aZ Q0 x.Names) (aI vzz (aI vzz (aI vzz (aI (aZ bK x.Body.Kids) trivial))))))
structure iP where
 Name:ae
 Data:ae
 Result:ae
 Cases:(List Zv)
 Inv:aa
def eI(x:iP):List PVal:=[.str x.Name,.str x.Data,.str x.Result,sl BD x.Cases]++(ac x.Inv)
theorem wg(x:iP):eI x=[.str x.Name,.str x.Data,.str x.Result,sl BD x.Cases,.int .i64 x.Inv.Op,.str x.Inv.Name,.int .i64 x.Inv.N,sl ac x.Inv.Kids]:=by
 unfold eI
 simp only[cf,vaN,vaS]
theorem BE(x:iP):jl 0 (eI x):=by rw[wg];exact(aI vzz (aI vzz (aI vzz (aI (aZ qej x.Cases) (aI vzz (aI vzz (aI vzz (aI (aZ bK x.Inv.Kids) trivial))))))))
instance iK_tMeasure{x:iP}:K0l (eI x):=⟨BE x⟩
theorem Ez(x:iP):(eI x).length=8:=by rw[wg];rfl
theorem Xm(x:iP):ca (.agg (eI x))=some [.str x.Name,.str x.Data,.str x.Result,sl BD x.Cases,.int .i64 x.Inv.Op,.str x.Inv.Name,.int .i64 x.Inv.N,sl ac x.Inv.Kids]:=by rw[wg];rfl
theorem Xe(x:iP):∀q∈eI x,q.one=true:=by
 intro q hq
 rw[wg]at hq
 simp only[vaF,vbf,or_false]at hq
 rcases hq with rfl|rfl|rfl|rfl|rfl|rfl|rfl|rfl<;>rfl
theorem qaY:Pg.cellsOf 103=8:=by kernel_rfl
theorem YU(x:iP):bz Pg 103 (eI x)=some (.agg (eI x)):=by
 have:=iE (P:=Pg) (t:=103) (l:=eI x) (r:=[]) (by kernel_rfl) (qaY.trans (Ez x).symm)
 rwa[vak]at this
theorem W4(x:iP)(r:List PVal):bz Pg 103 ([.str x.Name,.str x.Data,.str x.Result,sl BD x.Cases,.int .i64 x.Inv.Op,.str x.Inv.Name,.int .i64 x.Inv.N,sl ac x.Inv.Kids]++r)=some (.agg (eI x)):=by
 rw[<-wg];exact iE (by kernel_rfl) (qaY.trans (Ez x).symm)
structure At where
 Name:ae
 Vars:(List qaH)
 Body:aa
def kc(x:At):List PVal:=[.str x.Name,sl ug x.Vars]++(ac x.Body)
theorem HD(x:At):kc x=[.str x.Name,sl ug x.Vars,.int .i64 x.Body.Op,.str x.Body.Name,.int .i64 x.Body.N,sl ac x.Body.Kids]:=by
 unfold kc
 simp only[cf,vaN,vaS]
theorem Mf(x:At):jl 0 (kc x):=by rw[HD];exact(aI vzz (aI (aZ WI x.Vars) (aI vzz (aI vzz (aI vzz (aI (aZ bK x.Body.Kids) trivial))))))
instance iK_tQual{x:At}:K0l (kc x):=⟨Mf x⟩
theorem Oc(x:At):(kc x).length=6:=by rw[HD];rfl
theorem qc4(x:At):ca (.agg (kc x))=some [.str x.Name,sl ug x.Vars,.int .i64 x.Body.Op,.str x.Body.Name,.int .i64 x.Body.N,sl ac x.Body.Kids]:=by rw[HD];rfl
theorem qcO(x:At):∀q∈kc x,q.one=true:=by
 intro q hq
 rw[HD]at hq
 simp only[vaF,vbf,or_false]at hq
 rcases hq with rfl|rfl|rfl|rfl|rfl|rfl<;>rfl
theorem qaZ:Pg.cellsOf 106=6:=by kernel_rfl
theorem qeU(x:At):bz Pg 106 (kc x)=some (.agg (kc x)):=by
 have:=iE (P:=Pg) (t:=106) (l:=kc x) (r:=[]) (by kernel_rfl) (qaZ.trans (Oc x).symm)
 rwa[vak]at this
theorem qcB(x:At)(r:List PVal):bz Pg 106 ([.str x.Name,sl ug x.Vars,.int .i64 x.Body.Op,.str x.Body.Name,.int .i64 x.Body.N,sl ac x.Body.Kids]++r)=some (.agg (kc x)):=by
 rw[<-HD];exact iE (by kernel_rfl) (qaZ.trans (Oc x).symm)
structure hX where
 Datas:(List As)
 Classes:(List qx)
 Instances:(List gd)
 Measures:(List iP)
 Quals:(List At)
 Defs:(List j3)
def cb(x:hX):List PVal:=[sl lm x.Datas,sl iy x.Classes,sl dZ x.Instances,sl eI x.Measures,sl kc x.Quals,sl ct x.Defs]
theorem iA(x:hX):jl 0 (cb x):=(aI (aZ Md x.Datas) (aI (aZ Iz x.Classes) (aI (aZ ym x.Instances) (aI (aZ BE x.Measures) (aI (aZ Mf x.Quals) (aI (aZ Me x.Defs) trivial))))))
instance iK_tModule{x:hX}:K0l (cb x):=⟨iA x⟩
theorem qat(x:hX):ca (.agg (cb x))=some (cb x):=rfl
theorem WB(x5:(List j3)):cx Pg 50 [(5,sl ct x5)]=some (.agg (cb (⟨([]:List As),([]:List qx),([]:List gd),([]:List iP),([]:List At),x5⟩:hX))):=by
 kernel_rfl
theorem Wv(x5:(List j3)):wT Pg 50 [(5,sl ct x5)] [(0,92),(1,97),(2,88),(3,103),(4,106)]:=by
 exact⟨[.val eO,.val eO,.val eO,.val eO,.val eO,sl ct x5],by kernel_rfl,(aI rfl (aI rfl (aI rfl (aI rfl (aI rfl vzz)))))⟩
theorem HF(x:hX):aY Pg 50 (.eptr (cb x)) 0=some (.eptr ((cb x).drop 0))/\bz Pg 43 ((cb x).drop 0)=some (sl lm x.Datas):=⟨by kernel_rfl,by kernel_rfl⟩
theorem HG(x:hX):aY Pg 50 (.eptr (cb x)) 1=some (.eptr ((cb x).drop 1))/\bz Pg 44 ((cb x).drop 1)=some (sl iy x.Classes):=⟨by kernel_rfl,by kernel_rfl⟩
theorem HH(x:hX):aY Pg 50 (.eptr (cb x)) 2=some (.eptr ((cb x).drop 2))/\bz Pg 45 ((cb x).drop 2)=some (sl dZ x.Instances):=⟨by kernel_rfl,by kernel_rfl⟩
theorem HJ(x:hX):aY Pg 50 (.eptr (cb x)) 3=some (.eptr ((cb x).drop 3))/\bz Pg 46 ((cb x).drop 3)=some (sl eI x.Measures):=⟨by kernel_rfl,by kernel_rfl⟩
theorem HK(x:hX):aY Pg 50 (.eptr (cb x)) 4=some (.eptr ((cb x).drop 4))/\bz Pg 47 ((cb x).drop 4)=some (sl kc x.Quals):=⟨by kernel_rfl,by kernel_rfl⟩
theorem HL(x:hX):aY Pg 50 (.eptr (cb x)) 5=some (.eptr ((cb x).drop 5))/\bz Pg 48 ((cb x).drop 5)=some (sl ct x.Defs):=⟨by kernel_rfl,by kernel_rfl⟩
structure d9 where
 S:ae
 Bad:Bool
deriving DecidableEq
def jf(x:d9):List PVal:=[.str x.S,.bool x.Bad]
theorem zN(x:d9):jf x=[.str x.S,.bool x.Bad]:=rfl
theorem mC(x:d9):ca (.agg (jf x))=some [.str x.S,.bool x.Bad]:=by rw[zN];rfl
theorem lL:cx Pg 81 []=some (.agg (jf (⟨([]:ae),false⟩:d9))):=by
 kernel_rfl
structure aj where
 n:Bool
 name:Bool
 least:Int
 most:Int
 params:Bool
 alts:Bool
 types:Bool
 exactly:Bool
 ok:Bool
deriving DecidableEq
def au(x:aj):List PVal:=[.bool x.n,.bool x.name,.int .i64 x.least,.int .i64 x.most,.bool x.params,.bool x.alts,.bool x.types,.bool x.exactly,.bool x.ok]
theorem gI(x:aj):au x=[.bool x.n,.bool x.name,.int .i64 x.least,.int .i64 x.most,.bool x.params,.bool x.alts,.bool x.types,.bool x.exactly,.bool x.ok]:=rfl
theorem C7(x:aj):jl 0 (au x):=(aI vzz (aI vzz (aI vzz (aI vzz (aI vzz (aI vzz (aI vzz (aI vzz (aI vzz vzz)))))))))
instance iK_liquidcheckref20_use{x:aj}:K0l (au x):=⟨C7 x⟩
theorem Cx(x:aj):(au x).length=9:=by rw[gI];rfl
theorem qQ(x:aj):ca (.agg (au x))=some (au x):=rfl
theorem bC(x:aj):ca (.agg (au x))=some [.bool x.n,.bool x.name,.int .i64 x.least,.int .i64 x.most,.bool x.params,.bool x.alts,.bool x.types,.bool x.exactly,.bool x.ok]:=by rw[gI];rfl
theorem qk3:Pg.cellsOf 208=9:=by kernel_rfl
theorem pB(x:aj)(r:List PVal):bz Pg 208 ([.bool x.n,.bool x.name,.int .i64 x.least,.int .i64 x.most,.bool x.params,.bool x.alts,.bool x.types,.bool x.exactly,.bool x.ok]++r)=some (.agg (au x)):=by
 rw[<-gI];exact iE (by kernel_rfl) (qk3.trans (Cx x).symm)
theorem bH(x:aj):PVal.agg [.bool x.n,.bool x.name,.int .i64 x.least,.int .i64 x.most,.bool x.params,.bool x.alts,.bool x.types,.bool x.exactly,.bool x.ok]=.agg (au x):=by rw[gI]
theorem AA:cx Pg 208 []=some (.agg (au (⟨false,false,0,0,false,false,false,false,false⟩:aj))):=by
 kernel_rfl
theorem yk(x8:Bool)(x0:Bool):cx Pg 208 [(8,.bool x8),(0,.bool x0)]=some (.agg (au (⟨x0,false,0,0,false,false,false,false,x8⟩:aj))):=by
 kernel_rfl
theorem yl(x8:Bool)(x1:Bool):cx Pg 208 [(8,.bool x8),(1,.bool x1)]=some (.agg (au (⟨false,x1,0,0,false,false,false,false,x8⟩:aj))):=by
 kernel_rfl
theorem tp(x8:Bool)(x1:Bool)(x2:Int)(x3:Int):cx Pg 208 [(8,.bool x8),(1,.bool x1),(2,.int .i64 x2),(3,.int .i64 x3)]=some (.agg (au (⟨false,x1,x2,x3,false,false,false,false,x8⟩:aj))):=by
 kernel_rfl
theorem jc(x8:Bool)(x1:Bool)(x2:Int)(x3:Int)(x6:Bool):cx Pg 208 [(8,.bool x8),(1,.bool x1),(2,.int .i64 x2),(3,.int .i64 x3),(6,.bool x6)]=some (.agg (au (⟨false,x1,x2,x3,false,false,x6,false,x8⟩:aj))):=by
 kernel_rfl
theorem tq(x8:Bool)(x1:Bool)(x3:Int)(x6:Bool):cx Pg 208 [(8,.bool x8),(1,.bool x1),(3,.int .i64 x3),(6,.bool x6)]=some (.agg (au (⟨false,x1,0,x3,false,false,x6,false,x8⟩:aj))):=by
 kernel_rfl
theorem gv(x8:Bool)(x2:Int)(x3:Int):cx Pg 208 [(8,.bool x8),(2,.int .i64 x2),(3,.int .i64 x3)]=some (.agg (au (⟨false,false,x2,x3,false,false,false,false,x8⟩:aj))):=by
 kernel_rfl
theorem qU(x8:Bool)(x2:Int)(x3:Int)(x6:Bool)(x7:Bool):cx Pg 208 [(8,.bool x8),(2,.int .i64 x2),(3,.int .i64 x3),(6,.bool x6),(7,.bool x7)]=some (.agg (au (⟨false,false,x2,x3,false,false,x6,x7,x8⟩:aj))):=by
 kernel_rfl
theorem tt(x8:Bool)(x4:Bool)(x2:Int)(x3:Int):cx Pg 208 [(8,.bool x8),(4,.bool x4),(2,.int .i64 x2),(3,.int .i64 x3)]=some (.agg (au (⟨false,false,x2,x3,x4,false,false,false,x8⟩:aj))):=by
 kernel_rfl
theorem tu(x8:Bool)(x5:Bool)(x2:Int)(x3:Int):cx Pg 208 [(8,.bool x8),(5,.bool x5),(2,.int .i64 x2),(3,.int .i64 x3)]=some (.agg (au (⟨false,false,x2,x3,false,x5,false,false,x8⟩:aj))):=by
 kernel_rfl
theorem qV(x:aj):aY Pg 208 (.eptr (au x)) 1=some (.eptr ((au x).drop 1))/\bz Pg 4 ((au x).drop 1)=some (.bool x.name):=⟨by kernel_rfl,by kernel_rfl⟩
theorem qW(x:aj):aY Pg 208 (.eptr (au x)) 2=some (.eptr ((au x).drop 2))/\bz Pg 3 ((au x).drop 2)=some (.int .i64 x.least):=⟨by kernel_rfl,by kernel_rfl⟩
theorem qX(x:aj):aY Pg 208 (.eptr (au x)) 3=some (.eptr ((au x).drop 3))/\bz Pg 3 ((au x).drop 3)=some (.int .i64 x.most):=⟨by kernel_rfl,by kernel_rfl⟩
theorem qY(x:aj):aY Pg 208 (.eptr (au x)) 4=some (.eptr ((au x).drop 4))/\bz Pg 4 ((au x).drop 4)=some (.bool x.params):=⟨by kernel_rfl,by kernel_rfl⟩
theorem qZ(x:aj):aY Pg 208 (.eptr (au x)) 5=some (.eptr ((au x).drop 5))/\bz Pg 4 ((au x).drop 5)=some (.bool x.alts):=⟨by kernel_rfl,by kernel_rfl⟩
theorem q9(x:aj):aY Pg 208 (.eptr (au x)) 7=some (.eptr ((au x).drop 7))/\bz Pg 4 ((au x).drop 7)=some (.bool x.exactly):=⟨by kernel_rfl,by kernel_rfl⟩
structure ra where
 Neg:Bool
 Digits:(List Int)
deriving DecidableEq
def ez(x:ra):List PVal:=[.bool x.Neg,sl (cI .i64) x.Digits]
theorem WN(x:ra):ez x=[.bool x.Neg,sl (cI .i64) x.Digits]:=rfl
theorem qgL(x:ra):jl 0 (ez x):=(aI vzz (aI (aZ (U1 .i64) x.Digits) trivial))
instance iK_tBig{x:ra}:K0l (ez x):=⟨qgL x⟩
theorem qeR(x:ra):(ez x).length=2:=by rw[WN];rfl
theorem Rc(x:ra):ca (.agg (ez x))=some (ez x):=rfl
theorem qfh(x:ra):ca (.agg (ez x))=some [.bool x.Neg,sl (cI .i64) x.Digits]:=by rw[WN];rfl
theorem qk4:Pg.cellsOf 217=2:=by kernel_rfl
theorem Q8(x:ra):bz Pg 217 (ez x)=some (.agg (ez x)):=by
 have:=iE (P:=Pg) (t:=217) (l:=ez x) (r:=[]) (by kernel_rfl) (qk4.trans (qeR x).symm)
 rwa[vak]at this
theorem qfI(x:ra):PVal.agg [.bool x.Neg,sl (cI .i64) x.Digits]=.agg (ez x):=by rw[WN]
theorem Yg(x0:Bool)(x1:(List Int)):cx Pg 217 [(0,.bool x0),(1,sl (cI .i64) x1)]=some (.agg (ez (⟨x0,x1⟩:ra))):=by
 kernel_rfl
theorem BI(x:ra):aY Pg 217 (.eptr (ez x)) 0=some (.eptr ((ez x).drop 0))/\bz Pg 4 ((ez x).drop 0)=some (.bool x.Neg):=⟨by kernel_rfl,by kernel_rfl⟩
theorem fw(x:ra):aY Pg 217 (.eptr (ez x)) 1=some (.eptr ((ez x).drop 1))/\bz Pg 215 ((ez x).drop 1)=some (sl (cI .i64) x.Digits):=⟨by kernel_rfl,by kernel_rfl⟩
theorem cu:Qu Pg 23 30 ai:=⟨underlying23,λx=>(Od x).trans qgQ.symm,by kernel_rfl,by rw[qgQ];decide,by kernel_rfl,vaY (by kernel_rfl),qcP,cJ⟩
theorem qjl:Pg.cellsOf 9=1:=by kernel_rfl
theorem d8:Qu Pg 24 9 cS:=⟨underlying24,λ_=>qjl.symm,by kernel_rfl,by rw[qjl];decide,by kernel_rfl,vaY (by kernel_rfl),qqz,Q0⟩
theorem dT:Qu Pg 26 28 ac:=⟨underlying26,λx=>(Ob x).trans qgP.symm,by kernel_rfl,by rw[qgP];decide,by kernel_rfl,vaY (by kernel_rfl),qcN,bK⟩
theorem dJ:Qu Pg 32 36 ah:=⟨underlying32,λx=>(Oa x).trans qgR.symm,by kernel_rfl,by rw[qgR];decide,by kernel_rfl,vaY (by kernel_rfl),qcM,dM⟩
theorem pj:Qu Pg 33 114 bw:=⟨underlying33,λx=>(SV x).trans qel.symm,by kernel_rfl,by rw[qel];decide,by kernel_rfl,vaY (by kernel_rfl),qar,qK⟩
theorem gz:Qu Pg 34 116 bE:=⟨underlying34,λx=>(YR x).trans qem.symm,by kernel_rfl,by rw[qem];decide,by kernel_rfl,vaY (by kernel_rfl),qfa,oc⟩
theorem qlJ:Qu Pg 43 92 lm:=⟨underlying43,λx=>(N9 x).trans qgU.symm,by kernel_rfl,by rw[qgU];decide,by kernel_rfl,vaY (by kernel_rfl),qcL,Md⟩
theorem qlK:Qu Pg 44 97 iy:=⟨underlying44,λx=>(KN x).trans qgV.symm,by kernel_rfl,by rw[qgV];decide,by kernel_rfl,vaY (by kernel_rfl),qaq,Iz⟩
theorem qlL:Qu Pg 45 88 dZ:=⟨underlying45,λx=>(Cy x).trans qgT.symm,by kernel_rfl,by rw[qgT];decide,by kernel_rfl,vaY (by kernel_rfl),UC,ym⟩
theorem qlM:Qu Pg 46 103 eI:=⟨underlying46,λx=>(Ez x).trans qaY.symm,by kernel_rfl,by rw[qaY];decide,by kernel_rfl,vaY (by kernel_rfl),Xe,BE⟩
theorem qlN:Qu Pg 47 106 kc:=⟨underlying47,λx=>(Oc x).trans qaZ.symm,by kernel_rfl,by rw[qaZ];decide,by kernel_rfl,vaY (by kernel_rfl),qcO,Mf⟩
theorem qjF:Qu Pg 48 58 ct:=⟨underlying48,λx=>(SU x).trans qgS.symm,by kernel_rfl,by rw[qgS];decide,by kernel_rfl,vaY (by kernel_rfl),qfb,Me⟩
theorem ql2:Pg.cellsOf 5=1:=by kernel_rfl
theorem qjG:Qu Pg 72 5 (cI .u8):=⟨underlying72,λ_=>ql2.symm,by kernel_rfl,by rw[ql2];decide,by kernel_rfl,vaY (by kernel_rfl),(qlp .u8),(U1 .u8)⟩
theorem qrm:Pg.cellsOf 3=1:=by kernel_rfl
theorem M5:Qu Pg 215 3 (cI .i64):=⟨underlying215,λ_=>qrm.symm,by kernel_rfl,by rw[qrm];decide,by kernel_rfl,vaY (by kernel_rfl),(qlp .i64),(U1 .i64)⟩
theorem bJ(l:List ae)(n:Nat)(hn:(decide (l.length=n)&&decide (n * 1<=16777216))=true):fD Pg 24 n ((l.map PVal.str).zipIdx 0|>.map λx=>(x.2,x.1))=some (sl cS l):=d8.mk' (v:=PVal.str) qtO l n (by rw[qjl];exact hn)
theorem qjH:(Pg.underlying 23).any PH=true:=by kernel_rfl
theorem qjI:(Pg.underlying 24).any PH=true:=by kernel_rfl
theorem qlO:(Pg.underlying 3).any PH=true:=by kernel_rfl
theorem qlP:(Pg.underlying 32).any PH=true:=by kernel_rfl
theorem XC:(Pg.underlying 9).any PH=true:=by kernel_rfl
theorem qt6:OP Pg 4=some (PVal.bool false):=by kernel_rfl
theorem qtP:fE Pg 3=some [.int .i64 0]:=by kernel_rfl
theorem M0:fE Pg 28=some [.int .i64 0,.str ([]:ae),.int .i64 0,sl ac ([]:List aa)]:=by kernel_rfl
theorem K8:fE Pg 30=some [.int .i64 0,.str ([]:ae),sl ai ([]:List af),sl cS ([]:List ae),.int .i64 0,.str ([]:ae),.int .i64 0,sl ac ([]:List aa),sl ac ([]:List aa)]:=by kernel_rfl
theorem UO:fE Pg 36=some [.int .i64 0,.str ([]:ae),.int .i64 0,sl ah ([]:List ag),sl bw ([]:List cP),sl bE ([]:List cK),sl ai ([]:List af)]:=by kernel_rfl
theorem qqE:fE Pg 58=some [.str ([]:ae),sl cS ([]:List ae),.int .i64 0,.str ([]:ae),.int .i64 0,sl ah ([]:List ag),sl bw ([]:List cP),sl bE ([]:List cK),sl ai ([]:List af),.int .i64 0,.bool false,sl cS ([]:List ae),sl p5 ([]:List DN),sl Ky ([]:List TR),sl rL ([]:List xm),.int .i64 0,.str ([]:ae),sl ai ([]:List af),sl cS ([]:List ae),.int .i64 0,.str ([]:ae),.int .i64 0,sl ac ([]:List aa),sl ac ([]:List aa),sl ac ([]:List aa)]:=by kernel_rfl
theorem qqF:fE Pg 61=some [.int .i64 0]:=by kernel_rfl
theorem qqG:fE Pg 88=some [.str ([]:ae),.int .i64 0,.str ([]:ae),sl ai ([]:List af),sl cS ([]:List ae),.int .i64 0,.str ([]:ae),.int .i64 0,sl ac ([]:List aa),sl ac ([]:List aa),sl p5 ([]:List DN),sl ct ([]:List j3)]:=by kernel_rfl
theorem qqH:fE Pg 92=some [.str ([]:ae),sl cS ([]:List ae),sl ug ([]:List qaH),sl NW ([]:List qhM)]:=by kernel_rfl
theorem qqI:fE Pg 97=some [.str ([]:ae),.str ([]:ae),sl qI ([]:List Nm)]:=by kernel_rfl
theorem qlt:fE Pg 103=some [.str ([]:ae),.str ([]:ae),.str ([]:ae),sl BD ([]:List Zv),.int .i64 0,.str ([]:ae),.int .i64 0,sl ac ([]:List aa)]:=by kernel_rfl
theorem qlu:fE Pg 106=some [.str ([]:ae),sl ug ([]:List qaH),.int .i64 0,.str ([]:ae),.int .i64 0,sl ac ([]:List aa)]:=by kernel_rfl
theorem qbG:fE Pg 114=some [.str ([]:ae),.int .i64 0,.str ([]:ae),sl ai ([]:List af),sl cS ([]:List ae),.int .i64 0,.str ([]:ae),.int .i64 0,sl ac ([]:List aa),sl ac ([]:List aa)]:=by kernel_rfl
theorem PF:fE Pg 116=some [.str ([]:ae),sl cS ([]:List ae),.int .i64 0,.str ([]:ae),.int .i64 0,sl ah ([]:List ag),sl bw ([]:List cP),sl bE ([]:List cK),sl ai ([]:List af)]:=by kernel_rfl
theorem qii:fE Pg 176=some [.bool false,.bool false,.int .i64 0,.int .i64 0,.bool false,.bool false,.int .i64 0,.int .i64 0,.bool false]:=by kernel_rfl
theorem qlv:fE Pg 188=some [.val .nilFunc]:=by kernel_rfl
theorem qlw:fE Pg 191=some [.val .nilFunc]:=by kernel_rfl
theorem qfB:fE Pg 193=some [.int .i64 0,.int .i64 0,.int .i64 0,.str ([]:ae)]:=by kernel_rfl
theorem qij:fE Pg 208=some [.bool false,.bool false,.int .i64 0,.int .i64 0,.bool false,.bool false,.bool false,.bool false,.bool false]:=by kernel_rfl
theorem qlx:fE Pg 217=some [.bool false,sl (cI .i64) ([]:List Int)]:=by kernel_rfl
def jF:List ae:=[([]:ae),([]:ae),([]:ae),([]:ae),([]:ae),([]:ae),([]:ae),([]:ae),([]:ae),([]:ae),([43]:ae),([45]:ae),([42]:ae),([100,105,118]:ae),([109,111,100]:ae),([]:ae),([61,61]:ae),([60]:ae),([60,61]:ae),([38,38]:ae),([124,124]:ae)]
theorem qk1:Pg.cellsOf 156=21:=by kernel_rfl
theorem H7{k:IntKind}{i:Int}{x:ae}(h:cX jF i=some x):lr Pg 156 (.eptr (jF.map PVal.str)) (.int k i)=some (.eptr ((jF.map PVal.str).drop i.toNat)):=qkJ underlying156 qjl (by kernel_rfl) (by kernel_rfl) h
theorem H8{i:Int}{x:ae}(h:cX jF i=some x):bz Pg 9 ((jF.map PVal.str).drop i.toNat)=some (PVal.str x):=qkL (by kernel_rfl) h
def dO:List ae:=[([97,110,100]:ae),([97,115,115,117,109,101]:ae),([98,111,111,108]:ae),([98,111,117,110,100]:ae),([99,97,115,101]:ae),([99,101,108,108]:ae),([99,108,97,115,115]:ae),([100,97,116,97]:ae),([100,101,102]:ae),([100,105,118]:ae),([101,108,115,101]:ae),([101,110,100]:ae),([102,97,108,115,101]:ae),([102,111,114,97,108,108]:ae),([102,117,110]:ae),([103,101,116]:ae),([105,102]:ae),([105,110]:ae),([105,110,115,116]:ae),([105,110,116]:ae),([105,110,118,97,114,105,97,110,116]:ae),([108,101,116]:ae),([109,97,116,99,104]:ae),([109,101,97,115,117,114,101]:ae),([109,101,116,114,105,99]:ae),([109,111,100]:ae),([109,117]:ae),([110,101,119]:ae),([110,111,116]:ae),([111,102]:ae),([111,114]:ae),([113,117,97,108]:ae),([114,101,102,108,101,99,116]:ae),([115,101,116]:ae),([116,104,101,110]:ae),([116,114,117,101]:ae),([117,115,101]:ae),([118]:ae),([118,97,108]:ae),([116,97,103]:ae),([119,104,101,114,101]:ae),([119,105,116,104]:ae)]
theorem qk6:Pg.cellsOf 229=42:=by kernel_rfl
theorem Mz:bz Pg 229 (dO.map PVal.str)=some (.agg (dO.map PVal.str)):=by kernel_rfl
theorem My{k:IntKind}{i:Int}{x:ae}(h:cX dO i=some x):EG Pg 229 (.agg (dO.map PVal.str)) (.int k i)=some (PVal.str x):=qkK underlying229 qjl (by kernel_rfl) (by kernel_rfl) (by kernel_rfl) h
def lM:List Int:=[1,10,100,1000,10000,100000,1000000,10000000,100000000,1000000000,10000000000,100000000000,1000000000000,10000000000000,100000000000000,1000000000000000,10000000000000000,100000000000000000,1000000000000000000,10000000000000000000]
theorem qk7:Pg.cellsOf 240=20:=by kernel_rfl
theorem qk5:Pg.cellsOf 224=1:=by kernel_rfl
def Dg:List Int:=[0,1,28,2,29,14,24,3,30,22,20,15,25,17,4,8,31,27,13,23,21,19,16,7,26,12,18,6,11,5,10,9]
theorem qk8:Pg.cellsOf 247=32:=by kernel_rfl
def Dh:List Int:=[0,1,56,2,57,49,28,3,61,58,42,50,38,29,17,4,62,47,59,36,45,43,51,22,53,39,33,30,24,18,12,5,63,55,48,27,60,41,37,16,46,35,44,21,52,32,23,11,54,26,40,15,34,20,31,10,25,14,19,9,13,8,7,6]
theorem qk9:Pg.cellsOf 248=64:=by kernel_rfl
def ZB:ae:=[100,101,102,32]
def Nv:ae:=[114,101,102,108,101,99,116,32]
def PM:ae:=[97,115,115,117,109,101,32]
def Nu:ae:=[32,40]
def aU:ae:=[44,32]
def dI:ae:=[41]
def bX:ae:=[32,58,32]
def dh:ae:=[32]
def PK:ae:=[60]
def VL:ae:=[73,110,116]
def Pa:ae:=[66,111,111,108]
def Pb:ae:=[67,101,108,108]
def nR:ae:=[116,114,117,101]
def qT:ae:=[60,61,62]
def tj:ae:=[61,62]
def wD:ae:=[124,124]
def wB:ae:=[38,38]
def VM:ae:=[61]
def gV:ae:=[33,61]
def wC:ae:=[60,61]
def PJ:ae:=[43]
def pT:ae:=[45]
def PI:ae:=[42]
def cE:ae:=[40]
def TZ:ae:=[63]
def xS:ae:=[33]
def kO:ae:=[32,45,62,32]
def fG:ae:=[123,118,32,58,32]
def DV:ae:=[32,60]
def jn:ae:=[118,46,32]
def VN:ae:=[62]
def cG:ae:=[41,32,45,62,32]
def kY:ae:=[32,124,32]
def PL:ae:=[125]
def ii:ae:=[32,61,32]
def VO:ae:=[91]
def VP:ae:=[93]
def nQ:ae:=[102,117,110,32,40]
def wE:ae:=[108,101,116,32]
def eS:ae:=[32,105,110,32]
def Fj:ae:=[105,102,32]
def lF:ae:=[32,116,104,101,110,32]
def lE:ae:=[32,101,108,115,101,32]
def uK:ae:=[99,97,115,101,32]
def gf:ae:=[32,111,102,32,123,32]
def kP:ae:=[59,32]
def Ay:ae:=[32,125]
def Az:ae:=[117,115,101,32]
def VS:ae:=[110,101,119]
def VQ:ae:=[103,101,116]
def VT:ae:=[115,101,116]
def qg:ae:=[59,10]
def tn:ae:=[102,97,108,115,101]
def th:ae:=[32,61,62,32]
def ZA:ae:=[61,61]
def qip:ae:=[100,105,118]
def qiq:ae:=[109,111,100]
def GE:List (Nat×List PVal):=[(0,jF.map PVal.str),(1,dO.map PVal.str),(2,lM.map (PVal.int .u64)),(4,Dg.map (PVal.int .u8)),(5,Dh.map (PVal.int .u8))]
abbrev OV(f:FuncId)(args:List PVal){R:Type}(o:Option R)(res:R->PVal)(ro:List (Nat×TypeId)):Prop:=qj9 Pg GE f args o res ro
abbrev OG(f:FuncId)(args:List PVal)(oa:List ((Nat×Nat)×TypeId))(H:List aJ){R:Type}(o:Option R)(res:R->PVal)(ro:List (Nat×TypeId))(H':R->List aJ):Prop:=qlX Pg GE f args oa H o res ro H'
abbrev OJ(m:Nat)(c:Code){X:Type}(o:Option X)(e:Exit)(so:X->aK)(st:aK):Prop:=qob Pg GE m c o e so st
abbrev OK(m:Nat)(c:Code){X:Type}(o:Option X)(ex:X->Exit)(so:X->aK)(st:aK):Prop:=qoc Pg GE m c o ex so st
abbrev OL(m:Nat)(c:Code){σ X:Type}(o:Option (σ⊕X))(S:σ->aK)(ex:X->Exit)(so:X->aK)(st:aK):Prop:=qj8 Pg GE m c o S ex so st
abbrev waA:=List ae
abbrev waB:=List af
abbrev waC:=List aa
abbrev waD:=List ag
abbrev waE:=List cK
abbrev waF:=List cP
theorem YJ:∀n,(∀l,Sh Pg n 28 l->∃x,l=ac x):=by
 intro n
 induction n using Nat.strongRecOn with
 | ind n ih =>
  cases n with
  |zero=>exact λl h=>h.elim
  | succ n =>
   exact λl h=>by
    unfold Sh at h
    rw[underlying28]at h
    obtain⟨a0,b0,rfl,_,h0,a1,b1,rfl,_,h1,a2,b2,rfl,_,h2,a3,b3,rfl,_,h3,rfl⟩:=h
    obtain⟨x0,rfl⟩:=(qeF underlying25) n _ h0
    obtain⟨x1,rfl⟩:=(qae underlying9) n _ h1
    obtain⟨x2,rfl⟩:=(qeF underlying3) n _ h2
    obtain⟨x3,rfl⟩:=YI underlying26 (c:=ac) (λm hm=>(ih m (by omega))) _ h3
    exact⟨(⟨x0,x1,x2,x3⟩:aa),by rw[cf];rfl⟩
theorem SF:∀n,(∀l,Sh Pg n 30 l->∃x,l=ai x):=by
 intro n
 induction n using Nat.strongRecOn with
 | ind n ih =>
  cases n with
  |zero=>exact λl h=>h.elim
  | succ n =>
   exact λl h=>by
    unfold Sh at h
    rw[underlying30]at h
    obtain⟨a0,b0,rfl,_,h0,a1,b1,rfl,_,h1,a2,b2,rfl,_,h2,a3,b3,rfl,_,h3,a4,b4,rfl,_,h4,a5,b5,rfl,_,h5,rfl⟩:=h
    obtain⟨x0,rfl⟩:=(qeF underlying22) n _ h0
    obtain⟨x1,rfl⟩:=(qae underlying9) n _ h1
    obtain⟨x2,rfl⟩:=YI underlying23 (c:=ai) (λm hm=>(ih m (by omega))) _ h2
    obtain⟨x3,rfl⟩:=(qeG underlying24 (qae underlying9)) n _ h3
    obtain⟨x4,rfl⟩:=YJ n _ h4
    obtain⟨x5,rfl⟩:=(qeG underlying26 YJ) n _ h5
    exact⟨(⟨x0,x1,x2,x3,x4,x5⟩:af),by rw[dp];(try simp only[cf]);rfl⟩
theorem qcw:∀n,(∀l,Sh Pg n 114 l->∃x,l=bw x):=by
 intro n
 induction n using Nat.strongRecOn with
 | ind n ih =>
  cases n with
  |zero=>exact λl h=>h.elim
  | succ n =>
   exact λl h=>by
    unfold Sh at h
    rw[underlying114]at h
    obtain⟨a0,b0,rfl,_,h0,a1,b1,rfl,_,h1,rfl⟩:=h
    obtain⟨x0,rfl⟩:=(qae underlying9) n _ h0
    obtain⟨x1,rfl⟩:=SF n _ h1
    exact⟨(⟨x0,x1⟩:cP),by rw[oe];(try simp only[dp]);(try simp only[cf]);rfl⟩
theorem W0:∀n,(∀l,Sh Pg n 36 l->∃x,l=ah x)/\(∀l,Sh Pg n 116 l->∃x,l=bE x):=by
 intro n
 induction n using Nat.strongRecOn with
 | ind n ih =>
  cases n with
  |zero=>exact⟨λl h=>h.elim,λl h=>h.elim⟩
  | succ n =>
   exact⟨(λl h=>by
    unfold Sh at h
    rw[underlying36]at h
    obtain⟨a0,b0,rfl,_,h0,a1,b1,rfl,_,h1,a2,b2,rfl,_,h2,a3,b3,rfl,_,h3,a4,b4,rfl,_,h4,a5,b5,rfl,_,h5,a6,b6,rfl,_,h6,rfl⟩:=h
    obtain⟨x0,rfl⟩:=(qeF underlying31) n _ h0
    obtain⟨x1,rfl⟩:=(qae underlying9) n _ h1
    obtain⟨x2,rfl⟩:=(qeF underlying3) n _ h2
    obtain⟨x3,rfl⟩:=YI underlying32 (c:=ah) (λm hm=>(ih m (by omega)).1) _ h3
    obtain⟨x4,rfl⟩:=(qeG underlying33 qcw) n _ h4
    obtain⟨x5,rfl⟩:=YI underlying34 (c:=bE) (λm hm=>(ih m (by omega)).2) _ h5
    obtain⟨x6,rfl⟩:=(qeG underlying23 SF) n _ h6
    exact⟨(⟨x0,x1,x2,x3,x4,x5,x6⟩:ag),by rw[cp];rfl⟩),(λl h=>by
    unfold Sh at h
    rw[underlying116]at h
    obtain⟨a0,b0,rfl,_,h0,a1,b1,rfl,_,h1,a2,b2,rfl,_,h2,rfl⟩:=h
    obtain⟨x0,rfl⟩:=(qae underlying9) n _ h0
    obtain⟨x1,rfl⟩:=(qeG underlying24 (qae underlying9)) n _ h1
    obtain⟨x2,rfl⟩:=(ih n (vcG n)).1 _ h2
    exact⟨(⟨x0,x1,x2⟩:cK),by rw[uX];(try simp only[cp]);rfl⟩)⟩
theorem qeH:In Pg 36 ah:=λn=>(W0 n).1
open Go
theorem cC{n:Int}(h1: -9223372036854775808<=n)(h2:n<9223372036854775808):dt n=n:=qjV h1 h2
theorem aT{α:Type}(l:List α)(i:Nat)(h:i<l.length):cX l (i:Int)=some l[i]:=by
 unfold cX
 rw[vad (by omega)]
 simp[h]
theorem nr(l:ae)(i:Nat)(h:i<l.length):jC l (i:Int)=some ((l[i].toNat:Int)):=by
 unfold jC;rw[aT l i h];rfl
theorem kz(c:UInt8)(l:ae):jC (c::l) 0=some (c.toNat:Int):=by
 have:=nr (c::l) 0 (by simp)
 simpa using this
theorem cz{α:Type}(c:α)(l:List α):cX (c::l) 0=some c:=by
 have:=aT (c::l) 0 (by simp)
 simpa using this
theorem XE{α:Type}(l:List α)(i:Nat)(h:i<=l.length):OY l none (some (i:Int))=some (l.take i):=by
 simp[OY,bd,h]
theorem DH{α:Type}(l:List α)(i:Nat)(h:i<=l.length):OY l (some (i:Int)) none=some (l.drop i):=by
 simp[OY,bd,h]
theorem qn{α:Type}{l r:List α}(h:l.length+r.length<=1073741824):app l r=some (l++r):=vad h
theorem gw{l r:ae}(h:l.length+r.length<=4611686018427387904):Mc l r=some (l++r):=vad h
theorem ol{σ X:Type}{body:σ->Option (σ⊕X)}{s s':σ}(h:body s=some (.inl s')):loop body s=loop body s':=by rw[ke,h]
theorem fx{σ X:Type}{body:σ->Option (σ⊕X)}{s:σ}{x:X}(h:body s=some (.inr x)):loop body s=some x:=by rw[ke,h]
def sD{α σ X:Type}(f:Nat->α->σ->σ⊕X)(e:σ->X):List α->Nat->σ->X
 |[],_,s=>e s
 |x::r,i,s=>match f i x s with
  |.inl s'=>sD f e r (i+1) s'
  |.inr y=>y
theorem zR{α σ τ X:Type}(l:List α)(hl:l.length<9223372036854775808)(mk:Int->σ->τ)(body:τ->Option (τ⊕X))(I:Nat->σ->Prop)(f:Nat->α->σ->σ⊕X)(e:σ->X)
  (hin:∀(i:Nat) (h:i<l.length) s,I i s->body (mk i s)=some (match f i l[i] s with|.inl s'=>.inl (mk (dt ((i:Int)+1)) s')|.inr y=>.inr y)/\∀s',f i l[i] s=.inl s'->I (i+1) s')
  (hend:∀s,I l.length s->body (mk l.length s)=some (.inr (e s))):∀(i:Nat) (s:σ),i<=l.length->I i s->loop body (mk i s)=some (sD f e (l.drop i) i s):=by
 intro i s hi hI
 obtain⟨k,hk⟩:∃k,k+i=l.length:=⟨l.length - i,by omega⟩
 induction k generalizing i s with
 |zero=>
  have:i=l.length:=by omega
  subst this
  rw[ke,hend s hI,vbN]
  rfl
 | succ k ih =>
  have hlt:i<l.length:=by omega
  obtain⟨h1,h2⟩:=hin i hlt s hI
  rw[ke,h1,vaH hlt]
  unfold sD
  cases hf:f i l[i] s with
  |inl s'=>
   simp only
   rw[cC (by omega) (by omega)]
   have:=ih (i+1) s' (by omega) (h2 s' hf) (by omega)
   rw[show((i:Int)+1)=((i+1:Nat):Int) by omega]
   exact this
  |inr y=>rfl
theorem Zq{α X:Type}(p:α->Bool)(y e:X):∀(l:List α) (i:Nat),sD (λ_ x (_:Unit)=>if p x=true then Sum.inr y else .inl ()) (λ_=>e) l i ()=if l.any p=true then y else e
 |[],i=>by simp[sD]
 | x :: l,i => by
  have ih:=Zq p y e l (i+1)
  unfold sD
  by_cases h:p x=true
  ·simp[h]
  ·simp only[h,if_false,ih,List.any_cons,vbV,vaq]
theorem nu{α X:Type}(l:List α)(hl:l.length<9223372036854775808)(body:Int->Option (Int⊕X))(p:α->Bool)(y e:X)
  (hin:∀(i:Nat) (h:i<l.length),body i=some (if p l[i]=true then .inr y else .inl (dt ((i:Int)+1)))) (hend:body l.length=some (.inr e)) (i:Nat) (hi:i<=l.length):
  loop body (i:Int)=some (if(l.drop i).any p=true then y else e):=by
 have:=zR l hl (λi (_:Unit)=>i) body (λ_ _=>True) (λ_ x _=>if p x=true then Sum.inr y else .inl ()) (λ_=>e) (λi h s _=>⟨?_,λ_ _=>trivial⟩) (λs _=>hend) i () hi vzz
 ·rw[this,Zq]
 ·rw[hin i h]
  by_cases hp:p l[i]=true<;>simp[hp]
theorem Vz{α X:Type}(p:α->Bool)(y:Nat->X)(e:X):∀(l:List α) (i:Nat),sD (λj x (_:Unit)=>if p x=true then Sum.inr (y j)else .inl ()) (λ_=>e) l i ()=match l.findIdx? p with|some j=>y (i+j)|none=>e
 |[],i=>by simp[sD]
 | x :: l,i => by
  have ih:=Vz p y e l (i+1)
  unfold sD
  rw[vc1]
  by_cases h:p x=true
  ·simp[h]
  ·simp only[h,if_false,ih,vaq]
   cases l.findIdx? p with
   |none=>rfl
   |some j=>simp only[vaj];congr 1;omega
theorem Vj{α X:Type}(l:List α)(hl:l.length<9223372036854775808)(body:Int->Option (Int⊕X))(p:α->Bool)(y:Nat->X)(e:X)
  (hin:∀(i:Nat) (h:i<l.length),body i=some (if p l[i]=true then .inr (y i)else .inl (dt ((i:Int)+1)))) (hend:body l.length=some (.inr e)):
  loop body (0:Int)=some (match l.findIdx? p with|some j=>y j|none=>e):=by
 have:=zR l hl (λi (_:Unit)=>i) body (λ_ _=>True) (λj x _=>if p x=true then Sum.inr (y j)else .inl ()) (λ_=>e) (λi h s _=>⟨?_,λ_ _=>trivial⟩) (λs _=>hend) 0 () (va0 _) trivial
 ·simp only[Int.ofNat_zero,vbi]at this
  have this2:=Vz p y e l 0
  simp only[vaQ]at this2
  rw[<-this2]
  exact this
 ·rw[hin i h]
  by_cases hp:p l[i]=true<;>simp[hp]
def jb{α:Type}(o:Option α)(Q:α->Prop):Prop:=∃a,o=some a/\Q a
section
variable{α β σ τ X Y:Type}
theorem am{a:α}{Q:α->Prop}(h:Q a):jb (some a) Q:=⟨a,rfl,h⟩
theorem qaJ{o:Option α}{a:α}{Q:α->Prop}(e:o=some a)(h:Q a):jb o Q:=⟨a,e,h⟩
theorem qf0{o:Option α}{f:α->Option β}{Q:β->Prop}(h:jb o (λa=>jb (f a) Q)):jb (o.bind f) Q:=by
 obtain⟨a,rfl,h⟩:=h
 exact h
theorem aH{o:Option α}{f:α->Option β}{R:α->Prop}{Q:β->Prop}(h:jb o R)(h':∀a,R a->jb (f a) Q):jb (o.bind f) Q:=by
 obtain⟨a,rfl,h⟩:=h
 exact h' a h
theorem er{o:Option α}{a:α}{f:α->Option β}{Q:β->Prop}(e:o=some a)(h:jb (f a) Q):jb (o.bind f) Q:=by
 rw[e];exact h
theorem jb.mono{o:Option α}{Q R:α->Prop}(h:jb o Q)(h':∀a,Q a->R a):jb o R:=by
 obtain⟨a,e,h⟩:=h
 exact⟨a,e,h' a h⟩
theorem aP{c:Prop}[Decidable c]{a b:Option α}{Q:α->Prop}(h1:c->jb a Q)(h2:¬c->jb b Q):jb (if c then a else b) Q:=by
 by_cases h:c
 ·rw[vad h];exact h1 h
 ·rw[vab h];exact h2 h
theorem qhP{o:Option α}{a:α}:jb o (λx=>x=a)↔o=some a:=by
 constructor
 ·rintro⟨x,e,rfl⟩;exact e
 ·intro e;exact⟨a,e,rfl⟩
theorem Av{F:(X->Option Y)->X->Option Y}(μ:X->Nat)(P:X->Prop)(Q:X->Y->Prop)(h:∀(R:X->Option Y) x,P x->(∀y,μ y<μ x->P y->jb (R y) (Q y))->jb (F R x) (Q x))(x:X)(hx:P x)(hm:μ x<ZC):jb (pA F x) (Q x):=by
 have key:∀n x,μ x<n->P x->jb (qbf F n x) (Q x):=by
  intro n
  induction n with
  |zero=>intro x hx;omega
  |succ n ih=>intro x hx hq;exact h _ x hq λy hy hqy=>ih y (by omega) hqy
 exact key _ x hm hx
theorem I1(l:List α)(hl:l.length<9223372036854775808)(mk:Int->σ->τ){body:τ->Option (τ⊕X)}(I:Nat->σ->Prop){Q:X->Prop}
  (hin:∀(i:Nat) (h:i<l.length) s,I i s->jb (body (mk i s)) (λr=>match r with|.inl t=>∃s',t=mk (dt ((i:Int)+1)) s'/\I (i+1) s'|.inr y=>Q y))
  (hend:∀s,I l.length s->jb (body (mk l.length s)) (λr=>match r with|.inl _=>False|.inr y=>Q y)):∀s,I 0 s->jb (loop body (mk 0 s)) Q:=by
 have key:∀k i s,k+i=l.length->I i s->jb (loop body (mk (i:Int) s)) Q:=by
  intro k
  induction k with
  |zero=>
   intro i s hi hI
   have:i=l.length:=by omega
   subst this
   obtain⟨r,e,hr⟩:=hend s hI
   rw[ke,e]
   cases r with
   |inl _=>exact hr.elim
   |inr y=>exact⟨y,rfl,hr⟩
  | succ k ih =>
   intro i s hi hI
   obtain⟨r,e,hr⟩:=hin i (by omega) s hI
   rw[ke,e]
   cases r with
   |inl t=>
    obtain⟨s',rfl,hI'⟩:=hr
    simp only
    rw[cC (by omega) (by omega),show((i:Int)+1)=((i+1:Nat):Int) by omega]
    exact ih (i+1) s' (by omega) hI'
   |inr y=>exact⟨y,rfl,hr⟩
 exact λs hs=>key l.length 0 s (by omega) hs
end
section
variable{α β σ τ X Y:Type}
theorem qaj(l:List α)(hl:l.length<9223372036854775808)(mk:Int->σ->τ)(body:τ->Option (τ⊕X))(k:Int->σ->α->Option (τ⊕X))(I:Nat->σ->Prop)(g:α->σ->σ)(e:σ->X)(s0:σ)(h0:I 0 s0)
  (hb:∀(i:Int) (s:σ),body (mk i s)=if decide (i<(l.length:Int))=true then(cX l i).bind (k i s)else some (.inr (e s)))
  (hin:∀(i:Nat) (h:i<l.length) s,I i s->k i s l[i]=some (.inl (mk (dt ((i:Int)+1)) (g l[i] s)))/\I (i+1) (g l[i] s)):loop body (mk 0 s0)=some (e (l.foldl (λs x=>g x s) s0)):=by
 have:=zR l hl mk body I (λ_ x s=>.inl (g x s)) e (λi h s hs=>⟨?_,λs' hs'=>by cases hs';exact(hin i h s hs).2⟩) (λs hs=>by rw[hb,vab (by simp)]) 0 s0 (va0 _) h0
 ·rw[vbi,show((0:Nat):Int)=0 from rfl]at this
  rw[this]
  have key:∀(l:List α) (i:Nat) (s:σ),sD (λ_ x (s:σ)=>(Sum.inl (g x s):σ⊕X)) e l i s=e (l.foldl (λs x=>g x s) s):=by
   intro l
   induction l with
   |nil=>intro i s;rfl
   |cons x l ih=>intro i s;unfold sD;simp only;rw[ih];rfl
  rw[key]
 ·rw[hb,vad (by simp;omega),aT l i h]
  simp only[vaa]
  exact(hin i h s hs).1
theorem VH(l:List α)(hl:l.length<9223372036854775808)(mk:Int->σ->τ){body:τ->Option (τ⊕X)}(k:Int->σ->α->Option (τ⊕X))(e:σ->X)(I:Nat->σ->Prop){Q:X->Prop}
  (hb:∀(i:Int) (s:σ),body (mk i s)=if decide (i<(l.length:Int))=true then(cX l i).bind (k i s)else some (.inr (e s)))
  (hin:∀(i:Nat) (h:i<l.length) s,I i s->jb (k i s l[i]) (λr=>match r with|.inl t=>∃s',t=mk (dt ((i:Int)+1)) s'/\I (i+1) s'|.inr y=>Q y))
  (hend:∀s,I l.length s->Q (e s)):∀s,I 0 s->jb (loop body (mk 0 s)) Q:=
 I1 l hl mk I (λi h s hs=>by
  rw[hb,vad (by simp;omega),aT l i h]
  exact hin i h s hs) (λs hs=>by
  rw[hb,vab (by simp)]
  exact⟨_,rfl,hend s hs⟩)
theorem qdu(l:List α)(hl:l.length<9223372036854775808){body:Int->Option (Int⊕X)}(k:Int->α->Option (Int⊕X))(e:X)(I:Nat->Prop){Q:X->Prop}
  (hb:∀(i:Int),body i=if decide (i<(l.length:Int))=true then(cX l i).bind (k i)else some (.inr e))
  (hin:∀(i:Nat) (h:i<l.length),I i->jb (k i l[i]) (λr=>match r with|.inl t=>t=dt ((i:Int)+1)/\I (i+1)|.inr y=>Q y))
  (hend:I l.length->Q e) (h0:I 0):jb (loop body 0) Q:=
 VH l hl (λi (_:Unit)=>i) (λi _=>k i) (λ_=>e) (λi _=>I i) (λi _=>hb i) (λi h s hs=>(hin i h hs).mono λr hr=>by
  cases r with
  |inl t=>exact⟨(),hr.1,hr.2⟩
  |inr y=>exact hr) (λ_ h=>hend h) () h0
end
end Go.Proofs.YtibglelmlnfojaaGreatDoor
