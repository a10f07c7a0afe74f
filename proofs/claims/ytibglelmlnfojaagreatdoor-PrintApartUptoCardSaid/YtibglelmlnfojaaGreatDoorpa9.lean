/- PROVED: a part of the proof. Conditions: none. -/
import Derived.Test.YtibglelmlnfojaaGreatDoorpa8
import Derived.Test.YtibglelmlnfojaaGreatDoorChecked
import Derived.Test.YtibglelmlnfojaaGreatDoorpa7
import Derived.Test.YtibglelmlnfojaaGreatDoorpa3
import Derived.Shelf.SlicesE.Clone
import Derived.RangeFuncRecord
import Derived.RangeFuncSeq
set_option linter.unusedSimpArgs false
set_option linter.unusedVariables false
noncomputable section
namespace Go.Proofs.YtibglelmlnfojaaGreatDoor
open Go Go.Proofs.Tryz
set_option linter.unusedVariables false
set_option maxRecDepth 100000
noncomputable abbrev Pg:=Tryz.prog
theorem mixed:Pg.follows .mixedOrders=true:=by kernel_rfl
inductive aa where
 |mk (Op:Int) (Name:ah) (N:Int) (Kids:(List aa))
def aa.Op:aa->Int
 |⟨x,_,_,_⟩=>x
def aa.Name:aa->ah
 |⟨_,x,_,_⟩=>x
def aa.N:aa->Int
 |⟨_,_,x,_⟩=>x
def aa.Kids:aa->(List aa)
 |⟨_,_,_,x⟩=>x
mutual
def ac:aa->List PVal
 |⟨x0,x1,x2,x3⟩=>[.int .i64 x0,.str x1,.int .i64 x2,.slice (yX x3)]
def yX:List aa->List (List PVal)
 |[]=>[]
 |x::r=>ac x::yX r
end
theorem No:∀(l:List aa),yX l=l.map ac
 |[]=>by simp[yX]
 |x::r=>by simp[yX,No r]
mutual
theorem bv:∀(x:aa),iG 0 (ac x)
 |⟨x0,x1,x2,x3⟩=>by rw[ac];exact(aI vzz (aI vzz (aI vzz (aI (PF x3) trivial))))
theorem PF:∀(l:List aa),xT 0 (yX l)
 |[]=>by simp[yX,xT]
 |x::r=>by rw[yX];exact⟨bv x,PF r⟩
end
theorem bU:∀(x:aa),ac x=[.int .i64 x.Op,.str x.Name,.int .i64 x.N,sl ac x.Kids]
 |⟨x0,x1,x2,x3⟩=>by
  simp only[ac,No]
  rfl
abbrev WF(x:aa):PVal:=.agg (ac x)
instance iK_tPred{x:aa}:K0l (ac x):=⟨bv x⟩
instance iE_tPred:KE ac:=⟨bv⟩
theorem JP(x:aa):(ac x).length=4:=by rw[bU];rfl
theorem eI(x:aa):bZ (.agg (ac x))=some (ac x):=rfl
theorem XP(x:aa):bZ (WF x)=some (ac x):=rfl
theorem jK(x:aa):bZ (.agg (ac x))=some [.int .i64 x.Op,.str x.Name,.int .i64 x.N,sl ac x.Kids]:=by rw[bU];rfl
theorem XD(x:aa):∀q∈ac x,q.one=true:=by
 intro q hq
 rw[bU]at hq
 simp only[vaF,vbn,or_false]at hq
 rcases hq with rfl|rfl|rfl|rfl<;>rfl
theorem qbt:Pg.cellsOf 28=4:=by kernel_rfl
theorem bC(x:aa):bo Pg 28 (ac x)=some (.agg (ac x)):=by
 have:=iM (P:=Pg) (t:=28) (l:=ac x) (r:=[]) (by kernel_rfl) (qbt.trans (JP x).symm)
 rwa[vaC]at this
theorem kz(x:aa)(r:List PVal):bo Pg 28 ([.int .i64 x.Op,.str x.Name,.int .i64 x.N,sl ac x.Kids]++r)=some (.agg (ac x)):=by
 rw[<-bU];exact iM (by kernel_rfl) (qbt.trans (JP x).symm)
theorem Ya(x:aa):PVal.agg [.int .i64 x.Op,.str x.Name,.int .i64 x.N,sl ac x.Kids]=.agg (ac x):=by rw[bU]
theorem MS:di Pg 28 []=some (.agg (ac (⟨0,([]:ah),0,([]:List aa)⟩:aa))):=by
 simp only[bU]
 kernel_rfl
theorem MP:ui Pg 28 [] [(3,28)]:=by
 exact⟨[.int .i64 0,.str ([]:ah),.int .i64 0,.val ee],by kernel_rfl,(aI rfl vzz)⟩
theorem H5(x0:Int)(x1:ah):di Pg 28 [(0,.int .i64 x0),(1,.str x1)]=some (.agg (ac (⟨x0,x1,0,([]:List aa)⟩:aa))):=by
 simp only[bU]
 kernel_rfl
theorem HY(x0:Int)(x1:ah):ui Pg 28 [(0,.int .i64 x0),(1,.str x1)] [(3,28)]:=by
 exact⟨[.int .i64 x0,.str x1,.int .i64 0,.val ee],by kernel_rfl,(aI rfl vzz)⟩
theorem QT(x0:Int)(x2:Int):di Pg 28 [(0,.int .i64 x0),(2,.int .i64 x2)]=some (.agg (ac (⟨x0,([]:ah),x2,([]:List aa)⟩:aa))):=by
 simp only[bU]
 kernel_rfl
theorem QN(x0:Int)(x2:Int):ui Pg 28 [(0,.int .i64 x0),(2,.int .i64 x2)] [(3,28)]:=by
 exact⟨[.int .i64 x0,.str ([]:ah),.int .i64 x2,.val ee],by kernel_rfl,(aI rfl vzz)⟩
theorem QU(x0:Int)(x3:(List aa)):di Pg 28 [(0,.int .i64 x0),(3,sl ac x3)]=some (.agg (ac (⟨x0,([]:ah),0,x3⟩:aa))):=by
 simp only[bU]
 kernel_rfl
theorem aQ(x:aa):aV Pg 28 (.eptr (ac x)) 0=some (.eptr ((ac x).drop 0))/\bo Pg 25 ((ac x).drop 0)=some (.int .i64 x.Op):=⟨by rw[bU];kernel_rfl,by rw[bU];kernel_rfl⟩
theorem cy(x:aa):aV Pg 28 (.eptr (ac x)) 1=some (.eptr ((ac x).drop 1))/\bo Pg 9 ((ac x).drop 1)=some (.str x.Name):=⟨by rw[bU];kernel_rfl,by rw[bU];kernel_rfl⟩
theorem bM(x:aa):aV Pg 28 (.eptr (ac x)) 2=some (.eptr ((ac x).drop 2))/\bo Pg 3 ((ac x).drop 2)=some (.int .i64 x.N):=⟨by rw[bU];kernel_rfl,by rw[bU];kernel_rfl⟩
theorem O2(x:aa):aV Pg 28 (.eptr (ac x)) 3=some (.eptr ((ac x).drop 3)):=by rw[bU];kernel_rfl
theorem aK(x:aa):aV Pg 28 (.eptr (ac x)) 3=some (.eptr ((ac x).drop 3))/\bo Pg 26 ((ac x).drop 3)=some (sl ac x.Kids):=⟨by rw[bU];kernel_rfl,by rw[bU];kernel_rfl⟩
theorem O5(x:aa):bo Pg 26 ((ac x).drop 3)=some (sl ac x.Kids):=by rw[bU];kernel_rfl
inductive ae where
 |mk (Op:Int) (Name:ah) (Args:(List ae)) (Names:(List ah)) (Pred:aa) (Preds:(List aa))
def ae.Op:ae->Int
 |⟨x,_,_,_,_,_⟩=>x
def ae.Name:ae->ah
 |⟨_,x,_,_,_,_⟩=>x
def ae.Args:ae->(List ae)
 |⟨_,_,x,_,_,_⟩=>x
def ae.Names:ae->(List ah)
 |⟨_,_,_,x,_,_⟩=>x
def ae.Pred:ae->aa
 |⟨_,_,_,_,x,_⟩=>x
def ae.Preds:ae->(List aa)
 |⟨_,_,_,_,_,x⟩=>x
mutual
def aj:ae->List PVal
 |⟨x0,x1,x2,x3,x4,x5⟩=>[.int .i64 x0,.str x1,.slice (yY x2),sl cS x3]++(ac x4++([sl ac x5]))
def yY:List ae->List (List PVal)
 |[]=>[]
 |x::r=>aj x::yY r
end
theorem Np:∀(l:List ae),yY l=l.map aj
 |[]=>by simp[yY]
 |x::r=>by simp[yY,Np r]
mutual
theorem dO:∀(x:ae),iG 0 (aj x)
 |⟨x0,x1,x2,x3,x4,x5⟩=>by rw[aj];exact GO.2 (aI ((aI vzz (aI vzz (aI (PG x2) (aI (aU Mf x3) trivial))))) (GO.2 (aI (bv x4) ((aI (aU bv x5) trivial)))))
theorem PG:∀(l:List ae),xT 0 (yY l)
 |[]=>by simp[yY,xT]
 |x::r=>by rw[yY];exact⟨dO x,PG r⟩
end
theorem cR:∀(x:ae),aj x=[.int .i64 x.Op,.str x.Name,sl aj x.Args,sl cS x.Names,.int .i64 x.Pred.Op,.str x.Pred.Name,.int .i64 x.Pred.N,sl ac x.Pred.Kids,sl ac x.Preds]
 |⟨x0,x1,x2,x3,x4,x5⟩=>by
  simp only[aj,Np,bU,vaL,vaJ]
  rfl
abbrev WG(x:ae):PVal:=.agg (aj x)
instance iK_tType{x:ae}:K0l (aj x):=⟨dO x⟩
instance iE_tType:KE aj:=⟨dO⟩
theorem JR(x:ae):(aj x).length=9:=by rw[cR];rfl
theorem fe(x:ae):bZ (.agg (aj x))=some (aj x):=rfl
theorem XQ(x:ae):bZ (WG x)=some (aj x):=rfl
theorem pf(x:ae):bZ (.agg (aj x))=some [.int .i64 x.Op,.str x.Name,sl aj x.Args,sl cS x.Names,.int .i64 x.Pred.Op,.str x.Pred.Name,.int .i64 x.Pred.N,sl ac x.Pred.Kids,sl ac x.Preds]:=by rw[cR];rfl
theorem XF(x:ae):∀q∈aj x,q.one=true:=by
 intro q hq
 rw[cR]at hq
 simp only[vaF,vbn,or_false]at hq
 rcases hq with rfl|rfl|rfl|rfl|rfl|rfl|rfl|rfl|rfl<;>rfl
theorem qbu:Pg.cellsOf 30=9:=by kernel_rfl
theorem cC(x:ae):bo Pg 30 (aj x)=some (.agg (aj x)):=by
 have:=iM (P:=Pg) (t:=30) (l:=aj x) (r:=[]) (by kernel_rfl) (qbu.trans (JR x).symm)
 rwa[vaC]at this
theorem ij(x:ae)(r:List PVal):bo Pg 30 ([.int .i64 x.Op,.str x.Name,sl aj x.Args,sl cS x.Names,.int .i64 x.Pred.Op,.str x.Pred.Name,.int .i64 x.Pred.N,sl ac x.Pred.Kids,sl ac x.Preds]++r)=some (.agg (aj x)):=by
 rw[<-cR];exact iM (by kernel_rfl) (qbu.trans (JR x).symm)
theorem Uq:di Pg 30 []=some (.agg (aj (⟨0,([]:ah),([]:List ae),([]:List ah),(⟨0,([]:ah),0,([]:List aa)⟩:aa),([]:List aa)⟩:ae))):=by
 simp only[cR]
 kernel_rfl
theorem Up:ui Pg 30 [] [(2,30),(3,9),(7,28),(8,28)]:=by
 exact⟨[.int .i64 0,.str ([]:ah),.val ee,.val ee,.int .i64 0,.str ([]:ah),.int .i64 0,.val ee,.val ee],by kernel_rfl,(aI rfl (aI rfl (aI rfl (aI rfl vzz))))⟩
theorem MU(x0:Int)(x3:(List ah))(x2:(List ae)):di Pg 30 [(0,.int .i64 x0),(3,sl cS x3),(2,sl aj x2)]=some (.agg (aj (⟨x0,([]:ah),x2,x3,(⟨0,([]:ah),0,([]:List aa)⟩:aa),([]:List aa)⟩:ae))):=by
 simp only[cR]
 kernel_rfl
theorem MR(x0:Int)(x3:(List ah))(x2:(List ae)):ui Pg 30 [(0,.int .i64 x0),(3,sl cS x3),(2,sl aj x2)] [(7,28),(8,28)]:=by
 exact⟨[.int .i64 x0,.str ([]:ah),sl aj x2,sl cS x3,.int .i64 0,.str ([]:ah),.int .i64 0,.val ee,.val ee],by kernel_rfl,(aI rfl (aI rfl vzz))⟩
theorem QV(x0:Int)(x4:aa):di Pg 30 [(0,.int .i64 x0),(4,.agg (ac x4))]=some (.agg (aj (⟨x0,([]:ah),([]:List ae),([]:List ah),x4,([]:List aa)⟩:ae))):=by
 simp only[cR,bU]
 kernel_rfl
theorem QO(x0:Int)(x4:aa):ui Pg 30 [(0,.int .i64 x0),(4,.agg (ac x4))] [(2,30),(3,9),(8,28)]:=by
 simp only[bU]
 exact⟨[.int .i64 x0,.str ([]:ah),.val ee,.val ee,.int .i64 x4.Op,.str x4.Name,.int .i64 x4.N,sl ac x4.Kids,.val ee],by kernel_rfl,(aI rfl (aI rfl (aI rfl vzz)))⟩
theorem MT(x0:Int):di Pg 30 [(0,.int .i64 x0)]=some (.agg (aj (⟨x0,([]:ah),([]:List ae),([]:List ah),(⟨0,([]:ah),0,([]:List aa)⟩:aa),([]:List aa)⟩:ae))):=by
 simp only[cR]
 kernel_rfl
theorem MQ(x0:Int):ui Pg 30 [(0,.int .i64 x0)] [(2,30),(3,9),(7,28),(8,28)]:=by
 exact⟨[.int .i64 x0,.str ([]:ah),.val ee,.val ee,.int .i64 0,.str ([]:ah),.int .i64 0,.val ee,.val ee],by kernel_rfl,(aI rfl (aI rfl (aI rfl (aI rfl vzz))))⟩
theorem aW(x:ae):aV Pg 30 (.eptr (aj x)) 0=some (.eptr ((aj x).drop 0))/\bo Pg 22 ((aj x).drop 0)=some (.int .i64 x.Op):=⟨by rw[cR];kernel_rfl,by rw[cR];kernel_rfl⟩
theorem cT(x:ae):aV Pg 30 (.eptr (aj x)) 1=some (.eptr ((aj x).drop 1))/\bo Pg 9 ((aj x).drop 1)=some (.str x.Name):=⟨by rw[cR];kernel_rfl,by rw[cR];kernel_rfl⟩
theorem aX(x:ae):aV Pg 30 (.eptr (aj x)) 2=some (.eptr ((aj x).drop 2))/\bo Pg 23 ((aj x).drop 2)=some (sl aj x.Args):=⟨by rw[cR];kernel_rfl,by rw[cR];kernel_rfl⟩
theorem bN(x:ae):aV Pg 30 (.eptr (aj x)) 3=some (.eptr ((aj x).drop 3))/\bo Pg 24 ((aj x).drop 3)=some (sl cS x.Names):=⟨by rw[cR];kernel_rfl,by rw[cR];kernel_rfl⟩
theorem cZ(x:ae):aV Pg 30 (.eptr (aj x)) 4=some (.eptr ((aj x).drop 4))/\bo Pg 28 ((aj x).drop 4)=some (.agg (ac x.Pred)):=⟨by rw[cR];kernel_rfl,by rw[cR,bU];kernel_rfl⟩
theorem bu(x:ae):aV Pg 30 (.eptr (aj x)) 5=some (.eptr ((aj x).drop 8))/\bo Pg 26 ((aj x).drop 8)=some (sl ac x.Preds):=⟨by rw[cR];kernel_rfl,by rw[cR];kernel_rfl⟩
structure cc where
 Name:ah
 Type_:ae
def bj(x:cc):List PVal:=[.str x.Name]++(aj x.Type_)
theorem my(x:cc):bj x=[.str x.Name,.int .i64 x.Type_.Op,.str x.Type_.Name,sl aj x.Type_.Args,sl cS x.Type_.Names,.int .i64 x.Type_.Pred.Op,.str x.Type_.Pred.Name,.int .i64 x.Type_.Pred.N,sl ac x.Type_.Pred.Kids,sl ac x.Type_.Preds]:=by
 unfold bj
 simp only[cR,vaL,vaJ]
theorem rt(x:cc):iG 0 (bj x):=by rw[my];exact(aI vzz (aI vzz (aI vzz (aI (aU dO x.Type_.Args) (aI (aU Mf x.Type_.Names) (aI vzz (aI vzz (aI vzz (aI (aU bv x.Type_.Pred.Kids) (aI (aU bv x.Type_.Preds) trivial))))))))))
instance iE_tParam:KE bj:=⟨rt⟩
theorem Nu(x:cc):(bj x).length=10:=by rw[my];rfl
theorem G3(x:cc):bZ (.agg (bj x))=some [.str x.Name,.int .i64 x.Type_.Op,.str x.Type_.Name,sl aj x.Type_.Args,sl cS x.Type_.Names,.int .i64 x.Type_.Pred.Op,.str x.Type_.Pred.Name,.int .i64 x.Type_.Pred.N,sl ac x.Type_.Pred.Kids,sl ac x.Type_.Preds]:=by rw[my];rfl
theorem UT(x:cc):∀q∈bj x,q.one=true:=by
 intro q hq
 rw[my]at hq
 simp only[vaF,vbn,or_false]at hq
 rcases hq with rfl|rfl|rfl|rfl|rfl|rfl|rfl|rfl|rfl|rfl<;>rfl
theorem YV:Pg.cellsOf 114=10:=by kernel_rfl
theorem JS(x:cc):bo Pg 114 (bj x)=some (.agg (bj x)):=by
 have:=iM (P:=Pg) (t:=114) (l:=bj x) (r:=[]) (by kernel_rfl) (YV.trans (Nu x).symm)
 rwa[vaC]at this
theorem ga(x:cc):aV Pg 114 (.eptr (bj x)) 0=some (.eptr ((bj x).drop 0))/\bo Pg 9 ((bj x).drop 0)=some (.str x.Name):=⟨by rw[my];kernel_rfl,by rw[my];kernel_rfl⟩
theorem ir(x:cc):aV Pg 114 (.eptr (bj x)) 1=some (.eptr ((bj x).drop 1))/\bo Pg 30 ((bj x).drop 1)=some (.agg (aj x.Type_)):=⟨by rw[my];kernel_rfl,by rw[my,cR];kernel_rfl⟩
mutual
inductive af where
 |mk (Op:Int) (Name:ah) (N:Int) (Kids:(List af)) (Params:(List cc)) (Alts:(List cf)) (Types:(List ae))
inductive cf where
 |mk (Con:ah) (Names:(List ah)) (Body:af)
end
def af.Op:af->Int
 |⟨x,_,_,_,_,_,_⟩=>x
def af.Name:af->ah
 |⟨_,x,_,_,_,_,_⟩=>x
def af.N:af->Int
 |⟨_,_,x,_,_,_,_⟩=>x
def af.Kids:af->(List af)
 |⟨_,_,_,x,_,_,_⟩=>x
def af.Params:af->(List cc)
 |⟨_,_,_,_,x,_,_⟩=>x
def af.Alts:af->(List cf)
 |⟨_,_,_,_,_,x,_⟩=>x
def af.Types:af->(List ae)
 |⟨_,_,_,_,_,_,x⟩=>x
def cf.Con:cf->ah
 |⟨x,_,_⟩=>x
def cf.Names:cf->(List ah)
 |⟨_,x,_⟩=>x
def cf.Body:cf->af
 |⟨_,_,x⟩=>x
mutual
def ag:af->List PVal
 |⟨x0,x1,x2,x3,x4,x5,x6⟩=>[.int .i64 x0,.str x1,.int .i64 x2,.slice (yW x3),sl bj x4,.slice (D5 x5),sl aj x6]
def bw:cf->List PVal
 |⟨x0,x1,x2⟩=>[.str x0,sl cS x1]++(ag x2)
def yW:List af->List (List PVal)
 |[]=>[]
 |x::r=>ag x::yW r
def D5:List cf->List (List PVal)
 |[]=>[]
 |x::r=>bw x::D5 r
end
theorem Nn:∀(l:List af),yW l=l.map ag
 |[]=>by simp[yW]
 |x::r=>by simp[yW,Nn r]
theorem PQ:∀(l:List cf),D5 l=l.map bw
 |[]=>by simp[D5]
 |x::r=>by simp[D5,PQ r]
mutual
theorem dN:∀(x:af),iG 0 (ag x)
 |⟨x0,x1,x2,x3,x4,x5,x6⟩=>by rw[ag];exact(aI vzz (aI vzz (aI vzz (aI (PE x3) (aI (aU rt x4) (aI (SH x5) (aI (aU dO x6) trivial)))))))
theorem n7:∀(x:cf),iG 0 (bw x)
 |⟨x0,x1,x2⟩=>by rw[bw];exact GO.2 (aI ((aI vzz (aI (aU Mf x1) trivial))) (dN x2))
theorem PE:∀(l:List af),xT 0 (yW l)
 |[]=>by simp[yW,xT]
 |x::r=>by rw[yW];exact⟨dN x,PE r⟩
theorem SH:∀(l:List cf),xT 0 (D5 l)
 |[]=>by simp[D5,xT]
 |x::r=>by rw[D5];exact⟨n7 x,SH r⟩
end
theorem bR:∀(x:af),ag x=[.int .i64 x.Op,.str x.Name,.int .i64 x.N,sl ag x.Kids,sl bj x.Params,sl bw x.Alts,sl aj x.Types]
 |⟨x0,x1,x2,x3,x4,x5,x6⟩=>by
  simp only[ag,Nn,PQ]
  rfl
abbrev qQ(x:af):PVal:=.agg (ag x)
instance iK_tExpr{x:af}:K0l (ag x):=⟨dN x⟩
instance iE_tExpr:KE ag:=⟨dN⟩
theorem JO(x:af):(ag x).length=7:=by rw[bR];rfl
theorem dq(x:af):bZ (.agg (ag x))=some (ag x):=rfl
theorem kD(x:af):bZ (qQ x)=some (ag x):=rfl
theorem Ay(x:af):bZ (.agg (ag x))=some [.int .i64 x.Op,.str x.Name,.int .i64 x.N,sl ag x.Kids,sl bj x.Params,sl bw x.Alts,sl aj x.Types]:=by rw[bR];rfl
theorem XC(x:af):∀q∈ag x,q.one=true:=by
 intro q hq
 rw[bR]at hq
 simp only[vaF,vbn,or_false]at hq
 rcases hq with rfl|rfl|rfl|rfl|rfl|rfl|rfl<;>rfl
theorem qbv:Pg.cellsOf 36=7:=by kernel_rfl
theorem YW:Pg.cellsOf 116=9:=by kernel_rfl
theorem bh(x:af):bo Pg 36 (ag x)=some (.agg (ag x)):=by
 have:=iM (P:=Pg) (t:=36) (l:=ag x) (r:=[]) (by kernel_rfl) (qbv.trans (JO x).symm)
 rwa[vaC]at this
theorem jG(x:af)(r:List PVal):bo Pg 36 ([.int .i64 x.Op,.str x.Name,.int .i64 x.N,sl ag x.Kids,sl bj x.Params,sl bw x.Alts,sl aj x.Types]++r)=some (.agg (ag x)):=by
 rw[<-bR];exact iM (by kernel_rfl) (qbv.trans (JO x).symm)
theorem Kt(x:af):PVal.agg [.int .i64 x.Op,.str x.Name,.int .i64 x.N,sl ag x.Kids,sl bj x.Params,sl bw x.Alts,sl aj x.Types]=.agg (ag x):=by rw[bR]
theorem GK:di Pg 36 []=some (.agg (ag (⟨0,([]:ah),0,([]:List af),([]:List cc),([]:List cf),([]:List ae)⟩:af))):=by
 simp only[bR]
 kernel_rfl
theorem GI:ui Pg 36 [] [(3,36),(4,114),(5,116),(6,30)]:=by
 exact⟨[.int .i64 0,.str ([]:ah),.int .i64 0,.val ee,.val ee,.val ee,.val ee],by kernel_rfl,(aI rfl (aI rfl (aI rfl (aI rfl vzz))))⟩
theorem QP(x0:Int)(x1:ah):di Pg 36 [(0,.int .i64 x0),(1,.str x1)]=some (.agg (ag (⟨x0,x1,0,([]:List af),([]:List cc),([]:List cf),([]:List ae)⟩:af))):=by
 simp only[bR]
 kernel_rfl
theorem QJ(x0:Int)(x1:ah):ui Pg 36 [(0,.int .i64 x0),(1,.str x1)] [(3,36),(4,114),(5,116),(6,30)]:=by
 exact⟨[.int .i64 x0,.str x1,.int .i64 0,.val ee,.val ee,.val ee,.val ee],by kernel_rfl,(aI rfl (aI rfl (aI rfl (aI rfl vzz))))⟩
theorem QQ(x0:Int)(x2:Int):di Pg 36 [(0,.int .i64 x0),(2,.int .i64 x2)]=some (.agg (ag (⟨x0,([]:ah),x2,([]:List af),([]:List cc),([]:List cf),([]:List ae)⟩:af))):=by
 simp only[bR]
 kernel_rfl
theorem QK(x0:Int)(x2:Int):ui Pg 36 [(0,.int .i64 x0),(2,.int .i64 x2)] [(3,36),(4,114),(5,116),(6,30)]:=by
 exact⟨[.int .i64 x0,.str ([]:ah),.int .i64 x2,.val ee,.val ee,.val ee,.val ee],by kernel_rfl,(aI rfl (aI rfl (aI rfl (aI rfl vzz))))⟩
theorem QR(x0:Int)(x3:(List af)):di Pg 36 [(0,.int .i64 x0),(3,sl ag x3)]=some (.agg (ag (⟨x0,([]:ah),0,x3,([]:List cc),([]:List cf),([]:List ae)⟩:af))):=by
 simp only[bR]
 kernel_rfl
theorem QL(x0:Int)(x3:(List af)):ui Pg 36 [(0,.int .i64 x0),(3,sl ag x3)] [(4,114),(5,116),(6,30)]:=by
 exact⟨[.int .i64 x0,.str ([]:ah),.int .i64 0,sl ag x3,.val ee,.val ee,.val ee],by kernel_rfl,(aI rfl (aI rfl (aI rfl vzz)))⟩
theorem cj(x:af):aV Pg 36 (.eptr (ag x)) 0=some (.eptr ((ag x).drop 0))/\bo Pg 31 ((ag x).drop 0)=some (.int .i64 x.Op):=⟨by rw[bR];kernel_rfl,by rw[bR];kernel_rfl⟩
theorem dn(x:af):aV Pg 36 (.eptr (ag x)) 1=some (.eptr ((ag x).drop 1))/\bo Pg 9 ((ag x).drop 1)=some (.str x.Name):=⟨by rw[bR];kernel_rfl,by rw[bR];kernel_rfl⟩
theorem cx(x:af):aV Pg 36 (.eptr (ag x)) 2=some (.eptr ((ag x).drop 2))/\bo Pg 3 ((ag x).drop 2)=some (.int .i64 x.N):=⟨by rw[bR];kernel_rfl,by rw[bR];kernel_rfl⟩
theorem az(x:af):aV Pg 36 (.eptr (ag x)) 3=some (.eptr ((ag x).drop 3))/\bo Pg 32 ((ag x).drop 3)=some (sl ag x.Kids):=⟨by rw[bR];kernel_rfl,by rw[bR];kernel_rfl⟩
theorem aL(x:af):aV Pg 36 (.eptr (ag x)) 4=some (.eptr ((ag x).drop 4))/\bo Pg 33 ((ag x).drop 4)=some (sl bj x.Params):=⟨by rw[bR];kernel_rfl,by rw[bR];kernel_rfl⟩
theorem av(x:af):aV Pg 36 (.eptr (ag x)) 5=some (.eptr ((ag x).drop 5))/\bo Pg 34 ((ag x).drop 5)=some (sl bw x.Alts):=⟨by rw[bR];kernel_rfl,by rw[bR];kernel_rfl⟩
theorem aw(x:af):aV Pg 36 (.eptr (ag x)) 6=some (.eptr ((ag x).drop 6))/\bo Pg 23 ((ag x).drop 6)=some (sl aj x.Types):=⟨by rw[bR];kernel_rfl,by rw[bR];kernel_rfl⟩
theorem si:∀(x:cf),bw x=[.str x.Con,sl cS x.Names,.int .i64 x.Body.Op,.str x.Body.Name,.int .i64 x.Body.N,sl ag x.Body.Kids,sl bj x.Body.Params,sl bw x.Body.Alts,sl aj x.Body.Types]
 |⟨x0,x1,x2⟩=>by
  simp only[bw,bR,vaL,vaJ]
  rfl
instance iK_tAlt{x:cf}:K0l (bw x):=⟨n7 x⟩
instance iE_tAlt:KE bw:=⟨n7⟩
theorem Td(x:cf):(bw x).length=9:=by rw[si];rfl
theorem qcb(x:cf):bZ (.agg (bw x))=some (bw x):=rfl
theorem xg(x:cf):bZ (.agg (bw x))=some [.str x.Con,sl cS x.Names,.int .i64 x.Body.Op,.str x.Body.Name,.int .i64 x.Body.N,sl ag x.Body.Kids,sl bj x.Body.Params,sl bw x.Body.Alts,sl aj x.Body.Types]:=by rw[si];rfl
theorem ZV(x:cf):∀q∈bw x,q.one=true:=by
 intro q hq
 rw[si]at hq
 simp only[vaF,vbn,or_false]at hq
 rcases hq with rfl|rfl|rfl|rfl|rfl|rfl|rfl|rfl|rfl<;>rfl
theorem y0(x:cf):bo Pg 116 (bw x)=some (.agg (bw x)):=by
 have:=iM (P:=Pg) (t:=116) (l:=bw x) (r:=[]) (by kernel_rfl) (YW.trans (Td x).symm)
 rwa[vaC]at this
theorem fR(x:cf):aV Pg 116 (.eptr (bw x)) 0=some (.eptr ((bw x).drop 0))/\bo Pg 9 ((bw x).drop 0)=some (.str x.Con):=⟨by rw[si];kernel_rfl,by rw[si];kernel_rfl⟩
theorem gD(x:cf):aV Pg 116 (.eptr (bw x)) 1=some (.eptr ((bw x).drop 1))/\bo Pg 24 ((bw x).drop 1)=some (sl cS x.Names):=⟨by rw[si];kernel_rfl,by rw[si];kernel_rfl⟩
theorem oF(x:cf):aV Pg 116 (.eptr (bw x)) 2=some (.eptr ((bw x).drop 2))/\bo Pg 36 ((bw x).drop 2)=some (.agg (ag x.Body)):=⟨by rw[si];kernel_rfl,by rw[si,bR];kernel_rfl⟩
structure A0 where
 Class:ah
 Var:ah
deriving DecidableEq
def n6(x:A0):List PVal:=[.str x.Class,.str x.Var]
theorem MV(x:A0):iG 0 (n6 x):=(aI vzz (aI vzz vzz))
structure Oo where
 Name:ah
 Sort_:ah
deriving DecidableEq
def GL(x:Oo):List PVal:=[.str x.Name,.str x.Sort_]
theorem Vw(x:Oo):iG 0 (GL x):=(aI vzz (aI vzz vzz))
structure Ve where
 Name:ah
 Sort_:ah
deriving DecidableEq
def rp(x:Ve):List PVal:=[.str x.Name,.str x.Sort_]
theorem QY(x:Ve):iG 0 (rp x):=(aI vzz (aI vzz vzz))
structure uF where
 Name:ah
 Vars:(List Ve)
 Hyp:aa
 Goal:aa
def pM(x:uF):List PVal:=[.str x.Name,sl rp x.Vars]++(ac x.Hyp++(ac x.Goal))
theorem W8(x:uF):pM x=[.str x.Name,sl rp x.Vars,.int .i64 x.Hyp.Op,.str x.Hyp.Name,.int .i64 x.Hyp.N,sl ac x.Hyp.Kids,.int .i64 x.Goal.Op,.str x.Goal.Name,.int .i64 x.Goal.N,sl ac x.Goal.Kids]:=by
 unfold pM
 simp only[bU,vaL,vaJ]
theorem PD(x:uF):iG 0 (pM x):=by rw[W8];exact(aI vzz (aI (aU QY x.Vars) (aI vzz (aI vzz (aI vzz (aI (aU bv x.Hyp.Kids) (aI vzz (aI vzz (aI vzz (aI (aU bv x.Goal.Kids) trivial))))))))))
structure Jm where
 Vars:(List ah)
 Needs:(List A0)
 Abs:(List Oo)
 Bounds:(List uF)
 Type_:ae
 Metric:(List aa)
def GM(x:Jm):List PVal:=[sl cS x.Vars,sl n6 x.Needs,sl GL x.Abs,sl pM x.Bounds]++(aj x.Type_++([sl ac x.Metric]))
theorem Q4(x:Jm):GM x=[sl cS x.Vars,sl n6 x.Needs,sl GL x.Abs,sl pM x.Bounds,.int .i64 x.Type_.Op,.str x.Type_.Name,sl aj x.Type_.Args,sl cS x.Type_.Names,.int .i64 x.Type_.Pred.Op,.str x.Type_.Pred.Name,.int .i64 x.Type_.Pred.N,sl ac x.Type_.Pred.Kids,sl ac x.Type_.Preds,sl ac x.Metric]:=by
 unfold GM
 simp only[cR,vaL,vaJ]
theorem qbr(x:Jm):iG 0 (GM x):=by rw[Q4];exact(aI (aU Mf x.Vars) (aI (aU MV x.Needs) (aI (aU Vw x.Abs) (aI (aU PD x.Bounds) (aI vzz (aI vzz (aI (aU dO x.Type_.Args) (aI (aU Mf x.Type_.Names) (aI vzz (aI vzz (aI vzz (aI (aU bv x.Type_.Pred.Kids) (aI (aU bv x.Type_.Preds) (aI (aU bv x.Metric) trivial))))))))))))))
instance iK_tSig{x:Jm}:K0l (GM x):=⟨qbr x⟩
structure i8 where
 Name:ah
 Params:(List ah)
 Body:af
 Mode:Int
 Typed:Bool
 Sig:Jm
def bY(x:i8):List PVal:=[.str x.Name,sl cS x.Params]++(ag x.Body++([.int .i64 x.Mode,.bool x.Typed]++(GM x.Sig)))
theorem gg(x:i8):bY x=[.str x.Name,sl cS x.Params,.int .i64 x.Body.Op,.str x.Body.Name,.int .i64 x.Body.N,sl ag x.Body.Kids,sl bj x.Body.Params,sl bw x.Body.Alts,sl aj x.Body.Types,.int .i64 x.Mode,.bool x.Typed,sl cS x.Sig.Vars,sl n6 x.Sig.Needs,sl GL x.Sig.Abs,sl pM x.Sig.Bounds,.int .i64 x.Sig.Type_.Op,.str x.Sig.Type_.Name,sl aj x.Sig.Type_.Args,sl cS x.Sig.Type_.Names,.int .i64 x.Sig.Type_.Pred.Op,.str x.Sig.Type_.Pred.Name,.int .i64 x.Sig.Type_.Pred.N,sl ac x.Sig.Type_.Pred.Kids,sl ac x.Sig.Type_.Preds,sl ac x.Sig.Metric]:=by
 unfold bY
 simp only[bR,Q4,vaL,vaJ]
theorem H7(x:i8):iG 0 (bY x):=by rw[gg];exact(aI vzz (aI (aU Mf x.Params) (aI vzz (aI vzz (aI vzz (aI (aU dN x.Body.Kids) (aI (aU rt x.Body.Params) (aI (aU n7 x.Body.Alts) (aI (aU dO x.Body.Types) (aI vzz (aI vzz (aI (aU Mf x.Sig.Vars) (aI (aU MV x.Sig.Needs) (aI (aU Vw x.Sig.Abs) (aI (aU PD x.Sig.Bounds) (aI vzz (aI vzz (aI (aU dO x.Sig.Type_.Args) (aI (aU Mf x.Sig.Type_.Names) (aI vzz (aI vzz (aI vzz (aI (aU bv x.Sig.Type_.Pred.Kids) (aI (aU bv x.Sig.Type_.Preds) (aI (aU bv x.Sig.Metric) trivial)))))))))))))))))))))))))
abbrev qaV(x:i8):PVal:=.agg (bY x)
instance iK_tDef{x:i8}:K0l (bY x):=⟨H7 x⟩
theorem Nt(x:i8):(bY x).length=25:=by rw[gg];rfl
theorem Wb(x:i8):bZ (.agg (bY x))=some (bY x):=rfl
theorem Z8(x:i8):bZ (qaV x)=some (bY x):=rfl
theorem qaa(x:i8):bZ (.agg (bY x))=some [.str x.Name,sl cS x.Params,.int .i64 x.Body.Op,.str x.Body.Name,.int .i64 x.Body.N,sl ag x.Body.Kids,sl bj x.Body.Params,sl bw x.Body.Alts,sl aj x.Body.Types,.int .i64 x.Mode,.bool x.Typed,sl cS x.Sig.Vars,sl n6 x.Sig.Needs,sl GL x.Sig.Abs,sl pM x.Sig.Bounds,.int .i64 x.Sig.Type_.Op,.str x.Sig.Type_.Name,sl aj x.Sig.Type_.Args,sl cS x.Sig.Type_.Names,.int .i64 x.Sig.Type_.Pred.Op,.str x.Sig.Type_.Pred.Name,.int .i64 x.Sig.Type_.Pred.N,sl ac x.Sig.Type_.Pred.Kids,sl ac x.Sig.Type_.Preds,sl ac x.Sig.Metric]:=by rw[gg];rfl
theorem ZW(x:i8):∀q∈bY x,q.one=true:=by
 intro q hq
 rw[gg]at hq
 simp only[vaF,vbn,or_false]at hq
 rcases hq with rfl|rfl|rfl|rfl|rfl|rfl|rfl|rfl|rfl|rfl|rfl|rfl|rfl|rfl|rfl|rfl|rfl|rfl|rfl|rfl|rfl|rfl|rfl|rfl|rfl<;>rfl
theorem qbw:Pg.cellsOf 58=25:=by kernel_rfl
theorem VS(x:i8):bo Pg 58 (bY x)=some (.agg (bY x)):=by
 have:=iM (P:=Pg) (t:=58) (l:=bY x) (r:=[]) (by kernel_rfl) (qbw.trans (Nt x).symm)
 rwa[vaC]at this
theorem ZA(x:i8)(r:List PVal):bo Pg 58 ([.str x.Name,sl cS x.Params,.int .i64 x.Body.Op,.str x.Body.Name,.int .i64 x.Body.N,sl ag x.Body.Kids,sl bj x.Body.Params,sl bw x.Body.Alts,sl aj x.Body.Types,.int .i64 x.Mode,.bool x.Typed,sl cS x.Sig.Vars,sl n6 x.Sig.Needs,sl GL x.Sig.Abs,sl pM x.Sig.Bounds,.int .i64 x.Sig.Type_.Op,.str x.Sig.Type_.Name,sl aj x.Sig.Type_.Args,sl cS x.Sig.Type_.Names,.int .i64 x.Sig.Type_.Pred.Op,.str x.Sig.Type_.Pred.Name,.int .i64 x.Sig.Type_.Pred.N,sl ac x.Sig.Type_.Pred.Kids,sl ac x.Sig.Type_.Preds,sl ac x.Sig.Metric]++r)=some (.agg (bY x)):=by
 rw[<-gg];exact iM (by kernel_rfl) (qbw.trans (Nt x).symm)
theorem OS(x0:ah)(x1:(List ah))(x2:af):di Pg 58 [(0,.str x0),(1,sl cS x1),(2,.agg (ag x2))]=some (.agg (bY (⟨x0,x1,x2,0,false,(⟨([]:List ah),([]:List A0),([]:List Oo),([]:List uF),(⟨0,([]:ah),([]:List ae),([]:List ah),(⟨0,([]:ah),0,([]:List aa)⟩:aa),([]:List aa)⟩:ae),([]:List aa)⟩:Jm)⟩:i8))):=by
 simp only[gg,bR]
 kernel_rfl
theorem OR(x0:ah)(x1:(List ah))(x2:af):ui Pg 58 [(0,.str x0),(1,sl cS x1),(2,.agg (ag x2))] [(11,9),(12,159),(13,166),(14,168),(17,30),(18,9),(22,28),(23,28),(24,28)]:=by
 simp only[bR]
 exact⟨[.str x0,sl cS x1,.int .i64 x2.Op,.str x2.Name,.int .i64 x2.N,sl ag x2.Kids,sl bj x2.Params,sl bw x2.Alts,sl aj x2.Types,.int .i64 0,.bool false,.val ee,.val ee,.val ee,.val ee,.int .i64 0,.str ([]:ah),.val ee,.val ee,.int .i64 0,.str ([]:ah),.int .i64 0,.val ee,.val ee,.val ee],by kernel_rfl,(aI rfl (aI rfl (aI rfl (aI rfl (aI rfl (aI rfl (aI rfl (aI rfl (aI rfl vzz)))))))))⟩
theorem SD(x0:ah)(x2:af):di Pg 58 [(0,.str x0),(2,.agg (ag x2))]=some (.agg (bY (⟨x0,([]:List ah),x2,0,false,(⟨([]:List ah),([]:List A0),([]:List Oo),([]:List uF),(⟨0,([]:ah),([]:List ae),([]:List ah),(⟨0,([]:ah),0,([]:List aa)⟩:aa),([]:List aa)⟩:ae),([]:List aa)⟩:Jm)⟩:i8))):=by
 simp only[gg,bR]
 kernel_rfl
theorem SC(x0:ah)(x2:af):ui Pg 58 [(0,.str x0),(2,.agg (ag x2))] [(1,9),(11,9),(12,159),(13,166),(14,168),(17,30),(18,9),(22,28),(23,28),(24,28)]:=by
 simp only[bR]
 exact⟨[.str x0,.val ee,.int .i64 x2.Op,.str x2.Name,.int .i64 x2.N,sl ag x2.Kids,sl bj x2.Params,sl bw x2.Alts,sl aj x2.Types,.int .i64 0,.bool false,.val ee,.val ee,.val ee,.val ee,.int .i64 0,.str ([]:ah),.val ee,.val ee,.int .i64 0,.str ([]:ah),.int .i64 0,.val ee,.val ee,.val ee],by kernel_rfl,(aI rfl (aI rfl (aI rfl (aI rfl (aI rfl (aI rfl (aI rfl (aI rfl (aI rfl (aI rfl vzz))))))))))⟩
theorem JL(x:i8):aV Pg 58 (.eptr (bY x)) 0=some (.eptr ((bY x).drop 0))/\bo Pg 9 ((bY x).drop 0)=some (.str x.Name):=⟨by rw[gg];kernel_rfl,by rw[gg];kernel_rfl⟩
theorem Ih(x:i8):aV Pg 58 (.eptr (bY x)) 1=some (.eptr ((bY x).drop 1))/\bo Pg 24 ((bY x).drop 1)=some (sl cS x.Params):=⟨by rw[gg];kernel_rfl,by rw[gg];kernel_rfl⟩
theorem pS(x:i8):aV Pg 58 (.eptr (bY x)) 2=some (.eptr ((bY x).drop 2))/\bo Pg 36 ((bY x).drop 2)=some (.agg (ag x.Body)):=⟨by rw[gg];kernel_rfl,by rw[gg,bR];kernel_rfl⟩
theorem pT(x:i8):aV Pg 58 (.eptr (bY x)) 3=some (.eptr ((bY x).drop 9))/\bo Pg 51 ((bY x).drop 9)=some (.int .i64 x.Mode):=⟨by rw[gg];kernel_rfl,by rw[gg];kernel_rfl⟩
theorem yQ(x:i8):aV Pg 58 (.eptr (bY x)) 4=some (.eptr ((bY x).drop 10))/\bo Pg 4 ((bY x).drop 10)=some (.bool x.Typed):=⟨by rw[gg];kernel_rfl,by rw[gg];kernel_rfl⟩
theorem GR(x:i8):aV Pg 58 (.eptr (bY x)) 5=some (.eptr ((bY x).drop 11))/\bo Pg 56 ((bY x).drop 11)=some (.agg (GM x.Sig)):=⟨by rw[gg];kernel_rfl,by rw[gg,Q4];kernel_rfl⟩
structure aG where
 level:Int
 left:Int
 right:Int
 sign:ah
deriving DecidableEq
def eV(x:aG):List PVal:=[.int .i64 x.level,.int .i64 x.left,.int .i64 x.right,.str x.sign]
theorem Aj(x:aG):eV x=[.int .i64 x.level,.int .i64 x.left,.int .i64 x.right,.str x.sign]:=rfl
theorem JF(x:aG):iG 0 (eV x):=(aI vzz (aI vzz (aI vzz (aI vzz vzz))))
instance iK_predtext_form{x:aG}:K0l (eV x):=⟨JF x⟩
theorem bX(x:aG):bZ (.agg (eV x))=some [.int .i64 x.level,.int .i64 x.left,.int .i64 x.right,.str x.sign]:=by rw[Aj];rfl
theorem cB(x:aG):PVal.agg [.int .i64 x.level,.int .i64 x.left,.int .i64 x.right,.str x.sign]=.agg (eV x):=by rw[Aj]
theorem GJ:di Pg 193 []=some (.agg (eV (⟨0,0,0,([]:ah)⟩:aG))):=by
 kernel_rfl
theorem bD(x0:Int)(x1:Int)(x2:Int)(x3:ah):di Pg 193 [(0,.int .i64 x0),(1,.int .i64 x1),(2,.int .i64 x2),(3,.str x3)]=some (.agg (eV (⟨x0,x1,x2,x3⟩:aG))):=by
 kernel_rfl
structure au where
 n:Bool
 name:Bool
 least:Int
 most:Int
 params:Bool
 alts:Bool
 typesLeast:Int
 typesMost:Int
 types:Bool
deriving DecidableEq
def aC(x:au):List PVal:=[.bool x.n,.bool x.name,.int .i64 x.least,.int .i64 x.most,.bool x.params,.bool x.alts,.int .i64 x.typesLeast,.int .i64 x.typesMost,.bool x.types]
theorem n8(x:au):aC x=[.bool x.n,.bool x.name,.int .i64 x.least,.int .i64 x.most,.bool x.params,.bool x.alts,.int .i64 x.typesLeast,.int .i64 x.typesMost,.bool x.types]:=rfl
theorem LA(x:au):iG 0 (aC x):=(aI vzz (aI vzz (aI vzz (aI vzz (aI vzz (aI vzz (aI vzz (aI vzz (aI vzz vzz)))))))))
instance iK_syntax_shape{x:au}:K0l (aC x):=⟨LA x⟩
theorem JM(x:au):(aC x).length=9:=by rw[n8];rfl
theorem CJ(x:au):bZ (.agg (aC x))=some (aC x):=rfl
theorem ch(x:au):bZ (.agg (aC x))=some [.bool x.n,.bool x.name,.int .i64 x.least,.int .i64 x.most,.bool x.params,.bool x.alts,.int .i64 x.typesLeast,.int .i64 x.typesMost,.bool x.types]:=by rw[n8];rfl
theorem qfx:Pg.cellsOf 176=9:=by kernel_rfl
theorem Ao(x:au)(r:List PVal):bo Pg 176 ([.bool x.n,.bool x.name,.int .i64 x.least,.int .i64 x.most,.bool x.params,.bool x.alts,.int .i64 x.typesLeast,.int .i64 x.typesMost,.bool x.types]++r)=some (.agg (aC x)):=by
 rw[<-n8];exact iM (by kernel_rfl) (qfx.trans (JM x).symm)
theorem ct(x:au):PVal.agg [.bool x.n,.bool x.name,.int .i64 x.least,.int .i64 x.most,.bool x.params,.bool x.alts,.int .i64 x.typesLeast,.int .i64 x.typesMost,.bool x.types]=.agg (aC x):=by rw[n8]
theorem H4:di Pg 176 []=some (.agg (aC (⟨false,false,0,0,false,false,0,0,false⟩:au))):=by
 kernel_rfl
theorem H1(x0:Bool):di Pg 176 [(0,.bool x0)]=some (.agg (aC (⟨x0,false,0,0,false,false,0,0,false⟩:au))):=by
 kernel_rfl
theorem C5(x1:Bool)(x2:Int)(x3:Int):di Pg 176 [(1,.bool x1),(2,.int .i64 x2),(3,.int .i64 x3)]=some (.agg (aC (⟨false,x1,x2,x3,false,false,0,0,false⟩:au))):=by
 kernel_rfl
theorem mH(x1:Bool)(x2:Int)(x3:Int)(x8:Bool)(x7:Int):di Pg 176 [(1,.bool x1),(2,.int .i64 x2),(3,.int .i64 x3),(8,.bool x8),(7,.int .i64 x7)]=some (.agg (aC (⟨false,x1,x2,x3,false,false,0,x7,x8⟩:au))):=by
 kernel_rfl
theorem Af(x1:Bool)(x3:Int)(x8:Bool)(x7:Int):di Pg 176 [(1,.bool x1),(3,.int .i64 x3),(8,.bool x8),(7,.int .i64 x7)]=some (.agg (aC (⟨false,x1,0,x3,false,false,0,x7,x8⟩:au))):=by
 kernel_rfl
theorem H3(x1:Bool):di Pg 176 [(1,.bool x1)]=some (.agg (aC (⟨false,x1,0,0,false,false,0,0,false⟩:au))):=by
 kernel_rfl
theorem mT(x2:Int)(x3:Int):di Pg 176 [(2,.int .i64 x2),(3,.int .i64 x3)]=some (.agg (aC (⟨false,false,x2,x3,false,false,0,0,false⟩:au))):=by
 kernel_rfl
theorem xS(x2:Int)(x3:Int)(x8:Bool)(x6:Int)(x7:Int):di Pg 176 [(2,.int .i64 x2),(3,.int .i64 x3),(8,.bool x8),(6,.int .i64 x6),(7,.int .i64 x7)]=some (.agg (aC (⟨false,false,x2,x3,false,false,x6,x7,x8⟩:au))):=by
 kernel_rfl
theorem C6(x4:Bool)(x2:Int)(x3:Int):di Pg 176 [(4,.bool x4),(2,.int .i64 x2),(3,.int .i64 x3)]=some (.agg (aC (⟨false,false,x2,x3,x4,false,0,0,false⟩:au))):=by
 kernel_rfl
theorem C7(x5:Bool)(x2:Int)(x3:Int):di Pg 176 [(5,.bool x5),(2,.int .i64 x2),(3,.int .i64 x3)]=some (.agg (aC (⟨false,false,x2,x3,false,x5,0,0,false⟩:au))):=by
 kernel_rfl
theorem xW(x:au):aV Pg 176 (.eptr (aC x)) 1=some (.eptr ((aC x).drop 1))/\bo Pg 4 ((aC x).drop 1)=some (.bool x.name):=⟨by kernel_rfl,by kernel_rfl⟩
theorem xX(x:au):aV Pg 176 (.eptr (aC x)) 2=some (.eptr ((aC x).drop 2))/\bo Pg 3 ((aC x).drop 2)=some (.int .i64 x.least):=⟨by kernel_rfl,by kernel_rfl⟩
theorem xY(x:au):aV Pg 176 (.eptr (aC x)) 3=some (.eptr ((aC x).drop 3))/\bo Pg 3 ((aC x).drop 3)=some (.int .i64 x.most):=⟨by kernel_rfl,by kernel_rfl⟩
theorem xZ(x:au):aV Pg 176 (.eptr (aC x)) 4=some (.eptr ((aC x).drop 4))/\bo Pg 4 ((aC x).drop 4)=some (.bool x.params):=⟨by kernel_rfl,by kernel_rfl⟩
theorem mI(x:au):aV Pg 176 (.eptr (aC x)) 5=some (.eptr ((aC x).drop 5))/\bo Pg 4 ((aC x).drop 5)=some (.bool x.alts):=⟨by kernel_rfl,by kernel_rfl⟩
theorem ya(x:au):aV Pg 176 (.eptr (aC x)) 6=some (.eptr ((aC x).drop 6))/\bo Pg 3 ((aC x).drop 6)=some (.int .i64 x.typesLeast):=⟨by kernel_rfl,by kernel_rfl⟩
theorem yb(x:au):aV Pg 176 (.eptr (aC x)) 7=some (.eptr ((aC x).drop 7))/\bo Pg 3 ((aC x).drop 7)=some (.int .i64 x.typesMost):=⟨by kernel_rfl,by kernel_rfl⟩
structure qcC where
 Name:ah
 Names:(List ah)
 Fields:(List ae)
def JE(x:qcC):List PVal:=[.str x.Name,sl cS x.Names,sl aj x.Fields]
theorem qbq(x:qcC):iG 0 (JE x):=(aI vzz (aI (aU Mf x.Names) (aI (aU dO x.Fields) trivial)))
structure xI where
 Name:ah
 Vars:(List ah)
 Preds:(List Ve)
 Cons:(List qcC)
def j8(x:xI):List PVal:=[.str x.Name,sl cS x.Vars,sl rp x.Preds,sl JE x.Cons]
theorem If(x:xI):j8 x=[.str x.Name,sl cS x.Vars,sl rp x.Preds,sl JE x.Cons]:=rfl
theorem H6(x:xI):iG 0 (j8 x):=(aI vzz (aI (aU Mf x.Vars) (aI (aU QY x.Preds) (aI (aU qbq x.Cons) trivial))))
instance iK_tData{x:xI}:K0l (j8 x):=⟨H6 x⟩
theorem JN(x:xI):(j8 x).length=4:=by rw[If];rfl
theorem XS(x:xI):bZ (.agg (j8 x))=some [.str x.Name,sl cS x.Vars,sl rp x.Preds,sl JE x.Cons]:=by rw[If];rfl
theorem XB(x:xI):∀q∈j8 x,q.one=true:=by
 intro q hq
 rw[If]at hq
 simp only[vaF,vbn,or_false]at hq
 rcases hq with rfl|rfl|rfl|rfl<;>rfl
theorem qby:Pg.cellsOf 92=4:=by kernel_rfl
theorem Zy(x:xI):bo Pg 92 (j8 x)=some (.agg (j8 x)):=by
 have:=iM (P:=Pg) (t:=92) (l:=j8 x) (r:=[]) (by kernel_rfl) (qby.trans (JN x).symm)
 rwa[vaC]at this
theorem Xl(x:xI)(r:List PVal):bo Pg 92 ([.str x.Name,sl cS x.Vars,sl rp x.Preds,sl JE x.Cons]++r)=some (.agg (j8 x)):=by
 rw[<-If];exact iM (by kernel_rfl) (qby.trans (JN x).symm)
structure Jl where
 Name:ah
 Type_:ae
def oV(x:Jl):List PVal:=[.str x.Name]++(aj x.Type_)
theorem UC(x:Jl):oV x=[.str x.Name,.int .i64 x.Type_.Op,.str x.Type_.Name,sl aj x.Type_.Args,sl cS x.Type_.Names,.int .i64 x.Type_.Pred.Op,.str x.Type_.Pred.Name,.int .i64 x.Type_.Pred.N,sl ac x.Type_.Pred.Kids,sl ac x.Type_.Preds]:=by
 unfold oV
 simp only[cR,vaL,vaJ]
theorem Uw(x:Jl):iG 0 (oV x):=by rw[UC];exact(aI vzz (aI vzz (aI vzz (aI (aU dO x.Type_.Args) (aI (aU Mf x.Type_.Names) (aI vzz (aI vzz (aI vzz (aI (aU bv x.Type_.Pred.Kids) (aI (aU bv x.Type_.Preds) trivial))))))))))
structure oM where
 Name:ah
 Var:ah
 Methods:(List Jl)
def gA(x:oM):List PVal:=[.str x.Name,.str x.Var,sl oV x.Methods]
theorem E0(x:oM):gA x=[.str x.Name,.str x.Var,sl oV x.Methods]:=rfl
theorem EU(x:oM):iG 0 (gA x):=(aI vzz (aI vzz (aI (aU Uw x.Methods) trivial)))
instance iK_tClass{x:oM}:K0l (gA x):=⟨EU x⟩
theorem GU(x:oM):(gA x).length=3:=by rw[E0];rfl
theorem UX(x:oM):bZ (.agg (gA x))=some [.str x.Name,.str x.Var,sl oV x.Methods]:=by rw[E0];rfl
theorem US(x:oM):∀q∈gA x,q.one=true:=by
 intro q hq
 rw[E0]at hq
 simp only[vaF,vbn,or_false]at hq
 rcases hq with rfl|rfl|rfl<;>rfl
theorem qbz:Pg.cellsOf 97=3:=by kernel_rfl
theorem Xk(x:oM):bo Pg 97 (gA x)=some (.agg (gA x)):=by
 have:=iM (P:=Pg) (t:=97) (l:=gA x) (r:=[]) (by kernel_rfl) (qbz.trans (GU x).symm)
 rwa[vaC]at this
theorem UL(x:oM)(r:List PVal):bo Pg 97 ([.str x.Name,.str x.Var,sl oV x.Methods]++r)=some (.agg (gA x)):=by
 rw[<-E0];exact iM (by kernel_rfl) (qbz.trans (GU x).symm)
structure ft where
 Class:ah
 Type_:ae
 Needs:(List A0)
 Defs:(List i8)
def dH(x:ft):List PVal:=[.str x.Class]++(aj x.Type_++([sl n6 x.Needs,sl bY x.Defs]))
theorem pR(x:ft):dH x=[.str x.Class,.int .i64 x.Type_.Op,.str x.Type_.Name,sl aj x.Type_.Args,sl cS x.Type_.Names,.int .i64 x.Type_.Pred.Op,.str x.Type_.Pred.Name,.int .i64 x.Type_.Pred.N,sl ac x.Type_.Pred.Kids,sl ac x.Type_.Preds,sl n6 x.Needs,sl bY x.Defs]:=by
 unfold dH
 simp only[cR,vaL,vaJ]
theorem vG(x:ft):iG 0 (dH x):=by rw[pR];exact(aI vzz (aI vzz (aI vzz (aI (aU dO x.Type_.Args) (aI (aU Mf x.Type_.Names) (aI vzz (aI vzz (aI vzz (aI (aU bv x.Type_.Pred.Kids) (aI (aU bv x.Type_.Preds) (aI (aU MV x.Needs) (aI (aU H7 x.Defs) trivial))))))))))))
instance iK_tInstance{x:ft}:K0l (dH x):=⟨vG x⟩
theorem zC(x:ft):(dH x).length=12:=by rw[pR];rfl
theorem Pf(x:ft):bZ (.agg (dH x))=some [.str x.Class,.int .i64 x.Type_.Op,.str x.Type_.Name,sl aj x.Type_.Args,sl cS x.Type_.Names,.int .i64 x.Type_.Pred.Op,.str x.Type_.Pred.Name,.int .i64 x.Type_.Pred.N,sl ac x.Type_.Pred.Kids,sl ac x.Type_.Preds,sl n6 x.Needs,sl bY x.Defs]:=by rw[pR];rfl
theorem Pd(x:ft):∀q∈dH x,q.one=true:=by
 intro q hq
 rw[pR]at hq
 simp only[vaF,vbn,or_false]at hq
 rcases hq with rfl|rfl|rfl|rfl|rfl|rfl|rfl|rfl|rfl|rfl|rfl|rfl<;>rfl
theorem qbx:Pg.cellsOf 88=12:=by kernel_rfl
theorem Ri(x:ft):bo Pg 88 (dH x)=some (.agg (dH x)):=by
 have:=iM (P:=Pg) (t:=88) (l:=dH x) (r:=[]) (by kernel_rfl) (qbx.trans (zC x).symm)
 rwa[vaC]at this
theorem O6(x:ft)(r:List PVal):bo Pg 88 ([.str x.Class,.int .i64 x.Type_.Op,.str x.Type_.Name,sl aj x.Type_.Args,sl cS x.Type_.Names,.int .i64 x.Type_.Pred.Op,.str x.Type_.Pred.Name,.int .i64 x.Type_.Pred.N,sl ac x.Type_.Pred.Kids,sl ac x.Type_.Preds,sl n6 x.Needs,sl bY x.Defs]++r)=some (.agg (dH x)):=by
 rw[<-pR];exact iM (by kernel_rfl) (qbx.trans (zC x).symm)
structure T5 where
 Con:ah
 Names:(List ah)
 Body:aa
def yM(x:T5):List PVal:=[.str x.Con,sl cS x.Names]++(ac x.Body)
theorem Y9(x:T5):yM x=[.str x.Con,sl cS x.Names,.int .i64 x.Body.Op,.str x.Body.Name,.int .i64 x.Body.N,sl ac x.Body.Kids]:=by
 unfold yM
 simp only[bU,vaL,vaJ]
theorem YT(x:T5):iG 0 (yM x):=by rw[Y9];exact(aI vzz (aI (aU Mf x.Names) (aI vzz (aI vzz (aI vzz (aI (aU bv x.Body.Kids) trivial))))))
structure gR where
 Name:ah
 Data:ah
 Result:ah
 Cases:(List T5)
 Inv:aa
def d7(x:gR):List PVal:=[.str x.Name,.str x.Data,.str x.Result,sl yM x.Cases]++(ac x.Inv)
theorem th(x:gR):d7 x=[.str x.Name,.str x.Data,.str x.Result,sl yM x.Cases,.int .i64 x.Inv.Op,.str x.Inv.Name,.int .i64 x.Inv.N,sl ac x.Inv.Kids]:=by
 unfold d7
 simp only[bU,vaL,vaJ]
theorem yN(x:gR):iG 0 (d7 x):=by rw[th];exact(aI vzz (aI vzz (aI vzz (aI (aU YT x.Cases) (aI vzz (aI vzz (aI vzz (aI (aU bv x.Inv.Kids) trivial))))))))
instance iK_tMeasure{x:gR}:K0l (d7 x):=⟨yN x⟩
theorem BE(x:gR):(d7 x).length=8:=by rw[th];rfl
theorem RD(x:gR):bZ (.agg (d7 x))=some [.str x.Name,.str x.Data,.str x.Result,sl yM x.Cases,.int .i64 x.Inv.Op,.str x.Inv.Name,.int .i64 x.Inv.N,sl ac x.Inv.Kids]:=by rw[th];rfl
theorem Rv(x:gR):∀q∈d7 x,q.one=true:=by
 intro q hq
 rw[th]at hq
 simp only[vaF,vbn,or_false]at hq
 rcases hq with rfl|rfl|rfl|rfl|rfl|rfl|rfl|rfl<;>rfl
theorem Vx:Pg.cellsOf 103=8:=by kernel_rfl
theorem Tg(x:gR):bo Pg 103 (d7 x)=some (.agg (d7 x)):=by
 have:=iM (P:=Pg) (t:=103) (l:=d7 x) (r:=[]) (by kernel_rfl) (Vx.trans (BE x).symm)
 rwa[vaC]at this
theorem Rj(x:gR)(r:List PVal):bo Pg 103 ([.str x.Name,.str x.Data,.str x.Result,sl yM x.Cases,.int .i64 x.Inv.Op,.str x.Inv.Name,.int .i64 x.Inv.N,sl ac x.Inv.Kids]++r)=some (.agg (d7 x)):=by
 rw[<-th];exact iM (by kernel_rfl) (Vx.trans (BE x).symm)
structure xJ where
 Name:ah
 Vars:(List Ve)
 Body:aa
def je(x:xJ):List PVal:=[.str x.Name,sl rp x.Vars]++(ac x.Body)
theorem DU(x:xJ):je x=[.str x.Name,sl rp x.Vars,.int .i64 x.Body.Op,.str x.Body.Name,.int .i64 x.Body.N,sl ac x.Body.Kids]:=by
 unfold je
 simp only[bU,vaL,vaJ]
theorem H8(x:xJ):iG 0 (je x):=by rw[DU];exact(aI vzz (aI (aU QY x.Vars) (aI vzz (aI vzz (aI vzz (aI (aU bv x.Body.Kids) trivial))))))
instance iK_tQual{x:xJ}:K0l (je x):=⟨H8 x⟩
theorem JQ(x:xJ):(je x).length=6:=by rw[DU];rfl
theorem XT(x:xJ):bZ (.agg (je x))=some [.str x.Name,sl rp x.Vars,.int .i64 x.Body.Op,.str x.Body.Name,.int .i64 x.Body.N,sl ac x.Body.Kids]:=by rw[DU];rfl
theorem XE(x:xJ):∀q∈je x,q.one=true:=by
 intro q hq
 rw[DU]at hq
 simp only[vaF,vbn,or_false]at hq
 rcases hq with rfl|rfl|rfl|rfl|rfl|rfl<;>rfl
theorem Vy:Pg.cellsOf 106=6:=by kernel_rfl
theorem Zz(x:xJ):bo Pg 106 (je x)=some (.agg (je x)):=by
 have:=iM (P:=Pg) (t:=106) (l:=je x) (r:=[]) (by kernel_rfl) (Vy.trans (JQ x).symm)
 rwa[vaC]at this
theorem Xm(x:xJ)(r:List PVal):bo Pg 106 ([.str x.Name,sl rp x.Vars,.int .i64 x.Body.Op,.str x.Body.Name,.int .i64 x.Body.N,sl ac x.Body.Kids]++r)=some (.agg (je x)):=by
 rw[<-DU];exact iM (by kernel_rfl) (Vy.trans (JQ x).symm)
structure gm where
 Datas:(List xI)
 Classes:(List oM)
 Instances:(List ft)
 Measures:(List gR)
 Quals:(List xJ)
 Defs:(List i8)
def bH(x:gm):List PVal:=[sl j8 x.Datas,sl gA x.Classes,sl dH x.Instances,sl d7 x.Measures,sl je x.Quals,sl bY x.Defs]
theorem gC(x:gm):iG 0 (bH x):=(aI (aU H6 x.Datas) (aI (aU EU x.Classes) (aI (aU vG x.Instances) (aI (aU yN x.Measures) (aI (aU H8 x.Quals) (aI (aU H7 x.Defs) trivial))))))
instance iK_tModule{x:gm}:K0l (bH x):=⟨gC x⟩
theorem UV(x:gm):bZ (.agg (bH x))=some (bH x):=rfl
theorem QS(x5:(List i8)):di Pg 50 [(5,sl bY x5)]=some (.agg (bH (⟨([]:List xI),([]:List oM),([]:List ft),([]:List gR),([]:List xJ),x5⟩:gm))):=by
 kernel_rfl
theorem QM(x5:(List i8)):ui Pg 50 [(5,sl bY x5)] [(0,92),(1,97),(2,88),(3,103),(4,106)]:=by
 exact⟨[.val ee,.val ee,.val ee,.val ee,.val ee,sl bY x5],by kernel_rfl,(aI rfl (aI rfl (aI rfl (aI rfl (aI rfl vzz)))))⟩
theorem DW(x:gm):aV Pg 50 (.eptr (bH x)) 0=some (.eptr ((bH x).drop 0))/\bo Pg 43 ((bH x).drop 0)=some (sl j8 x.Datas):=⟨by kernel_rfl,by kernel_rfl⟩
theorem DX(x:gm):aV Pg 50 (.eptr (bH x)) 1=some (.eptr ((bH x).drop 1))/\bo Pg 44 ((bH x).drop 1)=some (sl gA x.Classes):=⟨by kernel_rfl,by kernel_rfl⟩
theorem DY(x:gm):aV Pg 50 (.eptr (bH x)) 2=some (.eptr ((bH x).drop 2))/\bo Pg 45 ((bH x).drop 2)=some (sl dH x.Instances):=⟨by kernel_rfl,by kernel_rfl⟩
theorem DZ(x:gm):aV Pg 50 (.eptr (bH x)) 3=some (.eptr ((bH x).drop 3))/\bo Pg 46 ((bH x).drop 3)=some (sl d7 x.Measures):=⟨by kernel_rfl,by kernel_rfl⟩
theorem D0(x:gm):aV Pg 50 (.eptr (bH x)) 4=some (.eptr ((bH x).drop 4))/\bo Pg 47 ((bH x).drop 4)=some (sl je x.Quals):=⟨by kernel_rfl,by kernel_rfl⟩
theorem D1(x:gm):aV Pg 50 (.eptr (bH x)) 5=some (.eptr ((bH x).drop 5))/\bo Pg 48 ((bH x).drop 5)=some (sl bY x.Defs):=⟨by kernel_rfl,by kernel_rfl⟩
structure aH where
 n:Bool
 name:Bool
 least:Int
 most:Int
 params:Bool
 alts:Bool
 types:Bool
 exactly:Bool
 ok:Bool
deriving DecidableEq
theorem dy:Md Pg 23 30 aj:=⟨underlying23,λx=>(JR x).trans qbu.symm,by kernel_rfl,by rw[qbu];decide,by kernel_rfl,va2 (by kernel_rfl),XF,dO⟩
theorem qd1:Pg.cellsOf 9=1:=by kernel_rfl
theorem kQ:Md Pg 24 9 cS:=⟨underlying24,λ_=>qd1.symm,by kernel_rfl,by rw[qd1];decide,by kernel_rfl,va2 (by kernel_rfl),qja,Mf⟩
theorem eL:Md Pg 26 28 ac:=⟨underlying26,λx=>(JP x).trans qbt.symm,by kernel_rfl,by rw[qbt];decide,by kernel_rfl,va2 (by kernel_rfl),XD,bv⟩
theorem fj:Md Pg 32 36 ag:=⟨underlying32,λx=>(JO x).trans qbv.symm,by kernel_rfl,by rw[qbv];decide,by kernel_rfl,va2 (by kernel_rfl),XC,dN⟩
theorem pl:Md Pg 33 114 bj:=⟨underlying33,λx=>(Nu x).trans YV.symm,by kernel_rfl,by rw[YV];decide,by kernel_rfl,va2 (by kernel_rfl),UT,rt⟩
theorem fJ:Md Pg 34 116 bw:=⟨underlying34,λx=>(Td x).trans YW.symm,by kernel_rfl,by rw[YW];decide,by kernel_rfl,va2 (by kernel_rfl),ZV,n7⟩
theorem qf0:Md Pg 43 92 j8:=⟨underlying43,λx=>(JN x).trans qby.symm,by kernel_rfl,by rw[qby];decide,by kernel_rfl,va2 (by kernel_rfl),XB,H6⟩
theorem qf1:Md Pg 44 97 gA:=⟨underlying44,λx=>(GU x).trans qbz.symm,by kernel_rfl,by rw[qbz];decide,by kernel_rfl,va2 (by kernel_rfl),US,EU⟩
theorem qf2:Md Pg 45 88 dH:=⟨underlying45,λx=>(zC x).trans qbx.symm,by kernel_rfl,by rw[qbx];decide,by kernel_rfl,va2 (by kernel_rfl),Pd,vG⟩
theorem qf3:Md Pg 46 103 d7:=⟨underlying46,λx=>(BE x).trans Vx.symm,by kernel_rfl,by rw[Vx];decide,by kernel_rfl,va2 (by kernel_rfl),Rv,yN⟩
theorem qf4:Md Pg 47 106 je:=⟨underlying47,λx=>(JQ x).trans Vy.symm,by kernel_rfl,by rw[Vy];decide,by kernel_rfl,va2 (by kernel_rfl),XE,H8⟩
theorem qet:Md Pg 48 58 bY:=⟨underlying48,λx=>(Nt x).trans qbw.symm,by kernel_rfl,by rw[qbw];decide,by kernel_rfl,va2 (by kernel_rfl),ZW,H7⟩
theorem qgm:Pg.cellsOf 5=1:=by kernel_rfl
theorem qf5:Md Pg 72 5 (cI .u8):=⟨underlying72,λ_=>qgm.symm,by kernel_rfl,by rw[qgm];decide,by kernel_rfl,va2 (by kernel_rfl),(qi9 .u8),(Sn .u8)⟩
theorem cU(l:List ah)(n:Nat)(hn:(decide (l.length=n)&&decide (n * 1<=16777216))=true):eW Pg 24 n ((l.map PVal.str).zipIdx 0|>.map λx=>(x.2,x.1))=some (sl cS l):=kQ.mk' (v:=PVal.str) qlK l n (by rw[qd1];exact hn)
theorem qeu:(Pg.underlying 23).any Of=true:=by kernel_rfl
theorem qev:(Pg.underlying 24).any Of=true:=by kernel_rfl
theorem qf6:(Pg.underlying 32).any Of=true:=by kernel_rfl
theorem qct:(Pg.underlying 9).any Of=true:=by kernel_rfl
theorem ql0:Kr Pg 4=some (PVal.bool false):=by kernel_rfl
theorem qlL:fu Pg 3=some [.int .i64 0]:=by kernel_rfl
theorem N7:fu Pg 28=some [.int .i64 0,.str ([]:ah),.int .i64 0,sl ac ([]:List aa)]:=by kernel_rfl
theorem RN:fu Pg 30=some [.int .i64 0,.str ([]:ah),sl aj ([]:List ae),sl cS ([]:List ah),.int .i64 0,.str ([]:ah),.int .i64 0,sl ac ([]:List aa),sl ac ([]:List aa)]:=by kernel_rfl
theorem RO:fu Pg 36=some [.int .i64 0,.str ([]:ah),.int .i64 0,sl ag ([]:List af),sl bj ([]:List cc),sl bw ([]:List cf),sl aj ([]:List ae)]:=by kernel_rfl
theorem qjf:fu Pg 58=some [.str ([]:ah),sl cS ([]:List ah),.int .i64 0,.str ([]:ah),.int .i64 0,sl ag ([]:List af),sl bj ([]:List cc),sl bw ([]:List cf),sl aj ([]:List ae),.int .i64 0,.bool false,sl cS ([]:List ah),sl n6 ([]:List A0),sl GL ([]:List Oo),sl pM ([]:List uF),.int .i64 0,.str ([]:ah),sl aj ([]:List ae),sl cS ([]:List ah),.int .i64 0,.str ([]:ah),.int .i64 0,sl ac ([]:List aa),sl ac ([]:List aa),sl ac ([]:List aa)]:=by kernel_rfl
theorem qjg:fu Pg 61=some [.int .i64 0]:=by kernel_rfl
theorem qjh:fu Pg 88=some [.str ([]:ah),.int .i64 0,.str ([]:ah),sl aj ([]:List ae),sl cS ([]:List ah),.int .i64 0,.str ([]:ah),.int .i64 0,sl ac ([]:List aa),sl ac ([]:List aa),sl n6 ([]:List A0),sl bY ([]:List i8)]:=by kernel_rfl
theorem qji:fu Pg 92=some [.str ([]:ah),sl cS ([]:List ah),sl rp ([]:List Ve),sl JE ([]:List qcC)]:=by kernel_rfl
theorem qjj:fu Pg 97=some [.str ([]:ah),.str ([]:ah),sl oV ([]:List Jl)]:=by kernel_rfl
theorem qfR:fu Pg 103=some [.str ([]:ah),.str ([]:ah),.str ([]:ah),sl yM ([]:List T5),.int .i64 0,.str ([]:ah),.int .i64 0,sl ac ([]:List aa)]:=by kernel_rfl
theorem qfS:fu Pg 106=some [.str ([]:ah),sl rp ([]:List Ve),.int .i64 0,.str ([]:ah),.int .i64 0,sl ac ([]:List aa)]:=by kernel_rfl
theorem qar:fu Pg 114=some [.str ([]:ah),.int .i64 0,.str ([]:ah),sl aj ([]:List ae),sl cS ([]:List ah),.int .i64 0,.str ([]:ah),.int .i64 0,sl ac ([]:List aa),sl ac ([]:List aa)]:=by kernel_rfl
theorem N6:fu Pg 116=some [.str ([]:ah),sl cS ([]:List ah),.int .i64 0,.str ([]:ah),.int .i64 0,sl ag ([]:List af),sl bj ([]:List cc),sl bw ([]:List cf),sl aj ([]:List ae)]:=by kernel_rfl
theorem qc9:fu Pg 176=some [.bool false,.bool false,.int .i64 0,.int .i64 0,.bool false,.bool false,.int .i64 0,.int .i64 0,.bool false]:=by kernel_rfl
theorem qfT:fu Pg 188=some [.val .nilFunc]:=by kernel_rfl
theorem qfU:fu Pg 191=some [.val .nilFunc]:=by kernel_rfl
theorem qas:fu Pg 193=some [.int .i64 0,.int .i64 0,.int .i64 0,.str ([]:ah)]:=by kernel_rfl
def iz:List ah:=[([]:ah),([]:ah),([]:ah),([]:ah),([]:ah),([]:ah),([]:ah),([]:ah),([]:ah),([]:ah),([43]:ah),([45]:ah),([42]:ah),([100,105,118]:ah),([109,111,100]:ah),([]:ah),([61,61]:ah),([60]:ah),([60,61]:ah),([38,38]:ah),([124,124]:ah)]
theorem qfw:Pg.cellsOf 156=21:=by kernel_rfl
theorem Ep{k:IntKind}{i:Int}{x:ah}(h:dh iz i=some x):ka Pg 156 (.eptr (iz.map PVal.str)) (.int k i)=some (.eptr ((iz.map PVal.str).drop i.toNat)):=qfi underlying156 qd1 (by kernel_rfl) (by kernel_rfl) h
theorem Er{i:Int}{x:ah}(h:dh iz i=some x):bo Pg 9 ((iz.map PVal.str).drop i.toNat)=some (PVal.str x):=qfk (by kernel_rfl) h
def dj:List ah:=[([97,110,100]:ah),([97,115,115,117,109,101]:ah),([98,111,111,108]:ah),([98,111,117,110,100]:ah),([99,97,115,101]:ah),([99,101,108,108]:ah),([99,108,97,115,115]:ah),([100,97,116,97]:ah),([100,101,102]:ah),([100,105,118]:ah),([101,108,115,101]:ah),([101,110,100]:ah),([102,97,108,115,101]:ah),([102,111,114,97,108,108]:ah),([102,117,110]:ah),([103,101,116]:ah),([105,102]:ah),([105,110]:ah),([105,110,115,116]:ah),([105,110,116]:ah),([105,110,118,97,114,105,97,110,116]:ah),([108,101,116]:ah),([109,97,116,99,104]:ah),([109,101,97,115,117,114,101]:ah),([109,101,116,114,105,99]:ah),([109,111,100]:ah),([109,117]:ah),([110,101,119]:ah),([110,111,116]:ah),([111,102]:ah),([111,114]:ah),([113,117,97,108]:ah),([114,101,102,108,101,99,116]:ah),([115,101,116]:ah),([116,104,101,110]:ah),([116,114,117,101]:ah),([117,115,101]:ah),([118]:ah),([118,97,108]:ah),([116,97,103]:ah),([119,104,101,114,101]:ah),([119,105,116,104]:ah)]
theorem qfz:Pg.cellsOf 229=42:=by kernel_rfl
theorem Iz:bo Pg 229 (dj.map PVal.str)=some (.agg (dj.map PVal.str)):=by kernel_rfl
theorem Iy{k:IntKind}{i:Int}{x:ah}(h:dh dj i=some x):BK Pg 229 (.agg (dj.map PVal.str)) (.int k i)=some (PVal.str x):=qfj underlying229 qd1 (by kernel_rfl) (by kernel_rfl) (by kernel_rfl) h
def km:List Int:=[1,10,100,1000,10000,100000,1000000,10000000,100000000,1000000000,10000000000,100000000000,1000000000000,10000000000000,100000000000000,1000000000000000,10000000000000000,100000000000000000,1000000000000000000,10000000000000000000]
theorem qfA:Pg.cellsOf 240=20:=by kernel_rfl
theorem qfy:Pg.cellsOf 224=1:=by kernel_rfl
def Ap:List Int:=[0,1,28,2,29,14,24,3,30,22,20,15,25,17,4,8,31,27,13,23,21,19,16,7,26,12,18,6,11,5,10,9]
theorem qfB:Pg.cellsOf 247=32:=by kernel_rfl
def Aq:List Int:=[0,1,56,2,57,49,28,3,61,58,42,50,38,29,17,4,62,47,59,36,45,43,51,22,53,39,33,30,24,18,12,5,63,55,48,27,60,41,37,16,46,35,44,21,52,32,23,11,54,26,40,15,34,20,31,10,25,14,19,9,13,8,7,6]
theorem qfC:Pg.cellsOf 248=64:=by kernel_rfl
def Ud:ah:=[100,101,102,32]
def Ju:ah:=[114,101,102,108,101,99,116,32]
def Lj:ah:=[97,115,115,117,109,101,32]
def iF:ah:=[32,40]
def ax:ah:=[44,32]
def bA:ah:=[41]
def aS:ah:=[32,58,32]
def ce:ah:=[32]
def Qs:ah:=[60]
def Lg:ah:=[73,110,116]
def EG:ah:=[66,111,111,108]
def EH:ah:=[67,101,108,108]
def eC:ah:=[116,114,117,101]
def tP:ah:=[60,61,62]
def EI:ah:=[61,62]
def Bf:ah:=[124,124]
def Bd:ah:=[38,38]
def Uc:ah:=[61]
def gT:ah:=[33,61]
def Be:ah:=[60,61]
def Qr:ah:=[43]
def pj:ah:=[45]
def Qq:ah:=[42]
def cd:ah:=[40]
def Lh:ah:=[63]
def rh:ah:=[33]
def cX:ah:=[32,45,62,32]
def dB:ah:=[123,118,32,58,32]
def tO:ah:=[32,60]
def ed:ah:=[118,46,32]
def EJ:ah:=[62]
def aR:ah:=[41,32,45,62,32]
def fM:ah:=[32,124,32]
def C0:ah:=[125]
def dY:ah:=[32,61,32]
def Li:ah:=[91]
def EK:ah:=[93]
def mg:ah:=[102,117,110,32,40]
def tQ:ah:=[108,101,116,32]
def cP:ah:=[32,105,110,32]
def Ct:ah:=[105,102,32]
def fF:ah:=[32,116,104,101,110,32]
def fE:ah:=[32,101,108,115,101,32]
def rV:ah:=[99,97,115,101,32]
def dG:ah:=[32,111,102,32,123,32]
def ey:ah:=[59,32]
def gS:ah:=[32,125]
def xP:ah:=[117,115,101,32]
def Ll:ah:=[110,101,119]
def Lk:ah:=[103,101,116]
def Lm:ah:=[115,101,116]
def oz:ah:=[59,10]
def eR:ah:=[102,97,108,115,101]
def qaW:ah:=[61,61]
def qgf:ah:=[100,105,118]
def qgg:ah:=[109,111,100]
def GE:List (Nat×List PVal):=[(0,iz.map PVal.str),(1,dj.map PVal.str),(2,km.map (PVal.int .u64)),(4,Ap.map (PVal.int .u8)),(5,Aq.map (PVal.int .u8))]
abbrev OV(f:FuncId)(args:List PVal){R:Type}(o:Option R)(res:R->PVal)(ro:List (Nat×TypeId)):Prop:=qeX Pg GE f args o res ro
abbrev OG(f:FuncId)(args:List PVal)(oa:List ((Nat×Nat)×TypeId))(H:List aB){R:Type}(o:Option R)(res:R->PVal)(ro:List (Nat×TypeId))(H':R->List aB):Prop:=qgh Pg GE f args oa H o res ro H'
abbrev OJ(m:Nat)(c:Code){X:Type}(o:Option X)(e:Exit)(so:X->aF)(st:aF):Prop:=qhw Pg GE m c o e so st
abbrev OK(m:Nat)(c:Code){X:Type}(o:Option X)(ex:X->Exit)(so:X->aF)(st:aF):Prop:=qhx Pg GE m c o ex so st
abbrev OL(m:Nat)(c:Code){σ X:Type}(o:Option (σ⊕X))(S:σ->aF)(ex:X->Exit)(so:X->aF)(st:aF):Prop:=qeW Pg GE m c o S ex so st
abbrev waA:=List ah
abbrev waB:=List ae
abbrev waC:=List af
abbrev waD:=List aa
abbrev waE:=List cf
theorem S3:∀n,(∀l,Sh Pg n 28 l->∃x,l=ac x):=by
 intro n
 induction n using Nat.strongRecOn with
 | ind n ih =>
  cases n with
  |zero=>exact λl h=>h.elim
  | succ n =>
   exact λl h=>by
    unfold Sh at h
    rw[underlying28]at h
    obtain⟨a0,b0,rfl,_,h0,a1,b1,rfl,_,h1,a2,b2,rfl,_,h2,a3,b3,rfl,_,h3,rfl⟩:=h
    obtain⟨x0,rfl⟩:=(Zk underlying25) n _ h0
    obtain⟨x1,rfl⟩:=(UJ underlying9) n _ h1
    obtain⟨x2,rfl⟩:=(Zk underlying3) n _ h2
    obtain⟨x3,rfl⟩:=S1 underlying26 (c:=ac) (λm hm=>(ih m (by omega))) _ h3
    exact⟨(⟨x0,x1,x2,x3⟩:aa),by rw[bU];rfl⟩
theorem Ik:∀n,(∀l,Sh Pg n 30 l->∃x,l=aj x):=by
 intro n
 induction n using Nat.strongRecOn with
 | ind n ih =>
  cases n with
  |zero=>exact λl h=>h.elim
  | succ n =>
   exact λl h=>by
    unfold Sh at h
    rw[underlying30]at h
    obtain⟨a0,b0,rfl,_,h0,a1,b1,rfl,_,h1,a2,b2,rfl,_,h2,a3,b3,rfl,_,h3,a4,b4,rfl,_,h4,a5,b5,rfl,_,h5,rfl⟩:=h
    obtain⟨x0,rfl⟩:=(Zk underlying22) n _ h0
    obtain⟨x1,rfl⟩:=(UJ underlying9) n _ h1
    obtain⟨x2,rfl⟩:=S1 underlying23 (c:=aj) (λm hm=>(ih m (by omega))) _ h2
    obtain⟨x3,rfl⟩:=(Zl underlying24 (UJ underlying9)) n _ h3
    obtain⟨x4,rfl⟩:=S3 n _ h4
    obtain⟨x5,rfl⟩:=(Zl underlying26 S3) n _ h5
    exact⟨(⟨x0,x1,x2,x3,x4,x5⟩:ae),by rw[cR];(try simp only[bU]);rfl⟩
theorem Xi:∀n,(∀l,Sh Pg n 114 l->∃x,l=bj x):=by
 intro n
 induction n using Nat.strongRecOn with
 | ind n ih =>
  cases n with
  |zero=>exact λl h=>h.elim
  | succ n =>
   exact λl h=>by
    unfold Sh at h
    rw[underlying114]at h
    obtain⟨a0,b0,rfl,_,h0,a1,b1,rfl,_,h1,rfl⟩:=h
    obtain⟨x0,rfl⟩:=(UJ underlying9) n _ h0
    obtain⟨x1,rfl⟩:=Ik n _ h1
    exact⟨(⟨x0,x1⟩:cc),by rw[my];(try simp only[cR]);(try simp only[bU]);rfl⟩
theorem Rg:∀n,(∀l,Sh Pg n 36 l->∃x,l=ag x)/\(∀l,Sh Pg n 116 l->∃x,l=bw x):=by
 intro n
 induction n using Nat.strongRecOn with
 | ind n ih =>
  cases n with
  |zero=>exact⟨λl h=>h.elim,λl h=>h.elim⟩
  | succ n =>
   exact⟨(λl h=>by
    unfold Sh at h
    rw[underlying36]at h
    obtain⟨a0,b0,rfl,_,h0,a1,b1,rfl,_,h1,a2,b2,rfl,_,h2,a3,b3,rfl,_,h3,a4,b4,rfl,_,h4,a5,b5,rfl,_,h5,a6,b6,rfl,_,h6,rfl⟩:=h
    obtain⟨x0,rfl⟩:=(Zk underlying31) n _ h0
    obtain⟨x1,rfl⟩:=(UJ underlying9) n _ h1
    obtain⟨x2,rfl⟩:=(Zk underlying3) n _ h2
    obtain⟨x3,rfl⟩:=S1 underlying32 (c:=ag) (λm hm=>(ih m (by omega)).1) _ h3
    obtain⟨x4,rfl⟩:=(Zl underlying33 Xi) n _ h4
    obtain⟨x5,rfl⟩:=S1 underlying34 (c:=bw) (λm hm=>(ih m (by omega)).2) _ h5
    obtain⟨x6,rfl⟩:=(Zl underlying23 Ik) n _ h6
    exact⟨(⟨x0,x1,x2,x3,x4,x5,x6⟩:af),by rw[bR];rfl⟩),(λl h=>by
    unfold Sh at h
    rw[underlying116]at h
    obtain⟨a0,b0,rfl,_,h0,a1,b1,rfl,_,h1,a2,b2,rfl,_,h2,rfl⟩:=h
    obtain⟨x0,rfl⟩:=(UJ underlying9) n _ h0
    obtain⟨x1,rfl⟩:=(Zl underlying24 (UJ underlying9)) n _ h1
    obtain⟨x2,rfl⟩:=(ih n (vcA n)).1 _ h2
    exact⟨(⟨x0,x1,x2⟩:cf),by rw[si];(try simp only[bR]);rfl⟩)⟩
theorem S2:In Pg 36 ag:=λn=>(Rg n).1
open Go
theorem cW{n:Int}(h1: -9223372036854775808<=n)(h2:n<9223372036854775808):dU n=n:=qeH h1 h2
theorem aM{α:Type}(l:List α)(i:Nat)(h:i<l.length):dh l (i:Int)=some l[i]:=by
 unfold dh
 rw[vad (by omega)]
 simp[h]
theorem lO(l:ah)(i:Nat)(h:i<l.length):jF l (i:Int)=some ((l[i].toNat:Int)):=by
 unfold jF;rw[aM l i h];rfl
theorem oW(c:UInt8)(l:ah):jF (c::l) 0=some (c.toNat:Int):=by
 have:=lO (c::l) 0 (by simp)
 simpa using this
theorem ep{α:Type}(c:α)(l:List α):dh (c::l) 0=some c:=by
 have:=aM (c::l) 0 (by simp)
 simpa using this
theorem qaN{α:Type}(l:List α)(i:Nat)(h:i<=l.length):Sa l none (some (i:Int))=some (l.take i):=by
 simp[Sa,bd,h]
theorem Ey{α:Type}(l:List α)(i:Nat)(h:i<=l.length):Sa l (some (i:Int)) none=some (l.drop i):=by
 simp[Sa,bd,h]
theorem pK{α:Type}{l r:List α}(h:l.length+r.length<=1073741824):app l r=some (l++r):=vad h
theorem wn{σ X:Type}{body:σ->Option (σ⊕X)}{s s':σ}(h:body s=some (.inl s')):loop body s=loop body s':=by rw[jh,h]
theorem ik{σ X:Type}{body:σ->Option (σ⊕X)}{s:σ}{x:X}(h:body s=some (.inr x)):loop body s=some x:=by rw[jh,h]
def qq{α σ X:Type}(f:Nat->α->σ->σ⊕X)(e:σ->X):List α->Nat->σ->X
 |[],_,s=>e s
 |x::r,i,s=>match f i x s with
  |.inl s'=>qq f e r (i+1) s'
  |.inr y=>y
theorem wY{α σ τ X:Type}(l:List α)(hl:l.length<9223372036854775808)(mk:Int->σ->τ)(body:τ->Option (τ⊕X))(I:Nat->σ->Prop)(f:Nat->α->σ->σ⊕X)(e:σ->X)
  (hin:∀(i:Nat) (h:i<l.length) s,I i s->body (mk i s)=some (match f i l[i] s with|.inl s'=>.inl (mk (dU ((i:Int)+1)) s')|.inr y=>.inr y)/\∀s',f i l[i] s=.inl s'->I (i+1) s')
  (hend:∀s,I l.length s->body (mk l.length s)=some (.inr (e s))):∀(i:Nat) (s:σ),i<=l.length->I i s->loop body (mk i s)=some (qq f e (l.drop i) i s):=by
 intro i s hi hI
 obtain⟨k,hk⟩:∃k,k+i=l.length:=⟨l.length - i,by omega⟩
 induction k generalizing i s with
 |zero=>
  have:i=l.length:=by omega
  subst this
  rw[jh,hend s hI,vbN]
  rfl
 | succ k ih =>
  have hlt:i<l.length:=by omega
  obtain⟨h1,h2⟩:=hin i hlt s hI
  rw[jh,h1,vaI hlt]
  unfold qq
  cases hf:f i l[i] s with
  |inl s'=>
   simp only
   rw[cW (by omega) (by omega)]
   have:=ih (i+1) s' (by omega) (h2 s' hf) (by omega)
   rw[show((i:Int)+1)=((i+1:Nat):Int) by omega]
   exact this
  |inr y=>rfl
theorem TX{α X:Type}(p:α->Bool)(y e:X):∀(l:List α) (i:Nat),qq (λ_ x (_:Unit)=>if p x=true then Sum.inr y else .inl ()) (λ_=>e) l i ()=if l.any p=true then y else e
 |[],i=>by simp[qq]
 | x :: l,i => by
  have ih:=TX p y e l (i+1)
  unfold qq
  by_cases h:p x=true
  ·simp[h]
  ·simp only[h,if_false,ih,List.any_cons,vb1,vaD]
theorem kn{α X:Type}(l:List α)(hl:l.length<9223372036854775808)(body:Int->Option (Int⊕X))(p:α->Bool)(y e:X)
  (hin:∀(i:Nat) (h:i<l.length),body i=some (if p l[i]=true then .inr y else .inl (dU ((i:Int)+1)))) (hend:body l.length=some (.inr e)) (i:Nat) (hi:i<=l.length):
  loop body (i:Int)=some (if(l.drop i).any p=true then y else e):=by
 have:=wY l hl (λi (_:Unit)=>i) body (λ_ _=>True) (λ_ x _=>if p x=true then Sum.inr y else .inl ()) (λ_=>e) (λi h s _=>⟨?_,λ_ _=>trivial⟩) (λs _=>hend) i () hi vzz
 ·rw[this,TX]
 ·rw[hin i h]
  by_cases hp:p l[i]=true<;>simp[hp]
theorem Qf{α X:Type}(p:α->Bool)(y:Nat->X)(e:X):∀(l:List α) (i:Nat),qq (λj x (_:Unit)=>if p x=true then Sum.inr (y j)else .inl ()) (λ_=>e) l i ()=match l.findIdx? p with|some j=>y (i+j)|none=>e
 |[],i=>by simp[qq]
 | x :: l,i => by
  have ih:=Qf p y e l (i+1)
  unfold qq
  rw[vcY]
  by_cases h:p x=true
  ·simp[h]
  ·simp only[h,if_false,ih,vaD]
   cases l.findIdx? p with
   |none=>rfl
   |some j=>simp only[vaj];congr 1;omega
theorem PW{α X:Type}(l:List α)(hl:l.length<9223372036854775808)(body:Int->Option (Int⊕X))(p:α->Bool)(y:Nat->X)(e:X)
  (hin:∀(i:Nat) (h:i<l.length),body i=some (if p l[i]=true then .inr (y i)else .inl (dU ((i:Int)+1)))) (hend:body l.length=some (.inr e)):
  loop body (0:Int)=some (match l.findIdx? p with|some j=>y j|none=>e):=by
 have:=wY l hl (λi (_:Unit)=>i) body (λ_ _=>True) (λj x _=>if p x=true then Sum.inr (y j)else .inl ()) (λ_=>e) (λi h s _=>⟨?_,λ_ _=>trivial⟩) (λs _=>hend) 0 () (vaX _) trivial
 ·simp only[Int.ofNat_zero,vbc]at this
  have this2:=Qf p y e l 0
  simp only[vaT]at this2
  rw[<-this2]
  exact this
 ·rw[hin i h]
  by_cases hp:p l[i]=true<;>simp[hp]
def gu{α:Type}(o:Option α)(Q:α->Prop):Prop:=∃a,o=some a/\Q a
section
variable{α β σ τ X Y:Type}
theorem am{a:α}{Q:α->Prop}(h:Q a):gu (some a) Q:=⟨a,rfl,h⟩
theorem Vg{o:Option α}{a:α}{Q:α->Prop}(e:o=some a)(h:Q a):gu o Q:=⟨a,e,h⟩
theorem qaS{o:Option α}{f:α->Option β}{Q:β->Prop}(h:gu o (λa=>gu (f a) Q)):gu (o.bind f) Q:=by
 obtain⟨a,rfl,h⟩:=h
 exact h
theorem aA{o:Option α}{f:α->Option β}{R:α->Prop}{Q:β->Prop}(h:gu o R)(h':∀a,R a->gu (f a) Q):gu (o.bind f) Q:=by
 obtain⟨a,rfl,h⟩:=h
 exact h' a h
theorem dJ{o:Option α}{a:α}{f:α->Option β}{Q:β->Prop}(e:o=some a)(h:gu (f a) Q):gu (o.bind f) Q:=by
 rw[e];exact h
theorem gu.mono{o:Option α}{Q R:α->Prop}(h:gu o Q)(h':∀a,Q a->R a):gu o R:=by
 obtain⟨a,e,h⟩:=h
 exact⟨a,e,h' a h⟩
theorem aD{c:Prop}[Decidable c]{a b:Option α}{Q:α->Prop}(h1:c->gu a Q)(h2:¬c->gu b Q):gu (if c then a else b) Q:=by
 by_cases h:c
 ·rw[vad h];exact h1 h
 ·rw[vab h];exact h2 h
theorem qcF{o:Option α}{a:α}:gu o (λx=>x=a)↔o=some a:=by
 constructor
 ·rintro⟨x,e,rfl⟩;exact e
 ·intro e;exact⟨a,e,rfl⟩
theorem tN{F:(X->Option Y)->X->Option Y}(μ:X->Nat)(P:X->Prop)(Q:X->Y->Prop)(h:∀(R:X->Option Y) x,P x->(∀y,μ y<μ x->P y->gu (R y) (Q y))->gu (F R x) (Q x))(x:X)(hx:P x)(hm:μ x<Uo):gu (oE F x) (Q x):=by
 have key:∀n x,μ x<n->P x->gu (qcX F n x) (Q x):=by
  intro n
  induction n with
  |zero=>intro x hx;omega
  |succ n ih=>intro x hx hq;exact h _ x hq λy hy hqy=>ih y (by omega) hqy
 exact key _ x hm hx
theorem Fq(l:List α)(hl:l.length<9223372036854775808)(mk:Int->σ->τ){body:τ->Option (τ⊕X)}(I:Nat->σ->Prop){Q:X->Prop}
  (hin:∀(i:Nat) (h:i<l.length) s,I i s->gu (body (mk i s)) (λr=>match r with|.inl t=>∃s',t=mk (dU ((i:Int)+1)) s'/\I (i+1) s'|.inr y=>Q y))
  (hend:∀s,I l.length s->gu (body (mk l.length s)) (λr=>match r with|.inl _=>False|.inr y=>Q y)):∀s,I 0 s->gu (loop body (mk 0 s)) Q:=by
 have key:∀k i s,k+i=l.length->I i s->gu (loop body (mk (i:Int) s)) Q:=by
  intro k
  induction k with
  |zero=>
   intro i s hi hI
   have:i=l.length:=by omega
   subst this
   obtain⟨r,e,hr⟩:=hend s hI
   rw[jh,e]
   cases r with
   |inl _=>exact hr.elim
   |inr y=>exact⟨y,rfl,hr⟩
  | succ k ih =>
   intro i s hi hI
   obtain⟨r,e,hr⟩:=hin i (by omega) s hI
   rw[jh,e]
   cases r with
   |inl t=>
    obtain⟨s',rfl,hI'⟩:=hr
    simp only
    rw[cW (by omega) (by omega),show((i:Int)+1)=((i+1:Nat):Int) by omega]
    exact ih (i+1) s' (by omega) hI'
   |inr y=>exact⟨y,rfl,hr⟩
 exact λs hs=>key l.length 0 s (by omega) hs
end
section
variable{α β σ τ X Y:Type}
theorem UM(l:List α)(hl:l.length<9223372036854775808)(mk:Int->σ->τ)(body:τ->Option (τ⊕X))(k:Int->σ->α->Option (τ⊕X))(I:Nat->σ->Prop)(g:α->σ->σ)(e:σ->X)(s0:σ)(h0:I 0 s0)
  (hb:∀(i:Int) (s:σ),body (mk i s)=if decide (i<(l.length:Int))=true then(dh l i).bind (k i s)else some (.inr (e s)))
  (hin:∀(i:Nat) (h:i<l.length) s,I i s->k i s l[i]=some (.inl (mk (dU ((i:Int)+1)) (g l[i] s)))/\I (i+1) (g l[i] s)):loop body (mk 0 s0)=some (e (l.foldl (λs x=>g x s) s0)):=by
 have:=wY l hl mk body I (λ_ x s=>.inl (g x s)) e (λi h s hs=>⟨?_,λs' hs'=>by cases hs';exact(hin i h s hs).2⟩) (λs hs=>by rw[hb,vab (by simp)]) 0 s0 (vaX _) h0
 ·rw[vbc,show((0:Nat):Int)=0 from rfl]at this
  rw[this]
  have key:∀(l:List α) (i:Nat) (s:σ),qq (λ_ x (s:σ)=>(Sum.inl (g x s):σ⊕X)) e l i s=e (l.foldl (λs x=>g x s) s):=by
   intro l
   induction l with
   |nil=>intro i s;rfl
   |cons x l ih=>intro i s;unfold qq;simp only;rw[ih];rfl
  rw[key]
 ·rw[hb,vad (by simp;omega),aM l i h]
  simp only[vaa]
  exact(hin i h s hs).1
theorem Qm(l:List α)(hl:l.length<9223372036854775808)(mk:Int->σ->τ){body:τ->Option (τ⊕X)}(k:Int->σ->α->Option (τ⊕X))(e:σ->X)(I:Nat->σ->Prop){Q:X->Prop}
  (hb:∀(i:Int) (s:σ),body (mk i s)=if decide (i<(l.length:Int))=true then(dh l i).bind (k i s)else some (.inr (e s)))
  (hin:∀(i:Nat) (h:i<l.length) s,I i s->gu (k i s l[i]) (λr=>match r with|.inl t=>∃s',t=mk (dU ((i:Int)+1)) s'/\I (i+1) s'|.inr y=>Q y))
  (hend:∀s,I l.length s->Q (e s)):∀s,I 0 s->gu (loop body (mk 0 s)) Q:=
 Fq l hl mk I (λi h s hs=>by
  rw[hb,vad (by simp;omega),aM l i h]
  exact hin i h s hs) (λs hs=>by
  rw[hb,vab (by simp)]
  exact⟨_,rfl,hend s hs⟩)
theorem Yi(l:List α)(hl:l.length<9223372036854775808){body:Int->Option (Int⊕X)}(k:Int->α->Option (Int⊕X))(e:X)(I:Nat->Prop){Q:X->Prop}
  (hb:∀(i:Int),body i=if decide (i<(l.length:Int))=true then(dh l i).bind (k i)else some (.inr e))
  (hin:∀(i:Nat) (h:i<l.length),I i->gu (k i l[i]) (λr=>match r with|.inl t=>t=dU ((i:Int)+1)/\I (i+1)|.inr y=>Q y))
  (hend:I l.length->Q e) (h0:I 0):gu (loop body 0) Q:=
 Qm l hl (λi (_:Unit)=>i) (λi _=>k i) (λ_=>e) (λi _=>I i) (λi _=>hb i) (λi h s hs=>(hin i h hs).mono λr hr=>by
  cases r with
  |inl t=>exact⟨(),hr.1,hr.2⟩
  |inr y=>exact hr) (λ_ h=>hend h) () h0
end
def OM{α:Type}(p:α->α->Bool):List α->List α->Bool
 |[],[]=>true
 |x::a,y::b=>p x y&&OM p a b
 |_,_=>false
theorem Vq{α:Type}[DecidableEq α]:∀{a b:List α},OM (λx y=>decide (x=y)) a b=decide (a=b)
 |[],[]=>by simp[OM]
 |x::a,y::b=>by
  rw[OM,Vq]
  by_cases h1:x=y<;>by_cases h2:a=b<;>simp[h1,h2]
 |[],y::b=>by simp[OM]
 |x::a,[]=>by simp[OM]
theorem Sz{α:Type}{p:α->α->Bool}:∀{a b:List α},a.length=b.length->(a.zip b).any (λx=>!p x.1 x.2)= !OM p a b
 |[],[],_=>rfl
 |x::a,y::b,h=>by
  rw[List.zip_cons_cons,List.any_cons,Sz (by simpa using h),OM]
  cases p x y<;>rfl
theorem Xr{α X:Type}{a b:List α}(hl:a.length=b.length)(ha:a.length<9223372036854775808)(body:Int->Option (Int⊕X))(k:Int->α->α->Option (Int⊕X))(p:α->α->Bool)(y e:X)
  (hb:∀(i:Int),body i=if decide (i<(a.length:Int))=true then(dh a i).bind (λx=>(dh b i).bind (k i x))else some (.inr e))
  (hk:∀x∈a,∀z∈b,∀i,k i x z=some (if p x z=true then .inl (dU (i+1))else .inr y)):loop body 0=some (if OM p a b=true then e else y):=by
 have hz:(a.zip b).length=a.length:=by simp[hl]
 have:=kn (a.zip b) (by omega) body (λx=>!p x.1 x.2) y e (λi h=>?_) (by rw[hb,vab (by simp[hz])]) 0 (vaX _)
 ·rw[vbc,Sz hl]at this
  rw[show((0:Nat):Int)=0 from rfl]at this
  rw[this]
  by_cases h:OM p a b=true<;>simp[h]
 ·have h1:i<a.length:=by omega
  have h2:i<b.length:=by omega
  rw[hb,vad (by simp;omega),aM a i h1]
  simp only[vaa]
  rw[aM b i h2]
  simp only[vaa]
  rw[hk _ (vah h1) _ (vah h2)]
  have hzi:(a.zip b)[i]=(a[i],b[i]):=by simp
  rw[hzi]
  by_cases h:p a[i] b[i]=true<;>simp[h]
abbrev QE(GE:List (Nat×List PVal))(Γ:bp)(w:World):tS:=⟨GE,Γ,w,λ_=>False⟩
structure Qw(GE:List (Nat×List PVal))(Γ:bp)(w:World):Prop where
 wi:∀b n,Γ b=some n->∃c t fr,w.heap[b]? =some (.cells c t fr)/\n<=c.size
 gl:∀g cs,(g,cs)∈GE->VR Γ [] w (.eptr cs) (.pointer (some ⟨g,0,none⟩))
 gc:∀g cs,(g,cs)∈GE->iG 0 cs
 gx:∀g cs,(g,cs)∈GE->g<w.heap.size/\∃c t fr,w.heap[g]? =some (.cells c t fr)/\c.size=cs.length
theorem VR.clo{Γ:bp}{bs bs':bG}{w:World}{p:PVal}{v:Value}(h:VR Γ bs w p v)(hc:p.cl 0):VR Γ bs' w p v:=h.restrict (n:=0) hc λi b hi _=>absurd hi (va5 _)
section
variable{P:Program}{E:tS}{Γ:bp}{bs:bG}{ow:Nat->Option mh}{w:World}{a:Array Value}{st:aF}
theorem SR.base(h:SR P E Γ bs ow w a st):Qw E.GE Γ w where
 wi:=h.wi
 gl:=λg cs hg=>(h.gl g cs hg).clo (by simp only[PVal.cl];exact h.gc g cs hg)
 gc:=h.gc
 gx:=λg cs hg=>⟨(h.gnow hg).1,(h.gnow hg).2.2.2⟩
theorem Qw.good{GE:List (Nat×List PVal)}(hB:Qw GE Γ w):Mx GE 0 (QE GE Γ w) where
 ge:=rfl
 low:=λb n h=>by obtain⟨c,t,fr,h1,_⟩:=hB.wi b n h;exact(vao.1 h1).1
 nt:=λ_ _ hb=>hb
 gl:=hB.gl
theorem Qw.fresh{GE:List (Nat×List PVal)}(hB:Qw GE Γ w)(k:Nat){tmps:List PVal}(hs:a.size=tmps.length)(hv:∀(t:Nat) p v,tmps[t]? =some p->a[t]? =some v->VR Γ [] w p v):SR P (QE GE Γ w) Γ (List.replicate k none) (λ_=>none) w a ⟨tmps,List.replicate k .dead,[]⟩:=by
 have hno:∀(i b:Nat),(List.replicate k (none:Option Nat))[i]? =some (some b)->False:=λi b h=>by
  rw[va8]at h
  split at h<;>simp at h
 exact{
  wi:=hB.wi
  sz:=hs
  tm:=λt p v hp hv'=>(hv t p v hp hv').mono (.refl _ _) (λi b h=>by simp at h)
  bl:=by simp
  bx:=λi b B hb=>(hno i b hb).elim
  inj:=λi j b hb=>(hno i b hb).elim
  bn:=λi b hb=>(hno i b hb).elim
  on:=λb L hL=>by cases hL
  ot:=λt k e he=>by simp at he
  ob:=λi j e cs own b _ _ hb=>(hno i b hb).elim
  gl:=λg cs hg=>(hB.gl g cs hg).mono (.refl _ _) (λi b h=>by simp at h)
  gc:=hB.gc
  gx:=λg cs hg=>⟨(hB.gx g cs hg).1,λh=>h,(hB.gx g cs hg).2⟩
  step:=.refl _ _ _ _}
theorem SR.again(h:SR P E Γ bs ow w a st)(hc:iG 0 st.tmps){GE:List (Nat×List PVal)}{Γ':bp}{w':World}(hB:Qw GE Γ' w')(hle:Γ.Le w Γ' w')(k:Nat):SR P (QE GE Γ' w') Γ' (List.replicate k none) (λ_=>none) w' a ⟨st.tmps,List.replicate k .dead,[]⟩:=
 hB.fresh k h.sz λt p v hp hv=>((h.tm t p v hp hv).clo (pN hc hp)).mono hle (.refl _)
theorem SR.aside(h:SR P E Γ bs ow w a st){GE:List (Nat×List PVal)}{Γ':bp}{bs':bG}{ow':Nat->Option mh}{w':World}{a':Array Value}{st':aF}(h':SR P (QE GE Γ w) Γ' bs' ow' w' a' st'):SR P E Γ' bs ow w' a st:=
 h.world (λ_=>False) h'.step.le h'.wi h'.step.os h'.step.tape h'.step.output h'.step.size (λb hb _=>h'.step.keep b hb id) (λ_ hx=>hx.elim) (λ_ _ _ hx=>hx) (λ_ _ _ hx=>hx) h'.step.drawn
theorem SR.putOther(h:SR P E Γ bs ow w a st){l:Nat}{o:Obj}(hT:¬bJ bs ow l)(hE:E.T l\/E.w.heap.size<=l)(ho:∀c t fr,w.heap[l]? ≠some (.cells c t fr)):SR P E Γ bs ow (w.putObj l o) a st/\Γ.Le w Γ (w.putObj l o):=by
 have hg:∀b n,Γ b=some n->b≠l:=λb n hb e=>by
  obtain⟨c,t,fr,h1,_⟩:=h.wi b n hb
  exact ho c t fr (e▸h1)
 have hle:Γ.Le w Γ (w.putObj l o):=λb n hb _=>⟨n,hb,vaw _,λk _=>cK (World.putObj_heap_other (hg b n hb)) k⟩
 refine⟨h.world (λb=>b=l) hle (λb n hb=>?_) rfl rfl rfl (by simp) (λb _ hb=>⟨World.putObj_heap_other hb,rfl⟩) (λb hb=>hb▸hE) (λi b hb e=>hT (.inl ⟨i,e▸hb⟩)) (λb L hL e=>hT (.inr (by rw[<-e,hL];simp))),hle⟩
 obtain⟨c,t,fr,h1,h2⟩:=h.wi b n hb
 exact⟨c,t,fr,(World.putObj_heap_other (hg b n hb)).trans h1,h2⟩
theorem SR.rebase(h:SR P E Γ bs ow w a st):SR P ⟨E.GE,Γ,w,bJ bs ow⟩ Γ bs ow w a st:=
 { h with
  bn:=λi b hb=>.inl (.inl ⟨i,hb⟩)
  on:=λb L hL=>⟨(h.on b L hL).1,.inl (.inr (by rw[hL];simp))⟩
  gx:=λg cs hg=>by
   obtain⟨k1,k2,k3,k4⟩:=h.gnow hg
   refine⟨k1,λhT=>?_,k4⟩
   rcases hT with⟨i,hi⟩|hT
   ·exact k2 i g hi rfl
   ·exact hT k3
  step:=.refl _ _ _ _}
theorem SR.touchE(h:SR P E Γ bs ow w a st){b:Nat}(hb:bJ bs ow b):E.T b\/E.w.heap.size<=b:=by
 rcases hb with⟨i,hi⟩|hb
 ·exact h.bn i b hi
 ·cases hL:ow b with
  |none=>exact absurd hL hb
  |some L=>exact(h.on b L hL).2
theorem SR.unbase(h:SR P E Γ bs ow w a st){Γ':bp}{bs':bG}{ow':Nat->Option mh}{w':World}{a':Array Value}{st':aF}(h':SR P ⟨E.GE,Γ,w,bJ bs ow⟩ Γ' bs' ow' w' a' st'):SR P E Γ' bs' ow' w' a' st':=by
 have hT:∀b,bJ bs ow b\/w.heap.size<=b->E.T b\/E.w.heap.size<=b:=λb hb=>hb.elim h.touchE λhb=>.inr (vau h.step.size hb)
 exact{h' with
  bn:=λi b hb=>hT b (h'.bn i b hb)
  on:=λb L hL=>⟨(h'.on b L hL).1,hT b (h'.on b L hL).2⟩
  gx:=h.gx
  step:={
   os:=h'.step.os.trans h.step.os
   tape:=h'.step.tape.trans h.step.tape
   output:=h'.step.output.trans h.step.output
   size:=vau h.step.size h'.step.size
   drawn:=vau h.step.drawn h'.step.drawn
   keep:=λb hb hTb=>by
    have hlt:b<w.heap.size:=vaU hb h.step.size
    have hn:¬bJ bs ow b:=λhx=>(h.touchE hx).elim hTb λhx=>absurd hx (vcq.2 hb)
    obtain⟨k1,k2⟩:=h'.step.keep b hlt hn
    obtain⟨q1,q2⟩:=h.step.keep b hb hTb
    exact⟨k1.trans q1,k2.trans q2⟩
   le:=h.step.le.trans h'.step.le}}
theorem d6.on{m:Nat}{c:Code}{Q:Exit->aF->Prop}(hS:d6 P E.GE m c Q st)(hm:m≠0)(h:SR P E Γ bs ow w a st)(hl:m % 1000<=bs.length)(ro:Option Nat)(ds:List Deferred):PH ro P c (λe a' w'=>a'.defers=ds/\∃Γ' bs' ow' st',SR P E Γ' bs' ow' w' a'.tmps st'/\Q e st'/\(∀i:Nat,i<m % 1000->bs'[i]? =bs[i]?)/\Γ.Le w Γ' w'/\w.heap.size<=w'.heap.size/\
   ∀b,b<w.heap.size->¬bJ bs ow b->w'.heap[b]? =w.heap[b]?/\¬bJ bs' ow' b) ⟨a,ds⟩ w:=by
 have hE:Mx E.GE m ⟨E.GE,Γ,w,bJ bs ow⟩:={
  ge:=rfl
  low:=λb n hb=>h.lt_of_ghost hb
  nt:=λh0=>absurd h0 hm
  gl:=h.base.gl}
 have hlen:(bs.take (m % 1000)).length=m % 1000:=by simp;omega
 refine pO (hS ro ⟨E.GE,Γ,w,bJ bs ow⟩ (bs.take (m % 1000)) ⟨a,ds⟩ w hE hlen ⟨Γ,bs,ow,h.rebase,λi hi=>?_⟩) λe a' w' hq=>?_
 ·rw[vaH (by omega)]
 obtain⟨hd,st',⟨Γ',bs',ow',h',hk⟩,hQ⟩:=hq
 refine⟨hd,Γ',bs',ow',st',h.unbase h',hQ,λi hi=>?_,h'.step.le,h'.step.size,λb hb hT=>⟨(h'.step.keep b hb hT).1,λhx=>?_⟩⟩
 ·rw[hk i (by omega),vaH hi]
 ·exact(h'.touchE hx).elim hT λhx=>absurd hx (vcq.2 hb)
theorem d6.wide{GE:List (Nat×List PVal)}{c:Code}{Q:Exit->aF->Prop}{st0:aF}(hS:d6 P GE 0 c Q st0)(hB:Qw GE Γ w){ow:Nat->Option mh}{bs:bG}(h:SR P (QE GE Γ w) Γ bs ow w a st0)(n:Nat)(ds:List Deferred):c.wpIn Fence.wide n P (λe a' w'=>a'.defers=ds/\∃Γ' bs' ow' st',SR P (QE GE Γ w) Γ' bs' ow' w' a'.tmps st'/\Q e st') ⟨a,ds⟩ w:=
 wpIn_wide.2 (wp_mono (hS none (QE GE Γ w) [] ⟨a,ds⟩ w hB.good rfl ⟨Γ,bs,ow,h,λi hi=>absurd hi (va5 _)⟩) λe a' w' hq=>by
  obtain⟨hd,st',⟨Γ',bs',ow',h',_⟩,hQ⟩:=hq
  exact⟨hd,Γ',bs',ow',st',h',hQ⟩)
theorem d6.wideE{GE:List (Nat×List PVal)}{c:Code}{Q:Exit->aF->Prop}(hS:d6 P GE 0 c Q st)(hE:Mx GE 0 E)(h:SR P E Γ bs ow w a st)(n:Nat)(ds:List Deferred):c.wpIn Fence.wide n P (λe a' w'=>a'.defers=ds/\∃Γ' bs' ow' st',SR P E Γ' bs' ow' w' a'.tmps st'/\Q e st') ⟨a,ds⟩ w:=
 wpIn_wide.2 (wp_mono (hS none E [] ⟨a,ds⟩ w hE rfl ⟨Γ,bs,ow,h,λi hi=>absurd hi (va5 _)⟩) λe a' w' hq=>by
  obtain⟨hd,st',⟨Γ',bs',ow',h',_⟩,hQ⟩:=hq
  exact⟨hd,Γ',bs',ow',st',h',hQ⟩)
theorem SR.allocO(h:SR P E Γ bs ow w a st)(o:Obj):SR P E Γ bs ow (w.alloc o) a st/\Γ.Le w Γ (w.alloc o):=by
 have hlt:∀b n,Γ b=some n->b<w.heap.size:=λb n hb=>h.lt_of_ghost hb
 have hle:Γ.Le w Γ (w.alloc o):=λb n hb _=>⟨n,hb,vaw _,λk _=>cK (alloc_old w o (hlt b n hb)) k⟩
 refine⟨h.world (λ_=>False) hle (λb n hb=>?_) rfl rfl rfl (by simp[World.size_alloc]) (λb hb _=>⟨alloc_old w o hb,rfl⟩) (λ_ hx=>hx.elim) (λ_ _ _ hx=>hx) (λ_ _ _ hx=>hx),hle⟩
 obtain⟨c,t,fr,h1,h2⟩:=h.wi b n hb
 exact⟨c,t,fr,(alloc_old w o (hlt b n hb)).trans h1,h2⟩
theorem SR.forgetT(h:SR P E Γ bs ow w a st){tm:List PVal}(hf:PJ st.tmps tm=tm):SR P E Γ bs ow w a {st with tmps:=tm}:=
 { h with
  sz:=by rw[h.sz,<-Q9 (l:=st.tmps) (bs:=tm),hf]
  tm:=λt p v hp hv=>by
   rw[<-hf]at hp
   rcases Q8 hp with rfl|hp'
   ·exact .undef v
   ·exact h.tm t p v hp' hv}
theorem SR.back(h:SR P E Γ bs ow w a st)(ho:st.own=[]){Γ':bp}{bs':bG}{ow':Nat->Option mh}{w':World}{a':Array Value}{st':aF}{H':List aB}(h':SR P E Γ' bs' ow' w' a' st')(hle:Γ.Le w Γ' w')
  (hbs:∀i:Nat,i<bs.length->bs'[i]? =bs[i]?) (hH:dD H'.length st'.boxes H') (hl:H'.length=bs.length):
  ∃ow'',SR P E Γ' bs ow'' w' a {st with boxes:=H'}/\∀b,bJ bs ow'' b->bJ bs' ow' b:=by
 have hf:=h'.finish (H':=H') (v:=undef) (r:=.undef) (src:=λk=>(0,k)) (ro:=[]) (.undef _) trivial hH (λx hx=>by simp at hx) (λx hx=>by simp at hx)
 have hb:bs'.take H'.length=bs:=by
  obtain⟨h1,_⟩:=nq hH
  have h2:H'.length<=bs'.length:=by rw[h'.bl];exact h1
  refine vbh λi=>?_
  by_cases hi:i<H'.length
  ·rw[vaH hi];exact hbs i (by omega)
  ·rw[vcj (by omega),va0 (by omega)]
 rw[hb]at hf
 refine⟨_,{hf with
  sz:=h.sz
  tm:=λt p v hp hv=>(h.tm t p v hp hv).mono hle (.refl _)
  ot:=λt k e he=>by simp only[ho]at he;simp at he},λb hb=>?_⟩
 rcases hb with⟨i,hi⟩|hb
 ·exact .inl ⟨i,(hbs i (aq hi)).trans hi⟩
 ·refine .inr λe=>hb ?_
  simp[Gi,e]
end
section
variable{P:Program}{n:Nat}{a:Act}{w:World}{next:Act->World->Prop}{Q:Exit->Act->World->Prop}
theorem XG{o:Oper}(hd:fw o=true)(h:o.wp P a w next Q):o.wpIn Fence.wide n P a w next Q:=by
 refine⟨λ_ _=>trivial,?_⟩
 have hs:o.semAt (Fence.wide).round a.eval=execOp a.eval o:=Oper.semAt_eq _ _ _ λc hc=>by unfold fw at hd;rw[hc]at hd;cases hd
 rw[hs]
 unfold Oper.wp at h
 generalize (execOp a.eval o).run P w=r at *
 have hdep:(Fence.wide).depth.isSome=true->1<=n:=λh=>by simp[Fence.wide]at h
 cases r with
 | ok x w' =>
  cases x<;>simp only[Oper.upon]at h<;>simp only[Oper.uponIn]<;>first
   |exact h.elim
   |exact h
   |exact⟨hdep,callsIn_wide.2 h⟩
   | exact ⟨hdep,fun c cs _ => by
     obtain⟨v,w',r,s⟩:=h c cs
     exact⟨v,w',r,stepsIn_wide.2 s⟩⟩
 |halt x w'=>cases x<;>simp only[Oper.upon]at h<;>simp only[Oper.uponIn]<;>exact h
theorem WW{o:Oper}{f:Operand}{args:Array Operand}{tys:Array TypeId}(ho:o.op=.call {callee:=.value f,args:=args,argTypes:=tys}){g:FuncId}{fs cs:Array Value}(hf:a.eval f=.func (.func g) fs cs)
  (hc:∀vs w,(callFunc g vs).run P w=.ok (.enter g vs) w) {R:Ending->World->Prop} (h:CallsIn Fence.wide (n - 1) P g (fs++args.map a.eval++cs) w R) (hR:∀e w',R e w'->∃v,e=.returned v/\next (a.put o.dst v) w'):o.wpIn Fence.wide n P a w next Q:=by
 refine⟨λ_ _=>trivial,?_⟩
 have hs:o.semAt (Fence.wide).round a.eval=execOp a.eval o:=Oper.semAt_eq _ _ _ λc hc=>by rw[ho]at hc;cases hc
 have hrun:(execOp a.eval o).run P w=.ok (.enter g (fs++args.map a.eval++cs)) w:=by
  simp[execOp,ho,resolve,hf,Deferred.ofValue,invoke,hc]
 rw[hs,hrun,Oper.uponIn_enter]
 refine⟨λh=>by simp[Fence.wide]at h,h.mono λe w' hr=>?_⟩
 obtain⟨v,rfl,hx⟩:=hR e w' hr
 exact hx
theorem Vl{o:Oper}{f:Operand}{args:Array Operand}{tys:Array TypeId}(ho:o.op=.call {callee:=.value f,args:=args,argTypes:=tys}){l:Nat}(hf:a.eval f=.func (.yield l) #[] #[])
  {R:Ending->World->Prop} (h:YieldAt Fence.wide (n - 1) P l (args.map a.eval) w R) (hR:∀e w',R e w'->∃v,e=.returned v/\next (a.put o.dst v) w'):o.wpIn Fence.wide n P a w next Q:=by
 refine⟨λ_ _=>trivial,?_⟩
 have hs:o.semAt (Fence.wide).round a.eval=execOp a.eval o:=Oper.semAt_eq _ _ _ λc hc=>by rw[ho]at hc;cases hc
 obtain⟨fn,tmps,assign,body,hy,hr⟩:=h
 have hrun:(execOp a.eval o).run P w=.ok (.round l fn tmps assign body) w:=by
  simp[execOp,ho,resolve,hf,Deferred.ofValue,invoke,hy]
 rw[hs,hrun,Oper.uponIn_round]
 refine⟨λh=>by simp[Fence.wide]at h,hr.mono λe w' hr=>?_⟩
 obtain⟨v,rfl,hx⟩:=hR e w' hr
 exact hx
theorem GZ{ops:Array Oper}{i:Nat}{rest:List Nat}{o:Oper}(ho:ops[i]? =some o)(hg:o.guard=none)(h:o.wpIn Fence.wide n P a w (wpOpsIn Fence.wide n P ops Q rest) Q):wpOpsIn Fence.wide n P ops Q (i::rest) a w:=by
 unfold wpOpsIn
 simp only[ho,Region.wanted,hg,if_true]
 exact h
theorem E9{E:tS}{A:List Nat}{ops:Array Oper}{K:aF->Prop}{rest:List Nat}{ds:List Deferred}
  (hK:∀Γ bs ow a w st,SR P E Γ bs ow w a st->K st->wpOpsIn Fence.wide n P ops Q rest ⟨a,ds⟩ w):
  ∀(L:List Oper) (is:List Nat) (Γ:bp) (bs:bG) (ow:Nat->Option mh) (a:Array Value) (w:World) (st:aF),is.map (λi=>ops[i]?)=L.map some->
   (∀o∈L,o.guard=none/\fw o=true/\aE o.op=false)->SR P E Γ bs ow w a st->cD P E.GE A ops K L 0 st->wpOpsIn Fence.wide n P ops Q (is++rest) ⟨a,ds⟩ w
 |[],[],Γ,bs,ow,a,w,st,_,_,h,hp=>hK Γ bs ow a w st h hp
 |o::L,i::is,Γ,bs,ow,a,w,st,hi,hg,h,hp=>by
  obtain⟨g1,g2,g3⟩:=hg o (by simp)
  unfold cD at hp
  simp only[g1]at hp
  simp only[vae,vbH]at hi
  refine GZ hi.1 g1 (XG g2 (Oper.wp_mono (λa' w' hA=>?_) (I2 (a:=⟨a,ds⟩) h (λhm=>by rw[g3]at hm;cases hm) hp Q)))
  obtain⟨hd,Γ',bs',ow',st',h1,h2,_⟩:=hA
  obtain⟨a1,ds1⟩:=a'
  simp only at hd h1
  subst hd
  refine E9 (A:=A) hK L is Γ' bs' ow' a1 w' st' hi.2 (λo ho=>hg o (vax _ ho)) h1 ?_
  rw[g3]at h2
  exact h2
end
def ny:Code->Array Oper
 |.region _ ops _=>ops
 |_=>#[]
def qgn:Code->Nat
 |.region id _ _=>id
 |_=>0
def V6(c:Code)(i:Nat):Oper:=(ny c)[i]?.getD default
def qeE(o:Oper):Array TypeId:=match o.op with
 |.call c=>c.argTypes
 |_=>#[]
def NU(o:Oper):Bool:=o.guard.isNone&&fw o&&!aE o.op
theorem Kj{L:List Oper}(h:L.all NU=true):∀o∈L,o.guard=none/\fw o=true/\aE o.op=false:=λo ho=>by
 have:=vak.1 h o ho
 simpa[NU,and_assoc]using this
theorem sD{P:Program}{GE:List (Nat×List PVal)}{A:List Nat}{ops:Array Oper}{K K':aF->Prop}(hK:∀st,K st->K' st):∀(L:List Oper) (id:Nat) (st:aF),cD P GE A ops K L id st->cD P GE A ops K' L id st
 |[],_,st,h=>hK st h
 | o :: L,id,st,h => by
  unfold cD at h ⊢
  split at h
  ·exact tI (λst hx=>sD hK L _ st hx) h
  ·split at h
   ·exact⟨λhx=>tI (λst hx=>sD hK L _ st hx) (h.1 hx),λhx=>sD hK L _ _ (h.2 hx)⟩
   ·exact h
theorem qjR{P:Program}{m:Nat}{sc:List It}{F:Prop}{st st0:aF}(h:PS sc F)(he:F=Xf m sc st (λ_ st'=>FG st' st0)):zy P m st st0:=by
 obtain⟨_,st',hw,hf⟩:=Na (P:=P) (Eq.mp he h)
 exact hw.trans hf.weak
theorem d6.thenW{P:Program}{GE:List (Nat×List PVal)}{m:Nat}{c:Code}{e:Exit}{st0 st1 st2:aF}(h:d6 P GE m c (EX e st1) st0)(hw:zy P m st1 st2):d6 P GE m c (EX e st2) st0:=
 h.mono λe' st' hx=>⟨st2,hx.2▸hw,hx.1,rfl⟩
theorem IP{P:Program}{GE:List (Nat×List PVal)}{A:List Nat}{ops:Array Oper}{L:List Oper}{st st0:aF}{sc:List It}{F:Prop}(h:PS sc F)(he:F=KY P GE A ops (λ_ st=>FG st st0) L 0 0 sc st):cD P GE A ops (λst=>FG st st0) L 0 st:=
 sD (λst ⟨_,hx⟩=>hx) L 0 st (wQ L 0 0 sc st (Eq.mp he h))
theorem FG.sr{P:Program}{E:tS}{Γ:bp}{bs:bG}{ow:Nat->Option mh}{w:World}{a:Array Value}{st st0:aF}(h:SR P E Γ bs ow w a st)(hf:FG st st0):∃Γ' bs' ow',SR P E Γ' bs' ow' w a st0:=by
 obtain⟨Γ',bs',ow',h',_⟩:=(hf.weak (P:=P) (m:=0)) E [] ⟨a,[]⟩ w rfl ⟨Γ,bs,ow,h,λi hi=>absurd hi (va5 _)⟩
 exact⟨Γ',bs',ow',h'⟩
def qfY:Code->Code
 |.rangeFunc _ _ a _=>a
 |_=>.skip
def qfZ:Code->Code
 |.rangeFunc _ _ _ b=>b
 |_=>.skip
theorem iK{w:World}{b:Nat}{o:Obj}(h:w.heap[b]? =some o):b<w.heap.size:=(vao.1 h).1
end Go.Proofs.YtibglelmlnfojaaGreatDoor
