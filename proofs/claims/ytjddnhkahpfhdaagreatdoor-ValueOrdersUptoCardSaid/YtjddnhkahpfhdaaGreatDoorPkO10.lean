/- PROVED: a part of the proof. Conditions: none. -/
import Derived.Test.YtjddnhkahpfhdaaGreatDoorPkO9
import Derived.Test.YtjddnhkahpfhdaaGreatDoorChecked
import Derived.RangeFuncRecord
import Derived.RangeFuncSeq
set_option linter.unusedSimpArgs false
set_option linter.unusedVariables false
noncomputable section
namespace Go.Proofs.YtjddnhkahpfhdaaGreatDoor
open Go Go.Proofs.Tryz
set_option linter.unusedVariables false
set_option linter.defProp false
set_option maxRecDepth 100000
noncomputable abbrev Pg:=Tryz.prog
theorem mixed:Pg.follows .mixedOrders=true:=by kernel_rfl
structure cq where
 Name:ai
 Sort_:ai
deriving DecidableEq
def cw(x:cq):List PVal:=[.str x.Name,.str x.Sort_]
theorem BF(x:cq):dR 0 (cw x):=(aI vzz (aI vzz vzz))
instance iE_tVar:KE cw:=⟨BF⟩
inductive ah where
 |mk (Op:Int) (Name:ai) (N:Int) (Kids:(List ah))
def ah.Op:ah->Int
 |⟨x,_,_,_⟩=>x
def ah.Name:ah->ai
 |⟨_,x,_,_⟩=>x
def ah.N:ah->Int
 |⟨_,_,x,_⟩=>x
def ah.Kids:ah->(List ah)
 |⟨_,_,_,x⟩=>x
mutual
def am:ah->List PVal
 |⟨x0,x1,x2,x3⟩=>[.int .i64 x0,.str x1,.int .i64 x2,.slice (pr x3)]
def pr:List ah->List (List PVal)
 |[]=>[]
 |x::r=>am x::pr r
end
theorem C2:∀(l:List ah),pr l=l.map am
 |[]=>by simp[pr]
 |x::r=>by simp[pr,C2 r]
mutual
theorem dj:∀(x:ah),dR 0 (am x)
 |⟨x0,x1,x2,x3⟩=>by rw[am];exact(aI vzz (aI vzz (aI vzz (aI (Fs x3) trivial))))
theorem Fs:∀(l:List ah),lH 0 (pr l)
 |[]=>by simp[pr,lH]
 |x::r=>by rw[pr];exact⟨dj x,Fs r⟩
end
theorem cC:∀(x:ah),am x=[.int .i64 x.Op,.str x.Name,.int .i64 x.N,sl am x.Kids]
 |⟨x0,x1,x2,x3⟩=>by
  simp only[am,C2]
  rfl
abbrev LC(x:ah):PVal:=.agg (am x)
instance iK_tPred{x:ah}:K0l (am x):=⟨dj x⟩
instance iE_tPred:KE am:=⟨dj⟩
theorem zM(x:ah):(am x).length=4:=by rw[cC];rfl
theorem yE(x:ah):bu (.agg (am x))=some (am x):=rfl
theorem Mm(x:ah):bu (LC x)=some (am x):=rfl
theorem F9(x:ah):bu (.agg (am x))=some [.int .i64 x.Op,.str x.Name,.int .i64 x.N,sl am x.Kids]:=by rw[cC];rfl
theorem Mf(x:ah):∀q∈am x,q.one=true:=by
 intro q hq
 rw[cC]at hq
 simp only[vaB,vbm,or_false]at hq
 rcases hq with rfl|rfl|rfl|rfl<;>rfl
theorem Pe:Pg.cellsOf 42=4:=by kernel_rfl
theorem lS(x:ah):aO Pg 42 (am x)=some (.agg (am x)):=by
 have:=gC (P:=Pg) (t:=42) (l:=am x) (r:=[]) (by kernel_rfl) (Pe.trans (zM x).symm)
 rwa[vbb]at this
theorem FO(x:ah)(r:List PVal):aO Pg 42 ([.int .i64 x.Op,.str x.Name,.int .i64 x.N,sl am x.Kids]++r)=some (.agg (am x)):=by
 rw[<-cC];exact gC (by kernel_rfl) (Pe.trans (zM x).symm)
theorem gy(x:ah):aE Pg 42 (.eptr (am x)) 0=some (.eptr ((am x).drop 0))/\aO Pg 39 ((am x).drop 0)=some (.int .i64 x.Op):=⟨by rw[cC];kernel_rfl,by rw[cC];kernel_rfl⟩
theorem fx(x:ah):aE Pg 42 (.eptr (am x)) 1=some (.eptr ((am x).drop 1))/\aO Pg 9 ((am x).drop 1)=some (.str x.Name):=⟨by rw[cC];kernel_rfl,by rw[cC];kernel_rfl⟩
theorem ij(x:ah):aE Pg 42 (.eptr (am x)) 2=some (.eptr ((am x).drop 2))/\aO Pg 3 ((am x).drop 2)=some (.int .i64 x.N):=⟨by rw[cC];kernel_rfl,by rw[cC];kernel_rfl⟩
theorem cD(x:ah):aE Pg 42 (.eptr (am x)) 3=some (.eptr ((am x).drop 3))/\aO Pg 40 ((am x).drop 3)=some (sl am x.Kids):=⟨by rw[cC];kernel_rfl,by rw[cC];kernel_rfl⟩
inductive ae where
 |mk (Op:Int) (Name:ai) (Args:(List ae)) (Names:(List ai)) (Pred:ah) (Preds:(List ah))
def ae.Op:ae->Int
 |⟨x,_,_,_,_,_⟩=>x
def ae.Name:ae->ai
 |⟨_,x,_,_,_,_⟩=>x
def ae.Args:ae->(List ae)
 |⟨_,_,x,_,_,_⟩=>x
def ae.Names:ae->(List ai)
 |⟨_,_,_,x,_,_⟩=>x
def ae.Pred:ae->ah
 |⟨_,_,_,_,x,_⟩=>x
def ae.Preds:ae->(List ah)
 |⟨_,_,_,_,_,x⟩=>x
mutual
def af:ae->List PVal
 |⟨x0,x1,x2,x3,x4,x5⟩=>[.int .i64 x0,.str x1,.slice (pu x2),sl cS x3]++(am x4++([sl am x5]))
def pu:List ae->List (List PVal)
 |[]=>[]
 |x::r=>af x::pu r
end
theorem C3:∀(l:List ae),pu l=l.map af
 |[]=>by simp[pu]
 |x::r=>by simp[pu,C3 r]
mutual
theorem dw:∀(x:ae),dR 0 (af x)
 |⟨x0,x1,x2,x3,x4,x5⟩=>by rw[af];exact kL.2 (aI ((aI vzz (aI vzz (aI (Ft x2) (aI (bq JH x3) trivial))))) (kL.2 (aI (dj x4) ((aI (bq dj x5) trivial)))))
theorem Ft:∀(l:List ae),lH 0 (pu l)
 |[]=>by simp[pu,lH]
 |x::r=>by rw[pu];exact⟨dw x,Ft r⟩
end
theorem bg:∀(x:ae),af x=[.int .i64 x.Op,.str x.Name,sl af x.Args,sl cS x.Names,.int .i64 x.Pred.Op,.str x.Pred.Name,.int .i64 x.Pred.N,sl am x.Pred.Kids,sl am x.Preds]
 |⟨x0,x1,x2,x3,x4,x5⟩=>by
  simp only[af,C3,cC,vaO,va1]
  rfl
abbrev BV(x:ae):PVal:=.agg (af x)
instance iK_tType{x:ae}:K0l (af x):=⟨dw x⟩
instance iE_tType:KE af:=⟨dw⟩
theorem zN(x:ae):(af x).length=9:=by rw[bg];rfl
theorem iy(x:ae):bu (.agg (af x))=some (af x):=rfl
theorem zZ(x:ae):bu (BV x)=some (af x):=rfl
theorem iO(x:ae):bu (.agg (af x))=some [.int .i64 x.Op,.str x.Name,sl af x.Args,sl cS x.Names,.int .i64 x.Pred.Op,.str x.Pred.Name,.int .i64 x.Pred.N,sl am x.Pred.Kids,sl am x.Preds]:=by rw[bg];rfl
theorem Mg(x:ae):∀q∈af x,q.one=true:=by
 intro q hq
 rw[bg]at hq
 simp only[vaB,vbm,or_false]at hq
 rcases hq with rfl|rfl|rfl|rfl|rfl|rfl|rfl|rfl|rfl<;>rfl
theorem Pf:Pg.cellsOf 44=9:=by kernel_rfl
theorem eI(x:ae):aO Pg 44 (af x)=some (.agg (af x)):=by
 have:=gC (P:=Pg) (t:=44) (l:=af x) (r:=[]) (by kernel_rfl) (Pf.trans (zN x).symm)
 rwa[vbb]at this
theorem fR(x:ae)(r:List PVal):aO Pg 44 ([.int .i64 x.Op,.str x.Name,sl af x.Args,sl cS x.Names,.int .i64 x.Pred.Op,.str x.Pred.Name,.int .i64 x.Pred.N,sl am x.Pred.Kids,sl am x.Preds]++r)=some (.agg (af x)):=by
 rw[<-bg];exact gC (by kernel_rfl) (Pf.trans (zN x).symm)
theorem kS(x:ae):PVal.agg [.int .i64 x.Op,.str x.Name,sl af x.Args,sl cS x.Names,.int .i64 x.Pred.Op,.str x.Pred.Name,.int .i64 x.Pred.N,sl am x.Pred.Kids,sl am x.Preds]=.agg (af x):=by rw[bg]
theorem JB:dy Pg 44 []=some (.agg (af (⟨0,([]:ai),([]:List ae),([]:List ai),(⟨0,([]:ai),0,([]:List ah)⟩:ah),([]:List ah)⟩:ae))):=by
 simp only[bg]
 kernel_rfl
theorem Jz:sI Pg 44 [] [(2,44),(3,9),(7,42),(8,42)]:=by
 exact⟨[.int .i64 0,.str ([]:ai),.val fl,.val fl,.int .i64 0,.str ([]:ai),.int .i64 0,.val fl,.val fl],by kernel_rfl,(aI rfl (aI rfl (aI rfl (aI rfl vzz))))⟩
theorem rj(x0:Int)(x1:ai):dy Pg 44 [(0,.int .i64 x0),(1,.str x1)]=some (.agg (af (⟨x0,x1,([]:List ae),([]:List ai),(⟨0,([]:ai),0,([]:List ah)⟩:ah),([]:List ah)⟩:ae))):=by
 simp only[bg]
 kernel_rfl
theorem ri(x0:Int)(x1:ai):sI Pg 44 [(0,.int .i64 x0),(1,.str x1)] [(2,44),(3,9),(7,42),(8,42)]:=by
 exact⟨[.int .i64 x0,.str x1,.val fl,.val fl,.int .i64 0,.str ([]:ai),.int .i64 0,.val fl,.val fl],by kernel_rfl,(aI rfl (aI rfl (aI rfl (aI rfl vzz))))⟩
theorem nN(x0:Int):dy Pg 44 [(0,.int .i64 x0)]=some (.agg (af (⟨x0,([]:ai),([]:List ae),([]:List ai),(⟨0,([]:ai),0,([]:List ah)⟩:ah),([]:List ah)⟩:ae))):=by
 simp only[bg]
 kernel_rfl
theorem nK(x0:Int):sI Pg 44 [(0,.int .i64 x0)] [(2,44),(3,9),(7,42),(8,42)]:=by
 exact⟨[.int .i64 x0,.str ([]:ai),.val fl,.val fl,.int .i64 0,.str ([]:ai),.int .i64 0,.val fl,.val fl],by kernel_rfl,(aI rfl (aI rfl (aI rfl (aI rfl vzz))))⟩
theorem wg(x:ae):aE Pg 44 (.eptr (af x)) 0=some (.eptr ((af x).drop 0)):=by rw[bg];kernel_rfl
theorem cm(x:ae):aE Pg 44 (.eptr (af x)) 0=some (.eptr ((af x).drop 0))/\aO Pg 37 ((af x).drop 0)=some (.int .i64 x.Op):=⟨by rw[bg];kernel_rfl,by rw[bg];kernel_rfl⟩
theorem EK(x:ae):aE Pg 44 (.eptr (af x)) 1=some (.eptr ((af x).drop 1)):=by rw[bg];kernel_rfl
theorem cb(x:ae):aE Pg 44 (.eptr (af x)) 1=some (.eptr ((af x).drop 1))/\aO Pg 9 ((af x).drop 1)=some (.str x.Name):=⟨by rw[bg];kernel_rfl,by rw[bg];kernel_rfl⟩
theorem EL(x:ae):aE Pg 44 (.eptr (af x)) 2=some (.eptr ((af x).drop 2)):=by rw[bg];kernel_rfl
theorem aY(x:ae):aE Pg 44 (.eptr (af x)) 2=some (.eptr ((af x).drop 2))/\aO Pg 38 ((af x).drop 2)=some (sl af x.Args):=⟨by rw[bg];kernel_rfl,by rw[bg];kernel_rfl⟩
theorem eU(x:ae):aE Pg 44 (.eptr (af x)) 3=some (.eptr ((af x).drop 3))/\aO Pg 32 ((af x).drop 3)=some (sl cS x.Names):=⟨by rw[bg];kernel_rfl,by rw[bg];kernel_rfl⟩
theorem eW(x:ae):aE Pg 44 (.eptr (af x)) 4=some (.eptr ((af x).drop 4))/\aO Pg 42 ((af x).drop 4)=some (.agg (am x.Pred)):=⟨by rw[bg];kernel_rfl,by rw[bg,cC];kernel_rfl⟩
theorem cE(x:ae):aE Pg 44 (.eptr (af x)) 5=some (.eptr ((af x).drop 8))/\aO Pg 40 ((af x).drop 8)=some (sl am x.Preds):=⟨by rw[bg];kernel_rfl,by rw[bg];kernel_rfl⟩
theorem wk(x:ae):aO Pg 37 ((af x).drop 0)=some (.int .i64 x.Op):=by rw[bg];kernel_rfl
theorem Hi(x:ae):aO Pg 9 ((af x).drop 1)=some (.str x.Name):=by rw[bg];kernel_rfl
theorem ES(x:ae):aO Pg 38 ((af x).drop 2)=some (sl af x.Args):=by rw[bg];kernel_rfl
structure aP where
 Name:ai
 Names:(List ai)
 Fields:(List ae)
def aT(x:aP):List PVal:=[.str x.Name,sl cS x.Names,sl af x.Fields]
theorem GZ(x:aP):aT x=[.str x.Name,sl cS x.Names,sl af x.Fields]:=rfl
theorem lu(x:aP):dR 0 (aT x):=(aI vzz (aI (bq JH x.Names) (aI (bq dw x.Fields) trivial)))
abbrev OO(x:aP):PVal:=.agg (aT x)
instance iE_tCon:KE aT:=⟨lu⟩
theorem Iz(x:aP):(aT x).length=3:=by rw[GZ];rfl
theorem N4(x:aP):bu (OO x)=some (aT x):=rfl
theorem IS(x:aP):bu (.agg (aT x))=some [.str x.Name,sl cS x.Names,sl af x.Fields]:=by rw[GZ];rfl
theorem NX(x:aP):∀q∈aT x,q.one=true:=by
 intro q hq
 rw[GZ]at hq
 simp only[vaB,vbm,or_false]at hq
 rcases hq with rfl|rfl|rfl<;>rfl
theorem QM:Pg.cellsOf 76=3:=by kernel_rfl
theorem K9(x:aP):aO Pg 76 (aT x)=some (.agg (aT x)):=by
 have:=gC (P:=Pg) (t:=76) (l:=aT x) (r:=[]) (by kernel_rfl) (QM.trans (Iz x).symm)
 rwa[vbb]at this
theorem Ev(x0:ai)(x1:(List ai))(x2:(List ae)):dy Pg 76 [(0,.str x0),(1,sl cS x1),(2,sl af x2)]=some (.agg (aT (⟨x0,x1,x2⟩:aP))):=by
 kernel_rfl
theorem LM(x0:ai):dy Pg 76 [(0,.str x0)]=some (.agg (aT (⟨x0,([]:List ai),([]:List ae)⟩:aP))):=by
 kernel_rfl
theorem LL(x0:ai):sI Pg 76 [(0,.str x0)] [(1,9),(2,44)]:=by
 exact⟨[.str x0,.val fl,.val fl],by kernel_rfl,(aI rfl (aI rfl vzz))⟩
theorem mU(x:aP):aE Pg 76 (.eptr (aT x)) 0=some (.eptr ((aT x).drop 0)):=by kernel_rfl
theorem G3(x:aP):aE Pg 76 (.eptr (aT x)) 2=some (.eptr ((aT x).drop 2)):=by kernel_rfl
theorem yu(x:aP):aE Pg 76 (.eptr (aT x)) 2=some (.eptr ((aT x).drop 2))/\aO Pg 38 ((aT x).drop 2)=some (sl af x.Fields):=⟨by kernel_rfl,by kernel_rfl⟩
theorem px(x:aP):aO Pg 9 ((aT x).drop 0)=some (.str x.Name):=by kernel_rfl
theorem Hh(x:aP):aO Pg 38 ((aT x).drop 2)=some (sl af x.Fields):=by kernel_rfl
structure aS where
 Name:ai
 Vars:(List ai)
 Preds:(List cq)
 Cons:(List aP)
def aC(x:aS):List PVal:=[.str x.Name,sl cS x.Vars,sl cw x.Preds,sl aT x.Cons]
theorem lN(x:aS):aC x=[.str x.Name,sl cS x.Vars,sl cw x.Preds,sl aT x.Cons]:=rfl
theorem gF(x:aS):dR 0 (aC x):=(aI vzz (aI (bq JH x.Vars) (aI (bq BF x.Preds) (aI (bq lu x.Cons) trivial))))
abbrev LA(x:aS):PVal:=.agg (aC x)
instance iK_tData{x:aS}:K0l (aC x):=⟨gF x⟩
instance iE_tData:KE aC:=⟨gF⟩
theorem zK(x:aS):(aC x).length=4:=by rw[lN];rfl
theorem Ml(x:aS):bu (LA x)=some (aC x):=rfl
theorem gY(x:aS):bu (.agg (aC x))=some [.str x.Name,sl cS x.Vars,sl cw x.Preds,sl aT x.Cons]:=by rw[lN];rfl
theorem Md(x:aS):∀q∈aC x,q.one=true:=by
 intro q hq
 rw[lN]at hq
 simp only[vaB,vbm,or_false]at hq
 rcases hq with rfl|rfl|rfl|rfl<;>rfl
theorem Pj:Pg.cellsOf 74=4:=by kernel_rfl
theorem C6(x:aS):aO Pg 74 (aC x)=some (.agg (aC x)):=by
 have:=gC (P:=Pg) (t:=74) (l:=aC x) (r:=[]) (by kernel_rfl) (Pj.trans (zK x).symm)
 rwa[vbb]at this
theorem FM(x:aS)(r:List PVal):aO Pg 74 ([.str x.Name,sl cS x.Vars,sl cw x.Preds,sl aT x.Cons]++r)=some (.agg (aC x)):=by
 rw[<-lN];exact gC (by kernel_rfl) (Pj.trans (zK x).symm)
theorem vp(x:aS):PVal.agg [.str x.Name,sl cS x.Vars,sl cw x.Preds,sl aT x.Cons]=.agg (aC x):=by rw[lN]
theorem Cz:dy Pg 74 []=some (.agg (aC (⟨([]:ai),([]:List ai),([]:List cq),([]:List aP)⟩:aS))):=by
 kernel_rfl
theorem Cy:sI Pg 74 [] [(1,9),(2,223),(3,76)]:=by
 exact⟨[.str ([]:ai),.val fl,.val fl,.val fl],by kernel_rfl,(aI rfl (aI rfl (aI rfl vzz)))⟩
theorem GM(x0:ai)(x3:(List aP)):dy Pg 74 [(0,.str x0),(3,sl aT x3)]=some (.agg (aC (⟨x0,([]:List ai),([]:List cq),x3⟩:aS))):=by
 kernel_rfl
theorem GK(x0:ai)(x3:(List aP)):sI Pg 74 [(0,.str x0),(3,sl aT x3)] [(1,9),(2,223)]:=by
 exact⟨[.str x0,.val fl,.val fl,sl aT x3],by kernel_rfl,(aI rfl (aI rfl vzz))⟩
theorem pX(x:aS):aE Pg 74 (.eptr (aC x)) 0=some (.eptr ((aC x).drop 0)):=by kernel_rfl
theorem EJ(x:aS):aE Pg 74 (.eptr (aC x)) 3=some (.eptr ((aC x).drop 3)):=by kernel_rfl
theorem ry(x:aS):aO Pg 9 ((aC x).drop 0)=some (.str x.Name):=by kernel_rfl
theorem ER(x:aS):aO Pg 72 ((aC x).drop 3)=some (sl aT x.Cons):=by kernel_rfl
structure BU where
 Name:ai
 Type_:ae
def uP(x:BU):List PVal:=[.str x.Name]++(af x.Type_)
theorem JU(x:BU):uP x=[.str x.Name,.int .i64 x.Type_.Op,.str x.Type_.Name,sl af x.Type_.Args,sl cS x.Type_.Names,.int .i64 x.Type_.Pred.Op,.str x.Type_.Pred.Name,.int .i64 x.Type_.Pred.N,sl am x.Type_.Pred.Kids,sl am x.Type_.Preds]:=by
 unfold uP
 simp only[bg,vaO,va1]
theorem JI(x:BU):dR 0 (uP x):=by rw[JU];exact(aI vzz (aI vzz (aI vzz (aI (bq dw x.Type_.Args) (aI (bq JH x.Type_.Names) (aI vzz (aI vzz (aI vzz (aI (bq dj x.Type_.Pred.Kids) (aI (bq dj x.Type_.Preds) trivial))))))))))
structure eD where
 Name:ai
 Var:ai
 Methods:(List BU)
def ee(x:eD):List PVal:=[.str x.Name,.str x.Var,sl uP x.Methods]
theorem Fo(x:eD):dR 0 (ee x):=(aI vzz (aI vzz (aI (bq JI x.Methods) trivial)))
instance iE_tClass:KE ee:=⟨Fo⟩
structure Lw where
 Class:ai
 Var:ai
deriving DecidableEq
def uQ(x:Lw):List PVal:=[.str x.Class,.str x.Var]
theorem Ie(x:Lw):dR 0 (uQ x):=(aI vzz (aI vzz vzz))
structure bO where
 Name:ai
 Type_:ae
def aG(x:bO):List PVal:=[.str x.Name]++(af x.Type_)
theorem gX(x:bO):aG x=[.str x.Name,.int .i64 x.Type_.Op,.str x.Type_.Name,sl af x.Type_.Args,sl cS x.Type_.Names,.int .i64 x.Type_.Pred.Op,.str x.Type_.Pred.Name,.int .i64 x.Type_.Pred.N,sl am x.Type_.Pred.Kids,sl am x.Type_.Preds]:=by
 unfold aG
 simp only[bg,vaO,va1]
theorem qh(x:bO):dR 0 (aG x):=by rw[gX];exact(aI vzz (aI vzz (aI vzz (aI (bq dw x.Type_.Args) (aI (bq JH x.Type_.Names) (aI vzz (aI vzz (aI vzz (aI (bq dj x.Type_.Pred.Kids) (aI (bq dj x.Type_.Preds) trivial))))))))))
instance iK_tParam{x:bO}:K0l (aG x):=⟨qh x⟩
instance iE_tParam:KE aG:=⟨qh⟩
theorem xj(x:bO):(aG x).length=10:=by rw[gX];rfl
theorem FX(x:bO):bu (.agg (aG x))=some (aG x):=rfl
theorem Do(x:bO):bu (.agg (aG x))=some [.str x.Name,.int .i64 x.Type_.Op,.str x.Type_.Name,sl af x.Type_.Args,sl cS x.Type_.Names,.int .i64 x.Type_.Pred.Op,.str x.Type_.Pred.Name,.int .i64 x.Type_.Pred.N,sl am x.Type_.Pred.Kids,sl am x.Type_.Preds]:=by rw[gX];rfl
theorem J8(x:bO):∀q∈aG x,q.one=true:=by
 intro q hq
 rw[gX]at hq
 simp only[vaB,vbm,or_false]at hq
 rcases hq with rfl|rfl|rfl|rfl|rfl|rfl|rfl|rfl|rfl|rfl<;>rfl
theorem Pk:Pg.cellsOf 96=10:=by kernel_rfl
theorem FK(x:bO):aO Pg 96 (aG x)=some (.agg (aG x)):=by
 have:=gC (P:=Pg) (t:=96) (l:=aG x) (r:=[]) (by kernel_rfl) (Pk.trans (xj x).symm)
 rwa[vbb]at this
theorem C7(x:bO)(r:List PVal):aO Pg 96 ([.str x.Name,.int .i64 x.Type_.Op,.str x.Type_.Name,sl af x.Type_.Args,sl cS x.Type_.Names,.int .i64 x.Type_.Pred.Op,.str x.Type_.Pred.Name,.int .i64 x.Type_.Pred.N,sl am x.Type_.Pred.Kids,sl am x.Type_.Preds]++r)=some (.agg (aG x)):=by
 rw[<-gX];exact gC (by kernel_rfl) (Pk.trans (xj x).symm)
theorem df(x:bO):aE Pg 96 (.eptr (aG x)) 0=some (.eptr ((aG x).drop 0))/\aO Pg 9 ((aG x).drop 0)=some (.str x.Name):=⟨by rw[gX];kernel_rfl,by rw[gX];kernel_rfl⟩
theorem eH(x:bO):aE Pg 96 (.eptr (aG x)) 1=some (.eptr ((aG x).drop 1))/\aO Pg 44 ((aG x).drop 1)=some (.agg (af x.Type_)):=⟨by rw[gX];kernel_rfl,by rw[gX,bg];kernel_rfl⟩
mutual
inductive aj where
 |mk (Op:Int) (Name:ai) (N:Int) (Kids:(List aj)) (Params:(List bO)) (Alts:(List dE)) (Types:(List ae))
inductive dE where
 |mk (Con:ai) (Names:(List ai)) (Body:aj)
end
def aj.Op:aj->Int
 |⟨x,_,_,_,_,_,_⟩=>x
def aj.Name:aj->ai
 |⟨_,x,_,_,_,_,_⟩=>x
def aj.N:aj->Int
 |⟨_,_,x,_,_,_,_⟩=>x
def aj.Kids:aj->(List aj)
 |⟨_,_,_,x,_,_,_⟩=>x
def aj.Params:aj->(List bO)
 |⟨_,_,_,_,x,_,_⟩=>x
def aj.Alts:aj->(List dE)
 |⟨_,_,_,_,_,x,_⟩=>x
def aj.Types:aj->(List ae)
 |⟨_,_,_,_,_,_,x⟩=>x
def dE.Con:dE->ai
 |⟨x,_,_⟩=>x
def dE.Names:dE->(List ai)
 |⟨_,x,_⟩=>x
def dE.Body:dE->aj
 |⟨_,_,x⟩=>x
mutual
def ak:aj->List PVal
 |⟨x0,x1,x2,x3,x4,x5,x6⟩=>[.int .i64 x0,.str x1,.int .i64 x2,.slice (pq x3),sl aG x4,.slice (tY x5),sl af x6]
def bk:dE->List PVal
 |⟨x0,x1,x2⟩=>[.str x0,sl cS x1]++(ak x2)
def pq:List aj->List (List PVal)
 |[]=>[]
 |x::r=>ak x::pq r
def tY:List dE->List (List PVal)
 |[]=>[]
 |x::r=>bk x::tY r
end
theorem C1:∀(l:List aj),pq l=l.map ak
 |[]=>by simp[pq]
 |x::r=>by simp[pq,C1 r]
theorem FI:∀(l:List dE),tY l=l.map bk
 |[]=>by simp[tY]
 |x::r=>by simp[tY,FI r]
mutual
theorem nQ:∀(x:aj),dR 0 (ak x)
 |⟨x0,x1,x2,x3,x4,x5,x6⟩=>by rw[ak];exact(aI vzz (aI vzz (aI vzz (aI (Fq x3) (aI (bq qh x4) (aI (Ig x5) (aI (bq dw x6) trivial)))))))
theorem yi:∀(x:dE),dR 0 (bk x)
 |⟨x0,x1,x2⟩=>by rw[bk];exact kL.2 (aI ((aI vzz (aI (bq JH x1) trivial))) (nQ x2))
theorem Fq:∀(l:List aj),lH 0 (pq l)
 |[]=>by simp[pq,lH]
 |x::r=>by rw[pq];exact⟨nQ x,Fq r⟩
theorem Ig:∀(l:List dE),lH 0 (tY l)
 |[]=>by simp[tY,lH]
 |x::r=>by rw[tY];exact⟨yi x,Ig r⟩
end
theorem cx:∀(x:aj),ak x=[.int .i64 x.Op,.str x.Name,.int .i64 x.N,sl ak x.Kids,sl aG x.Params,sl bk x.Alts,sl af x.Types]
 |⟨x0,x1,x2,x3,x4,x5,x6⟩=>by
  simp only[ak,C1,FI]
  rfl
instance iK_tExpr{x:aj}:K0l (ak x):=⟨nQ x⟩
instance iE_tExpr:KE ak:=⟨nQ⟩
theorem zL(x:aj):(ak x).length=7:=by rw[cx];rfl
theorem ub(x:aj):bu (.agg (ak x))=some (ak x):=rfl
theorem F8(x:aj):bu (.agg (ak x))=some [.int .i64 x.Op,.str x.Name,.int .i64 x.N,sl ak x.Kids,sl aG x.Params,sl bk x.Alts,sl af x.Types]:=by rw[cx];rfl
theorem Me(x:aj):∀q∈ak x,q.one=true:=by
 intro q hq
 rw[cx]at hq
 simp only[vaB,vbm,or_false]at hq
 rcases hq with rfl|rfl|rfl|rfl|rfl|rfl|rfl<;>rfl
theorem Ph:Pg.cellsOf 52=7:=by kernel_rfl
theorem Pl:Pg.cellsOf 98=9:=by kernel_rfl
theorem lR(x:aj):aO Pg 52 (ak x)=some (.agg (ak x)):=by
 have:=gC (P:=Pg) (t:=52) (l:=ak x) (r:=[]) (by kernel_rfl) (Ph.trans (zL x).symm)
 rwa[vbb]at this
theorem uV(x:aj)(r:List PVal):aO Pg 52 ([.int .i64 x.Op,.str x.Name,.int .i64 x.N,sl ak x.Kids,sl aG x.Params,sl bk x.Alts,sl af x.Types]++r)=some (.agg (ak x)):=by
 rw[<-cx];exact gC (by kernel_rfl) (Ph.trans (zL x).symm)
theorem gw(x:aj):aE Pg 52 (.eptr (ak x)) 0=some (.eptr ((ak x).drop 0))/\aO Pg 48 ((ak x).drop 0)=some (.int .i64 x.Op):=⟨by rw[cx];kernel_rfl,by rw[cx];kernel_rfl⟩
theorem fw(x:aj):aE Pg 52 (.eptr (ak x)) 1=some (.eptr ((ak x).drop 1))/\aO Pg 9 ((ak x).drop 1)=some (.str x.Name):=⟨by rw[cx];kernel_rfl,by rw[cx];kernel_rfl⟩
theorem ii(x:aj):aE Pg 52 (.eptr (ak x)) 2=some (.eptr ((ak x).drop 2))/\aO Pg 3 ((ak x).drop 2)=some (.int .i64 x.N):=⟨by rw[cx];kernel_rfl,by rw[cx];kernel_rfl⟩
theorem ck(x:aj):aE Pg 52 (.eptr (ak x)) 3=some (.eptr ((ak x).drop 3))/\aO Pg 33 ((ak x).drop 3)=some (sl ak x.Kids):=⟨by rw[cx];kernel_rfl,by rw[cx];kernel_rfl⟩
theorem de(x:aj):aE Pg 52 (.eptr (ak x)) 4=some (.eptr ((ak x).drop 4))/\aO Pg 49 ((ak x).drop 4)=some (sl aG x.Params):=⟨by rw[cx];kernel_rfl,by rw[cx];kernel_rfl⟩
theorem bL(x:aj):aE Pg 52 (.eptr (ak x)) 5=some (.eptr ((ak x).drop 5))/\aO Pg 50 ((ak x).drop 5)=some (sl bk x.Alts):=⟨by rw[cx];kernel_rfl,by rw[cx];kernel_rfl⟩
theorem eT(x:aj):aE Pg 52 (.eptr (ak x)) 6=some (.eptr ((ak x).drop 6))/\aO Pg 38 ((ak x).drop 6)=some (sl af x.Types):=⟨by rw[cx];kernel_rfl,by rw[cx];kernel_rfl⟩
theorem ke:∀(x:dE),bk x=[.str x.Con,sl cS x.Names,.int .i64 x.Body.Op,.str x.Body.Name,.int .i64 x.Body.N,sl ak x.Body.Kids,sl aG x.Body.Params,sl bk x.Body.Alts,sl af x.Body.Types]
 |⟨x0,x1,x2⟩=>by
  simp only[bk,cx,vaO,va1]
  rfl
instance iK_tAlt{x:dE}:K0l (bk x):=⟨yi x⟩
instance iE_tAlt:KE bk:=⟨yi⟩
theorem C5(x:dE):(bk x).length=9:=by rw[ke];rfl
theorem Lk(x:dE):bu (.agg (bk x))=some (bk x):=rfl
theorem yF(x:dE):bu (.agg (bk x))=some [.str x.Con,sl cS x.Names,.int .i64 x.Body.Op,.str x.Body.Name,.int .i64 x.Body.N,sl ak x.Body.Kids,sl aG x.Body.Params,sl bk x.Body.Alts,sl af x.Body.Types]:=by rw[ke];rfl
theorem NW(x:dE):∀q∈bk x,q.one=true:=by
 intro q hq
 rw[ke]at hq
 simp only[vaB,vbm,or_false]at hq
 rcases hq with rfl|rfl|rfl|rfl|rfl|rfl|rfl|rfl|rfl<;>rfl
theorem BM(x:dE):aO Pg 98 (bk x)=some (.agg (bk x)):=by
 have:=gC (P:=Pg) (t:=98) (l:=bk x) (r:=[]) (by kernel_rfl) (Pl.trans (C5 x).symm)
 rwa[vbb]at this
theorem ID(x:dE)(r:List PVal):aO Pg 98 ([.str x.Con,sl cS x.Names,.int .i64 x.Body.Op,.str x.Body.Name,.int .i64 x.Body.N,sl ak x.Body.Kids,sl aG x.Body.Params,sl bk x.Body.Alts,sl af x.Body.Types]++r)=some (.agg (bk x)):=by
 rw[<-ke];exact gC (by kernel_rfl) (Pl.trans (C5 x).symm)
theorem kN(x:dE):aE Pg 98 (.eptr (bk x)) 0=some (.eptr ((bk x).drop 0))/\aO Pg 9 ((bk x).drop 0)=some (.str x.Con):=⟨by rw[ke];kernel_rfl,by rw[ke];kernel_rfl⟩
theorem kh(x:dE):aE Pg 98 (.eptr (bk x)) 1=some (.eptr ((bk x).drop 1))/\aO Pg 32 ((bk x).drop 1)=some (sl cS x.Names):=⟨by rw[ke];kernel_rfl,by rw[ke];kernel_rfl⟩
theorem ki(x:dE):aE Pg 98 (.eptr (bk x)) 2=some (.eptr ((bk x).drop 2))/\aO Pg 52 ((bk x).drop 2)=some (.agg (ak x.Body)):=⟨by rw[ke];kernel_rfl,by rw[ke,cx];kernel_rfl⟩
structure Rj where
 Name:ai
 Sort_:ai
deriving DecidableEq
def GO(x:Rj):List PVal:=[.str x.Name,.str x.Sort_]
theorem Pb(x:Rj):dR 0 (GO x):=(aI vzz (aI vzz vzz))
structure HO where
 Name:ai
 Vars:(List cq)
 Hyp:ah
 Goal:ah
def qf(x:HO):List PVal:=[.str x.Name,sl cw x.Vars]++(am x.Hyp++(am x.Goal))
theorem L0(x:HO):qf x=[.str x.Name,sl cw x.Vars,.int .i64 x.Hyp.Op,.str x.Hyp.Name,.int .i64 x.Hyp.N,sl am x.Hyp.Kids,.int .i64 x.Goal.Op,.str x.Goal.Name,.int .i64 x.Goal.N,sl am x.Goal.Kids]:=by
 unfold qf
 simp only[cC,vaO,va1]
theorem LR(x:HO):dR 0 (qf x):=by rw[L0];exact(aI vzz (aI (bq BF x.Vars) (aI vzz (aI vzz (aI vzz (aI (bq dj x.Hyp.Kids) (aI vzz (aI vzz (aI vzz (aI (bq dj x.Goal.Kids) trivial))))))))))
structure Rk where
 Vars:(List ai)
 Needs:(List Lw)
 Abs:(List Rj)
 Bounds:(List HO)
 Type_:ae
 Metric:(List ah)
def JE(x:Rk):List PVal:=[sl cS x.Vars,sl uQ x.Needs,sl GO x.Abs,sl qf x.Bounds]++(af x.Type_++([sl am x.Metric]))
theorem Pt(x:Rk):JE x=[sl cS x.Vars,sl uQ x.Needs,sl GO x.Abs,sl qf x.Bounds,.int .i64 x.Type_.Op,.str x.Type_.Name,sl af x.Type_.Args,sl cS x.Type_.Names,.int .i64 x.Type_.Pred.Op,.str x.Type_.Pred.Name,.int .i64 x.Type_.Pred.N,sl am x.Type_.Pred.Kids,sl am x.Type_.Preds,sl am x.Metric]:=by
 unfold JE
 simp only[bg,vaO,va1]
structure kW where
 Name:ai
 Params:(List ai)
 Body:aj
 Mode:Int
 Typed:Bool
 Sig:Rk
def fF(x:kW):List PVal:=[.str x.Name,sl cS x.Params]++(ak x.Body++([.int .i64 x.Mode,.bool x.Typed]++(JE x.Sig)))
theorem Ps(x:kW):fF x=[.str x.Name,sl cS x.Params,.int .i64 x.Body.Op,.str x.Body.Name,.int .i64 x.Body.N,sl ak x.Body.Kids,sl aG x.Body.Params,sl bk x.Body.Alts,sl af x.Body.Types,.int .i64 x.Mode,.bool x.Typed,sl cS x.Sig.Vars,sl uQ x.Sig.Needs,sl GO x.Sig.Abs,sl qf x.Sig.Bounds,.int .i64 x.Sig.Type_.Op,.str x.Sig.Type_.Name,sl af x.Sig.Type_.Args,sl cS x.Sig.Type_.Names,.int .i64 x.Sig.Type_.Pred.Op,.str x.Sig.Type_.Pred.Name,.int .i64 x.Sig.Type_.Pred.N,sl am x.Sig.Type_.Pred.Kids,sl am x.Sig.Type_.Preds,sl am x.Sig.Metric]:=by
 unfold fF
 simp only[cx,Pt,vaO,va1]
theorem GT(x:kW):dR 0 (fF x):=by rw[Ps];exact(aI vzz (aI (bq JH x.Params) (aI vzz (aI vzz (aI vzz (aI (bq nQ x.Body.Kids) (aI (bq qh x.Body.Params) (aI (bq yi x.Body.Alts) (aI (bq dw x.Body.Types) (aI vzz (aI vzz (aI (bq JH x.Sig.Vars) (aI (bq Ie x.Sig.Needs) (aI (bq Pb x.Sig.Abs) (aI (bq LR x.Sig.Bounds) (aI vzz (aI vzz (aI (bq dw x.Sig.Type_.Args) (aI (bq JH x.Sig.Type_.Names) (aI vzz (aI vzz (aI vzz (aI (bq dj x.Sig.Type_.Pred.Kids) (aI (bq dj x.Sig.Type_.Preds) (aI (bq dj x.Sig.Metric) trivial)))))))))))))))))))))))))
instance iE_tDef:KE fF:=⟨GT⟩
structure bN where
 Class:ai
 Type_:ae
 Needs:(List Lw)
 Defs:(List kW)
def bS(x:bN):List PVal:=[.str x.Class]++(af x.Type_++([sl uQ x.Needs,sl fF x.Defs]))
theorem G0(x:bN):bS x=[.str x.Class,.int .i64 x.Type_.Op,.str x.Type_.Name,sl af x.Type_.Args,sl cS x.Type_.Names,.int .i64 x.Type_.Pred.Op,.str x.Type_.Pred.Name,.int .i64 x.Type_.Pred.N,sl am x.Type_.Pred.Kids,sl am x.Type_.Preds,sl uQ x.Needs,sl fF x.Defs]:=by
 unfold bS
 simp only[bg,vaO,va1]
theorem yk(x:bN):dR 0 (bS x):=by rw[G0];exact(aI vzz (aI vzz (aI vzz (aI (bq dw x.Type_.Args) (aI (bq JH x.Type_.Names) (aI vzz (aI vzz (aI vzz (aI (bq dj x.Type_.Pred.Kids) (aI (bq dj x.Type_.Preds) (aI (bq Ie x.Needs) (aI (bq GT x.Defs) trivial))))))))))))
instance iE_tInstance:KE bS:=⟨yk⟩
structure Lv where
 Con:ai
 Names:(List ai)
 Body:ah
def yh(x:Lv):List PVal:=[.str x.Con,sl cS x.Names]++(am x.Body)
theorem Np(x:Lv):yh x=[.str x.Con,sl cS x.Names,.int .i64 x.Body.Op,.str x.Body.Name,.int .i64 x.Body.N,sl am x.Body.Kids]:=by
 unfold yh
 simp only[cC,vaO,va1]
theorem Ng(x:Lv):dR 0 (yh x):=by rw[Np];exact(aI vzz (aI (bq JH x.Names) (aI vzz (aI vzz (aI vzz (aI (bq dj x.Body.Kids) trivial))))))
structure ce where
 Name:ai
 Data:ai
 Result:ai
 Cases:(List Lv)
 Inv:ah
def cj(x:ce):List PVal:=[.str x.Name,.str x.Data,.str x.Result,sl yh x.Cases]++(am x.Inv)
theorem Ik(x:ce):cj x=[.str x.Name,.str x.Data,.str x.Result,sl yh x.Cases,.int .i64 x.Inv.Op,.str x.Inv.Name,.int .i64 x.Inv.N,sl am x.Inv.Kids]:=by
 unfold cj
 simp only[cC,vaO,va1]
theorem AI(x:ce):dR 0 (cj x):=by rw[Ik];exact(aI vzz (aI vzz (aI vzz (aI (bq Ng x.Cases) (aI vzz (aI vzz (aI vzz (aI (bq dj x.Inv.Kids) trivial))))))))
instance iE_tMeasure:KE cj:=⟨AI⟩
structure gj where
 Name:ai
 Vars:(List cq)
 Body:ah
def eJ(x:gj):List PVal:=[.str x.Name,sl cw x.Vars]++(am x.Body)
theorem Nq(x:gj):eJ x=[.str x.Name,sl cw x.Vars,.int .i64 x.Body.Op,.str x.Body.Name,.int .i64 x.Body.N,sl am x.Body.Kids]:=by
 unfold eJ
 simp only[cC,vaO,va1]
theorem If(x:gj):dR 0 (eJ x):=by rw[Nq];exact(aI vzz (aI (bq BF x.Vars) (aI vzz (aI vzz (aI vzz (aI (bq dj x.Body.Kids) trivial))))))
instance iE_tQual:KE eJ:=⟨If⟩
structure aB where
 Datas:(List aS)
 Classes:(List eD)
 Instances:(List bN)
 Measures:(List ce)
 Quals:(List gj)
 Defs:(List kW)
def aX(x:aB):List PVal:=[sl aC x.Datas,sl ee x.Classes,sl bS x.Instances,sl cj x.Measures,sl eJ x.Quals,sl fF x.Defs]
theorem xe(x:aB):aX x=[sl aC x.Datas,sl ee x.Classes,sl bS x.Instances,sl cj x.Measures,sl eJ x.Quals,sl fF x.Defs]:=rfl
theorem rm(x:aB):dR 0 (aX x):=(aI (bq gF x.Datas) (aI (bq Fo x.Classes) (aI (bq yk x.Instances) (aI (bq AI x.Measures) (aI (bq If x.Quals) (aI (bq GT x.Defs) trivial))))))
instance iK_tModule{x:aB}:K0l (aX x):=⟨rm x⟩
theorem jP(x:aB):(aX x).length=6:=by rw[xe];rfl
theorem iw(x:aB):bu (.agg (aX x))=some (aX x):=rfl
theorem Sc:Pg.cellsOf 29=6:=by kernel_rfl
theorem gA(x:aB):aO Pg 29 (aX x)=some (.agg (aX x)):=by
 have:=gC (P:=Pg) (t:=29) (l:=aX x) (r:=[]) (by kernel_rfl) (Sc.trans (jP x).symm)
 rwa[vbb]at this
theorem gb(x:aB)(r:List PVal):aO Pg 29 ([sl aC x.Datas,sl ee x.Classes,sl bS x.Instances,sl cj x.Measures,sl eJ x.Quals,sl fF x.Defs]++r)=some (.agg (aX x)):=by
 rw[<-xe];exact gC (by kernel_rfl) (Sc.trans (jP x).symm)
theorem GN(x0:(List aS)):dy Pg 29 [(0,sl aC x0)]=some (.agg (aX (⟨x0,([]:List eD),([]:List bN),([]:List ce),([]:List gj),([]:List kW)⟩:aB))):=by
 kernel_rfl
theorem GL(x0:(List aS)):sI Pg 29 [(0,sl aC x0)] [(1,80),(2,85),(3,90),(4,94),(5,131)]:=by
 exact⟨[sl aC x0,.val fl,.val fl,.val fl,.val fl,.val fl],by kernel_rfl,(aI rfl (aI rfl (aI rfl (aI rfl (aI rfl vzz)))))⟩
theorem lO(x:aB):aE Pg 29 (.eptr (aX x)) 0=some (.eptr ((aX x).drop 0))/\aO Pg 22 ((aX x).drop 0)=some (sl aC x.Datas):=⟨by kernel_rfl,by kernel_rfl⟩
mutual
inductive aa where
 |mk (Op:Int) (N:Int) (Name:ai) (Kids:(List aa)) (Params:(List ai)) (Body:(List aj)) (Binds:(List aA))
inductive aA where
 |mk (Name:ai) (Value:aa)
end
def aa.Op:aa->Int
 |⟨x,_,_,_,_,_,_⟩=>x
def aa.N:aa->Int
 |⟨_,x,_,_,_,_,_⟩=>x
def aa.Name:aa->ai
 |⟨_,_,x,_,_,_,_⟩=>x
def aa.Kids:aa->(List aa)
 |⟨_,_,_,x,_,_,_⟩=>x
def aa.Params:aa->(List ai)
 |⟨_,_,_,_,x,_,_⟩=>x
def aa.Body:aa->(List aj)
 |⟨_,_,_,_,_,x,_⟩=>x
def aa.Binds:aa->(List aA)
 |⟨_,_,_,_,_,_,x⟩=>x
def aA.Name:aA->ai
 |⟨x,_⟩=>x
def aA.Value:aA->aa
 |⟨_,x⟩=>x
mutual
def ac:aa->List PVal
 |⟨x0,x1,x2,x3,x4,x5,x6⟩=>[.int .i64 x0,.int .i64 x1,.str x2,.slice (lQ x3),sl cS x4,sl ak x5,.slice (pp x6)]
def aL:aA->List PVal
 |⟨x0,x1⟩=>[.str x0]++(ac x1)
def lQ:List aa->List (List PVal)
 |[]=>[]
 |x::r=>ac x::lQ r
def pp:List aA->List (List PVal)
 |[]=>[]
 |x::r=>aL x::pp r
end
theorem AQ:∀(l:List aa),lQ l=l.map ac
 |[]=>by simp[lQ]
 |x::r=>by simp[lQ,AQ r]
theorem C0:∀(l:List aA),pp l=l.map aL
 |[]=>by simp[pp]
 |x::r=>by simp[pp,C0 r]
mutual
theorem cR:∀(x:aa),dR 0 (ac x)
 |⟨x0,x1,x2,x3,x4,x5,x6⟩=>by rw[ac];exact(aI vzz (aI vzz (aI vzz (aI (CB x3) (aI (bq JH x4) (aI (bq nQ x5) (aI (Fp x6) trivial)))))))
theorem yj:∀(x:aA),dR 0 (aL x)
 |⟨x0,x1⟩=>by rw[aL];exact kL.2 (aI ((aI vzz vzz)) (cR x1))
theorem CB:∀(l:List aa),lH 0 (lQ l)
 |[]=>by simp[lQ,lH]
 |x::r=>by rw[lQ];exact⟨cR x,CB r⟩
theorem Fp:∀(l:List aA),lH 0 (pp l)
 |[]=>by simp[pp,lH]
 |x::r=>by rw[pp];exact⟨yj x,Fp r⟩
end
theorem bm:∀(x:aa),ac x=[.int .i64 x.Op,.int .i64 x.N,.str x.Name,sl ac x.Kids,sl cS x.Params,sl ak x.Body,sl aL x.Binds]
 |⟨x0,x1,x2,x3,x4,x5,x6⟩=>by
  simp only[ac,AQ,C0]
  rfl
abbrev oh(x:aa):PVal:=.agg (ac x)
instance iK_tValue{x:aa}:K0l (ac x):=⟨cR x⟩
instance iE_tValue:KE ac:=⟨cR⟩
theorem xk(x:aa):(ac x).length=7:=by rw[bm];rfl
theorem bV(x:aa):bu (.agg (ac x))=some (ac x):=rfl
theorem kR(x:aa):bu (oh x)=some (ac x):=rfl
theorem dz(x:aa):bu (.agg (ac x))=some [.int .i64 x.Op,.int .i64 x.N,.str x.Name,sl ac x.Kids,sl cS x.Params,sl ak x.Body,sl aL x.Binds]:=by rw[bm];rfl
theorem J9(x:aa):∀q∈ac x,q.one=true:=by
 intro q hq
 rw[bm]at hq
 simp only[vaB,vbm,or_false]at hq
 rcases hq with rfl|rfl|rfl|rfl|rfl|rfl|rfl<;>rfl
theorem Pd:Pg.cellsOf 36=7:=by kernel_rfl
theorem KP:Pg.cellsOf 113=8:=by kernel_rfl
theorem al(x:aa):aO Pg 36 (ac x)=some (.agg (ac x)):=by
 have:=gC (P:=Pg) (t:=36) (l:=ac x) (r:=[]) (by kernel_rfl) (Pd.trans (xk x).symm)
 rwa[vbb]at this
theorem aF(x:aa)(r:List PVal):aO Pg 36 ([.int .i64 x.Op,.int .i64 x.N,.str x.Name,sl ac x.Kids,sl cS x.Params,sl ak x.Body,sl aL x.Binds]++r)=some (.agg (ac x)):=by
 rw[<-bm];exact gC (by kernel_rfl) (Pd.trans (xk x).symm)
theorem DF(x:aa):PVal.agg [.int .i64 x.Op,.int .i64 x.N,.str x.Name,sl ac x.Kids,sl cS x.Params,sl ak x.Body,sl aL x.Binds]=.agg (ac x):=by rw[bm]
theorem ls(x0:Int)(x1:Int):dy Pg 36 [(0,.int .i64 x0),(1,.int .i64 x1)]=some (.agg (ac (⟨x0,x1,([]:ai),([]:List aa),([]:List ai),([]:List aj),([]:List aA)⟩:aa))):=by
 simp only[bm]
 kernel_rfl
theorem lq(x0:Int)(x1:Int):sI Pg 36 [(0,.int .i64 x0),(1,.int .i64 x1)] [(3,36),(4,9),(5,52),(6,113)]:=by
 exact⟨[.int .i64 x0,.int .i64 x1,.str ([]:ai),.val fl,.val fl,.val fl,.val fl],by kernel_rfl,(aI rfl (aI rfl (aI rfl (aI rfl vzz))))⟩
theorem Ew(x0:Int)(x2:ai):dy Pg 36 [(0,.int .i64 x0),(2,.str x2)]=some (.agg (ac (⟨x0,0,x2,([]:List aa),([]:List ai),([]:List aj),([]:List aA)⟩:aa))):=by
 simp only[bm]
 kernel_rfl
theorem Eu(x0:Int)(x2:ai):sI Pg 36 [(0,.int .i64 x0),(2,.str x2)] [(3,36),(4,9),(5,52),(6,113)]:=by
 exact⟨[.int .i64 x0,.int .i64 0,.str x2,.val fl,.val fl,.val fl,.val fl],by kernel_rfl,(aI rfl (aI rfl (aI rfl (aI rfl vzz))))⟩
theorem rN(x0:Int)(x2:ai)(x3:(List aa)):dy Pg 36 [(0,.int .i64 x0),(2,.str x2),(3,sl ac x3)]=some (.agg (ac (⟨x0,0,x2,x3,([]:List ai),([]:List aj),([]:List aA)⟩:aa))):=by
 simp only[bm]
 kernel_rfl
theorem Bv(x0:Int)(x2:ai)(x3:(List aa)):sI Pg 36 [(0,.int .i64 x0),(2,.str x2),(3,sl ac x3)] [(4,9),(5,52),(6,113)]:=by
 exact⟨[.int .i64 x0,.int .i64 0,.str x2,sl ac x3,.val fl,.val fl,.val fl],by kernel_rfl,(aI rfl (aI rfl (aI rfl vzz)))⟩
theorem Ia(x0:Int):dy Pg 36 [(0,.int .i64 x0)]=some (.agg (ac (⟨x0,0,([]:ai),([]:List aa),([]:List ai),([]:List aj),([]:List aA)⟩:aa))):=by
 simp only[bm]
 kernel_rfl
theorem H8(x0:Int):sI Pg 36 [(0,.int .i64 x0)] [(3,36),(4,9),(5,52),(6,113)]:=by
 exact⟨[.int .i64 x0,.int .i64 0,.str ([]:ai),.val fl,.val fl,.val fl,.val fl],by kernel_rfl,(aI rfl (aI rfl (aI rfl (aI rfl vzz))))⟩
theorem aH(x:aa):aE Pg 36 (.eptr (ac x)) 0=some (.eptr ((ac x).drop 0))/\aO Pg 30 ((ac x).drop 0)=some (.int .i64 x.Op):=⟨by rw[bm];kernel_rfl,by rw[bm];kernel_rfl⟩
theorem az(x:aa):aE Pg 36 (.eptr (ac x)) 1=some (.eptr ((ac x).drop 1))/\aO Pg 3 ((ac x).drop 1)=some (.int .i64 x.N):=⟨by rw[bm];kernel_rfl,by rw[bm];kernel_rfl⟩
theorem aM(x:aa):aE Pg 36 (.eptr (ac x)) 2=some (.eptr ((ac x).drop 2))/\aO Pg 9 ((ac x).drop 2)=some (.str x.Name):=⟨by rw[bm];kernel_rfl,by rw[bm];kernel_rfl⟩
theorem av(x:aa):aE Pg 36 (.eptr (ac x)) 3=some (.eptr ((ac x).drop 3))/\aO Pg 31 ((ac x).drop 3)=some (sl ac x.Kids):=⟨by rw[bm];kernel_rfl,by rw[bm];kernel_rfl⟩
theorem dK(x:aa):aE Pg 36 (.eptr (ac x)) 4=some (.eptr ((ac x).drop 4))/\aO Pg 32 ((ac x).drop 4)=some (sl cS x.Params):=⟨by rw[bm];kernel_rfl,by rw[bm];kernel_rfl⟩
theorem bW(x:aa):aE Pg 36 (.eptr (ac x)) 5=some (.eptr ((ac x).drop 5))/\aO Pg 33 ((ac x).drop 5)=some (sl ak x.Body):=⟨by rw[bm];kernel_rfl,by rw[bm];kernel_rfl⟩
theorem cr(x:aa):aE Pg 36 (.eptr (ac x)) 6=some (.eptr ((ac x).drop 6))/\aO Pg 34 ((ac x).drop 6)=some (sl aL x.Binds):=⟨by rw[bm];kernel_rfl,by rw[bm];kernel_rfl⟩
theorem kg:∀(x:aA),aL x=[.str x.Name,.int .i64 x.Value.Op,.int .i64 x.Value.N,.str x.Value.Name,sl ac x.Value.Kids,sl cS x.Value.Params,sl ak x.Value.Body,sl aL x.Value.Binds]
 |⟨x0,x1⟩=>by
  simp only[aL,bm,vaO,va1]
  rfl
instance iK_tBind{x:aA}:K0l (aL x):=⟨yj x⟩
instance iE_tBind:KE aL:=⟨yj⟩
theorem zJ(x:aA):(aL x).length=8:=by rw[kg];rfl
theorem IR(x:aA):bu (.agg (aL x))=some (aL x):=rfl
theorem FY(x:aA):bu (.agg (aL x))=some [.str x.Name,.int .i64 x.Value.Op,.int .i64 x.Value.N,.str x.Value.Name,sl ac x.Value.Kids,sl cS x.Value.Params,sl ak x.Value.Body,sl aL x.Value.Binds]:=by rw[kg];rfl
theorem Mc(x:aA):∀q∈aL x,q.one=true:=by
 intro q hq
 rw[kg]at hq
 simp only[vaB,vbm,or_false]at hq
 rcases hq with rfl|rfl|rfl|rfl|rfl|rfl|rfl|rfl<;>rfl
theorem IB(x:aA):aO Pg 113 (aL x)=some (.agg (aL x)):=by
 have:=gC (P:=Pg) (t:=113) (l:=aL x) (r:=[]) (by kernel_rfl) (KP.trans (zJ x).symm)
 rwa[vbb]at this
theorem FL(x:aA)(r:List PVal):aO Pg 113 ([.str x.Name,.int .i64 x.Value.Op,.int .i64 x.Value.N,.str x.Value.Name,sl ac x.Value.Kids,sl cS x.Value.Params,sl ak x.Value.Body,sl aL x.Value.Binds]++r)=some (.agg (aL x)):=by
 rw[<-kg];exact gC (by kernel_rfl) (KP.trans (zJ x).symm)
theorem dc(x:aA):aE Pg 113 (.eptr (aL x)) 0=some (.eptr ((aL x).drop 0))/\aO Pg 9 ((aL x).drop 0)=some (.str x.Name):=⟨by rw[kg];kernel_rfl,by rw[kg];kernel_rfl⟩
theorem eG(x:aA):aE Pg 113 (.eptr (aL x)) 1=some (.eptr ((aL x).drop 1))/\aO Pg 36 ((aL x).drop 1)=some (.agg (ac x.Value)):=⟨by rw[kg];kernel_rfl,by rw[kg,bm];kernel_rfl⟩
theorem Ot:AF Pg 22 74 aC:=⟨underlying22,λx=>(zK x).trans Pj.symm,by kernel_rfl,by rw[Pj];decide,by kernel_rfl,va4 (by kernel_rfl),Md,gF⟩
theorem aZ:AF Pg 31 36 ac:=⟨underlying31,λx=>(xk x).trans Pd.symm,by kernel_rfl,by rw[Pd];decide,by kernel_rfl,va4 (by kernel_rfl),J9,cR⟩
theorem Uf:Pg.cellsOf 9=1:=by kernel_rfl
theorem sJ:AF Pg 32 9 cS:=⟨underlying32,λ_=>Uf.symm,by kernel_rfl,by rw[Uf];decide,by kernel_rfl,va4 (by kernel_rfl),Uv,JH⟩
theorem oC:AF Pg 33 52 ak:=⟨underlying33,λx=>(zL x).trans Ph.symm,by kernel_rfl,by rw[Ph];decide,by kernel_rfl,va4 (by kernel_rfl),Me,nQ⟩
theorem sL:AF Pg 34 113 aL:=⟨underlying34,λx=>(zJ x).trans KP.symm,by kernel_rfl,by rw[KP];decide,by kernel_rfl,va4 (by kernel_rfl),Mc,yj⟩
theorem fK:AF Pg 38 44 af:=⟨underlying38,λx=>(zN x).trans Pf.symm,by kernel_rfl,by rw[Pf];decide,by kernel_rfl,va4 (by kernel_rfl),Mg,dw⟩
theorem lV:AF Pg 40 42 am:=⟨underlying40,λx=>(zM x).trans Pe.symm,by kernel_rfl,by rw[Pe];decide,by kernel_rfl,va4 (by kernel_rfl),Mf,dj⟩
theorem uq:AF Pg 49 96 aG:=⟨underlying49,λx=>(xj x).trans Pk.symm,by kernel_rfl,by rw[Pk];decide,by kernel_rfl,va4 (by kernel_rfl),J8,qh⟩
theorem yO:AF Pg 50 98 bk:=⟨underlying50,λx=>(C5 x).trans Pl.symm,by kernel_rfl,by rw[Pl];decide,by kernel_rfl,va4 (by kernel_rfl),NW,yi⟩
theorem MD:AF Pg 72 76 aT:=⟨underlying72,λx=>(Iz x).trans QM.symm,by kernel_rfl,by rw[QM];decide,by kernel_rfl,va4 (by kernel_rfl),NX,lu⟩
theorem Vm:Pg.cellsOf 3=1:=by kernel_rfl
theorem Gk:AF Pg 146 3 (cI .i64):=⟨underlying146,λ_=>Vm.symm,by kernel_rfl,by rw[Vm];decide,by kernel_rfl,va4 (by kernel_rfl),(Sv .i64),(Ud .i64)⟩
theorem Te:Pg.cellsOf 5=1:=by kernel_rfl
theorem SN:AF Pg 150 5 (cI .u8):=⟨underlying150,λ_=>Te.symm,by kernel_rfl,by rw[Te];decide,by kernel_rfl,va4 (by kernel_rfl),(Sv .u8),(Ud .u8)⟩
theorem Ss(l:List ai)(n:Nat)(hn:(decide (l.length=n)&&decide (n * 1<=16777216))=true):dP Pg 32 n ((l.map PVal.str).zipIdx 0|>.map λx=>(x.2,x.1))=some (sl cS l):=sJ.mk' (v:=PVal.str) WE l n (by rw[Uf];exact hn)
theorem VE:(Pg.underlying 3).any Lt=true:=by kernel_rfl
theorem SU:(Pg.underlying 9).any Lt=true:=by kernel_rfl
theorem Uy:eY Pg 29=some [sl aC ([]:List aS),sl ee ([]:List eD),sl bS ([]:List bN),sl cj ([]:List ce),sl eJ ([]:List gj),sl fF ([]:List kW)]:=by kernel_rfl
theorem vI:eY Pg 36=some [.int .i64 0,.int .i64 0,.str ([]:ai),sl ac ([]:List aa),sl cS ([]:List ai),sl ak ([]:List aj),sl aL ([]:List aA)]:=by kernel_rfl
theorem SC:eY Pg 42=some [.int .i64 0,.str ([]:ai),.int .i64 0,sl am ([]:List ah)]:=by kernel_rfl
theorem Aa:eY Pg 44=some [.int .i64 0,.str ([]:ai),sl af ([]:List ae),sl cS ([]:List ai),.int .i64 0,.str ([]:ai),.int .i64 0,sl am ([]:List ah),sl am ([]:List ah)]:=by kernel_rfl
theorem SD:eY Pg 52=some [.int .i64 0,.str ([]:ai),.int .i64 0,sl ak ([]:List aj),sl aG ([]:List bO),sl bk ([]:List dE),sl af ([]:List ae)]:=by kernel_rfl
theorem E2:eY Pg 74=some [.str ([]:ai),sl cS ([]:List ai),sl cw ([]:List cq),sl aT ([]:List aP)]:=by kernel_rfl
theorem SE:eY Pg 76=some [.str ([]:ai),sl cS ([]:List ai),sl af ([]:List ae)]:=by kernel_rfl
theorem SF:eY Pg 96=some [.str ([]:ai),.int .i64 0,.str ([]:ai),sl af ([]:List ae),sl cS ([]:List ai),.int .i64 0,.str ([]:ai),.int .i64 0,sl am ([]:List ah),sl am ([]:List ah)]:=by kernel_rfl
theorem SG:eY Pg 98=some [.str ([]:ai),sl cS ([]:List ai),.int .i64 0,.str ([]:ai),.int .i64 0,sl ak ([]:List aj),sl aG ([]:List bO),sl bk ([]:List dE),sl af ([]:List ae)]:=by kernel_rfl
theorem Ql:eY Pg 113=some [.str ([]:ai),.int .i64 0,.int .i64 0,.str ([]:ai),sl ac ([]:List aa),sl cS ([]:List ai),sl ak ([]:List aj),sl aL ([]:List aA)]:=by kernel_rfl
theorem SB:eY Pg 135=some [sl aC ([]:List aS),sl ee ([]:List eD),sl bS ([]:List bN),sl cj ([]:List ce),sl eJ ([]:List gj),sl fF ([]:List kW),.val (.map none)]:=by kernel_rfl
def gG:List Int:=[1,10,100,1000,10000,100000,1000000,10000000,100000000,1000000000,10000000000,100000000000,1000000000000,10000000000000,100000000000000,1000000000000000,10000000000000000,100000000000000000,1000000000000000000,10000000000000000000]
theorem R5:Pg.cellsOf 238=20:=by kernel_rfl
theorem R3:Pg.cellsOf 217=1:=by kernel_rfl
def qk:List Int:=[0,1,28,2,29,14,24,3,30,22,20,15,25,17,4,8,31,27,13,23,21,19,16,7,26,12,18,6,11,5,10,9]
theorem Sa:Pg.cellsOf 252=32:=by kernel_rfl
def ql:List Int:=[0,1,56,2,57,49,28,3,61,58,42,50,38,29,17,4,62,47,59,36,45,43,51,22,53,39,33,30,24,18,12,5,63,55,48,27,60,41,37,16,46,35,44,21,52,32,23,11,54,26,40,15,34,20,31,10,25,14,19,9,13,8,7,6]
theorem Sb:Pg.cellsOf 253=64:=by kernel_rfl
def Ed:ai:=[116,114,117,101]
def zn:ai:=[102,97,108,115,101]
def iE:ai:=[110,101,119,32,40]
def uK:ai:=[41]
def ga:ai:=[32,40]
def dn:ai:=[44,32]
def Jp:ai:=[102,117,110]
def GE:List (Nat×List PVal):=[(1,gG.map (PVal.int .u64)),(2,qk.map (PVal.int .u8)),(3,ql.map (PVal.int .u8))]
abbrev OV(f:FuncId)(args:List PVal){R:Type}(o:Option R)(res:R->PVal)(ro:List (Nat×TypeId)):Prop:=Rr Pg GE f args o res ro
abbrev OU(m:Nat)(c:Code){X:Type}(o:Option X)(e:Exit)(u:X->List (Nat×PVal))(st:ax):Prop:=Tq Pg GE m c o e (λx=>WO st (u x)) st
abbrev OK(m:Nat)(c:Code){X:Type}(o:Option X)(ex:X->Exit)(so:X->ax)(st:ax):Prop:=Ts Pg GE m c o ex so st
abbrev OL(m:Nat)(c:Code){σ X:Type}(o:Option (σ⊕X))(S:σ->ax)(ex:X->Exit)(so:X->ax)(st:ax):Prop:=Rq Pg GE m c o S ex so st
abbrev waA:=List aa
abbrev waB:=List ai
abbrev waC:=List ae
abbrev waD:=List cq
abbrev waE:=List aP
abbrev waF:=List aj
abbrev waG:=List ah
abbrev waH:=List aA
abbrev waI:=List bO
abbrev waJ:=List dE
theorem Iu:∀n,(∀l,Sh Pg n 42 l->∃x,l=am x):=by
 intro n
 induction n using Nat.strongRecOn with
 | ind n ih =>
  cases n with
  |zero=>exact λl h=>h.elim
  | succ n =>
   exact λl h=>by
    unfold Sh at h
    rw[underlying42]at h
    obtain⟨a0,b0,rfl,_,h0,a1,b1,rfl,_,h1,a2,b2,rfl,_,h2,a3,b3,rfl,_,h3,rfl⟩:=h
    obtain⟨x0,rfl⟩:=(JY underlying39) n _ h0
    obtain⟨x1,rfl⟩:=(EN underlying9) n _ h1
    obtain⟨x2,rfl⟩:=(JY underlying3) n _ h2
    obtain⟨x3,rfl⟩:=CW underlying40 (c:=am) (λm hm=>(ih m (by omega))) _ h3
    exact⟨(⟨x0,x1,x2,x3⟩:ah),by rw[cC];rfl⟩
theorem Iv:∀n,(∀l,Sh Pg n 44 l->∃x,l=af x):=by
 intro n
 induction n using Nat.strongRecOn with
 | ind n ih =>
  cases n with
  |zero=>exact λl h=>h.elim
  | succ n =>
   exact λl h=>by
    unfold Sh at h
    rw[underlying44]at h
    obtain⟨a0,b0,rfl,_,h0,a1,b1,rfl,_,h1,a2,b2,rfl,_,h2,a3,b3,rfl,_,h3,a4,b4,rfl,_,h4,a5,b5,rfl,_,h5,rfl⟩:=h
    obtain⟨x0,rfl⟩:=(JY underlying37) n _ h0
    obtain⟨x1,rfl⟩:=(EN underlying9) n _ h1
    obtain⟨x2,rfl⟩:=CW underlying38 (c:=af) (λm hm=>(ih m (by omega))) _ h2
    obtain⟨x3,rfl⟩:=(JZ underlying32 (EN underlying9)) n _ h3
    obtain⟨x4,rfl⟩:=Iu n _ h4
    obtain⟨x5,rfl⟩:=(JZ underlying40 Iu) n _ h5
    exact⟨(⟨x0,x1,x2,x3,x4,x5⟩:ae),by rw[bg];(try simp only[cC]);rfl⟩
theorem L2:∀n,(∀l,Sh Pg n 96 l->∃x,l=aG x):=by
 intro n
 induction n using Nat.strongRecOn with
 | ind n ih =>
  cases n with
  |zero=>exact λl h=>h.elim
  | succ n =>
   exact λl h=>by
    unfold Sh at h
    rw[underlying96]at h
    obtain⟨a0,b0,rfl,_,h0,a1,b1,rfl,_,h1,rfl⟩:=h
    obtain⟨x0,rfl⟩:=(EN underlying9) n _ h0
    obtain⟨x1,rfl⟩:=Iv n _ h1
    exact⟨(⟨x0,x1⟩:bO),by rw[gX];(try simp only[bg]);(try simp only[cC]);rfl⟩
theorem Hd:∀n,(∀l,Sh Pg n 52 l->∃x,l=ak x)/\(∀l,Sh Pg n 98 l->∃x,l=bk x):=by
 intro n
 induction n using Nat.strongRecOn with
 | ind n ih =>
  cases n with
  |zero=>exact⟨λl h=>h.elim,λl h=>h.elim⟩
  | succ n =>
   exact⟨(λl h=>by
    unfold Sh at h
    rw[underlying52]at h
    obtain⟨a0,b0,rfl,_,h0,a1,b1,rfl,_,h1,a2,b2,rfl,_,h2,a3,b3,rfl,_,h3,a4,b4,rfl,_,h4,a5,b5,rfl,_,h5,a6,b6,rfl,_,h6,rfl⟩:=h
    obtain⟨x0,rfl⟩:=(JY underlying48) n _ h0
    obtain⟨x1,rfl⟩:=(EN underlying9) n _ h1
    obtain⟨x2,rfl⟩:=(JY underlying3) n _ h2
    obtain⟨x3,rfl⟩:=CW underlying33 (c:=ak) (λm hm=>(ih m (by omega)).1) _ h3
    obtain⟨x4,rfl⟩:=(JZ underlying49 L2) n _ h4
    obtain⟨x5,rfl⟩:=CW underlying50 (c:=bk) (λm hm=>(ih m (by omega)).2) _ h5
    obtain⟨x6,rfl⟩:=(JZ underlying38 Iv) n _ h6
    exact⟨(⟨x0,x1,x2,x3,x4,x5,x6⟩:aj),by rw[cx];rfl⟩),(λl h=>by
    unfold Sh at h
    rw[underlying98]at h
    obtain⟨a0,b0,rfl,_,h0,a1,b1,rfl,_,h1,a2,b2,rfl,_,h2,rfl⟩:=h
    obtain⟨x0,rfl⟩:=(EN underlying9) n _ h0
    obtain⟨x1,rfl⟩:=(JZ underlying32 (EN underlying9)) n _ h1
    obtain⟨x2,rfl⟩:=(ih n (vb9 n)).1 _ h2
    exact⟨(⟨x0,x1,x2⟩:dE),by rw[ke];(try simp only[cx]);rfl⟩)⟩
theorem Nw:In Pg 52 ak:=λn=>(Hd n).1
theorem EO:∀n,(∀l,Sh Pg n 36 l->∃x,l=ac x)/\(∀l,Sh Pg n 113 l->∃x,l=aL x):=by
 intro n
 induction n using Nat.strongRecOn with
 | ind n ih =>
  cases n with
  |zero=>exact⟨λl h=>h.elim,λl h=>h.elim⟩
  | succ n =>
   exact⟨(λl h=>by
    unfold Sh at h
    rw[underlying36]at h
    obtain⟨a0,b0,rfl,_,h0,a1,b1,rfl,_,h1,a2,b2,rfl,_,h2,a3,b3,rfl,_,h3,a4,b4,rfl,_,h4,a5,b5,rfl,_,h5,a6,b6,rfl,_,h6,rfl⟩:=h
    obtain⟨x0,rfl⟩:=(JY underlying30) n _ h0
    obtain⟨x1,rfl⟩:=(JY underlying3) n _ h1
    obtain⟨x2,rfl⟩:=(EN underlying9) n _ h2
    obtain⟨x3,rfl⟩:=CW underlying31 (c:=ac) (λm hm=>(ih m (by omega)).1) _ h3
    obtain⟨x4,rfl⟩:=(JZ underlying32 (EN underlying9)) n _ h4
    obtain⟨x5,rfl⟩:=(JZ underlying33 Nw) n _ h5
    obtain⟨x6,rfl⟩:=CW underlying34 (c:=aL) (λm hm=>(ih m (by omega)).2) _ h6
    exact⟨(⟨x0,x1,x2,x3,x4,x5,x6⟩:aa),by rw[bm];rfl⟩),(λl h=>by
    unfold Sh at h
    rw[underlying113]at h
    obtain⟨a0,b0,rfl,_,h0,a1,b1,rfl,_,h1,rfl⟩:=h
    obtain⟨x0,rfl⟩:=(EN underlying9) n _ h0
    obtain⟨x1,rfl⟩:=(ih n (vb9 n)).1 _ h1
    exact⟨(⟨x0,x1⟩:aA),by rw[kg];(try simp only[bm]);rfl⟩)⟩
theorem FB:In Pg 36 ac:=λn=>(EO n).1
open Go
abbrev Qx(GE:List (Nat×List PVal))(Γ:aw)(w:World):lX:=⟨GE,Γ,w,λ_=>False⟩
structure dO(GE:List (Nat×List PVal))(Γ:aw)(w:World):Prop where
 wi:∀b n,Γ b=some n->∃c t fr,w.heap[b]? =some (.cells c t fr)/\n<=c.size
 gl:∀g cs,(g,cs)∈GE->VR Γ [] w (.eptr cs) (.pointer (some ⟨g,0,none⟩))
 gc:∀g cs,(g,cs)∈GE->dR 0 cs
 gx:∀g cs,(g,cs)∈GE->g<w.heap.size/\∃c t fr,w.heap[g]? =some (.cells c t fr)/\c.size=cs.length
theorem VR.clo{Γ:aw}{bs bs':bh}{w:World}{p:PVal}{v:Value}(h:VR Γ bs w p v)(hc:p.cl 0):VR Γ bs' w p v:=h.restrict (n:=0) hc λi b hi _=>absurd hi (va7 _)
section
variable{P:Program}{E:lX}{Γ:aw}{bs:bh}{ow:Nat->Option i6}{w:World}{a:Array Value}{st:ax}
theorem SR.base(h:SR P E Γ bs ow w a st):dO E.GE Γ w where
 wi:=h.wi
 gl:=λg cs hg=>(h.gl g cs hg).clo (by simp only[PVal.cl];exact h.gc g cs hg)
 gc:=h.gc
 gx:=λg cs hg=>⟨(h.gnow hg).1,(h.gnow hg).2.2.2⟩
theorem dO.good{GE:List (Nat×List PVal)}(hB:dO GE Γ w):MV GE 0 (Qx GE Γ w) where
 ge:=rfl
 low:=λb n h=>by obtain⟨c,t,fr,h1,_⟩:=hB.wi b n h;exact(vaf.1 h1).1
 nt:=λ_ _ hb=>hb
 gl:=hB.gl
theorem dO.fresh{GE:List (Nat×List PVal)}(hB:dO GE Γ w)(k:Nat){tmps:List PVal}(hs:a.size=tmps.length)(hv:∀(t:Nat) p v,tmps[t]? =some p->a[t]? =some v->VR Γ [] w p v):SR P (Qx GE Γ w) Γ (List.replicate k none) (λ_=>none) w a ⟨tmps,List.replicate k .dead,[]⟩:=by
 have hno:∀(i b:Nat),(List.replicate k (none:Option Nat))[i]? =some (some b)->False:=λi b h=>by
  rw[vaW]at h
  split at h<;>simp at h
 exact{
  wi:=hB.wi
  sz:=hs
  tm:=λt p v hp hv'=>(hv t p v hp hv').mono (.refl _ _) (λi b h=>by simp at h)
  bl:=by simp
  bx:=λi b B hb=>(hno i b hb).elim
  inj:=λi j b hb=>(hno i b hb).elim
  bn:=λi b hb=>(hno i b hb).elim
  on:=λb L hL=>by cases hL
  ot:=λt k e he=>by simp at he
  ob:=λi j e cs own b _ _ hb=>(hno i b hb).elim
  gl:=λg cs hg=>(hB.gl g cs hg).mono (.refl _ _) (λi b h=>by simp at h)
  gc:=hB.gc
  gx:=λg cs hg=>⟨(hB.gx g cs hg).1,λh=>h,(hB.gx g cs hg).2⟩
  step:=.refl _ _ _ _}
theorem cN.wide{GE:List (Nat×List PVal)}{c:Code}{Q:Exit->ax->Prop}{st0:ax}(hS:cN P GE 0 c Q st0)(hB:dO GE Γ w){ow:Nat->Option i6}{bs:bh}(h:SR P (Qx GE Γ w) Γ bs ow w a st0)(n:Nat)(ds:List Deferred):c.wpIn Fence.wide n P (λe a' w'=>a'.defers=ds/\∃Γ' bs' ow' st',SR P (Qx GE Γ w) Γ' bs' ow' w' a'.tmps st'/\Q e st') ⟨a,ds⟩ w:=
 wpIn_wide.2 (wp_mono (hS none (Qx GE Γ w) [] ⟨a,ds⟩ w hB.good rfl ⟨Γ,bs,ow,h,λi hi=>absurd hi (va7 _)⟩) λe a' w' hq=>by
  obtain⟨hd,st',⟨Γ',bs',ow',h',_⟩,hQ⟩:=hq
  exact⟨hd,Γ',bs',ow',st',h',hQ⟩)
end
section
variable{P:Program}{n:Nat}{a:Act}{w:World}{next:Act->World->Prop}{Q:Exit->Act->World->Prop}
theorem Mh{o:Oper}(hd:co o=true)(h:o.wp P a w next Q):o.wpIn Fence.wide n P a w next Q:=by
 refine⟨λ_ _=>trivial,?_⟩
 have hs:o.semAt (Fence.wide).round a.eval=execOp a.eval o:=Oper.semAt_eq _ _ _ λc hc=>by unfold co at hd;rw[hc]at hd;cases hd
 rw[hs]
 unfold Oper.wp at h
 generalize (execOp a.eval o).run P w=r at *
 have hdep:(Fence.wide).depth.isSome=true->1<=n:=λh=>by simp[Fence.wide]at h
 cases r with
 | ok x w' =>
  cases x<;>simp only[Oper.upon]at h<;>simp only[Oper.uponIn]<;>first
   |exact h.elim
   |exact h
   |exact⟨hdep,callsIn_wide.2 h⟩
   | exact ⟨hdep,fun c cs _ => by
     obtain⟨v,w',r,s⟩:=h c cs
     exact⟨v,w',r,stepsIn_wide.2 s⟩⟩
 |halt x w'=>cases x<;>simp only[Oper.upon]at h<;>simp only[Oper.uponIn]<;>exact h
theorem zB{o:Oper}{f:Operand}{args:Array Operand}{tys:Array TypeId}(ho:o.op=.call {callee:=.value f,args:=args,argTypes:=tys}){g:FuncId}{fs cs:Array Value}(hf:a.eval f=.func (.func g) fs cs)
  (hc:∀vs w,(callFunc g vs).run P w=.ok (.enter g vs) w) {R:Ending->World->Prop} (h:CallsIn Fence.wide (n - 1) P g (fs++args.map a.eval++cs) w R) (hR:∀e w',R e w'->∃v,e=.returned v/\next (a.put o.dst v) w'):o.wpIn Fence.wide n P a w next Q:=by
 refine⟨λ_ _=>trivial,?_⟩
 have hs:o.semAt (Fence.wide).round a.eval=execOp a.eval o:=Oper.semAt_eq _ _ _ λc hc=>by rw[ho]at hc;cases hc
 have hrun:(execOp a.eval o).run P w=.ok (.enter g (fs++args.map a.eval++cs)) w:=by
  simp[execOp,ho,resolve,hf,Deferred.ofValue,invoke,hc]
 rw[hs,hrun,Oper.uponIn_enter]
 refine⟨λh=>by simp[Fence.wide]at h,h.mono λe w' hr=>?_⟩
 obtain⟨v,rfl,hx⟩:=hR e w' hr
 exact hx
theorem Kz{o:Oper}{f:Operand}{args:Array Operand}{tys:Array TypeId}(ho:o.op=.call {callee:=.value f,args:=args,argTypes:=tys}){l:Nat}(hf:a.eval f=.func (.yield l) #[] #[])
  {R:Ending->World->Prop} (h:YieldAt Fence.wide (n - 1) P l (args.map a.eval) w R) (hR:∀e w',R e w'->∃v,e=.returned v/\next (a.put o.dst v) w'):o.wpIn Fence.wide n P a w next Q:=by
 refine⟨λ_ _=>trivial,?_⟩
 have hs:o.semAt (Fence.wide).round a.eval=execOp a.eval o:=Oper.semAt_eq _ _ _ λc hc=>by rw[ho]at hc;cases hc
 obtain⟨fn,tmps,assign,body,hy,hr⟩:=h
 have hrun:(execOp a.eval o).run P w=.ok (.round l fn tmps assign body) w:=by
  simp[execOp,ho,resolve,hf,Deferred.ofValue,invoke,hy]
 rw[hs,hrun,Oper.uponIn_round]
 refine⟨λh=>by simp[Fence.wide]at h,hr.mono λe w' hr=>?_⟩
 obtain⟨v,rfl,hx⟩:=hR e w' hr
 exact hx
theorem bG{ops:Array Oper}{i:Nat}{rest:List Nat}{o:Oper}(ho:ops[i]? =some o)(hg:o.guard=none)(h:o.wpIn Fence.wide n P a w (wpOpsIn Fence.wide n P ops Q rest) Q):wpOpsIn Fence.wide n P ops Q (i::rest) a w:=by
 unfold wpOpsIn
 simp only[ho,Region.wanted,hg,if_true]
 exact h
end
def bP:Code->Array Oper
 |.region _ ops _=>ops
 |_=>#[]
def wh:Code->Nat
 |.region id _ _=>id
 |_=>0
def bw(c:Code)(i:Nat):Oper:=(bP c)[i]?.getD default
def Jm(o:Oper):Array TypeId:=match o.op with
 |.call c=>c.argTypes
 |_=>#[]
theorem Um{P:Program}{m:Nat}{sc:List It}{F:Prop}{st st0:ax}(h:PS sc F)(he:F=JW m sc st (λ_ st'=>FG st' st0)):ou P m st st0:=by
 obtain⟨_,st',hw,hf⟩:=xf (P:=P) (Eq.mp he h)
 exact hw.trans hf.weak
theorem cN.thenW{P:Program}{GE:List (Nat×List PVal)}{m:Nat}{c:Code}{e:Exit}{st0 st1 st2:ax}(h:cN P GE m c (EX e st1) st0)(hw:ou P m st1 st2):cN P GE m c (EX e st2) st0:=
 h.mono λe' st' hx=>⟨st2,hx.2▸hw,hx.1,rfl⟩
def Oq:Code->Code
 |.rangeFunc _ _ a _=>a
 |_=>.skip
def WF:Code->Code
 |.rangeFunc _ _ _ b=>b
 |_=>.skip
theorem nW{w:World}{b:Nat}{o:Obj}(h:w.heap[b]? =some o):b<w.heap.size:=(vaf.1 h).1
open Go Go.RowKit
set_option linter.unusedSimpArgs false
abbrev no:Nat->Prop:=λ_=>False
class OkF (F:Fence):Prop where h:∀{P:Program} {n:Nat} {a:Act} {w:World} {next:Act->World->Prop} {Q:Exit->Act->World->Prop} {o:Oper},co o=true->o.wp P a w next Q->o.wpIn F n P a w next Q
instance okW:OkF Fence.wide:=⟨Mh⟩
instance okR{l:Nat}:OkF (Fence.wide.inRound l):=⟨Ht⟩
theorem bK{F:Fence}{P:Program}{n:Nat}{ops:Array Oper}{Q:Exit->Act->World->Prop}{i:Nat}{rest:List Nat}{o:Oper}{a:Act}{w:World}(ho:ops[i]? =some o)(hg:o.guard=none)(h:o.wpIn F n P a w (wpOpsIn F n P ops Q rest) Q):wpOpsIn F n P ops Q (i::rest) a w:=by
 unfold wpOpsIn
 simp only[ho,Region.wanted,hg,if_true]
 exact h
structure Mv(GE:List (Nat×List PVal))(M:Nat->Prop)(Γ:aw)(w:World)(Γ':aw)(w':World):Prop where
 base:dO GE Γ' w'
 step:MZ ⟨GE,Γ,w,M⟩ Γ' w'
structure Fr(Γ:aw)(w:World)(a:Array Value)(tm:List PVal):Prop where
 sz:a.size=tm.length
 tm:∀(t:Nat) p v,tm[t]? =some p->a[t]? =some v->VR Γ [] w p v
section
variable{P:Program}{GE:List (Nat×List PVal)}{M M1:Nat->Prop}{Γ Γ1 Γ2 Γ':aw}{w w1 w2 w':World}{a:Array Value}{tm:List PVal}
theorem Mv.refl(hB:dO GE Γ w):Mv GE M Γ w Γ w:=⟨hB,MZ.refl _ _ _ _⟩
theorem Mv.size(h:Mv GE M Γ w Γ' w'):w.heap.size<=w'.heap.size:=h.step.size
theorem Mv.le(h:Mv GE M Γ w Γ' w'):Γ.Le w Γ' w':=h.step.le
theorem Mv.keep(h:Mv GE M Γ w Γ' w'){b:Nat}(hb:b<w.heap.size)(hM:¬M b):w'.heap[b]? =w.heap[b]?:=(h.step.keep b hb hM).1
theorem Mv.gk(h:Mv GE M Γ w Γ' w'){b:Nat}(hb:b<w.heap.size)(hM:¬M b):Γ' b=Γ b:=(h.step.keep b hb hM).2
theorem Mv.trans(h:Mv GE M Γ w Γ1 w1)(h':Mv GE M1 Γ1 w1 Γ2 w2)(hM:∀b,M1 b->M b\/w.heap.size<=b):Mv GE M Γ w Γ2 w2:=⟨h'.base,{
 os:=h'.step.os.trans h.step.os
 tape:=h'.step.tape.trans h.step.tape
 output:=h'.step.output.trans h.step.output
 size:=vaw h.step.size h'.step.size
 drawn:=vaw h.step.drawn h'.step.drawn
 keep:=λb hb hn=>by
  have hb1:b<w1.heap.size:=vaE hb h.step.size
  have hn1:¬M1 b:=λhx=>(hM b hx).elim hn λhx=>absurd hx (vcl.2 hb)
  exact⟨(h'.step.keep b hb1 hn1).1.trans (h.step.keep b hb hn).1,(h'.step.keep b hb1 hn1).2.trans (h.step.keep b hb hn).2⟩
 le:=h.step.le.trans h'.step.le}⟩
theorem Mv.mono(h:Mv GE M1 Γ w Γ1 w1)(hM:∀b,M1 b->M b\/w.heap.size<=b):Mv GE M Γ w Γ1 w1:=⟨h.base,{h.step with keep:=λb hb hn=>h.step.keep b hb λhx=>(hM b hx).elim hn λhx=>absurd hx (vcl.2 hb)}⟩
theorem Mv.of{bs:bh}{ow:Nat->Option i6}{st:ax}(h:SR P ⟨GE,Γ,w,M⟩ Γ' bs ow w' a st):Mv GE M Γ w Γ' w':=⟨h.base,h.step⟩
theorem Fr.mv(h:Fr Γ w a tm)(hle:Γ.Le w Γ' w'):Fr Γ' w' a tm:=⟨h.sz,λt p v hp hv=>(h.tm t p v hp hv).mono hle (.refl _)⟩
theorem Fr.set(h:Fr Γ w a tm){d:Nat}{p:PVal}{v:Value}(hv:VR Γ [] w p v):Fr Γ w (a.setIfInBounds d v) (tm.set d p):=⟨by simp[h.sz],λt q u hq hu=>by
 simp only[vbj]at hq
 rw[vbf]at hu
 by_cases hdt:d=t
 ·subst hdt
  simp only[if_true]at hq hu
  split at hu
  ·split at hq
   ·cases hu;cases hq;exact hv
   ·cases hq
  ·cases hu
 ·simp only[hdt,if_false]at hq hu
  exact h.tm t q u hq hu⟩
theorem Fr.forget(h:Fr Γ w a tm){tm':List PVal}(hf:Fw tm tm'=tm'):Fr Γ w a tm':=⟨by rw[h.sz,<-G6 (l:=tm) (bs:=tm'),hf],λt p v hp hv=>by
 rw[<-hf]at hp
 rcases G5 hp with rfl|hp'
 ·exact .undef v
 ·exact h.tm t p v hp' hv⟩
theorem Fr.of{E:lX}{bs:bh}{ow:Nat->Option i6}{st:ax}(h:SR P E Γ bs ow w a st)(hc:dR 0 st.tmps):Fr Γ w a st.tmps:=⟨h.sz,λt p v hp hv=>(h.tm t p v hp hv).clo (gr hc hp)⟩
theorem Fr.sr(h:Fr Γ w a tm)(hB:dO GE Γ w)(k:Nat):SR P (Qx GE Γ w) Γ (List.replicate k none) (λ_=>none) w a ⟨tm,List.replicate k .dead,[]⟩:=hB.fresh k h.sz h.tm
theorem Fr.get(h:Fr Γ w a tm){t:Nat}{p:PVal}(hp:tm[t]? =some p):∃v,a[t]? =some v/\VR Γ [] w p v:=by
 have ht:t<a.size:=by rw[h.sz];exact ag hp
 exact⟨a[t],vaF ht,h.tm t p _ hp (vaF ht)⟩
theorem Fr.ev(h:Fr Γ w a tm){t:Nat}{p:PVal}(hp:tm[t]? =some p)(ds:List Deferred):VR Γ [] w p ((Act.mk a ds).eval (.tmp t)):=by
 obtain⟨v,hv,hr⟩:=h.get hp
 rw[show(Act.mk a ds).eval (.tmp t)=v from aJ hv]
 exact hr
theorem Fr.evb(h:Fr Γ w a tm){t:Nat}{x:Bool}(hp:tm[t]? =some (.bool x))(ds:List Deferred):(Act.mk a ds).eval (.tmp t)=.bool x:=by
 have:=h.ev hp ds
 generalize (Act.mk a ds).eval (.tmp t)=v at this
 cases this;rfl
theorem Fr.raw(h:Fr Γ w a tm){t:Nat}{u:Value}(hp:tm[t]? =some (.val u)):a[t]? =some u:=by
 obtain⟨v,hv,hr⟩:=h.get hp
 cases hr;exact hv
theorem Fr.piece{k n:Nat}{c:Code}{e:Exit}{st1:ax}(hS:cN P GE 0 c (EX e st1) ⟨tm,List.replicate k .dead,[]⟩)(hB:dO GE Γ w)(h:Fr Γ w a tm)(ds:List Deferred):c.wpIn Fence.wide n P (λe' a' w'=>e'=e/\a'.defers=ds/\∃Γ' bs' ow',SR P (Qx GE Γ w) Γ' bs' ow' w' a'.tmps st1) ⟨a,ds⟩ w:=by
 refine wpIn_mono (hS.wide hB (h.sr hB k) n ds) ?_
 rintro e' a' w' ⟨hd,Γ',bs',ow',st',h',rfl,rfl⟩
 exact⟨rfl,hd,Γ',bs',ow',h'⟩
theorem Fr.piece0{k n:Nat}{c:Code}{e:Exit}{st1:ax}(hS:cN P GE 0 c (EX e st1) ⟨tm,List.replicate k .dead,[]⟩)(hB:dO GE Γ w)(h:Fr Γ w a tm)(hc:dR 0 st1.tmps)(ds:List Deferred):c.wpIn Fence.wide n P (λe' a' w'=>e'=e/\a'.defers=ds/\∃Γ',Mv GE no Γ w Γ' w'/\Fr Γ' w' a'.tmps st1.tmps) ⟨a,ds⟩ w:=by
 refine wpIn_mono (h.piece hS hB ds) ?_
 rintro e' a' w' ⟨he,hd,Γ',bs',ow',h'⟩
 exact⟨he,hd,Γ',.of h',.of h' hc⟩
theorem dO.lt(hB:dO GE Γ w){b n:Nat}(h:Γ b=some n):b<w.heap.size:=by
 obtain⟨c,t,fr,h1,_⟩:=hB.wi b n h
 exact nW h1
theorem dO.world(hB:dO GE Γ w)(hle:Γ.Le w Γ' w')(hwi:∀b n,Γ' b=some n->∃c t fr,w'.heap[b]? =some (.cells c t fr)/\n<=c.size)(hsz:w.heap.size<=w'.heap.size)(hg:∀g cs,(g,cs)∈GE->w'.heap[g]? =w.heap[g]?):dO GE Γ' w' where
 wi:=hwi
 gl:=λg cs h=>(hB.gl g cs h).mono hle (.refl _)
 gc:=hB.gc
 gx:=λg cs h=>by
  obtain⟨h1,c,t,fr,h2,h3⟩:=hB.gx g cs h
  exact⟨vaE h1 hsz,c,t,fr,(hg g cs h).trans h2,h3⟩
end
def ni(GE:List (Nat×List PVal))(Γ:aw)(w:World)(b:Nat):Prop:=Γ b=none/\b<w.heap.size/\∀g cs,(g,cs)∈GE->g≠b
structure fk(P:Program)(GE:List (Nat×List PVal))(e:TypeId)(Γ:aw)(w:World)(cs:List PVal)(n:Nat)(v:Value):Prop where
 row:∃xs,w.ownsRow 0 e (P.cellsOf e) v n xs/\xs.length=cs.length/\(∀u∈xs,u.oneCell'=true)/\∀(i:Nat) p u,cs[i]? =some p->xs[i]? =some u->VR Γ [] w p u
 off:∀b,v.ownBlock=some b->ni GE Γ w b
section
variable{P:Program}{GE:List (Nat×List PVal)}{e:TypeId}{M:Nat->Prop}{Γ Γ':aw}{w w':World}{cs:List PVal}{n:Nat}{v:Value}
theorem ni.mv{b:Nat}(h:ni GE Γ w b)(hm:Mv GE M Γ w Γ' w')(hM:¬M b):ni GE Γ' w' b:=⟨(hm.gk h.2.1 hM).trans h.1,vaE h.2.1 hm.size,h.2.2⟩
theorem fk.mv(h:fk P GE e Γ w cs n v)(hm:Mv GE M Γ w Γ' w')(hM:∀b,v.ownBlock=some b->¬M b):fk P GE e Γ' w' cs n v:=by
 obtain⟨xs,h1,h2,h3,h4⟩:=h.row
 exact⟨⟨xs,yC h1 λb hb=>hm.keep (h.off b hb).2.1 (hM b hb),h2,h3,λi p u hp hu=>(h4 i p u hp hu).mono hm.le (.refl _)⟩,λb hb=>(h.off b hb).mv hm (hM b hb)⟩
theorem Mv.raw(hB:dO GE Γ w)(hos:w'.os=w.os)(htp:w'.tape=w.tape)(hout:w'.output=w.output)(hsz:w.heap.size<=w'.heap.size)(hdr:dr GE w<=dr GE w')
  (hk:∀b,b<w.heap.size->¬M b->w'.heap[b]? =w.heap[b]?) (hM:∀b,M b->ni GE Γ w b\/w.heap.size<=b):Mv GE M Γ w Γ w':=by
 have hk':∀b n,Γ b=some n->w'.heap[b]? =w.heap[b]?:=λb n hb=>hk b (hB.lt hb) λhm=>by
  rcases hM b hm with h|h
  ·rw[h.1]at hb;cases hb
  ·have:=hB.lt hb;omega
 have hle:Γ.Le w Γ w':=λb n hb _=>⟨n,hb,vak _,λo _=>bH (hk' b n hb) o⟩
 refine⟨hB.world hle (λb n hb=>?_) hsz (λg cs hg=>?_),⟨hos,htp,hout,hsz,hdr,λb hb hn=>⟨hk b hb hn,rfl⟩,hle⟩⟩
 ·obtain⟨c,t,fr,h1,h2⟩:=hB.wi b n hb
  exact⟨c,t,fr,(hk' b n hb).trans h1,h2⟩
 ·refine hk g (hB.gx g cs hg).1 λhm=>?_
  rcases hM g hm with h|h
  ·exact h.2.2 g cs hg rfl
  ·have:=(hB.gx g cs hg).1;omega
end
theorem Mv.drawn{GE:List (Nat×List PVal)}{M:Nat->Prop}{Γ:aw}{w:World}(hB:dO GE Γ w)(k:Nat):Mv GE M Γ w Γ {w with drawn:=w.drawn+k}:=Mv.mono (M1:=no) (Mv.raw hB rfl rfl rfl (vak _) (jy (vbJ _ _)) (λ_ _ _=>rfl) (λb hb=>hb.elim)) (λb hb=>hb.elim)
theorem Nn{F:Fence}{n:Nat}{P:Program}{ops:Array Oper}{Q:Exit->Act->World->Prop}(hg:∀(i:Nat) (o:Oper),ops[i]? =some o->o.guard=none)
  (hord:∀(k:Nat) (x:Oper),ops[k]? =some x->∀e∈x.after.toList,Region.binds .any e=true->e.on<k) (I:(Nat->Prop)->Act->World->Prop)
  (hstep:∀(L:Nat->Prop) a w i o,I L a w->ops[i]? =some o->¬L i->(∀e∈o.after.toList,Region.binds .any e=true->L e.on)->o.wpIn F n P a w (λa' w'=>I (λj=>L j\/j=i) a' w') Q)
  (hfin:∀L a w,I L a w->(∀i,i<ops.size->L i)->Q .normal a w):
  ∀(fuel:Nat) (listed:Array Bool) (a:Act) (w:World),listed.size=ops.size->I (ba listed) a w->gL ops.size listed<=fuel->wpAnyIn F n P .any ops Q fuel listed a w:=by
 have hready:∀listed:Array Bool,listed.size=ops.size->Region.ready .any ops listed=[]->∀j,j<ops.size->ba listed j:=by
  intro listed hs hr j
  induction j using Nat.strongRecOn with
  | _ j ih =>
   intro hj
   by_cases hl:ba listed j
   ·exact hl
   ·exfalso
    have hoj:ops[j]? =some ops[j]:=by simp[hj]
    have:j∈Region.ready .any ops listed:=mem_ready.2 ⟨by
     unfold ba at hl
     have:j<listed.size:=by omega
     simp[this]at hl ⊢;exact hl,_,hoj,λe he hb=>by
     have hlt:=hord j _ hoj e (by simpa using he) hb
     exact ih e.on hlt (by omega)⟩
    rw[hr]at this;cases this
 intro fuel
 induction fuel with
 | zero =>
  intro listed a w hs hI hu
  have hall:∀j,j<ops.size->ba listed j:=by
   intro j hj
   by_cases hl:ba listed j
   ·exact hl
   ·exfalso
    have:j∈(List.range ops.size).filter λi=>!listed.getD i false:=by
     rw[vaV,vbi]
     exact⟨hj,by unfold ba at hl;simpa using hl⟩
    have:=vcw this
    unfold gL at hu
    omega
  refine⟨?_,hfin _ a w hI hall⟩
  rw[vbl]
  intro j hj
  obtain⟨h0,o,ho,_⟩:=mem_ready.1 hj
  have hlt:=(vaf.1 ho).1
  have:=hall j hlt
  unfold ba at this
  have hls:j<listed.size:=by omega
  simp[hls]at this h0
  rw[this]at h0;cases h0
 | succ fuel ih =>
  intro listed a w hs hI hu
  refine⟨λhr=>hfin _ a w hI (hready listed hs hr),λj hj=>?_⟩
  obtain⟨h0,o,ho,ha⟩:=mem_ready.1 hj
  have hlt:=(vaf.1 ho).1
  have hls:j<listed.size:=by omega
  have hnl:¬ba listed j:=by unfold ba;simp[hls]at h0 ⊢;exact h0
  have hu2:gL ops.size (listed.setIfInBounds j true)<gL ops.size listed:=by
   unfold gL
   refine AN (λi hi=>?_) (vbi.2 hlt) ?_ ?_
   ·have hnl:¬ba (listed.setIfInBounds j true) i:=by unfold ba;simpa using hi
    have:¬ba listed i:=λhx=>hnl ((cH hls).2 (.inr hx))
    unfold ba at this;simpa using this
   ·simp[hls]at h0;simp[hls,h0]
   ·simp[hls]
  have hw:Region.wanted o (yielded ops a.tmps)=true:=by simp[Region.wanted,hg j o ho]
  unfold wpOpIn
  rw[ho]
  simp only
  rw[vaA hw]
  refine Oper.wpIn_mono (λa' w' hI'=>ih _ a' w' (by simp[hs]) ?_ (by omega)) (hstep (ba listed) a w j o hI ho hnl λe he hb=>ha e (by simpa using he) hb)
  have:(λi=>ba listed i\/i=j)=ba (listed.setIfInBounds j true):=funext λi=>propext ⟨λh=>(cH hls).2 (h.symm.imp_left λh=>h),λh=>((cH hls).1 h).symm.imp_right λh=>h⟩
  rw[<-this]
  exact hI'
theorem CH{F:Fence}{n:Nat}{P:Program}{ops:Array Oper}{id:Nat}{Q:Exit->Act->World->Prop}(hm:P.follows .mixedOrders=true)(hg:ops.toList.all (λo=>o.guard.isNone)=true)
  (hord:(List.range ops.size).all (λk=>((ops[k]?).map λx=>x.after.toList.all λe=>!Region.binds .any e||decide (e.on<k)).getD true)=true) (I:(Nat->Prop)->Act->World->Prop)
  (hstep:∀(L:Nat->Prop) a w i o,I L a w->ops[i]? =some o->¬L i->(∀e∈o.after.toList,Region.binds .any e=true->L e.on)->o.wpIn F n P a w (λa' w'=>I (λj=>L j\/j=i) a' w') Q)
  (hfin:∀L a w,I L a w->(∀i,i<ops.size->L i)->Q .normal a w) {a:Act} {w:World} (h0:I (λ_=>False) a {w with drawn:=w.drawn+1}):(Code.region id ops true).wpIn F n P Q a w:=by
 refine wpIn_region_any hm (Nn (λi o ho=>?_) (λk x hx e he hb=>?_) I hstep hfin _ _ _ _ (by simp) ?_ ?_)
 ·have:=vap.1 hg o (by have:=vb6 ho;simpa using this)
  simpa using this
 ·have:=vap.1 hord k (vbi.2 (vaf.1 hx).1)
  rw[hx]at this
  have:=vap.1 (by simpa only[van,Option.getD_some]using this) e he
  rw[hb]at this
  simpa using this
 ·have:(ba (Array.replicate ops.size false))=λ_=>False:=funext λi=>propext ⟨λh=>by unfold ba at h;rw[vaC,vcm]at h;split at h<;>simp at h,λh=>h.elim⟩
  rw[this];exact h0
 ·unfold gL
  refine vaw (vcB _ _) ?_
  simp
section
variable{P:Program}{GE:List (Nat×List PVal)}{Γ:aw}{w:World}{a:Array Value}{tm:List PVal}{ds:List Deferred}{n:Nat}{next:Act->World->Prop}{Q:Exit->Act->World->Prop}{Fc:Fence}[hF:OkF Fc]
theorem cy{o:Oper}{v:Value}{w':World}(hd:co o=true)(h:(execOp (Act.mk a ds).eval o).run P w=.ok (.value v) w')(hn:next ((Act.mk a ds).put o.dst v) w'):o.wpIn Fc n P ⟨a,ds⟩ w next Q:=
 hF.h hd (by unfold Oper.wp;rw[h,Oper.upon_value];exact hn)
theorem jS{o:Oper}{w':World}(hd:co o=true)(h:(execOp (Act.mk a ds).eval o).run P w=.ok .skip w')(hn:next ((Act.mk a ds).put o.dst undef) w'):o.wpIn Fc n P ⟨a,ds⟩ w next Q:=
 hF.h hd (by unfold Oper.wp;rw[h];exact hn)
theorem Fr.op(h:Fr Γ w a tm)(hB:dO GE Γ w){o:Oper}{p:PVal}(hd:co o=true)(hm:au o.op=false)(hp:io P o.op 0 (opv GE tm) []=some (p,[]))
  (hn:∀v Γ' w',Mv GE no Γ w Γ' w'->VR Γ' [] w' p v->next ((Act.mk a ds).put o.dst v) w'):o.wpIn Fc n P ⟨a,ds⟩ w next Q:=by
 obtain⟨r,v,w',Γ',bs',hrun,hr,hS,hv,hle,hb,_⟩:=Gb (h.sr (P:=P) hB 0) ds (λhx=>by rw[hm]at hx;cases hx) hp
 have hbs:bs'=[]:=by
  rcases hb with rfl|⟨h1,_⟩
  ·rfl
  ·rw[hm]at h1;cases h1
 subst hbs
 have hx:=hn v Γ' w' (.of hS) hv
 rcases hr with rfl|⟨rfl,rfl⟩
 ·exact cy hd hrun hx
 ·exact jS hd hrun hx
def vC(w:World)(b:Nat)(v:Value):Prop:=∃t,w.heap[b]? =some (.cells #[v] t (0,0))
theorem vC.mv{M:Nat->Prop}{Γ':aw}{w':World}{b:Nat}{v:Value}(h:vC w b v)(hm:Mv GE M Γ w Γ' w')(hM:¬M b):vC w' b v:=by
 obtain⟨t,h⟩:=h
 exact⟨t,(hm.keep (nW h) hM).trans h⟩
theorem vC.load{T:TypeId}{b:Nat}{v:Value}(hsc:(P.underlying T).any Lt=true)(h:vC w b v):(Instr.loadAt T (.pointer (some ⟨b,0,none⟩))).run P w=.ok v w:=by
 obtain⟨t,h⟩:=h
 have hcell:w.cell? ⟨b,0,none⟩=some v:=by rw[cell_of_row w b 0 _ t _ h];rfl
 obtain⟨v',hr,hv'⟩:=fV (P:=P) (w:=w) (Γ:=λ_=>none) (bs:=[]) (b:=b) (off:=0) (cs:=[.val v]) (vals:=λ_=>v) (uf hsc _ _)
  (λk q hq=>by
   have hk0:k=0:=by have:=ag hq;simp at this;exact this
   subst hk0;exact hcell)
  (λk q hq=>by
   have hk0:k=0:=by have:=ag hq;simp at this;exact this
   subst hk0;simp at hq;subst hq;exact .val v)
 cases hv'
 simp[Instr.loadAt,Instr.sureAddr,hr]
theorem vC.store{T:TypeId}{b:Nat}{v u:Value}(hB:dO GE Γ w)(hinf:(P.info? T).isSome=true)(h1:P.cellsOf T=1)(hu:u.oneCell'=true)(h:vC w b v)(ho:ni GE Γ w b):∃w',(Instr.storeAt T (.pointer (some ⟨b,0,none⟩)) u).run P w=.ok () w'/\Mv GE (λx=>x=b) Γ w Γ w'/\vC w' b u:=by
 obtain⟨t,h⟩:=h
 obtain⟨inf,hinf⟩:=vaD.1 hinf
 have hc:u.cells=#[u]:=tO hu
 have hst:=run_storeCells_at P b 0 t [u] 0 #[v] w h (by simp) (by simpa using hu)
 refine⟨w.setRow b #[u],?_,Mv.raw hB rfl rfl rfl (by simp) (vak _) (λx _ hx=>setRow_other w b x _ hx) (λx hx=>.inl (hx▸ho)),t,?_⟩
 ·simp[Instr.storeAt,Instr.sureAddr,storeVar,run_sizeOf w hinf,hc,h1]
  simpa using hst
 ·exact iz w b _ _ t _ h
end
structure Rp(P:Program)(T e:TypeId):Prop where
 u:P.underlying T=some (.slice e)
 q:(P.info? e).any (λi=>(i.zero.any λz=>z.cells.size==i.size)&&decide (0<i.size)&&decide (i.bytes<=65536))=true
theorem Rp.get{P:Program}{T e:TypeId}(h:Rp P T e):∃i z,P.info? e=some i/\i.zero=some z/\z.cells.size=i.size/\0<i.size/\i.bytes<=65536/\P.cellsOf e=i.size:=by
 have hq:=h.q
 cases hi:P.info? e with
 |none=>rw[hi]at hq;cases hq
 | some i0 =>
  rw[hi]at hq
  simp only[Option.any_some,vae,vam]at hq
  obtain⟨⟨h1,h2⟩,h3⟩:=hq
  cases hz:i0.zero with
  |none=>rw[hz]at h1;cases h1
  |some z=>
   rw[hz]at h1
   simp only[Option.any_some,vaY]at h1
   exact⟨i0,z,rfl,hz,h1,h2,h3,by simp[Program.cellsOf,hi]⟩
section
variable{P:Program}{GE:List (Nat×List PVal)}{Γ:aw}{w:World}{T e:TypeId}
theorem NV{zs:List PVal}{x:Value}(hx:VR Γ [] w (.slice [zs]) x)(h1:∀q∈zs,q.one=true):∃(a:Addr) (c:Nat) (news:List Value),x=.slice (some a) 1 c/\news.length=zs.length/\(∀(j:Nat) u,news[j]? =some u->w.cell? (a.add j)=some u)/\(∀u∈news,u.oneCell'=true)/\∀(i:Nat) p u,zs[i]? =some p->news[i]? =some u->VR Γ [] w p u:=by
 cases hx with
 | slice _ b off cap n sz vals hz0 hcap hg hn hsz hc hv =>
  have hget:∀(j:Nat) u,((List.range zs.length).map (vals 0))[j]? =some u->∃p,zs[j]? =some p/\u=vals 0 j:=by
   intro j u hu
   rw[vay]at hu
   by_cases hj:j<zs.length
   ·rw[vbn hj]at hu
    simp only[van,vas]at hu
    exact⟨_,vaa hj,hu.symm⟩
   ·rw[vaS (by simp;omega)]at hu;cases hu
  refine⟨⟨b,off,none⟩,cap,(List.range zs.length).map (vals 0),rfl,by simp,λj u hu=>?_,λu hu=>?_,λi p u hp hu=>?_⟩
  ·obtain⟨p,hp,rfl⟩:=hget j u hu
   have:=hc 0 zs j p rfl hp
   rw[Addr.add_lit]
   simpa using this
  ·obtain⟨j,hj⟩:=vbG hu
   obtain⟨p,hp,rfl⟩:=hget j u hj
   exact VR.one (hv 0 zs j p rfl hp) (h1 p (var hp))
  ·obtain⟨p',hp',rfl⟩:=hget i u hu
   rw[hp']at hp;cases hp
   exact hv 0 zs i _ rfl hp'
theorem wY{cs zs:List PVal}{xs news:List Value}(hl:xs.length=cs.length)(h:∀(i:Nat) p u,cs[i]? =some p->xs[i]? =some u->VR Γ [] w p u)(h':∀(i:Nat) p u,zs[i]? =some p->news[i]? =some u->VR Γ [] w p u):∀(i:Nat) p u,(cs++zs)[i]? =some p->(xs++news)[i]? =some u->VR Γ [] w p u:=λi p u hp hu=>by
 by_cases hi:i<cs.length
 ·rw[vac hi]at hp
  rw[vac (by omega)]at hu
  exact h i p u hp hu
 ·rw[vad (by omega)]at hp
  rw[vad (by omega),hl]at hu
  exact h' _ p u hp hu
theorem fk.append(hE:Rp P T e)(hB:dO GE Γ w){cs zs:List PVal}{k:Nat}{v x:Value}(h:fk P GE e Γ w cs k v)(hx:VR Γ [] w (.slice [zs]) x)(hzl:zs.length=P.cellsOf e)(hzo:∀q∈zs,q.one=true)(hk:k+1<=ct)(ty:TypeId):∃v' w',(Builtin.append_ #[T,T] ty #[v,x]).run P w=.ok v' w'/\Mv GE (λb=>v.ownBlock=some b) Γ w Γ w'/\fk P GE e Γ w' (cs++zs) (k+1) v'/\(∀b,v'.ownBlock=some b->v.ownBlock=some b\/w.heap.size<=b)/\∃g cap,v'=.slice (some ⟨g,0,none⟩) (k+1) cap:=by
 obtain⟨i,z,hi,hz,hzs,hsz,hby,hco⟩:=hE.get
 obtain⟨xs,hown,hxl,hx1,hxv⟩:=h.row
 obtain⟨ad,c,news,rfl,hnl,hnc,hn1,hnv⟩:=NV hx hzo
 have hnl':news.length=1 * P.cellsOf e:=by rw[vbE,hnl,hzl]
 have hb:(k+1) * i.bytes<=140737488355328:=by
  have:(k+1) * i.bytes<=1073741824 * 65536:=vb3 (by unfold ct at hk;omega) hby
  omega
 obtain⟨v',w',hrun,hcase⟩:=rb (P:=P) (ty:=ty) (m:=1) hE.u hi hz hco.symm (hzs.trans hco.symm) (by rw[hco];exact hsz) hown (.inr ⟨ad,c,rfl,hnc⟩) hnl' hn1 (by unfold maxLen;unfold ct at hk;omega) hb
 have hlen:(xs++news).length=(k+1) * P.cellsOf e:=by rw[vat,hown.1,hnl',vaP]
 have hcl:(xs++news).length=(cs++zs).length:=by rw[vat,vat,hxl,hnl]
 have h1:∀u∈xs++news,u.oneCell'=true:=λu hu=>(vaI.1 hu).elim (hx1 u) (hn1 u)
 rcases hcase with⟨_,_,h0⟩|⟨g,cap,cur,rfl,hg,hcs,hcm,htake,hroom,rfl,rfl⟩|⟨cap,rest,g1,g2,g3,rfl,rfl⟩
 ·cases h0
 ·have hoff:=h.off g rfl
  have hfit:k * P.cellsOf e+news.length<=cur.toList.length:=by
   have hcl:cur.toList.length=cur.size:=by simp
   rw[hcl,hcs,hnl',<-vaP];exact vaJ _ hroom
  have hheap:=iz w g cur (cur.toList.take (k * P.cellsOf e)++news++cur.toList.drop (k * P.cellsOf e+news.length)).toArray e (0,0) hg
  have hmv:Mv GE (λb=>(Value.slice (some ⟨g,0,none⟩) k cap).ownBlock=some b) Γ w Γ (w.setRow g (cur.toList.take (k * P.cellsOf e)++news++cur.toList.drop (k * P.cellsOf e+news.length)).toArray):=
   Mv.raw hB rfl rfl rfl (by simp) (vak _) (λb _ hb=>setRow_other w g b _ λe=>hb (by rw[e];rfl)) (λb hb=>.inl (by simp[Value.ownBlock]at hb;subst hb;exact hoff))
  have hsz1:((cur.toList.take (k * P.cellsOf e)++news++cur.toList.drop (k * P.cellsOf e+news.length)).toArray).size=cur.size:=by
   simp only[vbu,vat,vaN,vbh,Array.length_toList]at hfit ⊢;omega
  have htk:((cur.toList.take (k * P.cellsOf e)++news++cur.toList.drop (k * P.cellsOf e+news.length)).toArray).toList.take ((k+1) * P.cellsOf e)=xs++news:=by
   rw[htake,<-hlen]
   exact vbL
  refine⟨_,_,hrun,hmv,⟨⟨xs++news,⟨hlen,.inr ⟨g,cap,_,rfl,vaQ _,hheap,hroom,hcm,by rw[hsz1,hcs],htk⟩⟩,hcl,h1,wY hxl (λi p u hp hu=>(hxv i p u hp hu).mono hmv.le (.refl _)) λi p u hp hu=>(hnv i p u hp hu).mono hmv.le (.refl _)⟩,λb hb=>?_⟩,λb hb=>.inl hb,g,cap,rfl⟩
  simp[Value.ownBlock]at hb;subst hb
  exact⟨hoff.1,by simpa using hoff.2.1,hoff.2.2⟩
 ·have hcs:(xs++news++rest).toArray.size=cap * P.cellsOf e:=by
   simp only[vbu,vat,hown.1,hnl',g3,<-vaP];congr 1;omega
  have hheap:(w.drew.alloc (.cells (xs++news++rest).toArray e)).heap[w.heap.size]? =some (.cells (xs++news++rest).toArray e (0,0)):=db w.drew _
  have hmv:Mv GE (λb=>v.ownBlock=some b) Γ w Γ (w.drew.alloc (.cells (xs++news++rest).toArray e)):=
   Mv.raw hB rfl rfl rfl (by simp[World.size_alloc]) (jy (vca _)) (λb hb _=>dI w.drew _ hb) (λb hb=>.inl (h.off b hb))
  have htk:((xs++news++rest).toArray).toList.take ((k+1) * P.cellsOf e)=xs++news:=by
   rw[<-hlen]
   exact vbL
  refine⟨_,_,hrun,hmv,⟨⟨xs++news,⟨hlen,.inr ⟨w.heap.size,cap,_,rfl,vaQ _,hheap,g1,g2,hcs,htk⟩⟩,hcl,h1,wY hxl (λi p u hp hu=>(hxv i p u hp hu).mono hmv.le (.refl _)) λi p u hp hu=>(hnv i p u hp hu).mono hmv.le (.refl _)⟩,λb hb=>?_⟩,λb hb=>?_,_,cap,rfl⟩
  ·simp[Value.ownBlock]at hb;subst hb
   refine⟨?_,by simp[World.size_alloc],λg cs hg hx=>?_⟩
   ·cases hΓ:Γ w.heap.size with
    |none=>rfl
    |some m=>exact absurd (hB.lt hΓ) (vby _)
   ·exact absurd (hx▸(hB.gx g cs hg).1) (vby _)
  ·simp[Value.ownBlock]at hb;subst hb
   exact .inr (vak _)
theorem fk.store(hE:Rp P T e)(hB:dO GE Γ w){cs zs ps:List PVal}{k g cap:Nat}{u:Value}(h:fk P GE e Γ w (cs++zs) (k+1) (.slice (some ⟨g,0,none⟩) (k+1) cap))(hc:cs.length=k * P.cellsOf e)(hzl:zs.length=P.cellsOf e)(hu:VR Γ [] w (.agg ps) u)(hpl:ps.length=P.cellsOf e)(hp1:∀q∈ps,q.one=true):∃w',(Instr.storeAt e (.pointer (some ⟨g,k * P.cellsOf e,none⟩)) u).run P w=.ok () w'/\Mv GE (λb=>b=g) Γ w Γ w'/\fk P GE e Γ w' (cs++ps) (k+1) (.slice (some ⟨g,0,none⟩) (k+1) cap):=by
 obtain⟨i,z,hi,hz,hzs,hsz,hby,hco⟩:=hE.get
 obtain⟨xs,hown,hxl,hx1,hxv⟩:=h.row
 have hoff:=h.off g rfl
 obtain⟨k1,k2⟩:=hu.cells (show bu (.agg ps)=some ps from rfl)
 have hone:∀x∈u.cells.toList,x.oneCell'=true:=by
  intro x hx
  obtain⟨j,hj⟩:=va6.1 hx
  have hj':u.cells[j]? =some x:=by simpa using hj
  have hlt:j<ps.length:=by rw[<-k1];exact(vaf.1 hj').1
  exact VR.one (k2 j _ x (vaa hlt) hj') (hp1 _ (vah hlt))
 rcases hown.2 with⟨hx,_⟩|⟨g',cap',cur,hx,_,hg,hnc,hcm,hcs,htake⟩
 ·cases hx
 cases hx
 have hul:u.cells.toList.length=P.cellsOf e:=by rw[Array.length_toList,k1,hpl]
 have hkm:(k+1) * P.cellsOf e=k * P.cellsOf e+P.cellsOf e:=by rw[vaP,vbE]
 have hle1:(k+1) * P.cellsOf e<=cur.size:=by rw[hcs];exact vaJ _ hnc
 have hst:=run_storeCells_at P g (k * P.cellsOf e) e u.cells.toList 0 cur w hg (by rw[hul];omega) hone
 simp only[Nat.add_zero,hul]at hst
 have hheap:=iz w g cur (cur.toList.take (k * P.cellsOf e)++u.cells.toList++cur.toList.drop (k * P.cellsOf e+P.cellsOf e)).toArray e (0,0) hg
 have hmv:Mv GE (λb=>b=g) Γ w Γ (w.setRow g (cur.toList.take (k * P.cellsOf e)++u.cells.toList++cur.toList.drop (k * P.cellsOf e+P.cellsOf e)).toArray):=
  Mv.raw hB rfl rfl rfl (by simp) (vak _) (λb _ hb=>setRow_other w g b _ hb) (λb hb=>.inl (hb▸hoff))
 have hxs:xs.take (k * P.cellsOf e)=cur.toList.take (k * P.cellsOf e):=by rw[<-htake,vcF,vcz (by omega)]
 have htl:(cur.toList.take (k * P.cellsOf e)).length=k * P.cellsOf e:=by rw[vaN,Array.length_toList];omega
 have hl2:(cur.toList.take (k * P.cellsOf e)++u.cells.toList).length=(k+1) * P.cellsOf e:=by rw[vat,htl,hul,hkm]
 refine⟨_,?_,hmv,⟨cur.toList.take (k * P.cellsOf e)++u.cells.toList,⟨hl2,.inr ⟨g,cap,_,rfl,vaQ _,hheap,hnc,hcm,?_,?_⟩⟩,?_,λx hx=>?_,wY (htl.trans hc.symm) (λj p x hp hx=>?_) λj p x hp hx=>?_⟩,λb hb=>?_⟩
 ·simp[Instr.storeAt,Instr.sureAddr,storeVar,run_sizeOf w hi,k1,hpl,hco]
  rw[<-hco];simp only[vbY]at hst;exact hst
 ·rw[<-hcs]
  simp only[vbu,vat,htl,hul,vbh,Array.length_toList];omega
 ·show(cur.toList.take (k * P.cellsOf e)++u.cells.toList++cur.toList.drop (k * P.cellsOf e+P.cellsOf e)).take ((k+1) * P.cellsOf e)=_
  rw[<-hl2];exact vbL
 ·rw[hl2,vat,hc,hpl,hkm]
 ·rcases vaI.1 hx with hx|hx
  ·rw[<-hxs]at hx;exact hx1 x (vbF hx)
  ·exact hone x hx
 ·have hj:j<k * P.cellsOf e:=by rw[<-hc];exact ag hp
  rw[<-hxs,vau hj]at hx
  exact(hxv j p x (by rw[vac (by omega)];exact hp) hx).mono hmv.le (.refl _)
 ·exact(k2 j p x hp (by simpa using hx)).mono hmv.le (.refl _)
 ·simp[Value.ownBlock]at hb;subst hb
  exact⟨hoff.1,by simpa using hoff.2.1,hoff.2.2⟩
theorem fk.cut{cs zs:List PVal}{k g cap:Nat}(h:fk P GE e Γ w (cs++zs) (k+1) (.slice (some ⟨g,0,none⟩) (k+1) cap))(hc:cs.length=k * P.cellsOf e)(hzl:zs.length=P.cellsOf e):fk P GE e Γ w cs k (.slice (some ⟨g,0,none⟩) k cap):=by
 obtain⟨xs,hown,hxl,hx1,hxv⟩:=h.row
 rcases hown.2 with⟨hx,_⟩|⟨g',cap',cur,hx,_,hg,hnc,hcm,hcs,htake⟩
 ·cases hx
 cases hx
 have hkm:(k+1) * P.cellsOf e=k * P.cellsOf e+P.cellsOf e:=by rw[vaP,vbE]
 have hl:=hown.1
 refine⟨⟨xs.take (k * P.cellsOf e),⟨by rw[vaN];omega,.inr ⟨g,cap,cur,rfl,vaQ _,hg,by omega,hcm,hcs,?_⟩⟩,by rw[vaN];omega,λu hu=>hx1 u (vbF hu),λi p u hp hu=>?_⟩,λb hb=>h.off b hb⟩
 ·rw[<-htake,vcF,vcz (by omega)]
 ·have hi:=ag hp
  rw[vau (by omega)]at hu
  exact hxv i p u (by rw[vac hi];exact hp) hu
theorem fk.nil:fk P GE e Γ w [] 0 (.slice none 0 0):=⟨⟨[],World.ownsRow_nil _ _ _ _,rfl,by simp,by simp⟩,λb hb=>by simp[Value.ownBlock]at hb⟩
theorem fk.form{cs:List PVal}{k:Nat}{v:Value}(h:fk P GE e Γ w cs k v):(v=.slice none 0 0/\k=0)\/∃g cap,v=.slice (some ⟨g,0,none⟩) k cap:=by
 obtain⟨xs,hown,_⟩:=h.row
 rcases hown.2 with⟨rfl,rfl⟩|⟨g',cap',cur,rfl,_⟩
 ·exact .inl ⟨rfl,rfl⟩
 ·exact .inr ⟨g',cap',rfl⟩
end
theorem ko{a:Act}{d t:Nat}{v:Value}:(a.put (some d) v).tmps[t]? =if d=t then(if d<a.tmps.size then some v else none)else a.tmps[t]?:=by
 show(a.tmps.setIfInBounds d v)[t]? =_
 rw[vbf]
theorem I3{a:Act}{d:Nat}{v:Value}:(a.put (some d) v).tmps.size=a.tmps.size:=by
 show(a.tmps.setIfInBounds d v).size=_
 simp
end Go.Proofs.YtjddnhkahpfhdaaGreatDoor
