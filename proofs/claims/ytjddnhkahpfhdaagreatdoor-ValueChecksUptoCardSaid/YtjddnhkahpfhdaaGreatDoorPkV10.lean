/- PROVED: a part of the proof. Conditions: none. -/
import Derived.Test.YtjddnhkahpfhdaaGreatDoorPkV9
import Derived.Test.YtjddnhkahpfhdaaGreatDoorChecked
import Derived.RangeFuncRecord
import Derived.RangeFuncSeq
set_option linter.unusedSimpArgs false
set_option linter.unusedVariables false
noncomputable section
namespace Go.Proofs.YtjddnhkahpfhdaaGreatDoor
open Go Go.Proofs.Tryz
set_option linter.unusedVariables false
set_option linter.defProp false
set_option maxRecDepth 100000
noncomputable abbrev Pg:=Tryz.prog
theorem mixed:Pg.follows .mixedOrders=true:=by kernel_rfl
structure bC where
 Name:ai
 Sort_:ai
deriving DecidableEq
def bG(x:bC):List PVal:=[.str x.Name,.str x.Sort_]
theorem Io(x:bC):bG x=[.str x.Name,.str x.Sort_]:=rfl
theorem zv(x:bC):dO 0 (bG x):=(aI vzz (aI vzz vzz))
instance iE_tVar:KE bG:=⟨zv⟩
theorem OZ(x:bC):(bG x).length=2:=by rw[Io];rfl
theorem Ph(x:bC):∀q∈bG x,q.one=true:=by
 intro q hq
 rw[Io]at hq
 simp only[vau,vaN,or_false]at hq
 rcases hq with rfl|rfl<;>rfl
theorem Rp:Pg.cellsOf 223=2:=by kernel_rfl
inductive ag where
 |mk (Op:Int) (Name:ai) (N:Int) (Kids:(List ag))
def ag.Op:ag->Int
 |⟨x,_,_,_⟩=>x
def ag.Name:ag->ai
 |⟨_,x,_,_⟩=>x
def ag.N:ag->Int
 |⟨_,_,x,_⟩=>x
def ag.Kids:ag->(List ag)
 |⟨_,_,_,x⟩=>x
mutual
def aj:ag->List PVal
 |⟨x0,x1,x2,x3⟩=>[.int .i64 x0,.str x1,.int .i64 x2,.slice (pO x3)]
def pO:List ag->List (List PVal)
 |[]=>[]
 |x::r=>aj x::pO r
end
theorem EH:∀(l:List ag),pO l=l.map aj
 |[]=>by simp[pO]
 |x::r=>by simp[pO,EH r]
mutual
theorem di:∀(x:ag),dO 0 (aj x)
 |⟨x0,x1,x2,x3⟩=>by rw[aj];exact(aI vzz (aI vzz (aI vzz (aI (Hi x3) trivial))))
theorem Hi:∀(l:List ag),lM 0 (pO l)
 |[]=>by simp[pO,lM]
 |x::r=>by rw[pO];exact⟨di x,Hi r⟩
end
theorem bK:∀(x:ag),aj x=[.int .i64 x.Op,.str x.Name,.int .i64 x.N,sl aj x.Kids]
 |⟨x0,x1,x2,x3⟩=>by
  simp only[aj,EH]
  rfl
abbrev sB(x:ag):PVal:=.agg (aj x)
instance iK_tPred{x:ag}:K0l (aj x):=⟨di x⟩
instance iE_tPred:KE aj:=⟨di⟩
theorem Bj(x:ag):(aj x).length=4:=by rw[bK];rfl
theorem zP(x:ag):bA (.agg (aj x))=some (aj x):=rfl
theorem nF(x:ag):bA (sB x)=some (aj x):=rfl
theorem HG(x:ag):bA (.agg (aj x))=some [.int .i64 x.Op,.str x.Name,.int .i64 x.N,sl aj x.Kids]:=by rw[bK];rfl
theorem Nq(x:ag):∀q∈aj x,q.one=true:=by
 intro q hq
 rw[bK]at hq
 simp only[vau,vaN,or_false]at hq
 rcases hq with rfl|rfl|rfl|rfl<;>rfl
theorem Qo:Pg.cellsOf 42=4:=by kernel_rfl
theorem lW(x:ag):aG Pg 42 (aj x)=some (.agg (aj x)):=by
 have:=gF (P:=Pg) (t:=42) (l:=aj x) (r:=[]) (by kernel_rfl) (Qo.trans (Bj x).symm)
 rwa[vbe]at this
theorem Hz(x:ag)(r:List PVal):aG Pg 42 ([.int .i64 x.Op,.str x.Name,.int .i64 x.N,sl aj x.Kids]++r)=some (.agg (aj x)):=by
 rw[<-bK];exact gF (by kernel_rfl) (Qo.trans (Bj x).symm)
theorem gD(x:ag):au Pg 42 (.eptr (aj x)) 0=some (.eptr ((aj x).drop 0))/\aG Pg 39 ((aj x).drop 0)=some (.int .i64 x.Op):=⟨by rw[bK];kernel_rfl,by rw[bK];kernel_rfl⟩
theorem eu(x:ag):au Pg 42 (.eptr (aj x)) 1=some (.eptr ((aj x).drop 1))/\aG Pg 9 ((aj x).drop 1)=some (.str x.Name):=⟨by rw[bK];kernel_rfl,by rw[bK];kernel_rfl⟩
theorem il(x:ag):au Pg 42 (.eptr (aj x)) 2=some (.eptr ((aj x).drop 2))/\aG Pg 3 ((aj x).drop 2)=some (.int .i64 x.N):=⟨by rw[bK];kernel_rfl,by rw[bK];kernel_rfl⟩
theorem co(x:ag):au Pg 42 (.eptr (aj x)) 3=some (.eptr ((aj x).drop 3))/\aG Pg 40 ((aj x).drop 3)=some (sl aj x.Kids):=⟨by rw[bK];kernel_rfl,by rw[bK];kernel_rfl⟩
inductive ae where
 |mk (Op:Int) (Name:ai) (Args:(List ae)) (Names:(List ai)) (Pred:ag) (Preds:(List ag))
def ae.Op:ae->Int
 |⟨x,_,_,_,_,_⟩=>x
def ae.Name:ae->ai
 |⟨_,x,_,_,_,_⟩=>x
def ae.Args:ae->(List ae)
 |⟨_,_,x,_,_,_⟩=>x
def ae.Names:ae->(List ai)
 |⟨_,_,_,x,_,_⟩=>x
def ae.Pred:ae->ag
 |⟨_,_,_,_,x,_⟩=>x
def ae.Preds:ae->(List ag)
 |⟨_,_,_,_,_,x⟩=>x
mutual
def af:ae->List PVal
 |⟨x0,x1,x2,x3,x4,x5⟩=>[.int .i64 x0,.str x1,.slice (pP x2),sl cS x3]++(aj x4++([sl aj x5]))
def pP:List ae->List (List PVal)
 |[]=>[]
 |x::r=>af x::pP r
end
theorem EI:∀(l:List ae),pP l=l.map af
 |[]=>by simp[pP]
 |x::r=>by simp[pP,EI r]
mutual
theorem dy:∀(x:ae),dO 0 (af x)
 |⟨x0,x1,x2,x3,x4,x5⟩=>by rw[af];exact kR.2 (aI ((aI vzz (aI vzz (aI (Hj x2) (aI (bB KU x3) trivial))))) (kR.2 (aI (di x4) ((aI (bB di x5) trivial)))))
theorem Hj:∀(l:List ae),lM 0 (pP l)
 |[]=>by simp[pP,lM]
 |x::r=>by rw[pP];exact⟨dy x,Hj r⟩
end
theorem aR:∀(x:ae),af x=[.int .i64 x.Op,.str x.Name,sl af x.Args,sl cS x.Names,.int .i64 x.Pred.Op,.str x.Pred.Name,.int .i64 x.Pred.N,sl aj x.Pred.Kids,sl aj x.Preds]
 |⟨x0,x1,x2,x3,x4,x5⟩=>by
  simp only[af,EI,bK,vaV,va3]
  rfl
abbrev nz(x:ae):PVal:=.agg (af x)
instance iK_tType{x:ae}:K0l (af x):=⟨dy x⟩
instance iE_tType:KE af:=⟨dy⟩
theorem Bk(x:ae):(af x).length=9:=by rw[aR];rfl
theorem eZ(x:ae):bA (.agg (af x))=some (af x):=rfl
theorem jR(x:ae):bA (nz x)=some (af x):=rfl
theorem fu(x:ae):bA (.agg (af x))=some [.int .i64 x.Op,.str x.Name,sl af x.Args,sl cS x.Names,.int .i64 x.Pred.Op,.str x.Pred.Name,.int .i64 x.Pred.N,sl aj x.Pred.Kids,sl aj x.Preds]:=by rw[aR];rfl
theorem Ns(x:ae):∀q∈af x,q.one=true:=by
 intro q hq
 rw[aR]at hq
 simp only[vau,vaN,or_false]at hq
 rcases hq with rfl|rfl|rfl|rfl|rfl|rfl|rfl|rfl|rfl<;>rfl
theorem Qp:Pg.cellsOf 44=9:=by kernel_rfl
theorem cw(x:ae):aG Pg 44 (af x)=some (.agg (af x)):=by
 have:=gF (P:=Pg) (t:=44) (l:=af x) (r:=[]) (by kernel_rfl) (Qp.trans (Bk x).symm)
 rwa[vbe]at this
theorem cx(x:ae)(r:List PVal):aG Pg 44 ([.int .i64 x.Op,.str x.Name,sl af x.Args,sl cS x.Names,.int .i64 x.Pred.Op,.str x.Pred.Name,.int .i64 x.Pred.N,sl aj x.Pred.Kids,sl aj x.Preds]++r)=some (.agg (af x)):=by
 rw[<-aR];exact gF (by kernel_rfl) (Qp.trans (Bk x).symm)
theorem eT(x:ae):PVal.agg [.int .i64 x.Op,.str x.Name,sl af x.Args,sl cS x.Names,.int .i64 x.Pred.Op,.str x.Pred.Name,.int .i64 x.Pred.N,sl aj x.Pred.Kids,sl aj x.Preds]=.agg (af x):=by rw[aR]
theorem Ef:dp Pg 44 []=some (.agg (af (⟨0,([]:ai),([]:List ae),([]:List ai),(⟨0,([]:ai),0,([]:List ag)⟩:ag),([]:List ag)⟩:ae))):=by
 simp only[aR]
 kernel_rfl
theorem Ee:si Pg 44 [] [(2,44),(3,9),(7,42),(8,42)]:=by
 exact⟨[.int .i64 0,.str ([]:ai),.val eR,.val eR,.int .i64 0,.str ([]:ai),.int .i64 0,.val eR,.val eR],by kernel_rfl,(aI rfl (aI rfl (aI rfl (aI rfl vzz))))⟩
theorem nh(x0:Int)(x1:ai):dp Pg 44 [(0,.int .i64 x0),(1,.str x1)]=some (.agg (af (⟨x0,x1,([]:List ae),([]:List ai),(⟨0,([]:ai),0,([]:List ag)⟩:ag),([]:List ag)⟩:ae))):=by
 simp only[aR]
 kernel_rfl
theorem ng(x0:Int)(x1:ai):si Pg 44 [(0,.int .i64 x0),(1,.str x1)] [(2,44),(3,9),(7,42),(8,42)]:=by
 exact⟨[.int .i64 x0,.str x1,.val eR,.val eR,.int .i64 0,.str ([]:ai),.int .i64 0,.val eR,.val eR],by kernel_rfl,(aI rfl (aI rfl (aI rfl (aI rfl vzz))))⟩
theorem iy(x0:Int):dp Pg 44 [(0,.int .i64 x0)]=some (.agg (af (⟨x0,([]:ai),([]:List ae),([]:List ai),(⟨0,([]:ai),0,([]:List ag)⟩:ag),([]:List ag)⟩:ae))):=by
 simp only[aR]
 kernel_rfl
theorem iw(x0:Int):si Pg 44 [(0,.int .i64 x0)] [(2,44),(3,9),(7,42),(8,42)]:=by
 exact⟨[.int .i64 x0,.str ([]:ai),.val eR,.val eR,.int .i64 0,.str ([]:ai),.int .i64 0,.val eR,.val eR],by kernel_rfl,(aI rfl (aI rfl (aI rfl (aI rfl vzz))))⟩
theorem xm(x:ae):au Pg 44 (.eptr (af x)) 0=some (.eptr ((af x).drop 0)):=by rw[aR];kernel_rfl
theorem bW(x:ae):au Pg 44 (.eptr (af x)) 0=some (.eptr ((af x).drop 0))/\aG Pg 37 ((af x).drop 0)=some (.int .i64 x.Op):=⟨by rw[aR];kernel_rfl,by rw[aR];kernel_rfl⟩
theorem Gv(x:ae):au Pg 44 (.eptr (af x)) 1=some (.eptr ((af x).drop 1)):=by rw[aR];kernel_rfl
theorem bM(x:ae):au Pg 44 (.eptr (af x)) 1=some (.eptr ((af x).drop 1))/\aG Pg 9 ((af x).drop 1)=some (.str x.Name):=⟨by rw[aR];kernel_rfl,by rw[aR];kernel_rfl⟩
theorem Gw(x:ae):au Pg 44 (.eptr (af x)) 2=some (.eptr ((af x).drop 2)):=by rw[aR];kernel_rfl
theorem aL(x:ae):au Pg 44 (.eptr (af x)) 2=some (.eptr ((af x).drop 2))/\aG Pg 38 ((af x).drop 2)=some (sl af x.Args):=⟨by rw[aR];kernel_rfl,by rw[aR];kernel_rfl⟩
theorem dW(x:ae):au Pg 44 (.eptr (af x)) 3=some (.eptr ((af x).drop 3))/\aG Pg 32 ((af x).drop 3)=some (sl cS x.Names):=⟨by rw[aR];kernel_rfl,by rw[aR];kernel_rfl⟩
theorem dY(x:ae):au Pg 44 (.eptr (af x)) 4=some (.eptr ((af x).drop 4))/\aG Pg 42 ((af x).drop 4)=some (.agg (aj x.Pred)):=⟨by rw[aR];kernel_rfl,by rw[aR,bK];kernel_rfl⟩
theorem cp(x:ae):au Pg 44 (.eptr (af x)) 5=some (.eptr ((af x).drop 8))/\aG Pg 40 ((af x).drop 8)=some (sl aj x.Preds):=⟨by rw[aR];kernel_rfl,by rw[aR];kernel_rfl⟩
theorem xp(x:ae):aG Pg 37 ((af x).drop 0)=some (.int .i64 x.Op):=by rw[aR];kernel_rfl
theorem IJ(x:ae):aG Pg 9 ((af x).drop 1)=some (.str x.Name):=by rw[aR];kernel_rfl
theorem GG(x:ae):aG Pg 38 ((af x).drop 2)=some (sl af x.Args):=by rw[aR];kernel_rfl
structure aH where
 Name:ai
 Names:(List ai)
 Fields:(List ae)
def aF(x:aH):List PVal:=[.str x.Name,sl cS x.Names,sl af x.Fields]
theorem Dx(x:aH):aF x=[.str x.Name,sl cS x.Names,sl af x.Fields]:=rfl
theorem lF(x:aH):dO 0 (aF x):=(aI vzz (aI (bB KU x.Names) (aI (bB dy x.Fields) trivial)))
abbrev PX(x:aH):PVal:=.agg (aF x)
instance iE_tCon:KE aF:=⟨lF⟩
theorem JP(x:aH):(aF x).length=3:=by rw[Dx];rfl
theorem Pl(x:aH):bA (PX x)=some (aF x):=rfl
theorem J2(x:aH):bA (.agg (aF x))=some [.str x.Name,sl cS x.Names,sl af x.Fields]:=by rw[Dx];rfl
theorem Pe(x:aH):∀q∈aF x,q.one=true:=by
 intro q hq
 rw[Dx]at hq
 simp only[vau,vaN,or_false]at hq
 rcases hq with rfl|rfl|rfl<;>rfl
theorem R2:Pg.cellsOf 76=3:=by kernel_rfl
theorem Mm(x:aH):aG Pg 76 (aF x)=some (.agg (aF x)):=by
 have:=gF (P:=Pg) (t:=76) (l:=aF x) (r:=[]) (by kernel_rfl) (R2.trans (JP x).symm)
 rwa[vbe]at this
theorem Gg(x0:ai)(x1:(List ai))(x2:(List ae)):dp Pg 76 [(0,.str x0),(1,sl cS x1),(2,sl af x2)]=some (.agg (aF (⟨x0,x1,x2⟩:aH))):=by
 kernel_rfl
theorem MP(x0:ai):dp Pg 76 [(0,.str x0)]=some (.agg (aF (⟨x0,([]:List ai),([]:List ae)⟩:aH))):=by
 kernel_rfl
theorem MO(x0:ai):si Pg 76 [(0,.str x0)] [(1,9),(2,44)]:=by
 exact⟨[.str x0,.val eR,.val eR],by kernel_rfl,(aI rfl (aI rfl vzz))⟩
theorem nk(x:aH):au Pg 76 (.eptr (aF x)) 0=some (.eptr ((aF x).drop 0)):=by kernel_rfl
theorem Bd(x:aH):au Pg 76 (.eptr (aF x)) 0=some (.eptr ((aF x).drop 0))/\aG Pg 9 ((aF x).drop 0)=some (.str x.Name):=⟨by kernel_rfl,by kernel_rfl⟩
theorem zE(x:aH):au Pg 76 (.eptr (aF x)) 1=some (.eptr ((aF x).drop 1))/\aG Pg 32 ((aF x).drop 1)=some (sl cS x.Names):=⟨by kernel_rfl,by kernel_rfl⟩
theorem Ir(x:aH):au Pg 76 (.eptr (aF x)) 2=some (.eptr ((aF x).drop 2)):=by kernel_rfl
theorem km(x:aH):au Pg 76 (.eptr (aF x)) 2=some (.eptr ((aF x).drop 2))/\aG Pg 38 ((aF x).drop 2)=some (sl af x.Fields):=⟨by kernel_rfl,by kernel_rfl⟩
theorem pQ(x:aH):aG Pg 9 ((aF x).drop 0)=some (.str x.Name):=by kernel_rfl
theorem II(x:aH):aG Pg 38 ((aF x).drop 2)=some (sl af x.Fields):=by kernel_rfl
structure aN where
 Name:ai
 Vars:(List ai)
 Preds:(List bC)
 Cons:(List aH)
def ax(x:aN):List PVal:=[.str x.Name,sl cS x.Vars,sl bG x.Preds,sl aF x.Cons]
theorem jp(x:aN):ax x=[.str x.Name,sl cS x.Vars,sl bG x.Preds,sl aF x.Cons]:=rfl
theorem gG(x:aN):dO 0 (ax x):=(aI vzz (aI (bB KU x.Vars) (aI (bB zv x.Preds) (aI (bB lF x.Cons) trivial))))
abbrev MI(x:aN):PVal:=.agg (ax x)
instance iK_tData{x:aN}:K0l (ax x):=⟨gG x⟩
instance iE_tData:KE ax:=⟨gG⟩
theorem Bh(x:aN):(ax x).length=4:=by rw[jp];rfl
theorem Nv(x:aN):bA (MI x)=some (ax x):=rfl
theorem eS(x:aN):bA (.agg (ax x))=some [.str x.Name,sl cS x.Vars,sl bG x.Preds,sl aF x.Cons]:=by rw[jp];rfl
theorem Nn(x:aN):∀q∈ax x,q.one=true:=by
 intro q hq
 rw[jp]at hq
 simp only[vau,vaN,or_false]at hq
 rcases hq with rfl|rfl|rfl|rfl<;>rfl
theorem Qr:Pg.cellsOf 74=4:=by kernel_rfl
theorem zI(x:aN):aG Pg 74 (ax x)=some (.agg (ax x)):=by
 have:=gF (P:=Pg) (t:=74) (l:=ax x) (r:=[]) (by kernel_rfl) (Qr.trans (Bh x).symm)
 rwa[vbe]at this
theorem Hx(x:aN)(r:List PVal):aG Pg 74 ([.str x.Name,sl cS x.Vars,sl bG x.Preds,sl aF x.Cons]++r)=some (.agg (ax x)):=by
 rw[<-jp];exact gF (by kernel_rfl) (Qr.trans (Bh x).symm)
theorem nG(x:aN):PVal.agg [.str x.Name,sl cS x.Vars,sl bG x.Preds,sl aF x.Cons]=.agg (ax x):=by rw[jp]
theorem yd:dp Pg 74 []=some (.agg (ax (⟨([]:ai),([]:List ai),([]:List bC),([]:List aH)⟩:aN))):=by
 kernel_rfl
theorem yc:si Pg 74 [] [(1,9),(2,223),(3,76)]:=by
 exact⟨[.str ([]:ai),.val eR,.val eR,.val eR],by kernel_rfl,(aI rfl (aI rfl (aI rfl vzz)))⟩
theorem Ib(x0:ai)(x3:(List aH)):dp Pg 74 [(0,.str x0),(3,sl aF x3)]=some (.agg (ax (⟨x0,([]:List ai),([]:List bC),x3⟩:aN))):=by
 kernel_rfl
theorem H9(x0:ai)(x3:(List aH)):si Pg 74 [(0,.str x0),(3,sl aF x3)] [(1,9),(2,223)]:=by
 exact⟨[.str x0,.val eR,.val eR,sl aF x3],by kernel_rfl,(aI rfl (aI rfl vzz))⟩
theorem qg(x:aN):au Pg 74 (.eptr (ax x)) 0=some (.eptr ((ax x).drop 0)):=by kernel_rfl
theorem zF(x:aN):au Pg 74 (.eptr (ax x)) 0=some (.eptr ((ax x).drop 0))/\aG Pg 9 ((ax x).drop 0)=some (.str x.Name):=⟨by kernel_rfl,by kernel_rfl⟩
theorem yi(x:aN):au Pg 74 (.eptr (ax x)) 1=some (.eptr ((ax x).drop 1))/\aG Pg 32 ((ax x).drop 1)=some (sl cS x.Vars):=⟨by kernel_rfl,by kernel_rfl⟩
theorem yj(x:aN):au Pg 74 (.eptr (ax x)) 2=some (.eptr ((ax x).drop 2))/\aG Pg 71 ((ax x).drop 2)=some (sl bG x.Preds):=⟨by kernel_rfl,by kernel_rfl⟩
theorem Gu(x:aN):au Pg 74 (.eptr (ax x)) 3=some (.eptr ((ax x).drop 3)):=by kernel_rfl
theorem eY(x:aN):au Pg 74 (.eptr (ax x)) 3=some (.eptr ((ax x).drop 3))/\aG Pg 72 ((ax x).drop 3)=some (sl aF x.Cons):=⟨by kernel_rfl,by kernel_rfl⟩
theorem rY(x:aN):aG Pg 9 ((ax x).drop 0)=some (.str x.Name):=by kernel_rfl
theorem GF(x:aN):aG Pg 72 ((ax x).drop 3)=some (sl aF x.Cons):=by kernel_rfl
structure nu where
 Name:ai
 Type_:ae
def cW(x:nu):List PVal:=[.str x.Name]++(af x.Type_)
theorem kS(x:nu):cW x=[.str x.Name,.int .i64 x.Type_.Op,.str x.Type_.Name,sl af x.Type_.Args,sl cS x.Type_.Names,.int .i64 x.Type_.Pred.Op,.str x.Type_.Pred.Name,.int .i64 x.Type_.Pred.N,sl aj x.Type_.Pred.Kids,sl aj x.Type_.Preds]:=by
 unfold cW
 simp only[aR,vaV,va3]
theorem Eh(x:nu):dO 0 (cW x):=by rw[kS];exact(aI vzz (aI vzz (aI vzz (aI (bB dy x.Type_.Args) (aI (bB KU x.Type_.Names) (aI vzz (aI vzz (aI vzz (aI (bB di x.Type_.Pred.Kids) (aI (bB di x.Type_.Preds) trivial))))))))))
theorem JQ(x:nu):(cW x).length=10:=by rw[kS];rfl
theorem JW(x:nu):∀q∈cW x,q.one=true:=by
 intro q hq
 rw[kS]at hq
 simp only[vau,vaN,or_false]at hq
 rcases hq with rfl|rfl|rfl|rfl|rfl|rfl|rfl|rfl|rfl|rfl<;>rfl
theorem Tn:Pg.cellsOf 82=10:=by kernel_rfl
theorem uU(x:nu):au Pg 82 (.eptr (cW x)) 1=some (.eptr ((cW x).drop 1))/\aG Pg 44 ((cW x).drop 1)=some (.agg (af x.Type_)):=⟨by rw[kS];kernel_rfl,by rw[kS,aR];kernel_rfl⟩
structure dg where
 Name:ai
 Var:ai
 Methods:(List nu)
def bV(x:dg):List PVal:=[.str x.Name,.str x.Var,sl cW x.Methods]
theorem Bb(x:dg):bV x=[.str x.Name,.str x.Var,sl cW x.Methods]:=rfl
theorem A8(x:dg):dO 0 (bV x):=(aI vzz (aI vzz (aI (bB Eh x.Methods) trivial)))
instance iE_tClass:KE bV:=⟨A8⟩
theorem Lr(x:dg):(bV x).length=3:=by rw[Bb];rfl
theorem Lv(x:dg):∀q∈bV x,q.one=true:=by
 intro q hq
 rw[Bb]at hq
 simp only[vau,vaN,or_false]at hq
 rcases hq with rfl|rfl|rfl<;>rfl
theorem Tm:Pg.cellsOf 80=3:=by kernel_rfl
theorem mN(x:dg):au Pg 80 (.eptr (bV x)) 2=some (.eptr ((bV x).drop 2))/\aG Pg 78 ((bV x).drop 2)=some (sl cW x.Methods):=⟨by kernel_rfl,by kernel_rfl⟩
structure vN where
 Class:ai
 Var:ai
deriving DecidableEq
def fA(x:vN):List PVal:=[.str x.Class,.str x.Var]
theorem Ev(x:vN):fA x=[.str x.Class,.str x.Var]:=rfl
theorem Ei(x:vN):dO 0 (fA x):=(aI vzz (aI vzz vzz))
theorem Nb(x:vN):(fA x).length=2:=by rw[Ev];rfl
theorem Np(x:vN):∀q∈fA x,q.one=true:=by
 intro q hq
 rw[Ev]at hq
 simp only[vau,vaN,or_false]at hq
 rcases hq with rfl|rfl<;>rfl
theorem Rq:Pg.cellsOf 228=2:=by kernel_rfl
structure cV where
 Name:ai
 Type_:ae
def aQ(x:cV):List PVal:=[.str x.Name]++(af x.Type_)
theorem gZ(x:cV):aQ x=[.str x.Name,.int .i64 x.Type_.Op,.str x.Type_.Name,sl af x.Type_.Args,sl cS x.Type_.Names,.int .i64 x.Type_.Pred.Op,.str x.Type_.Pred.Name,.int .i64 x.Type_.Pred.N,sl aj x.Type_.Pred.Kids,sl aj x.Type_.Preds]:=by
 unfold aQ
 simp only[aR,vaV,va3]
theorem qB(x:cV):dO 0 (aQ x):=by rw[gZ];exact(aI vzz (aI vzz (aI vzz (aI (bB dy x.Type_.Args) (aI (bB KU x.Type_.Names) (aI vzz (aI vzz (aI vzz (aI (bB di x.Type_.Pred.Kids) (aI (bB di x.Type_.Preds) trivial))))))))))
instance iK_tParam{x:cV}:K0l (aQ x):=⟨qB x⟩
instance iE_tParam:KE aQ:=⟨qB⟩
theorem yt(x:cV):(aQ x).length=10:=by rw[gZ];rfl
theorem HD(x:cV):bA (.agg (aQ x))=some (aQ x):=rfl
theorem EZ(x:cV):bA (.agg (aQ x))=some [.str x.Name,.int .i64 x.Type_.Op,.str x.Type_.Name,sl af x.Type_.Args,sl cS x.Type_.Names,.int .i64 x.Type_.Pred.Op,.str x.Type_.Pred.Name,.int .i64 x.Type_.Pred.N,sl aj x.Type_.Pred.Kids,sl aj x.Type_.Preds]:=by rw[gZ];rfl
theorem Lw(x:cV):∀q∈aQ x,q.one=true:=by
 intro q hq
 rw[gZ]at hq
 simp only[vau,vaN,or_false]at hq
 rcases hq with rfl|rfl|rfl|rfl|rfl|rfl|rfl|rfl|rfl|rfl<;>rfl
theorem Qs:Pg.cellsOf 96=10:=by kernel_rfl
theorem Hv(x:cV):aG Pg 96 (aQ x)=some (.agg (aQ x)):=by
 have:=gF (P:=Pg) (t:=96) (l:=aQ x) (r:=[]) (by kernel_rfl) (Qs.trans (yt x).symm)
 rwa[vbe]at this
theorem EK(x:cV)(r:List PVal):aG Pg 96 ([.str x.Name,.int .i64 x.Type_.Op,.str x.Type_.Name,sl af x.Type_.Args,sl cS x.Type_.Names,.int .i64 x.Type_.Pred.Op,.str x.Type_.Pred.Name,.int .i64 x.Type_.Pred.N,sl aj x.Type_.Pred.Kids,sl aj x.Type_.Preds]++r)=some (.agg (aQ x)):=by
 rw[<-gZ];exact gF (by kernel_rfl) (Qs.trans (yt x).symm)
theorem gC(x:cV):au Pg 96 (.eptr (aQ x)) 0=some (.eptr ((aQ x).drop 0))/\aG Pg 9 ((aQ x).drop 0)=some (.str x.Name):=⟨by rw[gZ];kernel_rfl,by rw[gZ];kernel_rfl⟩
theorem fK(x:cV):au Pg 96 (.eptr (aQ x)) 1=some (.eptr ((aQ x).drop 1))/\aG Pg 44 ((aQ x).drop 1)=some (.agg (af x.Type_)):=⟨by rw[gZ];kernel_rfl,by rw[gZ,aR];kernel_rfl⟩
mutual
inductive aq where
 |mk (Op:Int) (Name:ai) (N:Int) (Kids:(List aq)) (Params:(List cV)) (Alts:(List fk)) (Types:(List ae))
inductive fk where
 |mk (Con:ai) (Names:(List ai)) (Body:aq)
end
def aq.Op:aq->Int
 |⟨x,_,_,_,_,_,_⟩=>x
def aq.Name:aq->ai
 |⟨_,x,_,_,_,_,_⟩=>x
def aq.N:aq->Int
 |⟨_,_,x,_,_,_,_⟩=>x
def aq.Kids:aq->(List aq)
 |⟨_,_,_,x,_,_,_⟩=>x
def aq.Params:aq->(List cV)
 |⟨_,_,_,_,x,_,_⟩=>x
def aq.Alts:aq->(List fk)
 |⟨_,_,_,_,_,x,_⟩=>x
def aq.Types:aq->(List ae)
 |⟨_,_,_,_,_,_,x⟩=>x
def fk.Con:fk->ai
 |⟨x,_,_⟩=>x
def fk.Names:fk->(List ai)
 |⟨_,x,_⟩=>x
def fk.Body:fk->aq
 |⟨_,_,x⟩=>x
mutual
def ak:aq->List PVal
 |⟨x0,x1,x2,x3,x4,x5,x6⟩=>[.int .i64 x0,.str x1,.int .i64 x2,.slice (pN x3),sl aQ x4,.slice (uY x5),sl af x6]
def bq:fk->List PVal
 |⟨x0,x1,x2⟩=>[.str x0,sl cS x1]++(ak x2)
def pN:List aq->List (List PVal)
 |[]=>[]
 |x::r=>ak x::pN r
def uY:List fk->List (List PVal)
 |[]=>[]
 |x::r=>bq x::uY r
end
theorem EG:∀(l:List aq),pN l=l.map ak
 |[]=>by simp[pN]
 |x::r=>by simp[pN,EG r]
theorem Hs:∀(l:List fk),uY l=l.map bq
 |[]=>by simp[uY]
 |x::r=>by simp[uY,Hs r]
mutual
theorem oc:∀(x:aq),dO 0 (ak x)
 |⟨x0,x1,x2,x3,x4,x5,x6⟩=>by rw[ak];exact(aI vzz (aI vzz (aI vzz (aI (Hh x3) (aI (bB qB x4) (aI (Jy x5) (aI (bB dy x6) trivial)))))))
theorem zt:∀(x:fk),dO 0 (bq x)
 |⟨x0,x1,x2⟩=>by rw[bq];exact kR.2 (aI ((aI vzz (aI (bB KU x1) trivial))) (oc x2))
theorem Hh:∀(l:List aq),lM 0 (pN l)
 |[]=>by simp[pN,lM]
 |x::r=>by rw[pN];exact⟨oc x,Hh r⟩
theorem Jy:∀(l:List fk),lM 0 (uY l)
 |[]=>by simp[uY,lM]
 |x::r=>by rw[uY];exact⟨zt x,Jy r⟩
end
theorem cb:∀(x:aq),ak x=[.int .i64 x.Op,.str x.Name,.int .i64 x.N,sl ak x.Kids,sl aQ x.Params,sl bq x.Alts,sl af x.Types]
 |⟨x0,x1,x2,x3,x4,x5,x6⟩=>by
  simp only[ak,EG,Hs]
  rfl
instance iK_tExpr{x:aq}:K0l (ak x):=⟨oc x⟩
instance iE_tExpr:KE ak:=⟨oc⟩
theorem Bi(x:aq):(ak x).length=7:=by rw[cb];rfl
theorem zO(x:aq):bA (.agg (ak x))=some (ak x):=rfl
theorem HF(x:aq):bA (.agg (ak x))=some [.int .i64 x.Op,.str x.Name,.int .i64 x.N,sl ak x.Kids,sl aQ x.Params,sl bq x.Alts,sl af x.Types]:=by rw[cb];rfl
theorem No(x:aq):∀q∈ak x,q.one=true:=by
 intro q hq
 rw[cb]at hq
 simp only[vau,vaN,or_false]at hq
 rcases hq with rfl|rfl|rfl|rfl|rfl|rfl|rfl<;>rfl
theorem Qq:Pg.cellsOf 52=7:=by kernel_rfl
theorem Qt:Pg.cellsOf 98=9:=by kernel_rfl
theorem uZ(x:aq):aG Pg 52 (ak x)=some (.agg (ak x)):=by
 have:=gF (P:=Pg) (t:=52) (l:=ak x) (r:=[]) (by kernel_rfl) (Qq.trans (Bi x).symm)
 rwa[vbe]at this
theorem Hy(x:aq)(r:List PVal):aG Pg 52 ([.int .i64 x.Op,.str x.Name,.int .i64 x.N,sl ak x.Kids,sl aQ x.Params,sl bq x.Alts,sl af x.Types]++r)=some (.agg (ak x)):=by
 rw[<-cb];exact gF (by kernel_rfl) (Qq.trans (Bi x).symm)
theorem KO(x6:(List ae)):dp Pg 52 [(6,sl af x6)]=some (.agg (ak (⟨0,([]:ai),0,([]:List aq),([]:List cV),([]:List fk),x6⟩:aq))):=by
 simp only[cb]
 kernel_rfl
theorem KL(x6:(List ae)):si Pg 52 [(6,sl af x6)] [(3,52),(4,96),(5,98)]:=by
 exact⟨[.int .i64 0,.str ([]:ai),.int .i64 0,.val eR,.val eR,.val eR,sl af x6],by kernel_rfl,(aI rfl (aI rfl (aI rfl vzz)))⟩
theorem oe(x:aq):au Pg 52 (.eptr (ak x)) 0=some (.eptr ((ak x).drop 0))/\aG Pg 48 ((ak x).drop 0)=some (.int .i64 x.Op):=⟨by rw[cb];kernel_rfl,by rw[cb];kernel_rfl⟩
theorem ik(x:aq):au Pg 52 (.eptr (ak x)) 1=some (.eptr ((ak x).drop 1))/\aG Pg 9 ((ak x).drop 1)=some (.str x.Name):=⟨by rw[cb];kernel_rfl,by rw[cb];kernel_rfl⟩
theorem pI(x:aq):au Pg 52 (.eptr (ak x)) 2=some (.eptr ((ak x).drop 2))/\aG Pg 3 ((ak x).drop 2)=some (.int .i64 x.N):=⟨by rw[cb];kernel_rfl,by rw[cb];kernel_rfl⟩
theorem dV(x:aq):au Pg 52 (.eptr (ak x)) 3=some (.eptr ((ak x).drop 3))/\aG Pg 33 ((ak x).drop 3)=some (sl ak x.Kids):=⟨by rw[cb];kernel_rfl,by rw[cb];kernel_rfl⟩
theorem cE(x:aq):au Pg 52 (.eptr (ak x)) 4=some (.eptr ((ak x).drop 4))/\aG Pg 49 ((ak x).drop 4)=some (sl aQ x.Params):=⟨by rw[cb];kernel_rfl,by rw[cb];kernel_rfl⟩
theorem cm(x:aq):au Pg 52 (.eptr (ak x)) 5=some (.eptr ((ak x).drop 5))/\aG Pg 50 ((ak x).drop 5)=some (sl bq x.Alts):=⟨by rw[cb];kernel_rfl,by rw[cb];kernel_rfl⟩
theorem gB(x:aq):au Pg 52 (.eptr (ak x)) 6=some (.eptr ((ak x).drop 6))/\aG Pg 38 ((ak x).drop 6)=some (sl af x.Types):=⟨by rw[cb];kernel_rfl,by rw[cb];kernel_rfl⟩
theorem jz:∀(x:fk),bq x=[.str x.Con,sl cS x.Names,.int .i64 x.Body.Op,.str x.Body.Name,.int .i64 x.Body.N,sl ak x.Body.Kids,sl aQ x.Body.Params,sl bq x.Body.Alts,sl af x.Body.Types]
 |⟨x0,x1,x2⟩=>by
  simp only[bq,cb,vaV,va3]
  rfl
instance iK_tAlt{x:fk}:K0l (bq x):=⟨zt x⟩
instance iE_tAlt:KE bq:=⟨zt⟩
theorem EJ(x:fk):(bq x).length=9:=by rw[jz];rfl
theorem Mu(x:fk):bA (.agg (bq x))=some (bq x):=rfl
theorem J1(x:fk):bA (.agg (bq x))=some [.str x.Con,sl cS x.Names,.int .i64 x.Body.Op,.str x.Body.Name,.int .i64 x.Body.N,sl ak x.Body.Kids,sl aQ x.Body.Params,sl bq x.Body.Alts,sl af x.Body.Types]:=by rw[jz];rfl
theorem Pd(x:fk):∀q∈bq x,q.one=true:=by
 intro q hq
 rw[jz]at hq
 simp only[vau,vaN,or_false]at hq
 rcases hq with rfl|rfl|rfl|rfl|rfl|rfl|rfl|rfl|rfl<;>rfl
theorem Ml(x:fk):aG Pg 98 (bq x)=some (.agg (bq x)):=by
 have:=gF (P:=Pg) (t:=98) (l:=bq x) (r:=[]) (by kernel_rfl) (Qt.trans (EJ x).symm)
 rwa[vbe]at this
theorem JT(x:fk)(r:List PVal):aG Pg 98 ([.str x.Con,sl cS x.Names,.int .i64 x.Body.Op,.str x.Body.Name,.int .i64 x.Body.N,sl ak x.Body.Kids,sl aQ x.Body.Params,sl bq x.Body.Alts,sl af x.Body.Types]++r)=some (.agg (bq x)):=by
 rw[<-jz];exact gF (by kernel_rfl) (Qt.trans (EJ x).symm)
theorem kU(x:fk):au Pg 98 (.eptr (bq x)) 0=some (.eptr ((bq x).drop 0))/\aG Pg 9 ((bq x).drop 0)=some (.str x.Con):=⟨by rw[jz];kernel_rfl,by rw[jz];kernel_rfl⟩
theorem ii(x:fk):au Pg 98 (.eptr (bq x)) 1=some (.eptr ((bq x).drop 1))/\aG Pg 32 ((bq x).drop 1)=some (sl cS x.Names):=⟨by rw[jz];kernel_rfl,by rw[jz];kernel_rfl⟩
theorem ij(x:fk):au Pg 98 (.eptr (bq x)) 2=some (.eptr ((bq x).drop 2))/\aG Pg 52 ((bq x).drop 2)=some (.agg (ak x.Body)):=⟨by rw[jz];kernel_rfl,by rw[jz,cb];kernel_rfl⟩
structure GS where
 Name:ai
 Sort_:ai
deriving DecidableEq
def kh(x:GS):List PVal:=[.str x.Name,.str x.Sort_]
theorem Im(x:GS):kh x=[.str x.Name,.str x.Sort_]:=rfl
theorem L5(x:GS):dO 0 (kh x):=(aI vzz (aI vzz vzz))
theorem OX(x:GS):(kh x).length=2:=by rw[Im];rfl
theorem Pc(x:GS):∀q∈kh x,q.one=true:=by
 intro q hq
 rw[Im]at hq
 simp only[vau,vaN,or_false]at hq
 rcases hq with rfl|rfl<;>rfl
theorem Rr:Pg.cellsOf 229=2:=by kernel_rfl
structure kE where
 Name:ai
 Vars:(List bC)
 Hyp:ag
 Goal:ag
def bZ(x:kE):List PVal:=[.str x.Name,sl bG x.Vars]++(aj x.Hyp++(aj x.Goal))
theorem gY(x:kE):bZ x=[.str x.Name,sl bG x.Vars,.int .i64 x.Hyp.Op,.str x.Hyp.Name,.int .i64 x.Hyp.N,sl aj x.Hyp.Kids,.int .i64 x.Goal.Op,.str x.Goal.Name,.int .i64 x.Goal.N,sl aj x.Goal.Kids]:=by
 unfold bZ
 simp only[bK,vaV,va3]
theorem Hf(x:kE):dO 0 (bZ x):=by rw[gY];exact(aI vzz (aI (bB zv x.Vars) (aI vzz (aI vzz (aI vzz (aI (bB di x.Hyp.Kids) (aI vzz (aI vzz (aI vzz (aI (bB di x.Goal.Kids) trivial))))))))))
theorem Lq(x:kE):(bZ x).length=10:=by rw[gY];rfl
theorem Lu(x:kE):∀q∈bZ x,q.one=true:=by
 intro q hq
 rw[gY]at hq
 simp only[vau,vaN,or_false]at hq
 rcases hq with rfl|rfl|rfl|rfl|rfl|rfl|rfl|rfl|rfl|rfl<;>rfl
theorem Ro:Pg.cellsOf 140=10:=by kernel_rfl
theorem uQ(x:kE):au Pg 140 (.eptr (bZ x)) 1=some (.eptr ((bZ x).drop 1))/\aG Pg 71 ((bZ x).drop 1)=some (sl bG x.Vars):=⟨by rw[gY];kernel_rfl,by rw[gY];kernel_rfl⟩
theorem uR(x:kE):au Pg 140 (.eptr (bZ x)) 2=some (.eptr ((bZ x).drop 2))/\aG Pg 42 ((bZ x).drop 2)=some (.agg (aj x.Hyp)):=⟨by rw[gY];kernel_rfl,by rw[gY,bK];kernel_rfl⟩
theorem uS(x:kE):au Pg 140 (.eptr (bZ x)) 3=some (.eptr ((bZ x).drop 6))/\aG Pg 42 ((bZ x).drop 6)=some (.agg (aj x.Goal)):=⟨by rw[gY];kernel_rfl,by rw[gY,bK];kernel_rfl⟩
structure NU where
 Vars:(List ai)
 Needs:(List vN)
 Abs:(List GS)
 Bounds:(List kE)
 Type_:ae
 Metric:(List ag)
def rN(x:NU):List PVal:=[sl cS x.Vars,sl fA x.Needs,sl kh x.Abs,sl bZ x.Bounds]++(af x.Type_++([sl aj x.Metric]))
theorem zD(x:NU):rN x=[sl cS x.Vars,sl fA x.Needs,sl kh x.Abs,sl bZ x.Bounds,.int .i64 x.Type_.Op,.str x.Type_.Name,sl af x.Type_.Args,sl cS x.Type_.Names,.int .i64 x.Type_.Pred.Op,.str x.Type_.Pred.Name,.int .i64 x.Type_.Pred.N,sl aj x.Type_.Pred.Kids,sl aj x.Type_.Preds,sl aj x.Metric]:=by
 unfold rN
 simp only[aR,vaV,va3]
theorem Pm(x:NU):bA (.agg (rN x))=some [sl cS x.Vars,sl fA x.Needs,sl kh x.Abs,sl bZ x.Bounds,.int .i64 x.Type_.Op,.str x.Type_.Name,sl af x.Type_.Args,sl cS x.Type_.Names,.int .i64 x.Type_.Pred.Op,.str x.Type_.Pred.Name,.int .i64 x.Type_.Pred.N,sl aj x.Type_.Pred.Kids,sl aj x.Type_.Preds,sl aj x.Metric]:=by rw[zD];rfl
structure fJ where
 Name:ai
 Params:(List ai)
 Body:aq
 Mode:Int
 Typed:Bool
 Sig:NU
def bN(x:fJ):List PVal:=[.str x.Name,sl cS x.Params]++(ak x.Body++([.int .i64 x.Mode,.bool x.Typed]++(rN x.Sig)))
theorem jA(x:fJ):bN x=[.str x.Name,sl cS x.Params,.int .i64 x.Body.Op,.str x.Body.Name,.int .i64 x.Body.N,sl ak x.Body.Kids,sl aQ x.Body.Params,sl bq x.Body.Alts,sl af x.Body.Types,.int .i64 x.Mode,.bool x.Typed,sl cS x.Sig.Vars,sl fA x.Sig.Needs,sl kh x.Sig.Abs,sl bZ x.Sig.Bounds,.int .i64 x.Sig.Type_.Op,.str x.Sig.Type_.Name,sl af x.Sig.Type_.Args,sl cS x.Sig.Type_.Names,.int .i64 x.Sig.Type_.Pred.Op,.str x.Sig.Type_.Pred.Name,.int .i64 x.Sig.Type_.Pred.N,sl aj x.Sig.Type_.Pred.Kids,sl aj x.Sig.Type_.Preds,sl aj x.Sig.Metric]:=by
 unfold bN
 simp only[cb,zD,vaV,va3]
theorem Dt(x:fJ):dO 0 (bN x):=by rw[jA];exact(aI vzz (aI (bB KU x.Params) (aI vzz (aI vzz (aI vzz (aI (bB oc x.Body.Kids) (aI (bB qB x.Body.Params) (aI (bB zt x.Body.Alts) (aI (bB dy x.Body.Types) (aI vzz (aI vzz (aI (bB KU x.Sig.Vars) (aI (bB Ei x.Sig.Needs) (aI (bB L5 x.Sig.Abs) (aI (bB Hf x.Sig.Bounds) (aI vzz (aI vzz (aI (bB dy x.Sig.Type_.Args) (aI (bB KU x.Sig.Type_.Names) (aI vzz (aI vzz (aI vzz (aI (bB di x.Sig.Type_.Pred.Kids) (aI (bB di x.Sig.Type_.Preds) (aI (bB di x.Sig.Metric) trivial)))))))))))))))))))))))))
instance iE_tDef:KE bN:=⟨Dt⟩
theorem OY(x:fJ):(bN x).length=25:=by rw[jA];rfl
theorem Pf(x:fJ):∀q∈bN x,q.one=true:=by
 intro q hq
 rw[jA]at hq
 simp only[vau,vaN,or_false]at hq
 rcases hq with rfl|rfl|rfl|rfl|rfl|rfl|rfl|rfl|rfl|rfl|rfl|rfl|rfl|rfl|rfl|rfl|rfl|rfl|rfl|rfl|rfl|rfl|rfl|rfl|rfl<;>rfl
theorem Rn:Pg.cellsOf 131=25:=by kernel_rfl
theorem zG(x:fJ):au Pg 131 (.eptr (bN x)) 0=some (.eptr ((bN x).drop 0))/\aG Pg 9 ((bN x).drop 0)=some (.str x.Name):=⟨by rw[jA];kernel_rfl,by rw[jA];kernel_rfl⟩
theorem yk(x:fJ):au Pg 131 (.eptr (bN x)) 1=some (.eptr ((bN x).drop 1))/\aG Pg 32 ((bN x).drop 1)=some (sl cS x.Params):=⟨by rw[jA];kernel_rfl,by rw[jA];kernel_rfl⟩
theorem yl(x:fJ):au Pg 131 (.eptr (bN x)) 2=some (.eptr ((bN x).drop 2))/\aG Pg 52 ((bN x).drop 2)=some (.agg (ak x.Body)):=⟨by rw[jA];kernel_rfl,by rw[jA,cb];kernel_rfl⟩
theorem uT(x:fJ):au Pg 131 (.eptr (bN x)) 5=some (.eptr ((bN x).drop 11))/\aG Pg 128 ((bN x).drop 11)=some (.agg (rN x.Sig)):=⟨by rw[jA];kernel_rfl,by rw[jA,zD];kernel_rfl⟩
structure bD where
 Class:ai
 Type_:ae
 Needs:(List vN)
 Defs:(List fJ)
def aO(x:bD):List PVal:=[.str x.Class]++(af x.Type_++([sl fA x.Needs,sl bN x.Defs]))
theorem ee(x:bD):aO x=[.str x.Class,.int .i64 x.Type_.Op,.str x.Type_.Name,sl af x.Type_.Args,sl cS x.Type_.Names,.int .i64 x.Type_.Pred.Op,.str x.Type_.Pred.Name,.int .i64 x.Type_.Pred.N,sl aj x.Type_.Pred.Kids,sl aj x.Type_.Preds,sl fA x.Needs,sl bN x.Defs]:=by
 unfold aO
 simp only[aR,vaV,va3]
theorem rO(x:bD):dO 0 (aO x):=by rw[ee];exact(aI vzz (aI vzz (aI vzz (aI (bB dy x.Type_.Args) (aI (bB KU x.Type_.Names) (aI vzz (aI vzz (aI vzz (aI (bB di x.Type_.Pred.Kids) (aI (bB di x.Type_.Preds) (aI (bB Ei x.Needs) (aI (bB Dt x.Defs) trivial))))))))))))
instance iE_tInstance:KE aO:=⟨rO⟩
theorem GB(x:bD):(aO x).length=12:=by rw[ee];rfl
theorem GI(x:bD):∀q∈aO x,q.one=true:=by
 intro q hq
 rw[ee]at hq
 simp only[vau,vaN,or_false]at hq
 rcases hq with rfl|rfl|rfl|rfl|rfl|rfl|rfl|rfl|rfl|rfl|rfl|rfl<;>rfl
theorem To:Pg.cellsOf 85=12:=by kernel_rfl
theorem rU(x:bD):au Pg 85 (.eptr (aO x)) 1=some (.eptr ((aO x).drop 1))/\aG Pg 44 ((aO x).drop 1)=some (.agg (af x.Type_)):=⟨by rw[ee];kernel_rfl,by rw[ee,aR];kernel_rfl⟩
theorem qD(x:bD):au Pg 85 (.eptr (aO x)) 2=some (.eptr ((aO x).drop 10))/\aG Pg 83 ((aO x).drop 10)=some (sl fA x.Needs):=⟨by rw[ee];kernel_rfl,by rw[ee];kernel_rfl⟩
theorem qE(x:bD):au Pg 85 (.eptr (aO x)) 3=some (.eptr ((aO x).drop 11))/\aG Pg 27 ((aO x).drop 11)=some (sl bN x.Defs):=⟨by rw[ee];kernel_rfl,by rw[ee];kernel_rfl⟩
structure xy where
 Con:ai
 Names:(List ai)
 Body:ag
def ed(x:xy):List PVal:=[.str x.Con,sl cS x.Names]++(aj x.Body)
theorem lQ(x:xy):ed x=[.str x.Con,sl cS x.Names,.int .i64 x.Body.Op,.str x.Body.Name,.int .i64 x.Body.N,sl aj x.Body.Kids]:=by
 unfold ed
 simp only[bK,vaV,va3]
theorem Jx(x:xy):dO 0 (ed x):=by rw[lQ];exact(aI vzz (aI (bB KU x.Names) (aI vzz (aI vzz (aI vzz (aI (bB di x.Body.Kids) trivial))))))
theorem Na(x:xy):(ed x).length=6:=by rw[lQ];rfl
theorem Nm(x:xy):∀q∈ed x,q.one=true:=by
 intro q hq
 rw[lQ]at hq
 simp only[vau,vaN,or_false]at hq
 rcases hq with rfl|rfl|rfl|rfl|rfl|rfl<;>rfl
theorem Tq:Pg.cellsOf 92=6:=by kernel_rfl
theorem yg(x:xy):au Pg 92 (.eptr (ed x)) 1=some (.eptr ((ed x).drop 1))/\aG Pg 32 ((ed x).drop 1)=some (sl cS x.Names):=⟨by rw[lQ];kernel_rfl,by rw[lQ];kernel_rfl⟩
theorem yh(x:xy):au Pg 92 (.eptr (ed x)) 2=some (.eptr ((ed x).drop 2))/\aG Pg 42 ((ed x).drop 2)=some (.agg (aj x.Body)):=⟨by rw[lQ];kernel_rfl,by rw[lQ,bK];kernel_rfl⟩
structure bT where
 Name:ai
 Data:ai
 Result:ai
 Cases:(List xy)
 Inv:ag
def aZ(x:bT):List PVal:=[.str x.Name,.str x.Data,.str x.Result,sl ed x.Cases]++(aj x.Inv)
theorem gi(x:bT):aZ x=[.str x.Name,.str x.Data,.str x.Result,sl ed x.Cases,.int .i64 x.Inv.Op,.str x.Inv.Name,.int .i64 x.Inv.N,sl aj x.Inv.Kids]:=by
 unfold aZ
 simp only[bK,vaV,va3]
theorem uK(x:bT):dO 0 (aZ x):=by rw[gi];exact(aI vzz (aI vzz (aI vzz (aI (bB Jx x.Cases) (aI vzz (aI vzz (aI vzz (aI (bB di x.Inv.Kids) trivial))))))))
instance iE_tMeasure:KE aZ:=⟨uK⟩
theorem IG(x:bT):(aZ x).length=8:=by rw[gi];rfl
theorem IS(x:bT):∀q∈aZ x,q.one=true:=by
 intro q hq
 rw[gi]at hq
 simp only[vau,vaN,or_false]at hq
 rcases hq with rfl|rfl|rfl|rfl|rfl|rfl|rfl|rfl<;>rfl
theorem Tp:Pg.cellsOf 90=8:=by kernel_rfl
theorem hU(x:bT):au Pg 90 (.eptr (aZ x)) 3=some (.eptr ((aZ x).drop 3))/\aG Pg 88 ((aZ x).drop 3)=some (sl ed x.Cases):=⟨by rw[gi];kernel_rfl,by rw[gi];kernel_rfl⟩
theorem tJ(x:bT):au Pg 90 (.eptr (aZ x)) 4=some (.eptr ((aZ x).drop 4))/\aG Pg 42 ((aZ x).drop 4)=some (.agg (aj x.Inv)):=⟨by rw[gi];kernel_rfl,by rw[gi,bK];kernel_rfl⟩
structure eP where
 Name:ai
 Vars:(List bC)
 Body:ag
def ca(x:eP):List PVal:=[.str x.Name,sl bG x.Vars]++(aj x.Body)
theorem lR(x:eP):ca x=[.str x.Name,sl bG x.Vars,.int .i64 x.Body.Op,.str x.Body.Name,.int .i64 x.Body.N,sl aj x.Body.Kids]:=by
 unfold ca
 simp only[bK,vaV,va3]
theorem Ej(x:eP):dO 0 (ca x):=by rw[lR];exact(aI vzz (aI (bB zv x.Vars) (aI vzz (aI vzz (aI vzz (aI (bB di x.Body.Kids) trivial))))))
instance iE_tQual:KE ca:=⟨Ej⟩
theorem Nc(x:eP):(ca x).length=6:=by rw[lR];rfl
theorem Nr(x:eP):∀q∈ca x,q.one=true:=by
 intro q hq
 rw[lR]at hq
 simp only[vau,vaN,or_false]at hq
 rcases hq with rfl|rfl|rfl|rfl|rfl|rfl<;>rfl
theorem Ts:Pg.cellsOf 94=6:=by kernel_rfl
theorem ym(x:eP):au Pg 94 (.eptr (ca x)) 1=some (.eptr ((ca x).drop 1))/\aG Pg 71 ((ca x).drop 1)=some (sl bG x.Vars):=⟨by rw[lR];kernel_rfl,by rw[lR];kernel_rfl⟩
theorem yn(x:eP):au Pg 94 (.eptr (ca x)) 2=some (.eptr ((ca x).drop 2))/\aG Pg 42 ((ca x).drop 2)=some (.agg (aj x.Body)):=⟨by rw[lR];kernel_rfl,by rw[lR,bK];kernel_rfl⟩
structure al where
 Datas:(List aN)
 Classes:(List dg)
 Instances:(List bD)
 Measures:(List bT)
 Quals:(List eP)
 Defs:(List fJ)
def am(x:al):List PVal:=[sl ax x.Datas,sl bV x.Classes,sl aO x.Instances,sl aZ x.Measures,sl ca x.Quals,sl bN x.Defs]
theorem rT(x:al):am x=[sl ax x.Datas,sl bV x.Classes,sl aO x.Instances,sl aZ x.Measures,sl ca x.Quals,sl bN x.Defs]:=rfl
theorem rQ(x:al):dO 0 (am x):=(aI (bB gG x.Datas) (aI (bB A8 x.Classes) (aI (bB rO x.Instances) (aI (bB uK x.Measures) (aI (bB Ej x.Quals) (aI (bB Dt x.Defs) trivial))))))
instance iK_tModule{x:al}:K0l (am x):=⟨rQ x⟩
theorem jP(x:al):(am x).length=6:=by rw[rT];rfl
theorem de(x:al):bA (.agg (am x))=some (am x):=rfl
theorem Tl:Pg.cellsOf 29=6:=by kernel_rfl
theorem bh(x:al):aG Pg 29 (am x)=some (.agg (am x)):=by
 have:=gF (P:=Pg) (t:=29) (l:=am x) (r:=[]) (by kernel_rfl) (Tl.trans (jP x).symm)
 rwa[vbe]at this
theorem gj(x:al)(r:List PVal):aG Pg 29 ([sl ax x.Datas,sl bV x.Classes,sl aO x.Instances,sl aZ x.Measures,sl ca x.Quals,sl bN x.Defs]++r)=some (.agg (am x)):=by
 rw[<-rT];exact gF (by kernel_rfl) (Tl.trans (jP x).symm)
theorem Ic(x0:(List aN)):dp Pg 29 [(0,sl ax x0)]=some (.agg (am (⟨x0,([]:List dg),([]:List bD),([]:List bT),([]:List eP),([]:List fJ)⟩:al))):=by
 kernel_rfl
theorem Ia(x0:(List aN)):si Pg 29 [(0,sl ax x0)] [(1,80),(2,85),(3,90),(4,94),(5,131)]:=by
 exact⟨[sl ax x0,.val eR,.val eR,.val eR,.val eR,.val eR],by kernel_rfl,(aI rfl (aI rfl (aI rfl (aI rfl (aI rfl vzz)))))⟩
theorem bj(x:al):au Pg 29 (.eptr (am x)) 0=some (.eptr ((am x).drop 0))/\aG Pg 22 ((am x).drop 0)=some (sl ax x.Datas):=⟨by kernel_rfl,by kernel_rfl⟩
theorem fB(x:al):au Pg 29 (.eptr (am x)) 1=some (.eptr ((am x).drop 1))/\aG Pg 23 ((am x).drop 1)=some (sl bV x.Classes):=⟨by kernel_rfl,by kernel_rfl⟩
theorem ej(x:al):au Pg 29 (.eptr (am x)) 2=some (.eptr ((am x).drop 2))/\aG Pg 24 ((am x).drop 2)=some (sl aO x.Instances):=⟨by kernel_rfl,by kernel_rfl⟩
theorem dj(x:al):au Pg 29 (.eptr (am x)) 3=some (.eptr ((am x).drop 3))/\aG Pg 25 ((am x).drop 3)=some (sl aZ x.Measures):=⟨by kernel_rfl,by kernel_rfl⟩
theorem fC(x:al):au Pg 29 (.eptr (am x)) 4=some (.eptr ((am x).drop 4))/\aG Pg 26 ((am x).drop 4)=some (sl ca x.Quals):=⟨by kernel_rfl,by kernel_rfl⟩
theorem lS(x:al):au Pg 29 (.eptr (am x)) 5=some (.eptr ((am x).drop 5))/\aG Pg 27 ((am x).drop 5)=some (sl bN x.Defs):=⟨by kernel_rfl,by kernel_rfl⟩
mutual
inductive aa where
 |mk (Op:Int) (N:Int) (Name:ai) (Kids:(List aa)) (Params:(List ai)) (Body:(List aq)) (Binds:(List aD))
inductive aD where
 |mk (Name:ai) (Value:aa)
end
def aa.Op:aa->Int
 |⟨x,_,_,_,_,_,_⟩=>x
def aa.N:aa->Int
 |⟨_,x,_,_,_,_,_⟩=>x
def aa.Name:aa->ai
 |⟨_,_,x,_,_,_,_⟩=>x
def aa.Kids:aa->(List aa)
 |⟨_,_,_,x,_,_,_⟩=>x
def aa.Params:aa->(List ai)
 |⟨_,_,_,_,x,_,_⟩=>x
def aa.Body:aa->(List aq)
 |⟨_,_,_,_,_,x,_⟩=>x
def aa.Binds:aa->(List aD)
 |⟨_,_,_,_,_,_,x⟩=>x
def aD.Name:aD->ai
 |⟨x,_⟩=>x
def aD.Value:aD->aa
 |⟨_,x⟩=>x
mutual
def ac:aa->List PVal
 |⟨x0,x1,x2,x3,x4,x5,x6⟩=>[.int .i64 x0,.int .i64 x1,.str x2,.slice (lV x3),sl cS x4,sl ak x5,.slice (pM x6)]
def aW:aD->List PVal
 |⟨x0,x1⟩=>[.str x0]++(ac x1)
def lV:List aa->List (List PVal)
 |[]=>[]
 |x::r=>ac x::lV r
def pM:List aD->List (List PVal)
 |[]=>[]
 |x::r=>aW x::pM r
end
theorem Cj:∀(l:List aa),lV l=l.map ac
 |[]=>by simp[lV]
 |x::r=>by simp[lV,Cj r]
theorem EF:∀(l:List aD),pM l=l.map aW
 |[]=>by simp[pM]
 |x::r=>by simp[pM,EF r]
mutual
theorem cQ:∀(x:aa),dO 0 (ac x)
 |⟨x0,x1,x2,x3,x4,x5,x6⟩=>by rw[ac];exact(aI vzz (aI vzz (aI vzz (aI (Ek x3) (aI (bB KU x4) (aI (bB oc x5) (aI (Hg x6) trivial)))))))
theorem zu:∀(x:aD),dO 0 (aW x)
 |⟨x0,x1⟩=>by rw[aW];exact kR.2 (aI ((aI vzz vzz)) (cQ x1))
theorem Ek:∀(l:List aa),lM 0 (lV l)
 |[]=>by simp[lV,lM]
 |x::r=>by rw[lV];exact⟨cQ x,Ek r⟩
theorem Hg:∀(l:List aD),lM 0 (pM l)
 |[]=>by simp[pM,lM]
 |x::r=>by rw[pM];exact⟨zu x,Hg r⟩
end
theorem bz:∀(x:aa),ac x=[.int .i64 x.Op,.int .i64 x.N,.str x.Name,sl ac x.Kids,sl cS x.Params,sl ak x.Body,sl aW x.Binds]
 |⟨x0,x1,x2,x3,x4,x5,x6⟩=>by
  simp only[ac,Cj,EF]
  rfl
abbrev oN(x:aa):PVal:=.agg (ac x)
instance iK_tValue{x:aa}:K0l (ac x):=⟨cQ x⟩
instance iE_tValue:KE ac:=⟨cQ⟩
theorem yu(x:aa):(ac x).length=7:=by rw[bz];rfl
theorem cD(x:aa):bA (.agg (ac x))=some (ac x):=rfl
theorem kZ(x:aa):bA (oN x)=some (ac x):=rfl
theorem eC(x:aa):bA (.agg (ac x))=some [.int .i64 x.Op,.int .i64 x.N,.str x.Name,sl ac x.Kids,sl cS x.Params,sl ak x.Body,sl aW x.Binds]:=by rw[bz];rfl
theorem Lx(x:aa):∀q∈ac x,q.one=true:=by
 intro q hq
 rw[bz]at hq
 simp only[vau,vaN,or_false]at hq
 rcases hq with rfl|rfl|rfl|rfl|rfl|rfl|rfl<;>rfl
theorem Qn:Pg.cellsOf 36=7:=by kernel_rfl
theorem L6:Pg.cellsOf 113=8:=by kernel_rfl
theorem aB(x:aa):aG Pg 36 (ac x)=some (.agg (ac x)):=by
 have:=gF (P:=Pg) (t:=36) (l:=ac x) (r:=[]) (by kernel_rfl) (Qn.trans (yu x).symm)
 rwa[vbe]at this
theorem aM(x:aa)(r:List PVal):aG Pg 36 ([.int .i64 x.Op,.int .i64 x.N,.str x.Name,sl ac x.Kids,sl cS x.Params,sl ak x.Body,sl aW x.Binds]++r)=some (.agg (ac x)):=by
 rw[<-bz];exact gF (by kernel_rfl) (Qn.trans (yu x).symm)
theorem Fj(x:aa):PVal.agg [.int .i64 x.Op,.int .i64 x.N,.str x.Name,sl ac x.Kids,sl cS x.Params,sl ak x.Body,sl aW x.Binds]=.agg (ac x):=by rw[bz]
theorem lE(x0:Int)(x1:Int):dp Pg 36 [(0,.int .i64 x0),(1,.int .i64 x1)]=some (.agg (ac (⟨x0,x1,([]:ai),([]:List aa),([]:List ai),([]:List aq),([]:List aD)⟩:aa))):=by
 simp only[bz]
 kernel_rfl
theorem lC(x0:Int)(x1:Int):si Pg 36 [(0,.int .i64 x0),(1,.int .i64 x1)] [(3,36),(4,9),(5,52),(6,113)]:=by
 exact⟨[.int .i64 x0,.int .i64 x1,.str ([]:ai),.val eR,.val eR,.val eR,.val eR],by kernel_rfl,(aI rfl (aI rfl (aI rfl (aI rfl vzz))))⟩
theorem Gh(x0:Int)(x2:ai):dp Pg 36 [(0,.int .i64 x0),(2,.str x2)]=some (.agg (ac (⟨x0,0,x2,([]:List aa),([]:List ai),([]:List aq),([]:List aD)⟩:aa))):=by
 simp only[bz]
 kernel_rfl
theorem Gf(x0:Int)(x2:ai):si Pg 36 [(0,.int .i64 x0),(2,.str x2)] [(3,36),(4,9),(5,52),(6,113)]:=by
 exact⟨[.int .i64 x0,.int .i64 0,.str x2,.val eR,.val eR,.val eR,.val eR],by kernel_rfl,(aI rfl (aI rfl (aI rfl (aI rfl vzz))))⟩
theorem sM(x0:Int)(x2:ai)(x3:(List aa)):dp Pg 36 [(0,.int .i64 x0),(2,.str x2),(3,sl ac x3)]=some (.agg (ac (⟨x0,0,x2,x3,([]:List ai),([]:List aq),([]:List aD)⟩:aa))):=by
 simp only[bz]
 kernel_rfl
theorem Dg(x0:Int)(x2:ai)(x3:(List aa)):si Pg 36 [(0,.int .i64 x0),(2,.str x2),(3,sl ac x3)] [(4,9),(5,52),(6,113)]:=by
 exact⟨[.int .i64 x0,.int .i64 0,.str x2,sl ac x3,.val eR,.val eR,.val eR],by kernel_rfl,(aI rfl (aI rfl (aI rfl vzz)))⟩
theorem Jt(x0:Int):dp Pg 36 [(0,.int .i64 x0)]=some (.agg (ac (⟨x0,0,([]:ai),([]:List aa),([]:List ai),([]:List aq),([]:List aD)⟩:aa))):=by
 simp only[bz]
 kernel_rfl
theorem Jr(x0:Int):si Pg 36 [(0,.int .i64 x0)] [(3,36),(4,9),(5,52),(6,113)]:=by
 exact⟨[.int .i64 x0,.int .i64 0,.str ([]:ai),.val eR,.val eR,.val eR,.val eR],by kernel_rfl,(aI rfl (aI rfl (aI rfl (aI rfl vzz))))⟩
theorem aJ(x:aa):au Pg 36 (.eptr (ac x)) 0=some (.eptr ((ac x).drop 0))/\aG Pg 30 ((ac x).drop 0)=some (.int .i64 x.Op):=⟨by rw[bz];kernel_rfl,by rw[bz];kernel_rfl⟩
theorem aC(x:aa):au Pg 36 (.eptr (ac x)) 1=some (.eptr ((ac x).drop 1))/\aG Pg 3 ((ac x).drop 1)=some (.int .i64 x.N):=⟨by rw[bz];kernel_rfl,by rw[bz];kernel_rfl⟩
theorem bH(x:aa):au Pg 36 (.eptr (ac x)) 2=some (.eptr ((ac x).drop 2))/\aG Pg 9 ((ac x).drop 2)=some (.str x.Name):=⟨by rw[bz];kernel_rfl,by rw[bz];kernel_rfl⟩
theorem aU(x:aa):au Pg 36 (.eptr (ac x)) 3=some (.eptr ((ac x).drop 3))/\aG Pg 31 ((ac x).drop 3)=some (sl ac x.Kids):=⟨by rw[bz];kernel_rfl,by rw[bz];kernel_rfl⟩
theorem eI(x:aa):au Pg 36 (.eptr (ac x)) 4=some (.eptr ((ac x).drop 4))/\aG Pg 32 ((ac x).drop 4)=some (sl cS x.Params):=⟨by rw[bz];kernel_rfl,by rw[bz];kernel_rfl⟩
theorem cy(x:aa):au Pg 36 (.eptr (ac x)) 5=some (.eptr ((ac x).drop 5))/\aG Pg 33 ((ac x).drop 5)=some (sl ak x.Body):=⟨by rw[bz];kernel_rfl,by rw[bz];kernel_rfl⟩
theorem cU(x:aa):au Pg 36 (.eptr (ac x)) 6=some (.eptr ((ac x).drop 6))/\aG Pg 34 ((ac x).drop 6)=some (sl aW x.Binds):=⟨by rw[bz];kernel_rfl,by rw[bz];kernel_rfl⟩
theorem kj:∀(x:aD),aW x=[.str x.Name,.int .i64 x.Value.Op,.int .i64 x.Value.N,.str x.Value.Name,sl ac x.Value.Kids,sl cS x.Value.Params,sl ak x.Value.Body,sl aW x.Value.Binds]
 |⟨x0,x1⟩=>by
  simp only[aW,bz,vaV,va3]
  rfl
instance iK_tBind{x:aD}:K0l (aW x):=⟨zu x⟩
instance iE_tBind:KE aW:=⟨zu⟩
theorem Bg(x:aD):(aW x).length=8:=by rw[kj];rfl
theorem J0(x:aD):bA (.agg (aW x))=some (aW x):=rfl
theorem HE(x:aD):bA (.agg (aW x))=some [.str x.Name,.int .i64 x.Value.Op,.int .i64 x.Value.N,.str x.Value.Name,sl ac x.Value.Kids,sl cS x.Value.Params,sl ak x.Value.Body,sl aW x.Value.Binds]:=by rw[kj];rfl
theorem Nl(x:aD):∀q∈aW x,q.one=true:=by
 intro q hq
 rw[kj]at hq
 simp only[vau,vaN,or_false]at hq
 rcases hq with rfl|rfl|rfl|rfl|rfl|rfl|rfl|rfl<;>rfl
theorem JS(x:aD):aG Pg 113 (aW x)=some (.agg (aW x)):=by
 have:=gF (P:=Pg) (t:=113) (l:=aW x) (r:=[]) (by kernel_rfl) (L6.trans (Bg x).symm)
 rwa[vbe]at this
theorem Hw(x:aD)(r:List PVal):aG Pg 113 ([.str x.Name,.int .i64 x.Value.Op,.int .i64 x.Value.N,.str x.Value.Name,sl ac x.Value.Kids,sl cS x.Value.Params,sl ak x.Value.Body,sl aW x.Value.Binds]++r)=some (.agg (aW x)):=by
 rw[<-kj];exact gF (by kernel_rfl) (L6.trans (Bg x).symm)
theorem jJ(x:aD):au Pg 113 (.eptr (aW x)) 0=some (.eptr ((aW x).drop 0))/\aG Pg 9 ((aW x).drop 0)=some (.str x.Name):=⟨by rw[kj];kernel_rfl,by rw[kj];kernel_rfl⟩
theorem jf(x:aD):au Pg 113 (.eptr (aW x)) 1=some (.eptr ((aW x).drop 1))/\aG Pg 36 ((aW x).drop 1)=some (.agg (ac x.Value)):=⟨by rw[kj];kernel_rfl,by rw[kj,bz];kernel_rfl⟩
theorem vI:tP Pg 22 74 ax:=⟨underlying22,λx=>(Bh x).trans Qr.symm,by kernel_rfl,by rw[Qr];decide,by kernel_rfl,vaF (by kernel_rfl),Nn,gG⟩
theorem Q4:tP Pg 23 80 bV:=⟨underlying23,λx=>(Lr x).trans Tm.symm,by kernel_rfl,by rw[Tm];decide,by kernel_rfl,vaF (by kernel_rfl),Lv,A8⟩
theorem PH:tP Pg 24 85 aO:=⟨underlying24,λx=>(GB x).trans To.symm,by kernel_rfl,by rw[To];decide,by kernel_rfl,vaF (by kernel_rfl),GI,rO⟩
theorem NO:tP Pg 25 90 aZ:=⟨underlying25,λx=>(IG x).trans Tp.symm,by kernel_rfl,by rw[Tp];decide,by kernel_rfl,vaF (by kernel_rfl),IS,uK⟩
theorem Q5:tP Pg 26 94 ca:=⟨underlying26,λx=>(Nc x).trans Ts.symm,by kernel_rfl,by rw[Ts];decide,by kernel_rfl,vaF (by kernel_rfl),Nr,Ej⟩
theorem LN:tP Pg 27 131 bN:=⟨underlying27,λx=>(OY x).trans Rn.symm,by kernel_rfl,by rw[Rn];decide,by kernel_rfl,vaF (by kernel_rfl),Pf,Dt⟩
theorem bE:tP Pg 31 36 ac:=⟨underlying31,λx=>(yu x).trans Qn.symm,by kernel_rfl,by rw[Qn];decide,by kernel_rfl,vaF (by kernel_rfl),Lx,cQ⟩
theorem Vn:Pg.cellsOf 9=1:=by kernel_rfl
theorem lY:tP Pg 32 9 cS:=⟨underlying32,λ_=>Vn.symm,by kernel_rfl,by rw[Vn];decide,by kernel_rfl,vaF (by kernel_rfl),VF,KU⟩
theorem yF:tP Pg 33 52 ak:=⟨underlying33,λx=>(Bi x).trans Qq.symm,by kernel_rfl,by rw[Qq];decide,by kernel_rfl,vaF (by kernel_rfl),No,oc⟩
theorem GR:tP Pg 34 113 aW:=⟨underlying34,λx=>(Bg x).trans L6.symm,by kernel_rfl,by rw[L6];decide,by kernel_rfl,vaF (by kernel_rfl),Nl,zu⟩
theorem dl:tP Pg 38 44 af:=⟨underlying38,λx=>(Bk x).trans Qp.symm,by kernel_rfl,by rw[Qp];decide,by kernel_rfl,vaF (by kernel_rfl),Ns,dy⟩
theorem iC:tP Pg 40 42 aj:=⟨underlying40,λx=>(Bj x).trans Qo.symm,by kernel_rfl,by rw[Qo];decide,by kernel_rfl,vaF (by kernel_rfl),Nq,di⟩
theorem Fl:tP Pg 49 96 aQ:=⟨underlying49,λx=>(yt x).trans Qs.symm,by kernel_rfl,by rw[Qs];decide,by kernel_rfl,vaF (by kernel_rfl),Lw,qB⟩
theorem Di:tP Pg 50 98 bq:=⟨underlying50,λx=>(EJ x).trans Qt.symm,by kernel_rfl,by rw[Qt];decide,by kernel_rfl,vaF (by kernel_rfl),Pd,zt⟩
theorem Sw:tP Pg 71 223 bG:=⟨underlying71,λx=>(OZ x).trans Rp.symm,by kernel_rfl,by rw[Rp];decide,by kernel_rfl,vaF (by kernel_rfl),Ph,zv⟩
theorem Dj:tP Pg 72 76 aF:=⟨underlying72,λx=>(JP x).trans R2.symm,by kernel_rfl,by rw[R2];decide,by kernel_rfl,vaF (by kernel_rfl),Pe,lF⟩
theorem TZ:tP Pg 78 82 cW:=⟨underlying78,λx=>(JQ x).trans Tn.symm,by kernel_rfl,by rw[Tn];decide,by kernel_rfl,vaF (by kernel_rfl),JW,Eh⟩
theorem T0:tP Pg 83 228 fA:=⟨underlying83,λx=>(Nb x).trans Rq.symm,by kernel_rfl,by rw[Rq];decide,by kernel_rfl,vaF (by kernel_rfl),Np,Ei⟩
theorem Sx:tP Pg 88 92 ed:=⟨underlying88,λx=>(Na x).trans Tq.symm,by kernel_rfl,by rw[Tq];decide,by kernel_rfl,vaF (by kernel_rfl),Nm,Jx⟩
theorem TY:tP Pg 125 229 kh:=⟨underlying125,λx=>(OX x).trans Rr.symm,by kernel_rfl,by rw[Rr];decide,by kernel_rfl,vaF (by kernel_rfl),Pc,L5⟩
theorem MB:tP Pg 126 140 bZ:=⟨underlying126,λx=>(Lq x).trans Ro.symm,by kernel_rfl,by rw[Ro];decide,by kernel_rfl,vaF (by kernel_rfl),Lu,Hf⟩
theorem Wr:Pg.cellsOf 3=1:=by kernel_rfl
theorem PG:tP Pg 146 3 (cI .i64):=⟨underlying146,λ_=>Wr.symm,by kernel_rfl,by rw[Wr];decide,by kernel_rfl,vaF (by kernel_rfl),(VE .i64),(Wq .i64)⟩
theorem Ws:Pg.cellsOf 5=1:=by kernel_rfl
theorem TH(l:List ai)(n:Nat)(hn:(decide (l.length=n)&&decide (n * 1<=16777216))=true):dK Pg 32 n ((l.map PVal.str).zipIdx 0|>.map λx=>(x.2,x.1))=some (sl cS l):=lY.mk' (v:=PVal.str) XX l n (by rw[Vn];exact hn)
theorem X9:(Pg.underlying 3).any ME=true:=by kernel_rfl
theorem T8:(Pg.underlying 9).any ME=true:=by kernel_rfl
theorem VH:eO Pg 29=some [sl ax ([]:List aN),sl bV ([]:List dg),sl aO ([]:List bD),sl aZ ([]:List bT),sl ca ([]:List eP),sl bN ([]:List fJ)]:=by kernel_rfl
theorem zX:eO Pg 36=some [.int .i64 0,.int .i64 0,.str ([]:ai),sl ac ([]:List aa),sl cS ([]:List ai),sl ak ([]:List aq),sl aW ([]:List aD)]:=by kernel_rfl
theorem TO:eO Pg 42=some [.int .i64 0,.str ([]:ai),.int .i64 0,sl aj ([]:List ag)]:=by kernel_rfl
theorem tK:eO Pg 44=some [.int .i64 0,.str ([]:ai),sl af ([]:List ae),sl cS ([]:List ai),.int .i64 0,.str ([]:ai),.int .i64 0,sl aj ([]:List ag),sl aj ([]:List ag)]:=by kernel_rfl
theorem TP:eO Pg 52=some [.int .i64 0,.str ([]:ai),.int .i64 0,sl ak ([]:List aq),sl aQ ([]:List cV),sl bq ([]:List fk),sl af ([]:List ae)]:=by kernel_rfl
theorem By:eO Pg 74=some [.str ([]:ai),sl cS ([]:List ai),sl bG ([]:List bC),sl aF ([]:List aH)]:=by kernel_rfl
theorem TQ:eO Pg 76=some [.str ([]:ai),sl cS ([]:List ai),sl af ([]:List ae)]:=by kernel_rfl
theorem TR:eO Pg 96=some [.str ([]:ai),.int .i64 0,.str ([]:ai),sl af ([]:List ae),sl cS ([]:List ai),.int .i64 0,.str ([]:ai),.int .i64 0,sl aj ([]:List ag),sl aj ([]:List ag)]:=by kernel_rfl
theorem TS:eO Pg 98=some [.str ([]:ai),sl cS ([]:List ai),.int .i64 0,.str ([]:ai),.int .i64 0,sl ak ([]:List aq),sl aQ ([]:List cV),sl bq ([]:List fk),sl af ([]:List ae)]:=by kernel_rfl
theorem Ry:eO Pg 113=some [.str ([]:ai),.int .i64 0,.int .i64 0,.str ([]:ai),sl ac ([]:List aa),sl cS ([]:List ai),sl ak ([]:List aq),sl aW ([]:List aD)]:=by kernel_rfl
theorem TM:eO Pg 128=some [sl cS ([]:List ai),sl fA ([]:List vN),sl kh ([]:List GS),sl bZ ([]:List kE),.int .i64 0,.str ([]:ai),sl af ([]:List ae),sl cS ([]:List ai),.int .i64 0,.str ([]:ai),.int .i64 0,sl aj ([]:List ag),sl aj ([]:List ag),sl aj ([]:List ag)]:=by kernel_rfl
theorem TN:eO Pg 135=some [sl ax ([]:List aN),sl bV ([]:List dg),sl aO ([]:List bD),sl aZ ([]:List bT),sl ca ([]:List eP),sl bN ([]:List fJ),.val (.map none)]:=by kernel_rfl
def gH:List Int:=[1,10,100,1000,10000,100000,1000000,10000000,100000000,1000000000,10000000000,100000000000,1000000000000,10000000000000,100000000000000,1000000000000000,10000000000000000,100000000000000000,1000000000000000000,10000000000000000000]
theorem Ti:Pg.cellsOf 238=20:=by kernel_rfl
theorem Th:Pg.cellsOf 217=1:=by kernel_rfl
def qG:List Int:=[0,1,28,2,29,14,24,3,30,22,20,15,25,17,4,8,31,27,13,23,21,19,16,7,26,12,18,6,11,5,10,9]
theorem Tj:Pg.cellsOf 252=32:=by kernel_rfl
def qH:List Int:=[0,1,56,2,57,49,28,3,61,58,42,50,38,29,17,4,62,47,59,36,45,43,51,22,53,39,33,30,24,18,12,5,63,55,48,27,60,41,37,16,46,35,44,21,52,32,23,11,54,26,40,15,34,20,31,10,25,14,19,9,13,8,7,6]
theorem Tk:Pg.cellsOf 253=64:=by kernel_rfl
def SF:ai:=[116,114,117,101]
def Rg:ai:=[102,97,108,115,101]
def Kw:ai:=[110,101,119,32,40]
def RB:ai:=[41]
def P0:ai:=[32,40]
def P1:ai:=[44,32]
def Ud:ai:=[102,117,110]
def GE:List (Nat×List PVal):=[(1,gH.map (PVal.int .u64)),(2,qG.map (PVal.int .u8)),(3,qH.map (PVal.int .u8))]
abbrev OV(f:FuncId)(args:List PVal){R:Type}(o:Option R)(res:R->PVal)(ro:List (Nat×TypeId)):Prop:=SI Pg GE f args o res ro
abbrev OU(m:Nat)(c:Code){X:Type}(o:Option X)(e:Exit)(u:X->List (Nat×PVal))(st:az):Prop:=UA Pg GE m c o e (λx=>Ya st (u x)) st
abbrev OK(m:Nat)(c:Code){X:Type}(o:Option X)(ex:X->Exit)(so:X->az)(st:az):Prop:=UB Pg GE m c o ex so st
abbrev OL(m:Nat)(c:Code){σ X:Type}(o:Option (σ⊕X))(S:σ->az)(ex:X->Exit)(so:X->az)(st:az):Prop:=SH Pg GE m c o S ex so st
abbrev waA:=List ai
abbrev waB:=List ae
abbrev waC:=List aa
abbrev waD:=List bC
abbrev waE:=List aH
abbrev waF:=List ag
abbrev waG:=List aq
abbrev waH:=List fJ
abbrev waI:=List aD
theorem IE:∀n,(∀l,Sh Pg n 223 l->∃x,l=bG x):=by
 intro n
 induction n using Nat.strongRecOn with
 | ind n ih =>
  cases n with
  |zero=>exact λl h=>h.elim
  | succ n =>
   exact λl h=>by
    unfold Sh at h
    rw[underlying223]at h
    obtain⟨a0,b0,rfl,_,h0,a1,b1,rfl,_,h1,rfl⟩:=h
    obtain⟨x0,rfl⟩:=(iV underlying9) n _ h0
    obtain⟨x1,rfl⟩:=(iV underlying87) n _ h1
    exact⟨(⟨x0,x1⟩:bC),by rw[Io];rfl⟩
theorem lU:∀n,(∀l,Sh Pg n 42 l->∃x,l=aj x):=by
 intro n
 induction n using Nat.strongRecOn with
 | ind n ih =>
  cases n with
  |zero=>exact λl h=>h.elim
  | succ n =>
   exact λl h=>by
    unfold Sh at h
    rw[underlying42]at h
    obtain⟨a0,b0,rfl,_,h0,a1,b1,rfl,_,h1,a2,b2,rfl,_,h2,a3,b3,rfl,_,h3,rfl⟩:=h
    obtain⟨x0,rfl⟩:=(JK underlying39) n _ h0
    obtain⟨x1,rfl⟩:=(iV underlying9) n _ h1
    obtain⟨x2,rfl⟩:=(JK underlying3) n _ h2
    obtain⟨x3,rfl⟩:=ED underlying40 (c:=aj) (λm hm=>(ih m (by omega))) _ h3
    exact⟨(⟨x0,x1,x2,x3⟩:ag),by rw[bK];rfl⟩
theorem oh:∀n,(∀l,Sh Pg n 44 l->∃x,l=af x):=by
 intro n
 induction n using Nat.strongRecOn with
 | ind n ih =>
  cases n with
  |zero=>exact λl h=>h.elim
  | succ n =>
   exact λl h=>by
    unfold Sh at h
    rw[underlying44]at h
    obtain⟨a0,b0,rfl,_,h0,a1,b1,rfl,_,h1,a2,b2,rfl,_,h2,a3,b3,rfl,_,h3,a4,b4,rfl,_,h4,a5,b5,rfl,_,h5,rfl⟩:=h
    obtain⟨x0,rfl⟩:=(JK underlying37) n _ h0
    obtain⟨x1,rfl⟩:=(iV underlying9) n _ h1
    obtain⟨x2,rfl⟩:=ED underlying38 (c:=af) (λm hm=>(ih m (by omega))) _ h2
    obtain⟨x3,rfl⟩:=(jK underlying32 (iV underlying9)) n _ h3
    obtain⟨x4,rfl⟩:=lU n _ h4
    obtain⟨x5,rfl⟩:=(jK underlying40 lU) n _ h5
    exact⟨(⟨x0,x1,x2,x3,x4,x5⟩:ae),by rw[aR];(try simp only[bK]);rfl⟩
theorem QI:∀n,(∀l,Sh Pg n 76 l->∃x,l=aF x):=by
 intro n
 induction n using Nat.strongRecOn with
 | ind n ih =>
  cases n with
  |zero=>exact λl h=>h.elim
  | succ n =>
   exact λl h=>by
    unfold Sh at h
    rw[underlying76]at h
    obtain⟨a0,b0,rfl,_,h0,a1,b1,rfl,_,h1,a2,b2,rfl,_,h2,rfl⟩:=h
    obtain⟨x0,rfl⟩:=(iV underlying9) n _ h0
    obtain⟨x1,rfl⟩:=(jK underlying32 (iV underlying9)) n _ h1
    obtain⟨x2,rfl⟩:=(jK underlying38 oh) n _ h2
    exact⟨(⟨x0,x1,x2⟩:aH),by rw[Dx];rfl⟩
theorem OH:∀n,(∀l,Sh Pg n 74 l->∃x,l=ax x):=by
 intro n
 induction n using Nat.strongRecOn with
 | ind n ih =>
  cases n with
  |zero=>exact λl h=>h.elim
  | succ n =>
   exact λl h=>by
    unfold Sh at h
    rw[underlying74]at h
    obtain⟨a0,b0,rfl,_,h0,a1,b1,rfl,_,h1,a2,b2,rfl,_,h2,a3,b3,rfl,_,h3,rfl⟩:=h
    obtain⟨x0,rfl⟩:=(iV underlying9) n _ h0
    obtain⟨x1,rfl⟩:=(jK underlying32 (iV underlying9)) n _ h1
    obtain⟨x2,rfl⟩:=(jK underlying71 IE) n _ h2
    obtain⟨x3,rfl⟩:=(jK underlying72 QI) n _ h3
    exact⟨(⟨x0,x1,x2,x3⟩:aN),by rw[jp];rfl⟩
theorem Lj:∀n,(∀l,Sh Pg n 82 l->∃x,l=cW x):=by
 intro n
 induction n using Nat.strongRecOn with
 | ind n ih =>
  cases n with
  |zero=>exact λl h=>h.elim
  | succ n =>
   exact λl h=>by
    unfold Sh at h
    rw[underlying82]at h
    obtain⟨a0,b0,rfl,_,h0,a1,b1,rfl,_,h1,rfl⟩:=h
    obtain⟨x0,rfl⟩:=(iV underlying9) n _ h0
    obtain⟨x1,rfl⟩:=oh n _ h1
    exact⟨(⟨x0,x1⟩:nu),by rw[kS];(try simp only[aR]);(try simp only[bK]);rfl⟩
theorem M3:∀n,(∀l,Sh Pg n 80 l->∃x,l=bV x):=by
 intro n
 induction n using Nat.strongRecOn with
 | ind n ih =>
  cases n with
  |zero=>exact λl h=>h.elim
  | succ n =>
   exact λl h=>by
    unfold Sh at h
    rw[underlying80]at h
    obtain⟨a0,b0,rfl,_,h0,a1,b1,rfl,_,h1,a2,b2,rfl,_,h2,rfl⟩:=h
    obtain⟨x0,rfl⟩:=(iV underlying9) n _ h0
    obtain⟨x1,rfl⟩:=(iV underlying9) n _ h1
    obtain⟨x2,rfl⟩:=(jK underlying78 Lj) n _ h2
    exact⟨(⟨x0,x1,x2⟩:dg),by rw[Bb];rfl⟩
theorem JN:∀n,(∀l,Sh Pg n 228 l->∃x,l=fA x):=by
 intro n
 induction n using Nat.strongRecOn with
 | ind n ih =>
  cases n with
  |zero=>exact λl h=>h.elim
  | succ n =>
   exact λl h=>by
    unfold Sh at h
    rw[underlying228]at h
    obtain⟨a0,b0,rfl,_,h0,a1,b1,rfl,_,h1,rfl⟩:=h
    obtain⟨x0,rfl⟩:=(iV underlying9) n _ h0
    obtain⟨x1,rfl⟩:=(iV underlying9) n _ h1
    exact⟨(⟨x0,x1⟩:vN),by rw[Ev];rfl⟩
theorem M4:∀n,(∀l,Sh Pg n 96 l->∃x,l=aQ x):=by
 intro n
 induction n using Nat.strongRecOn with
 | ind n ih =>
  cases n with
  |zero=>exact λl h=>h.elim
  | succ n =>
   exact λl h=>by
    unfold Sh at h
    rw[underlying96]at h
    obtain⟨a0,b0,rfl,_,h0,a1,b1,rfl,_,h1,rfl⟩:=h
    obtain⟨x0,rfl⟩:=(iV underlying9) n _ h0
    obtain⟨x1,rfl⟩:=oh n _ h1
    exact⟨(⟨x0,x1⟩:cV),by rw[gZ];(try simp only[aR]);(try simp only[bK]);rfl⟩
theorem IB:∀n,(∀l,Sh Pg n 52 l->∃x,l=ak x)/\(∀l,Sh Pg n 98 l->∃x,l=bq x):=by
 intro n
 induction n using Nat.strongRecOn with
 | ind n ih =>
  cases n with
  |zero=>exact⟨λl h=>h.elim,λl h=>h.elim⟩
  | succ n =>
   exact⟨(λl h=>by
    unfold Sh at h
    rw[underlying52]at h
    obtain⟨a0,b0,rfl,_,h0,a1,b1,rfl,_,h1,a2,b2,rfl,_,h2,a3,b3,rfl,_,h3,a4,b4,rfl,_,h4,a5,b5,rfl,_,h5,a6,b6,rfl,_,h6,rfl⟩:=h
    obtain⟨x0,rfl⟩:=(JK underlying48) n _ h0
    obtain⟨x1,rfl⟩:=(iV underlying9) n _ h1
    obtain⟨x2,rfl⟩:=(JK underlying3) n _ h2
    obtain⟨x3,rfl⟩:=ED underlying33 (c:=ak) (λm hm=>(ih m (by omega)).1) _ h3
    obtain⟨x4,rfl⟩:=(jK underlying49 M4) n _ h4
    obtain⟨x5,rfl⟩:=ED underlying50 (c:=bq) (λm hm=>(ih m (by omega)).2) _ h5
    obtain⟨x6,rfl⟩:=(jK underlying38 oh) n _ h6
    exact⟨(⟨x0,x1,x2,x3,x4,x5,x6⟩:aq),by rw[cb];rfl⟩),(λl h=>by
    unfold Sh at h
    rw[underlying98]at h
    obtain⟨a0,b0,rfl,_,h0,a1,b1,rfl,_,h1,a2,b2,rfl,_,h2,rfl⟩:=h
    obtain⟨x0,rfl⟩:=(iV underlying9) n _ h0
    obtain⟨x1,rfl⟩:=(jK underlying32 (iV underlying9)) n _ h1
    obtain⟨x2,rfl⟩:=(ih n (vb1 n)).1 _ h2
    exact⟨(⟨x0,x1,x2⟩:fk),by rw[jz];(try simp only[cb]);rfl⟩)⟩
theorem JL:In Pg 52 ak:=λn=>(IB n).1
theorem QH:∀n,(∀l,Sh Pg n 229 l->∃x,l=kh x):=by
 intro n
 induction n using Nat.strongRecOn with
 | ind n ih =>
  cases n with
  |zero=>exact λl h=>h.elim
  | succ n =>
   exact λl h=>by
    unfold Sh at h
    rw[underlying229]at h
    obtain⟨a0,b0,rfl,_,h0,a1,b1,rfl,_,h1,rfl⟩:=h
    obtain⟨x0,rfl⟩:=(iV underlying9) n _ h0
    obtain⟨x1,rfl⟩:=(iV underlying87) n _ h1
    exact⟨(⟨x0,x1⟩:GS),by rw[Im];rfl⟩
theorem M2:∀n,(∀l,Sh Pg n 140 l->∃x,l=bZ x):=by
 intro n
 induction n using Nat.strongRecOn with
 | ind n ih =>
  cases n with
  |zero=>exact λl h=>h.elim
  | succ n =>
   exact λl h=>by
    unfold Sh at h
    rw[underlying140]at h
    obtain⟨a0,b0,rfl,_,h0,a1,b1,rfl,_,h1,a2,b2,rfl,_,h2,a3,b3,rfl,_,h3,rfl⟩:=h
    obtain⟨x0,rfl⟩:=(iV underlying9) n _ h0
    obtain⟨x1,rfl⟩:=(jK underlying71 IE) n _ h1
    obtain⟨x2,rfl⟩:=lU n _ h2
    obtain⟨x3,rfl⟩:=lU n _ h3
    exact⟨(⟨x0,x1,x2,x3⟩:kE),by rw[gY];(try simp only[bK]);rfl⟩
theorem QJ:∀n,(∀l,Sh Pg n 128 l->∃x,l=rN x):=by
 intro n
 induction n using Nat.strongRecOn with
 | ind n ih =>
  cases n with
  |zero=>exact λl h=>h.elim
  | succ n =>
   exact λl h=>by
    unfold Sh at h
    rw[underlying128]at h
    obtain⟨a0,b0,rfl,_,h0,a1,b1,rfl,_,h1,a2,b2,rfl,_,h2,a3,b3,rfl,_,h3,a4,b4,rfl,_,h4,a5,b5,rfl,_,h5,rfl⟩:=h
    obtain⟨x0,rfl⟩:=(jK underlying32 (iV underlying9)) n _ h0
    obtain⟨x1,rfl⟩:=(jK underlying83 JN) n _ h1
    obtain⟨x2,rfl⟩:=(jK underlying125 QH) n _ h2
    obtain⟨x3,rfl⟩:=(jK underlying126 M2) n _ h3
    obtain⟨x4,rfl⟩:=oh n _ h4
    obtain⟨x5,rfl⟩:=(jK underlying40 lU) n _ h5
    exact⟨(⟨x0,x1,x2,x3,x4,x5⟩:NU),by rw[zD];(try simp only[aR]);(try simp only[bK]);rfl⟩
theorem Mh:∀n,(∀l,Sh Pg n 131 l->∃x,l=bN x):=by
 intro n
 induction n using Nat.strongRecOn with
 | ind n ih =>
  cases n with
  |zero=>exact λl h=>h.elim
  | succ n =>
   exact λl h=>by
    unfold Sh at h
    rw[underlying131]at h
    obtain⟨a0,b0,rfl,_,h0,a1,b1,rfl,_,h1,a2,b2,rfl,_,h2,a3,b3,rfl,_,h3,a4,b4,rfl,_,h4,a5,b5,rfl,_,h5,rfl⟩:=h
    obtain⟨x0,rfl⟩:=(iV underlying9) n _ h0
    obtain⟨x1,rfl⟩:=(jK underlying32 (iV underlying9)) n _ h1
    obtain⟨x2,rfl⟩:=JL n _ h2
    obtain⟨x3,rfl⟩:=(JK underlying129) n _ h3
    obtain⟨x4,rfl⟩:=(VD underlying4) n _ h4
    obtain⟨x5,rfl⟩:=QJ n _ h5
    exact⟨(⟨x0,x1,x2,x3,x4,x5⟩:fJ),by rw[jA];(try simp only[cb]);(try simp only[zD]);(try simp only[aR]);(try simp only[bK]);rfl⟩
theorem ID:∀n,(∀l,Sh Pg n 85 l->∃x,l=aO x):=by
 intro n
 induction n using Nat.strongRecOn with
 | ind n ih =>
  cases n with
  |zero=>exact λl h=>h.elim
  | succ n =>
   exact λl h=>by
    unfold Sh at h
    rw[underlying85]at h
    obtain⟨a0,b0,rfl,_,h0,a1,b1,rfl,_,h1,a2,b2,rfl,_,h2,a3,b3,rfl,_,h3,rfl⟩:=h
    obtain⟨x0,rfl⟩:=(iV underlying9) n _ h0
    obtain⟨x1,rfl⟩:=oh n _ h1
    obtain⟨x2,rfl⟩:=(jK underlying83 JN) n _ h2
    obtain⟨x3,rfl⟩:=(jK underlying27 Mh) n _ h3
    exact⟨(⟨x0,x1,x2,x3⟩:bD),by rw[ee];(try simp only[aR]);(try simp only[bK]);rfl⟩
theorem OG:∀n,(∀l,Sh Pg n 92 l->∃x,l=ed x):=by
 intro n
 induction n using Nat.strongRecOn with
 | ind n ih =>
  cases n with
  |zero=>exact λl h=>h.elim
  | succ n =>
   exact λl h=>by
    unfold Sh at h
    rw[underlying92]at h
    obtain⟨a0,b0,rfl,_,h0,a1,b1,rfl,_,h1,a2,b2,rfl,_,h2,rfl⟩:=h
    obtain⟨x0,rfl⟩:=(iV underlying9) n _ h0
    obtain⟨x1,rfl⟩:=(jK underlying32 (iV underlying9)) n _ h1
    obtain⟨x2,rfl⟩:=lU n _ h2
    exact⟨(⟨x0,x1,x2⟩:xy),by rw[lQ];(try simp only[bK]);rfl⟩
theorem JM:∀n,(∀l,Sh Pg n 90 l->∃x,l=aZ x):=by
 intro n
 induction n using Nat.strongRecOn with
 | ind n ih =>
  cases n with
  |zero=>exact λl h=>h.elim
  | succ n =>
   exact λl h=>by
    unfold Sh at h
    rw[underlying90]at h
    obtain⟨a0,b0,rfl,_,h0,a1,b1,rfl,_,h1,a2,b2,rfl,_,h2,a3,b3,rfl,_,h3,a4,b4,rfl,_,h4,rfl⟩:=h
    obtain⟨x0,rfl⟩:=(iV underlying9) n _ h0
    obtain⟨x1,rfl⟩:=(iV underlying9) n _ h1
    obtain⟨x2,rfl⟩:=(iV underlying87) n _ h2
    obtain⟨x3,rfl⟩:=(jK underlying88 OG) n _ h3
    obtain⟨x4,rfl⟩:=lU n _ h4
    exact⟨(⟨x0,x1,x2,x3,x4⟩:bT),by rw[gi];(try simp only[bK]);rfl⟩
theorem OI:∀n,(∀l,Sh Pg n 94 l->∃x,l=ca x):=by
 intro n
 induction n using Nat.strongRecOn with
 | ind n ih =>
  cases n with
  |zero=>exact λl h=>h.elim
  | succ n =>
   exact λl h=>by
    unfold Sh at h
    rw[underlying94]at h
    obtain⟨a0,b0,rfl,_,h0,a1,b1,rfl,_,h1,a2,b2,rfl,_,h2,rfl⟩:=h
    obtain⟨x0,rfl⟩:=(iV underlying9) n _ h0
    obtain⟨x1,rfl⟩:=(jK underlying71 IE) n _ h1
    obtain⟨x2,rfl⟩:=lU n _ h2
    exact⟨(⟨x0,x1,x2⟩:eP),by rw[lR];(try simp only[bK]);rfl⟩
theorem Lk:∀n,(∀l,Sh Pg n 29 l->∃x,l=am x):=by
 intro n
 induction n using Nat.strongRecOn with
 | ind n ih =>
  cases n with
  |zero=>exact λl h=>h.elim
  | succ n =>
   exact λl h=>by
    unfold Sh at h
    rw[underlying29]at h
    obtain⟨a0,b0,rfl,_,h0,a1,b1,rfl,_,h1,a2,b2,rfl,_,h2,a3,b3,rfl,_,h3,a4,b4,rfl,_,h4,a5,b5,rfl,_,h5,rfl⟩:=h
    obtain⟨x0,rfl⟩:=(jK underlying22 OH) n _ h0
    obtain⟨x1,rfl⟩:=(jK underlying23 M3) n _ h1
    obtain⟨x2,rfl⟩:=(jK underlying24 ID) n _ h2
    obtain⟨x3,rfl⟩:=(jK underlying25 JM) n _ h3
    obtain⟨x4,rfl⟩:=(jK underlying26 OI) n _ h4
    obtain⟨x5,rfl⟩:=(jK underlying27 Mh) n _ h5
    exact⟨(⟨x0,x1,x2,x3,x4,x5⟩:al),by rw[rT];rfl⟩
theorem Gy:∀n,(∀l,Sh Pg n 36 l->∃x,l=ac x)/\(∀l,Sh Pg n 113 l->∃x,l=aW x):=by
 intro n
 induction n using Nat.strongRecOn with
 | ind n ih =>
  cases n with
  |zero=>exact⟨λl h=>h.elim,λl h=>h.elim⟩
  | succ n =>
   exact⟨(λl h=>by
    unfold Sh at h
    rw[underlying36]at h
    obtain⟨a0,b0,rfl,_,h0,a1,b1,rfl,_,h1,a2,b2,rfl,_,h2,a3,b3,rfl,_,h3,a4,b4,rfl,_,h4,a5,b5,rfl,_,h5,a6,b6,rfl,_,h6,rfl⟩:=h
    obtain⟨x0,rfl⟩:=(JK underlying30) n _ h0
    obtain⟨x1,rfl⟩:=(JK underlying3) n _ h1
    obtain⟨x2,rfl⟩:=(iV underlying9) n _ h2
    obtain⟨x3,rfl⟩:=ED underlying31 (c:=ac) (λm hm=>(ih m (by omega)).1) _ h3
    obtain⟨x4,rfl⟩:=(jK underlying32 (iV underlying9)) n _ h4
    obtain⟨x5,rfl⟩:=(jK underlying33 JL) n _ h5
    obtain⟨x6,rfl⟩:=ED underlying34 (c:=aW) (λm hm=>(ih m (by omega)).2) _ h6
    exact⟨(⟨x0,x1,x2,x3,x4,x5,x6⟩:aa),by rw[bz];rfl⟩),(λl h=>by
    unfold Sh at h
    rw[underlying113]at h
    obtain⟨a0,b0,rfl,_,h0,a1,b1,rfl,_,h1,rfl⟩:=h
    obtain⟨x0,rfl⟩:=(iV underlying9) n _ h0
    obtain⟨x1,rfl⟩:=(ih n (vb1 n)).1 _ h1
    exact⟨(⟨x0,x1⟩:aD),by rw[kj];(try simp only[bz]);rfl⟩)⟩
theorem M5:In Pg 36 ac:=λn=>(Gy n).1
open Go
abbrev RL(GE:List (Nat×List PVal))(Γ:ay)(w:World):mc:=⟨GE,Γ,w,λ_=>False⟩
structure dJ(GE:List (Nat×List PVal))(Γ:ay)(w:World):Prop where
 wi:∀b n,Γ b=some n->∃c t fr,w.heap[b]? =some (.cells c t fr)/\n<=c.size
 gl:∀g cs,(g,cs)∈GE->VR Γ [] w (.eptr cs) (.pointer (some ⟨g,0,none⟩))
 gc:∀g cs,(g,cs)∈GE->dO 0 cs
 gx:∀g cs,(g,cs)∈GE->g<w.heap.size/\∃c t fr,w.heap[g]? =some (.cells c t fr)/\c.size=cs.length
theorem VR.clo{Γ:ay}{bs bs':bo}{w:World}{p:PVal}{v:Value}(h:VR Γ bs w p v)(hc:p.cl 0):VR Γ bs' w p v:=h.restrict (n:=0) hc λi b hi _=>absurd hi (va9 _)
section
variable{P:Program}{E:mc}{Γ:ay}{bs:bo}{ow:Nat->Option jb}{w:World}{a:Array Value}{st:az}
theorem SR.base(h:SR P E Γ bs ow w a st):dJ E.GE Γ w where
 wi:=h.wi
 gl:=λg cs hg=>(h.gl g cs hg).clo (by simp only[PVal.cl];exact h.gc g cs hg)
 gc:=h.gc
 gx:=λg cs hg=>⟨(h.gnow hg).1,(h.gnow hg).2.2.2⟩
theorem dJ.good{GE:List (Nat×List PVal)}(hB:dJ GE Γ w):N8 GE 0 (RL GE Γ w) where
 ge:=rfl
 low:=λb n h=>by obtain⟨c,t,fr,h1,_⟩:=hB.wi b n h;exact(vaf.1 h1).1
 nt:=λ_ _ hb=>hb
 gl:=hB.gl
theorem dJ.fresh{GE:List (Nat×List PVal)}(hB:dJ GE Γ w)(k:Nat){tmps:List PVal}(hs:a.size=tmps.length)(hv:∀(t:Nat) p v,tmps[t]? =some p->a[t]? =some v->VR Γ [] w p v):SR P (RL GE Γ w) Γ (List.replicate k none) (λ_=>none) w a ⟨tmps,List.replicate k .dead,[]⟩:=by
 have hno:∀(i b:Nat),(List.replicate k (none:Option Nat))[i]? =some (some b)->False:=λi b h=>by
  rw[vaX]at h
  split at h<;>simp at h
 exact{
  wi:=hB.wi
  sz:=hs
  tm:=λt p v hp hv'=>(hv t p v hp hv').mono (.refl _ _) (λi b h=>by simp at h)
  bl:=by simp
  bx:=λi b B hb=>(hno i b hb).elim
  inj:=λi j b hb=>(hno i b hb).elim
  bn:=λi b hb=>(hno i b hb).elim
  on:=λb L hL=>by cases hL
  ot:=λt k e he=>by simp at he
  ob:=λi j e cs own b _ _ hb=>(hno i b hb).elim
  gl:=λg cs hg=>(hB.gl g cs hg).mono (.refl _ _) (λi b h=>by simp at h)
  gc:=hB.gc
  gx:=λg cs hg=>⟨(hB.gx g cs hg).1,λh=>h,(hB.gx g cs hg).2⟩
  step:=.refl _ _ _ _}
theorem cO.wide{GE:List (Nat×List PVal)}{c:Code}{Q:Exit->az->Prop}{st0:az}(hS:cO P GE 0 c Q st0)(hB:dJ GE Γ w){ow:Nat->Option jb}{bs:bo}(h:SR P (RL GE Γ w) Γ bs ow w a st0)(n:Nat)(ds:List Deferred):c.wpIn Fence.wide n P (λe a' w'=>a'.defers=ds/\∃Γ' bs' ow' st',SR P (RL GE Γ w) Γ' bs' ow' w' a'.tmps st'/\Q e st') ⟨a,ds⟩ w:=
 wpIn_wide.2 (wp_mono (hS none (RL GE Γ w) [] ⟨a,ds⟩ w hB.good rfl ⟨Γ,bs,ow,h,λi hi=>absurd hi (va9 _)⟩) λe a' w' hq=>by
  obtain⟨hd,st',⟨Γ',bs',ow',h',_⟩,hQ⟩:=hq
  exact⟨hd,Γ',bs',ow',st',h',hQ⟩)
end
section
variable{P:Program}{n:Nat}{a:Act}{w:World}{next:Act->World->Prop}{Q:Exit->Act->World->Prop}
theorem Nt{o:Oper}(hd:cq o=true)(h:o.wp P a w next Q):o.wpIn Fence.wide n P a w next Q:=by
 refine⟨λ_ _=>trivial,?_⟩
 have hs:o.semAt (Fence.wide).round a.eval=execOp a.eval o:=Oper.semAt_eq _ _ _ λc hc=>by unfold cq at hd;rw[hc]at hd;cases hd
 rw[hs]
 unfold Oper.wp at h
 generalize (execOp a.eval o).run P w=r at *
 have hdep:(Fence.wide).depth.isSome=true->1<=n:=λh=>by simp[Fence.wide]at h
 cases r with
 | ok x w' =>
  cases x<;>simp only[Oper.upon]at h<;>simp only[Oper.uponIn]<;>first
   |exact h.elim
   |exact h
   |exact⟨hdep,callsIn_wide.2 h⟩
   | exact ⟨hdep,fun c cs _ => by
     obtain⟨v,w',r,s⟩:=h c cs
     exact⟨v,w',r,stepsIn_wide.2 s⟩⟩
 |halt x w'=>cases x<;>simp only[Oper.upon]at h<;>simp only[Oper.uponIn]<;>exact h
theorem A7{o:Oper}{f:Operand}{args:Array Operand}{tys:Array TypeId}(ho:o.op=.call {callee:=.value f,args:=args,argTypes:=tys}){g:FuncId}{fs cs:Array Value}(hf:a.eval f=.func (.func g) fs cs)
  (hc:∀vs w,(callFunc g vs).run P w=.ok (.enter g vs) w) {R:Ending->World->Prop} (h:CallsIn Fence.wide (n - 1) P g (fs++args.map a.eval++cs) w R) (hR:∀e w',R e w'->∃v,e=.returned v/\next (a.put o.dst v) w'):o.wpIn Fence.wide n P a w next Q:=by
 refine⟨λ_ _=>trivial,?_⟩
 have hs:o.semAt (Fence.wide).round a.eval=execOp a.eval o:=Oper.semAt_eq _ _ _ λc hc=>by rw[ho]at hc;cases hc
 have hrun:(execOp a.eval o).run P w=.ok (.enter g (fs++args.map a.eval++cs)) w:=by
  simp[execOp,ho,resolve,hf,Deferred.ofValue,invoke,hc]
 rw[hs,hrun,Oper.uponIn_enter]
 refine⟨λh=>by simp[Fence.wide]at h,h.mono λe w' hr=>?_⟩
 obtain⟨v,rfl,hx⟩:=hR e w' hr
 exact hx
theorem LW{o:Oper}{f:Operand}{args:Array Operand}{tys:Array TypeId}(ho:o.op=.call {callee:=.value f,args:=args,argTypes:=tys}){l:Nat}(hf:a.eval f=.func (.yield l) #[] #[])
  {R:Ending->World->Prop} (h:YieldAt Fence.wide (n - 1) P l (args.map a.eval) w R) (hR:∀e w',R e w'->∃v,e=.returned v/\next (a.put o.dst v) w'):o.wpIn Fence.wide n P a w next Q:=by
 refine⟨λ_ _=>trivial,?_⟩
 have hs:o.semAt (Fence.wide).round a.eval=execOp a.eval o:=Oper.semAt_eq _ _ _ λc hc=>by rw[ho]at hc;cases hc
 obtain⟨fn,tmps,assign,body,hy,hr⟩:=h
 have hrun:(execOp a.eval o).run P w=.ok (.round l fn tmps assign body) w:=by
  simp[execOp,ho,resolve,hf,Deferred.ofValue,invoke,hy]
 rw[hs,hrun,Oper.uponIn_round]
 refine⟨λh=>by simp[Fence.wide]at h,hr.mono λe w' hr=>?_⟩
 obtain⟨v,rfl,hx⟩:=hR e w' hr
 exact hx
theorem bR{ops:Array Oper}{i:Nat}{rest:List Nat}{o:Oper}(ho:ops[i]? =some o)(hg:o.guard=none)(h:o.wpIn Fence.wide n P a w (wpOpsIn Fence.wide n P ops Q rest) Q):wpOpsIn Fence.wide n P ops Q (i::rest) a w:=by
 unfold wpOpsIn
 simp only[ho,Region.wanted,hg,if_true]
 exact h
end
def bY:Code->Array Oper
 |.region _ ops _=>ops
 |_=>#[]
def xn:Code->Nat
 |.region id _ _=>id
 |_=>0
def bF(c:Code)(i:Nat):Oper:=(bY c)[i]?.getD default
def Kt(o:Oper):Array TypeId:=match o.op with
 |.call c=>c.argTypes
 |_=>#[]
theorem Vu{P:Program}{m:Nat}{sc:List It}{F:Prop}{st st0:az}(h:PS sc F)(he:F=Lg m sc st (λ_ st'=>FG st' st0)):oZ P m st st0:=by
 obtain⟨_,st',hw,hf⟩:=yo (P:=P) (Eq.mp he h)
 exact hw.trans hf.weak
theorem cO.thenW{P:Program}{GE:List (Nat×List PVal)}{m:Nat}{c:Code}{e:Exit}{st0 st1 st2:az}(h:cO P GE m c (EX e st1) st0)(hw:oZ P m st1 st2):cO P GE m c (EX e st2) st0:=
 h.mono λe' st' hx=>⟨st2,hx.2▸hw,hx.1,rfl⟩
def PE:Code->Code
 |.rangeFunc _ _ a _=>a
 |_=>.skip
def XZ:Code->Code
 |.rangeFunc _ _ _ b=>b
 |_=>.skip
theorem oq{w:World}{b:Nat}{o:Obj}(h:w.heap[b]? =some o):b<w.heap.size:=(vaf.1 h).1
end Go.Proofs.YtjddnhkahpfhdaaGreatDoor
