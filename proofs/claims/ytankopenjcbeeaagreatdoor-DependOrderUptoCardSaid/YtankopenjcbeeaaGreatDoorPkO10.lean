/- PROVED: a part of the proof. Conditions: none. -/
import Derived.Test.YtankopenjcbeeaaGreatDoorPkO9
import Derived.Test.YtankopenjcbeeaaGreatDoorChecked
import Derived.Test.YtankopenjcbeeaaGreatDoorPkO8
set_option linter.unusedSimpArgs false set_option linter.defProp false
set_option linter.unusedVariables false
noncomputable section
namespace Go.Proofs.YtankopenjcbeeaaGreatDoor
open Go Go.Proofs.Tryz
open Option renaming some→O,none→N
open Go renaming TypeId→G,Value→D,Program→I,Oper→M,World→J,Code→W
open Bool renaming true→T,false→Z
open Decidable renaming decide→Y
open YtankopenjcbeeaaGreatDoor renaming PVal→U
set_option linter.defProp false
set_option maxRecDepth 100000
noncomputable abbrev Pg:=Tryz.prog
def mixed:Pg.follows .mixedOrders=true:=by kernel_rfl
abbrev qd(t:G)(l:V U)(o:Nat)(p:U):Prop:=cO Pg t (l.drop o)=O p
abbrev qc(t:G)(l:V U)(i o:Nat):Prop:=nl Pg t (.eptr l) i=O (.eptr (l.drop o))
def qt1{t:G}{l:V U}{o:Nat}{p:U}(h:cO Pg t (l.drop o)=O p):qd t l o p:=h
def qt0{t:G}{l:V U}{i o:Nat}(h:nl Pg t (.eptr l) i=O (.eptr (l.drop o))):qc t l i o:=h
def Lg{l:V U}(h:l.all PVal.one=T):∀q∈l,q.one=true:=vaE.1 h
def ry{t u:G}{l:V U}{i o:Nat}{p:U}(h:(nl Pg t (.eptr l) i,cO Pg u (l.drop o))=(O (.eptr (l.drop o)),O p)):qc t l i o/\qd u l o p:=⟨m4 Prod.fst h,m4 Prod.snd h⟩
def qcr{α:Type}{m e n:G}{c:α->V U}(u:Pg.underlying m=O (.slice e))(l:∀x,(c x).length=n)(k:Pg.cellsOf e=n)(b:((Pg.info? e).isSome&&Y (0<n)&&Y ((eR Pg e).map (·.length)=O n)&&Y (Pg.bytesOf e<=65536))=T)(o:∀x,∀q∈c x,q.one=T)(z:∀x,ie 0 (c x)):Ku Pg m e c:=by simp only[ne,oy]at b;obtain⟨⟨⟨a,d⟩,h⟩,i⟩:=b;subst k;exact⟨u,l,a,d,h,i,o,z⟩
def qdB{t n:G}{l:V U}(h:l.length=n)(k:Pg.cellsOf t=n)(d:(Pg.underlying t).any qkK=T):cO Pg t l=O (.agg l):=by have:=qjL (P:=Pg) (t:=t) (l:=l) (r:=[]) d (k.trans h.symm);rwa[vbR]at this
def qgo{t n:G}{l e r:V U}(x:l=e)(h:l.length=n)(k:Pg.cellsOf t=n)(d:(Pg.underlying t).any qkK=T):cO Pg t (e++r)=O (.agg l):=x▸qjL d (k.trans h.symm)
abbrev PVal.i6(x:Int):U:=.int .i64 x
abbrev ce(n:Nat)(k:V Int)(b:K):ay:=.cells [.nptr n 132,sl (cI .u8) k,.bool b] [(1,5)]
structure wv where
 Name:aa
 Sort_:aa
deriving DecidableEq
def cN(x:wv):V U:=[.str x.Name,.str x.Sort_]
def Zz(x:wv):cN x=[.str x.Name,.str x.Sort_]:=rfl
def qez(x:wv):ie 0 (cN x):=by unfold cN;exact K0l.h
instance qzE:KE cN:=⟨qez⟩
def qiQ(x:wv):(cN x).length=2:=by rw[Zz];rfl
def qjq(x:wv):∀q∈cN x,q.one=true:=Lg (by rw[Zz];rfl)
def qqh:Pg.cellsOf 212=2:=by kernel_rfl
def D7(x:wv):qc 212 (cN x) 0 0/\qd 9 (cN x) 0 (.str x.Name):=ry (by kernel_rfl)
def MP(x:wv):qc 212 (cN x) 1 1/\qd 117 (cN x) 1 (.str x.Sort_):=ry (by kernel_rfl)
inductive ag where
 |mk (Op:Int) (Name:aa) (N:Int) (Kids:List ag)
def ag.Op:ag->Int|⟨x,_,_,_⟩=>x
def ag.Name:ag->aa|⟨_,x,_,_⟩=>x
def ag.N:ag->Int|⟨_,_,x,_⟩=>x
def ag.Kids:ag->(V ag)|⟨_,_,_,x⟩=>x
mutual
def af:ag->List U|⟨x0,x1,x2,x3⟩=>[.i6 x0,.str x1,.i6 x2,.slice (Eb x3)]
def Eb:List ag->List (List U)|[]=>[]|x::r=>af x::Eb r
end
def VH:∀(l:List ag),Eb l=l.map af
 |[]=>by simp[Eb]
 |x::r=>by simp[Eb,VH r]
mutual
def dn:∀(x:ag),ie 0 (af x)
 |⟨x0,x1,x2,x3⟩=>by rw[af];exact(aI hV (aI hV (aI hV (aI (XU x3) trivial))))
def XU:∀(l:List ag),C0 0 (Eb l)
 |[]=>by simp[Eb,C0]
 |x::r=>by rw[Eb];exact⟨dn x,XU r⟩
end
def cH:∀(x:ag),af x=[.i6 x.Op,.str x.Name,.i6 x.N,sl af x.Kids]
 |⟨x0,x1,x2,x3⟩=>by simp only[af,VH];rfl
instance qzx{x:ag}:K0l (af x):=⟨dn x⟩
instance qzs:KE af:=⟨dn⟩
def RI(x:ag):(af x).length=4:=by rw[cH];rfl
def jL(x:ag):bF (.agg (af x))=O (af x):=rfl
abbrev qeE(x:ag):V U:=[.i6 x.Op,.str x.Name,.i6 x.N,sl af x.Kids]
def tX(x:ag):bF (.agg (af x))=O (qeE x):=m4 O (cH x)
def qgH(x:ag):∀q∈af x,q.one=true:=Lg (by rw[cH];rfl)
def qnH:Pg.cellsOf 59=4:=by kernel_rfl
def db(x:ag):cO Pg 59 (af x)=O (.agg (af x)):=qdB (RI x) qnH (by kernel_rfl)
def mo(x:ag)(r:V U):cO Pg 59 ((qeE x)++r)=O (.agg (af x)):=qgo (cH x) (RI x) qnH (by kernel_rfl)
def qcY:dF Pg 59 []=O (.agg (af (⟨0,[],0,[]⟩:ag))):=by simp only[cH];kernel_rfl
def qcW:Db Pg 59 [] [(3,59)]:=by exact⟨[.i6 0,.str ([]:aa),.i6 0,.val fe],by kernel_rfl,(aI rfl hV)⟩
def aP(x:ag):qc 59 (af x) 0 0/\qd 56 (af x) 0 (.i6 x.Op):=ry (by rw[cH];kernel_rfl)
def eo(x:ag):qc 59 (af x) 1 1/\qd 9 (af x) 1 (.str x.Name):=ry (by rw[cH];kernel_rfl)
def cx(x:ag):qc 59 (af x) 2 2/\qd 3 (af x) 2 (.i6 x.N):=ry (by rw[cH];kernel_rfl)
def Xc(x:ag):qc 59 (af x) 3 3:=qt0 (by rw[cH];kernel_rfl)
def aQ(x:ag):qc 59 (af x) 3 3/\qd 57 (af x) 3 (sl af x.Kids):=ry (by rw[cH];kernel_rfl)
def Xh(x:ag):qd 57 (af x) 3 (sl af x.Kids):=qt1 (by rw[cH];kernel_rfl)
inductive ai where
 |mk (Op:Int) (Name:aa) (Args:List ai) (Names:List aa) (Pred:ag) (Preds:List ag)
def ai.Op:ai->Int|⟨x,_,_,_,_,_⟩=>x
def ai.Name:ai->aa|⟨_,x,_,_,_,_⟩=>x
def ai.Args:ai->(V ai)|⟨_,_,x,_,_,_⟩=>x
def ai.Names:ai->(V aa)|⟨_,_,_,x,_,_⟩=>x
def ai.Pred:ai->ag|⟨_,_,_,_,x,_⟩=>x
def ai.Preds:ai->(V ag)|⟨_,_,_,_,_,x⟩=>x
mutual
def aj:ai->List U|⟨x0,x1,x2,x3,x4,x5⟩=>[.i6 x0,.str x1,.slice (Ec x2),sl cS x3]++(af x4++([sl af x5]))
def Ec:List ai->List (List U)|[]=>[]|x::r=>aj x::Ec r
end
def VI:∀(l:List ai),Ec l=l.map aj
 |[]=>by simp[Ec]
 |x::r=>by simp[Ec,VI r]
mutual
def pp:∀(x:ai),ie 0 (aj x)
 |⟨x0,x1,x2,x3,x4,x5⟩=>by rw[aj];exact NX.2 (aI ((aI hV (aI hV (aI (XV x2) (aI (cw J3 x3) trivial))))) (NX.2 (aI (dn x4) ((aI (cw dn x5) trivial)))))
def XV:∀(l:List ai),C0 0 (Ec l)
 |[]=>by simp[Ec,C0]
 |x::r=>by rw[Ec];exact⟨pp x,XV r⟩
end
def dW:∀(x:ai),aj x=[.i6 x.Op,.str x.Name,sl aj x.Args,sl cS x.Names,.i6 x.Pred.Op,.str x.Pred.Name,.i6 x.Pred.N,sl af x.Pred.Kids,sl af x.Preds]
 |⟨x0,x1,x2,x3,x4,x5⟩=>by simp only[aj,VI,cH,vaT,va9];rfl
abbrev qft(x:ai):U:=.agg (aj x)
instance qzz{x:ai}:K0l (aj x):=⟨pp x⟩
instance qzu:KE aj:=⟨pp⟩
def RM(x:ai):(aj x).length=9:=by rw[dW];rfl
def nN(x:ai):bF (.agg (aj x))=O (aj x):=rfl
def qgS(x:ai):bF (qft x)=O (aj x):=rfl
abbrev qeG(x:ai):V U:=[.i6 x.Op,.str x.Name,sl aj x.Args,sl cS x.Names,.i6 x.Pred.Op,.str x.Pred.Name,.i6 x.Pred.N,sl af x.Pred.Kids,sl af x.Preds]
def BC(x:ai):bF (.agg (aj x))=O (qeG x):=m4 O (dW x)
def qgJ(x:ai):∀q∈aj x,q.one=true:=Lg (by rw[dW];rfl)
def qnI:Pg.cellsOf 61=9:=by kernel_rfl
def fp(x:ai):cO Pg 61 (aj x)=O (.agg (aj x)):=qdB (RM x) qnI (by kernel_rfl)
def tL(x:ai)(r:V U):cO Pg 61 ((qeG x)++r)=O (.agg (aj x)):=qgo (dW x) (RM x) qnI (by kernel_rfl)
def qcZ:dF Pg 61 []=O (.agg (aj (⟨0,[],[],[],⟨0,[],0,[]⟩,[]⟩:ai))):=by simp only[dW];kernel_rfl
def qcX:Db Pg 61 [] [(2,61),(3,9),(7,59),(8,59)]:=by exact⟨[.i6 0,.str ([]:aa),.val fe,.val fe,.i6 0,.str ([]:aa),.i6 0,.val fe,.val fe],by kernel_rfl,(aI rfl (aI rfl (aI rfl (aI rfl hV))))⟩
def Vb(a:Int)(c:V aa)(b:V ai):dF Pg 61 [(0,.i6 a),(3,sl cS c),(2,sl aj b)]=O (.agg (aj (⟨a,[],b,c,⟨0,[],0,[]⟩,[]⟩:ai))):=by simp only[dW];kernel_rfl
def U8(a:Int)(c:V aa)(b:V ai):Db Pg 61 [(0,.i6 a),(3,sl cS c),(2,sl aj b)] [(7,59),(8,59)]:=by exact⟨[.i6 a,.str ([]:aa),sl aj b,sl cS c,.i6 0,.str ([]:aa),.i6 0,.val fe,.val fe],by kernel_rfl,(aI rfl (aI rfl hV))⟩
def Va(a:Int):dF Pg 61 [(0,.i6 a)]=O (.agg (aj (⟨a,[],[],[],⟨0,[],0,[]⟩,[]⟩:ai))):=by simp only[dW];kernel_rfl
def U7(a:Int):Db Pg 61 [(0,.i6 a)] [(2,61),(3,9),(7,59),(8,59)]:=by exact⟨[.i6 a,.str ([]:aa),.val fe,.val fe,.i6 0,.str ([]:aa),.i6 0,.val fe,.val fe],by kernel_rfl,(aI rfl (aI rfl (aI rfl (aI rfl hV))))⟩
def bo(x:ai):qc 61 (aj x) 0 0/\qd 55 (aj x) 0 (.i6 x.Op):=ry (by rw[dW];kernel_rfl)
def eM(x:ai):qc 61 (aj x) 1 1/\qd 9 (aj x) 1 (.str x.Name):=ry (by rw[dW];kernel_rfl)
def bN(x:ai):qc 61 (aj x) 2 2/\qd 48 (aj x) 2 (sl aj x.Args):=ry (by rw[dW];kernel_rfl)
def dp(x:ai):qc 61 (aj x) 3 3/\qd 32 (aj x) 3 (sl cS x.Names):=ry (by rw[dW];kernel_rfl)
def fA(x:ai):qc 61 (aj x) 4 4/\qd 59 (aj x) 4 (.agg (af x.Pred)):=ry (by rw[dW,cH];kernel_rfl)
def dK(x:ai):qc 61 (aj x) 5 8/\qd 57 (aj x) 8 (sl af x.Preds):=ry (by rw[dW];kernel_rfl)
structure QX where
 Name:aa
 Names:(List aa)
 Fields:(List ai)
def iN(x:QX):V U:=[.str x.Name,sl cS x.Names,sl aj x.Fields]
def Up(x:QX):iN x=[.str x.Name,sl cS x.Names,sl aj x.Fields]:=rfl
def qey(x:QX):ie 0 (iN x):=by unfold iN;exact K0l.h
instance qzC:KE iN:=⟨qey⟩
def qbH(x:QX):(iN x).length=3:=by rw[Up];rfl
def qjA(x:QX):bF (.agg (iN x))=O [.str x.Name,sl cS x.Names,sl aj x.Fields]:=m4 O (Up x)
def qjo(x:QX):∀q∈iN x,q.one=true:=Lg (by rw[Up];rfl)
def qmn:Pg.cellsOf 207=3:=by kernel_rfl
def qlt(x:QX):cO Pg 207 (iN x)=O (.agg (iN x)):=qdB (qbH x) qmn (by kernel_rfl)
structure ei where
 Name:aa
 Vars:(List aa)
 Preds:(List wv)
 Cons:(List QX)
def bP(x:ei):V U:=[.str x.Name,sl cS x.Vars,sl cN x.Preds,sl iN x.Cons]
def KX(x:ei):bP x=[.str x.Name,sl cS x.Vars,sl cN x.Preds,sl iN x.Cons]:=rfl
def Vc(x:ei):ie 0 (bP x):=by unfold bP;exact K0l.h
instance qzv{x:ei}:K0l (bP x):=⟨Vc x⟩
instance qzp:KE bP:=⟨Vc⟩
def RG(x:ei):(bP x).length=4:=by rw[KX];rfl
def qjy(x:ei):bF (.agg (bP x))=O (bP x):=rfl
abbrev qeC(x:ei):V U:=[.str x.Name,sl cS x.Vars,sl cN x.Preds,sl iN x.Cons]
def qgV(x:ei):bF (.agg (bP x))=O (qeC x):=m4 O (KX x)
def qgE(x:ei):∀q∈bP x,q.one=true:=Lg (by rw[KX];rfl)
def qh5:Pg.cellsOf 116=4:=by kernel_rfl
def qiT(x:ei):cO Pg 116 (bP x)=O (.agg (bP x)):=qdB (RG x) qh5 (by kernel_rfl)
def qgr(x:ei)(r:V U):cO Pg 116 ((qeC x)++r)=O (.agg (bP x)):=qgo (KX x) (RG x) qh5 (by kernel_rfl)
def Ob(x:ei):qc 116 (bP x) 0 0/\qd 9 (bP x) 0 (.str x.Name):=ry (by kernel_rfl)
def MN(x:ei):qc 116 (bP x) 1 1/\qd 32 (bP x) 1 (sl cS x.Vars):=ry (by kernel_rfl)
def yF(x:ei):qc 116 (bP x) 2 2/\qd 113 (bP x) 2 (sl cN x.Preds):=ry (by kernel_rfl)
def yG(x:ei):qc 116 (bP x) 3 3/\qd 114 (bP x) 3 (sl iN x.Cons):=ry (by kernel_rfl)
structure QY where
 Name:aa
 Type_:ai
def tB(x:QY):V U:=[.str x.Name]++(aj x.Type_)
def qdn(x:QY):tB x=[.str x.Name,.i6 x.Type_.Op,.str x.Type_.Name,sl aj x.Type_.Args,sl cS x.Type_.Names,.i6 x.Type_.Pred.Op,.str x.Type_.Pred.Name,.i6 x.Type_.Pred.N,sl af x.Type_.Pred.Kids,sl af x.Type_.Preds]:=by unfold tB;simp only[dW,vaT,va9]
structure dy where
 Name:aa
 Var:aa
 Methods:(List QY)
def eL(x:dy):V U:=[.str x.Name,.str x.Var,sl tB x.Methods]
def Ge(x:dy):eL x=[.str x.Name,.str x.Var,sl tB x.Methods]:=rfl
instance iZm:KE tB:=⟨fun x=>⟨trivial,pp x.Type_⟩⟩
def Rq(x:dy):ie 0 (eL x):=by unfold eL;exact K0l.h
instance qzm{x:dy}:K0l (eL x):=⟨Rq x⟩
instance qzk:KE eL:=⟨Rq⟩
def Ol(x:dy):(eL x).length=3:=by rw[Ge];rfl
def qdX(x:dy):bF (.agg (eL x))=O [.str x.Name,.str x.Var,sl tB x.Methods]:=m4 O (Ge x)
def qdP(x:dy):∀q∈eL x,q.one=true:=Lg (by rw[Ge];rfl)
def qh9:Pg.cellsOf 164=3:=by kernel_rfl
def qgq(x:dy):cO Pg 164 (eL x)=O (.agg (eL x)):=qdB (Ol x) qh9 (by kernel_rfl)
def qdC(x:dy)(r:V U):cO Pg 164 ([.str x.Name,.str x.Var,sl tB x.Methods]++r)=O (.agg (eL x)):=qgo (Ge x) (Ol x) qh9 (by kernel_rfl)
structure dZ where
 Class:aa
 Var:aa
deriving DecidableEq
def bS(x:dZ):V U:=[.str x.Class,.str x.Var]
def Vp(x:dZ):bS x=[.str x.Class,.str x.Var]:=rfl
def KK(x:dZ):ie 0 (bS x):=by unfold bS;exact K0l.h
instance qzr:KE bS:=⟨KK⟩
def qgn(x:dZ):(bS x).length=2:=by rw[Vp];rfl
def qgG(x:dZ):∀q∈bS x,q.one=true:=Lg (by rw[Vp];rfl)
def qqi:Pg.cellsOf 223=2:=by kernel_rfl
def Od(x:dZ):qc 223 (bS x) 0 0/\qd 9 (bS x) 0 (.str x.Class):=ry (by kernel_rfl)
def Oe(x:dZ):qc 223 (bS x) 1 1/\qd 9 (bS x) 1 (.str x.Var):=ry (by kernel_rfl)
structure aY where
 Name:aa
 Type_:ai
def aU(x:aY):V U:=[.str x.Name]++(aj x.Type_)
def tD(x:aY):aU x=[.str x.Name,.i6 x.Type_.Op,.str x.Type_.Name,sl aj x.Type_.Args,sl cS x.Type_.Names,.i6 x.Type_.Pred.Op,.str x.Type_.Pred.Name,.i6 x.Type_.Pred.N,sl af x.Type_.Pred.Kids,sl af x.Type_.Preds]:=by unfold aU;simp only[dW,vaT,va9]
def wW(x:aY):ie 0 (aU x):=by rw[tD];exact K0l.h
instance qzn{x:aY}:K0l (aU x):=⟨wW x⟩
instance qzl:KE aU:=⟨wW⟩
def Om(x:aY):(aU x).length=10:=by rw[tD];rfl
def Yv(x:aY):bF (.agg (aU x))=O (aU x):=rfl
abbrev qbj(x:aY):V U:=[.str x.Name,.i6 x.Type_.Op,.str x.Type_.Name,sl aj x.Type_.Args,sl cS x.Type_.Names,.i6 x.Type_.Pred.Op,.str x.Type_.Pred.Name,.i6 x.Type_.Pred.N,sl af x.Type_.Pred.Kids,sl af x.Type_.Preds]
def H9(x:aY):bF (.agg (aU x))=O (qbj x):=m4 O (tD x)
def qdQ(x:aY):∀q∈aU x,q.one=true:=Lg (by rw[tD];rfl)
def qib:Pg.cellsOf 185=10:=by kernel_rfl
def Mf(x:aY):cO Pg 185 (aU x)=O (.agg (aU x)):=qdB (Om x) qib (by kernel_rfl)
def VQ(x:aY)(r:V U):cO Pg 185 ((qbj x)++r)=O (.agg (aU x)):=qgo (tD x) (Om x) qib (by kernel_rfl)
def qV(x:aY):qc 185 (aU x) 0 0/\qd 9 (aU x) 0 (.str x.Name):=ry (by rw[tD];kernel_rfl)
def kK(x:aY):qc 185 (aU x) 1 1/\qd 61 (aU x) 1 (.agg (aj x.Type_)):=ry (by rw[tD,dW];kernel_rfl)
mutual
inductive ah where
 |mk (Op:Int) (Name:aa) (N:Int) (Kids:List ah) (Params:List aY) (Alts:List bH) (Types:List ai)
inductive bH where
 |mk (Con:aa) (Names:List aa) (Body:ah)
end
def ah.Op:ah->Int|⟨x,_,_,_,_,_,_⟩=>x
def ah.Name:ah->aa|⟨_,x,_,_,_,_,_⟩=>x
def ah.N:ah->Int|⟨_,_,x,_,_,_,_⟩=>x
def ah.Kids:ah->(V ah)|⟨_,_,_,x,_,_,_⟩=>x
def ah.Params:ah->(V aY)|⟨_,_,_,_,x,_,_⟩=>x
def ah.Alts:ah->(V bH)|⟨_,_,_,_,_,x,_⟩=>x
def ah.Types:ah->(V ai)|⟨_,_,_,_,_,_,x⟩=>x
def bH.Con:bH->aa|⟨x,_,_⟩=>x
def bH.Names:bH->(V aa)|⟨_,x,_⟩=>x
def bH.Body:bH->ah|⟨_,_,x⟩=>x
mutual
def al:ah->List U|⟨x0,x1,x2,x3,x4,x5,x6⟩=>[.i6 x0,.str x1,.i6 x2,.slice (Ea x3),sl aU x4,.slice (K4 x5),sl aj x6]
def bz:bH->List U|⟨x0,x1,x2⟩=>[.str x0,sl cS x1]++(al x2)
def Ea:List ah->List (List U)|[]=>[]|x::r=>al x::Ea r
def K4:List bH->List (List U)|[]=>[]|x::r=>bz x::K4 r
end
def VG:∀(l:List ah),Ea l=l.map al
 |[]=>by simp[Ea]
 |x::r=>by simp[Ea,VG r]
def Yg:∀(l:List bH),K4 l=l.map bz
 |[]=>by simp[K4]
 |x::r=>by simp[K4,Yg r]
mutual
def yC:∀(x:ah),ie 0 (al x)
 |⟨x0,x1,x2,x3,x4,x5,x6⟩=>by rw[al];exact(aI hV (aI hV (aI hV (aI (XT x3) (aI (cw wW x4) (aI (qa5 x5) (aI (cw pp x6) trivial)))))))
def HK:∀(x:bH),ie 0 (bz x)
 |⟨x0,x1,x2⟩=>by rw[bz];exact NX.2 (aI ((aI hV (aI (cw J3 x1) trivial))) (yC x2))
def XT:∀(l:List ah),C0 0 (Ea l)
 |[]=>by simp[Ea,C0]
 |x::r=>by rw[Ea];exact⟨yC x,XT r⟩
def qa5:∀(l:List bH),C0 0 (K4 l)
 |[]=>by simp[K4,C0]
 |x::r=>by rw[K4];exact⟨HK x,qa5 r⟩
end
def d9:∀(x:ah),al x=[.i6 x.Op,.str x.Name,.i6 x.N,sl al x.Kids,sl aU x.Params,sl bz x.Alts,sl aj x.Types]
 |⟨x0,x1,x2,x3,x4,x5,x6⟩=>by simp only[al,VG,Yg];rfl
abbrev UE(x:ah):U:=.agg (al x)
instance qzw{x:ah}:K0l (al x):=⟨yC x⟩
instance qzq:KE al:=⟨yC⟩
def RH(x:ah):(al x).length=7:=by rw[d9];rfl
def dG(x:ah):bF (.agg (al x))=O (al x):=rfl
def Sm(x:ah):bF (UE x)=O (al x):=rfl
abbrev qeD(x:ah):V U:=[.i6 x.Op,.str x.Name,.i6 x.N,sl al x.Kids,sl aU x.Params,sl bz x.Alts,sl aj x.Types]
def tV(x:ah):bF (.agg (al x))=O (qeD x):=m4 O (d9 x)
def qgF(x:ah):∀q∈al x,q.one=true:=Lg (by rw[d9];rfl)
def qnG:Pg.cellsOf 50=7:=by kernel_rfl
def qh8:Pg.cellsOf 124=9:=by kernel_rfl
def bv(x:ah):cO Pg 50 (al x)=O (.agg (al x)):=qdB (RH x) qnG (by kernel_rfl)
def fH(x:ah)(r:V U):cO Pg 50 ((qeD x)++r)=O (.agg (al x)):=qgo (d9 x) (RH x) qnG (by kernel_rfl)
def NV:dF Pg 50 []=O (.agg (al (⟨0,[],0,[],[],[],[]⟩:ah))):=by simp only[d9];kernel_rfl
def NT:Db Pg 50 [] [(3,50),(4,185),(5,124),(6,61)]:=by exact⟨[.i6 0,.str ([]:aa),.i6 0,.val fe,.val fe,.val fe,.val fe],by kernel_rfl,(aI rfl (aI rfl (aI rfl (aI rfl hV))))⟩
def U9(a:Int)(b:aa)(c:V ah):dF Pg 50 [(0,.i6 a),(1,.str b),(3,sl al c)]=O (.agg (al (⟨a,b,0,c,[],[],[]⟩:ah))):=by simp only[d9];kernel_rfl
def U6(a:Int)(b:aa)(c:V ah):Db Pg 50 [(0,.i6 a),(1,.str b),(3,sl al c)] [(4,185),(5,124),(6,61)]:=by exact⟨[.i6 a,.str b,.i6 0,sl al c,.val fe,.val fe,.val fe],by kernel_rfl,(aI rfl (aI rfl (aI rfl hV)))⟩
def Zh(a b:Int):dF Pg 50 [(0,.i6 a),(2,.i6 b)]=O (.agg (al (⟨a,[],b,[],[],[],[]⟩:ah))):=by simp only[d9];kernel_rfl
def Zd(a b:Int):Db Pg 50 [(0,.i6 a),(2,.i6 b)] [(3,50),(4,185),(5,124),(6,61)]:=by exact⟨[.i6 a,.str ([]:aa),.i6 b,.val fe,.val fe,.val fe,.val fe],by kernel_rfl,(aI rfl (aI rfl (aI rfl (aI rfl hV))))⟩
def bK(x:ah):qc 50 (al x) 0 0/\qd 44 (al x) 0 (.i6 x.Op):=ry (by rw[d9];kernel_rfl)
def cc(x:ah):qc 50 (al x) 1 1/\qd 9 (al x) 1 (.str x.Name):=ry (by rw[d9];kernel_rfl)
def di(x:ah):qc 50 (al x) 2 2/\qd 3 (al x) 2 (.i6 x.N):=ry (by rw[d9];kernel_rfl)
def aB(x:ah):qc 50 (al x) 3 3/\qd 45 (al x) 3 (sl al x.Kids):=ry (by rw[d9];kernel_rfl)
def bk(x:ah):qc 50 (al x) 4 4/\qd 46 (al x) 4 (sl aU x.Params):=ry (by rw[d9];kernel_rfl)
def aF(x:ah):qc 50 (al x) 5 5/\qd 47 (al x) 5 (sl bz x.Alts):=ry (by rw[d9];kernel_rfl)
def ax(x:ah):qc 50 (al x) 6 6/\qd 48 (al x) 6 (sl aj x.Types):=ry (by rw[d9];kernel_rfl)
def D2:∀(x:bH),bz x=[.str x.Con,sl cS x.Names,.i6 x.Body.Op,.str x.Body.Name,.i6 x.Body.N,sl al x.Body.Kids,sl aU x.Body.Params,sl bz x.Body.Alts,sl aj x.Body.Types]
 |⟨x0,x1,x2⟩=>by simp only[bz,d9,vaT,va9];rfl
instance qzF{x:bH}:K0l (bz x):=⟨HK x⟩
instance qzB:KE bz:=⟨HK⟩
def VN(x:bH):(bz x).length=9:=by rw[D2];rfl
def qae(x:bH):bF (.agg (bz x))=O (bz x):=rfl
abbrev qim(x:bH):V U:=[.str x.Con,sl cS x.Names,.i6 x.Body.Op,.str x.Body.Name,.i6 x.Body.N,sl al x.Body.Kids,sl aU x.Body.Params,sl bz x.Body.Alts,sl aj x.Body.Types]
def rE(x:bH):bF (.agg (bz x))=O (qim x):=m4 O (D2 x)
def qjn(x:bH):∀q∈bz x,q.one=true:=Lg (by rw[D2];rfl)
def uL(x:bH):cO Pg 124 (bz x)=O (.agg (bz x)):=qdB (VN x) qh8 (by kernel_rfl)
def qbL(x:bH)(r:V U):cO Pg 124 ((qim x)++r)=O (.agg (bz x)):=qgo (D2 x) (VN x) qh8 (by kernel_rfl)
def D3(x:bH):qc 124 (bz x) 0 0/\qd 9 (bz x) 0 (.str x.Con):=ry (by rw[D2];kernel_rfl)
def sR(x:bH):qc 124 (bz x) 1 1/\qd 32 (bz x) 1 (sl cS x.Names):=ry (by rw[D2];kernel_rfl)
def sS(x:bH):qc 124 (bz x) 2 2/\qd 50 (bz x) 2 (.agg (al x.Body)):=ry (by rw[D2,d9];kernel_rfl)
structure ku where
 Name:aa
 Sort_:aa
deriving DecidableEq
def eP(x:ku):V U:=[.str x.Name,.str x.Sort_]
def Zy(x:ku):eP x=[.str x.Name,.str x.Sort_]:=rfl
def Ul(x:ku):ie 0 (eP x):=by unfold eP;exact K0l.h
instance iZ0:KE eP:=⟨Ul⟩
def qiP(x:ku):(eP x).length=2:=by rw[Zy];rfl
def qjm(x:ku):∀q∈eP x,q.one=true:=Lg (by rw[Zy];rfl)
def qqg:Pg.cellsOf 194=2:=by kernel_rfl
def PX(x:ku):qc 194 (eP x) 0 0/\qd 9 (eP x) 0 (.str x.Name):=ry (by kernel_rfl)
def MM(x:ku):qc 194 (eP x) 1 1/\qd 117 (eP x) 1 (.str x.Sort_):=ry (by kernel_rfl)
structure cY where
 Name:aa
 Vars:(List wv)
 Hyp:ag
 Goal:ag
def bT(x:cY):V U:=[.str x.Name,sl cN x.Vars]++(af x.Hyp++(af x.Goal))
def Gd(x:cY):bT x=[.str x.Name,sl cN x.Vars,.i6 x.Hyp.Op,.str x.Hyp.Name,.i6 x.Hyp.N,sl af x.Hyp.Kids,.i6 x.Goal.Op,.str x.Goal.Name,.i6 x.Goal.N,sl af x.Goal.Kids]:=by unfold bT;simp only[cH,vaT,va9]
def F2(x:cY):ie 0 (bT x):=by rw[Gd];exact K0l.h
instance qzj:KE bT:=⟨F2⟩
def VO(x:cY):(bT x).length=10:=by rw[Gd];rfl
abbrev qin(x:cY):V U:=[.str x.Name,sl cN x.Vars,.i6 x.Hyp.Op,.str x.Hyp.Name,.i6 x.Hyp.N,sl af x.Hyp.Kids,.i6 x.Goal.Op,.str x.Goal.Name,.i6 x.Goal.N,sl af x.Goal.Kids]
def qdW(x:cY):bF (.agg (bT x))=O (qin x):=m4 O (Gd x)
def qdO(x:cY):∀q∈bT x,q.one=true:=Lg (by rw[Gd];rfl)
def qmm:Pg.cellsOf 197=10:=by kernel_rfl
def qgp(x:cY):cO Pg 197 (bT x)=O (.agg (bT x)):=qdB (VO x) qmm (by kernel_rfl)
structure iu where
 Vars:(List aa)
 Needs:(List dZ)
 Abs:(List ku)
 Bounds:(List cY)
 Type_:ai
 Metric:(List ag)
def cr(x:iu):V U:=[sl cS x.Vars,sl bS x.Needs,sl eP x.Abs,sl bT x.Bounds]++(aj x.Type_++([sl af x.Metric]))
def nh(x:iu):cr x=[sl cS x.Vars,sl bS x.Needs,sl eP x.Abs,sl bT x.Bounds,.i6 x.Type_.Op,.str x.Type_.Name,sl aj x.Type_.Args,sl cS x.Type_.Names,.i6 x.Type_.Pred.Op,.str x.Type_.Pred.Name,.i6 x.Type_.Pred.N,sl af x.Type_.Pred.Kids,sl af x.Type_.Preds,sl af x.Metric]:=by unfold cr;simp only[dW,vaT,va9]
def qk0(x:iu):ie 0 (cr x):=by rw[nh];exact K0l.h
instance iZ1:KE cr:=⟨qk0⟩
instance qzH{x:iu}:K0l (cr x):=⟨qk0 x⟩
def qlP(x:iu):bF (.agg (cr x))=O (cr x):=rfl
abbrev qnS(x:iu):V U:=[sl cS x.Vars,sl bS x.Needs,sl eP x.Abs,sl bT x.Bounds,.i6 x.Type_.Op,.str x.Type_.Name,sl aj x.Type_.Args,sl cS x.Type_.Names,.i6 x.Type_.Pred.Op,.str x.Type_.Pred.Name,.i6 x.Type_.Pred.N,sl af x.Type_.Pred.Kids,sl af x.Type_.Preds,sl af x.Metric]
def qjY(x:iu):PVal.agg (qnS x)=.agg (cr x):=m4 PVal.agg (nh x).symm
def qfO(a:ai):dF Pg 63 [(4,.agg (aj a))]=O (.agg (cr (⟨[],[],[],[],a,[]⟩:iu))):=by simp only[nh,dW];kernel_rfl
def qfM(a:ai):Db Pg 63 [(4,.agg (aj a))] [(0,9),(1,223),(2,194),(3,197),(13,59)]:=by simp only[dW];exact⟨[.val fe,.val fe,.val fe,.val fe,.i6 a.Op,.str a.Name,sl aj a.Args,sl cS a.Names,.i6 a.Pred.Op,.str a.Pred.Name,.i6 a.Pred.N,sl af a.Pred.Kids,sl af a.Preds,.val fe],by kernel_rfl,(aI rfl (aI rfl (aI rfl (aI rfl (aI rfl hV)))))⟩
def D5(x:iu):qc 63 (cr x) 0 0/\qd 32 (cr x) 0 (sl cS x.Vars):=ry (by rw[nh];kernel_rfl)
def D6(x:iu):qc 63 (cr x) 1 1/\qd 52 (cr x) 1 (sl bS x.Needs):=ry (by rw[nh];kernel_rfl)
def oO(x:iu):qc 63 (cr x) 2 2/\qd 53 (cr x) 2 (sl eP x.Abs):=ry (by rw[nh];kernel_rfl)
def PY(x:iu):qc 63 (cr x) 3 3/\qd 54 (cr x) 3 (sl bT x.Bounds):=ry (by rw[nh];kernel_rfl)
def PZ(x:iu):qc 63 (cr x) 4 4/\qd 61 (cr x) 4 (.agg (aj x.Type_)):=ry (by rw[nh,dW];kernel_rfl)
def sT(x:iu):qc 63 (cr x) 5 13/\qd 57 (cr x) 13 (sl af x.Metric):=ry (by rw[nh];kernel_rfl)
structure ba where
 Name:aa
 Params:(List aa)
 Body:ah
 Mode:Int
 Typed:Bool
 Sig:iu
def aL(x:ba):V U:=[.str x.Name,sl cS x.Params]++(al x.Body++([.i6 x.Mode,.bool x.Typed]++(cr x.Sig)))
def iF(x:ba):aL x=[.str x.Name,sl cS x.Params,.i6 x.Body.Op,.str x.Body.Name,.i6 x.Body.N,sl al x.Body.Kids,sl aU x.Body.Params,sl bz x.Body.Alts,sl aj x.Body.Types,.i6 x.Mode,.bool x.Typed,sl cS x.Sig.Vars,sl bS x.Sig.Needs,sl eP x.Sig.Abs,sl bT x.Sig.Bounds,.i6 x.Sig.Type_.Op,.str x.Sig.Type_.Name,sl aj x.Sig.Type_.Args,sl cS x.Sig.Type_.Names,.i6 x.Sig.Type_.Pred.Op,.str x.Sig.Type_.Pred.Name,.i6 x.Sig.Type_.Pred.N,sl af x.Sig.Type_.Pred.Kids,sl af x.Sig.Type_.Preds,sl af x.Sig.Metric]:=by unfold aL;simp only[d9,nh,vaT,va9]
def DK(x:ba):ie 0 (aL x):=by rw[iF];exact K0l.h
abbrev Pd(x:ba):U:=.agg (aL x)
instance qzG{x:ba}:K0l (aL x):=⟨DK x⟩
instance qzD:KE aL:=⟨DK⟩
def VP(x:ba):(aL x).length=25:=by rw[iF];rfl
def Qs(x:ba):bF (.agg (aL x))=O (aL x):=rfl
def GB(x:ba):bF (Pd x)=O (aL x):=rfl
abbrev qdk(x:ba):V U:=[.str x.Name,sl cS x.Params,.i6 x.Body.Op,.str x.Body.Name,.i6 x.Body.N,sl al x.Body.Kids,sl aU x.Body.Params,sl bz x.Body.Alts,sl aj x.Body.Types,.i6 x.Mode,.bool x.Typed,sl cS x.Sig.Vars,sl bS x.Sig.Needs,sl eP x.Sig.Abs,sl bT x.Sig.Bounds,.i6 x.Sig.Type_.Op,.str x.Sig.Type_.Name,sl aj x.Sig.Type_.Args,sl cS x.Sig.Type_.Names,.i6 x.Sig.Type_.Pred.Op,.str x.Sig.Type_.Pred.Name,.i6 x.Sig.Type_.Pred.N,sl af x.Sig.Type_.Pred.Kids,sl af x.Sig.Type_.Preds,sl af x.Sig.Metric]
def eW(x:ba):bF (.agg (aL x))=O (qdk x):=m4 O (iF x)
def qjp(x:ba):∀q∈aL x,q.one=true:=Lg (by rw[iF];rfl)
def qnJ:Pg.cellsOf 65=25:=by kernel_rfl
def sF(x:ba):cO Pg 65 (aL x)=O (.agg (aL x)):=qdB (VP x) qnJ (by kernel_rfl)
def rA(x:ba)(r:V U):cO Pg 65 ((qdk x)++r)=O (.agg (aL x)):=qgo (iF x) (VP x) qnJ (by kernel_rfl)
def Wx(x:ba):PVal.agg (qdk x)=.agg (aL x):=m4 PVal.agg (iF x).symm
def qfN:dF Pg 65 []=O (.agg (aL (⟨[],[],⟨0,[],0,[],[],[],[]⟩,0,Z,⟨[],[],[],[],⟨0,[],[],[],⟨0,[],0,[]⟩,[]⟩,[]⟩⟩:ba))):=by simp only[iF];kernel_rfl
def qfL:Db Pg 65 [] [(1,9),(5,50),(6,185),(7,124),(8,61),(11,9),(12,223),(13,194),(14,197),(17,61),(18,9),(22,59),(23,59),(24,59)]:=by exact⟨[.str ([]:aa),.val fe,.i6 0,.str ([]:aa),.i6 0,.val fe,.val fe,.val fe,.val fe,.i6 0,.bool Z,.val fe,.val fe,.val fe,.val fe,.i6 0,.str ([]:aa),.val fe,.val fe,.i6 0,.str ([]:aa),.i6 0,.val fe,.val fe,.val fe],by kernel_rfl,(aI rfl (aI rfl (aI rfl (aI rfl (aI rfl (aI rfl (aI rfl (aI rfl (aI rfl (aI rfl (aI rfl (aI rfl (aI rfl (aI rfl hV))))))))))))))⟩
def PC(a:aa)(b:V aa)(c:ah)(d:K)(e:iu):dF Pg 65 [(0,.str a),(1,sl cS b),(2,.agg (al c)),(4,.bool d),(5,.agg (cr e))]=O (.agg (aL (⟨a,b,c,0,d,e⟩:ba))):=by simp only[iF,d9,nh];kernel_rfl
def Rz(x:ba):qc 65 (aL x) 0 0/\qd 9 (aL x) 0 (.str x.Name):=ry (by rw[iF];kernel_rfl)
def ZC(x:ba):qc 65 (aL x) 1 1:=qt0 (by rw[iF];kernel_rfl)
def uG(x:ba):qc 65 (aL x) 1 1/\qd 32 (aL x) 1 (sl cS x.Params):=ry (by rw[iF];kernel_rfl)
def ZD(x:ba):qc 65 (aL x) 2 2:=qt0 (by rw[iF];kernel_rfl)
def oM(x:ba):qc 65 (aL x) 2 2/\qd 50 (aL x) 2 (.agg (al x.Body)):=ry (by rw[iF,d9];kernel_rfl)
def oN(x:ba):qc 65 (aL x) 3 9/\qd 51 (aL x) 9 (.i6 x.Mode):=ry (by rw[iF];kernel_rfl)
def D4(x:ba):qc 65 (aL x) 4 10/\qd 4 (aL x) 10 (.bool x.Typed):=ry (by rw[iF];kernel_rfl)
def Oc(x:ba):qc 65 (aL x) 5 11/\qd 63 (aL x) 11 (.agg (cr x.Sig)):=ry (by rw[iF,nh];kernel_rfl)
def ZU(x:ba):qd 32 (aL x) 1 (sl cS x.Params):=qt1 (by rw[iF];kernel_rfl)
def ZV(x:ba):qd 50 (aL x) 2 (.agg (al x.Body)):=qt1 (by rw[iF,d9];kernel_rfl)
structure bw where
 Class:aa
 Type_:ai
 Needs:(List dZ)
 Defs:(List ba)
def cu(x:bw):V U:=[.str x.Class]++(aj x.Type_++([sl bS x.Needs,sl aL x.Defs]))
def qk(x:bw):cu x=[.str x.Class,.i6 x.Type_.Op,.str x.Type_.Name,sl aj x.Type_.Args,sl cS x.Type_.Names,.i6 x.Type_.Pred.Op,.str x.Type_.Pred.Name,.i6 x.Type_.Pred.N,sl af x.Type_.Pred.Kids,sl af x.Type_.Preds,sl bS x.Needs,sl aL x.Defs]:=by unfold cu;simp only[dW,vaT,va9]
def HL(x:bw):ie 0 (cu x):=by rw[qk];exact K0l.h
instance qze{x:bw}:K0l (cu x):=⟨HL x⟩
instance qzd:KE cu:=⟨HL⟩
def E5(x:bw):(cu x).length=12:=by rw[qk];rfl
abbrev S2(x:bw):V U:=[.str x.Class,.i6 x.Type_.Op,.str x.Type_.Name,sl aj x.Type_.Args,sl cS x.Type_.Names,.i6 x.Type_.Pred.Op,.str x.Type_.Pred.Name,.i6 x.Type_.Pred.N,sl af x.Type_.Pred.Kids,sl af x.Type_.Preds,sl bS x.Needs,sl aL x.Defs]
def Xr(x:bw):bF (.agg (cu x))=O (S2 x):=m4 O (qk x)
def Xq(x:bw):∀q∈cu x,q.one=true:=Lg (by rw[qk];rfl)
def qia:Pg.cellsOf 167=12:=by kernel_rfl
def ZW(x:bw):cO Pg 167 (cu x)=O (.agg (cu x)):=qdB (E5 x) qia (by kernel_rfl)
def Xi(x:bw)(r:V U):cO Pg 167 ((S2 x)++r)=O (.agg (cu x)):=qgo (qk x) (E5 x) qia (by kernel_rfl)
structure EM where
 Con:aa
 Names:(List aa)
 Body:ag
def fj(x:EM):V U:=[.str x.Con,sl cS x.Names]++(af x.Body)
def KW(x:EM):fj x=[.str x.Con,sl cS x.Names,.i6 x.Body.Op,.str x.Body.Name,.i6 x.Body.N,sl af x.Body.Kids]:=by unfold fj;simp only[cH,vaT,va9]
def qa4(x:EM):ie 0 (fj x):=by rw[KW];exact K0l.h
instance qzo:KE fj:=⟨qa4⟩
def Yi(x:EM):(fj x).length=6:=by rw[KW];rfl
abbrev qk9(x:EM):V U:=[.str x.Con,sl cS x.Names,.i6 x.Body.Op,.str x.Body.Name,.i6 x.Body.N,sl af x.Body.Kids]
def qgU(x:EM):bF (.agg (fj x))=O (qk9 x):=m4 O (KW x)
def qgD(x:EM):∀q∈fj x,q.one=true:=Lg (by rw[KW];rfl)
def qmo:Pg.cellsOf 211=6:=by kernel_rfl
def qiS(x:EM):cO Pg 211 (fj x)=O (.agg (fj x)):=qdB (Yi x) qmo (by kernel_rfl)
structure bj where
 Name:aa
 Data:aa
 Result:aa
 Cases:(List EM)
 Inv:ag
def aO(x:bj):V U:=[.str x.Name,.str x.Data,.str x.Result,sl fj x.Cases]++(af x.Inv)
def ii(x:bj):aO x=[.str x.Name,.str x.Data,.str x.Result,sl fj x.Cases,.i6 x.Inv.Op,.str x.Inv.Name,.i6 x.Inv.N,sl af x.Inv.Kids]:=by unfold aO;simp only[cH,vaT,va9]
def KI(x:bj):ie 0 (aO x):=by rw[ii];exact K0l.h
instance qzg{x:bj}:K0l (aO x):=⟨KI x⟩
instance qzf:KE aO:=⟨KI⟩
def H1(x:bj):(aO x).length=8:=by rw[ii];rfl
def qb6(x:bj):bF (.agg (aO x))=O (aO x):=rfl
abbrev Vl(x:bj):V U:=[.str x.Name,.str x.Data,.str x.Result,sl fj x.Cases,.i6 x.Inv.Op,.str x.Inv.Name,.i6 x.Inv.N,sl af x.Inv.Kids]
def qag(x:bj):bF (.agg (aO x))=O (Vl x):=m4 O (ii x)
def Z3(x:bj):∀q∈aO x,q.one=true:=Lg (by rw[ii];rfl)
def qh6:Pg.cellsOf 120=8:=by kernel_rfl
def qbK(x:bj):cO Pg 120 (aO x)=O (.agg (aO x)):=qdB (H1 x) qh6 (by kernel_rfl)
def ZX(x:bj)(r:V U):cO Pg 120 ((Vl x)++r)=O (.agg (aO x)):=qgo (ii x) (H1 x) qh6 (by kernel_rfl)
def JK(x:bj):qc 120 (aO x) 0 0/\qd 9 (aO x) 0 (.str x.Name):=ry (by rw[ii];kernel_rfl)
def JL(x:bj):qc 120 (aO x) 1 1/\qd 9 (aO x) 1 (.str x.Data):=ry (by rw[ii];kernel_rfl)
def Gg(x:bj):qc 120 (aO x) 2 2/\qd 117 (aO x) 2 (.str x.Result):=ry (by rw[ii];kernel_rfl)
def tG(x:bj):qc 120 (aO x) 3 3/\qd 118 (aO x) 3 (sl fj x.Cases):=ry (by rw[ii];kernel_rfl)
def uH(x:bj):qc 120 (aO x) 4 4/\qd 59 (aO x) 4 (.agg (af x.Inv)):=ry (by rw[ii,cH];kernel_rfl)
structure ez where
 Name:aa
 Vars:(List wv)
 Body:ag
def cj(x:ez):V U:=[.str x.Name,sl cN x.Vars]++(af x.Body)
def uF(x:ez):cj x=[.str x.Name,sl cN x.Vars,.i6 x.Body.Op,.str x.Body.Name,.i6 x.Body.N,sl af x.Body.Kids]:=by unfold cj;simp only[cH,vaT,va9]
def Vd(x:ez):ie 0 (cj x):=by rw[uF];exact K0l.h
instance qzy{x:ez}:K0l (cj x):=⟨Vd x⟩
instance qzt:KE cj:=⟨Vd⟩
def RJ(x:ez):(cj x).length=6:=by rw[uF];rfl
def qjz(x:ez):bF (.agg (cj x))=O (cj x):=rfl
abbrev qeF(x:ez):V U:=[.str x.Name,sl cN x.Vars,.i6 x.Body.Op,.str x.Body.Name,.i6 x.Body.N,sl af x.Body.Kids]
def qgW(x:ez):bF (.agg (cj x))=O (qeF x):=m4 O (uF x)
def qgI(x:ez):∀q∈cj x,q.one=true:=Lg (by rw[uF];rfl)
def qh7:Pg.cellsOf 122=6:=by kernel_rfl
def qiU(x:ez):cO Pg 122 (cj x)=O (.agg (cj x)):=qdB (RJ x) qh7 (by kernel_rfl)
def qgs(x:ez)(r:V U):cO Pg 122 ((qeF x)++r)=O (.agg (cj x)):=qgo (uF x) (RJ x) qh7 (by kernel_rfl)
def Of(x:ez):qc 122 (cj x) 0 0/\qd 9 (cj x) 0 (.str x.Name):=ry (by rw[uF];kernel_rfl)
def yH(x:ez):qc 122 (cj x) 1 1/\qd 113 (cj x) 1 (sl cN x.Vars):=ry (by rw[uF];kernel_rfl)
def MO(x:ez):qc 122 (cj x) 2 2/\qd 59 (cj x) 2 (.agg (af x.Body)):=ry (by rw[uF,cH];kernel_rfl)
structure am where
 Datas:(List ei)
 Classes:(List dy)
 Instances:(List bw)
 Measures:(List bj)
 Quals:(List ez)
 Defs:(List ba)
def au(x:am):V U:=[sl bP x.Datas,sl eL x.Classes,sl cu x.Instances,sl aO x.Measures,sl cj x.Quals,sl aL x.Defs]
def pu(x:am):au x=[sl bP x.Datas,sl eL x.Classes,sl cu x.Instances,sl aO x.Measures,sl cj x.Quals,sl aL x.Defs]:=rfl
def jI(x:am):ie 0 (au x):=by unfold au;exact K0l.h
instance iZ2:KE au:=⟨jI⟩
instance qzh{x:am}:K0l (au x):=⟨jI x⟩
def S9(x:am):(au x).length=6:=by rw[pu];rfl
def ew(x:am):bF (.agg (au x))=O (au x):=rfl
abbrev XX(x:am):V U:=[sl bP x.Datas,sl eL x.Classes,sl cu x.Instances,sl aO x.Measures,sl cj x.Quals,sl aL x.Defs]
def qb7(x:am):bF (.agg (au x))=O (XX x):=m4 O (pu x)
def qqn:Pg.cellsOf 29=6:=by kernel_rfl
def bM(x:am):cO Pg 29 (au x)=O (.agg (au x)):=qdB (S9 x) qqn (by kernel_rfl)
def kO(x:am)(r:V U):cO Pg 29 ((XX x)++r)=O (.agg (au x)):=qgo (pu x) (S9 x) qqn (by kernel_rfl)
def Zi(a:V ei):dF Pg 29 [(0,sl bP a)]=O (.agg (au (⟨a,[],[],[],[],[]⟩:am))):=by kernel_rfl
def Ze(a:V ei):Db Pg 29 [(0,sl bP a)] [(1,164),(2,167),(3,120),(4,122),(5,65)]:=by exact⟨[sl bP a,.val fe,.val fe,.val fe,.val fe,.val fe],by kernel_rfl,(aI rfl (aI rfl (aI rfl (aI rfl (aI rfl hV)))))⟩
def Zj(a:V bj):dF Pg 29 [(3,sl aO a)]=O (.agg (au (⟨[],[],[],a,[],[]⟩:am))):=by kernel_rfl
def Zf(a:V bj):Db Pg 29 [(3,sl aO a)] [(0,116),(1,164),(2,167),(4,122),(5,65)]:=by exact⟨[.val fe,.val fe,.val fe,sl aO a,.val fe,.val fe],by kernel_rfl,(aI rfl (aI rfl (aI rfl (aI rfl (aI rfl hV)))))⟩
def Zk(a:V ez):dF Pg 29 [(4,sl cj a)]=O (.agg (au (⟨[],[],[],[],a,[]⟩:am))):=by kernel_rfl
def Zg(a:V ez):Db Pg 29 [(4,sl cj a)] [(0,116),(1,164),(2,167),(3,120),(5,65)]:=by exact⟨[.val fe,.val fe,.val fe,.val fe,sl cj a,.val fe],by kernel_rfl,(aI rfl (aI rfl (aI rfl (aI rfl (aI rfl hV)))))⟩
def AM(a:V ba):dF Pg 29 [(5,sl aL a)]=O (.agg (au (⟨[],[],[],[],[],a⟩:am))):=by kernel_rfl
def AL(a:V ba):Db Pg 29 [(5,sl aL a)] [(0,116),(1,164),(2,167),(3,120),(4,122)]:=by exact⟨[.val fe,.val fe,.val fe,.val fe,.val fe,sl aL a],by kernel_rfl,(aI rfl (aI rfl (aI rfl (aI rfl (aI rfl hV)))))⟩
def kH(x:am):qc 29 (au x) 0 0/\qd 22 (au x) 0 (sl bP x.Datas):=ry (by kernel_rfl)
def KY(x:am):qc 29 (au x) 1 1/\qd 23 (au x) 1 (sl eL x.Classes):=ry (by kernel_rfl)
def KZ(x:am):qc 29 (au x) 2 2/\qd 24 (au x) 2 (sl cu x.Instances):=ry (by kernel_rfl)
def kI(x:am):qc 29 (au x) 3 3/\qd 25 (au x) 3 (sl aO x.Measures):=ry (by kernel_rfl)
def kJ(x:am):qc 29 (au x) 4 4/\qd 26 (au x) 4 (sl cj x.Quals):=ry (by kernel_rfl)
def ck(x:am):qc 29 (au x) 5 5/\qd 27 (au x) 5 (sl aL x.Defs):=ry (by kernel_rfl)
structure aH where
 level:Int
 left:Int
 right:Int
 sign:aa
deriving DecidableEq
def fq(x:aH):V U:=[.i6 x.level,.i6 x.left,.i6 x.right,.str x.sign]
def Gc(x:aH):fq x=[.i6 x.level,.i6 x.left,.i6 x.right,.str x.sign]:=rfl
def Rp(x:aH):ie 0 (fq x):=by unfold fq;exact K0l.h
instance iZ3:KE fq:=⟨Rp⟩
instance qyL{x:aH}:K0l (fq x):=⟨Rp x⟩
abbrev I9(x:aH):V U:=[.i6 x.level,.i6 x.left,.i6 x.right,.str x.sign]
def cy(x:aH):bF (.agg (fq x))=O (I9 x):=m4 O (Gc x)
def dm(x:aH):PVal.agg (I9 x)=.agg (fq x):=m4 PVal.agg (Gc x).symm
def NU:dF Pg 254 []=O (.agg (fq (⟨0,0,0,[]⟩:aH))):=by kernel_rfl
def bQ(a b c:Int)(d:aa):dF Pg 254 [(0,.i6 a),(1,.i6 b),(2,.i6 c),(3,.str d)]=O (.agg (fq (⟨a,b,c,d⟩:aH))):=by kernel_rfl
structure av where
 n:Bool
 name:Bool
 least:Int
 most:Int
 params:Bool
 alts:Bool
 typesLeast:Int
 typesMost:Int
 types:Bool
deriving DecidableEq
def aK(x:av):V U:=[.bool x.n,.bool x.name,.i6 x.least,.i6 x.most,.bool x.params,.bool x.alts,.i6 x.typesLeast,.i6 x.typesMost,.bool x.types]
def sD(x:av):aK x=[.bool x.n,.bool x.name,.i6 x.least,.i6 x.most,.bool x.params,.bool x.alts,.i6 x.typesLeast,.i6 x.typesMost,.bool x.types]:=rfl
def TM(x:av):ie 0 (aK x):=by unfold aK;exact K0l.h
instance iZ4:KE aK:=⟨TM⟩
instance qyU{x:av}:K0l (aK x):=⟨TM x⟩
def RF(x:av):(aK x).length=9:=by rw[sD];rfl
def Jj(x:av):bF (.agg (aK x))=O (aK x):=rfl
abbrev BZ(x:av):V U:=[.bool x.n,.bool x.name,.i6 x.least,.i6 x.most,.bool x.params,.bool x.alts,.i6 x.typesLeast,.i6 x.typesMost,.bool x.types]
def cQ(x:av):bF (.agg (aK x))=O (BZ x):=m4 O (sD x)
def qqk:Pg.cellsOf 237=9:=by kernel_rfl
def Gp(x:av)(r:V U):cO Pg 237 ((BZ x)++r)=O (.agg (aK x)):=qgo (sD x) (RF x) qqk (by kernel_rfl)
def dg(x:av):PVal.agg (BZ x)=.agg (aK x):=m4 PVal.agg (sD x).symm
def PB:dF Pg 237 []=O (.agg (aK (⟨Z,Z,0,0,Z,Z,0,0,Z⟩:av))):=by kernel_rfl
def Pz(a:K):dF Pg 237 [(0,.bool a)]=O (.agg (aK (⟨a,Z,0,0,Z,Z,0,0,Z⟩:av))):=by kernel_rfl
def JB(a:K)(b c:Int):dF Pg 237 [(1,.bool a),(2,.i6 b),(3,.i6 c)]=O (.agg (aK (⟨Z,a,b,c,Z,Z,0,0,Z⟩:av))):=by kernel_rfl
def qz(a:K)(b c:Int)(e:K)(d:Int):dF Pg 237 [(1,.bool a),(2,.i6 b),(3,.i6 c),(8,.bool e),(7,.i6 d)]=O (.agg (aK (⟨Z,a,b,c,Z,Z,0,d,e⟩:av))):=by kernel_rfl
def FW(a:K)(b:Int)(d:K)(c:Int):dF Pg 237 [(1,.bool a),(3,.i6 b),(8,.bool d),(7,.i6 c)]=O (.agg (aK (⟨Z,a,0,b,Z,Z,0,c,d⟩:av))):=by kernel_rfl
def PA(a:K):dF Pg 237 [(1,.bool a)]=O (.agg (aK (⟨Z,a,0,0,Z,Z,0,0,Z⟩:av))):=by kernel_rfl
def qP(a b:Int):dF Pg 237 [(2,.i6 a),(3,.i6 b)]=O (.agg (aK (⟨Z,Z,a,b,Z,Z,0,0,Z⟩:av))):=by kernel_rfl
def CZ(a b:Int)(e:K)(c d:Int):dF Pg 237 [(2,.i6 a),(3,.i6 b),(8,.bool e),(6,.i6 c),(7,.i6 d)]=O (.agg (aK (⟨Z,Z,a,b,Z,Z,c,d,e⟩:av))):=by kernel_rfl
def JD(c:K)(a b:Int):dF Pg 237 [(4,.bool c),(2,.i6 a),(3,.i6 b)]=O (.agg (aK (⟨Z,Z,a,b,c,Z,0,0,Z⟩:av))):=by kernel_rfl
def JE(c:K)(a b:Int):dF Pg 237 [(5,.bool c),(2,.i6 a),(3,.i6 b)]=O (.agg (aK (⟨Z,Z,a,b,Z,c,0,0,Z⟩:av))):=by kernel_rfl
def C3(x:av):qc 237 (aK x) 1 1/\qd 4 (aK x) 1 (.bool x.name):=ry (by kernel_rfl)
def C4(x:av):qc 237 (aK x) 2 2/\qd 3 (aK x) 2 (.i6 x.least):=ry (by kernel_rfl)
def C5(x:av):qc 237 (aK x) 3 3/\qd 3 (aK x) 3 (.i6 x.most):=ry (by kernel_rfl)
def C6(x:av):qc 237 (aK x) 4 4/\qd 4 (aK x) 4 (.bool x.params):=ry (by kernel_rfl)
def qA(x:av):qc 237 (aK x) 5 5/\qd 4 (aK x) 5 (.bool x.alts):=ry (by kernel_rfl)
def C7(x:av):qc 237 (aK x) 6 6/\qd 3 (aK x) 6 (.i6 x.typesLeast):=ry (by kernel_rfl)
def C8(x:av):qc 237 (aK x) 7 7/\qd 3 (aK x) 7 (.i6 x.typesMost):=ry (by kernel_rfl)
structure aM where
 n:Bool
 name:Bool
 least:Int
 most:Int
 params:Bool
 alts:Bool
 types:Bool
 exactly:Bool
 ok:Bool
deriving DecidableEq
def qj5:Ku Pg 22 116 bP:=qcr underlying22 RG qh5 (by kernel_rfl) qgE Vc
def qrg:Ku Pg 23 164 eL:=qcr underlying23 Ol qh9 (by kernel_rfl) qdP Rq
def qrh:Ku Pg 24 167 cu:=qcr underlying24 E5 qia (by kernel_rfl) Xq HL
def qj6:Ku Pg 25 120 aO:=qcr underlying25 H1 qh6 (by kernel_rfl) Z3 KI
def qj7:Ku Pg 26 122 cj:=qcr underlying26 RJ qh7 (by kernel_rfl) qgI Vd
def ta:Ku Pg 27 65 aL:=qcr underlying27 VP qnJ (by kernel_rfl) qjp DK
def qnK:Pg.cellsOf 9=1:=by kernel_rfl
def cT:Ku Pg 32 9 cS:=⟨underlying32,λ_=>qnK.symm,by kernel_rfl,by rw[qnK];decide,by kernel_rfl,vb1 (by kernel_rfl),quw,J3⟩
def iQ:Ku Pg 45 50 al:=qcr underlying45 RH qnG (by kernel_rfl) qgF yC
def CA:Ku Pg 46 185 aU:=qcr underlying46 Om qib (by kernel_rfl) qdQ wW
def kn:Ku Pg 47 124 bz:=qcr underlying47 VN qh8 (by kernel_rfl) qjn HK
def ff:Ku Pg 48 61 aj:=qcr underlying48 RM qnI (by kernel_rfl) qgJ pp
def qlZ:Ku Pg 52 223 bS:=qcr underlying52 qgn qqi (by kernel_rfl) qgG KK
def ql0:Ku Pg 53 194 eP:=qcr underlying53 qiP qqg (by kernel_rfl) qjm Ul
def qoA:Ku Pg 54 197 bT:=qcr underlying54 VO qmm (by kernel_rfl) qdO F2
def je:Ku Pg 57 59 af:=qcr underlying57 RI qnH (by kernel_rfl) qgH dn
def qrD:Pg.cellsOf 5=1:=by kernel_rfl
def qj2:Ku Pg 104 5 (cI .u8):=⟨underlying104,λ_=>qrD.symm,by kernel_rfl,by rw[qrD];decide,by kernel_rfl,vb1 (by kernel_rfl),(quv .u8),(qvk .u8)⟩
def WA:Ku Pg 113 212 cN:=qcr underlying113 qiQ qqh (by kernel_rfl) qjq qez
def qj3:Ku Pg 114 207 iN:=qcr underlying114 qbH qmn (by kernel_rfl) qjo qey
def qj4:Ku Pg 118 211 fj:=qcr underlying118 Yi qmo (by kernel_rfl) qgD qa4
def bG(l:V aa)(n:Nat)(a:(Y (l.length=n)&&Y (n * 1<=16777216))=T):gu Pg 32 n ((l.map PVal.str).zipIdx 0|>.map λx=>(x.2,x.1))=O (sl cS l):=cT.mk' (v:=PVal.str) qon l n (by rw[qnK];exact a)
def qfn:(Pg.underlying 113).any NG=true:=by kernel_rfl
def qoB:(Pg.underlying 32).any NG=true:=by kernel_rfl
def qvH:(Pg.underlying 4).any NG=true:=by kernel_rfl
def qri:(Pg.underlying 45).any NG=true:=by kernel_rfl
def qoC:(Pg.underlying 48).any NG=true:=by kernel_rfl
def qoD:(Pg.underlying 52).any NG=true:=by kernel_rfl
def OR:(Pg.underlying 9).any NG=true:=by kernel_rfl
def qw9:LA Pg 3=O ((PVal.int .i64) 0):=by kernel_rfl
def qo6:LA Pg 4=O (PVal.bool Z):=by kernel_rfl
def qwQ:eR Pg 3=O [.i6 0]:=by kernel_rfl
def qjV:eR Pg 29=O [sl bP ([]:V ei),sl eL ([]:V dy),sl cu ([]:V bw),sl aO ([]:V bj),sl cj ([]:V ez),sl aL ([]:V ba)]:=by kernel_rfl
def quA:eR Pg 32=O [sl cS ([]:V aa)]:=by kernel_rfl
def qaq:eR Pg 50=O [.i6 0,.str ([]:aa),.i6 0,sl al ([]:V ah),sl aU ([]:V aY),sl bz ([]:V bH),sl aj ([]:V ai)]:=by kernel_rfl
def qd7:eR Pg 59=O [.i6 0,.str ([]:aa),.i6 0,sl af ([]:V ag)]:=by kernel_rfl
def qhb:eR Pg 61=O [.i6 0,.str ([]:aa),sl aj ([]:V ai),sl cS ([]:V aa),.i6 0,.str ([]:aa),.i6 0,sl af ([]:V ag),sl af ([]:V ag)]:=by kernel_rfl
def quB:eR Pg 63=O [sl cS ([]:V aa),sl bS ([]:V dZ),sl eP ([]:V ku),sl bT ([]:V cY),.i6 0,.str ([]:aa),sl aj ([]:V ai),sl cS ([]:V aa),.i6 0,.str ([]:aa),.i6 0,sl af ([]:V ag),sl af ([]:V ag),sl af ([]:V ag)]:=by kernel_rfl
def Dl:eR Pg 65=O [.str ([]:aa),sl cS ([]:V aa),.i6 0,.str ([]:aa),.i6 0,sl al ([]:V ah),sl aU ([]:V aY),sl bz ([]:V bH),sl aj ([]:V ai),.i6 0,.bool Z,sl cS ([]:V aa),sl bS ([]:V dZ),sl eP ([]:V ku),sl bT ([]:V cY),.i6 0,.str ([]:aa),sl aj ([]:V ai),sl cS ([]:V aa),.i6 0,.str ([]:aa),.i6 0,sl af ([]:V ag),sl af ([]:V ag),sl af ([]:V ag)]:=by kernel_rfl
def quC:eR Pg 91=O [.i6 0]:=by kernel_rfl
def qrc:eR Pg 94=O [.val (.pointer N)]:=by kernel_rfl
def quD:eR Pg 96=O [.val .nilFunc]:=by kernel_rfl
def qq1:eR Pg 106=O [.val (.pointer N),sl (cI .u8) ([]:V Int)]:=by kernel_rfl
def qq2:eR Pg 116=O [.str ([]:aa),sl cS ([]:V aa),sl cN ([]:V wv),sl iN ([]:V QX)]:=by kernel_rfl
def qq3:eR Pg 120=O [.str ([]:aa),.str ([]:aa),.str ([]:aa),sl fj ([]:V EM),.i6 0,.str ([]:aa),.i6 0,sl af ([]:V ag)]:=by kernel_rfl
def qq4:eR Pg 122=O [.str ([]:aa),sl cN ([]:V wv),.i6 0,.str ([]:aa),.i6 0,sl af ([]:V ag)]:=by kernel_rfl
def NF:eR Pg 124=O [.str ([]:aa),sl cS ([]:V aa),.i6 0,.str ([]:aa),.i6 0,sl al ([]:V ah),sl aU ([]:V aY),sl bz ([]:V bH),sl aj ([]:V ai)]:=by kernel_rfl
def qq5:eR Pg 164=O [.str ([]:aa),.str ([]:aa),sl tB ([]:V QY)]:=by kernel_rfl
def qq6:eR Pg 167=O [.str ([]:aa),.i6 0,.str ([]:aa),sl aj ([]:V ai),sl cS ([]:V aa),.i6 0,.str ([]:aa),.i6 0,sl af ([]:V ag),sl af ([]:V ag),sl bS ([]:V dZ),sl aL ([]:V ba)]:=by kernel_rfl
def qfi:eR Pg 185=O [.str ([]:aa),.i6 0,.str ([]:aa),sl aj ([]:V ai),sl cS ([]:V aa),.i6 0,.str ([]:aa),.i6 0,sl af ([]:V ag),sl af ([]:V ag)]:=by kernel_rfl
def qq7:eR Pg 197=O [.str ([]:aa),sl cN ([]:V wv),.i6 0,.str ([]:aa),.i6 0,sl af ([]:V ag),.i6 0,.str ([]:aa),.i6 0,sl af ([]:V ag)]:=by kernel_rfl
def qq8:eR Pg 207=O [.str ([]:aa),sl cS ([]:V aa),sl aj ([]:V ai)]:=by kernel_rfl
def qq9:eR Pg 211=O [.str ([]:aa),sl cS ([]:V aa),.i6 0,.str ([]:aa),.i6 0,sl af ([]:V ag)]:=by kernel_rfl
def qmL:eR Pg 237=O [.bool Z,.bool Z,.i6 0,.i6 0,.bool Z,.bool Z,.i6 0,.i6 0,.bool Z]:=by kernel_rfl
def qra:eR Pg 248=O [.val .nilFunc]:=by kernel_rfl
def qrb:eR Pg 251=O [.val .nilFunc]:=by kernel_rfl
def qjU:eR Pg 254=O [.i6 0,.i6 0,.i6 0,.str ([]:aa)]:=by kernel_rfl
def kR:V aa:=[([]:aa),([]:aa),([]:aa),([]:aa),([]:aa),([]:aa),([]:aa),([]:aa),([]:aa),([]:aa),([43]:aa),([45]:aa),([42]:aa),([100,105,118]:aa),([109,111,100]:aa),([]:aa),([61,61]:aa),([60]:aa),([60,61]:aa),([38,38]:aa),([124,124]:aa)]
def qqj:Pg.cellsOf 231=21:=by kernel_rfl
def Ls{k:IntKind}{i:Int}{x:aa}(h:cJ kR i=O x):nn Pg 231 (.eptr (kR.map PVal.str)) (.int k i)=O (.eptr ((kR.map PVal.str).drop i.toNat)):=qpK underlying231 qnK (by kernel_rfl) (by kernel_rfl) h
def Lt{i:Int}{x:aa}(h:cJ kR i=O x):cO Pg 9 ((kR.map PVal.str).drop i.toNat)=O (PVal.str x):=qpM (by kernel_rfl) h
def ee:V aa:=[([97,110,100]:aa),([97,115,115,117,109,101]:aa),([98,111,111,108]:aa),([98,111,117,110,100]:aa),([99,97,115,101]:aa),([99,101,108,108]:aa),([99,108,97,115,115]:aa),([100,97,116,97]:aa),([100,101,102]:aa),([100,105,118]:aa),([101,108,115,101]:aa),([101,110,100]:aa),([102,97,108,115,101]:aa),([102,111,114,97,108,108]:aa),([102,117,110]:aa),([103,101,116]:aa),([105,102]:aa),([105,110]:aa),([105,110,115,116]:aa),([105,110,116]:aa),([105,110,118,97,114,105,97,110,116]:aa),([108,101,116]:aa),([109,97,116,99,104]:aa),([109,101,97,115,117,114,101]:aa),([109,101,116,114,105,99]:aa),([109,111,100]:aa),([109,117]:aa),([110,101,119]:aa),([110,111,116]:aa),([111,102]:aa),([111,114]:aa),([113,117,97,108]:aa),([114,101,102,108,101,99,116]:aa),([115,101,116]:aa),([116,104,101,110]:aa),([116,114,117,101]:aa),([117,115,101]:aa),([118]:aa),([118,97,108]:aa),([116,97,103]:aa),([119,104,101,114,101]:aa),([119,105,116,104]:aa)]
def qql:Pg.cellsOf 257=42:=by kernel_rfl
def Qg:cO Pg 257 (ee.map PVal.str)=O (.agg (ee.map PVal.str)):=by kernel_rfl
def Qf{k:IntKind}{i:Int}{x:aa}(h:cJ ee i=O x):Ia Pg 257 (.agg (ee.map PVal.str)) (.int k i)=O (PVal.str x):=qpL underlying257 qnK (by kernel_rfl) (by kernel_rfl) (by kernel_rfl) h
def nJ:V Int:=[1,10,100,1000,10000,100000,1000000,10000000,100000000,1000000000,10000000000,100000000000,1000000000000,10000000000000,100000000000000,1000000000000000,10000000000000000,100000000000000000,1000000000000000000,10000000000000000000]
def qqm:Pg.cellsOf 287=20:=by kernel_rfl
def qqf:Pg.cellsOf 152=1:=by kernel_rfl
def Gq:V Int:=[0,1,28,2,29,14,24,3,30,22,20,15,25,17,4,8,31,27,13,23,21,19,16,7,26,12,18,6,11,5,10,9]
def qqo:Pg.cellsOf 293=32:=by kernel_rfl
def Gr:V Int:=[0,1,56,2,57,49,28,3,61,58,42,50,38,29,17,4,62,47,59,36,45,43,51,22,53,39,33,30,24,18,12,5,63,55,48,27,60,41,37,16,46,35,44,21,52,32,23,11,54,26,40,15,34,20,31,10,25,14,19,9,13,8,7,6]
def qqp:Pg.cellsOf 294=64:=by kernel_rfl
def qcF:aa:=[100,101,102,32]
def Rb:aa:=[114,101,102,108,101,99,116,32]
def Tt:aa:=[97,115,115,117,109,101,32]
def wk:aa:=[32,40]
def dI:aa:=[44,32]
def jA:aa:=[41]
def d7:aa:=[32,58,32]
def qcG:aa:=[102,111,114,97,108,108]
def lM:aa:=[32]
def LN:aa:=[46,32]
def WR:aa:=[119,104,101,114,101,32]
def Tp:aa:=[60]
def qkl:aa:=[73,110,116]
def qem:aa:=[66,111,111,108]
def qen:aa:=[67,101,108,108]
def Tq:aa:=[62,46,32]
def WQ:aa:=[98,111,117,110,100,32]
def quR:aa:=[118]
def qcD:aa:=[41,32]
def I2:aa:=[116,114,117,101]
def za:aa:=[60,61,62]
def LO:aa:=[61,62]
def Hp:aa:=[124,124]
def Hn:aa:=[38,38]
def qcE:aa:=[61]
def CY:aa:=[33,61]
def Ho:aa:=[60,61]
def YV:aa:=[43]
def ER:aa:=[45]
def YU:aa:=[42]
def lj:aa:=[40]
def Ts:aa:=[63]
def Tn:aa:=[33]
def EP:aa:=[32,45,62,32,40]
def To:aa:=[41,46,32]
def qb:aa:=[32,45,62,32]
def sM:aa:=[123,118,32,58,32]
def Q5:aa:=[32,60]
def YZ:aa:=[118,46,32]
def qfw:aa:=[62]
def pd:aa:=[41,32,45,62,32]
def y8:aa:=[32,124,32]
def qkn:aa:=[125]
def LL:aa:=[32,109,101,116,114,105,99,32]
def mX:aa:=[32,61,32]
def qmT:aa:=[91]
def qmU:aa:=[93]
def Tu:aa:=[102,117,110,32,40]
def qcH:aa:=[108,101,116,32]
def I1:aa:=[32,105,110,32]
def qfx:aa:=[105,102,32]
def Q8:aa:=[32,116,104,101,110,32]
def Q7:aa:=[32,101,108,115,101,32]
def YW:aa:=[99,97,115,101,32]
def Hm:aa:=[32,111,102,32,123,32]
def Q9:aa:=[59,32]
def Q6:aa:=[32,125]
def qcI:aa:=[117,115,101,32]
def qmW:aa:=[110,101,119]
def qmV:aa:=[103,101,116]
def qmX:aa:=[115,101,116]
def XG:aa:=[10]
def YX:aa:=[100,97,116,97,32]
def sL:aa:=[59,10]
def Ra:aa:=[109,101,97,115,117,114,101,32]
def Tm:aa:=[32,123,32]
def EQ:aa:=[32,105,110,118,97,114,105,97,110,116,32]
def YY:aa:=[113,117,97,108,32]
def LM:aa:=[41,32,58,32]
def GE:V (Nat×V U):=[(0,kR.map PVal.str),(1,ee.map PVal.str),(2,nJ.map (PVal.int .u64)),(4,Gq.map (PVal.int .u8)),(5,Gr.map (PVal.int .u8))]
abbrev OV(f:FuncId)(a:V U){R:Type}(o:Q R)(b:R->U)(c:V (Nat×G)):Prop:=qpf Pg GE f a o b c
abbrev OG(f:FuncId)(a:V U)(d:V ((Nat×Nat)×G))(H:V ay){R:Type}(o:Q R)(b:R->U)(e:V (Nat×G))(c:R->V ay):Prop:=qrv Pg GE f a d H o b e c
abbrev ON(f:FuncId)(a:V U){R:Type}(o:Q R)(b:R->U)(d:V (Nat×G))(c:R->V ay):Prop:=quU Pg GE f a o b d c
abbrev OJ(m:Nat)(c:W){X:Type}(o:Q X)(e:Exit)(a:X->az)(b:az):Prop:=qrw Pg GE m c o e a b
abbrev OU(m:Nat)(c:W){X:Type}(o:Q X)(e:Exit)(u:X->V (Nat×U))(a:az):Prop:=qrw Pg GE m c o e (λx=>qwV a (u x)) a
abbrev OK(m:Nat)(c:W){X:Type}(o:Q X)(a:X->Exit)(b:X->az)(d:az):Prop:=qrL Pg GE m c o a b d
abbrev OL(m:Nat)(c:W){σ X:Type}(o:Q (σ⊕X))(S:σ->az)(a:X->Exit)(b:X->az)(d:az):Prop:=qpe Pg GE m c o S a b d
abbrev waA:=V aa
abbrev md:=V ai
abbrev m6:=V ag
abbrev waD:=V ah
abbrev rf:=V bH
abbrev waF:=V aY
abbrev waG:=V ba
abbrev waH:=V dZ
abbrev waI:=V cY
abbrev waJ:=V ku
abbrev wbA:=V wv
def ZQ:∀n,(∀l,Sh Pg n 212 l->∃x,l=cN x):=by intro n;induction n using Nat.strongRecOn with| ind n ih =>cases n with|zero=>exact λl h=>h.elim| succ n =>exact λl h=>by unfold Sh at h;rw[underlying212]at h;obtain⟨e,m,rfl,_,a,i,o,rfl,_,b,rfl⟩:=h;obtain⟨c,rfl⟩:=(sU underlying9) n _ a;obtain⟨d,rfl⟩:=(sU underlying117) n _ b;exact⟨(⟨c,d⟩:wv),by rw[Zz];rfl⟩
def yJ:∀n,(∀l,Sh Pg n 59 l->∃x,l=af x):=by intro n;induction n using Nat.strongRecOn with| ind n ih =>cases n with|zero=>exact λl h=>h.elim| succ n =>exact λl h=>by unfold Sh at h;rw[underlying59]at h;obtain⟨r,y,rfl,_,a,s,z,rfl,_,b,t,A,rfl,_,d,w,B,rfl,_,e,rfl⟩:=h;obtain⟨i,rfl⟩:=(qge underlying56) n _ a;obtain⟨o,rfl⟩:=(sU underlying9) n _ b;obtain⟨p,rfl⟩:=(qge underlying3) n _ d;obtain⟨q,rfl⟩:=qbv underlying57 (c:=af) (λm E=>(ih m (by omega))) _ e;exact⟨(⟨i,o,p,q⟩:ag),by rw[cH];rfl⟩
def Gi:∀n,(∀l,Sh Pg n 61 l->∃x,l=aj x):=by intro n;induction n using Nat.strongRecOn with| ind n ih =>cases n with|zero=>exact λl h=>h.elim| succ n =>exact λl h=>by unfold Sh at h;rw[underlying61]at h;obtain⟨y,H,rfl,_,a,z,L,rfl,_,b,A,P,rfl,_,d,B,R,rfl,_,e,E,S,rfl,_,i,F,X,rfl,_,o,rfl⟩:=h;obtain⟨p,rfl⟩:=(qge underlying55) n _ a;obtain⟨q,rfl⟩:=(sU underlying9) n _ b;obtain⟨r,rfl⟩:=qbv underlying48 (c:=aj) (λm hm=>(ih m (by omega))) _ d;obtain⟨s,rfl⟩:=(uJ underlying32 (sU underlying9)) n _ e;obtain⟨t,rfl⟩:=yJ n _ i;obtain⟨w,rfl⟩:=(uJ underlying57 yJ) n _ o;exact⟨(⟨p,q,r,s,t,w⟩:ai),by rw[dW];(try simp only[cH]);rfl⟩
def qlk:∀n,(∀l,Sh Pg n 207 l->∃x,l=iN x):=by intro n;induction n using Nat.strongRecOn with| ind n ih =>cases n with|zero=>exact λl h=>h.elim| succ n =>exact λl h=>by unfold Sh at h;rw[underlying207]at h;obtain⟨m,q,rfl,_,a,o,r,rfl,_,b,p,s,rfl,_,c,rfl⟩:=h;obtain⟨d,rfl⟩:=(sU underlying9) n _ a;obtain⟨e,rfl⟩:=(uJ underlying32 (sU underlying9)) n _ b;obtain⟨i,rfl⟩:=(uJ underlying48 Gi) n _ c;exact⟨(⟨d,e,i⟩:QX),by rw[Up];rfl⟩
def qiB:∀n,(∀l,Sh Pg n 116 l->∃x,l=bP x):=by intro n;induction n using Nat.strongRecOn with| ind n ih =>cases n with|zero=>exact λl h=>h.elim| succ n =>exact λl h=>by unfold Sh at h;rw[underlying116]at h;obtain⟨p,t,rfl,_,a,q,w,rfl,_,b,r,y,rfl,_,c,s,z,rfl,_,d,rfl⟩:=h;obtain⟨e,rfl⟩:=(sU underlying9) n _ a;obtain⟨i,rfl⟩:=(uJ underlying32 (sU underlying9)) n _ b;obtain⟨m,rfl⟩:=(uJ underlying113 ZQ) n _ c;obtain⟨o,rfl⟩:=(uJ underlying114 qlk) n _ d;exact⟨(⟨e,i,m,o⟩:ei),by rw[KX];rfl⟩
def qdx:∀n,(∀l,Sh Pg n 208 l->∃x,l=tB x):=by intro n;induction n using Nat.strongRecOn with| ind n ih =>cases n with|zero=>exact λl h=>h.elim| succ n =>exact λl h=>by unfold Sh at h;rw[underlying208]at h;obtain⟨e,m,rfl,_,a,i,o,rfl,_,b,rfl⟩:=h;obtain⟨c,rfl⟩:=(sU underlying9) n _ a;obtain⟨d,rfl⟩:=Gi n _ b;exact⟨(⟨c,d⟩:QY),by rw[qdn];(try simp only[dW]);(try simp only[cH]);rfl⟩
def qgh:∀n,(∀l,Sh Pg n 164 l->∃x,l=eL x):=by intro n;induction n using Nat.strongRecOn with| ind n ih =>cases n with|zero=>exact λl h=>h.elim| succ n =>exact λl h=>by unfold Sh at h;rw[underlying164]at h;obtain⟨m,q,rfl,_,a,o,r,rfl,_,b,p,s,rfl,_,c,rfl⟩:=h;obtain⟨d,rfl⟩:=(sU underlying9) n _ a;obtain⟨e,rfl⟩:=(sU underlying9) n _ b;obtain⟨i,rfl⟩:=(uJ underlying162 qdx) n _ c;exact⟨(⟨d,e,i⟩:dy),by rw[Ge];rfl⟩
def qbx:∀n,(∀l,Sh Pg n 223 l->∃x,l=bS x):=by intro n;induction n using Nat.strongRecOn with| ind n ih =>cases n with|zero=>exact λl h=>h.elim| succ n =>exact λl h=>by unfold Sh at h;rw[underlying223]at h;obtain⟨e,m,rfl,_,a,i,o,rfl,_,b,rfl⟩:=h;obtain⟨c,rfl⟩:=(sU underlying9) n _ a;obtain⟨d,rfl⟩:=(sU underlying9) n _ b;exact⟨(⟨c,d⟩:dZ),by rw[Vp];rfl⟩
def qgi:∀n,(∀l,Sh Pg n 185 l->∃x,l=aU x):=by intro n;induction n using Nat.strongRecOn with| ind n ih =>cases n with|zero=>exact λl h=>h.elim| succ n =>exact λl h=>by unfold Sh at h;rw[underlying185]at h;obtain⟨e,m,rfl,_,a,i,o,rfl,_,b,rfl⟩:=h;obtain⟨c,rfl⟩:=(sU underlying9) n _ a;obtain⟨d,rfl⟩:=Gi n _ b;exact⟨(⟨c,d⟩:aY),by rw[tD];(try simp only[dW]);(try simp only[cH]);rfl⟩
def ZO:∀n,(∀l,Sh Pg n 50 l->∃x,l=al x)/\(∀l,Sh Pg n 124 l->∃x,l=bz x):=by
 intro n;induction n using Nat.strongRecOn with
 | ind n ih =>
  cases n with
  |zero=>exact⟨λl h=>h.elim,λl h=>h.elim⟩
  | succ n =>
   exact⟨(λl h=>by
    unfold Sh at h;rw[underlying50]at h;obtain⟨p,s,rfl,_,a,q,t,rfl,_,b,r,w,rfl,_,d,R,b3,rfl,_,y,S,b4,rfl,_,z,X,b5,rfl,_,A,a6,b6,rfl,_,B,rfl⟩:=h;obtain⟨e,rfl⟩:=(qge underlying44) n _ a;obtain⟨i,rfl⟩:=(sU underlying9) n _ b;obtain⟨o,rfl⟩:=(qge underlying3) n _ d;obtain⟨F,rfl⟩:=qbv underlying45 (c:=al) (λm E=>(ih m (by omega)).1) _ y;obtain⟨H,rfl⟩:=(uJ underlying46 qgi) n _ z;obtain⟨L,rfl⟩:=qbv underlying47 (c:=bz) (λm E=>(ih m (by omega)).2) _ A;obtain⟨P,rfl⟩:=(uJ underlying48 Gi) n _ B;exact⟨(⟨e,i,o,F,H,L,P⟩:ah),by rw[d9];rfl⟩),(λl h=>by
    unfold Sh at h;rw[underlying124]at h;obtain⟨p,s,rfl,_,a,q,t,rfl,_,b,r,w,rfl,_,d,rfl⟩:=h;obtain⟨e,rfl⟩:=(sU underlying9) n _ a;obtain⟨i,rfl⟩:=(uJ underlying32 (sU underlying9)) n _ b;obtain⟨o,rfl⟩:=(ih n (vcc n)).1 _ d;exact⟨(⟨e,i,o⟩:bH),by rw[D2];(try simp only[d9]);rfl⟩)⟩
def qiC:In Pg 50 al:=λn=>(ZO n).1
def qlj:∀n,(∀l,Sh Pg n 194 l->∃x,l=eP x):=by intro n;induction n using Nat.strongRecOn with| ind n ih =>cases n with|zero=>exact λl h=>h.elim| succ n =>exact λl h=>by unfold Sh at h;rw[underlying194]at h;obtain⟨e,m,rfl,_,a,i,o,rfl,_,b,rfl⟩:=h;obtain⟨c,rfl⟩:=(sU underlying9) n _ a;obtain⟨d,rfl⟩:=(sU underlying117) n _ b;exact⟨(⟨c,d⟩:ku),by rw[Zy];rfl⟩
def qgg:∀n,(∀l,Sh Pg n 197 l->∃x,l=bT x):=by intro n;induction n using Nat.strongRecOn with| ind n ih =>cases n with|zero=>exact λl h=>h.elim| succ n =>exact λl h=>by unfold Sh at h;rw[underlying197]at h;obtain⟨p,t,rfl,_,a,q,w,rfl,_,b,r,y,rfl,_,c,s,z,rfl,_,d,rfl⟩:=h;obtain⟨e,rfl⟩:=(sU underlying9) n _ a;obtain⟨i,rfl⟩:=(uJ underlying113 ZQ) n _ b;obtain⟨m,rfl⟩:=yJ n _ c;obtain⟨o,rfl⟩:=yJ n _ d;exact⟨(⟨e,i,m,o⟩:cY),by rw[Gd];(try simp only[cH]);rfl⟩
def qll:∀n,(∀l,Sh Pg n 63 l->∃x,l=cr x):=by intro n;induction n using Nat.strongRecOn with| ind n ih =>cases n with|zero=>exact λl h=>h.elim| succ n =>exact λl h=>by unfold Sh at h;rw[underlying63]at h;obtain⟨t,E,rfl,_,a,w,F,rfl,_,b,y,H,rfl,_,c,z,L,rfl,_,d,A,P,rfl,_,e,B,R,rfl,_,i,rfl⟩:=h;obtain⟨m,rfl⟩:=(uJ underlying32 (sU underlying9)) n _ a;obtain⟨o,rfl⟩:=(uJ underlying52 qbx) n _ b;obtain⟨p,rfl⟩:=(uJ underlying53 qlj) n _ c;obtain⟨q,rfl⟩:=(uJ underlying54 qgg) n _ d;obtain⟨r,rfl⟩:=Gi n _ e;obtain⟨s,rfl⟩:=(uJ underlying57 yJ) n _ i;exact⟨(⟨m,o,p,q,r,s⟩:iu),by rw[nh];(try simp only[dW]);(try simp only[cH]);rfl⟩
def qeU:∀n,(∀l,Sh Pg n 65 l->∃x,l=aL x):=by intro n;induction n using Nat.strongRecOn with| ind n ih =>cases n with|zero=>exact λl h=>h.elim| succ n =>exact λl h=>by unfold Sh at h;rw[underlying65]at h;obtain⟨t,E,rfl,_,a,w,F,rfl,_,b,y,H,rfl,_,c,z,L,rfl,_,d,A,P,rfl,_,e,B,R,rfl,_,i,rfl⟩:=h;obtain⟨m,rfl⟩:=(sU underlying9) n _ a;obtain⟨o,rfl⟩:=(uJ underlying32 (sU underlying9)) n _ b;obtain⟨p,rfl⟩:=qiC n _ c;obtain⟨q,rfl⟩:=(qge underlying51) n _ d;obtain⟨r,rfl⟩:=(qua underlying4) n _ e;obtain⟨s,rfl⟩:=qll n _ i;exact⟨(⟨m,o,p,q,r,s⟩:ba),by rw[iF];(try simp only[d9]);(try simp only[nh]);(try simp only[dW]);(try simp only[cH]);rfl⟩
def ZP:∀n,(∀l,Sh Pg n 167 l->∃x,l=cu x):=by intro n;induction n using Nat.strongRecOn with| ind n ih =>cases n with|zero=>exact λl h=>h.elim| succ n =>exact λl h=>by unfold Sh at h;rw[underlying167]at h;obtain⟨p,t,rfl,_,a,q,w,rfl,_,b,r,y,rfl,_,c,s,z,rfl,_,d,rfl⟩:=h;obtain⟨e,rfl⟩:=(sU underlying9) n _ a;obtain⟨i,rfl⟩:=Gi n _ b;obtain⟨m,rfl⟩:=(uJ underlying52 qbx) n _ c;obtain⟨o,rfl⟩:=(uJ underlying27 qeU) n _ d;exact⟨(⟨e,i,m,o⟩:bw),by rw[qk];(try simp only[dW]);(try simp only[cH]);rfl⟩
def qiA:∀n,(∀l,Sh Pg n 211 l->∃x,l=fj x):=by intro n;induction n using Nat.strongRecOn with| ind n ih =>cases n with|zero=>exact λl h=>h.elim| succ n =>exact λl h=>by unfold Sh at h;rw[underlying211]at h;obtain⟨m,q,rfl,_,a,o,r,rfl,_,b,p,s,rfl,_,c,rfl⟩:=h;obtain⟨d,rfl⟩:=(sU underlying9) n _ a;obtain⟨e,rfl⟩:=(uJ underlying32 (sU underlying9)) n _ b;obtain⟨i,rfl⟩:=yJ n _ c;exact⟨(⟨d,e,i⟩:EM),by rw[KW];(try simp only[cH]);rfl⟩
def qbw:∀n,(∀l,Sh Pg n 120 l->∃x,l=aO x):=by intro n;induction n using Nat.strongRecOn with| ind n ih =>cases n with|zero=>exact λl h=>h.elim| succ n =>exact λl h=>by unfold Sh at h;rw[underlying120]at h;obtain⟨r,z,rfl,_,a,s,A,rfl,_,b,t,B,rfl,_,c,w,E,rfl,_,d,y,F,rfl,_,e,rfl⟩:=h;obtain⟨i,rfl⟩:=(sU underlying9) n _ a;obtain⟨m,rfl⟩:=(sU underlying9) n _ b;obtain⟨o,rfl⟩:=(sU underlying117) n _ c;obtain⟨p,rfl⟩:=(uJ underlying118 qiA) n _ d;obtain⟨q,rfl⟩:=yJ n _ e;exact⟨(⟨i,m,o,p,q⟩:bj),by rw[ii];(try simp only[cH]);rfl⟩
def qiD:∀n,(∀l,Sh Pg n 122 l->∃x,l=cj x):=by intro n;induction n using Nat.strongRecOn with| ind n ih =>cases n with|zero=>exact λl h=>h.elim| succ n =>exact λl h=>by unfold Sh at h;rw[underlying122]at h;obtain⟨m,q,rfl,_,a,o,r,rfl,_,b,p,s,rfl,_,c,rfl⟩:=h;obtain⟨d,rfl⟩:=(sU underlying9) n _ a;obtain⟨e,rfl⟩:=(uJ underlying113 ZQ) n _ b;obtain⟨i,rfl⟩:=yJ n _ c;exact⟨(⟨d,e,i⟩:ez),by rw[uF];(try simp only[cH]);rfl⟩
def qdy:∀n,(∀l,Sh Pg n 29 l->∃x,l=au x):=by intro n;induction n using Nat.strongRecOn with| ind n ih =>cases n with|zero=>exact λl h=>h.elim| succ n =>exact λl h=>by unfold Sh at h;rw[underlying29]at h;obtain⟨t,E,rfl,_,a,w,F,rfl,_,b,y,H,rfl,_,c,z,L,rfl,_,d,A,P,rfl,_,e,B,R,rfl,_,i,rfl⟩:=h;obtain⟨m,rfl⟩:=(uJ underlying22 qiB) n _ a;obtain⟨o,rfl⟩:=(uJ underlying23 qgh) n _ b;obtain⟨p,rfl⟩:=(uJ underlying24 ZP) n _ c;obtain⟨q,rfl⟩:=(uJ underlying25 qbw) n _ d;obtain⟨r,rfl⟩:=(uJ underlying26 qiD) n _ e;obtain⟨s,rfl⟩:=(uJ underlying27 qeU) n _ i;exact⟨(⟨m,o,p,q,r,s⟩:am),by rw[pu];rfl⟩
open Go
theorem ch{n:Int}(a: -9223372036854775808<=n)(b:n<9223372036854775808):dc n=n:=qoP a b
def aC{α:Type}(l:V α)(i:Nat)(h:i<l.length):cJ l (i:Int)=O l[i]:=by unfold cJ;rw[l7 (by omega)];simp[h]
def nI(l:aa)(i:Nat)(h:i<l.length):lO l (i:Int)=O (l[i].toNat:Int):=by unfold lO;rw[aC l i h];rfl
def tI(c:UInt8)(l:aa):lO (c::l) 0=O (c.toNat:Int):=by have:=nI (c::l) 0 (by simp);simpa using this
def fG{α:Type}(c:α)(l:V α):cJ (c::l) 0=O c:=by have:=aC (c::l) 0 (by simp);simpa using this
def qka{α:Type}(l:V α)(i:Nat)(h:i<=l.length):SB l N (O (i:Int))=O (l.take i):=by simp[SB,bd,h]
def CB{α:Type}(l:V α)(i:Nat)(h:i<=l.length):SB l (O (i:Int)) N=O (l.drop i):=by simp[SB,bd,h]
def gJ{α:Type}{l r:V α}(h:l.length+r.length<=1073741824):app l r=O (l++r):=l7 h
def tN{σ X:Type}{body:σ->Q (σ⊕X)}{s s':σ}(h:body s=O (.inl s')):loop body s=loop body s':=by rw[jh,h]
def gL{σ X:Type}{body:σ->Q (σ⊕X)}{s:σ}{x:X}(h:body s=O (.inr x)):loop body s=O x:=by rw[jh,h]
def wm{α σ X:Type}(f:Nat->α->σ->σ⊕X)(e:σ->X):List α->Nat->σ->X|[],_,s=>e s|x::r,i,s=>match f i x s with|.inl s'=>wm f e r (i+1) s'|.inr y=>y
def B8{α σ τ X:Type}(l:V α)(x:l.length<9223372036854775808)(mk:Int->σ->τ)(a:τ->Q (τ⊕X))(z:Nat->σ->Prop)(f:Nat->α->σ->σ⊕X)(e:σ->X)
  (m:∀(i:Nat)(h:i<l.length) s,z i s->a (mk i s)=O (match f i l[i] s with|.inl b=>.inl (mk (dc ((i:Int)+1)) b)|.inr y=>.inr y)/\∀b,f i l[i] s=.inl b->z (i+1) b)
  (c:∀s,z l.length s->a (mk l.length s)=O (.inr (e s))):∀(i:Nat)(s:σ),i<=l.length->z i s->loop a (mk i s)=O (wm f e (l.drop i) i s):=by
 intro i s t o
 obtain⟨k,w⟩:∃k,k+i=l.length:=⟨l.length - i,by omega⟩
 induction k generalizing i s with
 |zero=>
  have:i=l.length:=by omega
  subst this
  rw[jh,c s o,vbU]
  rfl
 | succ k ih =>
  have d:i<l.length:=by omega
  let⟨p,q⟩:=m i d s o
  rw[jh,p,vaN d]
  unfold wm
  cases r:f i l[i] s with
  |inl b=>
   simp only
   rw[ch (by omega) (by omega)]
   have:=ih (i+1) b (by omega) (q b r) (by omega)
   rw[show((i:Int)+1)=((i+1:Nat):Int) by omega]
   exact this
  |inr y=>rfl
def qcn{α X:Type}(p:α->K)(y e:X):∀(l:List α)(i:Nat),wm (λ_ x (_:Unit)=>if p x then Sum.inr y else .inl ()) (λ_=>e) l i ()=if l.any p then y else e
 |[],i=>by simp[wm]
 | x :: l,i => by
  have a:=qcn p y e l (i+1);unfold wm;by_cases h:p x=T;.simp[h]
  .simp only[h,if_false,a,List.any_cons,vcf,vaF]
def px{α X:Type}(l:V α)(m:l.length<9223372036854775808)(a:Int->Q (Int⊕X))(p:α->K)(y e:X)
  (c:∀(i:Nat)(h:i<l.length),a i=O (if p l[i] then .inr y else .inl (dc ((i:Int)+1)))) (b:a l.length=O (.inr e)) (i:Nat) (d:i<=l.length):
  loop a (i:Int)=O (if(l.drop i).any p then y else e):=by
 have:=B8 l m (λi (_:Unit)=>i) a (λ_ _=>True) (λ_ x _=>if p x then Sum.inr y else .inl ()) (λ_=>e) (λi h s _=>⟨?_,λ_ _=>trivial⟩) (λs _=>b) i () d hV
 .rw[this,qcn]
 .rw[c i h]
  by_cases o:p l[i]=T<;>simp[o]
def YJ{α X:Type}(p:α->K)(y:Nat->X)(e:X):∀(l:List α)(i:Nat),wm (λj x (_:Unit)=>if p x then Sum.inr (y j)else .inl ()) (λ_=>e) l i ()=match l.findIdx? p with|some j=>y (i+j)|none=>e
 |[],i=>by simp[wm]
 | x :: l,i => by
  have a:=YJ p y e l (i+1);unfold wm;rw[vc3];by_cases h:p x=T;.simp[h]
  .simp only[h,if_false,a,vaF];cases l.findIdx? p with|none=>rfl|some j=>simp only[or];congr 1;omega
def RN{α X:Type}(l:V α)(m:l.length<9223372036854775808)(a:Int->Q (Int⊕X))(p:α->K)(y:Nat->X)(e:X)
  (d:∀(i:Nat)(h:i<l.length),a i=O (if p l[i] then .inr (y i)else .inl (dc ((i:Int)+1)))) (c:a l.length=O (.inr e)):
  loop a (0:Int)=O (match l.findIdx? p with|some j=>y j|none=>e):=by
 have:=B8 l m (λi (_:Unit)=>i) a (λ_ _=>True) (λj x _=>if p x then Sum.inr (y j)else .inl ()) (λ_=>e) (λi h s _=>⟨?_,λ_ _=>trivial⟩) (λs _=>c) 0 () (s5 _) trivial
 .simp only[Int.ofNat_zero,vbj]at this
  have b:=YJ p y e l 0
  simp only[s7]at b
  rw[<-b]
  exact this
 .rw[d i h]
  by_cases o:p l[i]=T<;>simp[o]
def fY{α:Type}(o:Q α)(b:α->Prop):Prop:=∃a,o=O a/\b a
section
variable{α β σ τ X d:Type}
def ak{a:α}{Q:α->Prop}(h:Q a):fY (O a) Q:=⟨a,rfl,h⟩
def qeh{o:Option α}{a:α}{Q:α->Prop}(e:o=O a)(h:Q a):fY o Q:=⟨a,e,h⟩
def qkh{o:Option α}{f:α->Option β}{Q:β->Prop}(h:fY o (λa=>fY (f a) Q)):fY (o.bind f) Q:=by obtain⟨a,rfl,h⟩:=h;exact h
def aA{o:Option α}{f:α->Option β}{R:α->Prop}{Q:β->Prop}(h:fY o R)(b:∀a,R a->fY (f a) Q):fY (o.bind f) Q:=by obtain⟨a,rfl,h⟩:=h;exact b a h
def eZ{o:Option α}{a:α}{f:α->Option β}{Q:β->Prop}(e:o=O a)(h:fY (f a) Q):fY (o.bind f) Q:=by rw[e];exact h
def fY.mono{o:Q α}{c R:α->Prop}(h:fY o c)(b:∀a,c a->R a):fY o R:=by let⟨a,e,h⟩:=h;exact⟨a,e,b a h⟩
def aG{c:Prop}[Decidable c]{a b:Option α}{Q:α->Prop}(e:c->fY a Q)(i:¬c->fY b Q):fY (if c then a else b) Q:=by
 by_cases h:c;.rw[l7 h];exact e h
 .rw[hG h];exact i h
def ql9{o:Q α}{a:α}:fY o (λx=>x=a)↔o=O a:=by
 constructor;.rintro⟨x,e,rfl⟩;exact e
 .intro e;exact⟨a,e,rfl⟩
def Hf{F:(X->Q d)->X->Q d}(μ:X->Nat)(P:X->Prop)(o:X->d->Prop)(h:∀(R:X->Q d) x,P x->(∀y,μ y<μ x->P y->fY (R y) (o y))->fY (F R x) (o x))(x:X)(b:P x)(e:μ x<qhA):fY (sQ F x) (o x):=by
 have c:∀n x,μ x<n->P x->fY (qmA F n x) (o x):=by intro n;induction n with|zero=>intro x b;omega|succ n ih=>intro x b i;exact h _ x i λy m a=>ih y (by omega) a
 exact c _ x e b
def qcx{a:σ->Option (σ⊕X)}(o:σ->Prop)(μ:σ->Nat){Q:X->Prop}(h:∀s,o s->fY (a s) (λr=>match r with|.inl s'=>o s'/\μ s'<μ s|.inr y=>Q y)):∀s,o s->fY (loop a s) Q:=by
 have i:∀n s,μ s<n->o s->fY (loop a s) Q:=by intro n;induction n with|zero=>intro s c;omega|succ n ih=>intro s c m;let⟨r,e,b⟩:=h s m;rw[jh,e];cases r with|inl s'=>exact ih s' (by have:=b.2;omega) b.1|inr y=>exact⟨y,rfl,b⟩
 exact λs c=>i _ s (vcc _) c
def kz(l:V α)(z:l.length<9223372036854775808)(mk:Int->σ->τ){body:τ->Option (τ⊕X)}(A:Nat->σ->Prop){Q:X->Prop}
  (p:∀(i:Nat)(h:i<l.length) s,A i s->fY (body (mk i s)) (λr=>match r with|.inl t=>∃c,t=mk (dc ((i:Int)+1)) c/\A (i+1) c|.inr y=>Q y))
  (a:∀s,A l.length s->fY (body (mk l.length s)) (λr=>match r with|.inl _=>False|.inr y=>Q y)):∀s,A 0 s->fY (loop body (mk 0 s)) Q:=by
 have q:∀k i s,k+i=l.length->A i s->fY (loop body (mk (i:Int) s)) Q:=by
  intro k;induction k with
  |zero=>
   intro i s w m;have:i=l.length:=by omega
   subst this;let⟨r,e,b⟩:=a s m;rw[jh,e];cases r with|inl _=>exact b.elim|inr y=>exact⟨y,rfl,b⟩
  | succ k ih =>
   intro i s w m;let⟨r,e,b⟩:=p i (by omega) s m;rw[jh,e];cases r with
   |inl t=>obtain⟨c,rfl,o⟩:=b;simp only;rw[ch (by omega) (by omega),show((i:Int)+1)=((i+1:Nat):Int) by omega];exact ih (i+1) c (by omega) o
   |inr y=>exact⟨y,rfl,b⟩
 exact λs x=>q l.length 0 s (by omega) x
end
section
variable{α β σ τ X a:Type}
def qdF(l:V α)(t:l.length<9223372036854775808)(mk:Int->σ->τ)(b:τ->Q (τ⊕X))(k:Int->σ->α->Q (τ⊕X))(y:Nat->σ->Prop)(g:α->σ->σ)(e:σ->X)(d:σ)(r:y 0 d)
  (q:∀(i:Int)(s:σ),b (mk i s)=if Y (i<(l.length:Int))then(cJ l i).bind (k i s)else O (.inr (e s)))
  (c:∀(i:Nat)(h:i<l.length) s,y i s->k i s l[i]=O (.inl (mk (dc ((i:Int)+1)) (g l[i] s)))/\y (i+1) (g l[i] s)):loop b (mk 0 d)=O (e (l.foldl (λs x=>g x s) d)):=by
 have:=B8 l t mk b y (λ_ x s=>.inl (g x s)) e (λi h s m=>⟨?_,λw o=>by cases o;exact(c i h s m).2⟩) (λs m=>by rw[q,hG (by simp)]) 0 d (s5 _) r
 .rw[vbj,show((0:Nat):Int)=0 from rfl]at this
  rw[this]
  have p:∀(l:V α)(i:Nat)(s:σ),wm (λ_ x (s:σ)=>(Sum.inl (g x s):σ⊕X)) e l i s=e (l.foldl (λs x=>g x s) s):=by intro l;induction l with|nil=>intro i s;rfl|cons x l ih=>intro i s;unfold wm;simp only;rw[ih];rfl
  rw[p]
 .rw[q,l7 (by simp;omega),aC l i h]
  simp only[eJ]
  exact(c i h s m).1
def YQ(l:V α)(q:l.length<9223372036854775808)(mk:Int->σ->τ){b:τ->Option (τ⊕X)}(k:Int->σ->α->Option (τ⊕X))(e:σ->X)(w:Nat->σ->Prop){Q:X->Prop}
  (o:∀(i:Int)(s:σ),b (mk i s)=if Y (i<(l.length:Int))then(cJ l i).bind (k i s)else O (.inr (e s)))
  (d:∀(i:Nat)(h:i<l.length) s,w i s->fY (k i s l[i]) (λr=>match r with|.inl t=>∃p,t=mk (dc ((i:Int)+1)) p/\w (i+1) p|.inr y=>Q y))
  (c:∀s,w l.length s->Q (e s)):∀s,w 0 s->fY (loop b (mk 0 s)) Q:=
 kz l q mk w (λi h s m=>by
  rw[o,l7 (by simp;omega),aC l i h];exact d i h s m) (λs m=>by
  rw[o,hG (by simp)];exact⟨_,rfl,c s m⟩)
def qho(l:V α)(q:l.length<9223372036854775808){b:Int->Option (Int⊕X)}(k:Int->α->Option (Int⊕X))(e:X)(x:Nat->Prop){Q:X->Prop}
  (p:∀(i:Int),b i=if Y (i<(l.length:Int))then(cJ l i).bind (k i)else O (.inr e))
  (d:∀(i:Nat)(h:i<l.length),x i->fY (k i l[i]) (λr=>match r with|.inl t=>t=dc ((i:Int)+1)/\x (i+1)|.inr y=>Q y))
  (c:x l.length->Q e) (o:x 0):fY (loop b 0) Q:=
 YQ l q (λi (_:Unit)=>i) (λi _=>k i) (λ_=>e) (λi _=>x i) (λi _=>p i) (λi h s w=>(d i h w).mono λr m=>by
  cases r with
  |inl t=>exact⟨(),m.1,m.2⟩
  |inr y=>exact m) (λ_ h=>c h) () o
end
def L3{α:Type}(l:V α)(h:l.length<=1073741824):HM l=O l:=l7 h
end Go.Proofs.YtankopenjcbeeaaGreatDoor
