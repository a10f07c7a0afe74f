/- PROVED: a part of the proof. Conditions: none. -/
import Derived.Test.YtibglelmlnfojaaGreatDoorPkM8
import Derived.Test.YtibglelmlnfojaaGreatDoorChecked
set_option linter.unusedSimpArgs false set_option linter.defProp false
set_option linter.unusedVariables false
noncomputable section
namespace Go.Proofs.YtibglelmlnfojaaGreatDoor
open Go Go.Proofs.Tryz
open Option renaming some→O,none→N
open Go renaming TypeId→G,Value→D,Program→I,Oper→M,World→J,Code→W
open Bool renaming true→T,false→Z
open Decidable renaming decide→Y
open Go.Proofs.YtibglelmlnfojaaGreatDoor renaming PVal→U
set_option linter.unusedVariables false
set_option linter.defProp false
set_option maxRecDepth 100000
noncomputable abbrev Pg:=Tryz.prog
def mixed:Pg.follows .mixedOrders=true:=by kernel_rfl
abbrev kw(t:G)(l:V U)(o:Nat)(p:U):Prop:=co Pg t (l.drop o)=O p
abbrev kP(t:G)(l:V U)(i o:Nat):Prop:=lR Pg t (.eptr l) i=O (.eptr (l.drop o))
def kN{t:G}{l:V U}{o:Nat}{p:U}(h:co Pg t (l.drop o)=O p):kw t l o p:=h
def kU{t:G}{l:V U}{i o:Nat}(h:lR Pg t (.eptr l) i=O (.eptr (l.drop o))):kP t l i o:=h
abbrev PVal.i6(x:Int):U:=.int .i64 x
abbrev cw(n:Nat)(k:V Int)(b:K):aJ:=.cells [.nptr n 76,sl (cI .u8) k,.bool b] [(1,5)]
inductive ah where
 |mk (Op:Int) (Name:ae) (N:Int) (Kids:List ah)
def ah.Op:ah->Int|⟨x,_,_,_⟩=>x
def ah.Name:ah->ae|⟨_,x,_,_⟩=>x
def ah.N:ah->Int|⟨_,_,x,_⟩=>x
def ah.Kids:ah->(List ah)|⟨_,_,_,x⟩=>x
mutual
def ag:ah->List U|⟨x0,x1,x2,x3⟩=>[.i6 x0,.str x1,.i6 x2,.slice (HQ x3)]
def HQ:List ah->List (List U)|[]=>[]|x::r=>ag x::HQ r
end
def qbI:∀(l:List ah),HQ l=l.map ag
 |[]=>by simp[HQ]
 |x::r=>by simp[HQ,qbI r]
mutual
def cN:∀(x:ah),kT 0 (ag x)
 |⟨x0,x1,x2,x3⟩=>by rw[ag];exact(aI md (aI md (aI md (aI (qea x3) trivial))))
def qea:∀(l:List ah),GG 0 (HQ l)
 |[]=>by simp[HQ,GG]
 |x::r=>by rw[HQ];exact⟨cN x,qea r⟩
end
def bP:∀(x:ah),ag x=[.i6 x.Op,.str x.Name,.i6 x.N,sl ag x.Kids]
 |⟨x0,x1,x2,x3⟩=>by simp only[ag,qbI];rfl
abbrev qlt(x:ah):U:=.agg (ag x)
instance qGh{x:ah}:K0l (ag x):=⟨cN x⟩
instance qGc:KE ag:=⟨cN⟩
def W5(x:ah):(ag x).length=4:=by rw[bP];rfl
def dU(x:ah):bH (.agg (ag x))=O (ag x):=rfl
def qmC(x:ah):bH (qlt x)=O (ag x):=rfl
abbrev qfY(x:ah):V U:=[.i6 x.Op,.str x.Name,.i6 x.N,sl ag x.Kids]
def gP(x:ah):bH (.agg (ag x))=O (qfY x):=mx O (bP x)
def qmt(x:ah):∀q∈ag x,q.one=true:=by intro q a;rw[bP]at a;simp only[oL,vaW,or_false]at a;rcases a with rfl|rfl|rfl|rfl<;>rfl
def qq0:Pg.cellsOf 28=4:=by kernel_rfl
def bA(x:ah):co Pg 28 (ag x)=O (.agg (ag x)):=by have:=fb (P:=Pg) (t:=28) (l:=ag x) (r:=[]) (by kernel_rfl) (qq0.trans (W5 x).symm);rwa[vh]at this
def eJ(x:ah)(r:V U):co Pg 28 ((qfY x)++r)=O (.agg (ag x)):=(mx (λl=>co Pg 28 (l++r)) (bP x).symm).trans (fb (by kernel_rfl) (qq0.trans (W5 x).symm))
def qmU(x:ah):PVal.agg (qfY x)=.agg (ag x):=mx PVal.agg (bP x).symm
def Tk:df Pg 28 []=O (.agg (ag (⟨0,[],0,[]⟩:ah))):=by simp only[bP];kernel_rfl
def Ti:Ce Pg 28 [] [(3,28)]:=by exact⟨[.i6 0,.str ([]:ae),.i6 0,.val fG],by kernel_rfl,(aI rfl md)⟩
def US(a:Int)(b:ae):df Pg 28 [(0,.i6 a),(1,.str b)]=O (.agg (ag (⟨a,b,0,[]⟩:ah))):=by simp only[bP];kernel_rfl
def UN(a:Int)(b:ae):Ce Pg 28 [(0,.i6 a),(1,.str b)] [(3,28)]:=by exact⟨[.i6 a,.str b,.i6 0,.val fG],by kernel_rfl,(aI rfl md)⟩
def qfP(a b:Int):df Pg 28 [(0,.i6 a),(2,.i6 b)]=O (.agg (ag (⟨a,[],b,[]⟩:ah))):=by simp only[bP];kernel_rfl
def qfJ(a b:Int):Ce Pg 28 [(0,.i6 a),(2,.i6 b)] [(3,28)]:=by exact⟨[.i6 a,.str ([]:ae),.i6 b,.val fG],by kernel_rfl,(aI rfl md)⟩
def qfQ(a:Int)(b:V ah):df Pg 28 [(0,.i6 a),(3,sl ag b)]=O (.agg (ag (⟨a,[],0,b⟩:ah))):=by simp only[bP];kernel_rfl
def aE(x:ah):kP 28 (ag x) 0 0/\kw 25 (ag x) 0 (.i6 x.Op):=⟨kU (by rw[bP];kernel_rfl),kN (by rw[bP];kernel_rfl)⟩
def bK(x:ah):kP 28 (ag x) 1 1/\kw 9 (ag x) 1 (.str x.Name):=⟨kU (by rw[bP];kernel_rfl),kN (by rw[bP];kernel_rfl)⟩
def bj(x:ah):kP 28 (ag x) 2 2/\kw 3 (ag x) 2 (.i6 x.N):=⟨kU (by rw[bP];kernel_rfl),kN (by rw[bP];kernel_rfl)⟩
def qdA(x:ah):kP 28 (ag x) 3 3:=kU (by rw[bP];kernel_rfl)
def aA(x:ah):kP 28 (ag x) 3 3/\kw 26 (ag x) 3 (sl ag x.Kids):=⟨kU (by rw[bP];kernel_rfl),kN (by rw[bP];kernel_rfl)⟩
def qdG(x:ah):kw 26 (ag x) 3 (sl ag x.Kids):=kN (by rw[bP];kernel_rfl)
inductive am where
 |mk (Op:Int) (Name:ae) (Args:List am) (Names:List ae) (Pred:ah) (Preds:List ah)
def am.Op:am->Int|⟨x,_,_,_,_,_⟩=>x
def am.Name:am->ae|⟨_,x,_,_,_,_⟩=>x
def am.Args:am->(List am)|⟨_,_,x,_,_,_⟩=>x
def am.Names:am->(List ae)|⟨_,_,_,x,_,_⟩=>x
def am.Pred:am->ah|⟨_,_,_,_,x,_⟩=>x
def am.Preds:am->(List ah)|⟨_,_,_,_,_,x⟩=>x
mutual
def al:am->List U|⟨x0,x1,x2,x3,x4,x5⟩=>[.i6 x0,.str x1,.slice (HR x2),sl cS x3]++(ag x4++([sl ag x5]))
def HR:List am->List (List U)|[]=>[]|x::r=>al x::HR r
end
def qbJ:∀(l:List am),HR l=l.map al
 |[]=>by simp[HR]
 |x::r=>by simp[HR,qbJ r]
mutual
def oD:∀(x:am),kT 0 (al x)
 |⟨x0,x1,x2,x3,x4,x5⟩=>by rw[al];exact Tm.2 (aI ((aI md (aI md (aI (qeb x2) (aI (dn qi4 x3) trivial))))) (Tm.2 (aI (cN x4) ((aI (dn cN x5) trivial)))))
def qeb:∀(l:List am),GG 0 (HR l)
 |[]=>by simp[HR,GG]
 |x::r=>by rw[HR];exact⟨oD x,qeb r⟩
end
def cY:∀(x:am),al x=[.i6 x.Op,.str x.Name,sl al x.Args,sl cS x.Names,.i6 x.Pred.Op,.str x.Pred.Name,.i6 x.Pred.N,sl ag x.Pred.Kids,sl ag x.Preds]
 |⟨x0,x1,x2,x3,x4,x5⟩=>by simp only[al,qbJ,bP,vaN,va6];rfl
abbrev qlu(x:am):U:=.agg (al x)
instance qGj{x:am}:K0l (al x):=⟨oD x⟩
instance qGe:KE al:=⟨oD⟩
def W7(x:am):(al x).length=9:=by rw[cY];rfl
def eM(x:am):bH (.agg (al x))=O (al x):=rfl
def qmD(x:am):bH (qlu x)=O (al x):=rfl
abbrev qkz(x:am):V U:=[.i6 x.Op,.str x.Name,sl al x.Args,sl cS x.Names,.i6 x.Pred.Op,.str x.Pred.Name,.i6 x.Pred.N,sl ag x.Pred.Kids,sl ag x.Preds]
def ij(x:am):bH (.agg (al x))=O (qkz x):=mx O (cY x)
def qmv(x:am):∀q∈al x,q.one=true:=by intro q a;rw[cY]at a;simp only[oL,vaW,or_false]at a;rcases a with rfl|rfl|rfl|rfl|rfl|rfl|rfl|rfl|rfl<;>rfl
def qq1:Pg.cellsOf 30=9:=by kernel_rfl
def cc(x:am):co Pg 30 (al x)=O (.agg (al x)):=by have:=fb (P:=Pg) (t:=30) (l:=al x) (r:=[]) (by kernel_rfl) (qq1.trans (W7 x).symm);rwa[vh]at this
def eK(x:am)(r:V U):co Pg 30 ((qkz x)++r)=O (.agg (al x)):=(mx (λl=>co Pg 30 (l++r)) (cY x).symm).trans (fb (by kernel_rfl) (qq1.trans (W7 x).symm))
def qbg:df Pg 30 []=O (.agg (al (⟨0,[],[],[],⟨0,[],0,[]⟩,[]⟩:am))):=by simp only[cY];kernel_rfl
def qbd:Ce Pg 30 [] [(2,30),(3,9),(7,28),(8,28)]:=by exact⟨[.i6 0,.str ([]:ae),.val fG,.val fG,.i6 0,.str ([]:ae),.i6 0,.val fG,.val fG],by kernel_rfl,(aI rfl (aI rfl (aI rfl (aI rfl md))))⟩
def qbf(a:Int)(c:V ae)(b:V am):df Pg 30 [(0,.i6 a),(3,sl cS c),(2,sl al b)]=O (.agg (al (⟨a,[],b,c,⟨0,[],0,[]⟩,[]⟩:am))):=by simp only[cY];kernel_rfl
def qbc(a:Int)(c:V ae)(b:V am):Ce Pg 30 [(0,.i6 a),(3,sl cS c),(2,sl al b)] [(7,28),(8,28)]:=by exact⟨[.i6 a,.str ([]:ae),sl al b,sl cS c,.i6 0,.str ([]:ae),.i6 0,.val fG,.val fG],by kernel_rfl,(aI rfl (aI rfl md))⟩
def qfR(a:Int)(b:ah):df Pg 30 [(0,.i6 a),(4,.agg (ag b))]=O (.agg (al (⟨a,[],[],[],b,[]⟩:am))):=by simp only[cY,bP];kernel_rfl
def qfK(b:Int)(a:ah):Ce Pg 30 [(0,.i6 b),(4,.agg (ag a))] [(2,30),(3,9),(8,28)]:=by simp only[bP];exact⟨[.i6 b,.str ([]:ae),.val fG,.val fG,.i6 a.Op,.str a.Name,.i6 a.N,sl ag a.Kids,.val fG],by kernel_rfl,(aI rfl (aI rfl (aI rfl md)))⟩
def qbe(a:Int):df Pg 30 [(0,.i6 a)]=O (.agg (al (⟨a,[],[],[],⟨0,[],0,[]⟩,[]⟩:am))):=by simp only[cY];kernel_rfl
def qbb(a:Int):Ce Pg 30 [(0,.i6 a)] [(2,30),(3,9),(7,28),(8,28)]:=by exact⟨[.i6 a,.str ([]:ae),.val fG,.val fG,.i6 0,.str ([]:ae),.i6 0,.val fG,.val fG],by kernel_rfl,(aI rfl (aI rfl (aI rfl (aI rfl md))))⟩
def aB(x:am):kP 30 (al x) 0 0/\kw 22 (al x) 0 (.i6 x.Op):=⟨kU (by rw[cY];kernel_rfl),kN (by rw[cY];kernel_rfl)⟩
def cm(x:am):kP 30 (al x) 1 1/\kw 9 (al x) 1 (.str x.Name):=⟨kU (by rw[cY];kernel_rfl),kN (by rw[cY];kernel_rfl)⟩
def aN(x:am):kP 30 (al x) 2 2/\kw 23 (al x) 2 (sl al x.Args):=⟨kU (by rw[cY];kernel_rfl),kN (by rw[cY];kernel_rfl)⟩
def bh(x:am):kP 30 (al x) 3 3/\kw 24 (al x) 3 (sl cS x.Names):=⟨kU (by rw[cY];kernel_rfl),kN (by rw[cY];kernel_rfl)⟩
def cP(x:am):kP 30 (al x) 4 4/\kw 28 (al x) 4 (.agg (ag x.Pred)):=⟨kU (by rw[cY];kernel_rfl),kN (by rw[cY,bP];kernel_rfl)⟩
def bF(x:am):kP 30 (al x) 5 8/\kw 26 (al x) 8 (sl ag x.Preds):=⟨kU (by rw[cY];kernel_rfl),kN (by rw[cY];kernel_rfl)⟩
structure pG where
 Name:ae
 Sort_:ae
deriving DecidableEq
def cp(x:pG):V U:=[.str x.Name,.str x.Sort_]
def ZZ(x:pG):cp x=[.str x.Name,.str x.Sort_]:=rfl
def UY(x:pG):kT 0 (cp x):=(aI md (aI md md))
instance qGp:KE cp:=⟨UY⟩
def qie(x:pG):(cp x).length=2:=by rw[ZZ];rfl
def qce(x:pG):bH (.agg (cp x))=O [.str x.Name,.str x.Sort_]:=mx O (ZZ x)
def qoQ(x:pG):∀q∈cp x,q.one=true:=by intro q a;rw[ZZ]at a;simp only[oL,vaW,or_false]at a;rcases a with rfl|rfl<;>rfl
def qnM:Pg.cellsOf 143=2:=by kernel_rfl
def qgl(x:pG):co Pg 143 (cp x)=O (.agg (cp x)):=by have:=fb (P:=Pg) (t:=143) (l:=cp x) (r:=[]) (by kernel_rfl) (qnM.trans (qie x).symm);rwa[vh]at this
def HM(x:pG):kP 143 (cp x) 0 0/\kw 9 (cp x) 0 (.str x.Name):=⟨kU (by kernel_rfl),kN (by kernel_rfl)⟩
def RO(x:pG):kP 143 (cp x) 1 1/\kw 100 (cp x) 1 (.str x.Sort_):=⟨kU (by kernel_rfl),kN (by kernel_rfl)⟩
structure tH where
 Name:ae
 Names:(List ae)
 Fields:(List am)
def ef(x:tH):V U:=[.str x.Name,sl cS x.Names,sl al x.Fields]
def U6(x:tH):ef x=[.str x.Name,sl cS x.Names,sl al x.Fields]:=rfl
def ZU(x:tH):kT 0 (ef x):=(aI md (aI (dn qi4 x.Names) (aI (dn oD x.Fields) trivial)))
instance qGs{x:tH}:K0l (ef x):=⟨ZU x⟩
instance qGn:KE ef:=⟨ZU⟩
def qbM(x:tH):(ef x).length=3:=by rw[U6];rfl
def qry(x:tH):bH (.agg (ef x))=O (ef x):=rfl
def qiF(x:tH):bH (.agg (ef x))=O [.str x.Name,sl cS x.Names,sl al x.Fields]:=mx O (U6 x)
def qoO(x:tH):∀q∈ef x,q.one=true:=by intro q a;rw[U6]at a;simp only[oL,vaW,or_false]at a;rcases a with rfl|rfl|rfl<;>rfl
def qkr:Pg.cellsOf 127=3:=by kernel_rfl
def qkN(x:tH):co Pg 127 (ef x)=O (.agg (ef x)):=by have:=fb (P:=Pg) (t:=127) (l:=ef x) (r:=[]) (by kernel_rfl) (qkr.trans (qbM x).symm);rwa[vh]at this
def qos(x:tH)(r:V U):co Pg 127 ([.str x.Name,sl cS x.Names,sl al x.Fields]++r)=O (.agg (ef x)):=(mx (λl=>co Pg 127 (l++r)) (U6 x).symm).trans (fb (by kernel_rfl) (qkr.trans (qbM x).symm))
def Va(x:tH):kP 127 (ef x) 0 0/\kw 9 (ef x) 0 (.str x.Name):=⟨kU (by kernel_rfl),kN (by kernel_rfl)⟩
def Fu(x:tH):kP 127 (ef x) 1 1/\kw 24 (ef x) 1 (sl cS x.Names):=⟨kU (by kernel_rfl),kN (by kernel_rfl)⟩
def vq(x:tH):kP 127 (ef x) 2 2/\kw 23 (ef x) 2 (sl al x.Fields):=⟨kU (by kernel_rfl),kN (by kernel_rfl)⟩
structure jE where
 Name:ae
 Vars:(List ae)
 Preds:(List pG)
 Cons:(List tH)
def cq(x:jE):V U:=[.str x.Name,sl cS x.Vars,sl cp x.Preds,sl ef x.Cons]
def P8(x:jE):cq x=[.str x.Name,sl cS x.Vars,sl cp x.Preds,sl ef x.Cons]:=rfl
def UV(x:jE):kT 0 (cq x):=(aI md (aI (dn qi4 x.Vars) (aI (dn UY x.Preds) (aI (dn ZU x.Cons) trivial))))
instance qGf{x:jE}:K0l (cq x):=⟨UV x⟩
instance qFZ:KE cq:=⟨UV⟩
def W3(x:jE):(cq x).length=4:=by rw[P8];rfl
def qiD(x:jE):bH (.agg (cq x))=O (cq x):=rfl
abbrev qkx(x:jE):V U:=[.str x.Name,sl cS x.Vars,sl cp x.Preds,sl ef x.Cons]
def qeH(x:jE):bH (.agg (cq x))=O (qkx x):=mx O (P8 x)
def qmq(x:jE):∀q∈cq x,q.one=true:=by intro q a;rw[P8]at a;simp only[oL,vaW,or_false]at a;rcases a with rfl|rfl|rfl|rfl<;>rfl
def qq5:Pg.cellsOf 92=4:=by kernel_rfl
def qii(x:jE):co Pg 92 (cq x)=O (.agg (cq x)):=by have:=fb (P:=Pg) (t:=92) (l:=cq x) (r:=[]) (by kernel_rfl) (qq5.trans (W3 x).symm);rwa[vh]at this
def qeu(x:jE)(r:V U):co Pg 92 ((qkx x)++r)=O (.agg (cq x)):=(mx (λl=>co Pg 92 (l++r)) (P8 x).symm).trans (fb (by kernel_rfl) (qq5.trans (W3 x).symm))
def HJ(x:jE):kP 92 (cq x) 0 0/\kw 9 (cq x) 0 (.str x.Name):=⟨kU (by kernel_rfl),kN (by kernel_rfl)⟩
def Fv(x:jE):kP 92 (cq x) 1 1/\kw 24 (cq x) 1 (sl cS x.Vars):=⟨kU (by kernel_rfl),kN (by kernel_rfl)⟩
def nY(x:jE):kP 92 (cq x) 2 2/\kw 89 (cq x) 2 (sl cp x.Preds):=⟨kU (by kernel_rfl),kN (by kernel_rfl)⟩
def nZ(x:jE):kP 92 (cq x) 3 3/\kw 90 (cq x) 3 (sl ef x.Cons):=⟨kU (by kernel_rfl),kN (by kernel_rfl)⟩
structure om where
 Name:ae
 Type_:am
def dg(x:om):V U:=[.str x.Name]++(al x.Type_)
def nW(x:om):dg x=[.str x.Name,.i6 x.Type_.Op,.str x.Type_.Name,sl al x.Type_.Args,sl cS x.Type_.Names,.i6 x.Type_.Pred.Op,.str x.Type_.Pred.Name,.i6 x.Type_.Pred.N,sl ag x.Type_.Pred.Kids,sl ag x.Type_.Preds]:=by unfold dg;simp only[cY,vaN,va6]
def Tn(x:om):kT 0 (dg x):=by rw[nW];exact(aI md (aI md (aI md (aI (dn oD x.Type_.Args) (aI (dn qi4 x.Type_.Names) (aI md (aI md (aI md (aI (dn cN x.Type_.Pred.Kids) (aI (dn cN x.Type_.Preds) trivial))))))))))
instance qFO:KE dg:=⟨Tn⟩
def Yf(x:om):(dg x).length=10:=by rw[nW];rfl
abbrev qlZ(x:om):V U:=[.str x.Name,.i6 x.Type_.Op,.str x.Type_.Name,sl al x.Type_.Args,sl cS x.Type_.Names,.i6 x.Type_.Pred.Op,.str x.Type_.Pred.Name,.i6 x.Type_.Pred.N,sl ag x.Type_.Pred.Kids,sl ag x.Type_.Preds]
def qiG(x:om):bH (.agg (dg x))=O (qlZ x):=mx O (nW x)
def qiv(x:om):∀q∈dg x,q.one=true:=by intro q a;rw[nW]at a;simp only[oL,vaW,or_false]at a;rcases a with rfl|rfl|rfl|rfl|rfl|rfl|rfl|rfl|rfl|rfl<;>rfl
def qnK:Pg.cellsOf 134=10:=by kernel_rfl
def qjC(x:om):co Pg 134 (dg x)=O (.agg (dg x)):=by have:=fb (P:=Pg) (t:=134) (l:=dg x) (r:=[]) (by kernel_rfl) (qnK.trans (Yf x).symm);rwa[vh]at this
def Qb(x:om):kP 134 (dg x) 0 0/\kw 9 (dg x) 0 (.str x.Name):=⟨kU (by rw[nW];kernel_rfl),kN (by rw[nW];kernel_rfl)⟩
def N9(x:om):kP 134 (dg x) 1 1/\kw 30 (dg x) 1 (.agg (al x.Type_)):=⟨kU (by rw[nW];kernel_rfl),kN (by rw[nW,cY];kernel_rfl)⟩
structure fI where
 Name:ae
 Var:ae
 Methods:(List om)
def ce(x:fI):V U:=[.str x.Name,.str x.Var,sl dg x.Methods]
def JQ(x:fI):ce x=[.str x.Name,.str x.Var,sl dg x.Methods]:=rfl
def QZ(x:fI):kT 0 (ce x):=(aI md (aI md (aI (dn Tn x.Methods) trivial)))
instance qFV{x:fI}:K0l (ce x):=⟨QZ x⟩
instance qFS:KE ce:=⟨QZ⟩
def Tw(x:fI):(ce x).length=3:=by rw[JQ];rfl
def qeE(x:fI):bH (.agg (ce x))=O (ce x):=rfl
def qcd(x:fI):bH (.agg (ce x))=O [.str x.Name,.str x.Var,sl dg x.Methods]:=mx O (JQ x)
def qjN(x:fI):∀q∈ce x,q.one=true:=by intro q a;rw[JQ]at a;simp only[oL,vaW,or_false]at a;rcases a with rfl|rfl|rfl<;>rfl
def qq6:Pg.cellsOf 97=3:=by kernel_rfl
def qet(x:fI):co Pg 97 (ce x)=O (.agg (ce x)):=by have:=fb (P:=Pg) (t:=97) (l:=ce x) (r:=[]) (by kernel_rfl) (qq6.trans (Tw x).symm);rwa[vh]at this
def qbO(x:fI)(r:V U):co Pg 97 ([.str x.Name,.str x.Var,sl dg x.Methods]++r)=O (.agg (ce x)):=(mx (λl=>co Pg 97 (l++r)) (JQ x).symm).trans (fb (by kernel_rfl) (qq6.trans (Tw x).symm))
def Fs(x:fI):kP 97 (ce x) 0 0/\kw 9 (ce x) 0 (.str x.Name):=⟨kU (by kernel_rfl),kN (by kernel_rfl)⟩
def Ft(x:fI):kP 97 (ce x) 1 1/\kw 9 (ce x) 1 (.str x.Var):=⟨kU (by kernel_rfl),kN (by kernel_rfl)⟩
def gO(x:fI):kP 97 (ce x) 2 2/\kw 95 (ce x) 2 (sl dg x.Methods):=⟨kU (by kernel_rfl),kN (by kernel_rfl)⟩
structure iP where
 Class:ae
 Var:ae
deriving DecidableEq
def cr(x:iP):V U:=[.str x.Class,.str x.Var]
def U7(x:iP):cr x=[.str x.Class,.str x.Var]:=rfl
def P5(x:iP):kT 0 (cr x):=(aI md (aI md md))
instance qGb:KE cr:=⟨P5⟩
def qer(x:iP):(cr x).length=2:=by rw[U7];rfl
def qmG(x:iP):bH (.agg (cr x))=O [.str x.Class,.str x.Var]:=mx O (U7 x)
def qms(x:iP):∀q∈cr x,q.one=true:=by intro q a;rw[U7]at a;simp only[oL,vaW,or_false]at a;rcases a with rfl|rfl<;>rfl
def qnN:Pg.cellsOf 159=2:=by kernel_rfl
def qor(x:iP):co Pg 159 (cr x)=O (.agg (cr x)):=by have:=fb (P:=Pg) (t:=159) (l:=cr x) (r:=[]) (by kernel_rfl) (qnN.trans (qer x).symm);rwa[vh]at this
def Tq(x:iP):kP 159 (cr x) 0 0/\kw 9 (cr x) 0 (.str x.Class):=⟨kU (by kernel_rfl),kN (by kernel_rfl)⟩
def Ts(x:iP):kP 159 (cr x) 1 1/\kw 9 (cr x) 1 (.str x.Var):=⟨kU (by kernel_rfl),kN (by kernel_rfl)⟩
structure bO where
 Name:ae
 Type_:am
def bk(x:bO):V U:=[.str x.Name]++(al x.Type_)
def pb(x:bO):bk x=[.str x.Name,.i6 x.Type_.Op,.str x.Type_.Name,sl al x.Type_.Args,sl cS x.Type_.Names,.i6 x.Type_.Pred.Op,.str x.Type_.Pred.Name,.i6 x.Type_.Pred.N,sl ag x.Type_.Pred.Kids,sl ag x.Type_.Preds]:=by unfold bk;simp only[cY,vaN,va6]
def JO(x:bO):kT 0 (bk x):=by rw[pb];exact(aI md (aI md (aI md (aI (dn oD x.Type_.Args) (aI (dn qi4 x.Type_.Names) (aI md (aI md (aI md (aI (dn cN x.Type_.Pred.Kids) (aI (dn cN x.Type_.Preds) trivial))))))))))
instance qFW{x:bO}:K0l (bk x):=⟨JO x⟩
instance qFT:KE bk:=⟨JO⟩
def Tx(x:bO):(bk x).length=10:=by rw[pb];rfl
def qeF(x:bO):bH (.agg (bk x))=O (bk x):=rfl
abbrev qhQ(x:bO):V U:=[.str x.Name,.i6 x.Type_.Op,.str x.Type_.Name,sl al x.Type_.Args,sl cS x.Type_.Names,.i6 x.Type_.Pred.Op,.str x.Type_.Pred.Name,.i6 x.Type_.Pred.N,sl ag x.Type_.Pred.Kids,sl ag x.Type_.Preds]
def zI(x:bO):bH (.agg (bk x))=O (qhQ x):=mx O (pb x)
def qjO(x:bO):∀q∈bk x,q.one=true:=by intro q a;rw[pb]at a;simp only[oL,vaW,or_false]at a;rcases a with rfl|rfl|rfl|rfl|rfl|rfl|rfl|rfl|rfl|rfl<;>rfl
def qkp:Pg.cellsOf 114=10:=by kernel_rfl
def ED(x:bO):co Pg 114 (bk x)=O (.agg (bk x)):=by have:=fb (P:=Pg) (t:=114) (l:=bk x) (r:=[]) (by kernel_rfl) (qkp.trans (Tx x).symm);rwa[vh]at this
def qbP(x:bO)(r:V U):co Pg 114 ((qhQ x)++r)=O (.agg (bk x)):=(mx (λl=>co Pg 114 (l++r)) (pb x).symm).trans (fb (by kernel_rfl) (qkp.trans (Tx x).symm))
def eu(x:bO):kP 114 (bk x) 0 0/\kw 9 (bk x) 0 (.str x.Name):=⟨kU (by rw[pb];kernel_rfl),kN (by rw[pb];kernel_rfl)⟩
def eG(x:bO):kP 114 (bk x) 1 1/\kw 30 (bk x) 1 (.agg (al x.Type_)):=⟨kU (by rw[pb];kernel_rfl),kN (by rw[pb,cY];kernel_rfl)⟩
mutual
inductive aj where
 |mk (Op:Int) (Name:ae) (N:Int) (Kids:List aj) (Params:List bO) (Alts:List cH) (Types:List am)
inductive cH where
 |mk (Con:ae) (Names:List ae) (Body:aj)
end
def aj.Op:aj->Int|⟨x,_,_,_,_,_,_⟩=>x
def aj.Name:aj->ae|⟨_,x,_,_,_,_,_⟩=>x
def aj.N:aj->Int|⟨_,_,x,_,_,_,_⟩=>x
def aj.Kids:aj->(List aj)|⟨_,_,_,x,_,_,_⟩=>x
def aj.Params:aj->(List bO)|⟨_,_,_,_,x,_,_⟩=>x
def aj.Alts:aj->(List cH)|⟨_,_,_,_,_,x,_⟩=>x
def aj.Types:aj->(List am)|⟨_,_,_,_,_,_,x⟩=>x
def cH.Con:cH->ae|⟨x,_,_⟩=>x
def cH.Names:cH->(List ae)|⟨_,x,_⟩=>x
def cH.Body:cH->aj|⟨_,_,x⟩=>x
mutual
def ak:aj->List U|⟨x0,x1,x2,x3,x4,x5,x6⟩=>[.i6 x0,.str x1,.i6 x2,.slice (HP x3),sl bk x4,.slice (Qe x5),sl al x6]
def bL:cH->List U|⟨x0,x1,x2⟩=>[.str x0,sl cS x1]++(ak x2)
def HP:List aj->List (List U)|[]=>[]|x::r=>ak x::HP r
def Qe:List cH->List (List U)|[]=>[]|x::r=>bL x::Qe r
end
def qbH:∀(l:List aj),HP l=l.map ak
 |[]=>by simp[HP]
 |x::r=>by simp[HP,qbH r]
def qen:∀(l:List cH),Qe l=l.map bL
 |[]=>by simp[Qe]
 |x::r=>by simp[Qe,qen r]
mutual
def JN:∀(x:aj),kT 0 (ak x)
 |⟨x0,x1,x2,x3,x4,x5,x6⟩=>by rw[ak];exact(aI md (aI md (aI md (aI (qd9 x3) (aI (dn JO x4) (aI (qhG x5) (aI (dn oD x6) trivial)))))))
def UU:∀(x:cH),kT 0 (bL x)
 |⟨x0,x1,x2⟩=>by rw[bL];exact Tm.2 (aI ((aI md (aI (dn qi4 x1) trivial))) (JN x2))
def qd9:∀(l:List aj),GG 0 (HP l)
 |[]=>by simp[HP,GG]
 |x::r=>by rw[HP];exact⟨JN x,qd9 r⟩
def qhG:∀(l:List cH),GG 0 (Qe l)
 |[]=>by simp[Qe,GG]
 |x::r=>by rw[Qe];exact⟨UU x,qhG r⟩
end
def cO:∀(x:aj),ak x=[.i6 x.Op,.str x.Name,.i6 x.N,sl ak x.Kids,sl bk x.Params,sl bL x.Alts,sl al x.Types]
 |⟨x0,x1,x2,x3,x4,x5,x6⟩=>by simp only[ak,qbH,qen];rfl
abbrev yq(x:aj):U:=.agg (ak x)
instance qGg{x:aj}:K0l (ak x):=⟨JN x⟩
instance qGa:KE ak:=⟨JN⟩
def W4(x:aj):(ak x).length=7:=by rw[cO];rfl
def cd(x:aj):bH (.agg (ak x))=O (ak x):=rfl
def pf(x:aj):bH (yq x)=O (ak x):=rfl
abbrev qfX(x:aj):V U:=[.i6 x.Op,.str x.Name,.i6 x.N,sl ak x.Kids,sl bk x.Params,sl bL x.Alts,sl al x.Types]
def wc(x:aj):bH (.agg (ak x))=O (qfX x):=mx O (cO x)
def qmr(x:aj):∀q∈ak x,q.one=true:=by intro q a;rw[cO]at a;simp only[oL,vaW,or_false]at a;rcases a with rfl|rfl|rfl|rfl|rfl|rfl|rfl<;>rfl
def qq2:Pg.cellsOf 36=7:=by kernel_rfl
def qkq:Pg.cellsOf 116=9:=by kernel_rfl
def aK(x:aj):co Pg 36 (ak x)=O (.agg (ak x)):=by have:=fb (P:=Pg) (t:=36) (l:=ak x) (r:=[]) (by kernel_rfl) (qq2.trans (W4 x).symm);rwa[vh]at this
def ga(x:aj)(r:V U):co Pg 36 ((qfX x)++r)=O (.agg (ak x)):=(mx (λl=>co Pg 36 (l++r)) (cO x).symm).trans (fb (by kernel_rfl) (qq2.trans (W4 x).symm))
def XE(x:aj):PVal.agg (qfX x)=.agg (ak x):=mx PVal.agg (cO x).symm
def LM:df Pg 36 []=O (.agg (ak (⟨0,[],0,[],[],[],[]⟩:aj))):=by simp only[cO];kernel_rfl
def LL:Ce Pg 36 [] [(3,36),(4,114),(5,116),(6,30)]:=by exact⟨[.i6 0,.str ([]:ae),.i6 0,.val fG,.val fG,.val fG,.val fG],by kernel_rfl,(aI rfl (aI rfl (aI rfl (aI rfl md))))⟩
def qfL(a:Int)(b:ae):df Pg 36 [(0,.i6 a),(1,.str b)]=O (.agg (ak (⟨a,b,0,[],[],[],[]⟩:aj))):=by simp only[cO];kernel_rfl
def qfF(a:Int)(b:ae):Ce Pg 36 [(0,.i6 a),(1,.str b)] [(3,36),(4,114),(5,116),(6,30)]:=by exact⟨[.i6 a,.str b,.i6 0,.val fG,.val fG,.val fG,.val fG],by kernel_rfl,(aI rfl (aI rfl (aI rfl (aI rfl md))))⟩
def qfM(a b:Int):df Pg 36 [(0,.i6 a),(2,.i6 b)]=O (.agg (ak (⟨a,[],b,[],[],[],[]⟩:aj))):=by simp only[cO];kernel_rfl
def qfG(a b:Int):Ce Pg 36 [(0,.i6 a),(2,.i6 b)] [(3,36),(4,114),(5,116),(6,30)]:=by exact⟨[.i6 a,.str ([]:ae),.i6 b,.val fG,.val fG,.val fG,.val fG],by kernel_rfl,(aI rfl (aI rfl (aI rfl (aI rfl md))))⟩
def qfN(a:Int)(b:V aj):df Pg 36 [(0,.i6 a),(3,sl ak b)]=O (.agg (ak (⟨a,[],0,b,[],[],[]⟩:aj))):=by simp only[cO];kernel_rfl
def qfH(a:Int)(b:V aj):Ce Pg 36 [(0,.i6 a),(3,sl ak b)] [(4,114),(5,116),(6,30)]:=by exact⟨[.i6 a,.str ([]:ae),.i6 0,sl ak b,.val fG,.val fG,.val fG],by kernel_rfl,(aI rfl (aI rfl (aI rfl md)))⟩
def ba(x:aj):kP 36 (ak x) 0 0/\kw 31 (ak x) 0 (.i6 x.Op):=⟨kU (by rw[cO];kernel_rfl),kN (by rw[cO];kernel_rfl)⟩
def bX(x:aj):kP 36 (ak x) 1 1/\kw 9 (ak x) 1 (.str x.Name):=⟨kU (by rw[cO];kernel_rfl),kN (by rw[cO];kernel_rfl)⟩
def bE(x:aj):kP 36 (ak x) 2 2/\kw 3 (ak x) 2 (.i6 x.N):=⟨kU (by rw[cO];kernel_rfl),kN (by rw[cO];kernel_rfl)⟩
def au(x:aj):kP 36 (ak x) 3 3/\kw 32 (ak x) 3 (sl ak x.Kids):=⟨kU (by rw[cO];kernel_rfl),kN (by rw[cO];kernel_rfl)⟩
def aO(x:aj):kP 36 (ak x) 4 4/\kw 33 (ak x) 4 (sl bk x.Params):=⟨kU (by rw[cO];kernel_rfl),kN (by rw[cO];kernel_rfl)⟩
def ay(x:aj):kP 36 (ak x) 5 5/\kw 34 (ak x) 5 (sl bL x.Alts):=⟨kU (by rw[cO];kernel_rfl),kN (by rw[cO];kernel_rfl)⟩
def aw(x:aj):kP 36 (ak x) 6 6/\kw 23 (ak x) 6 (sl al x.Types):=⟨kU (by rw[cO];kernel_rfl),kN (by rw[cO];kernel_rfl)⟩
def xk:∀(x:cH),bL x=[.str x.Con,sl cS x.Names,.i6 x.Body.Op,.str x.Body.Name,.i6 x.Body.N,sl ak x.Body.Kids,sl bk x.Body.Params,sl bL x.Body.Alts,sl al x.Body.Types]
 |⟨x0,x1,x2⟩=>by simp only[bL,cO,vaN,va6];rfl
instance qGq{x:cH}:K0l (bL x):=⟨UU x⟩
instance qGm:KE bL:=⟨UU⟩
def qbL(x:cH):(bL x).length=9:=by rw[xk];rfl
def qgF(x:cH):bH (.agg (bL x))=O (bL x):=rfl
abbrev qn3(x:cH):V U:=[.str x.Con,sl cS x.Names,.i6 x.Body.Op,.str x.Body.Name,.i6 x.Body.N,sl ak x.Body.Kids,sl bk x.Body.Params,sl bL x.Body.Alts,sl al x.Body.Types]
def oH(x:cH):bH (.agg (bL x))=O (qn3 x):=mx O (xk x)
def qoN(x:cH):∀q∈bL x,q.one=true:=by intro q a;rw[xk]at a;simp only[oL,vaW,or_false]at a;rcases a with rfl|rfl|rfl|rfl|rfl|rfl|rfl|rfl|rfl<;>rfl
def rV(x:cH):co Pg 116 (bL x)=O (.agg (bL x)):=by have:=fb (P:=Pg) (t:=116) (l:=bL x) (r:=[]) (by kernel_rfl) (qkq.trans (qbL x).symm);rwa[vh]at this
def qik(x:cH)(r:V U):co Pg 116 ((qn3 x)++r)=O (.agg (bL x)):=(mx (λl=>co Pg 116 (l++r)) (xk x).symm).trans (fb (by kernel_rfl) (qkq.trans (qbL x).symm))
def pV(x:cH):kP 116 (bL x) 0 0/\kw 9 (bL x) 0 (.str x.Con):=⟨kU (by rw[xk];kernel_rfl),kN (by rw[xk];kernel_rfl)⟩
def fQ(x:cH):kP 116 (bL x) 1 1/\kw 24 (bL x) 1 (sl cS x.Names):=⟨kU (by rw[xk];kernel_rfl),kN (by rw[xk];kernel_rfl)⟩
def vp(x:cH):kP 116 (bL x) 2 2/\kw 36 (bL x) 2 (.agg (ak x.Body)):=⟨kU (by rw[xk];kernel_rfl),kN (by rw[xk,cO];kernel_rfl)⟩
structure G1 where
 Name:ae
 Sort_:ae
deriving DecidableEq
def fP(x:G1):V U:=[.str x.Name,.str x.Sort_]
def ZY(x:G1):fP x=[.str x.Name,.str x.Sort_]:=rfl
def ZT(x:G1):kT 0 (fP x):=(aI md (aI md md))
instance qGl:KE fP:=⟨ZT⟩
def qic(x:G1):(fP x).length=2:=by rw[ZY];rfl
def qoY(x:G1):bH (.agg (fP x))=O [.str x.Name,.str x.Sort_]:=mx O (ZY x)
def qoM(x:G1):∀q∈fP x,q.one=true:=by intro q a;rw[ZY]at a;simp only[oL,vaW,or_false]at a;rcases a with rfl|rfl<;>rfl
def qnO:Pg.cellsOf 166=2:=by kernel_rfl
def qrq(x:G1):co Pg 166 (fP x)=O (.agg (fP x)):=by have:=fb (P:=Pg) (t:=166) (l:=fP x) (r:=[]) (by kernel_rfl) (qnO.trans (qic x).symm);rwa[vh]at this
def U9(x:G1):kP 166 (fP x) 0 0/\kw 9 (fP x) 0 (.str x.Name):=⟨kU (by kernel_rfl),kN (by kernel_rfl)⟩
def RM(x:G1):kP 166 (fP x) 1 1/\kw 100 (fP x) 1 (.str x.Sort_):=⟨kU (by kernel_rfl),kN (by kernel_rfl)⟩
structure fi where
 Name:ae
 Vars:(List pG)
 Hyp:ah
 Goal:ah
def bU(x:fi):V U:=[.str x.Name,sl cp x.Vars]++(ag x.Hyp++(ag x.Goal))
def iZ(x:fi):bU x=[.str x.Name,sl cp x.Vars,.i6 x.Hyp.Op,.str x.Hyp.Name,.i6 x.Hyp.N,sl ag x.Hyp.Kids,.i6 x.Goal.Op,.str x.Goal.Name,.i6 x.Goal.N,sl ag x.Goal.Kids]:=by unfold bU;simp only[bP,vaN,va6]
def JM(x:fi):kT 0 (bU x):=by rw[iZ];exact(aI md (aI (dn UY x.Vars) (aI md (aI md (aI md (aI (dn cN x.Hyp.Kids) (aI md (aI md (aI md (aI (dn cN x.Goal.Kids) trivial))))))))))
instance qFU{x:fi}:K0l (bU x):=⟨JM x⟩
instance qFR:KE bU:=⟨JM⟩
def Tv(x:fi):(bU x).length=10:=by rw[iZ];rfl
def qmE(x:fi):bH (.agg (bU x))=O (bU x):=rfl
abbrev qhP(x:fi):V U:=[.str x.Name,sl cp x.Vars,.i6 x.Hyp.Op,.str x.Hyp.Name,.i6 x.Hyp.N,sl ag x.Hyp.Kids,.i6 x.Goal.Op,.str x.Goal.Name,.i6 x.Goal.N,sl ag x.Goal.Kids]
def qcc(x:fi):bH (.agg (bU x))=O (qhP x):=mx O (iZ x)
def qjM(x:fi):∀q∈bU x,q.one=true:=by intro q a;rw[iZ]at a;simp only[oL,vaW,or_false]at a;rcases a with rfl|rfl|rfl|rfl|rfl|rfl|rfl|rfl|rfl|rfl<;>rfl
def qks:Pg.cellsOf 168=10:=by kernel_rfl
def qes(x:fi):co Pg 168 (bU x)=O (.agg (bU x)):=by have:=fb (P:=Pg) (t:=168) (l:=bU x) (r:=[]) (by kernel_rfl) (qks.trans (Tv x).symm);rwa[vh]at this
def qjD(x:fi)(r:V U):co Pg 168 ((qhP x)++r)=O (.agg (bU x)):=(mx (λl=>co Pg 168 (l++r)) (iZ x).symm).trans (fb (by kernel_rfl) (qks.trans (Tv x).symm))
def RN(x:fi):kP 168 (bU x) 0 0/\kw 9 (bU x) 0 (.str x.Name):=⟨kU (by rw[iZ];kernel_rfl),kN (by rw[iZ];kernel_rfl)⟩
def Bu(x:fi):kP 168 (bU x) 1 1/\kw 89 (bU x) 1 (sl cp x.Vars):=⟨kU (by rw[iZ];kernel_rfl),kN (by rw[iZ];kernel_rfl)⟩
def Qa(x:fi):kP 168 (bU x) 2 2/\kw 28 (bU x) 2 (.agg (ag x.Hyp)):=⟨kU (by rw[iZ];kernel_rfl),kN (by rw[iZ,bP];kernel_rfl)⟩
def qH(x:fi):kP 168 (bU x) 3 6/\kw 28 (bU x) 6 (.agg (ag x.Goal)):=⟨kU (by rw[iZ];kernel_rfl),kN (by rw[iZ,bP];kernel_rfl)⟩
structure iQ where
 Vars:(List ae)
 Needs:(List iP)
 Abs:(List G1)
 Bounds:(List fi)
 Type_:am
 Metric:(List ah)
def cu(x:iQ):V U:=[sl cS x.Vars,sl cr x.Needs,sl fP x.Abs,sl bU x.Bounds]++(al x.Type_++([sl ag x.Metric]))
def lk(x:iQ):cu x=[sl cS x.Vars,sl cr x.Needs,sl fP x.Abs,sl bU x.Bounds,.i6 x.Type_.Op,.str x.Type_.Name,sl al x.Type_.Args,sl cS x.Type_.Names,.i6 x.Type_.Pred.Op,.str x.Type_.Pred.Name,.i6 x.Type_.Pred.N,sl ag x.Type_.Pred.Kids,sl ag x.Type_.Preds,sl ag x.Metric]:=by unfold cu;simp only[cY,vaN,va6]
def qqY(x:iQ):kT 0 (cu x):=by rw[lk];exact(aI (dn qi4 x.Vars) (aI (dn P5 x.Needs) (aI (dn ZT x.Abs) (aI (dn JM x.Bounds) (aI md (aI md (aI (dn oD x.Type_.Args) (aI (dn qi4 x.Type_.Names) (aI md (aI md (aI md (aI (dn cN x.Type_.Pred.Kids) (aI (dn cN x.Type_.Preds) (aI (dn cN x.Metric) trivial))))))))))))))
instance qGu{x:iQ}:K0l (cu x):=⟨qqY x⟩
def qk7(x:iQ):bH (.agg (cu x))=O (cu x):=rfl
def pZ(x:iQ):kP 56 (cu x) 0 0/\kw 24 (cu x) 0 (sl cS x.Vars):=⟨kU (by rw[lk];kernel_rfl),kN (by rw[lk];kernel_rfl)⟩
def p5(x:iQ):kP 56 (cu x) 1 1/\kw 52 (cu x) 1 (sl cr x.Needs):=⟨kU (by rw[lk];kernel_rfl),kN (by rw[lk];kernel_rfl)⟩
def jb(x:iQ):kP 56 (cu x) 2 2/\kw 53 (cu x) 2 (sl fP x.Abs):=⟨kU (by rw[lk];kernel_rfl),kN (by rw[lk];kernel_rfl)⟩
def HK(x:iQ):kP 56 (cu x) 3 3/\kw 54 (cu x) 3 (sl bU x.Bounds):=⟨kU (by rw[lk];kernel_rfl),kN (by rw[lk];kernel_rfl)⟩
def HL(x:iQ):kP 56 (cu x) 4 4/\kw 30 (cu x) 4 (.agg (al x.Type_)):=⟨kU (by rw[lk];kernel_rfl),kN (by rw[lk,cY];kernel_rfl)⟩
def n6(x:iQ):kP 56 (cu x) 5 13/\kw 26 (cu x) 13 (sl ag x.Metric):=⟨kU (by rw[lk];kernel_rfl),kN (by rw[lk];kernel_rfl)⟩
structure d5 where
 Name:ae
 Params:(List ae)
 Body:aj
 Mode:Int
 Typed:Bool
 Sig:iQ
def aV(x:d5):V U:=[.str x.Name,sl cS x.Params]++(ak x.Body++([.i6 x.Mode,.bool x.Typed]++(cu x.Sig)))
def fl(x:d5):aV x=[.str x.Name,sl cS x.Params,.i6 x.Body.Op,.str x.Body.Name,.i6 x.Body.N,sl ak x.Body.Kids,sl bk x.Body.Params,sl bL x.Body.Alts,sl al x.Body.Types,.i6 x.Mode,.bool x.Typed,sl cS x.Sig.Vars,sl cr x.Sig.Needs,sl fP x.Sig.Abs,sl bU x.Sig.Bounds,.i6 x.Sig.Type_.Op,.str x.Sig.Type_.Name,sl al x.Sig.Type_.Args,sl cS x.Sig.Type_.Names,.i6 x.Sig.Type_.Pred.Op,.str x.Sig.Type_.Pred.Name,.i6 x.Sig.Type_.Pred.N,sl ag x.Sig.Type_.Pred.Kids,sl ag x.Sig.Type_.Preds,sl ag x.Sig.Metric]:=by unfold aV;simp only[cO,lk,vaN,va6]
def UW(x:d5):kT 0 (aV x):=by rw[fl];exact(aI md (aI (dn qi4 x.Params) (aI md (aI md (aI md (aI (dn JN x.Body.Kids) (aI (dn JO x.Body.Params) (aI (dn UU x.Body.Alts) (aI (dn oD x.Body.Types) (aI md (aI md (aI (dn qi4 x.Sig.Vars) (aI (dn P5 x.Sig.Needs) (aI (dn ZT x.Sig.Abs) (aI (dn JM x.Sig.Bounds) (aI md (aI md (aI (dn oD x.Sig.Type_.Args) (aI (dn qi4 x.Sig.Type_.Names) (aI md (aI md (aI md (aI (dn cN x.Sig.Type_.Pred.Kids) (aI (dn cN x.Sig.Type_.Preds) (aI (dn cN x.Sig.Metric) trivial)))))))))))))))))))))))))
abbrev qka(x:d5):U:=.agg (aV x)
instance qGt{x:d5}:K0l (aV x):=⟨UW x⟩
instance qGo:KE aV:=⟨UW⟩
def qbN(x:d5):(aV x).length=25:=by rw[fl];rfl
def Re(x:d5):bH (.agg (aV x))=O (aV x):=rfl
def qiC(x:d5):bH (qka x)=O (aV x):=rfl
abbrev qn4(x:d5):V U:=[.str x.Name,sl cS x.Params,.i6 x.Body.Op,.str x.Body.Name,.i6 x.Body.N,sl ak x.Body.Kids,sl bk x.Body.Params,sl bL x.Body.Alts,sl al x.Body.Types,.i6 x.Mode,.bool x.Typed,sl cS x.Sig.Vars,sl cr x.Sig.Needs,sl fP x.Sig.Abs,sl bU x.Sig.Bounds,.i6 x.Sig.Type_.Op,.str x.Sig.Type_.Name,sl al x.Sig.Type_.Args,sl cS x.Sig.Type_.Names,.i6 x.Sig.Type_.Pred.Op,.str x.Sig.Type_.Pred.Name,.i6 x.Sig.Type_.Pred.N,sl ag x.Sig.Type_.Pred.Kids,sl ag x.Sig.Type_.Preds,sl ag x.Sig.Metric]
def Qn(x:d5):bH (.agg (aV x))=O (qn4 x):=mx O (fl x)
def qoP(x:d5):∀q∈aV x,q.one=true:=by intro q a;rw[fl]at a;simp only[oL,vaW,or_false]at a;rcases a with rfl|rfl|rfl|rfl|rfl|rfl|rfl|rfl|rfl|rfl|rfl|rfl|rfl|rfl|rfl|rfl|rfl|rfl|rfl|rfl|rfl|rfl|rfl|rfl|rfl<;>rfl
def qq3:Pg.cellsOf 58=25:=by kernel_rfl
def Ao(x:d5):co Pg 58 (aV x)=O (.agg (aV x)):=by have:=fb (P:=Pg) (t:=58) (l:=aV x) (r:=[]) (by kernel_rfl) (qq3.trans (qbN x).symm);rwa[vh]at this
def Qf(x:d5)(r:V U):co Pg 58 ((qn4 x)++r)=O (.agg (aV x)):=(mx (λl=>co Pg 58 (l++r)) (fl x).symm).trans (fb (by kernel_rfl) (qq3.trans (qbN x).symm))
def qdq(a:ae)(b:V ae)(c:aj):df Pg 58 [(0,.str a),(1,sl cS b),(2,.agg (ak c))]=O (.agg (aV (⟨a,b,c,0,Z,⟨[],[],[],[],⟨0,[],[],[],⟨0,[],0,[]⟩,[]⟩,[]⟩⟩:d5))):=by simp only[fl,cO];kernel_rfl
def qdo(b:ae)(c:V ae)(a:aj):Ce Pg 58 [(0,.str b),(1,sl cS c),(2,.agg (ak a))] [(11,9),(12,159),(13,166),(14,168),(17,30),(18,9),(22,28),(23,28),(24,28)]:=by simp only[cO];exact⟨[.str b,sl cS c,.i6 a.Op,.str a.Name,.i6 a.N,sl ak a.Kids,sl bk a.Params,sl bL a.Alts,sl al a.Types,.i6 0,.bool Z,.val fG,.val fG,.val fG,.val fG,.i6 0,.str ([]:ae),.val fG,.val fG,.i6 0,.str ([]:ae),.i6 0,.val fG,.val fG,.val fG],by kernel_rfl,(aI rfl (aI rfl (aI rfl (aI rfl (aI rfl (aI rfl (aI rfl (aI rfl (aI rfl md)))))))))⟩
def qhC(a:ae)(b:aj):df Pg 58 [(0,.str a),(2,.agg (ak b))]=O (.agg (aV (⟨a,[],b,0,Z,⟨[],[],[],[],⟨0,[],[],[],⟨0,[],0,[]⟩,[]⟩,[]⟩⟩:d5))):=by simp only[fl,cO];kernel_rfl
def qhA(b:ae)(a:aj):Ce Pg 58 [(0,.str b),(2,.agg (ak a))] [(1,9),(11,9),(12,159),(13,166),(14,168),(17,30),(18,9),(22,28),(23,28),(24,28)]:=by simp only[cO];exact⟨[.str b,.val fG,.i6 a.Op,.str a.Name,.i6 a.N,sl ak a.Kids,sl bk a.Params,sl bL a.Alts,sl al a.Types,.i6 0,.bool Z,.val fG,.val fG,.val fG,.val fG,.i6 0,.str ([]:ae),.val fG,.val fG,.i6 0,.str ([]:ae),.i6 0,.val fG,.val fG,.val fG],by kernel_rfl,(aI rfl (aI rfl (aI rfl (aI rfl (aI rfl (aI rfl (aI rfl (aI rfl (aI rfl (aI rfl md))))))))))⟩
def JR(x:d5):kP 58 (aV x) 0 0/\kw 9 (aV x) 0 (.str x.Name):=⟨kU (by rw[fl];kernel_rfl),kN (by rw[fl];kernel_rfl)⟩
def pX(x:d5):kP 58 (aV x) 1 1/\kw 24 (aV x) 1 (sl cS x.Params):=⟨kU (by rw[fl];kernel_rfl),kN (by rw[fl];kernel_rfl)⟩
def i7(x:d5):kP 58 (aV x) 2 2/\kw 36 (aV x) 2 (.agg (ak x.Body)):=⟨kU (by rw[fl];kernel_rfl),kN (by rw[fl,cO];kernel_rfl)⟩
def eU(x:d5):kP 58 (aV x) 3 9/\kw 51 (aV x) 9 (.i6 x.Mode):=⟨kU (by rw[fl];kernel_rfl),kN (by rw[fl];kernel_rfl)⟩
def pY(x:d5):kP 58 (aV x) 4 10/\kw 4 (aV x) 10 (.bool x.Typed):=⟨kU (by rw[fl];kernel_rfl),kN (by rw[fl];kernel_rfl)⟩
def LP(x:d5):kP 58 (aV x) 5 11:=kU (by rw[fl];kernel_rfl)
def Fw(x:d5):kP 58 (aV x) 5 11/\kw 56 (aV x) 11 (.agg (cu x.Sig)):=⟨kU (by rw[fl];kernel_rfl),kN (by rw[fl,lk];kernel_rfl)⟩
def Zh(x:d5):lR Pg 56 (.eptr ((aV x).drop 11)) 3=O (.eptr ((aV x).drop 14)):=by rw[fl];kernel_rfl
def Zi(x:d5):lR Pg 56 (.eptr ((aV x).drop 11)) 4=O (.eptr ((aV x).drop 15)):=by rw[fl];kernel_rfl
def Zj(x:d5):lR Pg 56 (.eptr ((aV x).drop 11)) 5=O (.eptr ((aV x).drop 24)):=by rw[fl];kernel_rfl
def qdD(x:d5):kw 54 (aV x) 14 (sl bU x.Sig.Bounds):=kN (by rw[fl];kernel_rfl)
def qdE(x:d5):kw 30 (aV x) 15 (.agg (al x.Sig.Type_)):=kN (by rw[fl,cY];kernel_rfl)
def qdF(x:d5):kw 26 (aV x) 24 (sl ag x.Sig.Metric):=kN (by rw[fl];kernel_rfl)
structure cW where
 Class:ae
 Type_:am
 Needs:(List iP)
 Defs:(List d5)
def aX(x:cW):V U:=[.str x.Class]++(al x.Type_++([sl cr x.Needs,sl aV x.Defs]))
def eT(x:cW):aX x=[.str x.Class,.i6 x.Type_.Op,.str x.Type_.Name,sl al x.Type_.Args,sl cS x.Type_.Names,.i6 x.Type_.Pred.Op,.str x.Type_.Pred.Name,.i6 x.Type_.Pred.N,sl ag x.Type_.Pred.Kids,sl ag x.Type_.Preds,sl cr x.Needs,sl aV x.Defs]:=by unfold aX;simp only[cY,vaN,va6]
def DK(x:cW):kT 0 (aX x):=by rw[eT];exact(aI md (aI md (aI md (aI (dn oD x.Type_.Args) (aI (dn qi4 x.Type_.Names) (aI md (aI md (aI md (aI (dn cN x.Type_.Pred.Kids) (aI (dn cN x.Type_.Preds) (aI (dn P5 x.Needs) (aI (dn UW x.Defs) trivial))))))))))))
instance qFL{x:cW}:K0l (aX x):=⟨DK x⟩
instance qFK:KE aX:=⟨DK⟩
def IU(x:cW):(aX x).length=12:=by rw[eT];rfl
def Vu(x:cW):bH (.agg (aX x))=O (aX x):=rfl
abbrev X7(x:cW):V U:=[.str x.Class,.i6 x.Type_.Op,.str x.Type_.Name,sl al x.Type_.Args,sl cS x.Type_.Names,.i6 x.Type_.Pred.Op,.str x.Type_.Pred.Name,.i6 x.Type_.Pred.N,sl ag x.Type_.Pred.Kids,sl ag x.Type_.Preds,sl cr x.Needs,sl aV x.Defs]
def IY(x:cW):bH (.agg (aX x))=O (X7 x):=mx O (eT x)
def qdL(x:cW):∀q∈aX x,q.one=true:=by intro q a;rw[eT]at a;simp only[oL,vaW,or_false]at a;rcases a with rfl|rfl|rfl|rfl|rfl|rfl|rfl|rfl|rfl|rfl|rfl|rfl<;>rfl
def qq4:Pg.cellsOf 88=12:=by kernel_rfl
def LW(x:cW):co Pg 88 (aX x)=O (.agg (aX x)):=by have:=fb (P:=Pg) (t:=88) (l:=aX x) (r:=[]) (by kernel_rfl) (qq4.trans (IU x).symm);rwa[vh]at this
def SN(x:cW)(r:V U):co Pg 88 ((X7 x)++r)=O (.agg (aX x)):=(mx (λl=>co Pg 88 (l++r)) (eT x).symm).trans (fb (by kernel_rfl) (qq4.trans (IU x).symm))
def yY(x:cW):kP 88 (aX x) 0 0/\kw 9 (aX x) 0 (.str x.Class):=⟨kU (by rw[eT];kernel_rfl),kN (by rw[eT];kernel_rfl)⟩
def n5(x:cW):kP 88 (aX x) 1 1/\kw 30 (aX x) 1 (.agg (al x.Type_)):=⟨kU (by rw[eT];kernel_rfl),kN (by rw[eT,cY];kernel_rfl)⟩
def i8(x:cW):kP 88 (aX x) 2 10/\kw 52 (aX x) 10 (sl cr x.Needs):=⟨kU (by rw[eT];kernel_rfl),kN (by rw[eT];kernel_rfl)⟩
def vW(x:cW):kP 88 (aX x) 3 11/\kw 48 (aX x) 11 (sl aV x.Defs):=⟨kU (by rw[eT];kernel_rfl),kN (by rw[eT];kernel_rfl)⟩
structure BM where
 Con:ae
 Names:(List ae)
 Body:ah
def eE(x:BM):V U:=[.str x.Con,sl cS x.Names]++(ag x.Body)
def P7(x:BM):eE x=[.str x.Con,sl cS x.Names,.i6 x.Body.Op,.str x.Body.Name,.i6 x.Body.N,sl ag x.Body.Kids]:=by unfold eE;simp only[bP,vaN,va6]
def qbk(x:BM):kT 0 (eE x):=by rw[P7];exact(aI md (aI (dn qi4 x.Names) (aI md (aI md (aI md (aI (dn cN x.Body.Kids) trivial))))))
instance qFY:KE eE:=⟨qbk⟩
def qeq(x:BM):(eE x).length=6:=by rw[P7];rfl
abbrev qrd(x:BM):V U:=[.str x.Con,sl cS x.Names,.i6 x.Body.Op,.str x.Body.Name,.i6 x.Body.N,sl ag x.Body.Kids]
def qeG(x:BM):bH (.agg (eE x))=O (qrd x):=mx O (P7 x)
def qmp(x:BM):∀q∈eE x,q.one=true:=by intro q a;rw[P7]at a;simp only[oL,vaW,or_false]at a;rcases a with rfl|rfl|rfl|rfl|rfl|rfl<;>rfl
def qnL:Pg.cellsOf 138=6:=by kernel_rfl
def qih(x:BM):co Pg 138 (eE x)=O (.agg (eE x)):=by have:=fb (P:=Pg) (t:=138) (l:=eE x) (r:=[]) (by kernel_rfl) (qnL.trans (qeq x).symm);rwa[vh]at this
structure dq where
 Name:ae
 Data:ae
 Result:ae
 Cases:(List BM)
 Inv:ah
def aZ(x:dq):V U:=[.str x.Name,.str x.Data,.str x.Result,sl eE x.Cases]++(ag x.Inv)
def eR(x:dq):aZ x=[.str x.Name,.str x.Data,.str x.Result,sl eE x.Cases,.i6 x.Inv.Op,.str x.Inv.Name,.i6 x.Inv.N,sl ag x.Inv.Kids]:=by unfold aZ;simp only[bP,vaN,va6]
def HE(x:dq):kT 0 (aZ x):=by rw[eR];exact(aI md (aI md (aI md (aI (dn qbk x.Cases) (aI md (aI md (aI md (aI (dn cN x.Inv.Kids) trivial))))))))
instance qFN{x:dq}:K0l (aZ x):=⟨HE x⟩
instance qFM:KE aZ:=⟨HE⟩
def LU(x:dq):(aZ x).length=8:=by rw[eR];rfl
def Ym(x:dq):bH (.agg (aZ x))=O (aZ x):=rfl
abbrev qbq(x:dq):V U:=[.str x.Name,.str x.Data,.str x.Result,sl eE x.Cases,.i6 x.Inv.Op,.str x.Inv.Name,.i6 x.Inv.N,sl ag x.Inv.Kids]
def Vv(x:dq):bH (.agg (aZ x))=O (qbq x):=mx O (eR x)
def qgz(x:dq):∀q∈aZ x,q.one=true:=by intro q a;rw[eR]at a;simp only[oL,vaW,or_false]at a;rcases a with rfl|rfl|rfl|rfl|rfl|rfl|rfl|rfl<;>rfl
def qkn:Pg.cellsOf 103=8:=by kernel_rfl
def Yg(x:dq):co Pg 103 (aZ x)=O (.agg (aZ x)):=by have:=fb (P:=Pg) (t:=103) (l:=aZ x) (r:=[]) (by kernel_rfl) (qkn.trans (LU x).symm);rwa[vh]at this
def Vd(x:dq)(r:V U):co Pg 103 ((qbq x)++r)=O (.agg (aZ x)):=(mx (λl=>co Pg 103 (l++r)) (eR x).symm).trans (fb (by kernel_rfl) (qkn.trans (LU x).symm))
def yZ(x:dq):kP 103 (aZ x) 0 0/\kw 9 (aZ x) 0 (.str x.Name):=⟨kU (by rw[eR];kernel_rfl),kN (by rw[eR];kernel_rfl)⟩
def y0(x:dq):kP 103 (aZ x) 1 1/\kw 9 (aZ x) 1 (.str x.Data):=⟨kU (by rw[eR];kernel_rfl),kN (by rw[eR];kernel_rfl)⟩
def vX(x:dq):kP 103 (aZ x) 2 2/\kw 100 (aZ x) 2 (.str x.Result):=⟨kU (by rw[eR];kernel_rfl),kN (by rw[eR];kernel_rfl)⟩
def ja(x:dq):kP 103 (aZ x) 3 3/\kw 101 (aZ x) 3 (sl eE x.Cases):=⟨kU (by rw[eR];kernel_rfl),kN (by rw[eR];kernel_rfl)⟩
def jH(x:dq):kP 103 (aZ x) 4 4/\kw 28 (aZ x) 4 (.agg (ag x.Inv)):=⟨kU (by rw[eR];kernel_rfl),kN (by rw[eR,bP];kernel_rfl)⟩
structure lG where
 Name:ae
 Vars:(List pG)
 Body:ah
def cX(x:lG):V U:=[.str x.Name,sl cp x.Vars]++(ag x.Body)
def oE(x:lG):cX x=[.str x.Name,sl cp x.Vars,.i6 x.Body.Op,.str x.Body.Name,.i6 x.Body.N,sl ag x.Body.Kids]:=by unfold cX;simp only[bP,vaN,va6]
def UX(x:lG):kT 0 (cX x):=by rw[oE];exact(aI md (aI (dn UY x.Vars) (aI md (aI md (aI md (aI (dn cN x.Body.Kids) trivial))))))
instance qGi{x:lG}:K0l (cX x):=⟨UX x⟩
instance qGd:KE cX:=⟨UX⟩
def W6(x:lG):(cX x).length=6:=by rw[oE];rfl
def qiE(x:lG):bH (.agg (cX x))=O (cX x):=rfl
abbrev qky(x:lG):V U:=[.str x.Name,sl cp x.Vars,.i6 x.Body.Op,.str x.Body.Name,.i6 x.Body.N,sl ag x.Body.Kids]
def qeI(x:lG):bH (.agg (cX x))=O (qky x):=mx O (oE x)
def qmu(x:lG):∀q∈cX x,q.one=true:=by intro q a;rw[oE]at a;simp only[oL,vaW,or_false]at a;rcases a with rfl|rfl|rfl|rfl|rfl|rfl<;>rfl
def qko:Pg.cellsOf 106=6:=by kernel_rfl
def qij(x:lG):co Pg 106 (cX x)=O (.agg (cX x)):=by have:=fb (P:=Pg) (t:=106) (l:=cX x) (r:=[]) (by kernel_rfl) (qko.trans (W6 x).symm);rwa[vh]at this
def qev(x:lG)(r:V U):co Pg 106 ((qky x)++r)=O (.agg (cX x)):=(mx (λl=>co Pg 106 (l++r)) (oE x).symm).trans (fb (by kernel_rfl) (qko.trans (W6 x).symm))
def Fx(x:lG):kP 106 (cX x) 0 0/\kw 9 (cX x) 0 (.str x.Name):=⟨kU (by rw[oE];kernel_rfl),kN (by rw[oE];kernel_rfl)⟩
def mr(x:lG):kP 106 (cX x) 1 1/\kw 89 (cX x) 1 (sl cp x.Vars):=⟨kU (by rw[oE];kernel_rfl),kN (by rw[oE];kernel_rfl)⟩
def Dl(x:lG):kP 106 (cX x) 2 2/\kw 28 (cX x) 2 (.agg (ag x.Body)):=⟨kU (by rw[oE];kernel_rfl),kN (by rw[oE,bP];kernel_rfl)⟩
structure dt where
 Datas:(List jE)
 Classes:(List fI)
 Instances:(List cW)
 Measures:(List dq)
 Quals:(List lG)
 Defs:(List d5)
def bo(x:dt):V U:=[sl cq x.Datas,sl ce x.Classes,sl aX x.Instances,sl aZ x.Measures,sl cX x.Quals,sl aV x.Defs]
def qbu(x:dt):bo x=[sl cq x.Datas,sl ce x.Classes,sl aX x.Instances,sl aZ x.Measures,sl cX x.Quals,sl aV x.Defs]:=rfl
def qjl(x:dt):kT 0 (bo x):=(aI (dn UV x.Datas) (aI (dn QZ x.Classes) (aI (dn DK x.Instances) (aI (dn HE x.Measures) (aI (dn UX x.Quals) (aI (dn UW x.Defs) trivial))))))
instance qFP{x:dt}:K0l (bo x):=⟨qjl x⟩
def qid(x:dt):(bo x).length=6:=by rw[qbu];rfl
def L2(x:dt):bH (.agg (bo x))=O (bo x):=rfl
def qzI:Pg.cellsOf 50=6:=by kernel_rfl
def Ty(x:dt):co Pg 50 (bo x)=O (.agg (bo x)):=by have:=fb (P:=Pg) (t:=50) (l:=bo x) (r:=[]) (by kernel_rfl) (qzI.trans (qid x).symm);rwa[vh]at this
def qfO(a:V d5):df Pg 50 [(5,sl aV a)]=O (.agg (bo (⟨[],[],[],[],[],a⟩:dt))):=by kernel_rfl
def qfI(a:V d5):Ce Pg 50 [(5,sl aV a)] [(0,92),(1,97),(2,88),(3,103),(4,106)]:=by exact⟨[.val fG,.val fG,.val fG,.val fG,.val fG,sl aV a],by kernel_rfl,(aI rfl (aI rfl (aI rfl (aI rfl (aI rfl md)))))⟩
def qI(x:dt):kP 50 (bo x) 0 0/\kw 43 (bo x) 0 (sl cq x.Datas):=⟨kU (by kernel_rfl),kN (by kernel_rfl)⟩
def qJ(x:dt):kP 50 (bo x) 1 1/\kw 44 (bo x) 1 (sl ce x.Classes):=⟨kU (by kernel_rfl),kN (by kernel_rfl)⟩
def ll(x:dt):kP 50 (bo x) 2 2/\kw 45 (bo x) 2 (sl aX x.Instances):=⟨kU (by kernel_rfl),kN (by kernel_rfl)⟩
def qK(x:dt):kP 50 (bo x) 3 3/\kw 46 (bo x) 3 (sl aZ x.Measures):=⟨kU (by kernel_rfl),kN (by kernel_rfl)⟩
def qL(x:dt):kP 50 (bo x) 4 4/\kw 47 (bo x) 4 (sl cX x.Quals):=⟨kU (by kernel_rfl),kN (by kernel_rfl)⟩
def qM(x:dt):kP 50 (bo x) 5 5/\kw 48 (bo x) 5 (sl aV x.Defs):=⟨kU (by kernel_rfl),kN (by kernel_rfl)⟩
structure aS where
 level:Int
 left:Int
 right:Int
 sign:ae
deriving DecidableEq
def gU(x:aS):V U:=[.i6 x.level,.i6 x.left,.i6 x.right,.str x.sign]
def JP(x:aS):gU x=[.i6 x.level,.i6 x.left,.i6 x.right,.str x.sign]:=rfl
def WV(x:aS):kT 0 (gU x):=(aI md (aI md (aI md (aI md md))))
instance qFc{x:aS}:K0l (gU x):=⟨WV x⟩
abbrev Nj(x:aS):V U:=[.i6 x.level,.i6 x.left,.i6 x.right,.str x.sign]
def db(x:aS):bH (.agg (gU x))=O (Nj x):=mx O (JP x)
def dF(x:aS):PVal.agg (Nj x)=.agg (gU x):=mx PVal.agg (JP x).symm
def Tj:df Pg 193 []=O (.agg (gU (⟨0,0,0,[]⟩:aS))):=by kernel_rfl
def ct(a b c:Int)(d:ae):df Pg 193 [(0,.i6 a),(1,.i6 b),(2,.i6 c),(3,.str d)]=O (.agg (gU (⟨a,b,c,d⟩:aS))):=by kernel_rfl
structure aD where
 n:Bool
 name:Bool
 least:Int
 most:Int
 params:Bool
 alts:Bool
 typesLeast:Int
 typesMost:Int
 types:Bool
deriving DecidableEq
def aU(x:aD):V U:=[.bool x.n,.bool x.name,.i6 x.least,.i6 x.most,.bool x.params,.bool x.alts,.i6 x.typesLeast,.i6 x.typesMost,.bool x.types]
def uW(x:aD):aU x=[.bool x.n,.bool x.name,.i6 x.least,.i6 x.most,.bool x.params,.bool x.alts,.i6 x.typesLeast,.i6 x.typesMost,.bool x.types]:=rfl
def Zf(x:aD):kT 0 (aU x):=(aI md (aI md (aI md (aI md (aI md (aI md (aI md (aI md (aI md md)))))))))
instance qFv{x:aD}:K0l (aU x):=⟨Zf x⟩
def W2(x:aD):(aU x).length=9:=by rw[uW];rfl
def Nu(x:aD):bH (.agg (aU x))=O (aU x):=rfl
abbrev Fo(x:aD):V U:=[.bool x.n,.bool x.name,.i6 x.least,.i6 x.most,.bool x.params,.bool x.alts,.i6 x.typesLeast,.i6 x.typesMost,.bool x.types]
def dp(x:aD):bH (.agg (aU x))=O (Fo x):=mx O (uW x)
def qvW:Pg.cellsOf 176=9:=by kernel_rfl
def JX(x:aD)(r:V U):co Pg 176 ((Fo x)++r)=O (.agg (aU x)):=(mx (λl=>co Pg 176 (l++r)) (uW x).symm).trans (fb (by kernel_rfl) (qvW.trans (W2 x).symm))
def dC(x:aD):PVal.agg (Fo x)=.agg (aU x):=mx PVal.agg (uW x).symm
def UR:df Pg 176 []=O (.agg (aU (⟨Z,Z,0,0,Z,Z,0,0,Z⟩:aD))):=by kernel_rfl
def UP(a:K):df Pg 176 [(0,.bool a)]=O (.agg (aU (⟨a,Z,0,0,Z,Z,0,0,Z⟩:aD))):=by kernel_rfl
def N6(a:K)(b c:Int):df Pg 176 [(1,.bool a),(2,.i6 b),(3,.i6 c)]=O (.agg (aU (⟨Z,a,b,c,Z,Z,0,0,Z⟩:aD))):=by kernel_rfl
def sj(a:K)(b c:Int)(e:K)(d:Int):df Pg 176 [(1,.bool a),(2,.i6 b),(3,.i6 c),(8,.bool e),(7,.i6 d)]=O (.agg (aU (⟨Z,a,b,c,Z,Z,0,d,e⟩:aD))):=by kernel_rfl
def JI(a:K)(b:Int)(d:K)(c:Int):df Pg 176 [(1,.bool a),(3,.i6 b),(8,.bool d),(7,.i6 c)]=O (.agg (aU (⟨Z,a,0,b,Z,Z,0,c,d⟩:aD))):=by kernel_rfl
def UQ(a:K):df Pg 176 [(1,.bool a)]=O (.agg (aU (⟨Z,a,0,0,Z,Z,0,0,Z⟩:aD))):=by kernel_rfl
def sY(a b:Int):df Pg 176 [(2,.i6 a),(3,.i6 b)]=O (.agg (aU (⟨Z,Z,a,b,Z,Z,0,0,Z⟩:aD))):=by kernel_rfl
def GF(a b:Int)(e:K)(c d:Int):df Pg 176 [(2,.i6 a),(3,.i6 b),(8,.bool e),(6,.i6 c),(7,.i6 d)]=O (.agg (aU (⟨Z,Z,a,b,Z,Z,c,d,e⟩:aD))):=by kernel_rfl
def N7(c:K)(a b:Int):df Pg 176 [(4,.bool c),(2,.i6 a),(3,.i6 b)]=O (.agg (aU (⟨Z,Z,a,b,c,Z,0,0,Z⟩:aD))):=by kernel_rfl
def N8(c:K)(a b:Int):df Pg 176 [(5,.bool c),(2,.i6 a),(3,.i6 b)]=O (.agg (aU (⟨Z,Z,a,b,Z,c,0,0,Z⟩:aD))):=by kernel_rfl
def GJ(x:aD):kP 176 (aU x) 1 1/\kw 4 (aU x) 1 (.bool x.name):=⟨kU (by kernel_rfl),kN (by kernel_rfl)⟩
def GK(x:aD):kP 176 (aU x) 2 2/\kw 3 (aU x) 2 (.i6 x.least):=⟨kU (by kernel_rfl),kN (by kernel_rfl)⟩
def GL(x:aD):kP 176 (aU x) 3 3/\kw 3 (aU x) 3 (.i6 x.most):=⟨kU (by kernel_rfl),kN (by kernel_rfl)⟩
def GM(x:aD):kP 176 (aU x) 4 4/\kw 4 (aU x) 4 (.bool x.params):=⟨kU (by kernel_rfl),kN (by kernel_rfl)⟩
def sk(x:aD):kP 176 (aU x) 5 5/\kw 4 (aU x) 5 (.bool x.alts):=⟨kU (by kernel_rfl),kN (by kernel_rfl)⟩
def GN(x:aD):kP 176 (aU x) 6 6/\kw 3 (aU x) 6 (.i6 x.typesLeast):=⟨kU (by kernel_rfl),kN (by kernel_rfl)⟩
def GO(x:aD):kP 176 (aU x) 7 7/\kw 3 (aU x) 7 (.i6 x.typesMost):=⟨kU (by kernel_rfl),kN (by kernel_rfl)⟩
structure eY where
 S:ae
 Bad:Bool
deriving DecidableEq
def kS(x:eY):V U:=[.str x.S,.bool x.Bad]
def Fq(x:eY):kS x=[.str x.S,.bool x.Bad]:=rfl
def p6(x:eY):bH (.agg (kS x))=O [.str x.S,.bool x.Bad]:=mx O (Fq x)
def oC:df Pg 81 []=O (.agg (kS (⟨[],Z⟩:eY))):=by kernel_rfl
structure wy where
 Neg:Bool
 Digits:(List Int)
deriving DecidableEq
def gw(x:wy):V U:=[.bool x.Neg,sl (cI .i64) x.Digits]
def qf1(x:wy):gw x=[.bool x.Neg,sl (cI .i64) x.Digits]:=rfl
def qqX(x:wy):kT 0 (gw x):=(aI md (aI (dn (qw9 .i64) x.Digits) trivial))
instance qGr{x:wy}:K0l (gw x):=⟨qqX x⟩
def qop(x:wy):(gw x).length=2:=by rw[qf1];rfl
def Z8(x:wy):bH (.agg (gw x))=O (gw x):=rfl
def qoZ(x:wy):bH (.agg (gw x))=O [.bool x.Neg,sl (cI .i64) x.Digits]:=mx O (qf1 x)
def qvY:Pg.cellsOf 217=2:=by kernel_rfl
def Z2(x:wy):co Pg 217 (gw x)=O (.agg (gw x)):=by have:=fb (P:=Pg) (t:=217) (l:=gw x) (r:=[]) (by kernel_rfl) (qvY.trans (qop x).symm);rwa[vh]at this
def qpA(x:wy):PVal.agg [.bool x.Neg,sl (cI .i64) x.Digits]=.agg (gw x):=mx PVal.agg (qf1 x).symm
def qhB(a:K)(b:V Int):df Pg 217 [(0,.bool a),(1,sl (cI .i64) b)]=O (.agg (gw (⟨a,b⟩:wy))):=by kernel_rfl
def HH(x:wy):kP 217 (gw x) 0 0/\kw 4 (gw x) 0 (.bool x.Neg):=⟨kU (by kernel_rfl),kN (by kernel_rfl)⟩
def gN(x:wy):kP 217 (gw x) 1 1/\kw 215 (gw x) 1 (sl (cI .i64) x.Digits):=⟨kU (by kernel_rfl),kN (by kernel_rfl)⟩
structure aq where
 n:Bool
 name:Bool
 least:Int
 most:Int
 params:Bool
 alts:Bool
 types:Bool
 exactly:Bool
 ok:Bool
deriving DecidableEq
def az(x:aq):V U:=[.bool x.n,.bool x.name,.i6 x.least,.i6 x.most,.bool x.params,.bool x.alts,.bool x.types,.bool x.exactly,.bool x.ok]
def iY(x:aq):az x=[.bool x.n,.bool x.name,.i6 x.least,.i6 x.most,.bool x.params,.bool x.alts,.bool x.types,.bool x.exactly,.bool x.ok]:=rfl
def JL(x:aq):kT 0 (az x):=(aI md (aI md (aI md (aI md (aI md (aI md (aI md (aI md (aI md md)))))))))
instance qDx{x:aq}:K0l (az x):=⟨JL x⟩
def IT(x:aq):(az x).length=9:=by rw[iY];rfl
def wb(x:aq):bH (.agg (az x))=O (az x):=rfl
abbrev nV(x:aq):V U:=[.bool x.n,.bool x.name,.i6 x.least,.i6 x.most,.bool x.params,.bool x.alts,.bool x.types,.bool x.exactly,.bool x.ok]
def bN(x:aq):bH (.agg (az x))=O (nV x):=mx O (iY x)
def qvX:Pg.cellsOf 208=9:=by kernel_rfl
def uk(x:aq)(r:V U):co Pg 208 ((nV x)++r)=O (.agg (az x)):=(mx (λl=>co Pg 208 (l++r)) (iY x).symm).trans (fb (by kernel_rfl) (qvX.trans (IT x).symm))
def bR(x:aq):PVal.agg (nV x)=.agg (az x):=mx PVal.agg (iY x).symm
def GD:df Pg 208 []=O (.agg (az (⟨Z,Z,0,0,Z,Z,Z,Z,Z⟩:aq))):=by kernel_rfl
def DI(b a:K):df Pg 208 [(8,.bool b),(0,.bool a)]=O (.agg (az (⟨a,Z,0,0,Z,Z,Z,Z,b⟩:aq))):=by kernel_rfl
def DJ(b a:K):df Pg 208 [(8,.bool b),(1,.bool a)]=O (.agg (az (⟨Z,a,0,0,Z,Z,Z,Z,b⟩:aq))):=by kernel_rfl
def yC(d a:K)(b c:Int):df Pg 208 [(8,.bool d),(1,.bool a),(2,.i6 b),(3,.i6 c)]=O (.agg (az (⟨Z,a,b,c,Z,Z,Z,Z,d⟩:aq))):=by kernel_rfl
def kO(e a:K)(b c:Int)(d:K):df Pg 208 [(8,.bool e),(1,.bool a),(2,.i6 b),(3,.i6 c),(6,.bool d)]=O (.agg (az (⟨Z,a,b,c,Z,Z,d,Z,e⟩:aq))):=by kernel_rfl
def yD(d a:K)(b:Int)(c:K):df Pg 208 [(8,.bool d),(1,.bool a),(3,.i6 b),(6,.bool c)]=O (.agg (az (⟨Z,a,0,b,Z,Z,c,Z,d⟩:aq))):=by kernel_rfl
def iG(c:K)(a b:Int):df Pg 208 [(8,.bool c),(2,.i6 a),(3,.i6 b)]=O (.agg (az (⟨Z,Z,a,b,Z,Z,Z,Z,c⟩:aq))):=by kernel_rfl
def wq(e:K)(a b:Int)(c d:K):df Pg 208 [(8,.bool e),(2,.i6 a),(3,.i6 b),(6,.bool c),(7,.bool d)]=O (.agg (az (⟨Z,Z,a,b,Z,Z,c,d,e⟩:aq))):=by kernel_rfl
def yE(d c:K)(a b:Int):df Pg 208 [(8,.bool d),(4,.bool c),(2,.i6 a),(3,.i6 b)]=O (.agg (az (⟨Z,Z,a,b,c,Z,Z,Z,d⟩:aq))):=by kernel_rfl
def yF(d c:K)(a b:Int):df Pg 208 [(8,.bool d),(5,.bool c),(2,.i6 a),(3,.i6 b)]=O (.agg (az (⟨Z,Z,a,b,Z,c,Z,Z,d⟩:aq))):=by kernel_rfl
def wr(x:aq):kP 208 (az x) 1 1/\kw 4 (az x) 1 (.bool x.name):=⟨kU (by kernel_rfl),kN (by kernel_rfl)⟩
def wt(x:aq):kP 208 (az x) 2 2/\kw 3 (az x) 2 (.i6 x.least):=⟨kU (by kernel_rfl),kN (by kernel_rfl)⟩
def wu(x:aq):kP 208 (az x) 3 3/\kw 3 (az x) 3 (.i6 x.most):=⟨kU (by kernel_rfl),kN (by kernel_rfl)⟩
def wv(x:aq):kP 208 (az x) 4 4/\kw 4 (az x) 4 (.bool x.params):=⟨kU (by kernel_rfl),kN (by kernel_rfl)⟩
def ww(x:aq):kP 208 (az x) 5 5/\kw 4 (az x) 5 (.bool x.alts):=⟨kU (by kernel_rfl),kN (by kernel_rfl)⟩
def wx(x:aq):kP 208 (az x) 7 7/\kw 4 (az x) 7 (.bool x.exactly):=⟨kU (by kernel_rfl),kN (by kernel_rfl)⟩
def cQ:SE Pg 23 30 al:=⟨underlying23,λx=>(W7 x).trans qq1.symm,by kernel_rfl,by rw[qq1];decide,by kernel_rfl,vaL (by kernel_rfl),qmv,oD⟩
def qtD:Pg.cellsOf 9=1:=by kernel_rfl
def dX:SE Pg 24 9 cS:=⟨underlying24,λ_=>qtD.symm,by kernel_rfl,by rw[qtD];decide,by kernel_rfl,vaL (by kernel_rfl),qzW,qi4⟩
def dN:SE Pg 26 28 ag:=⟨underlying26,λx=>(W5 x).trans qq0.symm,by kernel_rfl,by rw[qq0];decide,by kernel_rfl,vaL (by kernel_rfl),qmt,cN⟩
def dO:SE Pg 32 36 ak:=⟨underlying32,λx=>(W4 x).trans qq2.symm,by kernel_rfl,by rw[qq2];decide,by kernel_rfl,vaL (by kernel_rfl),qmr,JN⟩
def kl:SE Pg 33 114 bk:=⟨underlying33,λx=>(Tx x).trans qkp.symm,by kernel_rfl,by rw[qkp];decide,by kernel_rfl,vaL (by kernel_rfl),qjO,JO⟩
def fT:SE Pg 34 116 bL:=⟨underlying34,λx=>(qbL x).trans qkq.symm,by kernel_rfl,by rw[qkq];decide,by kernel_rfl,vaL (by kernel_rfl),qoN,UU⟩
def qpL:SE Pg 43 92 cq:=⟨underlying43,λx=>(W3 x).trans qq5.symm,by kernel_rfl,by rw[qq5];decide,by kernel_rfl,vaL (by kernel_rfl),qmq,UV⟩
def qpM:SE Pg 44 97 ce:=⟨underlying44,λx=>(Tw x).trans qq6.symm,by kernel_rfl,by rw[qq6];decide,by kernel_rfl,vaL (by kernel_rfl),qjN,QZ⟩
def qj3:SE Pg 45 88 aX:=⟨underlying45,λx=>(IU x).trans qq4.symm,by kernel_rfl,by rw[qq4];decide,by kernel_rfl,vaL (by kernel_rfl),qdL,DK⟩
def qpN:SE Pg 46 103 aZ:=⟨underlying46,λx=>(LU x).trans qkn.symm,by kernel_rfl,by rw[qkn];decide,by kernel_rfl,vaL (by kernel_rfl),qgz,HE⟩
def qpO:SE Pg 47 106 cX:=⟨underlying47,λx=>(W6 x).trans qko.symm,by kernel_rfl,by rw[qko];decide,by kernel_rfl,vaL (by kernel_rfl),qmu,UX⟩
def R6:SE Pg 48 58 aV:=⟨underlying48,λx=>(qbN x).trans qq3.symm,by kernel_rfl,by rw[qq3];decide,by kernel_rfl,vaL (by kernel_rfl),qoP,UW⟩
def qgX:SE Pg 52 159 cr:=⟨underlying52,λx=>(qer x).trans qnN.symm,by kernel_rfl,by rw[qnN];decide,by kernel_rfl,vaL (by kernel_rfl),qms,P5⟩
def qj4:SE Pg 53 166 fP:=⟨underlying53,λx=>(qic x).trans qnO.symm,by kernel_rfl,by rw[qnO];decide,by kernel_rfl,vaL (by kernel_rfl),qoM,ZT⟩
def qpP:SE Pg 54 168 bU:=⟨underlying54,λx=>(Tv x).trans qks.symm,by kernel_rfl,by rw[qks];decide,by kernel_rfl,vaL (by kernel_rfl),qjM,JM⟩
def qxa:Pg.cellsOf 5=1:=by kernel_rfl
def qt7:SE Pg 72 5 (cI .u8):=⟨underlying72,λ_=>qxa.symm,by kernel_rfl,by rw[qxa];decide,by kernel_rfl,vaL (by kernel_rfl),(qwm .u8),(qw9 .u8)⟩
def R7:SE Pg 89 143 cp:=⟨underlying89,λx=>(qie x).trans qnM.symm,by kernel_rfl,by rw[qnM];decide,by kernel_rfl,vaL (by kernel_rfl),qoQ,UY⟩
def qmV:SE Pg 90 127 ef:=⟨underlying90,λx=>(qbM x).trans qkr.symm,by kernel_rfl,by rw[qkr];decide,by kernel_rfl,vaL (by kernel_rfl),qoO,ZU⟩
def qj5:SE Pg 95 134 dg:=⟨underlying95,λx=>(Yf x).trans qnK.symm,by kernel_rfl,by rw[qnK];decide,by kernel_rfl,vaL (by kernel_rfl),qiv,Tn⟩
def qeX:SE Pg 101 138 eE:=⟨underlying101,λx=>(qeq x).trans qnL.symm,by kernel_rfl,by rw[qnL];decide,by kernel_rfl,vaL (by kernel_rfl),qmp,qbk⟩
def qAY:Pg.cellsOf 3=1:=by kernel_rfl
def VW:SE Pg 215 3 (cI .i64):=⟨underlying215,λ_=>qAY.symm,by kernel_rfl,by rw[qAY];decide,by kernel_rfl,vaL (by kernel_rfl),(qwm .i64),(qw9 .i64)⟩
def aP(l:V ae)(n:Nat)(a:(Y (l.length=n)&&Y (n * 1<=16777216))=T):gV Pg 24 n ((l.map PVal.str).zipIdx 0|>.map λx=>(x.2,x.1))=O (sl cS l):=dX.mk' (v:=PVal.str) qCO l n (by rw[qtD];exact a)
def qt8:(Pg.underlying 23).any QG=true:=by kernel_rfl
def qt9:(Pg.underlying 24).any QG=true:=by kernel_rfl
def qwO:(Pg.underlying 3).any QG=true:=by kernel_rfl
def qwP:(Pg.underlying 32).any QG=true:=by kernel_rfl
def qA9:(Pg.underlying 4).any QG=true:=by kernel_rfl
def qua:(Pg.underlying 52).any QG=true:=by kernel_rfl
def qrQ:(Pg.underlying 89).any QG=true:=by kernel_rfl
def ZC:(Pg.underlying 9).any QG=true:=by kernel_rfl
def qC7:XA Pg 4=O (PVal.bool Z):=by kernel_rfl
def qCP:ft Pg 3=O [.i6 0]:=by kernel_rfl
def TP:ft Pg 28=O [.i6 0,.str ([]:ae),.i6 0,sl ag ([]:V ah)]:=by kernel_rfl
def RZ:ft Pg 30=O [.i6 0,.str ([]:ae),sl al ([]:V am),sl cS ([]:V ae),.i6 0,.str ([]:ae),.i6 0,sl ag ([]:V ah),sl ag ([]:V ah)]:=by kernel_rfl
def ZB:ft Pg 36=O [.i6 0,.str ([]:ae),.i6 0,sl ak ([]:V aj),sl bk ([]:V bO),sl bL ([]:V cH),sl al ([]:V am)]:=by kernel_rfl
def qpk:ft Pg 58=O [.str ([]:ae),sl cS ([]:V ae),.i6 0,.str ([]:ae),.i6 0,sl ak ([]:V aj),sl bk ([]:V bO),sl bL ([]:V cH),sl al ([]:V am),.i6 0,.bool Z,sl cS ([]:V ae),sl cr ([]:V iP),sl fP ([]:V G1),sl bU ([]:V fi),.i6 0,.str ([]:ae),sl al ([]:V am),sl cS ([]:V ae),.i6 0,.str ([]:ae),.i6 0,sl ag ([]:V ah),sl ag ([]:V ah),sl ag ([]:V ah)]:=by kernel_rfl
def qzY:ft Pg 61=O [.i6 0]:=by kernel_rfl
def qtW:ft Pg 88=O [.str ([]:ae),.i6 0,.str ([]:ae),sl al ([]:V am),sl cS ([]:V ae),.i6 0,.str ([]:ae),.i6 0,sl ag ([]:V ah),sl ag ([]:V ah),sl cr ([]:V iP),sl aV ([]:V d5)]:=by kernel_rfl
def qww:ft Pg 92=O [.str ([]:ae),sl cS ([]:V ae),sl cp ([]:V pG),sl ef ([]:V tH)]:=by kernel_rfl
def qwx:ft Pg 97=O [.str ([]:ae),.str ([]:ae),sl dg ([]:V om)]:=by kernel_rfl
def qsq:ft Pg 103=O [.str ([]:ae),.str ([]:ae),.str ([]:ae),sl eE ([]:V BM),.i6 0,.str ([]:ae),.i6 0,sl ag ([]:V ah)]:=by kernel_rfl
def qsr:ft Pg 106=O [.str ([]:ae),sl cp ([]:V pG),.i6 0,.str ([]:ae),.i6 0,sl ag ([]:V ah)]:=by kernel_rfl
def qeN:ft Pg 114=O [.str ([]:ae),.i6 0,.str ([]:ae),sl al ([]:V am),sl cS ([]:V ae),.i6 0,.str ([]:ae),.i6 0,sl ag ([]:V ah),sl ag ([]:V ah)]:=by kernel_rfl
def SV:ft Pg 116=O [.str ([]:ae),sl cS ([]:V ae),.i6 0,.str ([]:ae),.i6 0,sl ak ([]:V aj),sl bk ([]:V bO),sl bL ([]:V cH),sl al ([]:V am)]:=by kernel_rfl
def qss:ft Pg 127=O [.str ([]:ae),sl cS ([]:V ae),sl al ([]:V am)]:=by kernel_rfl
def qwq:ft Pg 134=O [.str ([]:ae),.i6 0,.str ([]:ae),sl al ([]:V am),sl cS ([]:V ae),.i6 0,.str ([]:ae),.i6 0,sl ag ([]:V ah),sl ag ([]:V ah)]:=by kernel_rfl
def qst:ft Pg 138=O [.str ([]:ae),sl cS ([]:V ae),.i6 0,.str ([]:ae),.i6 0,sl ag ([]:V ah)]:=by kernel_rfl
def qpi:ft Pg 143=O [.str ([]:ae),.str ([]:ae)]:=by kernel_rfl
def qwr:ft Pg 159=O [.str ([]:ae),.str ([]:ae)]:=by kernel_rfl
def qws:ft Pg 166=O [.str ([]:ae),.str ([]:ae)]:=by kernel_rfl
def qsu:ft Pg 168=O [.str ([]:ae),sl cp ([]:V pG),.i6 0,.str ([]:ae),.i6 0,sl ag ([]:V ah),.i6 0,.str ([]:ae),.i6 0,sl ag ([]:V ah)]:=by kernel_rfl
def qsv:ft Pg 176=O [.bool Z,.bool Z,.i6 0,.i6 0,.bool Z,.bool Z,.i6 0,.i6 0,.bool Z]:=by kernel_rfl
def qwt:ft Pg 188=O [.val .nilFunc]:=by kernel_rfl
def qwu:ft Pg 191=O [.val .nilFunc]:=by kernel_rfl
def qpj:ft Pg 193=O [.i6 0,.i6 0,.i6 0,.str ([]:ae)]:=by kernel_rfl
def qsw:ft Pg 208=O [.bool Z,.bool Z,.i6 0,.i6 0,.bool Z,.bool Z,.bool Z,.bool Z,.bool Z]:=by kernel_rfl
def qwv:ft Pg 217=O [.bool Z,sl (cI .i64) ([]:V Int)]:=by kernel_rfl
def er:V ae:=[([]:ae),([]:ae),([]:ae),([]:ae),([]:ae),([]:ae),([]:ae),([]:ae),([]:ae),([]:ae),([43]:ae),([45]:ae),([42]:ae),([100,105,118]:ae),([109,111,100]:ae),([]:ae),([61,61]:ae),([60]:ae),([60,61]:ae),([38,38]:ae),([124,124]:ae)]
def qvV:Pg.cellsOf 156=21:=by kernel_rfl
def Qx{k:IntKind}{i:Int}{x:ae}(h:bY er i=O x):n9 Pg 156 (.eptr (er.map PVal.str)) (.int k i)=O (.eptr ((er.map PVal.str).drop i.toNat)):=qvq underlying156 qtD (by kernel_rfl) (by kernel_rfl) h
def Qy{i:Int}{x:ae}(h:bY er i=O x):co Pg 9 ((er.map PVal.str).drop i.toNat)=O (PVal.str x):=qvs (by kernel_rfl) h
def eB:V ae:=[([97,110,100]:ae),([97,115,115,117,109,101]:ae),([98,111,111,108]:ae),([98,111,117,110,100]:ae),([99,97,115,101]:ae),([99,101,108,108]:ae),([99,108,97,115,115]:ae),([100,97,116,97]:ae),([100,101,102]:ae),([100,105,118]:ae),([101,108,115,101]:ae),([101,110,100]:ae),([102,97,108,115,101]:ae),([102,111,114,97,108,108]:ae),([102,117,110]:ae),([103,101,116]:ae),([105,102]:ae),([105,110]:ae),([105,110,115,116]:ae),([105,110,116]:ae),([105,110,118,97,114,105,97,110,116]:ae),([108,101,116]:ae),([109,97,116,99,104]:ae),([109,101,97,115,117,114,101]:ae),([109,101,116,114,105,99]:ae),([109,111,100]:ae),([109,117]:ae),([110,101,119]:ae),([110,111,116]:ae),([111,102]:ae),([111,114]:ae),([113,117,97,108]:ae),([114,101,102,108,101,99,116]:ae),([115,101,116]:ae),([116,104,101,110]:ae),([116,114,117,101]:ae),([117,115,101]:ae),([118]:ae),([118,97,108]:ae),([116,97,103]:ae),([119,104,101,114,101]:ae),([119,105,116,104]:ae)]
def qv0:Pg.cellsOf 229=42:=by kernel_rfl
def Vk:co Pg 229 (eB.map PVal.str)=O (.agg (eB.map PVal.str)):=by kernel_rfl
def Vj{k:IntKind}{i:Int}{x:ae}(h:bY eB i=O x):L3 Pg 229 (.agg (eB.map PVal.str)) (.int k i)=O (PVal.str x):=qvr underlying229 qtD (by kernel_rfl) (by kernel_rfl) (by kernel_rfl) h
def oF:V Int:=[1,10,100,1000,10000,100000,1000000,10000000,100000000,1000000000,10000000000,100000000000,1000000000000,10000000000000,100000000000000,1000000000000000,10000000000000000,100000000000000000,1000000000000000000,10000000000000000000]
def qv1:Pg.cellsOf 240=20:=by kernel_rfl
def qvZ:Pg.cellsOf 224=1:=by kernel_rfl
def JZ:V Int:=[0,1,28,2,29,14,24,3,30,22,20,15,25,17,4,8,31,27,13,23,21,19,16,7,26,12,18,6,11,5,10,9]
def qv2:Pg.cellsOf 247=32:=by kernel_rfl
def J0:V Int:=[0,1,56,2,57,49,28,3,61,58,42,50,38,29,17,4,62,47,59,36,45,43,51,22,53,39,33,30,24,18,12,5,63,55,48,27,60,41,37,16,46,35,44,21,52,32,23,11,54,26,40,15,34,20,31,10,25,14,19,9,13,8,7,6]
def qv3:Pg.cellsOf 248=64:=by kernel_rfl
def Wk:ae:=[100,101,102,32]
def Et:ae:=[114,101,102,108,101,99,116,32]
def Iv:ae:=[97,115,115,117,109,101,32]
def fw:ae:=[32,40]
def ch:ae:=[44,32]
def dM:ae:=[41]
def bm:ae:=[32,58,32]
def Wl:ae:=[102,111,114,97,108,108]
def bZ:ae:=[32]
def oW:ae:=[46,32]
def MS:ae:=[119,104,101,114,101,32]
def KW:ae:=[60]
def Yw:ae:=[73,110,116]
def QL:ae:=[66,111,111,108]
def QM:ae:=[67,101,108,108]
def Is:ae:=[62,46,32]
def MR:ae:=[98,111,117,110,100,32]
def quD:ae:=[118]
def Wg:ae:=[41,32]
def yB:ae:=[116,114,117,101]
def wo:ae:=[60,61,62]
def yz:ae:=[61,62]
def yA:ae:=[124,124]
def yx:ae:=[38,38]
def qe7:ae:=[61]
def yw:ae:=[33,61]
def yy:ae:=[60,61]
def Wi:ae:=[43]
def wn:ae:=[45]
def Wh:ae:=[42]
def dl:ae:=[40]
def qcZ:ae:=[63]
def QO:ae:=[33]
def lH:ae:=[32,45,62,32,40]
def BO:ae:=[41,46,32]
def dK:ae:=[32,45,62,32]
def ez:ae:=[123,118,32,58,32]
def yr:ae:=[32,60]
def Rt:ae:=[118,46,32]
def Wj:ae:=[62]
def fC:ae:=[41,32,45,62,32]
def gX:ae:=[32,124,32]
def Iu:ae:=[125]
def nk:ae:=[32,109,101,116,114,105,99,32]
def ed:ae:=[32,61,32]
def qlx:ae:=[91]
def qly:ae:=[93]
def Ix:ae:=[102,117,110,32,40]
def Wm:ae:=[108,101,116,32]
def rG:ae:=[32,105,110,32]
def qae:ae:=[105,102,32]
def Es:ae:=[32,116,104,101,110,32]
def Er:ae:=[32,101,108,115,101,32]
def Rq:ae:=[99,97,115,101,32]
def si:ae:=[32,111,102,32,123,32]
def rH:ae:=[59,32]
def lI:ae:=[32,125]
def Wn:ae:=[117,115,101,32]
def qlA:ae:=[110,101,119]
def qlz:ae:=[103,101,116]
def qlB:ae:=[115,101,116]
def Aa:ae:=[100,97,116,97,32]
def gk:ae:=[59,10]
def oq:ae:=[99,108,97,115,115,32]
def jO:ae:=[32,119,105,116,104,32]
def Rr:ae:=[105,110,115,116,32]
def AN:ae:=[32,119,104,101,114,101,32]
def qcX:ae:=[32,123]
def qp3:ae:=[59]
def ou:ae:=[109,101,97,115,117,114,101,32]
def jW:ae:=[32,123,32]
def jh:ae:=[32,105,110,118,97,114,105,97,110,116,32]
def Ab:ae:=[113,117,97,108,32]
def nl:ae:=[41,32,58,32]
def QN:ae:=[32,61]
def yu:ae:=[32,124]
def Iw:ae:=[102,97,108,115,101]
def yt:ae:=[32,61,62,32]
def qcY:ae:=[61,61]
def qp4:ae:=[100,105,118]
def qp5:ae:=[109,111,100]
def GE:V (Nat×V U):=[(0,er.map PVal.str),(1,eB.map PVal.str),(2,oF.map (PVal.int .u64)),(4,JZ.map (PVal.int .u8)),(5,J0.map (PVal.int .u8))]
abbrev OV(f:FuncId)(a:V U){R:Type}(o:Q R)(b:R->U)(c:V (Nat×G)):Prop:=quK Pg GE f a o b c
abbrev OG(f:FuncId)(a:V U)(d:V ((Nat×Nat)×G))(H:V aJ){R:Type}(o:Q R)(b:R->U)(e:V (Nat×G))(c:R->V aJ):Prop:=qwX Pg GE f a d H o b e c
abbrev OJ(m:Nat)(c:W){X:Type}(o:Q X)(e:Exit)(a:X->aF)(b:aF):Prop:=qwY Pg GE m c o e a b
abbrev OU(m:Nat)(c:W){X:Type}(o:Q X)(e:Exit)(u:X->V (Nat×U))(a:aF):Prop:=qwY Pg GE m c o e (λx=>qCR a (u x)) a
abbrev OK(m:Nat)(c:W){X:Type}(o:Q X)(a:X->Exit)(b:X->aF)(d:aF):Prop:=qxh Pg GE m c o a b d
abbrev OL(m:Nat)(c:W){σ X:Type}(o:Q (σ⊕X))(S:σ->aF)(a:X->Exit)(b:X->aF)(d:aF):Prop:=quJ Pg GE m c o S a b d
abbrev waA:=V ae
abbrev oy:=V am
abbrev pi:=V ah
abbrev waD:=V aj
abbrev IO:=V cH
abbrev waF:=V bO
abbrev waG:=V pG
abbrev waH:=V d5
abbrev waI:=V iP
end Go.Proofs.YtibglelmlnfojaaGreatDoor
