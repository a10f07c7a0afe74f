/- PROVED: a part of the proof. Conditions: none. -/
import Derived.Test.YtibglelmlnfojaaGreatDoorPkM16
set_option linter.unusedSimpArgs false set_option linter.defProp false
set_option linter.unusedVariables false
noncomputable section
namespace Go.Proofs.YtibglelmlnfojaaGreatDoor
open Go Go.Proofs.Tryz
open Option renaming some→O,none→N
open Go renaming TypeId→G,Value→D,Program→I,Oper→M,World→J,Code→W
open Bool renaming true→T,false→Z
open Decidable renaming decide→Y
open Go.Proofs.YtibglelmlnfojaaGreatDoor renaming PVal→U
set_option linter.unusedVariables false
set_option linter.defProp false
set_option maxRecDepth 100000
noncomputable def qqR:W:=f232.body.getD .skip
def qqv:ZF Pg [38] 232 f232 qqR:=zf call232 func232 rfl mixed
section
variable(v:wy)(a:V Int)(s:ae)(i:Int)
def Sn:aF:=aM 39 [(1,.eptr (gw v)),(3,sl (cI .i64) a),(4,.str s),(5,.i6 i)] [.dead] []
def qc5(o:ae):aF:=aM 39 [(1,.eptr (gw v)),(4,.str o)] [.dead] []
def tJ:Q ((ae×Int)⊕(ae)):=if Y (i>=0)then (bY a i).bind λd=>(Ub d).bind λb=>(UT s b).bind λc=>O (.inl (c,cz (i - 1))) else O (.inr s)
def Ox:Q ae:=loop (λ(b:ae×Int)=>tJ a b.1 b.2) (s,i)
def Yy:OL 0 (cA qqR 247) (tJ a s i) (λ(e:ae×Int)=>Sn v a e.1 e.2) (λ_=>.exit 0) (qc5 v) (Sn v a s i):=qqv.l<|tF (tb λh d=>tb λm b=>tb λn c=>tv (VW.ia d)<|tv (dz qwO (.i6 h) [])<|bQ (qhg _ b)<|tv (iO (P:=Pg) (t:=9) c)<|tE)<|tE
def qal:=nu (s:=(s,i)) λb=>Yy v a b.1 b.2
end
section
variable(v:wy)(s:ae)
def G5:Q K:=if Y ((s.length:Int)>1)then (lq s 0).bind λa=>O (a==48) else O Z
def qak:OU 0 (cA qqR 1004) (G5 s) .normal (λo=>[(29,.bool o)]) (aM 39 [(1,.eptr (gw v)),(4,.str s)] [.dead] []):=qqv.j<|tf (λb=>tb λc a=>bz (nD underlying9 s)<|tg 4 b<|tv (gW underlying9 a)<|tE) λb=>bz (nD underlying9 s)<|tg 4 b<|tE
end
section
variable(v:wy)(s:ae)
def So:aF:=aM 39 [(1,.eptr (gw v)),(4,.str s)] [.dead] []
def qc6(o:ae):aF:=aM 39 [(1,.eptr (gw v)),(4,.str o)] [.dead] []
def oY:Q (ae⊕(ae)):=(G5 s).bind λb=>if b then (XK s (O 1) N).bind λa=>O (.inl a) else O (.inr s)
def vM:Q ae:=loop (λ(a:ae)=>oY a) s
def Yz:OL 0 (cA qqR 251) (oY s) (λ(d:ae)=>So v d) (λ_=>.exit 2) (qc6 v) (So v s):=qqv.l<|tb λe b=>ey 1<|bJ (qak v s _ b)<|tF (tb λc a=>tv (V3 underlying9 a)<|tE)<|tE
def qam:=nu (s:=s) λa=>Yz v a
end
def qaj(a:wy):Q ae:=(S1 a).bind λe=>(Ox e ([]:ae) (cz ((e.length:Int) - 1))).bind λh=>(vM h).bind λb=>if(b==([]:ae))then O ([48]:ae) else (K3 a).bind λc=>if c then (UT ([45]:ae) b).bind λd=>O d else O b
def qhf{a:wy}:OV 232 [.agg (gw a)] (qaj a) (λr=>.str r) []:=qqv.v<|tb λi h=>tb λn e=>tb λm b=>te (Z8 a)<|tv (Z2 a)<|bQ (qc7 _ h)<|bz (VW.ln i)<|bJ (qal a i ([]:ae) (cz ((i.length:Int) - 1)) _ e)<|bJ (qam a n _ b)<|tF tE<|tb λo c=>tv (Z2 a)<|bQ (YC _ c)<|tF (tb λp d=>tv (iO (P:=Pg) (t:=9) d)<|tE)<|tE
noncomputable def qy8:W:=f199.body.getD .skip
def qxY:ZF Pg [] 199 f199 qy8:=zf call199 func199 rfl mixed
def EQ(n:Int):Q ae:=(qe9 n).bind λa=>(qaj a).bind λb=>O b
def Sy{n:Int}:OV 199 [.i6 n] (EQ n) (λr=>.str r) []:=qxY.v<|tb λc a=>tb λd b=>bQ (qlF _ a)<|bQ (qhf _ b)<|tE
noncomputable def qtl:W:=f200.body.getD .skip
def qsV:ZF Pg [] 200 f200 qtl:=zf call200 func200 rfl mixed
section
variable(v:pi)(s:ae)(i:Int)
def Hh:Q ae:=if Y (i>0)then (UT s ch).bind λa=>O a else O s
def qaG:OU 0 (cA qtl 1914) (Hh s i) .normal (λo=>[(3,.str o)]) (aM 24 [(0,sl ag v),(3,.str s),(4,.i6 i)] [] []):=qsV.j<|tF (tb λb a=>tv (iO (P:=Pg) (t:=9) a)<|tE)<|tE
end
section
variable(a:qz)(v:pi)(s:ae)(i:Int)
def Sx:aF:=aM 24 [(0,sl ag v),(3,.str s),(4,.i6 i)] [] []
def qdc(o:ae):aF:=aM 24 [(3,.str o)] [] []
def tM:Q ((ae×Int)⊕(ae)):=if Y (i<(v.length:Int))then (Hh s i).bind λb=>(bY v i).bind λe=>(a e).bind λc=>(UT b c).bind λd=>O (.inl (d,cz (i+1))) else O (.inr s)
def O1:Q ae:=loop (λ(b:ae×Int)=>tM a v b.1 b.2) (s,i)
def YZ(b:EH a):OL 0 (cA qtl 119) (tM a v s i) (λ(m:ae×Int)=>Sx v m.1 m.2) (λ_=>.exit 0) qdc (Sx v s i):=qsV.l<|bz (dN.ln v)<|tF (tb λo c=>tb λn h=>tb λp d=>tb λq e=>ey 1<|bJ (qaG v s i _ c)<|tv (dN.ia h)<|tv (bA n)<|bQ (b _ _ d)<|tv (iO (P:=Pg) (t:=9) e)<|tE)<|tE
def qaH(b:EH a):=nu (s:=(s,i)) λc=>YZ a v c.1 c.2 b
end
def O0(b:qz)(a:pi):Q ae:=(O1 b a dl 0).bind λc=>(UT c dM).bind λd=>O d
def X0(b:qz)(c:EH b){a:pi}:OV 200 [sl ag a] (O0 b a) (λr=>.str r) []:=qsV.v<|tb λh d=>tb λi e=>bJ (qaH b a dl 0 c _ d)<|tv (iO (P:=Pg) (t:=9) e)<|tE
noncomputable def qy9:W:=f201.body.getD .skip
def qxZ:ZF Pg [] 201 f201 qy9:=zf call201 func201 rfl mixed
def Ae(a:qz)(p:ah)(b:Int):Q ae:=(QP p).bind λc=>if Y (c<b)then (a p).bind λd=>(UT dl d).bind λh=>(UT h dM).bind λi=>O i else (a p).bind λe=>O e
def zl(c:qz)(a:EH c){p:ah}{b:Int}:OV 201 [.agg (ag p),.i6 b] (Ae c p b) (λr=>.str r) []:=qxZ.v<|tb λn d=>te (dU p)<|tv (bA p)<|bQ (Uj _ d)<|tF (tb λo e=>tb λs i=>tb λw m=>tv (bA p)<|bQ (a _ _ e)<|tv (iO (P:=Pg) (t:=9) i)<|tv (iO (P:=Pg) (t:=9) m)<|tE)<|tb λq h=>tv (bA p)<|bQ (a _ _ h)<|tE
noncomputable def qza:W:=f202.body.getD .skip
def qx0:ZF Pg [] 202 f202 qza:=zf call202 func202 rfl mixed
def qaI(a:Int):Q ae:=if(a==18)then O wo else if(a==17)then O yz else if(a==16)then O yA else if(a==15)then O yx else if(a==10)then O qe7 else if(a==11)then O yw else if(a==12)then O KW else if(a==13)then O yy else if(a==6)then O Wi else if(a==7)then O wn else O Wh
def qhn{a:Int}:OV 202 [.i6 a] (qaI a) (λr=>.str r) []:=qx0.v<|tF tE<|tF tE<|tF tE<|tF tE<|tF tE<|tF tE<|tF tE<|tF tE<|tF tE<|tF tE<|tE
noncomputable def qvA:W:=f150.body.getD .skip
def qu1:ZF Pg [83] 150 f150 qvA:=zf call150 func150 rfl mixed
section
variable(p:ah)(k:Int)
def Hi:Q Int:=if(k==6)then O 7 else O k
def qaK:OU 0 (cA qvA 62) (Hi k) .normal (λo=>[(4,.i6 o)]) (aM 106 [(1,.eptr (ag p)),(3,.i6 k),(4,.i6 k)] [.dead] []):=qu1.j<|tF tE<|tE
end
def K9(a:qz)(p:ah):Q ae:=(QP p).bind λb=>if(p.Op==1)then if Y (p.N<0)then (EQ p.N).bind λr4=>(UT dl r4).bind λs5=>(UT s5 dM).bind λs6=>O s6 else (EQ p.N).bind λr7=>O r7 else if(p.Op==2)then if(p.N==1)then O yB else O Iw else if(p.Op==3)then O p.Name else if(p.Op==4)then (O0 a p.Kids).bind λd=>(UT p.Name d).bind λs=>O s else if(p.Op==5)then (UT qcZ p.Name).bind λt=>(O0 a p.Kids).bind λe=>(UT t e).bind λw=>O w else if(p.Op==14)then (bY p.Kids 0).bind λL=>(Ae a L b).bind λh=>(UT QO h).bind λx=>O x else if(p.Op==9)then (bY p.Kids 0).bind λP=>(Ae a P b).bind λi=>(UT wn i).bind λy=>O y else if(p.Op==17)then (bY p.Kids 0).bind λR=>(Ae a R (cz (b+1))).bind λm=>(UT m yt).bind λz=>(bY p.Kids 1).bind λS=>(Ae a S b).bind λn=>(UT z n).bind λA=>O A else (Hi b).bind λc=>(bY p.Kids 0).bind λX=>(Ae a X c).bind λo=>(UT o bZ).bind λB=>(qaI p.Op).bind λq=>(UT B q).bind λE=>(UT E bZ).bind λF=>(bY p.Kids 1).bind λa0=>(Ae a a0 (cz (b+1))).bind λr=>(UT F r).bind λH=>O H
def qfn(b:qz)(a:EH b){p:ah}:OV 150 [.agg (ag p)] (K9 b p) (λr=>.str r) []:=qu1.v<|tb λr1 a4=>te (dU p)<|tv (bA p)<|bQ (Uj _ a4)<|tw (aE p)<|tF (tw (bj p)<|tF (tb λr4 a5=>tb λs5 a7=>tb λs6 a8=>tw (bj p)<|bQ (Sy _ a5)<|tv (iO (P:=Pg) (t:=9) a7)<|tv (iO (P:=Pg) (t:=9) a8)<|tE)<|tb λr7 a6=>tw (bj p)<|bQ (Sy _ a6)<|tE)<|tF (tw (bj p)<|tF tE<|tE)<|tF (tw (bK p)<|tE)<|tF (tb λb1 d=>tb λbi w=>qc1 [0,1,0,4,12,31,63]<|tw (bK p)<|tw (aA p)<|bQ (X0 b a _ d)<|tv (iO (P:=Pg) (t:=9) w)<|tE)<|tF (tb λbl x=>tb λb2 e=>tb λbn y=>qc1 [0,1,3,0,8,24,63,127]<|tw (bK p)<|tv (iO (P:=Pg) (t:=9) x)<|tw (aA p)<|bQ (X0 b a _ e)<|tv (iO (P:=Pg) (t:=9) y)<|tE)<|tF (tb λa9 S=>tb λb3 h=>tb λbq z=>tw (aA p)<|tv (dN.ia S)<|tv (bA a9)<|bQ (zl b a _ h)<|tv (iO (P:=Pg) (t:=9) z)<|tE)<|tF (tb λab X=>tb λb5 i=>tb λbr A=>tw (aA p)<|tv (dN.ia X)<|tv (bA ab)<|bQ (zl b a _ i)<|tv (iO (P:=Pg) (t:=9) A)<|tE)<|tF (tb λad a0=>tb λb8 m=>tb λbs B=>tb λan a1=>tb λbb n=>tb λbt E=>qc1 [0,1,3,7,0,16,63,127,0,256,768,1792,0,8063,16383,32767]<|tw (aA p)<|tv (dN.ia a0)<|tv (bA ad)<|bQ (zl b a _ m)<|tv (iO (P:=Pg) (t:=9) B)<|tw (aA p)<|tv (dN.ia a1)<|tv (bA an)<|bQ (zl b a _ n)<|tv (iO (P:=Pg) (t:=9) E)<|tE)<|tb λb0 c=>tb λao a2=>tb λbc o=>tb λc0 F=>tb λbe q=>tb λc1 H=>tb λc2 L=>tb λar a3=>tb λbg s=>tb λc3 R=>ey 1<|bJ (qaK p r1 _ c)<|qc1 [0,1,3,7,0,31,63,0,128,447,1023,2047,0,4096,12288,28672,0,65536,259007,524287,1048575]<|tw (aA p)<|tv (dN.ia a2)<|tv (bA ao)<|bQ (zl b a _ o)<|tv (iO (P:=Pg) (t:=9) F)<|tw (aE p)<|bQ (qhn _ q)<|tv (iO (P:=Pg) (t:=9) H)<|tv (iO (P:=Pg) (t:=9) L)<|tw (aA p)<|tv (dN.ia a3)<|tv (bA ar)<|bQ (zl b a _ s)<|tv (iO (P:=Pg) (t:=9) R)<|tE
def S3:(ah->Q ae)->(ah)->Q ae:=λ(rec:ah->Q ae) (x:ah)=>K9 (λp=>rec p) x
def qaJ(p:ah):Q ae:=rT S3 p
def qho{p:ah}:OV 150 [.agg (ag p)] (qaJ p) (λr=>.str r) []:=HU λ_ h=>d7 (F:=S3) (M:=λ(x:ah) (r:ae)=>CC Pg GE 150 [.agg (ag x)] (.str r) []) (λrec a x r h=>qfn _ (λp=>HU λr h=>a p r h) _ h) h
noncomputable def qCw:W:=f99.body.getD .skip
def qBW:ZF Pg [9] 99 f99 qCw:=zf call99 func99 rfl mixed
def Ug(p:ah):Q (ae×Int):=(rM p).bind λa=>if(a !=0)then O (([]:ae),a) else (qaJ p).bind λb=>O (b,0)
def qhm{p:ah}:OV 99 [.agg (ag p)] (Ug p) (λr=>.tuple [.str r.1,.i6 r.2]) []:=qBW.v<|tb λc a=>te (dU p)<|tv (bA p)<|bQ (qfi _ a)<|tF tE<|tb λd b=>tv (bA p)<|bQ (qho _ b)<|tE
noncomputable def qCf:W:=f59.body.getD .skip
def qBF:ZF Pg [] 59 f59 qCf:=zf call59 func59 rfl mixed
def cj(p:ah)(b:ae)(a:K):Q (ae×K):=(Ug p).bind λc=>(bv (c.2==0) b a).bind λd=>(ac ([c.1]:V ae) b d).bind λe=>O (e,d)
def fO{p:ah}{e:ae}{a:K}:OG 59 [.bptr 0 0,.agg (ag p)] [] [.cells [.str e,.bool a] []] (cj p e a) (λr=>.tuple []) [] (λr=>[.cells [.str r.1,.bool r.2] []]):=qBF.g 1<|tb λh b=>tb λi c=>tb λm d=>te (dU p)<|tv (bA p)<|bQ (qhm _ b)<|tc [0] (aY _ c)<|tv (aP [h.1] 1 rfl)<|tc [0] (ai _ d)<|tE
noncomputable def qAS:W:=f86.body.getD .skip
def qAx:ZF Pg [] 86 f86 qAS:=zf call86 func86 rfl mixed
section
variable(t:am)(m:ae)(m2:K)
def ml:Q K:=(ue t.Pred).bind λa=>if a then if(t.Op==6)then O T else if Y ((t.Args.length:Int)>0)then O T else O (Y ((t.Preds.length:Int)>0)) else O Z
def Ly:OU 1 (cA qAS 6) (ml t) .normal (λo=>[(23,.bool o)]) (aM 36 [(0,.bptr 0 0),(3,.eptr (al t))] [.cells [.str m,.bool m2] [],.dead] []):=qAx.j<|
 tb λn d=>have a:=λ{X p q} (r:PV _ X p q)=>tw (cP t)<|bQ (Bf _ d)<|r;tf (λe=>have b:=λ{X p q} (r:PV _ X p q)=>a<|tg 4 e<|tw (aB t)<|r;tf (λh=>b<|tg 8 h<|tE) λh=>have c:=λ{X p q} (r:PV _ X p q)=>b<|tg 8 h<|tw (aN t)<|bz (cQ.ln t.Args)<|r;tf (λi=>c<|tg 14 i<|tE) λi=>c<|tg 14 i<|tw (bF t)<|bz (dN.ln t.Preds)<|tE) λe=>a<|tg 4 e<|tE
end
def ig(a:eA)(t:am)(i:ae)(b:K):Q (ae×K):=(ml t).bind λm=>if m then (ac ([dl]:V ae) i b).bind λe=>(a t e b).bind λc=>(ac ([dM]:V ae) c.2 c.1).bind λh=>O (h,c.1) else (a t i b).bind λd=>O (d.2,d.1)
def C1(b:eA)(a:fU b){t:am}{n:ae}{c:K}:OG 86 [.bptr 0 0,.agg (al t)] [] [.cells [.str n,.bool c] []] (ig b t n c) (λr=>.tuple []) [] (λr=>[.cells [.str r.1,.bool r.2] []]):=qAx.g 1<|tb λw m=>te (eM t)<|ey 0<|bJ (Ly t n c _ m)<|tF (tb λo d=>tb λp e=>tb λq h=>tv (aP [dl] 1 rfl)<|tc [0] (ai _ d)<|tv (cc t)<|tc [0] (a _ _ _ _ e)<|tv (aP [dM] 1 rfl)<|tc [0] (ai _ h)<|tE)<|tb λs i=>tv (cc t)<|tc [0] (a _ _ _ _ i)<|tE
noncomputable def qyO:W:=f145.body.getD .skip
def qxE:ZF Pg [] 145 f145 qyO:=zf call145 func145 rfl mixed
def qay:Q ah:=O (⟨2,[],1,[]⟩:ah)
def qhj:OV 145 [] qay (λr=>.agg (ag r)) [(3,28)]:=qxE.va<|tx TP<|Yv (qfP 2 1) (qfJ 2 1)<|ty (bP (⟨2,[],1,[]⟩:ah))<|Jo λq=>aI (qmU (⟨2,[],1,[]⟩:ah)) q.2
noncomputable def qvt:W:=f101.body.getD .skip
def quM:ZF Pg [] 101 f101 qvt:=zf call101 func101 rfl mixed
section
variable(m:ae)(m2:K)(a:Int)(b:ae)(c:Int)(d:pi)
def sN:Q (Int×ae×Int×pi):=(ue (⟨a,b,c,d⟩:ah)).bind λh=>if h then qay.bind λe=>O (e.Op,e.Name,e.N,e.Kids) else O (a,b,c,d)
def Lu:OJ 1 (cA qvt 6) (sN a b c d) .normal (λo=>aM 10 [(0,.bptr 0 0),(3,.bptr 1 0)] [.cells [.str m,.bool m2] [],.cells [.i6 o.1,.str o.2.1,.i6 o.2.2.1,sl ag o.2.2.2] []] []) (aM 10 [(0,.bptr 0 0),(3,.bptr 1 0)] [.cells [.str m,.bool m2] [],.cells [.i6 a,.str b,.i6 c,sl ag d] []] []):=quM.j<|tb λn e=>tv (eJ (⟨a,b,c,d⟩:ah) [])<|bQ (Bf _ e)<|tF (tb λi h=>bQ (qhj _ h)<|ty (bP i)<|tE)<|tE
end
def fX(p:ah)(d:ae)(b:K):Q (ae×K):=(sN p.Op p.Name p.N p.Kids).bind λa=>(cj (⟨a.1,a.2.1,a.2.2.1,a.2.2.2⟩:ah) d b).bind λc=>O (c.1,c.2)
def mj{p:ah}{e:ae}{a:K}:OG 101 [.bptr 0 0,.agg (ag p)] [] [.cells [.str e,.bool a] []] (fX p e a) (λr=>.tuple []) [] (λr=>[.cells [.str r.1,.bool r.2] []]):=quM.g 1<|tb λb c=>tb λh d=>qls (gP p) rfl<|ey 0<|bJ (Lu e a p.Op p.Name p.N p.Kids _ c)<|tv (eJ (⟨b.1,b.2.1,b.2.2.1,b.2.2.2⟩:ah) [])<|tc [0] (fO _ d)<|tE
noncomputable def qzA:W:=f61.body.getD .skip
def qyr:ZF Pg [38] 61 f61 qzA:=zf call61 func61 rfl mixed
section
variable(a:eA)(t:am)(c:oy)(d b:Int)(m:ae)(m2:K)
def qq:aF:=aM 54 [(0,.bptr 0 0),(3,.eptr (al t)),(13,sl al c),(14,.i6 d),(15,.i6 b)] [.cells [.str m,.bool m2] [],.dead] []
def A6(o:ae×K):aF:=aM 54 [(0,.bptr 0 0),(3,.eptr (al t))] [.cells [.str o.1,.bool o.2] [],.dead] []
instance qDX:KS 1 (qq t c d b m m2):=ks 2 rfl
instance qDQ{o:ae×Bool}:KS 1 (A6 t o):=ks 2 rfl
def A5:Q ((Int×ae×K)⊕(ae×K)):=if Y (b<d)then (bY c b).bind λi=>(ac ([bZ]:V ae) m m2).bind λh=>(ig a i h m2).bind λe=>O (.inl (cz (b+1),e.1,e.2)) else O (.inr (m,m2))
def E8:Q (ae×K):=loop (λ(e:Int×ae×K)=>A5 a c d e.1 e.2.1 e.2.2) (b,m,m2)
def Ll(e:fU a):OL 1 (cA qzA 119) (A5 a c d b m m2) (λ(p:Int×ae×K)=>qq t c d p.1 p.2.1 p.2.2) (λ_=>.exit 0) (A6 t) (qq t c d b m m2):=qyr.lx<|tF (tb λo n=>tb λq h=>tb λr i=>tv (cQ.ia n)<|tv (cc o)<|tx RZ<|tx (ij o)<|tv (aP [bZ] 1 rfl)<|tc [0] (ai _ h)<|tv (eK o [])<|tc [0] (C1 a e _ i)<|tE)<|tE
def NL(e:fU a):=nu (s:=(b,m,m2)) λh=>Ll a t c d h.1 h.2.1 h.2.2 e
end
section
variable(b:pi)(c a:Int)(m:ae)(m2:K)
def qr:aF:=aM 54 [(0,.bptr 0 0),(34,sl ag b),(35,.i6 c),(36,.i6 a)] [.cells [.str m,.bool m2] [],.dead] []
def A8(o:ae×K):aF:=aM 54 [(0,.bptr 0 0)] [.cells [.str o.1,.bool o.2] [],.dead] []
instance qDY:KS 1 (qr b c a m m2):=ks 2 rfl
instance qDR{o:ae×Bool}:KS 1 (A8 o):=ks 2 rfl
def A7:Q ((Int×ae×K)⊕(ae×K)):=if Y (a<c)then (bY b a).bind λi=>(cC a m m2).bind λe=>(ac ([Rt]:V ae) e m2).bind λh=>(fX i h m2).bind λd=>O (.inl (cz (a+1),d.1,d.2)) else O (.inr (m,m2))
def vg:Q (ae×K):=loop (λ(d:Int×ae×K)=>A7 b c d.1 d.2.1 d.2.2) (a,m,m2)
def Lm:OL 1 (cA qzA 1015) (A7 b c a m m2) (λ(o:Int×ae×K)=>qr b c o.1 o.2.1 o.2.2) (λ_=>.exit 2) A8 (qr b c a m m2):=qyr.lx<|tF (tb λd n=>tb λp e=>tb λq h=>tb λr i=>tv (dN.ia n)<|tv (bA d)<|tx TP<|tx (gP d)<|tc [0] (cx _ e)<|tv (aP [Rt] 1 rfl)<|tc [0] (ai _ h)<|tv (eJ d [])<|tc [0] (mj _ i)<|tE)<|tE
def NM:=nu (s:=(a,m,m2)) λd=>Lm b c d.1 d.2.1 d.2.2
end
def oA(b:eA)(t:am)(i:ae)(d:K):Q (ae×K):=(aH t.Name T i d).bind λh=>(E8 b t.Args (t.Args.length:Int) 0 h.1 h.2).bind λc=>if((t.Preds.length:Int)==0)then O (c.1,c.2) else (ac ([yr]:V ae) c.1 c.2).bind λm=>(vg t.Preds (t.Preds.length:Int) 0 m c.2).bind λa=>(ac ([Wj]:V ae) a.1 a.2).bind λe=>O (e,a.2)
def S9(a:eA)(b:fU a){t:am}{n:ae}{e:K}:OG 61 [.bptr 0 0,.agg (al t)] [] [.cells [.str n,.bool e] []] (oA a t n e) (λr=>.tuple []) [] (λr=>[.cells [.str r.1,.bool r.2] []]):=qyr.g 1<|tb λo i=>tb λq h=>te (eM t)<|tw (cm t)<|tc [0] (aT _ i)<|tw (aN t)<|bz (cQ.ln t.Args)<|bJ (NL a t t.Args (t.Args.length:Int) 0 o.1 o.2 b _ h)<|tw (bF t)<|bz (dN.ln t.Preds)<|tF tE<|tb λw m=>tb λp c=>tb λs d=>tv (aP [yr] 1 rfl)<|tc [0] (ai _ m)<|tw (bF t)<|bz (dN.ln t.Preds)<|bJ (NM t.Preds (t.Preds.length:Int) 0 w q.2 _ c)<|tv (aP [Wj] 1 rfl)<|tc [0] (ai _ d)<|tE
noncomputable def qzq:W:=f24.body.getD .skip
def qyg:ZF Pg [] 24 f24 qzq:=zf call24 func24 rfl mixed
section
variable(t:am)(m:ae)(m2:K)
def li:Q K:=(ue t.Pred).bind λa=>if a then (bv ((t.Preds.length:Int)==0) m m2).bind λb=>O b else (bv Z m m2).bind λc=>O c
def PR:OJ 1 (cA qzq 244) (li t m m2) .normal (λo=>aM 93 [(0,.bptr 0 0),(3,.eptr (al t))] [.cells [.str m,.bool o] [],.dead] []) (aM 93 [(0,.bptr 0 0),(3,.eptr (al t))] [.cells [.str m,.bool m2] [],.dead] []):=qyg.j<|
 tb λh b=>have a:=λ{X p q} (r:PV _ X p q)=>tw (cP t)<|bQ (Bf _ b)<|r;tf (λe=>tb λi c=>a<|tg 5 e<|tw (bF t)<|bz (dN.ln t.Preds)<|tc [0] (aY _ c)<|tE) λe=>tb λn d=>a<|tg 5 e<|tc [0] (aY _ d)<|tE
end
section
variable(t:am)(m:ae)(m2:K)
def iV:Q K:=if((t.Preds.length:Int)==0)then (bv T m m2).bind λa=>O a else (bv (t.Op==4) m m2).bind λb=>O b
def PT:OJ 1 (cA qzq 126) (iV t m m2) .normal (λo=>aM 93 [(0,.bptr 0 0),(3,.eptr (al t))] [.cells [.str m,.bool o] [],.dead] []) (aM 93 [(0,.bptr 0 0),(3,.eptr (al t))] [.cells [.str m,.bool m2] [],.dead] []):=qyg.j<|
 have a:=λ{X i n} (r:PV _ X i n)=>tw (bF t)<|bz (dN.ln t.Preds)<|r;tf (λb=>tb λe c=>a<|tg 6 b<|tc [0] (aY _ c)<|tE) λb=>tb λh d=>a<|tg 6 b<|tw (aB t)<|tc [0] (aY _ d)<|tE
end
def fZ(c:eA)(t:am)(b:ae)(o:K):Q (K×ae):=(kX t).bind λA=>(bv (A==0) b o).bind λh=>if h then O (h,b) else if(t.Op==6)then (li t b h).bind λp=>(qt c t b p).bind λi=>O (i.2,i.1) else (ue t.Pred).bind λq=>if(!q)then (ac ([ez]:V ae) b h).bind λr=>(c (⟨t.Op,t.Name,t.Args,t.Names,⟨0,[],0,[]⟩,t.Preds⟩:am) r h).bind λd=>(ac ([gX]:V ae) d.2 d.1).bind λs=>(cj t.Pred s d.1).bind λe=>(ac ([Iu]:V ae) e.1 e.2).bind λw=>O (e.2,w) else (iV t b h).bind λa=>if(t.Op==1)then (ac ([Yw]:V ae) b a).bind λx=>O (a,x) else if(t.Op==2)then (ac ([QL]:V ae) b a).bind λy=>O (a,y) else if(t.Op==3)then (ac ([QM]:V ae) b a).bind λz=>O (a,z) else if(t.Op==5)then (aH t.Name Z b a).bind λm=>O (m.2,m.1) else if(t.Op==4)then (oA c t b a).bind λn=>O (n.2,n.1) else O (a,b)
def Tc(b:eA)(a:fU b){t:am}{A:ae}{z:K}:OG 24 [.bptr 0 0,.agg (al t)] [] [.cells [.str A,.bool z] []] (fZ b t A z) (λr=>.tuple []) [] (λr=>[.cells [.str r.2,.bool r.1] []]):=qyg.g 1<|tb λr1 B=>tb λF E=>te (eM t)<|tv (cc t)<|bQ (La _ B)<|tc [0] (aY _ E)<|ts<|tF tE<|tw (aB t)<|tF (tb λH c=>tb λP e=>ey 0<|bJ (PR t A F _ c)<|tv (cc t)<|tc [0] (Uw b a _ e)<|tE)<|tb λR h=>tw (cP t)<|bQ (Bf _ h)<|tF (tb λS i=>tb λX m=>tb λa0 n=>tb λa1 o=>tb λa2 p=>tv (cc t)<|tx RZ<|tx (ij t)<|Yv (Tk) (Ti)<|ty (bP (⟨0,[],0,[]⟩:ah))<|tv (aP [ez] 1 rfl)<|tc [0] (ai _ i)<|tv (eK (⟨t.Op,t.Name,t.Args,t.Names,⟨0,[],0,[]⟩,t.Preds⟩:am) [])<|tc [0] (a _ _ _ _ m)<|tv (aP [gX] 1 rfl)<|tc [0] (ai _ n)<|tw (cP t)<|tc [0] (fO _ o)<|tv (aP [Iu] 1 rfl)<|tc [0] (ai _ p)<|tE)<|tb λL d=>ey 0<|bJ (PT t A F _ d)<|tw (aB t)<|tF (tb λa3 q=>tv (aP [Yw] 1 rfl)<|tc [0] (ai _ q)<|tE)<|tF (tb λa4 s=>tv (aP [QL] 1 rfl)<|tc [0] (ai _ s)<|tE)<|tF (tb λa5 w=>tv (aP [QM] 1 rfl)<|tc [0] (ai _ w)<|tE)<|tF (tb λa6 x=>tw (cm t)<|tc [0] (aT _ x)<|tE)<|tF (tb λa7 y=>tv (cc t)<|tc [0] (S9 b a _ y)<|tE)<|tE
def ii:((am×ae×K)->Q (K×ae))->(am×ae×K)->Q (K×ae):=λ(rec:(am×ae×K)->Q (K×ae)) (x:am×ae×K)=>fZ (λt b a=>rec (t,b,a)) x.1 x.2.1 x.2.2
def dH(t:am)(b:ae)(a:K):Q (K×ae):=rT ii (t,b,a)
def fA{t:am}{c:ae}{a:K}:OG 24 [.bptr 0 0,.agg (al t)] [] [.cells [.str c,.bool a] []] (dH t c a) (λr=>.tuple []) [] (λr=>[.cells [.str r.2,.bool r.1] []]):=qkZ λ_ h=>d7 (F:=ii) (M:=λ(x:am×ae×K) (r:K×ae)=>C Pg GE 24 [.bptr 0 0,.agg (al x.1)] [] [.cells [.str x.2.1,.bool x.2.2] []] (.tuple []) [] [.cells [.str r.2,.bool r.1] []]) (λrec b x r h=>Tc _ (λt c a=>qkZ λr h=>b (t,c,a) r h) _ h) h
noncomputable def qzC:W:=f85.body.getD .skip
def qyt:ZF Pg [37] 85 f85 qzC:=zf call85 func85 rfl mixed
section
variable(c:tH)(m:ae)(m2:K)
def pK:Q K:=if((c.Fields.length:Int)==0)then O T else O m2
def Pw:OU 1 (cA qzC 60) (pK c m2) .normal (λo=>[(28,.bool o)]) (aM 60 [(0,.bptr 0 0),(3,.eptr (ef c))] [.cells [.str m,.bool m2] [],.dead] []):=qyt.j<|
 have a:=λ{X d e} (r:PV _ X d e)=>tw (vq c)<|bz (cQ.ln c.Fields)<|r;tf (λb=>a<|tg 5 b<|tE) λb=>a<|tg 5 b<|ts<|tE
end
section
variable(c:tH)(b:oy)(d a:Int)(m:ae)(m2:K)
def sJ:aF:=aM 60 [(0,.bptr 0 0),(3,.eptr (ef c)),(33,sl al b),(34,.i6 d),(35,.i6 a)] [.cells [.str m,.bool m2] [],.dead] []
def CR(o:ae×K):aF:=aM 60 [(0,.bptr 0 0)] [.cells [.str o.1,.bool o.2] [],.dead] []
instance qEo:KS 1 (sJ c b d a m m2):=ks 2 rfl
instance qEe{o:ae×Bool}:KS 1 (CR o):=ks 2 rfl
def CQ:Q ((Int×ae×K)⊕(ae×K)):=if Y (a<d)then (bY b a).bind λp=>(cC a m m2).bind λi=>(bY c.Names a).bind λo=>(aH o Z i m2).bind λe=>(ac ([bm]:V ae) e.1 e.2).bind λn=>(dH p n e.2).bind λh=>O (.inl (cz (a+1),h.2,h.1)) else O (.inr (m,m2))
def pL:Q (ae×K):=loop (λ(e:Int×ae×K)=>CQ c b d e.1 e.2.1 e.2.2) (a,m,m2)
def NK:OL 1 (cA qzC 1015) (CQ c b d a m m2) (λ(s:Int×ae×K)=>sJ c b d s.1 s.2.1 s.2.2) (λ_=>.exit 0) CR (sJ c b d a m m2):=qyt.lx<|tF (tb λr p=>tb λt e=>tb λq o=>tb λw h=>tb λx i=>tb λy n=>tv (cQ.ia p)<|tv (cc r)<|tx RZ<|tx (ij r)<|tc [0] (cx _ e)<|tw (Fu c)<|tv (dX.ia o)<|tv (dz ZC (.str q) [])<|tc [0] (aT _ h)<|tv (aP [bm] 1 rfl)<|tc [0] (ai _ i)<|tv (eK r [])<|tc [0] (fA _ n)<|tE)<|tE
def Px:=nu (s:=(a,m,m2)) λe=>NK c b d e.1 e.2.1 e.2.2
end
def iF(c:tH)(i:ae)(e:K):Q (ae×K):=(aH c.Name T i e).bind λb=>(bv ((c.Names.length:Int)==(c.Fields.length:Int)) b.1 b.2).bind λd=>(pK c d).bind λm=>if m then O (b.1,d) else (ac ([fw]:V ae) b.1 d).bind λn=>(pL c c.Fields (c.Fields.length:Int) 0 n d).bind λa=>(ac ([dM]:V ae) a.1 a.2).bind λh=>O (h,a.2)
def Uv{c:tH}{n:ae}{d:K}:OG 85 [.bptr 0 0,.agg (ef c)] [] [.cells [.str n,.bool d] []] (iF c n d) (λr=>.tuple []) [] (λr=>[.cells [.str r.1,.bool r.2] []]):=qyt.g 1<|tb λq h=>tb λo i=>tb λw e=>te (qry c)<|tw (Va c)<|tc [0] (aT _ h)<|tw (Fu c)<|bz (dX.ln c.Names)<|tw (vq c)<|bz (cQ.ln c.Fields)<|tc [0] (aY _ i)<|ey 1<|bJ (Pw c q.1 o _ e)<|tF tE<|tb λt m=>tb λp a=>tb λs b=>tv (aP [fw] 1 rfl)<|tc [0] (ai _ m)<|tw (vq c)<|bz (cQ.ln c.Fields)<|bJ (Px c c.Fields (c.Fields.length:Int) 0 t o _ a)<|tv (aP [dM] 1 rfl)<|tc [0] (ai _ b)<|tE
noncomputable def qux:W:=f40.body.getD .skip
def quu:ZF Pg [49,78] 40 f40 qux:=zf call40 func40 rfl mixed
section
variable(d:jE)(b:waA)(c a:Int)(m:ae)(m2:K)
def tV:aF:=aM 93 [(0,.bptr 0 0),(3,.eptr (cq d)),(24,sl cS b),(25,.i6 c),(26,.i6 a)] [.cells [.str m,.bool m2] [],.dead] []
def IK(o:ae×K):aF:=aM 93 [(0,.bptr 0 0),(3,.eptr (cq d))] [.cells [.str o.1,.bool o.2] [],.dead] []
def tX:Q ((Int×ae×K)⊕(ae×K)):=if Y (a<c)then (bY b a).bind λi=>(ac ([bZ]:V ae) m m2).bind λh=>(aH i Z h m2).bind λe=>O (.inl (cz (a+1),e.1,e.2)) else O (.inr (m,m2))
def jF:Q (ae×K):=loop (λ(e:Int×ae×K)=>tX b c e.1 e.2.1 e.2.2) (a,m,m2)
def E9:OL 1 (cA qux 503) (tX b c a m m2) (λ(n:Int×ae×K)=>tV d b c n.1 n.2.1 n.2.2) (λ_=>.exit 0) (IK d) (tV d b c a m m2):=quu.l<|tF (tb λo i=>tb λp e=>tb λq h=>tv (dX.ia i)<|tv (dz ZC (.str o) [])<|tv (aP [bZ] 1 rfl)<|tc [0] (ai _ e)<|tc [0] (aT _ h)<|tE)<|tE
def Gw:=nu (s:=(a,m,m2)) λe=>E9 d b c e.1 e.2.1 e.2.2
end
section
variable(d:jE)(b:waG)(c a:Int)(m:ae)(m2:K)
def lM:aF:=aM 93 [(0,.bptr 0 0),(3,.eptr (cq d)),(45,sl cp b),(46,.i6 c),(47,.i6 a)] [.cells [.str m,.bool m2] [],.dead] []
def tZ(o:ae×K):aF:=aM 93 [(0,.bptr 0 0),(3,.eptr (cq d))] [.cells [.str o.1,.bool o.2] [],.dead] []
instance qDl:KS 1 (lM d b c a m m2):=ks 2 rfl
instance qDd{o:ae×Bool}:KS 1 (tZ d o):=ks 2 rfl
def tY:Q ((Int×ae×K)⊕(ae×K)):=if Y (a<c)then (bY b a).bind λi=>(cC a m m2).bind λn=>(aH i.Name Z n m2).bind λe=>(ac ([bm]:V ae) e.1 e.2).bind λo=>(gT i.Sort_ o e.2).bind λh=>O (.inl (cz (a+1),h.1,h.2)) else O (.inr (m,m2))
def nM:Q (ae×K):=loop (λ(e:Int×ae×K)=>tY b c e.1 e.2.1 e.2.2) (a,m,m2)
def Fa:OL 1 (cA qux 16215) (tY b c a m m2) (λ(q:Int×ae×K)=>lM d b c q.1 q.2.1 q.2.2) (λ_=>.exit 2) (tZ d) (lM d b c a m m2):=quu.lx<|tF (tb λp o=>tb λr e=>tb λs h=>tb λt i=>tb λw n=>tv (R7.ia o)<|tv (qgl p)<|tx qpi<|tx (qce p)<|tc [0] (cx _ e)<|ts<|tc [0] (aT _ h)<|tv (aP [bm] 1 rfl)<|tc [0] (ai _ i)<|ts<|tc [0] (j5 _ n)<|tE)<|tE
def Gx:=nu (s:=(a,m,m2)) λe=>Fa d b c e.1 e.2.1 e.2.2
end
section
variable(d:jE)(m:ae)(m2:K)
def gq:Q (ae×K):=if Y ((d.Preds.length:Int)>0)then (ac ([yr]:V ae) m m2).bind λb=>(nM d.Preds (d.Preds.length:Int) 0 b m2).bind λa=>(ac ([Wj]:V ae) a.1 a.2).bind λc=>O (c,a.2) else O (m,m2)
def Gu:OJ 1 (cA qux 126) (gq d m m2) .normal (λo=>aM 93 [(0,.bptr 0 0),(3,.eptr (cq d))] [.cells [.str o.1,.bool o.2] [],.dead] []) (aM 93 [(0,.bptr 0 0),(3,.eptr (cq d))] [.cells [.str m,.bool m2] [],.dead] []):=quu.j<|tw (nY d)<|bz (R7.ln d.Preds)<|tF (tb λe b=>tb λh a=>tb λi c=>tv (aP [yr] 1 rfl)<|tc [0] (ai _ b)<|tw (nY d)<|bz (R7.ln d.Preds)<|bJ (Gx d d.Preds (d.Preds.length:Int) 0 e m2 _ a)<|tv (aP [Wj] 1 rfl)<|tc [0] (ai _ c)<|tE)<|tE
end
section
variable(i:Int)(a:V tH)(b:Int)(m:ae)(m2:K)(c:ae)(d:waA)(e:oy)
def gr:Q ae:=if Y (i>0)then (ac ([yu]:V ae) m m2).bind λh=>O h else O m
def Gv:OJ 1 (cA qux 131062) (gr i m m2) .normal (λo=>aM 93 [(0,.bptr 0 0),(9,.bptr 2 0),(74,sl ef a),(75,.i6 b),(76,.i6 i)] [.cells [.str o,.bool m2] [],.dead,.cells [.str c,sl cS d,sl al e] []] []) (aM 93 [(0,.bptr 0 0),(8,.i6 i),(9,.bptr 2 0),(74,sl ef a),(75,.i6 b),(76,.i6 i)] [.cells [.str m,.bool m2] [],.dead,.cells [.str c,sl cS d,sl al e] []] []):=quu.j<|tF (tb λn h=>tv (aP [yu] 1 rfl)<|tc [0] (ai _ h)<|tE)<|tE
end
section
variable(b:V tH)(c a:Int)(m:ae)(m2:K)
def lN:aF:=aM 93 [(0,.bptr 0 0),(74,sl ef b),(75,.i6 c),(76,.i6 a)] [.cells [.str m,.bool m2] [],.dead] []
def ub(o:ae×K):aF:=aM 93 [] [.cells [.str o.1,.bool o.2] [],.dead] []
instance qDm:KS 1 (lN b c a m m2):=ks 2 rfl
instance qDe{o:ae×Bool}:KS 1 (ub o):=ks 2 rfl
def cJ:Q ((Int×ae×K)⊕(ae×K)):=if Y (a<c)then (bY b a).bind λi=>(gr a m m2).bind λe=>(ac ([bZ]:V ae) e m2).bind λh=>(iF i h m2).bind λd=>O (.inl (cz (a+1),d.1,d.2)) else O (.inr (m,m2))
def Ln:Q (ae×K):=loop (λ(d:Int×ae×K)=>cJ b c d.1 d.2.1 d.2.2) (a,m,m2)
def Fb:OL 1 (cA qux 2047) (cJ b c a m m2) (λ(o:Int×ae×K)=>lN b c o.1 o.2.1 o.2.2) (λ_=>.exit 4) ub (lN b c a m m2):=quu.lx<|tF (tb λd n=>tb λp e=>tb λq h=>tb λr i=>tv (qmV.ia n)<|tv (qkN d)<|tx qss<|tx (qiF d)<|ey 0<|bJ (Gv a b c m m2 d.Name d.Names d.Fields _ e)<|tv (aP [bZ] 1 rfl)<|tc [0] (ai _ h)<|tv (qos d [])<|tc [0] (Uv _ i)<|tE)<|tE
def Gy:=nu (s:=(a,m,m2)) λd=>Fb b c d.1 d.2.1 d.2.2
end
def jy(d:jE)(h:ae)(c:K):Q (ae×K):=(bv (Y ((d.Cons.length:Int)>0)) h c).bind λm=>(ac ([Aa]:V ae) h m).bind λo=>(aH d.Name T o m).bind λn=>(jF d.Vars (d.Vars.length:Int) 0 n.1 n.2).bind λi=>(gq d i.1 i.2).bind λa=>(ac ([QN]:V ae) a.1 a.2).bind λe=>(Ln d.Cons (d.Cons.length:Int) 0 e a.2).bind λb=>O (b.1,b.2)
def Lo{d:jE}{q:ae}{e:K}:OG 40 [.bptr 0 0,.agg (cq d)] [] [.cells [.str q,.bool e] []] (jy d q e) (λr=>.tuple []) [] (λr=>[.cells [.str r.1,.bool r.2] []]):=quu.g 1<|tb λx i=>tb λy m=>tb λt n=>tb λs h=>tb λo a=>tb λp c=>tb λw b=>te (qiD d)<|tw (nZ d)<|bz (qmV.ln d.Cons)<|tc [0] (aY _ i)<|tv (aP [Aa] 1 rfl)<|tc [0] (ai _ m)<|tw (HJ d)<|tc [0] (aT _ n)<|tw (Fv d)<|bz (dX.ln d.Vars)<|bJ (Gw d d.Vars (d.Vars.length:Int) 0 t.1 t.2 _ h)<|ey 0<|bJ (Gu d s.1 s.2 _ a)<|tv (aP [QN] 1 rfl)<|tc [0] (ai _ c)<|tw (nZ d)<|bz (qmV.ln d.Cons)<|bJ (Gy d.Cons (d.Cons.length:Int) 0 p o.2 _ b)<|tE
noncomputable def qAJ:W:=f42.body.getD .skip
def qAo:ZF Pg [34] 42 f42 qAJ:=zf call42 func42 rfl mixed
section
variable(b:V om)(c a:Int)(m:ae)(m2:K)
def pj:aF:=aM 52 [(0,.bptr 0 0),(30,sl dg b),(31,.i6 c),(32,.i6 a)] [.cells [.str m,.bool m2] [],.dead] []
def yL(o:ae×K):aF:=aM 52 [] [.cells [.str o.1,.bool o.2] [],.dead] []
instance qDJ:KS 1 (pj b c a m m2):=ks 2 rfl
instance qDB{o:ae×Bool}:KS 1 (yL o):=ks 2 rfl
def yK:Q ((Int×ae×K)⊕(ae×K)):=if Y (a<c)then (bY b a).bind λi=>(cC a m m2).bind λn=>(aH i.Name Z n m2).bind λd=>(ac ([bm]:V ae) d.1 d.2).bind λh=>(dH i.Type_ h d.2).bind λe=>O (.inl (cz (a+1),e.2,e.1)) else O (.inr (m,m2))
def mh:Q (ae×K):=loop (λ(d:Int×ae×K)=>yK b c d.1 d.2.1 d.2.2) (a,m,m2)
def JA:OL 1 (cA qAJ 2047) (yK b c a m m2) (λ(p:Int×ae×K)=>pj b c p.1 p.2.1 p.2.2) (λ_=>.exit 0) yL (pj b c a m m2):=qAo.lx<|tF (tb λo n=>tb λt i=>tb λq d=>tb λr e=>tb λs h=>tv (qj5.ia n)<|tv (qjC o)<|tx qwq<|tx (qiG o)<|tc [0] (cx _ i)<|ts<|tc [0] (aT _ d)<|tv (aP [bm] 1 rfl)<|tc [0] (ai _ e)<|tv (eK o.Type_ [])<|tc [0] (fA _ h)<|tE)<|tE
def Lk:=nu (s:=(a,m,m2)) λd=>JA b c d.1 d.2.1 d.2.2
end
def rN(c:fI)(h:ae)(b:K):Q (ae×K):=(bv (Y ((c.Methods.length:Int)>0)) h b).bind λi=>(ac ([oq]:V ae) h i).bind λm=>(aH c.Name T m i).bind λd=>(ac ([bZ]:V ae) d.1 d.2).bind λn=>(aH c.Var Z n d.2).bind λe=>(ac ([jO]:V ae) e.1 e.2).bind λo=>(mh c.Methods (c.Methods.length:Int) 0 o e.2).bind λa=>O (a.1,a.2)
def RA{c:fI}{o:ae}{b:K}:OG 42 [.bptr 0 0,.agg (ce c)] [] [.cells [.str o,.bool b] []] (rN c o b) (λr=>.tuple []) [] (λr=>[.cells [.str r.1,.bool r.2] []]):=qAo.g 1<|tb λt d=>tb λw e=>tb λx h=>tb λy i=>tb λq m=>tb λs n=>tb λp a=>te (qeE c)<|tw (gO c)<|bz (qj5.ln c.Methods)<|tc [0] (aY _ d)<|tv (aP [oq] 1 rfl)<|tc [0] (ai _ e)<|tw (Fs c)<|tc [0] (aT _ h)<|tv (aP [bZ] 1 rfl)<|tc [0] (ai _ i)<|tw (Ft c)<|tc [0] (aT _ m)<|tv (aP [jO] 1 rfl)<|tc [0] (ai _ n)<|tw (gO c)<|bz (qj5.ln c.Methods)<|bJ (Lk c.Methods (c.Methods.length:Int) 0 s q.2 _ a)<|tE
noncomputable def qAT:W:=f87.body.getD .skip
def qAy:ZF Pg [10] 87 f87 qAT:=zf call87 func87 rfl mixed
section
variable(b:waI)(c a:Int)(m:ae)(m2:K)
def pl:aF:=aM 28 [(0,.bptr 0 0),(6,sl cr b),(7,.i6 c),(8,.i6 a)] [.cells [.str m,.bool m2] []] []
def yU(o:ae×K):aF:=aM 28 [] [.cells [.str o.1,.bool o.2] []] []
instance qDL:KS 1 (pl b c a m m2):=ks 1 rfl
instance qDD{o:ae×Bool}:KS 1 (yU o):=ks 1 rfl
def yS:Q ((Int×ae×K)⊕(ae×K)):=if Y (a<c)then (bY b a).bind λh=>(cC a m m2).bind λi=>(aH h.Class T i m2).bind λd=>(ac ([bZ]:V ae) d.1 d.2).bind λn=>(aH h.Var Z n d.2).bind λe=>O (.inl (cz (a+1),e.1,e.2)) else O (.inr (m,m2))
def CY:Q (ae×K):=loop (λ(d:Int×ae×K)=>yS b c d.1 d.2.1 d.2.2) (a,m,m2)
def JE:OL 1 (cA qAT 15) (yS b c a m m2) (λ(o:Int×ae×K)=>pl b c o.1 o.2.1 o.2.2) (λ_=>.exit 0) yU (pl b c a m m2):=qAy.lx<|tF (tb λp n=>tb λq d=>tb λr e=>tb λs h=>tb λt i=>tv (qgX.ia n)<|tv (qor p)<|tx qwr<|tx (qmG p)<|tc [0] (cx _ d)<|ts<|tc [0] (aT _ e)<|tv (aP [bZ] 1 rfl)<|tc [0] (ai _ h)<|ts<|tc [0] (aT _ i)<|tE)<|tE
def Lw:=nu (s:=(a,m,m2)) λd=>JE b c d.1 d.2.1 d.2.2
end
def mK(a:waI)(d:ae)(b:K):Q (ae×K):=(CY a (a.length:Int) 0 d b).bind λc=>O (c.1,c.2)
def CZ{a:waI}{d:ae}{b:K}:OG 87 [.bptr 0 0,sl cr a] [] [.cells [.str d,.bool b] []] (mK a d b) (λr=>.tuple []) [] (λr=>[.cells [.str r.1,.bool r.2] []]):=qAy.g 1<|tb λe c=>bz (qgX.ln a)<|bJ (Lw a (a.length:Int) 0 d b _ c)<|tE
abbrev zt:=(aj->aj->Q K)
abbrev zj(R:zt):Prop:=∀(a b:aj),OV 89 [.agg (ak a),.agg (ak b)] (R a b) (λr=>.bool r) []
abbrev mN:=(am->am->Q K)
abbrev wz(R:mN):Prop:=∀(a b:am),OV 193 [.agg (al a),.agg (al b)] (R a b) (λr=>.bool r) []
noncomputable def qtb:W:=f143.body.getD .skip
def quX:ZF Pg [] 143 f143 qtb:=zf call143 func143 rfl mixed
section
variable(v a:waA)(i:Int)
def vb:aF:=aM 26 [(0,sl cS v),(1,sl cS a),(5,.i6 i)] [] []
def ET(o:Unit⊕(Unit)):Exit:=match o with|(.inl _)=>.ret|(.inr _)=>.exit 0
def EU(o:Unit⊕(Unit)):aF:=match o with|(.inl o)=>aM 26 [(4,.bool Z)] [] []|(.inr o)=>aM 26 [] [] []
def ic:Q (Int⊕(Unit⊕(Unit))):=if Y (i<(v.length:Int))then (bY v i).bind λb=>(bY a i).bind λc=>if(!(b==c))then O (.inr (.inl ())) else O (.inl (cz (i+1))) else O (.inr (.inr ()))
def zn:Q (Unit⊕(Unit)):=loop (λ(b:Int)=>ic v a b) i
def O9:OL 0 (cA qtb 119) (ic v a i) (λ(h:Int)=>vb v a h) ET EU (vb v a i):=quX.l<|bz (dX.ln v)<|tF (tb λd b=>tb λe c=>qc1 [0,0,3,7,0,0,48,112,255]<|tv (dX.ia b)<|tv (dz ZC (.str d) [])<|tv (dX.ia c)<|tv (dz ZC (.str e) [])<|tF tE<|tE)<|tE
def CM:OK 0 (.loop (cA qtb 119)) (zn v a i) ET EU (vb v a i):=Bz λ_=>O9 _ _ _
end
def tN(a c:waA):Q K:=if((a.length:Int)!=(c.length:Int))then O Z else (zn a c 0).bind λb=>match b with|(.inl b)=>O Z|(.inr b)=>O T
def Jv{a c:waA}:OV 143 [sl cS a,sl cS c] (tN a c) (λr=>.bool r) []:=quX.v<|bz (dX.ln a)<|bz (dX.ln c)<|tF tE<|t2 (λd b=>bJ (CM a c 0 _ b)<|tE) λd b=>bJ (CM a c 0 _ b)<|tE
noncomputable def qta:W:=f142.body.getD .skip
def quW:ZF Pg [] 142 f142 qta:=zf call142 func142 rfl mixed
section
variable(a:mN)(v b:oy)(i:Int)
def vd:aF:=aM 27 [(0,sl al v),(1,sl al b),(5,.i6 i)] [] []
def EY(o:Unit⊕(Unit)):Exit:=match o with|(.inl _)=>.ret|(.inr _)=>.exit 0
def EZ(o:Unit⊕(Unit)):aF:=match o with|(.inl o)=>aM 27 [(4,.bool Z)] [] []|(.inr o)=>aM 27 [] [] []
def ie:Q (Int⊕(Unit⊕(Unit))):=if Y (i<(v.length:Int))then (bY v i).bind λd=>(bY b i).bind λe=>(a d e).bind λc=>if(!c)then O (.inr (.inl ())) else O (.inl (cz (i+1))) else O (.inr (.inr ()))
def zo:Q (Unit⊕(Unit)):=loop (λ(c:Int)=>ie a v b c) i
def Pa(c:wz a):OL 0 (cA qta 119) (ie a v b i) (λ(o:Int)=>vd v b o) EY EZ (vd v b i):=quW.l<|bz (cQ.ln v)<|tF (tb λm e=>tb λn h=>tb λp d=>qc1 [0,0,3,7,0,0,48,112,255,511]<|tv (cQ.ia e)<|tv (cc m)<|tv (cQ.ia h)<|tv (cc n)<|bQ (c _ _ _ d)<|tF tE<|tE)<|tE
def CN(c:wz a):OK 0 (.loop (cA qta 119)) (zo a v b i) EY EZ (vd v b i):=Bz λ_=>Pa _ _ _ _ c
end
def tO(b:mN)(a d:oy):Q K:=if((a.length:Int)!=(d.length:Int))then O Z else (zo b a d 0).bind λc=>match c with|(.inl c)=>O Z|(.inr c)=>O T
def Jw(b:mN)(c:wz b){a e:oy}:OV 142 [sl al a,sl al e] (tO b a e) (λr=>.bool r) []:=quW.v<|bz (cQ.ln a)<|bz (cQ.ln e)<|tF tE<|t2 (λh d=>bJ (CN b a e 0 c _ d)<|tE) λh d=>bJ (CN b a e 0 c _ d)<|tE
end Go.Proofs.YtibglelmlnfojaaGreatDoor
