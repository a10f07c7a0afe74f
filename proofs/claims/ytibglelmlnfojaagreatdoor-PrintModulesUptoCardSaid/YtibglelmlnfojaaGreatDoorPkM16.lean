/- PROVED: a part of the proof. Conditions: none. -/
import Derived.Test.YtibglelmlnfojaaGreatDoorPkM15
set_option linter.unusedSimpArgs false set_option linter.defProp false
set_option linter.unusedVariables false
noncomputable section
namespace Go.Proofs.YtibglelmlnfojaaGreatDoor
open Go Go.Proofs.Tryz
open Option renaming some→O,none→N
open Go renaming TypeId→G,Value→D,Program→I,Oper→M,World→J,Code→W
open Bool renaming true→T,false→Z
open Decidable renaming decide→Y
open Go.Proofs.YtibglelmlnfojaaGreatDoor renaming PVal→U
set_option linter.unusedVariables false
set_option linter.defProp false
set_option maxRecDepth 100000
noncomputable def qB3:W:=f23.body.getD .skip
def qBt:ZF Pg [] 23 f23 qB3:=zf call23 func23 rfl mixed
def xO(b:V Int)(a:K):Q ae:=if a then O ([]:ae) else (QW b a).bind λc=>O c
def BI{c:V Int}{a:K}:OG 23 [.bptr 0 0] [] [cw 0 c a] (xO c a) (λr=>.str r) [] (λr=>[.cells [.nptr 0 76,sl (cI .u8) c,.bool a] []]):=qBt.g 1<|ts<|tF tE<|tb λd b=>tc [0] (UM b)<|tE
noncomputable def qBX:W:=f10.body.getD .skip
def qBn:ZF Pg [] 10 f10 qBX:=zf call10 func10 rfl mixed
def FQ(e:aj):Q ae:=(im e ([]:V Int) Z).bind λa=>(xO a.2 a.1).bind λb=>O b
def AA{e:aj}:OV 10 [.agg (ak e)] (FQ e) (λr=>.str r) []:=qBn.v<|
 tb λc a=>tb λd b=>te (cd e)<|Yv (show df Pg 76 []=O (.agg [.val (.pointer N),sl (cI .u8) ([]:V Int),.bool Z]) by kernel_rfl) (show Ce Pg 76 [] [(1,5)]from⟨[.val (.pointer N),.val fG,.bool Z],by kernel_rfl,(aI rfl md)⟩)<|ty (qxe [.val (.pointer N),sl (cI .u8) ([]:V Int),.bool Z])<|tv (aK e)<|tc [1] (zg _ a)<|tc [1] (BI _ b)<|tE
noncomputable def b7:W:=Tryz.f7.body.getD .skip
def Z7:ZF Pg [] 7 Tryz.f7 b7:=zf call7 func7 rfl mixed
def qcv(t:am):Q ae:=(cV t ([]:V Int) Z).bind λa=>(xO a.2 a.1).bind λb=>O b
def qdW{t:am}:OV 7 [.agg (al t)] (qcv t) (λr=>.str r) []:=Z7.v<|
 tb λc a=>tb λd b=>te (eM t)<|Yv (show df Pg 76 []=O (.agg [.val (.pointer N),sl (cI .u8) ([]:V Int),.bool Z]) by kernel_rfl) (show Ce Pg 76 [] [(1,5)]from⟨[.val (.pointer N),.val fG,.bool Z],by kernel_rfl,(aI rfl md)⟩)<|ty (qxe [.val (.pointer N),sl (cI .u8) ([]:V Int),.bool Z])<|tv (cc t)<|tc [1] (dS _ a)<|tc [1] (BI _ b)<|tE
noncomputable def qBY:W:=f12.body.getD .skip
def qBo:ZF Pg [] 12 f12 qBY:=zf call12 func12 rfl mixed
def QS:Q K:=(PZ ([120]:ae)).bind λA=>(qkg 0).bind λB=>(LH 17 ([A,B]:V aj)).bind λE=>(PZ ([120]:ae)).bind λF=>(LH 15 ([F]:V aj)).bind λH=>(PZ ([120]:ae)).bind λL=>(qkg 1).bind λP=>(LH 10 ([L,P]:V aj)).bind λR=>(LH 8 ([E,H,R]:V aj)).bind λS=>(PZ ([120]:ae)).bind λc=>(Kd (⟨[102],[[120]],c,0,Z,⟨[],[],[],[],⟨0,[],[],[],⟨0,[],0,[]⟩,[]⟩,[]⟩⟩:d5)).bind λa=>(qkg (-3)).bind λd=>(xx (⟨[],[],[],[],[],[⟨[99],[],d,0,Z,⟨[],[],[],[],⟨0,[],[],[],⟨0,[],0,[]⟩,[]⟩,[]⟩⟩]⟩:dt)).bind λb=>(FQ S).bind λe=>if (e == ([105,102,32,120,32,60,32,48,32,116,104,101,110,32,45,120,32,101,108,115,101,32,120,32,43,32,49]:ae)) = T then (PZ ([97]:ae)).bind λh=>(PZ ([98]:ae)).bind λi=>(LH 11 ([h,i]:V aj)).bind λm=>(PZ ([99]:ae)).bind λn=>(LH 11 ([m,n]:V aj)).bind λo=>(FQ o).bind λp=>if (p == ([97,32,45,32,98,32,45,32,99]:ae)) = T then (PZ ([97]:ae)).bind λq=>(PZ ([98]:ae)).bind λr=>(PZ ([99]:ae)).bind λs=>(LH 11 ([r,s]:V aj)).bind λt=>(LH 11 ([q,t]:V aj)).bind λw=>(FQ w).bind λx=>if (x == ([97,32,45,32,40,98,32,45,32,99,41]:ae)) = T then (qcv (⟨6,[],[⟨1,[],[],[],⟨0,[],0,[]⟩,[]⟩,⟨1,[],[],[],⟨12,[],0,[⟨3,[120],0,[]⟩,⟨3,[118],0,[]⟩]⟩,[]⟩,⟨2,[],[],[],⟨0,[],0,[]⟩,[]⟩],[[120],[121]],⟨0,[],0,[]⟩,[]⟩:am)).bind λy=>if (y == ([40,120,32,58,32,73,110,116,44,32,121,32,58,32,123,118,32,58,32,73,110,116,32,124,32,120,32,60,32,118,125,41,32,45,62,32,66,111,111,108]:ae)) = T then (FQ (⟨0,[],0,[],[],[],[]⟩:aj)).bind λz=>if (z == ([]:ae)) = T then if (a.1 == ([100,101,102,32,102,32,40,120,41,32,61,32,120]:ae)) = T then if(a.2==0)then if(b.1==([100,101,102,32,99,32,61,32,40,45,51,41,59,10]:ae))then O (b.2==0) else O Z else O Z else O Z else O Z else O Z else O Z else O Z else O Z
def UG:OV 12 [] QS (λr=>.bool r) []:=qBo.v<|
 tb λr1 ab=>tb λr2 ad=>tb λr3 an=>tb λr4 ao=>tb λr5 ar=>tb λr6 b0=>tb λr7 b1=>tb λr8 b2=>tb λr9 b3=>tb λa9 z=>tb λbn A=>tb λa B=>tb λbq E=>tb λbr F=>bQ (uh _ ab)<|bQ (qa7 _ ad)<|tv (dO.mk' (v:=yq) pf ([r1,r2]:V aj) 2 (by kernel_rfl))<|bQ (vV _ an)<|bQ (uh _ ao)<|tv (dO.mk' (v:=yq) pf ([r4]:V aj) 1 (by kernel_rfl))<|bQ (vV _ ar)<|bQ (uh _ b0)<|bQ (qa7 _ b1)<|tv (dO.mk' (v:=yq) pf ([r6,r7]:V aj) 2 (by kernel_rfl))<|bQ (vV _ b2)<|tv (dO.mk' (v:=yq) pf ([r3,r5,r8]:V aj) 3 (by kernel_rfl))<|bQ (vV _ b3)<|tx ZB<|ty (cO r9)<|Yv (US 3 ([120]:ae)) (UN 3 ([120]:ae))<|Yv (US 3 ([118]:ae)) (UN 3 ([118]:ae))<|tv (dN.mk' (v:=qlt) qmC ([⟨3,[120],0,[]⟩,⟨3,[118],0,[]⟩]:V ah) 2 (by kernel_rfl))<|tv (qfQ 12 ([⟨3,[120],0,[]⟩,⟨3,[118],0,[]⟩]:V ah))<|tx TP<|tx (gP (⟨12,[],0,[⟨3,[120],0,[]⟩,⟨3,[118],0,[]⟩]⟩:ah))<|tv (aP [([120]:ae),([121]:ae)] 2 rfl)<|Yv (qbe 1) (qbb 1)<|tv (eJ (⟨12,[],0,[⟨3,[120],0,[]⟩,⟨3,[118],0,[]⟩]⟩:ah) [])<|Yv (qfR 1 (⟨12,[],0,[⟨3,[120],0,[]⟩,⟨3,[118],0,[]⟩]⟩:ah)) (qfK 1 (⟨12,[],0,[⟨3,[120],0,[]⟩,⟨3,[118],0,[]⟩]⟩:ah))<|Yv (qbe 2) (qbb 2)<|tv (cQ.mk' (v:=qlu) qmD ([⟨1,[],[],[],⟨0,[],0,[]⟩,[]⟩,⟨1,[],[],[],⟨12,[],0,[⟨3,[120],0,[]⟩,⟨3,[118],0,[]⟩]⟩,[]⟩,⟨2,[],[],[],⟨0,[],0,[]⟩,[]⟩]:V am) 3 (by kernel_rfl))<|Yv (qbf 6 ([[120],[121]]:V ae) ([⟨1,[],[],[],⟨0,[],0,[]⟩,[]⟩,⟨1,[],[],[],⟨12,[],0,[⟨3,[120],0,[]⟩,⟨3,[118],0,[]⟩]⟩,[]⟩,⟨2,[],[],[],⟨0,[],0,[]⟩,[]⟩]:V am)) (qbc 6 ([[120],[121]]:V ae) ([⟨1,[],[],[],⟨0,[],0,[]⟩,[]⟩,⟨1,[],[],[],⟨12,[],0,[⟨3,[120],0,[]⟩,⟨3,[118],0,[]⟩]⟩,[]⟩,⟨2,[],[],[],⟨0,[],0,[]⟩,[]⟩]:V am))<|tx RZ<|ty (cY (⟨6,[],[⟨1,[],[],[],⟨0,[],0,[]⟩,[]⟩,⟨1,[],[],[],⟨12,[],0,[⟨3,[120],0,[]⟩,⟨3,[118],0,[]⟩]⟩,[]⟩,⟨2,[],[],[],⟨0,[],0,[]⟩,[]⟩],[[120],[121]],⟨0,[],0,[]⟩,[]⟩:am))<|tv (aP [([120]:ae)] 1 rfl)<|bQ (uh _ z)<|Yv (qdq ([102]:ae) ([[120]]:V ae) a9) (qdo ([102]:ae) ([[120]]:V ae) a9)<|bQ (VK _ A)<|bQ (qa7 _ B)<|Yv (qhC ([99]:ae) a) (qhA ([99]:ae) a)<|tv (R6.mk' (v:=qka) qiC ([⟨[99],[],a,0,Z,⟨[],[],[],[],⟨0,[],[],[],⟨0,[],0,[]⟩,[]⟩,[]⟩⟩]:V d5) 1 (by kernel_rfl))<|Yv (qfO ([⟨[99],[],a,0,Z,⟨[],[],[],[],⟨0,[],[],[],⟨0,[],0,[]⟩,[]⟩,[]⟩⟩]:V d5)) (qfI ([⟨[99],[],a,0,Z,⟨[],[],[],[],⟨0,[],[],[],⟨0,[],0,[]⟩,[]⟩,[]⟩⟩]:V d5))<|bQ (ND _ E)<|have b:=λ{X c4 c5} (r:PV _ X c4 c5)=>tv (ga r9 [])<|bQ (AA _ F)<|r;tf (λo=>tb λb5 H=>tb λb8 L=>tb λbb P=>tb λbc R=>tb λbs S=>tb λbt a0=>have c:=λ{X c4 c5} (r:PV _ X c4 c5)=>b<|tg 4 o<|bQ (uh _ H)<|bQ (uh _ L)<|tv (dO.mk' (v:=yq) pf ([b5,b8]:V aj) 2 (by kernel_rfl))<|bQ (vV _ P)<|bQ (uh _ R)<|tv (dO.mk' (v:=yq) pf ([bb,bc]:V aj) 2 (by kernel_rfl))<|bQ (vV _ S)<|bQ (AA _ a0)<|r;tf (λp=>tb λbe a1=>tb λbg a2=>tb λbi a3=>tb λbl a4=>tb λc0 a5=>tb λc1 a6=>have d:=λ{X c4 c5} (r:PV _ X c4 c5)=>c<|tg 15 p<|bQ (uh _ a1)<|bQ (uh _ a2)<|bQ (uh _ a3)<|tv (dO.mk' (v:=yq) pf ([bg,bi]:V aj) 2 (by kernel_rfl))<|bQ (vV _ a4)<|tv (dO.mk' (v:=yq) pf ([be,bl]:V aj) 2 (by kernel_rfl))<|bQ (vV _ a5)<|bQ (AA _ a6)<|r;tf (λq=>tb λc2 a7=>have e:=λ{X c4 c5} (r:PV _ X c4 c5)=>d<|tg 26 q<|tv (eK (⟨6,[],[⟨1,[],[],[],⟨0,[],0,[]⟩,[]⟩,⟨1,[],[],[],⟨12,[],0,[⟨3,[120],0,[]⟩,⟨3,[118],0,[]⟩]⟩,[]⟩,⟨2,[],[],[],⟨0,[],0,[]⟩,[]⟩],[[120],[121]],⟨0,[],0,[]⟩,[]⟩:am) [])<|bQ (qdW _ a7)<|r;tf (λs=>tb λc3 a8=>have h:=λ{X c4 c5} (r:PV _ X c4 c5)=>e<|tg 31 s<|Yv (LM) (LL)<|bQ (AA _ a8)<|r;tf (λt=>have i:=λ{X c4 c5} (r:PV _ X c4 c5)=>h<|tg 36 t<|r;tf (λw=>have m:=λ{X c4 c5} (r:PV _ X c4 c5)=>i<|tg 40 w<|r;tf (λx=>have n:=λ{X c4 c5} (r:PV _ X c4 c5)=>m<|tg 44 x<|r;tf (λy=>n<|tg 48 y<|tE) λy=>n<|tg 48 y<|tE) λx=>m<|tg 44 x<|tE) λw=>i<|tg 40 w<|tE) λt=>h<|tg 36 t<|tE) λs=>e<|tg 31 s<|tE) λq=>d<|tg 26 q<|tE) λp=>c<|tg 15 p<|tE) λo=>b<|tg 4 o<|tE
noncomputable def qCc:W:=f55.body.getD .skip
def qBC:ZF Pg [] 55 f55 qCc:=zf call55 func55 rfl mixed
def bv(ok:K)(b:ae)(a:K):Q K:=if(!ok)then O T else O a
def aY{ok:K}{b:ae}{a:K}:OG 55 [.bptr 0 0,.bool ok] [] [.cells [.str b,.bool a] []] (bv ok b a) (λr=>.tuple []) [] (λr=>[.cells [.str b,.bool r] []]):=qBC.g 1<|tF (ts<|tE)<|tE
noncomputable def qAI:W:=f41.body.getD .skip
def qAn:ZF Pg [] 41 f41 qAI:=zf call41 func41 rfl mixed
section
variable(b:waA)(c:Int)(m2:K)(a:Int)(m:ae)
def C0:aF:=aM 21 [(0,.bptr 0 0),(6,sl cS b),(7,.i6 c),(8,.i6 a)] [.cells [.str m,.bool m2] []] []
def RD(o:ae):aF:=aM 21 [] [.cells [.str o,.bool m2] []] []
def jz:Q ((Int×ae)⊕(ae)):=if Y (a<c)then (bY b a).bind λe=>(UT m e).bind λd=>O (.inl (cz (a+1),d)) else O (.inr m)
def Hv:Q ae:=loop (λ(d:Int×ae)=>jz b c d.1 d.2) (a,m)
def NT:OL 1 (cA qAI 15) (jz b c a m) (λ(h:Int×ae)=>C0 b c m2 h.1 h.2) (λ_=>.exit 0) (RD m2) (C0 b c m2 a m):=qAn.l<|tF (tb λi e=>tb λn d=>tv (dX.ia e)<|tv (dz ZC (.str i) [])<|ts<|tv (iO (P:=Pg) (t:=9) d)<|ts<|tE)<|tE
def PH:=nu (s:=(a,m)) λd=>NT b c m2 d.1 d.2
end
def ac(a:waA)(b:ae)(c:K):Q ae:=(Hv a (a.length:Int) 0 b).bind λd=>O d
def ai{a:waA}{d:ae}{b:K}:OG 41 [.bptr 0 0,sl cS a] [] [.cells [.str d,.bool b] []] (ac a d b) (λr=>.tuple []) [] (λr=>[.cells [.str r,.bool b] []]):=qAn.g 1<|tb λe c=>bz (dX.ln a)<|bJ (PH a (a.length:Int) b 0 d _ c)<|tE
noncomputable def qvB:W:=f151.body.getD .skip
def qu2:ZF Pg [10,15,25] 151 f151 qvB:=zf call151 func151 rfl mixed
section
variable(s:ae)(d:Int)(b:waA)(a c:Int)
def OO:aF:=aM 31 [(0,.str s),(3,sl cS b),(4,.i6 a),(7,.i6 d),(8,.i6 c)] [] [((3,0),9)]
def qaw(o:waA×Int):aF:=aM 31 [(0,.str s),(3,sl cS o.1),(4,.i6 o.2)] [] [((3,0),9)]
def gm:Q ((waA×Int×Int)⊕(waA×Int)):=if Y (c<d)then (lq s c).bind λe=>if(e==46)then (XK s (O a) (O c)).bind λi=>(app b ([i]:V ae)).bind λh=>O (.inl (h,cz (c+1),cz (c+1))) else O (.inl (b,a,cz (c+1))) else O (.inr (b,a))
def K5:Q (waA×Int):=loop (λ(e:waA×Int×Int)=>gm s d e.1 e.2.1 e.2.2) (b,a,c)
def Wu:OL 0 (cA qvB 247) (gm s d b a c) (λ(m:waA×Int×Int)=>OO s d m.1 m.2.1 m.2.2) (λ_=>.exit 0) (qaw s) (OO s d b a c):=qu2.l<|tF (tb λo e=>tv (gW underlying9 e)<|tF (tb λn i=>tb λp h=>tv (V3 underlying9 i)<|tv (aP [n] 1 rfl)<|tv (dX.ap h)<|tE)<|tE)<|tE
def YS:=nu (s:=(b,a,c)) λe=>Wu s d e.1 e.2.1 e.2.2
end
def Ew(s:ae):Q waA:=(K5 s (s.length:Int) ([]:V ae) 0 0).bind λa=>(XK s (O a.2) N).bind λc=>(app a.1 ([c]:V ae)).bind λb=>O b
def qfh{s:ae}:OV 151 [.str s] (Ew s) (λr=>sl cS r) [(0,9)]:=qu2.v<|tb λh b=>tb λd c=>tb λe a=>bz (nD underlying9 s)<|bJ (YS s (s.length:Int) ([]:V ae) 0 0 _ b)<|tv (V3 underlying9 c)<|tv (aP [d] 1 rfl)<|tv (dX.ap a)<|tE
noncomputable def qzb:W:=f203.body.getD .skip
def qx1:ZF Pg [] 203 f203 qzb:=zf call203 func203 rfl mixed
def mH(c:Int):Q K:=if Y (c>=97)then O (Y (c<=122)) else O Z
def rL{c:Int}:OV 203 [.int .u8 c] (mH c) (λr=>.bool r) []:=qx1.v<|tf (λa=>tg 3 a<|tE) λa=>tg 3 a<|tE
noncomputable def qzp:W:=f235.body.getD .skip
def qyf:ZF Pg [] 235 f235 qzp:=zf call235 func235 rfl mixed
def K4:Q waA:=O ([([97,110,100]:ae),([97,115,115,117,109,101]:ae),([98,111,111,108]:ae),([98,111,117,110,100]:ae),([99,97,115,101]:ae),([99,101,108,108]:ae),([99,108,97,115,115]:ae),([100,97,116,97]:ae),([100,101,102]:ae),([100,105,118]:ae),([101,108,115,101]:ae),([101,110,100]:ae),([102,97,108,115,101]:ae),([102,111,114,97,108,108]:ae),([102,117,110]:ae),([103,101,116]:ae),([105,102]:ae),([105,110]:ae),([105,110,115,116]:ae),([105,110,116]:ae),([105,110,118,97,114,105,97,110,116]:ae),([108,101,116]:ae),([109,97,116,99,104]:ae),([109,101,97,115,117,114,101]:ae),([109,101,116,114,105,99]:ae),([109,111,100]:ae),([109,117]:ae),([110,101,119]:ae),([110,111,116]:ae),([111,102]:ae),([111,114]:ae),([113,117,97,108]:ae),([114,101,102,108,101,99,116]:ae),([115,101,116]:ae),([116,104,101,110]:ae),([116,114,117,101]:ae),([117,115,101]:ae),([118]:ae),([118,97,108]:ae),([116,97,103]:ae),([119,104,101,114,101]:ae),([119,105,116,104]:ae)]:V ae)
def YQ:OV 235 [] K4 (λr=>sl cS r) [(0,9)]:=qyf.v<|tv (aP [([97,110,100]:ae),([97,115,115,117,109,101]:ae),([98,111,111,108]:ae),([98,111,117,110,100]:ae),([99,97,115,101]:ae),([99,101,108,108]:ae),([99,108,97,115,115]:ae),([100,97,116,97]:ae),([100,101,102]:ae),([100,105,118]:ae),([101,108,115,101]:ae),([101,110,100]:ae),([102,97,108,115,101]:ae),([102,111,114,97,108,108]:ae),([102,117,110]:ae),([103,101,116]:ae),([105,102]:ae),([105,110]:ae),([105,110,115,116]:ae),([105,110,116]:ae),([105,110,118,97,114,105,97,110,116]:ae),([108,101,116]:ae),([109,97,116,99,104]:ae),([109,101,97,115,117,114,101]:ae),([109,101,116,114,105,99]:ae),([109,111,100]:ae),([109,117]:ae),([110,101,119]:ae),([110,111,116]:ae),([111,102]:ae),([111,114]:ae),([113,117,97,108]:ae),([114,101,102,108,101,99,116]:ae),([115,101,116]:ae),([116,104,101,110]:ae),([116,114,117,101]:ae),([117,115,101]:ae),([118]:ae),([118,97,108]:ae),([116,97,103]:ae),([119,104,101,114,101]:ae),([119,105,116,104]:ae)] 42 rfl)<|tE
noncomputable def qto:W:=f234.body.getD .skip
def qvj:ZF Pg [10,17] 234 f234 qto:=zf call234 func234 rfl mixed
section
variable(v:waA)(s:ae)(b a:Int)
def IA:aF:=aM 19 [(0,sl cS v),(1,.str s),(7,.i6 b),(8,.i6 a)] [] []
def Sr(o:Int⊕(Unit)):Exit:=match o with|(.inl _)=>.ret|(.inr _)=>.exit 0
def Ss(o:Int⊕(Unit)):aF:=match o with|(.inl o)=>aM 19 [(4,.i6 o)] [] []|(.inr o)=>aM 19 [] [] []
def tL:Q (Int⊕(Int⊕(Unit))):=if Y (a<b)then (bY v a).bind λc=>if(c==s)then O (.inr (.inl a)) else O (.inl (cz (a+1))) else O (.inr (.inr ()))
def OF:Q (Int⊕(Unit)):=loop (λ(c:Int)=>tL v s b c) a
def YJ:OL 0 (cA qto 55) (tL v s b a) (λ(e:Int)=>IA v s b e) Sr Ss (IA v s b a):=qvj.l<|tF (tb λd c=>tv (dX.ia c)<|tv (dz ZC (.str d) [])<|tF tE<|tE)<|tE
def OH:OK 0 (.loop (cA qto 55)) (OF v s b a) Sr Ss (IA v s b a):=Bz λ_=>YJ _ _ _ _
end
def OE(a:waA)(s:ae):Q Int:=(OF a s (a.length:Int) 0).bind λb=>match b with|(.inl b)=>O b|(.inr b)=>O (-1)
def XZ{a:waA}{s:ae}:OV 234 [sl cS a,.str s] (OE a s) (λr=>.i6 r) []:=qvj.v<|bz (dX.ln a)<|t2 (λc b=>bJ (OH a s (a.length:Int) 0 _ b)<|tE) λc b=>bJ (OH a s (a.length:Int) 0 _ b)<|tE
noncomputable def qzc:W:=f204.body.getD .skip
def qx2:ZF Pg [] 204 f204 qzc:=zf call204 func204 rfl mixed
def vO(s:ae):Q K:=K4.bind λa=>(OE a s).bind λb=>O (Y (b>=0))
def qaq{s:ae}:OV 204 [.str s] (vO s) (λr=>.bool r) []:=qx2.v<|tb λc a=>tb λd b=>bQ (YQ _ a)<|bQ (XZ _ b)<|tE
noncomputable def qzd:W:=f205.body.getD .skip
def qx3:ZF Pg [] 205 f205 qzd:=zf call205 func205 rfl mixed
def rJ(c:Int):Q K:=if Y (c>=48)then O (Y (c<=57)) else O Z
def Dy{c:Int}:OV 205 [.int .u8 c] (rJ c) (λr=>.bool r) []:=qx3.v<|tf (λa=>tg 3 a<|tE) λa=>tg 3 a<|tE
noncomputable def qnx:W:=f152.body.getD .skip
def qql:ZF Pg [26] 152 f152 qnx:=zf call152 func152 rfl mixed
section
variable(s:ae)
def wB:Q K:=if Y ((s.length:Int)<1)then O T else if Y ((s.length:Int)>24)then O T else (lq s 0).bind λa=>(mH a).bind λb=>if(!b)then O T else (vO s).bind λc=>O c
def YE:OU 0 (cA qnx 12) (wB s) .normal (λo=>[(21,.bool o)]) (aM 46 [(0,.str s)] [] []):=qql.j<|
 tf (λh=>bz (nD underlying9 s)<|tg 4 h<|tE) λh=>have a:=λ{X t w} (r:PV _ X t w)=>bz (nD underlying9 s)<|tg 4 h<|bz (nD underlying9 s)<|r;tf (λi=>a<|tg 9 i<|tE) λi=>tb λn c=>tb λp d=>have b:=λ{X t w} (r:PV _ X t w)=>a<|tg 9 i<|tv (gW underlying9 c)<|bQ (rL _ d)<|r;tf (λm=>b<|tg 15 m<|tE) λm=>tb λq e=>b<|tg 15 m<|bQ (qaq _ e)<|tE
end
section
variable(s:ae)(i a:Int)
def nH:Q K:=(lq s i).bind λb=>(mH b).bind λe=>if(!e)then (lq s i).bind λc=>(rJ c).bind λh=>if(!h)then (lq s i).bind λd=>O (d !=95) else O Z else O Z
def YG:OU 0 (cA qnx 7670) (nH s i) .normal (λo=>[(3,.undef),(44,.bool o)]) (aM 46 [(0,.str s),(3,.i6 i),(23,.i6 a),(24,.i6 i)] [] []):=qql.j<|
 tb λt h=>tb λy p=>have b:=λ{X A B} (r:PV _ X A B)=>tv (gW underlying9 h)<|bQ (rL _ p)<|r;tf (λd=>tb λw m=>tb λz q=>have c:=λ{X A B} (r:PV _ X A B)=>b<|tg 6 d<|tv (gW underlying9 m)<|bQ (Dy _ q)<|r;tf (λe=>tb λx n=>c<|tg 13 e<|tv (gW underlying9 n)<|tE) λe=>c<|tg 13 e<|tE) λd=>b<|tg 6 d<|tE
end
section
variable(s:ae)(b a:Int)
def EJ:aF:=aM 46 [(0,.str s),(23,.i6 b),(24,.i6 a)] [] []
def OB(o:Unit⊕(Unit)):Exit:=match o with|(.inl _)=>.ret|(.inr _)=>.exit 0
def OC(o:Unit⊕(Unit)):aF:=match o with|(.inl o)=>aM 46 [(2,.i6 3)] [] []|(.inr o)=>aM 46 [] [] []
def qh:Q (Int⊕(Unit⊕(Unit))):=if Y (a<b)then (nH s a).bind λc=>if c then O (.inr (.inl ())) else O (.inl (cz (a+1))) else O (.inr (.inr ()))
def wC:Q (Unit⊕(Unit)):=loop (λ(c:Int)=>qh s b c) a
def Ws:OL 0 (cA qnx 119) (qh s b a) (λ(e:Int)=>EJ s b e) OB OC (EJ s b a):=qql.l<|tF (tb λd c=>ey 2<|bJ (YG s a b _ c)<|tF tE<|tE)<|tE
def MU:OK 0 (.loop (cA qnx 119)) (wC s b a) OB OC (EJ s b a):=Bz λ_=>Ws _ _ _
end
def Eu(s:ae):Q Int:=(wB s).bind λb=>if b then O 3 else (wC s (s.length:Int) 0).bind λa=>match a with|(.inl a)=>O 3|(.inr a)=>O 0
def qfd{s:ae}:OV 152 [.str s] (Eu s) (λr=>.i6 r) []:=qql.v<|tb λd b=>ey 2<|bJ (YE s _ b)<|tF tE<|bz (nD underlying9 s)<|t2 (λc a=>bJ (MU s (s.length:Int) 0 _ a)<|tE) λc a=>bJ (MU s (s.length:Int) 0 _ a)<|tE
noncomputable def qze:W:=f206.body.getD .skip
def qx4:ZF Pg [] 206 f206 qze:=zf call206 func206 rfl mixed
def np(c:Int):Q K:=if Y (c>=65)then O (Y (c<=90)) else O Z
def EN{c:Int}:OV 206 [.int .u8 c] (np c) (λr=>.bool r) []:=qx4.v<|tf (λa=>tg 3 a<|tE) λa=>tg 3 a<|tE
noncomputable def qny:W:=f153.body.getD .skip
def qqm:ZF Pg [38] 153 f153 qny:=zf call153 func153 rfl mixed
section
variable(s:ae)
def wE:Q K:=if Y ((s.length:Int)<1)then O T else if Y ((s.length:Int)>24)then O T else (lq s 0).bind λa=>(np a).bind λb=>if(!b)then O T else if(s==([73,110,116]:ae))then O T else if(s==([66,111,111,108]:ae))then O T else if(s==([67,101,108,108]:ae))then O T else O (s==([70,117,110]:ae))
def YL:OU 0 (cA qny 12) (wE s) .normal (λo=>[(33,.bool o)]) (aM 59 [(0,.str s)] [] []):=qqm.j<|
 tf (λp=>bz (nD underlying9 s)<|tg 4 p<|tE) λp=>have e:=λ{X z A} (r:PV _ X z A)=>bz (nD underlying9 s)<|tg 4 p<|bz (nD underlying9 s)<|r;tf (λq=>e<|tg 9 q<|tE) λq=>tb λx m=>tb λy n=>have h:=λ{X z A} (r:PV _ X z A)=>e<|tg 9 q<|tv (gW underlying9 m)<|bQ (EN _ n)<|r;tf (λt=>h<|tg 15 t<|tE) λt=>have i:=λ{X z A} (r:PV _ X z A)=>h<|tg 15 t<|r;tf (λw=>i<|tg 19 w<|tE) λw=>have a:=λ{X z A} (r:PV _ X z A)=>i<|tg 19 w<|r;tf (λc=>a<|tg 23 c<|tE) λc=>have b:=λ{X z A} (r:PV _ X z A)=>a<|tg 23 c<|r;tf (λd=>b<|tg 27 d<|tE) λd=>b<|tg 27 d<|tE
end
section
variable(s:ae)(i a:Int)
def nJ:Q K:=(lq s i).bind λb=>(mH b).bind λe=>if(!e)then (lq s i).bind λc=>(np c).bind λh=>if(!h)then (lq s i).bind λd=>(rJ d).bind λm=>O (!m) else O Z else O Z
def YN:OU 0 (cA qny 7670) (nJ s i) .normal (λo=>[(3,.undef),(57,.bool o)]) (aM 59 [(0,.str s),(3,.i6 i),(35,.i6 a),(36,.i6 i)] [] []):=qqm.j<|
 tb λw h=>tb λz p=>have b:=λ{X E F} (r:PV _ X E F)=>tv (gW underlying9 h)<|bQ (rL _ p)<|r;tf (λd=>tb λx m=>tb λA q=>have c:=λ{X E F} (r:PV _ X E F)=>b<|tg 6 d<|tv (gW underlying9 m)<|bQ (EN _ q)<|r;tf (λe=>tb λy n=>tb λB t=>c<|tg 13 e<|tv (gW underlying9 n)<|bQ (Dy _ t)<|tE) λe=>c<|tg 13 e<|tE) λd=>b<|tg 6 d<|tE
end
section
variable(s:ae)(b a:Int)
def EL:aF:=aM 59 [(0,.str s),(35,.i6 b),(36,.i6 a)] [] []
def OM(o:Unit⊕(Unit)):Exit:=match o with|(.inl _)=>.ret|(.inr _)=>.exit 0
def ON(o:Unit⊕(Unit)):aF:=match o with|(.inl o)=>aM 59 [(2,.i6 3)] [] []|(.inr o)=>aM 59 [] [] []
def qi:Q (Int⊕(Unit⊕(Unit))):=if Y (a<b)then (nJ s a).bind λc=>if c then O (.inr (.inl ())) else O (.inl (cz (a+1))) else O (.inr (.inr ()))
def wF:Q (Unit⊕(Unit)):=loop (λ(c:Int)=>qi s b c) a
def Wt:OL 0 (cA qny 119) (qi s b a) (λ(e:Int)=>EL s b e) OM ON (EL s b a):=qqm.l<|tF (tb λd c=>ey 2<|bJ (YN s a b _ c)<|tF tE<|tE)<|tE
def MV:OK 0 (.loop (cA qny 119)) (wF s b a) OM ON (EL s b a):=Bz λ_=>Wt _ _ _
end
def Ev(s:ae):Q Int:=(wE s).bind λb=>if b then O 3 else (wF s (s.length:Int) 0).bind λa=>match a with|(.inl a)=>O 3|(.inr a)=>O 0
def qff{s:ae}:OV 153 [.str s] (Ev s) (λr=>.i6 r) []:=qqm.v<|tb λd b=>ey 2<|bJ (YL s _ b)<|tF tE<|bz (nD underlying9 s)<|t2 (λc a=>bJ (MV s (s.length:Int) 0 _ a)<|tE) λc a=>bJ (MV s (s.length:Int) 0 _ a)<|tE
noncomputable def qqH:W:=f154.body.getD .skip
def qqn:ZF Pg [21] 154 f154 qqH:=zf call154 func154 rfl mixed
section
variable(p:ae)
def G9:Q K:=if Y ((p.length:Int)<1)then O T else O (Y ((p.length:Int)>24))
def qar:OU 0 (cA qqH 12) (G9 p) .normal (λo=>[(13,.bool o)]) (aM 65 [(0,.str p)] [] []):=qqn.j<|tf (λa=>bz (nD underlying9 p)<|tg 4 a<|tE) λa=>bz (nD underlying9 p)<|tg 4 a<|bz (nD underlying9 p)<|tE
end
section
variable(p:ae)(m0 a:K)(i b:Int)
def vP:Q K:=if m0 then (lq p i).bind λm=>(mH m).bind λn=>if n then O T else (lq p i).bind λc=>(np c).bind λe=>if e then O T else (lq p i).bind λd=>(rJ d).bind λh=>O h else O Z
def qat:OU 0 (cA qqH 32246) (vP p m0 i) .normal (λo=>[(3,.bool o)]) (aM 65 [(0,.str p),(3,.bool m0),(4,.bool a),(5,.i6 i),(18,.i6 b),(19,.i6 i)] [] []):=qqn.j<|
 tf (λx=>tb λE t=>tb λF w=>have c:=λ{X H L} (r:PV _ X H L)=>tg 2 x<|tv (gW underlying9 t)<|bQ (rL _ w)<|r;tf (λe=>c<|tg 7 e<|tE) λe=>tb λy m=>tb λA q=>have d:=λ{X H L} (r:PV _ X H L)=>c<|tg 7 e<|tv (gW underlying9 m)<|bQ (EN _ q)<|r;tf (λh=>d<|tg 13 h<|tE) λh=>tb λz n=>tb λB s=>d<|tg 13 h<|tv (gW underlying9 n)<|bQ (Dy _ s)<|tE) λx=>tg 2 x<|tE
end
section
variable(p:ae)(c:Int)(m0 b:K)(a:Int)
def St:aF:=aM 65 [(0,.str p),(3,.bool m0),(4,.bool b),(18,.i6 c),(19,.i6 a)] [] []
def qc8(o:K×K):aF:=aM 65 [(3,.bool o.1),(4,.bool o.2)] [] []
def iu:Q ((K×K×Int)⊕(K×K)):=if Y (a<c)then (vP p m0 a).bind λd=>if b then (lq p a).bind λe=>(mH e).bind λm=>if m then O (.inl (d,T,cz (a+1))) else (lq p a).bind λh=>(rJ h).bind λn=>if n then O (.inl (d,T,cz (a+1))) else (lq p a).bind λi=>O (.inl (d,i==95,cz (a+1))) else O (.inl (d,Z,cz (a+1))) else O (.inr (m0,b))
def Ha:Q (K×K):=loop (λ(d:K×K×Int)=>iu p c d.1 d.2.1 d.2.2) (m0,b,a)
def YR:OL 0 (cA qqH 503) (iu p c m0 b a) (λ(x:K×K×Int)=>St p c x.1 x.2.1 x.2.2) (λ_=>.exit 0) qc8 (St p c m0 b a):=qqn.l<|
 tF (tb λB s=>ey 2<|bJ (qat p m0 b a c _ s)<|tf (λh=>tb λy n=>tb λE t=>have d:=λ{X H L} (r:PV _ X H L)=>tg 2 h<|tv (gW underlying9 n)<|bQ (rL _ t)<|r;tf (λi=>d<|tg 7 i<|tE) λi=>tb λz o=>tb λF w=>have e:=λ{X H L} (r:PV _ X H L)=>d<|tg 7 i<|tv (gW underlying9 o)<|bQ (Dy _ w)<|r;tf (λm=>e<|tg 13 m<|tE) λm=>tb λA q=>e<|tg 13 m<|tv (gW underlying9 q)<|tE) λh=>tg 2 h<|tE)<|tE
def qav:=nu (s:=(m0,b,a)) λd=>YR p c d.1 d.2.1 d.2.2
end
def Jt(p:ae):Q K:=(G9 p).bind λc=>if c then O Z else (lq p 0).bind λb=>(mH b).bind λd=>(Ha p (p.length:Int) T d 0).bind λa=>if a.1 then O T else O a.2
def qhi{p:ae}:OV 154 [.str p] (Jt p) (λr=>.bool r) []:=qqn.v<|tb λn d=>ey 2<|bJ (qar p _ d)<|tF tE<|tb λm c=>tb λi e=>tb λh b=>tv (gW underlying9 c)<|bQ (rL _ e)<|bz (nD underlying9 p)<|bJ (qav p (p.length:Int) T i 0 _ b)<|tf (λa=>tg 2 a<|tE) λa=>tg 2 a<|tE
noncomputable def qqE:W:=f100.body.getD .skip
def qsI:ZF Pg [] 100 f100 qqE:=zf call100 func100 rfl mixed
section
variable(v:waA)
def vN:Q K:=(bY v 0).bind λd=>(Eu d).bind λb=>if (b != 0) = T then (bY v 0).bind λe=>(Ev e).bind λc=>if(c !=0)then (bY v 0).bind λa=>if(!(a==([118]:ae)))then O T else O ((v.length:Int)==1) else O Z else O Z
def qao:OU 0 (cA qqE 60) (vN v) .normal (λo=>[(33,.bool o)]) (aM 45 [(3,sl cS v)] [] [((3,0),9)]):=qsI.j<|
 tb λt m=>tb λx h=>have e:=λ{X z A} (r:PV _ X z A)=>tv (dX.ia m)<|tv (dz ZC (.str t) [])<|bQ (qfd _ h)<|r;tf (λp=>tb λw n=>tb λy i=>have a:=λ{X z A} (r:PV _ X z A)=>e<|tg 6 p<|tv (dX.ia n)<|tv (dz ZC (.str w) [])<|bQ (qff _ i)<|r;tf (λq=>tb λs d=>have b:=λ{X z A} (r:PV _ X z A)=>a<|tg 13 q<|tv (dX.ia d)<|tv (dz ZC (.str s) [])<|r;tf (λc=>b<|tg 18 c<|tE) λc=>b<|tg 18 c<|bz (dX.ln v)<|tE) λq=>a<|tg 13 q<|tE) λp=>e<|tg 6 p<|tE
end
section
variable(b:waA)(c a:Int)
def Iz:aF:=aM 45 [(35,sl cS b),(36,.i6 c),(37,.i6 a)] [] []
def Sp(o:Unit⊕(Unit)):Exit:=match o with|(.inl _)=>.ret|(.inr _)=>.exit 0
def Sq(o:Unit⊕(Unit)):aF:=match o with|(.inl o)=>aM 45 [(2,.i6 3)] [] []|(.inr o)=>aM 45 [] [] []
def tK:Q (Int⊕(Unit⊕(Unit))):=if Y (a<c)then (bY b a).bind λe=>(Jt e).bind λd=>if(!d)then O (.inr (.inl ())) else O (.inl (cz (a+1))) else O (.inr (.inr ()))
def G6:Q (Unit⊕(Unit)):=loop (λ(d:Int)=>tK b c d) a
def YI:OL 0 (cA qqE 503) (tK b c a) (λ(m:Int)=>Iz b c m) Sp Sq (Iz b c a):=qsI.l<|tF (tb λh e=>tb λi d=>tv (dX.ia e)<|tv (dz ZC (.str h) [])<|bQ (qhi _ d)<|tF tE<|tE)<|tE
def OD:OK 0 (.loop (cA qqE 503)) (G6 b c a) Sp Sq (Iz b c a):=Bz λ_=>YI _ _ _
end
def jx(s:ae):Q Int:=if Y ((s.length:Int)>120)then O 3 else (Ew s).bind λd=>(vN d).bind λc=>if c then O 3 else (XK d (O 1) N).bind λb=>(G6 b (b.length:Int) 0).bind λa=>match a with|(.inl a)=>O 3|(.inr a)=>O 0
def gR{s:ae}:OV 100 [.str s] (jx s) (λr=>.i6 r) []:=qsI.v<|bz (nD underlying9 s)<|tF tE<|tb λm e=>tb λi d=>bQ (qfh _ e)<|ey 1<|bJ (qao m _ d)<|tF tE<|tb λb c=>tv (dX.sc c)<|bz (dX.ln b)<|t2 (λh a=>bJ (OD b (b.length:Int) 0 _ a)<|tE) λh a=>bJ (OD b (b.length:Int) 0 _ a)<|tE
noncomputable def qAK:W:=f60.body.getD .skip
def qAp:ZF Pg [] 60 f60 qAK:=zf call60 func60 rfl mixed
section
variable(s:ae)(a:K)(m:ae)(m2:K)
def nN:Q K:=(jx s).bind λd=>if(d==0)then (lq s 0).bind λb=>if Y (b>=65)then (lq s 0).bind λc=>(bv ((Y (c<=90))==a) m m2).bind λe=>O e else (bv (Z==a) m m2).bind λh=>O h else (bv Z m m2).bind λi=>O i
def NR:OJ 1 (cA qAK 2) (nN s a m m2) .normal (λo=>aM 27 [(0,.bptr 0 0),(1,.str s)] [.cells [.str m,.bool o] []] []) (aM 27 [(0,.bptr 0 0),(1,.str s),(2,.bool a)] [.cells [.str m,.bool m2] []] []):=qAp.j<|
 tb λx b=>tf (λp=>tb λt d=>have c:=λ{X B E} (r:PV _ X B E)=>bQ (gR _ b)<|tg 5 p<|tv (gW underlying9 d)<|r;tf (λq=>tb λw e=>tb λy h=>c<|tg 9 q<|tv (gW underlying9 e)<|tc [0] (aY _ h)<|tE) λq=>tb λz i=>c<|tg 9 q<|tc [0] (aY _ i)<|tE) λp=>tb λA n=>bQ (gR _ b)<|tg 5 p<|tc [0] (aY _ n)<|tE
end
def aH(s:ae)(a:K)(e:ae)(c:K):Q (ae×K):=(nN s a e c).bind λb=>(ac ([s]:V ae) e b).bind λd=>O (d,b)
def aT{s:ae}{a:K}{e:ae}{b:K}:OG 60 [.bptr 0 0,.str s,.bool a] [] [.cells [.str e,.bool b] []] (aH s a e b) (λr=>.tuple []) [] (λr=>[.cells [.str r.1,.bool r.2] []]):=qAp.g 1<|tb λh c=>tb λi d=>ey 0<|bJ (NR s a e b _ c)<|tv (aP [s] 1 rfl)<|tc [0] (ai _ d)<|tE
noncomputable def qCs:W:=f83.body.getD .skip
def qBS:ZF Pg [] 83 f83 qCs:=zf call83 func83 rfl mixed
def cC(i:Int)(b:ae)(a:K):Q ae:=if Y (i>0)then (ac ([ch]:V ae) b a).bind λc=>O c else O b
def cx{i:Int}{c:ae}{a:K}:OG 83 [.bptr 0 0,.i6 i] [] [.cells [.str c,.bool a] []] (cC i c a) (λr=>.tuple []) [] (λr=>[.cells [.str r,.bool a] []]):=qBS.g 1<|tF (tb λd b=>tv (aP [ch] 1 rfl)<|tc [0] (ai _ b)<|tE)<|tE
noncomputable def qAR:W:=f84.body.getD .skip
def qAw:ZF Pg [] 84 f84 qAR:=zf call84 func84 rfl mixed
section
variable(s m:ae)(m2:K)
def nR:Q K:=if(s==Yw)then (bv T m m2).bind λa=>O a else if(s==QL)then (bv T m m2).bind λb=>O b else if(s==QM)then (bv T m m2).bind λc=>O c else (jx s).bind λd=>(bv (d==0) m m2).bind λe=>O e
def N0:OJ 1 (cA qAR 2) (nR s m m2) .normal (λo=>aM 25 [(0,.bptr 0 0),(1,.str s)] [.cells [.str m,.bool o] []] []) (aM 25 [(0,.bptr 0 0),(1,.str s)] [.cells [.str m,.bool m2] []] []):=qAw.j<|
 tf (λb=>tb λq c=>tg 4 b<|tc [0] (aY _ c)<|tE) λb=>tf (λn=>tb λt d=>tg 4 b<|tg 8 n<|tc [0] (aY _ d)<|tE) λn=>have a:=λ{X z A} (r:PV _ X z A)=>tg 4 b<|tg 8 n<|r;tf (λp=>tb λw e=>a<|tg 12 p<|tc [0] (aY _ e)<|tE) λp=>tb λx h=>tb λy i=>a<|tg 12 p<|bQ (gR _ h)<|tc [0] (aY _ i)<|tE
end
def gT(s d:ae)(b:K):Q (ae×K):=(nR s d b).bind λa=>(ac ([s]:V ae) d a).bind λc=>O (c,a)
def j5{s d:ae}{a:K}:OG 84 [.bptr 0 0,.str s] [] [.cells [.str d,.bool a] []] (gT s d a) (λr=>.tuple []) [] (λr=>[.cells [.str r.1,.bool r.2] []]):=qAw.g 1<|tb λe b=>tb λh c=>ey 0<|bJ (N0 s d a _ b)<|tv (aP [s] 1 rfl)<|tc [0] (ai _ c)<|tE
abbrev eA:=(am->ae->K->Q (K×ae))
abbrev fU(R:eA):Prop:=∀(t:am)(b:ae)(a:K),OG 24 [.bptr 0 0,.agg (al t)] [] [.cells [.str b,.bool a] []] (R t b a) (λr=>.tuple []) [] (λr=>[.cells [.str r.2,.bool r.1] []])
abbrev HA:=(am->Q Int)
abbrev Oo(R:HA):Prop:=∀(t:am),OV 97 [.agg (al t)] (R t) (λr=>.i6 r) []
noncomputable def qAW:W:=f97.body.getD .skip
def qAB:ZF Pg [] 97 f97 qAW:=zf call97 func97 rfl mixed
section
variable(a:HA)(c:oy)(d n b:Int)
def ER:aF:=aM 20 [(3,.i6 n),(7,sl al c),(8,.i6 d),(9,.i6 b)] [.dead] []
def O2(o:Int):aF:=aM 20 [(3,.i6 o)] [.dead] []
instance qFB:KS 0 (ER c d n b):=ks 1 rfl
instance qFy{o:Int}:KS 0 (O2 o):=ks 1 rfl
def jZ:Q ((Int×Int)⊕(Int)):=if Y (b<d)then (bY c b).bind λh=>(a h).bind λe=>O (.inl ((if e>n then e else n),cz (b+1))) else O (.inr n)
def Dz:Q Int:=loop (λ(e:Int×Int)=>jZ a c d e.1 e.2) (n,b)
def Wx(e:Oo a):OL 0 (cA qAW 119) (jZ a c d n b) (λ(o:Int×Int)=>ER c d o.1 o.2) (λ_=>.exit 0) O2 (ER c d n b):=qAB.lx<|tF (tb λm i=>tb λp h=>tv (cQ.ia i)<|tv (cc m)<|tx RZ<|tx (ij m)<|tv (eK m [])<|bQ (e _ _ h)<|tE)<|tE
def Y0(e:Oo a):=nu (s:=(n,b)) λh=>Wx a c d h.1 h.2 e
end
def vR(a:HA)(t:am):Q Int:=(Dz a t.Args (t.Args.length:Int) 0 0).bind λb=>O (cz (b+1))
def qdd(a:HA)(b:Oo a){t:am}:OV 97 [.agg (al t)] (vR a t) (λr=>.i6 r) []:=qAB.v<|tb λd c=>te (eM t)<|tw (aN t)<|bz (cQ.ln t.Args)<|bJ (Y0 a t.Args (t.Args.length:Int) 0 0 b _ c)<|tE
def AX:(am->Q Int)->(am)->Q Int:=λ(rec:am->Q Int) (x:am)=>vR (λt=>rec t) x
def Ey(t:am):Q Int:=rT AX t
def qfo{t:am}:OV 97 [.agg (al t)] (Ey t) (λr=>.i6 r) []:=HU λ_ h=>d7 (F:=AX) (M:=λ(x:am) (r:Int)=>CC Pg GE 97 [.agg (al x)] (.i6 r) []) (λrec a x r h=>qdd _ (λt=>HU λr h=>a t r h) _ h) h
abbrev LD:=(am->Q Int)
abbrev SZ(R:LD):Prop:=∀(t:am),OV 98 [.agg (al t)] (R t) (λr=>.i6 r) []
noncomputable def qy7:W:=f195.body.getD .skip
def qxX:ZF Pg [] 195 f195 qy7:=zf call195 func195 rfl mixed
def AY(s:ae)(a:K):Q K:=(jx s).bind λd=>if(d==0)then (lq s 0).bind λb=>if Y (b>=65)then (lq s 0).bind λc=>O ((Y (c<=90))==a) else O (Z==a) else O Z
def O3{s:ae}{a:K}:OV 195 [.str s,.bool a] (AY s a) (λr=>.bool r) []:=qxX.v<|
 tb λo b=>tf (λh=>tb λm d=>have c:=λ{X p q} (r:PV _ X p q)=>bQ (gR _ b)<|tg 4 h<|tv (gW underlying9 d)<|r;tf (λi=>tb λn e=>c<|tg 8 i<|tv (gW underlying9 e)<|tE) λi=>c<|tg 8 i<|tE) λh=>bQ (gR _ b)<|tg 4 h<|tE
noncomputable def qnw:W:=f148.body.getD .skip
def qnm:ZF Pg [] 148 f148 qnw:=zf call148 func148 rfl mixed
section
variable(t:am)
def la:Q K:=if Y (t.Op<1)then O T else if Y (t.Op>6)then O T else if(!(t.Name==([]:ae)))then if (t.Op != 4) = T then if(t.Op !=5)then O T else if Y ((t.Args.length:Int)>0)then if(t.Op !=4)then if(t.Op !=6)then O T else if Y ((t.Names.length:Int)>0)then O (t.Op !=6) else O Z else if Y ((t.Names.length:Int)>0)then O (t.Op !=6) else O Z else if Y ((t.Names.length:Int)>0)then O (t.Op !=6) else O Z else if Y ((t.Args.length:Int)>0)then if(t.Op !=4)then if(t.Op !=6)then O T else if Y ((t.Names.length:Int)>0)then O (t.Op !=6) else O Z else if Y ((t.Names.length:Int)>0)then O (t.Op !=6) else O Z else if Y ((t.Names.length:Int)>0)then O (t.Op !=6) else O Z else if Y ((t.Args.length:Int)>0)then if(t.Op !=4)then if(t.Op !=6)then O T else if Y ((t.Names.length:Int)>0)then O (t.Op !=6) else O Z else if Y ((t.Names.length:Int)>0)then O (t.Op !=6) else O Z else if Y ((t.Names.length:Int)>0)then O (t.Op !=6) else O Z
def qaL:OU 0 (cA qnw 12) (la t) .normal (λo=>[(52,.bool o)]) (aM 113 [(1,.eptr (al t))] [.dead] []):=qnm.j<|
 have an:=λ{X b1 b2} (r:PV _ X b1 b2)=>tw (aB t)<|r;tf (λc1=>an<|tg 4 c1<|tE) λc1=>have ao:=λ{X b1 b2} (r:PV _ X b1 b2)=>an<|tg 4 c1<|tw (aB t)<|r;tf (λc3=>ao<|tg 9 c3<|tE) λc3=>have ar:=λ{X b1 b2} (r:PV _ X b1 b2)=>ao<|tg 9 c3<|tw (cm t)<|r;tf (λc5=>have b0:=λ{X b1 b2} (r:PV _ X b1 b2)=>ar<|tg 13 c5<|tw (aB t)<|r;tf (λc7=>have a:=λ{X b1 b2} (r:PV _ X b1 b2)=>b0<|tg 18 c7<|tw (aB t)<|r;tf (λc9=>a<|tg 24 c9<|tE) λc9=>have b:=λ{X b1 b2} (r:PV _ X b1 b2)=>a<|tg 24 c9<|tw (aN t)<|bz (cQ.ln t.Args)<|r;tf (λF=>have c:=λ{X b1 b2} (r:PV _ X b1 b2)=>b<|tg 29 F<|tw (aB t)<|r;tf (λH=>have d:=λ{X b1 b2} (r:PV _ X b1 b2)=>c<|tg 34 H<|tw (aB t)<|r;tf (λL=>d<|tg 40 L<|tE) λL=>have e:=λ{X b1 b2} (r:PV _ X b1 b2)=>d<|tg 40 L<|tw (bh t)<|bz (dX.ln t.Names)<|r;tf (λP=>e<|tg 45 P<|tw (aB t)<|tE) λP=>e<|tg 45 P<|tE) λH=>have h:=λ{X b1 b2} (r:PV _ X b1 b2)=>c<|tg 34 H<|tw (bh t)<|bz (dX.ln t.Names)<|r;tf (λR=>h<|tg 45 R<|tw (aB t)<|tE) λR=>h<|tg 45 R<|tE) λF=>have i:=λ{X b1 b2} (r:PV _ X b1 b2)=>b<|tg 29 F<|tw (bh t)<|bz (dX.ln t.Names)<|r;tf (λS=>i<|tg 45 S<|tw (aB t)<|tE) λS=>i<|tg 45 S<|tE) λc7=>have m:=λ{X b1 b2} (r:PV _ X b1 b2)=>b0<|tg 18 c7<|tw (aN t)<|bz (cQ.ln t.Args)<|r;tf (λa0=>have n:=λ{X b1 b2} (r:PV _ X b1 b2)=>m<|tg 29 a0<|tw (aB t)<|r;tf (λa1=>have p:=λ{X b1 b2} (r:PV _ X b1 b2)=>n<|tg 34 a1<|tw (aB t)<|r;tf (λa2=>p<|tg 40 a2<|tE) λa2=>have q:=λ{X b1 b2} (r:PV _ X b1 b2)=>p<|tg 40 a2<|tw (bh t)<|bz (dX.ln t.Names)<|r;tf (λa3=>q<|tg 45 a3<|tw (aB t)<|tE) λa3=>q<|tg 45 a3<|tE) λa1=>have s:=λ{X b1 b2} (r:PV _ X b1 b2)=>n<|tg 34 a1<|tw (bh t)<|bz (dX.ln t.Names)<|r;tf (λa4=>s<|tg 45 a4<|tw (aB t)<|tE) λa4=>s<|tg 45 a4<|tE) λa0=>have w:=λ{X b1 b2} (r:PV _ X b1 b2)=>m<|tg 29 a0<|tw (bh t)<|bz (dX.ln t.Names)<|r;tf (λa5=>w<|tg 45 a5<|tw (aB t)<|tE) λa5=>w<|tg 45 a5<|tE) λc5=>have x:=λ{X b1 b2} (r:PV _ X b1 b2)=>ar<|tg 13 c5<|tw (aN t)<|bz (cQ.ln t.Args)<|r;tf (λa6=>have y:=λ{X b1 b2} (r:PV _ X b1 b2)=>x<|tg 29 a6<|tw (aB t)<|r;tf (λa7=>have z:=λ{X b1 b2} (r:PV _ X b1 b2)=>y<|tg 34 a7<|tw (aB t)<|r;tf (λa8=>z<|tg 40 a8<|tE) λa8=>have A:=λ{X b1 b2} (r:PV _ X b1 b2)=>z<|tg 40 a8<|tw (bh t)<|bz (dX.ln t.Names)<|r;tf (λa9=>A<|tg 45 a9<|tw (aB t)<|tE) λa9=>A<|tg 45 a9<|tE) λa7=>have B:=λ{X b1 b2} (r:PV _ X b1 b2)=>y<|tg 34 a7<|tw (bh t)<|bz (dX.ln t.Names)<|r;tf (λab=>B<|tg 45 ab<|tw (aB t)<|tE) λab=>B<|tg 45 ab<|tE) λa6=>have E:=λ{X b1 b2} (r:PV _ X b1 b2)=>x<|tg 29 a6<|tw (bh t)<|bz (dX.ln t.Names)<|r;tf (λad=>E<|tg 45 ad<|tw (aB t)<|tE) λad=>E<|tg 45 ad<|tE
end
section
variable(t:am)
def nq:Q K:=if(t.Op==4)then O (Y ((t.Args.length:Int)>6)) else O Z
def qaM:OU 0 (cA qnw 28) (nq t) .normal (λo=>[(61,.bool o)]) (aM 113 [(1,.eptr (al t))] [.dead] []):=qnm.j<|
 have a:=λ{X c d} (r:PV _ X c d)=>tw (aB t)<|r;tf (λb=>a<|tg 4 b<|tw (aN t)<|bz (cQ.ln t.Args)<|tE) λb=>a<|tg 4 b<|tE
end
section
variable(t:am)
def lb:Q K:=if(t.Op==6)then if Y ((t.Args.length:Int)<2)then O T else if Y ((t.Args.length:Int)>7)then O T else if Y ((t.Names.length:Int)>0)then O ((t.Names.length:Int)!=(cz ((t.Args.length:Int) - 1))) else O Z else O Z
def qaN:OU 0 (cA qnw 60) (lb t) .normal (λo=>[(92,.bool o)]) (aM 113 [(1,.eptr (al t))] [.dead] []):=qnm.j<|
 have a:=λ{X n p} (r:PV _ X n p)=>tw (aB t)<|r;tf (λe=>have b:=λ{X n p} (r:PV _ X n p)=>a<|tg 4 e<|tw (aN t)<|bz (cQ.ln t.Args)<|r;tf (λh=>b<|tg 9 h<|tE) λh=>have c:=λ{X n p} (r:PV _ X n p)=>b<|tg 9 h<|tw (aN t)<|bz (cQ.ln t.Args)<|r;tf (λi=>c<|tg 15 i<|tE) λi=>have d:=λ{X n p} (r:PV _ X n p)=>c<|tg 15 i<|tw (bh t)<|bz (dX.ln t.Names)<|r;tf (λm=>d<|tg 20 m<|tw (bh t)<|bz (dX.ln t.Names)<|tw (aN t)<|bz (cQ.ln t.Args)<|tE) λm=>d<|tg 20 m<|tE) λe=>a<|tg 4 e<|tE
end
section
variable(t:am)
def nr:Q K:=if(t.Op==4)then (AY t.Name T).bind λa=>if(!a)then O T else if(t.Op==5)then (AY t.Name Z).bind λb=>O (!b) else O Z else if(t.Op==5)then (AY t.Name Z).bind λc=>O (!c) else O Z
def qaO:OU 0 (cA qnw 124) (nr t) .normal (λo=>[(1,.undef),(112,.bool o)]) (aM 113 [(1,.eptr (al t))] [.dead] []):=qnm.j<|
 have a:=λ{X y z} (r:PV _ X y z)=>tw (aB t)<|r;tf (λe=>tb λs n=>have b:=λ{X y z} (r:PV _ X y z)=>a<|tg 4 e<|tw (cm t)<|bQ (O3 _ n)<|r;tf (λh=>b<|tg 10 h<|tE) λh=>have c:=λ{X y z} (r:PV _ X y z)=>b<|tg 10 h<|tw (aB t)<|r;tf (λi=>tb λw p=>c<|tg 14 i<|tw (cm t)<|bQ (O3 _ p)<|tE) λi=>c<|tg 14 i<|tE) λe=>have d:=λ{X y z} (r:PV _ X y z)=>a<|tg 4 e<|tw (aB t)<|r;tf (λm=>tb λx q=>d<|tg 14 m<|tw (cm t)<|bQ (O3 _ q)<|tE) λm=>d<|tg 14 m<|tE
end
def wH(t:am):Q Int:=(la t).bind λa=>if a then O 1 else (nq t).bind λb=>if b then O 13 else (lb t).bind λc=>if c then O 13 else (nr t).bind λd=>if d then O 3 else O 0
def qhq{t:am}:OV 148 [.agg (al t)] (wH t) (λr=>.i6 r) []:=qnm.v<|tb λe a=>te (eM t)<|ey 1<|bJ (qaL t _ a)<|tF tE<|tb λh b=>ey 1<|bJ (qaM t _ b)<|tF tE<|tb λi c=>ey 1<|bJ (qaN t _ c)<|tF tE<|tb λm d=>ey 1<|bJ (qaO t _ d)<|tF tE<|tE
noncomputable def qzD:W:=f98.body.getD .skip
def qAC:ZF Pg [11,23] 98 f98 qzD:=zf call98 func98 rfl mixed
section
variable(b:LD)(c:oy)(d a:Int)
def Af:aF:=aM 25 [(13,sl al c),(14,.i6 d),(15,.i6 a)] [.dead] []
def Sz(o:Int⊕(Unit)):Exit:=match o with|(.inl _)=>.ret|(.inr _)=>.exit 0
def IE(o:Int⊕(Unit)):aF:=match o with|(.inl o)=>aM 25 [(2,.i6 o)] [.dead] []|(.inr o)=>aM 25 [] [.dead] []
instance qFH:KS 0 (Af c d a):=ks 1 rfl
instance qFE{o:Int⊕(Unit)}:KS 0 (IE o):=match o with|(.inl o)=>ks 1 rfl|(.inr o)=>ks 1 rfl
def Ag:Q (Int⊕(Int⊕(Unit))):=if Y (a<d)then (bY c a).bind λh=>(b h).bind λe=>if(e !=0)then O (.inr (.inl e)) else O (.inl (cz (a+1))) else O (.inr (.inr ()))
def ql:Q (Int⊕(Unit)):=loop (λ(e:Int)=>Ag b c d e) a
def Y1(e:SZ b):OL 0 (cA qzD 119) (Ag b c d a) (λ(n:Int)=>Af c d n) Sz IE (Af c d a):=qAC.lx<|tF (tb λm i=>tb λo h=>tv (cQ.ia i)<|tv (cc m)<|tx RZ<|tx (ij m)<|tv (eK m [])<|bQ (e _ _ h)<|tF tE<|tE)<|tE
def O4(e:SZ b):OK 0 (.loop (cA qzD 119)) (ql b c d a) Sz IE (Af c d a):=Bz λ_=>Y1 _ _ _ _ e
end
def lJ(a:LD)(t:am):Q Int:=(wH t).bind λc=>if(c !=0)then O c else (ql a t.Args (t.Args.length:Int) 0).bind λb=>match b with|(.inl b)=>O b|(.inr b)=>O 0
def qfp(a:LD)(b:SZ a){t:am}:OV 98 [.agg (al t)] (lJ a t) (λr=>.i6 r) []:=qAC.v<|tb λh d=>te (eM t)<|tv (cc t)<|bQ (qhq _ d)<|tF tE<|tw (aN t)<|bz (cQ.ln t.Args)<|t2 (λe c=>bJ (O4 a t.Args (t.Args.length:Int) 0 b _ c)<|tE) λe c=>bJ (O4 a t.Args (t.Args.length:Int) 0 b _ c)<|tE
def zm:(am->Q Int)->(am)->Q Int:=λ(rec:am->Q Int) (x:am)=>lJ (λt=>rec t) x
def ES(t:am):Q Int:=rT zm t
def qhp{t:am}:OV 98 [.agg (al t)] (ES t) (λr=>.i6 r) []:=HU λ_ h=>d7 (F:=zm) (M:=λ(x:am) (r:Int)=>CC Pg GE 98 [.agg (al x)] (.i6 r) []) (λrec a x r h=>qfp _ (λt=>HU λr h=>a t r h) _ h) h
noncomputable def qCd:W:=f56.body.getD .skip
def qBD:ZF Pg [] 56 f56 qCd:=zf call56 func56 rfl mixed
def kX(t:am):Q Int:=(Ey t).bind λa=>if Y (a>40)then O 8 else (ES t).bind λb=>O b
def La{t:am}:OV 56 [.agg (al t)] (kX t) (λr=>.i6 r) []:=qBD.v<|tb λc a=>te (eM t)<|tv (cc t)<|bQ (qfo _ a)<|tF tE<|tb λd b=>tv (cc t)<|bQ (qhp _ b)<|tE
abbrev LA:=(ah->ah->Q K)
abbrev SX(R:LA):Prop:=∀(a b:ah),OV 49 [.agg (ag a),.agg (ag b)] (R a b) (λr=>.bool r) []
noncomputable def qw8:W:=f49.body.getD .skip
def qyp:ZF Pg [39] 49 f49 qw8:=zf call49 func49 rfl mixed
section
variable(v a:ah)
def OT:Q K:=if(v.Op !=a.Op)then O T else if(!(v.Name==a.Name))then O T else if(v.N !=a.N)then O T else O ((v.Kids.length:Int)!=(a.Kids.length:Int))
def qax:OU 0 (cA qw8 12) (OT v a) .normal (λo=>[(33,.bool o)]) (aM 53 [(2,.eptr (ag v)),(3,.eptr (ag a))] [.dead,.dead] []):=qyp.j<|
 have b:=λ{X m n} (r:PV _ X m n)=>tw (aE v)<|tw (aE a)<|r;tf (λe=>b<|tg 6 e<|tE) λe=>have c:=λ{X m n} (r:PV _ X m n)=>b<|tg 6 e<|tw (bK v)<|tw (bK a)<|r;tf (λh=>c<|tg 13 h<|tE) λh=>have d:=λ{X m n} (r:PV _ X m n)=>c<|tg 13 h<|tw (bj v)<|tw (bj a)<|r;tf (λi=>d<|tg 20 i<|tE) λi=>d<|tg 20 i<|tw (aA v)<|bz (dN.ln v.Kids)<|tw (aA a)<|bz (dN.ln a.Kids)<|tE
end
section
variable(b:LA)(v d:ah)(c a:Int)
def IC:aF:=aM 53 [(2,.eptr (ag v)),(3,.eptr (ag d)),(36,.i6 c),(37,.i6 a)] [.dead,.dead] []
def Su(o:Unit⊕(Unit)):Exit:=match o with|(.inl _)=>.ret|(.inr _)=>.exit 0
def Sv(o:Unit⊕(Unit)):aF:=match o with|(.inl o)=>aM 53 [(4,.bool Z)] [.dead,.dead] []|(.inr o)=>aM 53 [] [.dead,.dead] []
def Ac:Q (Int⊕(Unit⊕(Unit))):=if Y (a<c)then (bY v.Kids a).bind λh=>(bY d.Kids a).bind λi=>(b h i).bind λe=>if(!e)then O (.inr (.inl ())) else O (.inl (cz (a+1))) else O (.inr (.inr ()))
def OW:Q (Unit⊕(Unit)):=loop (λ(e:Int)=>Ac b v d c e) a
def YV(e:SX b):OL 0 (cA qw8 119) (Ac b v d c a) (λ(q:Int)=>IC v d c q) Su Sv (IC v d c a):=qyp.l<|tF (tb λn i=>tb λo m=>tb λp h=>qc1 [0,1,0,7,15,0,32,0,224,480,1023,2047]<|tw (aA v)<|tv (dN.ia i)<|tv (bA n)<|tw (aA d)<|tv (dN.ia m)<|tv (bA o)<|bQ (e _ _ _ h)<|tF tE<|tE)<|tE
def OX(e:SX b):OK 0 (.loop (cA qw8 119)) (OW b v d c a) Su Sv (IC v d c a):=Bz λ_=>YV _ _ _ _ _ e
end
def K7(c:LA)(a d:ah):Q K:=(OT a d).bind λe=>if e then O Z else (OW c a d (a.Kids.length:Int) 0).bind λb=>match b with|(.inl b)=>O Z|(.inr b)=>O T
def qfk(b:LA)(d:SX b){a e:ah}:OV 49 [.agg (ag a),.agg (ag e)] (K7 b a e) (λr=>.bool r) []:=qyp.v<|tb λm h=>te (dU a)<|te (dU e)<|ey 1<|bJ (qax a e _ h)<|tF tE<|tw (aA a)<|bz (dN.ln a.Kids)<|t2 (λi c=>bJ (OX b a e (a.Kids.length:Int) 0 d _ c)<|tE) λi c=>bJ (OX b a e (a.Kids.length:Int) 0 d _ c)<|tE
def S2:((ah×ah)->Q K)->(ah×ah)->Q K:=λ(rec:(ah×ah)->Q K) (x:ah×ah)=>K7 (λa b=>rec (a,b)) x.1 x.2
def OS(a b:ah):Q K:=rT S2 (a,b)
def OY{a c:ah}:OV 49 [.agg (ag a),.agg (ag c)] (OS a c) (λr=>.bool r) []:=HU λ_ h=>d7 (F:=S2) (M:=λ(x:ah×ah) (r:K)=>CC Pg GE 49 [.agg (ag x.1),.agg (ag x.2)] (.bool r) []) (λrec b x r h=>qfk _ (λa c=>HU λr h=>b (a,c) r h) _ h) h
noncomputable def qCe:W:=f57.body.getD .skip
def qBE:ZF Pg [] 57 f57 qCe:=zf call57 func57 rfl mixed
def ue(p:ah):Q K:=(OS p (⟨0,[],0,[]⟩:ah)).bind λa=>O a
def Bf{p:ah}:OV 57 [.agg (ag p)] (ue p) (λr=>.bool r) []:=qBE.v<|tb λb a=>te (dU p)<|tv (bA p)<|Yv (Tk) (Ti)<|bQ (OY _ a)<|tE
noncomputable def qzz:W:=f58.body.getD .skip
def qyq:ZF Pg [19] 58 f58 qzz:=zf call58 func58 rfl mixed
section
variable(t:am)(i:Int)(c:oy)(d:Int)(m:ae)(m2:K)(e:Int)(h:ae)(n:oy)(p:waA)(q:Int)(r:ae)(s:Int)(a b:pi)
def wV:Q (ae×K):=if Y ((t.Names.length:Int)>0)then (bY t.Names i).bind λx=>(aH x Z m m2).bind λo=>(ac ([bm]:V ae) o.1 o.2).bind λw=>O (w,o.2) else O (m,m2)
def PD:OJ 1 (cA qzz 15342) (wV t i m m2) .normal (λo=>aM 56 [(0,.bptr 0 0),(3,.eptr (al t)),(5,.bptr 2 0),(15,sl al c),(16,.i6 d),(17,.i6 i)] [.cells [.str o.1,.bool o.2] [],.dead,.cells [.i6 e,.str h,sl al n,sl cS p,.i6 q,.str r,.i6 s,sl ag a,sl ag b] []] []) (aM 56 [(0,.bptr 0 0),(3,.eptr (al t)),(4,.i6 i),(5,.bptr 2 0),(15,sl al c),(16,.i6 d),(17,.i6 i)] [.cells [.str m,.bool m2] [],.dead,.cells [.i6 e,.str h,sl al n,sl cS p,.i6 q,.str r,.i6 s,sl ag a,sl ag b] []] []):=qyq.j<|tw (bh t)<|bz (dX.ln t.Names)<|tF (tb λz y=>tb λA w=>tb λB x=>tw (bh t)<|tv (dX.ia y)<|tv (dz ZC (.str z) [])<|tc [0] (aT _ w)<|tv (aP [bm] 1 rfl)<|tc [0] (ai _ x)<|tE)<|tE
end
section
variable(b:eA)(t:am)(c:oy)(d a:Int)(m:ae)(m2:K)
def sK:aF:=aM 56 [(0,.bptr 0 0),(3,.eptr (al t)),(15,sl al c),(16,.i6 d),(17,.i6 a)] [.cells [.str m,.bool m2] [],.dead] []
def CT(o:ae×K):aF:=aM 56 [(0,.bptr 0 0),(3,.eptr (al t))] [.cells [.str o.1,.bool o.2] [],.dead] []
instance qEp:KS 1 (sK t c d a m m2):=ks 2 rfl
instance qEf{o:ae×Bool}:KS 1 (CT t o):=ks 2 rfl
def CS:Q ((Int×ae×K)⊕(ae×K)):=if Y (a<d)then (bY c a).bind λn=>(cC a m m2).bind λi=>(wV t a i m2).bind λe=>(b n e.1 e.2).bind λh=>O (.inl (cz (a+1),h.2,h.1)) else O (.inr (m,m2))
def Hu:Q (ae×K):=loop (λ(e:Int×ae×K)=>CS b t c d e.1 e.2.1 e.2.2) (a,m,m2)
def NN(h:fU b):OL 1 (cA qzz 119) (CS b t c d a m m2) (λ(q:Int×ae×K)=>sK t c d q.1 q.2.1 q.2.2) (λ_=>.exit 0) (CT t) (sK t c d a m m2):=qyq.lx<|tF (tb λe p=>tb λw o=>tb λr i=>tb λs n=>tv (cQ.ia p)<|tv (cc e)<|tx RZ<|tx (ij e)<|tc [0] (cx _ o)<|ey 0<|bJ (PD t a c d w m2 e.Op e.Name e.Args e.Names e.Pred.Op e.Pred.Name e.Pred.N e.Pred.Kids e.Preds _ i)<|tv (eK e [])<|tc [0] (h _ _ _ _ n)<|tE)<|tE
def PE(e:fU b):=nu (s:=(a,m,m2)) λh=>NN b t c d h.1 h.2.1 h.2.2 e
end
def qt(a:eA)(t:am)(m:ae)(c:K):Q (ae×K):=(ac ([dl]:V ae) m c).bind λn=>(XK t.Args N (O (cz ((t.Args.length:Int) - 1)))).bind λi=>(Hu a t i (i.length:Int) 0 n c).bind λb=>(ac ([fC]:V ae) b.1 b.2).bind λe=>(bY t.Args (cz ((t.Args.length:Int) - 1))).bind λh=>(a h e b.2).bind λd=>O (d.2,d.1)
def Uw(a:eA)(b:fU a){t:am}{q:ae}{c:K}:OG 58 [.bptr 0 0,.agg (al t)] [] [.cells [.str q,.bool c] []] (qt a t q c) (λr=>.tuple []) [] (λr=>[.cells [.str r.1,.bool r.2] []]):=qyq.g 1<|tb λw n=>tb λo m=>tb λs d=>tb λx e=>tb λp i=>tb λy h=>te (eM t)<|tv (aP [dl] 1 rfl)<|tc [0] (ai _ n)<|tw (aN t)<|tw (aN t)<|bz (cQ.ln t.Args)<|tv (cQ.sc m)<|bz (cQ.ln o)<|bJ (PE a t o (o.length:Int) 0 w c b _ d)<|tv (aP [fC] 1 rfl)<|tc [0] (ai _ e)<|tw (aN t)<|tw (aN t)<|bz (cQ.ln t.Args)<|tv (cQ.ia i)<|tv (cc p)<|tc [0] (b _ _ _ _ h)<|tE
abbrev Hy:=(ah->Q Int)
abbrev Om(R:Hy):Prop:=∀(p:ah),OV 196 [.agg (ag p)] (R p) (λr=>.i6 r) []
noncomputable def qvI:W:=f196.body.getD .skip
def qvc:ZF Pg [] 196 f196 qvI:=zf call196 func196 rfl mixed
section
variable(a:Hy)(c:pi)(d n b:Int)
def EO:aF:=aM 20 [(3,.i6 n),(7,sl ag c),(8,.i6 d),(9,.i6 b)] [.dead] []
def OQ(o:Int):aF:=aM 20 [(3,.i6 o)] [.dead] []
instance qFz:KS 0 (EO c d n b):=ks 1 rfl
instance qFw{o:Int}:KS 0 (OQ o):=ks 1 rfl
def OP:Q ((Int×Int)⊕(Int)):=if Y (b<d)then (bY c b).bind λh=>(a h).bind λe=>O (.inl ((if e>n then e else n),cz (b+1))) else O (.inr n)
def Ud:Q Int:=loop (λ(e:Int×Int)=>OP a c d e.1 e.2) (n,b)
def Wv(e:Om a):OL 0 (cA qvI 119) (OP a c d n b) (λ(o:Int×Int)=>EO c d o.1 o.2) (λ_=>.exit 0) OQ (EO c d n b):=qvc.lx<|tF (tb λm i=>tb λp h=>tv (dN.ia i)<|tv (bA m)<|tx TP<|tx (gP m)<|tv (eJ m [])<|bQ (e _ _ h)<|tE)<|tE
def YT(e:Om a):=nu (s:=(n,b)) λh=>Wv a c d h.1 h.2 e
end
def Hb(a:Hy)(p:ah):Q Int:=(Ud a p.Kids (p.Kids.length:Int) 0 0).bind λb=>O (cz (b+1))
def qc9(a:Hy)(b:Om a){p:ah}:OV 196 [.agg (ag p)] (Hb a p) (λr=>.i6 r) []:=qvc.v<|tb λd c=>te (dU p)<|tw (aA p)<|bz (dN.ln p.Kids)<|bJ (YT a p.Kids (p.Kids.length:Int) 0 0 b _ c)<|tE
def Hd:(ah->Q Int)->(ah)->Q Int:=λ(rec:ah->Q Int) (x:ah)=>Hb (λp=>rec p) x
def Ju(p:ah):Q Int:=rT Hd p
def qfj{p:ah}:OV 196 [.agg (ag p)] (Ju p) (λr=>.i6 r) []:=HU λ_ h=>d7 (F:=Hd) (M:=λ(x:ah) (r:Int)=>CC Pg GE 196 [.agg (ag x)] (.i6 r) []) (λrec a x r h=>qc9 _ (λp=>HU λr h=>a p r h) _ h) h
abbrev LC:=(ah->Q Int)
abbrev SY(R:LC):Prop:=∀(p:ah),OV 197 [.agg (ag p)] (R p) (λr=>.i6 r) []
noncomputable def qzs:W:=f249.body.getD .skip
def qyi:ZF Pg [] 249 f249 qzs:=zf call249 func249 rfl mixed
def Ex(a:Int):Q K:=if(a==3)then O T else if(a==4)then O T else O (a==5)
def qfm{c:Int}:OV 249 [.i6 c] (Ex c) (λr=>.bool r) []:=qyi.v<|tf (λa=>tg 3 a<|tE) λa=>tf (λb=>tg 3 a<|tg 7 b<|tE) λb=>tg 3 a<|tg 7 b<|tE
noncomputable def qqT:W:=f250.body.getD .skip
def qqx:ZF Pg [] 250 f250 qqT:=zf call250 func250 rfl mixed
section
variable(n a:Int)
def AQ:Q K:=if(a==1)then O (a==1) else if(a==2)then O (a==2) else O (a==3)
def qaz:OU 0 (cA qqT 54) (AQ a) .normal (λo=>[(6,.bool o)]) (aM 28 [(1,.i6 n),(5,.i6 a)] [] []):=qqx.j<|tF tE<|tF tE<|tE
end
section
variable(n a:Int)
def AR:Q K:=if(a==4)then O (a==4) else O (a==5)
def qaA:OU 0 (cA qqT 222) (AR a) .normal (λo=>[(12,.bool o)]) (aM 28 [(1,.i6 n),(5,.i6 a)] [] []):=qqx.j<|tF tE<|tE
end
section
variable(n a:Int)
def AS:Q K:=if(a==9)then O (a==9) else O (a==14)
def qaB:OU 0 (cA qqT 894) (AS a) .normal (λo=>[(5,.undef),(21,.bool o)]) (aM 28 [(1,.i6 n),(5,.i6 a)] [] []):=qqx.j<|tF tE<|tE
end
def qj(b n:Int):Q K:=(AQ b).bind λc=>if c then O (n==0) else (AR b).bind λd=>if d then if Y (n>=1)then O (Y (n<=24)) else O Z else (AS b).bind λa=>if a then O (n==1) else O (n==2)
def Hg{b n:Int}:OV 250 [.i6 b,.i6 n] (qj b n) (λr=>.bool r) []:=qqx.v<|tb λi c=>ey 3<|bJ (qaz n b _ c)<|tF tE<|tb λm d=>ey 0<|bJ (qaA n b _ d)<|tF (tf (λe=>tg 3 e<|tE) λe=>tg 3 e<|tE)<|tb λh a=>ey 0<|bJ (qaB n b _ a)<|tF tE<|tE
noncomputable def qzk:W:=f217.body.getD .skip
def qya:ZF Pg [] 217 f217 qzk:=zf call217 func217 rfl mixed
def K2(n:Int):Q K:=if Y (n>=(-1000000000000))then O (Y (n<=1000000000000)) else O Z
def qd0{n:Int}:OV 217 [.i6 n] (K2 n) (λr=>.bool r) []:=qya.v<|tf (λa=>tg 3 a<|tE) λa=>tg 3 a<|tE
noncomputable def qzt:W:=f251.body.getD .skip
def qyj:ZF Pg [] 251 f251 qzt:=zf call251 func251 rfl mixed
def u7(p:ah):Q K:=if(p.Op==3)then if(p.Name==([118]:ae))then O T else (jx p.Name).bind λc=>O (c==0) else if(p.Op==4)then if(p.Name==([116,97,103]:ae))then O T else if(p.Name==([118,97,108]:ae))then O T else (jx p.Name).bind λa=>O (a==0) else if(p.Op==5)then (jx p.Name).bind λb=>O (b==0) else O T
def qdb{p:ah}:OV 251 [.agg (ag p)] (u7 p) (λr=>.bool r) []:=qyj.v<|
 te (dU p)<|tw (aE p)<|tF (have c:=λ{X t w} (r:PV _ X t w)=>tw (bK p)<|r;tf (λi=>c<|tg 4 i<|tE) λi=>tb λs h=>c<|tg 4 i<|tw (bK p)<|bQ (gR _ h)<|tE)<|tF (have d:=λ{X t w} (r:PV _ X t w)=>tw (bK p)<|r;tf (λm=>d<|tg 4 m<|tE) λm=>have e:=λ{X t w} (r:PV _ X t w)=>d<|tg 4 m<|tw (bK p)<|r;tf (λn=>e<|tg 9 n<|tE) λn=>tb λo a=>e<|tg 9 n<|tw (bK p)<|bQ (gR _ a)<|tE)<|tF (tb λq b=>tw (bK p)<|bQ (gR _ b)<|tE)<|tE
noncomputable def qnA:W:=f231.body.getD .skip
def qnp:ZF Pg [] 231 f231 qnA:=zf call231 func231 rfl mixed
section
variable(p:ah)
def AU:Q K:=if(p.Op==1)then O T else O (p.Op==2)
def qaC:OU 0 (cA qnA 6) (AU p) .normal (λo=>[(3,.bool o)]) (aM 87 [(1,.eptr (ag p))] [.dead] []):=qnp.j<|
 have a:=λ{X c d} (r:PV _ X c d)=>tw (aE p)<|r;tf (λb=>a<|tg 4 b<|tE) λb=>a<|tg 4 b<|tw (aE p)<|tE
end
section
variable(p:ah)(a:K)
def AV:Q K:=if Y (p.Op<1)then O T else if Y (p.Op>18)then O T else if(!(p.Name==([]:ae)))then (Ex p.Op).bind λb=>if(!b)then O T else if(p.N !=0)then if(!a)then O T else (qj p.Op (p.Kids.length:Int)).bind λc=>O (!c) else (qj p.Op (p.Kids.length:Int)).bind λd=>O (!d) else if(p.N !=0)then if(!a)then O T else (qj p.Op (p.Kids.length:Int)).bind λe=>O (!e) else (qj p.Op (p.Kids.length:Int)).bind λh=>O (!h)
def qaD:OU 0 (cA qnA 28) (AV p a) .normal (λo=>[(3,.undef),(48,.bool o)]) (aM 87 [(1,.eptr (ag p)),(3,.bool a)] [.dead] []):=qnp.j<|
 have A:=λ{X a2 a3} (r:PV _ X a2 a3)=>tw (aE p)<|r;tf (λF=>A<|tg 4 F<|tE) λF=>have B:=λ{X a2 a3} (r:PV _ X a2 a3)=>A<|tg 4 F<|tw (aE p)<|r;tf (λH=>B<|tg 9 H<|tE) λH=>have E:=λ{X a2 a3} (r:PV _ X a2 a3)=>B<|tg 9 H<|tw (bK p)<|r;tf (λL=>tb λP t=>have b:=λ{X a2 a3} (r:PV _ X a2 a3)=>E<|tg 13 L<|tw (aE p)<|bQ (qfm _ t)<|r;tf (λi=>b<|tg 20 i<|tE) λi=>have c:=λ{X a2 a3} (r:PV _ X a2 a3)=>b<|tg 20 i<|tw (bj p)<|r;tf (λm=>have d:=λ{X a2 a3} (r:PV _ X a2 a3)=>c<|tg 24 m<|r;tf (λn=>d<|tg 29 n<|tE) λn=>tb λR w=>d<|tg 29 n<|tw (aE p)<|tw (aA p)<|bz (dN.ln p.Kids)<|bQ (Hg _ w)<|tE) λm=>tb λS x=>c<|tg 24 m<|tw (aE p)<|tw (aA p)<|bz (dN.ln p.Kids)<|bQ (Hg _ x)<|tE) λL=>have e:=λ{X a2 a3} (r:PV _ X a2 a3)=>E<|tg 13 L<|tw (bj p)<|r;tf (λq=>have h:=λ{X a2 a3} (r:PV _ X a2 a3)=>e<|tg 24 q<|r;tf (λs=>h<|tg 29 s<|tE) λs=>tb λa0 y=>h<|tg 29 s<|tw (aE p)<|tw (aA p)<|bz (dN.ln p.Kids)<|bQ (Hg _ y)<|tE) λq=>tb λa1 z=>e<|tg 24 q<|tw (aE p)<|tw (aA p)<|bz (dN.ln p.Kids)<|bQ (Hg _ z)<|tE
end
section
variable(p:ah)
def qk:Q K:=if (p.Op == 1) = T then (K2 p.N).bind λa=>if(!a)then O T else if(p.Op==2)then if Y (p.N<0)then O T else O (Y (p.N>1)) else O Z else if(p.Op==2)then if Y (p.N<0)then O T else O (Y (p.N>1)) else O Z
def qaE:OU 0 (cA qnA 60) (qk p) .normal (λo=>[(72,.bool o)]) (aM 87 [(1,.eptr (ag p))] [.dead] []):=qnp.j<|
 have a:=λ{X y z} (r:PV _ X y z)=>tw (aE p)<|r;tf (λi=>tb λx w=>have b:=λ{X y z} (r:PV _ X y z)=>a<|tg 4 i<|tw (bj p)<|bQ (qd0 _ w)<|r;tf (λm=>b<|tg 10 m<|tE) λm=>have c:=λ{X y z} (r:PV _ X y z)=>b<|tg 10 m<|tw (aE p)<|r;tf (λn=>have d:=λ{X y z} (r:PV _ X y z)=>c<|tg 14 n<|tw (bj p)<|r;tf (λq=>d<|tg 18 q<|tE) λq=>d<|tg 18 q<|tw (bj p)<|tE) λn=>c<|tg 14 n<|tE) λi=>have e:=λ{X y z} (r:PV _ X y z)=>a<|tg 4 i<|tw (aE p)<|r;tf (λs=>have h:=λ{X y z} (r:PV _ X y z)=>e<|tg 14 s<|tw (bj p)<|r;tf (λt=>h<|tg 18 t<|tE) λt=>h<|tg 18 t<|tw (bj p)<|tE) λs=>e<|tg 14 s<|tE
end
section
variable(p:ah)
def AW:Q K:=if(p.Op==8)then (bY p.Kids 0).bind λa=>O (a.Op !=1) else O Z
def qaF:OU 0 (cA qnA 252) (AW p) .normal (λo=>[(1,.undef),(86,.bool o)]) (aM 87 [(1,.eptr (ag p))] [.dead] []):=qnp.j<|
 have a:=λ{X e h} (r:PV _ X e h)=>tw (aE p)<|r;tf (λb=>tb λd c=>a<|tg 4 b<|tw (aA p)<|tv (dN.ia c)<|tw (aE d)<|tE) λb=>a<|tg 4 b<|tE
end
def AT(p:ah):Q Int:=(AU p).bind λe=>(AV p e).bind λa=>if a then O 1 else (qk p).bind λb=>if b then O 2 else (u7 p).bind λd=>if(!d)then O 3 else (AW p).bind λc=>if c then O 6 else O 0
def qhl{p:ah}:OV 231 [.agg (ag p)] (AT p) (λr=>.i6 r) []:=qnp.v<|tb λi e=>tb λh a=>te (dU p)<|ey 0<|bJ (qaC p _ e)<|ey 1<|bJ (qaD p i _ a)<|tF tE<|tb λm b=>ey 1<|bJ (qaE p _ b)<|tF tE<|tb λo d=>tv (bA p)<|bQ (qdb _ d)<|tF tE<|tb λn c=>ey 1<|bJ (qaF p _ c)<|tF tE<|tE
noncomputable def qtj:W:=f197.body.getD .skip
def qvd:ZF Pg [11,23] 197 f197 qtj:=zf call197 func197 rfl mixed
section
variable(b:LC)(c:pi)(d a:Int)
def Ad:aF:=aM 25 [(13,sl ag c),(14,.i6 d),(15,.i6 a)] [.dead] []
def Sw(o:Int⊕(Unit)):Exit:=match o with|(.inl _)=>.ret|(.inr _)=>.exit 0
def ID(o:Int⊕(Unit)):aF:=match o with|(.inl o)=>aM 25 [(2,.i6 o)] [.dead] []|(.inr o)=>aM 25 [] [.dead] []
instance qFG:KS 0 (Ad c d a):=ks 1 rfl
instance qFD{o:Int⊕(Unit)}:KS 0 (ID o):=match o with|(.inl o)=>ks 1 rfl|(.inr o)=>ks 1 rfl
def jQ:Q (Int⊕(Int⊕(Unit))):=if Y (a<d)then (bY c a).bind λh=>(b h).bind λe=>if(e !=0)then O (.inr (.inl e)) else O (.inl (cz (a+1))) else O (.inr (.inr ()))
def AP:Q (Int⊕(Unit)):=loop (λ(e:Int)=>jQ b c d e) a
def YW(e:SY b):OL 0 (cA qtj 119) (jQ b c d a) (λ(n:Int)=>Ad c d n) Sw ID (Ad c d a):=qvd.lx<|tF (tb λm i=>tb λo h=>tv (dN.ia i)<|tv (bA m)<|tx TP<|tx (gP m)<|tv (eJ m [])<|bQ (e _ _ h)<|tF tE<|tE)<|tE
def OZ(e:SY b):OK 0 (.loop (cA qtj 119)) (AP b c d a) Sw ID (Ad c d a):=Bz λ_=>YW _ _ _ _ e
end
def zk(a:LC)(p:ah):Q Int:=(AT p).bind λc=>if(c !=0)then O c else (AP a p.Kids (p.Kids.length:Int) 0).bind λb=>match b with|(.inl b)=>O b|(.inr b)=>O 0
def qfl(a:LC)(b:SY a){p:ah}:OV 197 [.agg (ag p)] (zk a p) (λr=>.i6 r) []:=qvd.v<|tb λh d=>te (dU p)<|tv (bA p)<|bQ (qhl _ d)<|tF tE<|tw (aA p)<|bz (dN.ln p.Kids)<|t2 (λe c=>bJ (OZ a p.Kids (p.Kids.length:Int) 0 b _ c)<|tE) λe c=>bJ (OZ a p.Kids (p.Kids.length:Int) 0 b _ c)<|tE
def K8:(ah->Q Int)->(ah)->Q Int:=λ(rec:ah->Q Int) (x:ah)=>zk (λp=>rec p) x
def Uf(p:ah):Q Int:=rT K8 p
def qhk{p:ah}:OV 197 [.agg (ag p)] (Uf p) (λr=>.i6 r) []:=HU λ_ h=>d7 (F:=K8) (M:=λ(x:ah) (r:Int)=>CC Pg GE 197 [.agg (ag x)] (.i6 r) []) (λrec a x r h=>qfl _ (λp=>HU λr h=>a p r h) _ h) h
noncomputable def qyP:W:=f149.body.getD .skip
def qxF:ZF Pg [] 149 f149 qyP:=zf call149 func149 rfl mixed
def rM(p:ah):Q Int:=(vQ p).bind λa=>if Y (a>400)then O 7 else (Ju p).bind λb=>if Y (b>40)then O 8 else (Uf p).bind λc=>O c
def qfi{p:ah}:OV 149 [.agg (ag p)] (rM p) (λr=>.i6 r) []:=qxF.v<|tb λd a=>te (dU p)<|tv (bA p)<|bQ (K6 _ a)<|tF tE<|tb λe b=>tv (bA p)<|bQ (qfj _ b)<|tF tE<|tb λh c=>tv (bA p)<|bQ (qhk _ c)<|tE
abbrev qz:=(ah->Q ae)
abbrev EH(R:qz):Prop:=∀(p:ah),OV 150 [.agg (ag p)] (R p) (λr=>.str r) []
noncomputable def qtk:W:=f198.body.getD .skip
def qsU:ZF Pg [] 198 f198 qtk:=zf call198 func198 rfl mixed
section
variable(a:Int)
def Uh:Q K:=if(a==10)then O (a==10) else if(a==11)then O (a==11) else if(a==12)then O (a==12) else O (a==13)
def YX:OU 0 (cA qtk 57342) (Uh a) .normal (λo=>[(15,.bool o)]) (aM 27 [(4,.i6 a)] [.dead] []):=qsU.j<|tF tE<|tF tE<|tF tE<|tE
end
section
variable(a:Int)
def Ui:Q K:=if(a==6)then O (a==6) else O (a==7)
def YY:OU 0 (cA qtk 229374) (Ui a) .normal (λo=>[(20,.bool o)]) (aM 27 [(4,.i6 a)] [.dead] []):=qsU.j<|tF tE<|tE
end
def QP(p:ah):Q Int:=if(p.Op==18)then O 1 else if(p.Op==17)then O 2 else if(p.Op==16)then O 3 else if(p.Op==15)then O 4 else if(p.Op==14)then O 5 else (Uh p.Op).bind λb=>if b then O 6 else (Ui p.Op).bind λa=>if a then O 7 else if(p.Op==8)then O 8 else if(p.Op==9)then O 9 else O 10
def Uj{p:ah}:OV 198 [.agg (ag p)] (QP p) (λr=>.i6 r) []:=qsU.v<|te (dU p)<|tw (aE p)<|tF tE<|tF tE<|tF tE<|tF tE<|tF tE<|tb λd b=>ey 0<|bJ (YX p.Op _ b)<|tF tE<|tb λc a=>ey 0<|bJ (YY p.Op _ a)<|tF tE<|tF tE<|tF tE<|tE
noncomputable def qtn:W:=f233.body.getD .skip
def qsX:ZF Pg [16] 233 f233 qtn:=zf call233 func233 rfl mixed
section
variable(n:Int)(v:V Int)(a:K)(d:Int)
def Wp:Q Int:=if Y (d<0)then O (IntKind.i64.wrap (0 - d)) else O d
def qfa:OU 0 (cA qtn 1982) (Wp d) .normal (λo=>[(5,.i6 o)]) (aM 25 [(0,.i6 n),(2,.bptr 0 0),(3,sl (cI .i64) v),(4,.bool a),(5,.i6 d)] [.cells [.bool Z,sl (cI .i64) ([]:V Int)] [(1,3)]] [((3,0),3)]):=qsX.j<|tF tE<|tE
end
section
variable(a:K)(n:Int)(v:V Int)
def XY:aF:=aM 25 [(0,.i6 n),(2,.bptr 0 0),(3,sl (cI .i64) v),(4,.bool a)] [.cells [.bool Z,sl (cI .i64) ([]:V Int)] [(1,3)]] [((3,0),3)]
def qhe(o:V Int):aF:=aM 25 [(2,.bptr 0 0),(3,sl (cI .i64) o),(4,.bool a)] [.cells [.bool Z,sl (cI .i64) ([]:V Int)] [(1,3)]] [((3,0),3)]
def vK:Q ((Int×V Int)⊕V Int):=if(n !=0)then (re n 10000).bind λd=>(Wp d).bind λc=>(app v ([c]:V Int)).bind λb=>(qu .i64 n 10000).bind λe=>O (.inl (e,b)) else O (.inr v)
def Jr:Q (V Int):=loop (λ(b:Int×V Int)=>vK b.1 b.2) (n,v)
def qc4:OL 0 (cA qtn 123) (vK n v) (λ(h:Int×V Int)=>XY a h.1 h.2) (λ_=>.exit 0) (qhe a) (XY a n v):=qsX.l<|
 tF (tb λm d=>tb λi c=>tb λo b=>tb λp e=>tv (X4 (P:=Pg) (t:=3) (k:=.i64) d)<|ey 0<|bJ (qfa n v a m _ c)<|tv (VW.mk' (v:=(PVal.int .i64)) (qA6 .i64) ([i]:V Int) 1 (by kernel_rfl))<|tv (VW.ap b)<|tv (X3 (P:=Pg) (t:=3) e)<|tE)<|tE
def qfb:=nu (s:=(n,v)) λb=>qc4 a b.1 b.2
end
def qe9(n:Int):Q wy:=(Jr n ([]:V Int)).bind λa=>O (⟨(Y (n<0)),a⟩:wy)
def qlF{n:Int}:OV 233 [.i6 n] (qe9 n) (λr=>.agg (gw r)) []:=qsX.v<|tb λb a=>tx qwv<|bJ (qfb (Y (n<0)) n ([]:V Int) _ a)<|tv (qhB (Y (n<0)) b)<|tx (qoZ (⟨(Y (n<0)),b⟩:wy))<|Jo λq=>aI (qpA (⟨(Y (n<0)),b⟩:wy)) q.2
noncomputable def qnB:W:=f261.body.getD .skip
def qqy:ZF Pg [] 261 f261 qnB:=zf call261 func261 rfl mixed
section
variable(v:wy)(n:Int)
def Du:Q K:=if Y (n>200)then O T else if(n==0)then if v.Neg then O T else if Y (n>0)then (bY v.Digits (cz (n - 1))).bind λb=>O (b==0) else O Z else if Y (n>0)then (bY v.Digits (cz (n - 1))).bind λa=>O (a==0) else O Z
def YA:OU 0 (cA qnB 28) (Du v n) .normal (λo=>[(30,.bool o)]) (aM 50 [(1,.eptr (gw v)),(3,.i6 n)] [.dead] []):=qqy.j<|
 tf (λe=>tg 3 e<|tE) λe=>tf (λi=>have b:=λ{X w x} (r:PV _ X w x)=>tg 3 e<|tg 6 i<|tw (HH v)<|r;tf (λm=>b<|tg 11 m<|tE) λm=>have c:=λ{X w x} (r:PV _ X w x)=>b<|tg 11 m<|r;tf (λp=>tb λt h=>c<|tg 14 p<|tw (gN v)<|tv (VW.ia h)<|tv (dz qwO (.i6 t) [])<|tE) λp=>c<|tg 14 p<|tE) λi=>have d:=λ{X w x} (r:PV _ X w x)=>tg 3 e<|tg 6 i<|r;tf (λq=>tb λs a=>d<|tg 14 q<|tw (gN v)<|tv (VW.ia a)<|tv (dz qwO (.i6 s) [])<|tE) λq=>d<|tg 14 q<|tE
end
section
variable(v:wy)(n i:Int)
def Dv:Q K:=(bY v.Digits i).bind λa=>if Y (a<0)then O T else (bY v.Digits i).bind λb=>O (Y (b>=10000))
def YB:OU 0 (cA qnB 3962) (Dv v i) .normal (λo=>[(49,.bool o)]) (aM 50 [(1,.eptr (gw v)),(3,.i6 n),(4,.i6 i)] [.dead] []):=qqy.j<|
 tb λe c=>have a:=λ{X m p} (r:PV _ X m p)=>tw (gN v)<|tv (VW.ia c)<|tv (dz qwO (.i6 e) [])<|r;tf (λb=>a<|tg 7 b<|tE) λb=>tb λh d=>a<|tg 7 b<|tw (gN v)<|tv (VW.ia d)<|tv (dz qwO (.i6 h) [])<|tE
end
section
variable(v:wy)(n i:Int)
def EI:aF:=aM 50 [(1,.eptr (gw v)),(3,.i6 n),(4,.i6 i)] [.dead] []
def Oy(o:Unit⊕(Unit)):Exit:=match o with|(.inl _)=>.ret|(.inr _)=>.exit 0
def Oz(o:Unit⊕(Unit)):aF:=match o with|(.inl o)=>aM 50 [(2,.bool Z)] [.dead] []|(.inr o)=>aM 50 [] [.dead] []
def wA:Q (Int⊕(Unit⊕(Unit))):=if Y (i<n)then (Dv v i).bind λa=>if a then O (.inr (.inl ())) else O (.inl (cz (i+1))) else O (.inr (.inr ()))
def Dw:Q (Unit⊕(Unit)):=loop (λ(a:Int)=>wA v n a) i
def Wq:OL 0 (cA qnB 247) (wA v n i) (λ(c:Int)=>EI v n c) Oy Oz (EI v n i):=qqy.l<|tF (tb λb a=>ey 1<|bJ (YB v n i _ a)<|tF tE<|tE)<|tE
def MT:OK 0 (.loop (cA qnB 247)) (Dw v n i) Oy Oz (EI v n i):=Bz λ_=>Wq _ _ _
end
def Js(a:wy):Q K:=(Du a (a.Digits.length:Int)).bind λc=>if c then O Z else (Dw a (a.Digits.length:Int) 0).bind λb=>match b with|(.inl b)=>O Z|(.inr b)=>O T
def Ua{a:wy}:OV 261 [.agg (gw a)] (Js a) (λr=>.bool r) []:=qqy.v<|tb λe c=>te (Z8 a)<|tw (gN a)<|bz (VW.ln a.Digits)<|ey 1<|bJ (YA a (a.Digits.length:Int) _ c)<|tF tE<|t2 (λd b=>bJ (MT a (a.Digits.length:Int) 0 _ b)<|tE) λd b=>bJ (MT a (a.Digits.length:Int) 0 _ b)<|tE
noncomputable def qzu:W:=f252.body.getD .skip
def qyk:ZF Pg [] 252 f252 qzu:=zf call252 func252 rfl mixed
def S1(a:wy):Q (V Int):=(Js a).bind λb=>if(!b)then O ([]:V Int) else O a.Digits
def qc7{a:wy}:OV 252 [.agg (gw a)] (S1 a) (λr=>sl (cI .i64) r) []:=qyk.v<|tb λc b=>te (Z8 a)<|tv (Z2 a)<|bQ (Ua _ b)<|tF tE<|tw (gN a)<|tE
noncomputable def qzv:W:=f253.body.getD .skip
def qyl:ZF Pg [] 253 f253 qzv:=zf call253 func253 rfl mixed
def Ub(n:Int):Q ae:=(qu .i64 n 1000).bind λq=>(qu .i64 n 1000).bind λr=>(XK ([48,49,50,51,52,53,54,55,56,57]:ae) (O q) (O (cz (r+1)))).bind λy=>(qu .i64 n 100).bind λs=>(re s 10).bind λt=>(qu .i64 n 100).bind λw=>(re w 10).bind λx=>(XK ([48,49,50,51,52,53,54,55,56,57]:ae) (O t) (O (cz (x+1)))).bind λz=>(UT y z).bind λA=>(qu .i64 n 10).bind λa=>(re a 10).bind λb=>(qu .i64 n 10).bind λc=>(re c 10).bind λd=>(XK ([48,49,50,51,52,53,54,55,56,57]:ae) (O b) (O (cz (d+1)))).bind λi=>(UT A i).bind λm=>(re n 10).bind λe=>(re n 10).bind λh=>(XK ([48,49,50,51,52,53,54,55,56,57]:ae) (O e) (O (cz (h+1)))).bind λo=>(UT m o).bind λp=>O p
def qhg{n:Int}:OV 253 [.i6 n] (Ub n) (λr=>.str r) []:=qyl.v<|tb λq1 q=>tb λq2 s=>tb λs3 A=>tb λq4 w=>tb λq5 x=>tb λq6 y=>tb λq7 z=>tb λs8 B=>tb λs9 E=>tb λF a=>tb λH b=>tb λL c=>tb λR d=>tb λa0 i=>tb λa1 m=>tb λS e=>tb λX h=>tb λa2 o=>tb λa3 p=>qc1 [0,1,0,4,12,31,0,64,192,0,512,1536,3584,8128,16383,0,32768,98304,0,262144,786432,1835008,4161536,8388607,0,16777216,0,67108864,201326592,520093696,1073741823,2147483647]<|tv (X3 (P:=Pg) (t:=3) q)<|tv (X3 (P:=Pg) (t:=3) s)<|tv (V3 underlying9 A)<|tv (X3 (P:=Pg) (t:=3) w)<|tv (X4 (P:=Pg) (t:=3) (k:=.i64) x)<|tv (X3 (P:=Pg) (t:=3) y)<|tv (X4 (P:=Pg) (t:=3) (k:=.i64) z)<|tv (V3 underlying9 B)<|tv (iO (P:=Pg) (t:=9) E)<|tv (X3 (P:=Pg) (t:=3) a)<|tv (X4 (P:=Pg) (t:=3) (k:=.i64) b)<|tv (X3 (P:=Pg) (t:=3) c)<|tv (X4 (P:=Pg) (t:=3) (k:=.i64) d)<|tv (V3 underlying9 i)<|tv (iO (P:=Pg) (t:=9) m)<|tv (X4 (P:=Pg) (t:=3) (k:=.i64) e)<|tv (X4 (P:=Pg) (t:=3) (k:=.i64) h)<|tv (V3 underlying9 o)<|tv (iO (P:=Pg) (t:=9) p)<|tE
noncomputable def qzw:W:=f254.body.getD .skip
def qym:ZF Pg [] 254 f254 qzw:=zf call254 func254 rfl mixed
def K3(a:wy):Q K:=(Js a).bind λb=>if b then O a.Neg else O Z
def YC{a:wy}:OV 254 [.agg (gw a)] (K3 a) (λr=>.bool r) []:=qym.v<|
 tb λe c=>te (Z8 a)<|have b:=λ{X h i} (r:PV _ X h i)=>tv (Z2 a)<|bQ (Ua _ c)<|r;tf (λd=>b<|tg 3 d<|tw (HH a)<|tE) λd=>b<|tg 3 d<|tE
end Go.Proofs.YtibglelmlnfojaaGreatDoor
