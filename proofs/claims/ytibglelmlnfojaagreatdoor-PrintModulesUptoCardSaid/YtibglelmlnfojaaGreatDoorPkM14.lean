/- PROVED: a part of the proof. Conditions: none. -/
import Derived.Test.YtibglelmlnfojaaGreatDoorPkM13
set_option linter.unusedSimpArgs false set_option linter.defProp false
set_option linter.unusedVariables false
noncomputable section
namespace Go.Proofs.YtibglelmlnfojaaGreatDoor
open Go Go.Proofs.Tryz
open Option renaming some→O,none→N
open Go renaming TypeId→G,Value→D,Program→I,Oper→M,World→J,Code→W
open Bool renaming true→T,false→Z
open Decidable renaming decide→Y
open Go.Proofs.YtibglelmlnfojaaGreatDoor renaming PVal→U
set_option linter.unusedVariables false
set_option linter.defProp false
set_option maxRecDepth 100000
noncomputable def qtd:W:=f157.body.getD .skip
def qsO:ZF Pg [] 157 f157 qtd:=zf call157 func157 rfl mixed
section
variable(e:aj)(s:aD)
def zS:Q K:=if Y ((e.Kids.length:Int)<s.least)then O T else if Y ((e.Kids.length:Int)>s.most)then O T else if Y ((e.Types.length:Int)<s.typesLeast)then O T else O (Y ((e.Types.length:Int)>s.typesMost))
def Sd:OU 0 (cA qtd 12) (zS e s) .normal (λo=>[(34,.bool o)]) (aM 69 [(2,.eptr (ak e)),(3,.eptr (aU s))] [.dead,.dead] []):=qsO.j<|
 have a:=λ{X m n} (r:PV _ X m n)=>tw (au e)<|bz (dO.ln e.Kids)<|tw (GK s)<|r;tf (λd=>a<|tg 7 d<|tE) λd=>have b:=λ{X m n} (r:PV _ X m n)=>a<|tg 7 d<|tw (au e)<|bz (dO.ln e.Kids)<|tw (GL s)<|r;tf (λh=>b<|tg 15 h<|tE) λh=>have c:=λ{X m n} (r:PV _ X m n)=>b<|tg 15 h<|tw (aw e)<|bz (cQ.ln e.Types)<|tw (GN s)<|r;tf (λi=>c<|tg 23 i<|tE) λi=>c<|tg 23 i<|tw (aw e)<|bz (cQ.ln e.Types)<|tw (GO s)<|tE
end
section
variable(e:aj)(s:aD)
def zT:Q K:=if s.params then if Y ((e.Params.length:Int)<1)then O T else if Y ((e.Params.length:Int)>6)then O T else if s.alts then if Y ((e.Alts.length:Int)<1)then O T else O (Y ((e.Alts.length:Int)>8)) else O Z else if s.alts then if Y ((e.Alts.length:Int)<1)then O T else O (Y ((e.Alts.length:Int)>8)) else O Z
def Se:OU 0 (cA qtd 28) (zT e s) .normal (λo=>[(3,.undef),(64,.bool o)]) (aM 69 [(2,.eptr (ak e)),(3,.eptr (aU s))] [.dead,.dead] []):=qsO.j<|
 have a:=λ{X z A} (r:PV _ X z A)=>tw (GM s)<|r;tf (λy=>have b:=λ{X z A} (r:PV _ X z A)=>a<|tg 3 y<|tw (aO e)<|bz (kl.ln e.Params)<|r;tf (λn=>b<|tg 8 n<|tE) λn=>have c:=λ{X z A} (r:PV _ X z A)=>b<|tg 8 n<|tw (aO e)<|bz (kl.ln e.Params)<|r;tf (λp=>c<|tg 15 p<|tE) λp=>have d:=λ{X z A} (r:PV _ X z A)=>c<|tg 15 p<|tw (sk s)<|r;tf (λq=>have h:=λ{X z A} (r:PV _ X z A)=>d<|tg 18 q<|tw (ay e)<|bz (fT.ln e.Alts)<|r;tf (λt=>h<|tg 23 t<|tE) λt=>h<|tg 23 t<|tw (ay e)<|bz (fT.ln e.Alts)<|tE) λq=>d<|tg 18 q<|tE) λy=>have i:=λ{X z A} (r:PV _ X z A)=>a<|tg 3 y<|tw (sk s)<|r;tf (λw=>have m:=λ{X z A} (r:PV _ X z A)=>i<|tg 18 w<|tw (ay e)<|bz (fT.ln e.Alts)<|r;tf (λx=>m<|tg 23 x<|tE) λx=>m<|tg 23 x<|tw (ay e)<|bz (fT.ln e.Alts)<|tE) λw=>i<|tg 18 w<|tE
end
def AH(e:aj)(s:aD):Q K:=(zS e s).bind λc=>if c then O Z else (zT e s).bind λa=>if a then O Z else (fL e.Alts).bind λb=>O (!b)
def XP{e:aj}{s:aD}:OV 157 [.agg (ak e),.agg (aU s)] (AH e s) (λr=>.bool r) []:=qsO.v<|tb λi c=>te (cd e)<|te (Nu s)<|ey 1<|bJ (Sd e s _ c)<|tF tE<|tb λd a=>ey 1<|bJ (Se e s _ a)<|tF tE<|tb λh b=>tw (ay e)<|bQ (yG _ b)<|tE
noncomputable def qvJ:W:=f209.body.getD .skip
def qve:ZF Pg [12,18] 209 f209 qvJ:=zf call209 func209 rfl mixed
section
variable(c:waF)(d:Int)(a:waA)(b:Int)
def yd:aF:=aM 19 [(3,sl cS a),(6,sl bk c),(7,.i6 d),(8,.i6 b)] [] [((3,0),9)]
def Ij(o:waA):aF:=aM 19 [(3,sl cS o)] [] [((3,0),9)]
instance qEU:KS 0 (yd c d a b):=ks 0 rfl
instance qEK{o:waA}:KS 0 (Ij o):=ks 0 rfl
def gI:Q ((waA×Int)⊕(waA)):=if Y (b<d)then (bY c b).bind λh=>(app a ([h.Name]:V ae)).bind λe=>O (.inl (e,cz (b+1))) else O (.inr a)
def CF:Q waA:=loop (λ(e:waA×Int)=>gI c d e.1 e.2) (a,b)
def Sc:OL 0 (cA qvJ 119) (gI c d a b) (λ(m:waA×Int)=>yd c d m.1 m.2) (λ_=>.exit 0) Ij (yd c d a b):=qve.lx<|tF (tb λi h=>tb λn e=>tv (kl.ia h)<|tv (ED i)<|tx qeN<|tx (zI i)<|ts<|tv (aP [i.Name] 1 rfl)<|tv (dX.ap e)<|tE)<|tE
def TV:=nu (s:=(a,b)) λe=>Sc c d e.1 e.2
end
def yc(a:waF):Q waA:=(CF a (a.length:Int) ([]:V ae) 0).bind λb=>O b
def NF{a:waF}:OV 209 [sl bk a] (yc a) (λr=>sl cS r) [(0,9)]:=qve.v<|tb λc b=>bz (kl.ln a)<|bJ (TV a (a.length:Int) ([]:V ae) 0 _ b)<|tE
noncomputable def qtq:W:=f237.body.getD .skip
def qvl:ZF Pg [] 237 f237 qtq:=zf call237 func237 rfl mixed
section
variable(c:waA)(d b:Int)(a:V (ae×K))
def td:aF:=aM 19 [(3,.mapr 0),(7,sl cS c),(8,.i6 d),(9,.i6 b)] [.map (U1 PVal.bool a)] []
def Do(o:((List (ae×K)))⊕((List (ae×K)))):Exit:=match o with|(.inl _)=>.ret|(.inr _)=>.exit 0
def Dp(o:((List (ae×K)))⊕((List (ae×K)))):aF:=match o with|(.inl o)=>aM 19 [(2,.bool Z)] [.map (U1 PVal.bool o)] []|(.inr o)=>aM 19 [] [.map (U1 PVal.bool o)] []
def cT:Q ((Int×(V (ae×K)))⊕(((V (ae×K)))⊕((V (ae×K))))):=if Y (b<d)then (bY c b).bind λe=>if((Qg a e).getD Z)then O (.inr (.inl a)) else O (.inl (cz (b+1),Zl a e T)) else O (.inr (.inr a))
def xo:Q (((V (ae×K)))⊕((V (ae×K)))):=loop (λ(e:Int×(V (ae×K)))=>cT c d e.1 e.2) (b,a)
def Oa:OL 0 (cA qtq 119) (cT c d b a) (λ(i:Int×(V (ae×K)))=>td c d i.1 i.2) Do Dp (td c d b a):=qvl.l<|tF (tb λh e=>tv (dX.ia e)<|tv (dz ZC (.str h) [])<|tv (qtK (f:=PVal.bool) underlying237 underlying9 qC7 a h)<|tF tE<|qCU (qtL (f:=PVal.bool) underlying237 underlying9 a h T)<|tE)<|tE
def By:OK 0 (.loop (cA qtq 119)) (xo c d b a) Do Dp (td c d b a):=Bz λ_=>Oa _ _ _ _
end
def xn(a:waA):Q K:=(xo a (a.length:Int) 0 ([]:List (ae×K))).bind λb=>match b with|(.inl b)=>O Z|(.inr b)=>O T
def Vg{a:waA}:OV 237 [sl cS a] (xn a) (λr=>.bool r) []:=qvl.v<|bz (dX.ln a)<|t2 (λc b=>bJ (By a (a.length:Int) 0 ([]:V (ae×K)) _ b)<|tE) λc b=>bJ (By a (a.length:Int) 0 ([]:V (ae×K)) _ b)<|tE
noncomputable def qzh:W:=f210.body.getD .skip
def qx7:ZF Pg [] 210 f210 qzh:=zf call210 func210 rfl mixed
def sb(a:waA):Q K:=(xn a).bind λb=>O (!b)
def CK{a:waA}:OV 210 [sl cS a] (sb a) (λr=>.bool r) []:=qx7.v<|tb λc b=>bQ (Vg _ b)<|tE
noncomputable def qvK:W:=f211.body.getD .skip
def qvf:ZF Pg [12,18] 211 f211 qvK:=zf call211 func211 rfl mixed
section
variable(c:IO)(d:Int)(a:waA)(b:Int)
def lY:aF:=aM 19 [(3,sl cS a),(6,sl bL c),(7,.i6 d),(8,.i6 b)] [] [((3,0),9)]
def uL(o:waA):aF:=aM 19 [(3,sl cS o)] [] [((3,0),9)]
instance qDo:KS 0 (lY c d a b):=ks 0 rfl
instance qDg{o:waA}:KS 0 (uL o):=ks 0 rfl
def eg:Q ((waA×Int)⊕(waA)):=if Y (b<d)then (bY c b).bind λh=>(app a ([h.Con]:V ae)).bind λe=>O (.inl (e,cz (b+1))) else O (.inr a)
def ol:Q waA:=loop (λ(e:waA×Int)=>eg c d e.1 e.2) (a,b)
def Gj:OL 0 (cA qvK 119) (eg c d a b) (λ(m:waA×Int)=>lY c d m.1 m.2) (λ_=>.exit 0) uL (lY c d a b):=qvf.lx<|tF (tb λi h=>tb λn e=>tv (fT.ia h)<|tv (rV i)<|tx SV<|tx (oH i)<|ts<|tv (aP [i.Con] 1 rfl)<|tv (dX.ap e)<|tE)<|tE
def G0:=nu (s:=(a,b)) λe=>Gj c d e.1 e.2
end
def mE(a:IO):Q waA:=(ol a (a.length:Int) ([]:V ae) 0).bind λb=>O b
def ML{a:IO}:OV 211 [sl bL a] (mE a) (λr=>sl cS r) [(0,9)]:=qvf.v<|tb λc b=>bz (fT.ln a)<|bJ (G0 a (a.length:Int) ([]:V ae) 0 _ b)<|tE
noncomputable def qzj:W:=f213.body.getD .skip
def qx9:ZF Pg [] 213 f213 qzj:=zf call213 func213 rfl mixed
def Gk(a:ae):Q K:=(n7 a).bind λb=>O (b !=0)
def V6{a:ae}:OV 213 [.str a] (Gk a) (λr=>.bool r) []:=qx9.v<|tb λc b=>bQ (jU _ b)<|tE
noncomputable def qtr:W:=f238.body.getD .skip
def qvm:ZF Pg [10,17] 238 f238 qtr:=zf call238 func238 rfl mixed
section
variable(s:waA)(b a:Int)
def iN:aF:=aM 19 [(0,sl cS s),(1,.func (.func 213) [] []),(7,.i6 b),(8,.i6 a)] [] []
def nz(o:Int⊕(Unit)):Exit:=match o with|(.inl _)=>.ret|(.inr _)=>.exit 0
def nB(o:Int⊕(Unit)):aF:=match o with|(.inl o)=>aM 19 [(4,.i6 o)] [] []|(.inr o)=>aM 19 [] [] []
def eH:Q (Int⊕(Int⊕(Unit))):=if Y (a<b)then (bY s a).bind λd=>(Gk d).bind λc=>if c then O (.inr (.inl a)) else O (.inl (cz (a+1))) else O (.inr (.inr ()))
def jN:Q (Int⊕(Unit)):=loop (λ(c:Int)=>eH s b c) a
def yH:OL 0 (cA qtr 55) (eH s b a) (λ(h:Int)=>iN s b h) nz nB (iN s b a):=qvm.l<|tF (tb λe d=>tb λi c=>tv (dX.ia d)<|tv (dz ZC (.str e) [])<|bQ (V6 _ c)<|tF tE<|tE)<|tE
def nh:OK 0 (.loop (cA qtr 55)) (jN s b a) nz nB (iN s b a):=Bz λ_=>yH _ _ _
end
def lV(s:waA):Q Int:=(jN s (s.length:Int) 0).bind λa=>match a with|(.inl a)=>O a|(.inr a)=>O (-1)
def Ek{s:waA}:OV 238 [sl cS s,.func (.func 213) [] []] (lV s) (λr=>.i6 r) []:=qvm.v<|bz (dX.ln s)<|t2 (λb a=>bJ (nh s (s.length:Int) 0 _ a)<|tE) λb a=>bJ (nh s (s.length:Int) 0 _ a)<|tE
noncomputable def qzi:W:=f212.body.getD .skip
def qx8:ZF Pg [] 212 f212 qzi:=zf call212 func212 rfl mixed
def gi(s:waA):Q K:=(lV s).bind λa=>O (Y (a>=0))
def zO{s:waA}:OV 212 [sl cS s,.func (.func 213) [] []] (gi s) (λr=>.bool r) []:=qx8.v<|tb λb a=>bQ (Ek _ a)<|tE
noncomputable def qqJ:W:=f159.body.getD .skip
def qqp:ZF Pg [14,36] 159 f159 qqJ:=zf call159 func159 rfl mixed
section
variable(e:aj)(s:aD)(v:waA)
def CH:Q waA:=if s.name then (app v ([e.Name]:V ae)).bind λa=>O a else O v
def TX:OU 0 (cA qqJ 14) (CH e s v) .normal (λo=>[(3,.undef),(5,sl cS o)]) (aM 54 [(2,.eptr (ak e)),(3,.eptr (aU s)),(5,sl cS v)] [.dead,.dead] [((5,0),9)]):=qqp.j<|tw (GJ s)<|tF (tb λb a=>tw (bX e)<|tv (aP [e.Name] 1 rfl)<|tv (dX.ap a)<|tE)<|tE
end
section
variable(e:aj)(v:waA)
def CI:Q K:=(yc e.Params).bind λb=>(sb b).bind λc=>if c then O T else (mE e.Alts).bind λd=>(sb d).bind λa=>O a
def TY:OU 0 (cA qqJ 30) (CI e) .normal (λo=>[(6,.bool o)]) (aM 54 [(2,.eptr (ak e)),(5,sl cS v)] [.dead,.dead] [((5,0),9)]):=qqp.j<|
 tb λn c=>tb λp d=>have b:=λ{X s t} (r:PV _ X s t)=>tw (aO e)<|bQ (NF _ c)<|bQ (CK _ d)<|r;tf (λi=>b<|tg 5 i<|tE) λi=>tb λq h=>tb λm a=>b<|tg 5 i<|tw (ay e)<|bQ (ML _ h)<|bQ (CK _ a)<|tE
end
section
variable(c:IO)(d:Int)(v:waA)(a:K)(b:Int)
def ye:aF:=aM 54 [(5,sl cS v),(6,.bool a),(30,sl bL c),(31,.i6 d),(32,.i6 b)] [.dead,.dead] [((5,0),9)]
def Ik(o:waA×K):aF:=aM 54 [(5,sl cS o.1),(6,.bool o.2)] [.dead,.dead] [((5,0),9)]
instance qEV:KS 0 (ye c d v a b):=ks 2 rfl
instance qEL{o:waA×Bool}:KS 0 (Ik o):=ks 2 rfl
def gJ:Q ((waA×K×Int)⊕(waA×K)):=if Y (b<d)then (bY c b).bind λe=>(app v ([e.Con]:V ae)).bind λi=>(app i e.Names).bind λh=>if a then O (.inl (h,T,cz (b+1))) else (sb e.Names).bind λm=>O (.inl (h,m,cz (b+1))) else O (.inr (v,a))
def CJ:Q (waA×K):=loop (λ(e:waA×K×Int)=>gJ c d e.1 e.2.1 e.2.2) (v,a,b)
def Sf:OL 0 (cA qqJ 503) (gJ c d v a b) (λ(p:waA×K×Int)=>ye c d p.1 p.2.1 p.2.2) (λ_=>.exit 0) Ik (ye c d v a b):=qqp.lx<|tF (tb λh o=>tb λq i=>tb λr m=>tv (fT.ia o)<|tv (rV h)<|tx SV<|tx (oH h)<|qc1 [0,0,2,6,15,0,32,127,255]<|ts<|tv (aP [h.Con] 1 rfl)<|tv (dX.ap i)<|ts<|tv (dX.ap m)<|tf (λe=>tg 2 e<|tE) λe=>tb λs n=>tg 2 e<|ts<|bQ (CK _ n)<|tE)<|tE
def TZ:=nu (s:=(v,a,b)) λe=>Sf c d e.1 e.2.1 e.2.2
end
def Eo(e:aj)(s:aD):Q Int:=(yc e.Params).bind λh=>(CH e s h).bind λd=>(CI e).bind λb=>(CJ e.Alts (e.Alts.length:Int) d b 0).bind λa=>(gi a.1).bind λc=>if c then O 3 else if a.2 then O 4 else O 0
def ZK{e:aj}{s:aD}:OV 159 [.agg (ak e),.agg (aU s)] (Eo e s) (λr=>.i6 r) []:=qqp.v<|tb λo h=>tb λm d=>tb λi a=>tb λn b=>tb λp c=>te (cd e)<|te (Nu s)<|tw (aO e)<|bQ (NF _ h)<|ey 0<|bJ (TX e s o _ d)<|ey 0<|bJ (TY e m _ a)<|tw (ay e)<|bz (fT.ln e.Alts)<|bJ (TZ e.Alts (e.Alts.length:Int) m i 0 _ b)<|bQ (zO _ c)<|tF tE<|tF tE<|tE
noncomputable def qyS:W:=f160.body.getD .skip
def qxI:ZF Pg [] 160 f160 qyS:=zf call160 func160 rfl mixed
def Io(t:am):Q K:=(jv t (⟨0,[],[],[],⟨0,[],0,[]⟩,[]⟩:am)).bind λa=>O a
def qcN{t:am}:OV 160 [.agg (al t)] (Io t) (λr=>.bool r) []:=qxI.v<|tb λb a=>te (eM t)<|tv (cc t)<|Yv (qbg) (qbd)<|bQ (vJ _ a)<|tE
noncomputable def qfD:W:=f106.body.getD .skip
def qjd:ZF Pg [122,134,154] 106 f106 qfD:=zf call106 func106 rfl mixed
section
variable(e:aj)(ok m m2:K)(h d:Int)(c b:K)(i n:Int)(a:K)
def yf:Q K:=if (!m) = T then if(e.N !=0)then O T else if(!m2)then if(!(e.Name==([]:ae)))then O T else if(d==0)then if Y ((e.Kids.length:Int)>0)then O T else if(!c)then if Y ((e.Params.length:Int)>0)then O T else if(!b)then if Y ((e.Alts.length:Int)>0)then O T else if(!a)then O (Y ((e.Types.length:Int)>0)) else O Z else if(!a)then O (Y ((e.Types.length:Int)>0)) else O Z else if(!b)then if Y ((e.Alts.length:Int)>0)then O T else if(!a)then O (Y ((e.Types.length:Int)>0)) else O Z else if(!a)then O (Y ((e.Types.length:Int)>0)) else O Z else if(!c)then if Y ((e.Params.length:Int)>0)then O T else if(!b)then if Y ((e.Alts.length:Int)>0)then O T else if(!a)then O (Y ((e.Types.length:Int)>0)) else O Z else if(!a)then O (Y ((e.Types.length:Int)>0)) else O Z else if(!b)then if Y ((e.Alts.length:Int)>0)then O T else if(!a)then O (Y ((e.Types.length:Int)>0)) else O Z else if(!a)then O (Y ((e.Types.length:Int)>0)) else O Z else if(d==0)then if Y ((e.Kids.length:Int)>0)then O T else if(!c)then if Y ((e.Params.length:Int)>0)then O T else if(!b)then if Y ((e.Alts.length:Int)>0)then O T else if(!a)then O (Y ((e.Types.length:Int)>0)) else O Z else if(!a)then O (Y ((e.Types.length:Int)>0)) else O Z else if(!b)then if Y ((e.Alts.length:Int)>0)then O T else if(!a)then O (Y ((e.Types.length:Int)>0)) else O Z else if(!a)then O (Y ((e.Types.length:Int)>0)) else O Z else if(!c)then if Y ((e.Params.length:Int)>0)then O T else if(!b)then if Y ((e.Alts.length:Int)>0)then O T else if(!a)then O (Y ((e.Types.length:Int)>0)) else O Z else if(!a)then O (Y ((e.Types.length:Int)>0)) else O Z else if(!b)then if Y ((e.Alts.length:Int)>0)then O T else if(!a)then O (Y ((e.Types.length:Int)>0)) else O Z else if(!a)then O (Y ((e.Types.length:Int)>0)) else O Z else if(!m2)then if(!(e.Name==([]:ae)))then O T else if(d==0)then if Y ((e.Kids.length:Int)>0)then O T else if(!c)then if Y ((e.Params.length:Int)>0)then O T else if(!b)then if Y ((e.Alts.length:Int)>0)then O T else if(!a)then O (Y ((e.Types.length:Int)>0)) else O Z else if(!a)then O (Y ((e.Types.length:Int)>0)) else O Z else if(!b)then if Y ((e.Alts.length:Int)>0)then O T else if(!a)then O (Y ((e.Types.length:Int)>0)) else O Z else if(!a)then O (Y ((e.Types.length:Int)>0)) else O Z else if(!c)then if Y ((e.Params.length:Int)>0)then O T else if(!b)then if Y ((e.Alts.length:Int)>0)then O T else if(!a)then O (Y ((e.Types.length:Int)>0)) else O Z else if(!a)then O (Y ((e.Types.length:Int)>0)) else O Z else if(!b)then if Y ((e.Alts.length:Int)>0)then O T else if(!a)then O (Y ((e.Types.length:Int)>0)) else O Z else if(!a)then O (Y ((e.Types.length:Int)>0)) else O Z else if(d==0)then if Y ((e.Kids.length:Int)>0)then O T else if(!c)then if Y ((e.Params.length:Int)>0)then O T else if(!b)then if Y ((e.Alts.length:Int)>0)then O T else if(!a)then O (Y ((e.Types.length:Int)>0)) else O Z else if(!a)then O (Y ((e.Types.length:Int)>0)) else O Z else if(!b)then if Y ((e.Alts.length:Int)>0)then O T else if(!a)then O (Y ((e.Types.length:Int)>0)) else O Z else if(!a)then O (Y ((e.Types.length:Int)>0)) else O Z else if(!c)then if Y ((e.Params.length:Int)>0)then O T else if(!b)then if Y ((e.Alts.length:Int)>0)then O T else if(!a)then O (Y ((e.Types.length:Int)>0)) else O Z else if(!a)then O (Y ((e.Types.length:Int)>0)) else O Z else if(!b)then if Y ((e.Alts.length:Int)>0)then O T else if(!a)then O (Y ((e.Types.length:Int)>0)) else O Z else if(!a)then O (Y ((e.Types.length:Int)>0)) else O Z
theorem V7:OU 0 (cA qfD 14) (yf e m m2 d c b a) .normal (λo=>[(5,.bool o)]) (aM 156 [(1,.eptr (ak e)),(3,.bptr 1 0),(4,.bool ok)] [.dead,.cells [.bool m,.bool m2,.i6 h,.i6 d,.bool c,.bool b,.i6 i,.i6 n,.bool a] []] []):=qjd.j<|
 tf (λc2=>have l8:=λ{X lg lv} (r:PV _ X lg lv)=>ts<|tg 4 c2<|tw (bE e)<|r;tf (λc3=>l8<|tg 9 c3<|tE) λc3=>have ld:=λ{X lg lv} (r:PV _ X lg lv)=>l8<|tg 9 c3<|ts<|r;tf (λc5=>have le:=λ{X lg lv} (r:PV _ X lg lv)=>ld<|tg 13 c5<|tw (bX e)<|r;tf (λc7=>le<|tg 19 c7<|tE) λc7=>have f4:=λ{X lg lv} (r:PV _ X lg lv)=>le<|tg 19 c7<|ts<|r;tf (λc9=>have f5:=λ{X lg lv} (r:PV _ X lg lv)=>f4<|tg 23 c9<|tw (au e)<|bz (dO.ln e.Kids)<|r;tf (λhq=>f5<|tg 30 hq<|tE) λhq=>have f6:=λ{X lg lv} (r:PV _ X lg lv)=>f5<|tg 30 hq<|ts<|r;tf (λhr=>have f7:=λ{X lg lv} (r:PV _ X lg lv)=>f6<|tg 34 hr<|tw (aO e)<|bz (kl.ln e.Params)<|r;tf (λhs=>f7<|tg 41 hs<|tE) λhs=>have f9:=λ{X lg lv} (r:PV _ X lg lv)=>f7<|tg 41 hs<|ts<|r;tf (λht=>have fd:=λ{X lg lv} (r:PV _ X lg lv)=>f9<|tg 45 ht<|tw (ay e)<|bz (fT.ln e.Alts)<|r;tf (λhu=>fd<|tg 52 hu<|tE) λhu=>have fs:=λ{X lg lv} (r:PV _ X lg lv)=>fd<|tg 52 hu<|ts<|r;tf (λhv=>fs<|tg 56 hv<|tw (aw e)<|bz (cQ.ln e.Types)<|tE) λhv=>fs<|tg 56 hv<|tE) λht=>have fv:=λ{X lg lv} (r:PV _ X lg lv)=>f9<|tg 45 ht<|ts<|r;tf (λhw=>fv<|tg 56 hw<|tw (aw e)<|bz (cQ.ln e.Types)<|tE) λhw=>fv<|tg 56 hw<|tE) λhr=>have fz:=λ{X lg lv} (r:PV _ X lg lv)=>f6<|tg 34 hr<|ts<|r;tf (λhx=>have g1:=λ{X lg lv} (r:PV _ X lg lv)=>fz<|tg 45 hx<|tw (ay e)<|bz (fT.ln e.Alts)<|r;tf (λhy=>g1<|tg 52 hy<|tE) λhy=>have g2:=λ{X lg lv} (r:PV _ X lg lv)=>g1<|tg 52 hy<|ts<|r;tf (λhz=>g2<|tg 56 hz<|tw (aw e)<|bz (cQ.ln e.Types)<|tE) λhz=>g2<|tg 56 hz<|tE) λhx=>have g3:=λ{X lg lv} (r:PV _ X lg lv)=>fz<|tg 45 hx<|ts<|r;tf (λi0=>g3<|tg 56 i0<|tw (aw e)<|bz (cQ.ln e.Types)<|tE) λi0=>g3<|tg 56 i0<|tE) λc9=>have g4:=λ{X lg lv} (r:PV _ X lg lv)=>f4<|tg 23 c9<|ts<|r;tf (λi1=>have gc:=λ{X lg lv} (r:PV _ X lg lv)=>g4<|tg 34 i1<|tw (aO e)<|bz (kl.ln e.Params)<|r;tf (λi2=>gc<|tg 41 i2<|tE) λi2=>have ge:=λ{X lg lv} (r:PV _ X lg lv)=>gc<|tg 41 i2<|ts<|r;tf (λi3=>have gl:=λ{X lg lv} (r:PV _ X lg lv)=>ge<|tg 45 i3<|tw (ay e)<|bz (fT.ln e.Alts)<|r;tf (λi4=>gl<|tg 52 i4<|tE) λi4=>have gs:=λ{X lg lv} (r:PV _ X lg lv)=>gl<|tg 52 i4<|ts<|r;tf (λi5=>gs<|tg 56 i5<|tw (aw e)<|bz (cQ.ln e.Types)<|tE) λi5=>gs<|tg 56 i5<|tE) λi3=>have gt:=λ{X lg lv} (r:PV _ X lg lv)=>ge<|tg 45 i3<|ts<|r;tf (λi9=>gt<|tg 56 i9<|tw (aw e)<|bz (cQ.ln e.Types)<|tE) λi9=>gt<|tg 56 i9<|tE) λi1=>have gx:=λ{X lg lv} (r:PV _ X lg lv)=>g4<|tg 34 i1<|ts<|r;tf (λih=>have h0:=λ{X lg lv} (r:PV _ X lg lv)=>gx<|tg 45 ih<|tw (ay e)<|bz (fT.ln e.Alts)<|r;tf (λit=>h0<|tg 52 it<|tE) λit=>have h1:=λ{X lg lv} (r:PV _ X lg lv)=>h0<|tg 52 it<|ts<|r;tf (λix=>h1<|tg 56 ix<|tw (aw e)<|bz (cQ.ln e.Types)<|tE) λix=>h1<|tg 56 ix<|tE) λih=>have h2:=λ{X lg lv} (r:PV _ X lg lv)=>gx<|tg 45 ih<|ts<|r;tf (λjg=>h2<|tg 56 jg<|tw (aw e)<|bz (cQ.ln e.Types)<|tE) λjg=>h2<|tg 56 jg<|tE) λc5=>have h3:=λ{X lg lv} (r:PV _ X lg lv)=>ld<|tg 13 c5<|ts<|r;tf (λjj=>have h4:=λ{X lg lv} (r:PV _ X lg lv)=>h3<|tg 23 jj<|tw (au e)<|bz (dO.ln e.Kids)<|r;tf (λjs=>h4<|tg 30 js<|tE) λjs=>have h5:=λ{X lg lv} (r:PV _ X lg lv)=>h4<|tg 30 js<|ts<|r;tf (λju=>have h6:=λ{X lg lv} (r:PV _ X lg lv)=>h5<|tg 34 ju<|tw (aO e)<|bz (kl.ln e.Params)<|r;tf (λk0=>h6<|tg 41 k0<|tE) λk0=>have h7:=λ{X lg lv} (r:PV _ X lg lv)=>h6<|tg 41 k0<|ts<|r;tf (λk1=>have h8:=λ{X lg lv} (r:PV _ X lg lv)=>h7<|tg 45 k1<|tw (ay e)<|bz (fT.ln e.Alts)<|r;tf (λk2=>h8<|tg 52 k2<|tE) λk2=>have h9:=λ{X lg lv} (r:PV _ X lg lv)=>h8<|tg 52 k2<|ts<|r;tf (λk3=>h9<|tg 56 k3<|tw (aw e)<|bz (cQ.ln e.Types)<|tE) λk3=>h9<|tg 56 k3<|tE) λk1=>have ha:=λ{X lg lv} (r:PV _ X lg lv)=>h7<|tg 45 k1<|ts<|r;tf (λk4=>ha<|tg 56 k4<|tw (aw e)<|bz (cQ.ln e.Types)<|tE) λk4=>ha<|tg 56 k4<|tE) λju=>have hb:=λ{X lg lv} (r:PV _ X lg lv)=>h5<|tg 34 ju<|ts<|r;tf (λk5=>have hc:=λ{X lg lv} (r:PV _ X lg lv)=>hb<|tg 45 k5<|tw (ay e)<|bz (fT.ln e.Alts)<|r;tf (λk6=>hc<|tg 52 k6<|tE) λk6=>have hd:=λ{X lg lv} (r:PV _ X lg lv)=>hc<|tg 52 k6<|ts<|r;tf (λk7=>hd<|tg 56 k7<|tw (aw e)<|bz (cQ.ln e.Types)<|tE) λk7=>hd<|tg 56 k7<|tE) λk5=>have he:=λ{X lg lv} (r:PV _ X lg lv)=>hb<|tg 45 k5<|ts<|r;tf (λk8=>he<|tg 56 k8<|tw (aw e)<|bz (cQ.ln e.Types)<|tE) λk8=>he<|tg 56 k8<|tE) λjj=>have hf:=λ{X lg lv} (r:PV _ X lg lv)=>h3<|tg 23 jj<|ts<|r;tf (λk9=>have hg:=λ{X lg lv} (r:PV _ X lg lv)=>hf<|tg 34 k9<|tw (aO e)<|bz (kl.ln e.Params)<|r;tf (λkd=>hg<|tg 41 kd<|tE) λkd=>have hh:=λ{X lg lv} (r:PV _ X lg lv)=>hg<|tg 41 kd<|ts<|r;tf (λkt=>have hi:=λ{X lg lv} (r:PV _ X lg lv)=>hh<|tg 45 kt<|tw (ay e)<|bz (fT.ln e.Alts)<|r;tf (λkx=>hi<|tg 52 kx<|tE) λkx=>have hj:=λ{X lg lv} (r:PV _ X lg lv)=>hi<|tg 52 kx<|ts<|r;tf (λl0=>hj<|tg 56 l0<|tw (aw e)<|bz (cQ.ln e.Types)<|tE) λl0=>hj<|tg 56 l0<|tE) λkt=>have hk:=λ{X lg lv} (r:PV _ X lg lv)=>hh<|tg 45 kt<|ts<|r;tf (λl1=>hk<|tg 56 l1<|tw (aw e)<|bz (cQ.ln e.Types)<|tE) λl1=>hk<|tg 56 l1<|tE) λk9=>have hl:=λ{X lg lv} (r:PV _ X lg lv)=>hf<|tg 34 k9<|ts<|r;tf (λl2=>have hm:=λ{X lg lv} (r:PV _ X lg lv)=>hl<|tg 45 l2<|tw (ay e)<|bz (fT.ln e.Alts)<|r;tf (λl3=>hm<|tg 52 l3<|tE) λl3=>have hn:=λ{X lg lv} (r:PV _ X lg lv)=>hm<|tg 52 l3<|ts<|r;tf (λl4=>hn<|tg 56 l4<|tw (aw e)<|bz (cQ.ln e.Types)<|tE) λl4=>hn<|tg 56 l4<|tE) λl2=>have ho:=λ{X lg lv} (r:PV _ X lg lv)=>hl<|tg 45 l2<|ts<|r;tf (λl5=>ho<|tg 56 l5<|tw (aw e)<|bz (cQ.ln e.Types)<|tE) λl5=>ho<|tg 56 l5<|tE) λc2=>have hp:=λ{X lg lv} (r:PV _ X lg lv)=>ts<|tg 4 c2<|ts<|r;tf (λl6=>have bn:=λ{X lg lv} (r:PV _ X lg lv)=>hp<|tg 13 l6<|tw (bX e)<|r;tf (λl7=>bn<|tg 19 l7<|tE) λl7=>have bq:=λ{X lg lv} (r:PV _ X lg lv)=>bn<|tg 19 l7<|ts<|r;tf (λp=>have br:=λ{X lg lv} (r:PV _ X lg lv)=>bq<|tg 23 p<|tw (au e)<|bz (dO.ln e.Kids)<|r;tf (λq=>br<|tg 30 q<|tE) λq=>have bs:=λ{X lg lv} (r:PV _ X lg lv)=>br<|tg 30 q<|ts<|r;tf (λs=>have bt:=λ{X lg lv} (r:PV _ X lg lv)=>bs<|tg 34 s<|tw (aO e)<|bz (kl.ln e.Params)<|r;tf (λt=>bt<|tg 41 t<|tE) λt=>have c0:=λ{X lg lv} (r:PV _ X lg lv)=>bt<|tg 41 t<|ts<|r;tf (λw=>have c1:=λ{X lg lv} (r:PV _ X lg lv)=>c0<|tg 45 w<|tw (ay e)<|bz (fT.ln e.Alts)<|r;tf (λx=>c1<|tg 52 x<|tE) λx=>have c4:=λ{X lg lv} (r:PV _ X lg lv)=>c1<|tg 52 x<|ts<|r;tf (λy=>c4<|tg 56 y<|tw (aw e)<|bz (cQ.ln e.Types)<|tE) λy=>c4<|tg 56 y<|tE) λw=>have c6:=λ{X lg lv} (r:PV _ X lg lv)=>c0<|tg 45 w<|ts<|r;tf (λz=>c6<|tg 56 z<|tw (aw e)<|bz (cQ.ln e.Types)<|tE) λz=>c6<|tg 56 z<|tE) λs=>have c8:=λ{X lg lv} (r:PV _ X lg lv)=>bs<|tg 34 s<|ts<|r;tf (λA=>have cg:=λ{X lg lv} (r:PV _ X lg lv)=>c8<|tg 45 A<|tw (ay e)<|bz (fT.ln e.Alts)<|r;tf (λB=>cg<|tg 52 B<|tE) λB=>have ci:=λ{X lg lv} (r:PV _ X lg lv)=>cg<|tg 52 B<|ts<|r;tf (λE=>ci<|tg 56 E<|tw (aw e)<|bz (cQ.ln e.Types)<|tE) λE=>ci<|tg 56 E<|tE) λA=>have cn:=λ{X lg lv} (r:PV _ X lg lv)=>c8<|tg 45 A<|ts<|r;tf (λF=>cn<|tg 56 F<|tw (aw e)<|bz (cQ.ln e.Types)<|tE) λF=>cn<|tg 56 F<|tE) λp=>have cs:=λ{X lg lv} (r:PV _ X lg lv)=>bq<|tg 23 p<|ts<|r;tf (λH=>have cv:=λ{X lg lv} (r:PV _ X lg lv)=>cs<|tg 34 H<|tw (aO e)<|bz (kl.ln e.Params)<|r;tf (λL=>cv<|tg 41 L<|tE) λL=>have d0:=λ{X lg lv} (r:PV _ X lg lv)=>cv<|tg 41 L<|ts<|r;tf (λP=>have d1:=λ{X lg lv} (r:PV _ X lg lv)=>d0<|tg 45 P<|tw (ay e)<|bz (fT.ln e.Alts)<|r;tf (λR=>d1<|tg 52 R<|tE) λR=>have d2:=λ{X lg lv} (r:PV _ X lg lv)=>d1<|tg 52 R<|ts<|r;tf (λS=>d2<|tg 56 S<|tw (aw e)<|bz (cQ.ln e.Types)<|tE) λS=>d2<|tg 56 S<|tE) λP=>have d3:=λ{X lg lv} (r:PV _ X lg lv)=>d0<|tg 45 P<|ts<|r;tf (λa0=>d3<|tg 56 a0<|tw (aw e)<|bz (cQ.ln e.Types)<|tE) λa0=>d3<|tg 56 a0<|tE) λH=>have dd:=λ{X lg lv} (r:PV _ X lg lv)=>cs<|tg 34 H<|ts<|r;tf (λa1=>have dk:=λ{X lg lv} (r:PV _ X lg lv)=>dd<|tg 45 a1<|tw (ay e)<|bz (fT.ln e.Alts)<|r;tf (λa2=>dk<|tg 52 a2<|tE) λa2=>have ds:=λ{X lg lv} (r:PV _ X lg lv)=>dk<|tg 52 a2<|ts<|r;tf (λa3=>ds<|tg 56 a3<|tw (aw e)<|bz (cQ.ln e.Types)<|tE) λa3=>ds<|tg 56 a3<|tE) λa1=>have dx:=λ{X lg lv} (r:PV _ X lg lv)=>dd<|tg 45 a1<|ts<|r;tf (λa4=>dx<|tg 56 a4<|tw (aw e)<|bz (cQ.ln e.Types)<|tE) λa4=>dx<|tg 56 a4<|tE) λl6=>have e0:=λ{X lg lv} (r:PV _ X lg lv)=>hp<|tg 13 l6<|ts<|r;tf (λa5=>have e1:=λ{X lg lv} (r:PV _ X lg lv)=>e0<|tg 23 a5<|tw (au e)<|bz (dO.ln e.Kids)<|r;tf (λa6=>e1<|tg 30 a6<|tE) λa6=>have e2:=λ{X lg lv} (r:PV _ X lg lv)=>e1<|tg 30 a6<|ts<|r;tf (λa7=>have e3:=λ{X lg lv} (r:PV _ X lg lv)=>e2<|tg 34 a7<|tw (aO e)<|bz (kl.ln e.Params)<|r;tf (λa8=>e3<|tg 41 a8<|tE) λa8=>have e4:=λ{X lg lv} (r:PV _ X lg lv)=>e3<|tg 41 a8<|ts<|r;tf (λa9=>have e5:=λ{X lg lv} (r:PV _ X lg lv)=>e4<|tg 45 a9<|tw (ay e)<|bz (fT.ln e.Alts)<|r;tf (λab=>e5<|tg 52 ab<|tE) λab=>have e6:=λ{X lg lv} (r:PV _ X lg lv)=>e5<|tg 52 ab<|ts<|r;tf (λad=>e6<|tg 56 ad<|tw (aw e)<|bz (cQ.ln e.Types)<|tE) λad=>e6<|tg 56 ad<|tE) λa9=>have e7:=λ{X lg lv} (r:PV _ X lg lv)=>e4<|tg 45 a9<|ts<|r;tf (λan=>e7<|tg 56 an<|tw (aw e)<|bz (cQ.ln e.Types)<|tE) λan=>e7<|tg 56 an<|tE) λa7=>have ea:=λ{X lg lv} (r:PV _ X lg lv)=>e2<|tg 34 a7<|ts<|r;tf (λao=>have eb:=λ{X lg lv} (r:PV _ X lg lv)=>ea<|tg 45 ao<|tw (ay e)<|bz (fT.ln e.Alts)<|r;tf (λar=>eb<|tg 52 ar<|tE) λar=>have ec:=λ{X lg lv} (r:PV _ X lg lv)=>eb<|tg 52 ar<|ts<|r;tf (λb0=>ec<|tg 56 b0<|tw (aw e)<|bz (cQ.ln e.Types)<|tE) λb0=>ec<|tg 56 b0<|tE) λao=>have ek:=λ{X lg lv} (r:PV _ X lg lv)=>ea<|tg 45 ao<|ts<|r;tf (λb1=>ek<|tg 56 b1<|tw (aw e)<|bz (cQ.ln e.Types)<|tE) λb1=>ek<|tg 56 b1<|tE) λa5=>have el:=λ{X lg lv} (r:PV _ X lg lv)=>e0<|tg 23 a5<|ts<|r;tf (λb2=>have em:=λ{X lg lv} (r:PV _ X lg lv)=>el<|tg 34 b2<|tw (aO e)<|bz (kl.ln e.Params)<|r;tf (λb3=>em<|tg 41 b3<|tE) λb3=>have ep:=λ{X lg lv} (r:PV _ X lg lv)=>em<|tg 41 b3<|ts<|r;tf (λb5=>have es:=λ{X lg lv} (r:PV _ X lg lv)=>ep<|tg 45 b5<|tw (ay e)<|bz (fT.ln e.Alts)<|r;tf (λb8=>es<|tg 52 b8<|tE) λb8=>have et:=λ{X lg lv} (r:PV _ X lg lv)=>es<|tg 52 b8<|ts<|r;tf (λbb=>et<|tg 56 bb<|tw (aw e)<|bz (cQ.ln e.Types)<|tE) λbb=>et<|tg 56 bb<|tE) λb5=>have ex:=λ{X lg lv} (r:PV _ X lg lv)=>ep<|tg 45 b5<|ts<|r;tf (λbc=>ex<|tg 56 bc<|tw (aw e)<|bz (cQ.ln e.Types)<|tE) λbc=>ex<|tg 56 bc<|tE) λb2=>have f0:=λ{X lg lv} (r:PV _ X lg lv)=>el<|tg 34 b2<|ts<|r;tf (λbe=>have f1:=λ{X lg lv} (r:PV _ X lg lv)=>f0<|tg 45 be<|tw (ay e)<|bz (fT.ln e.Alts)<|r;tf (λbg=>f1<|tg 52 bg<|tE) λbg=>have f2:=λ{X lg lv} (r:PV _ X lg lv)=>f1<|tg 52 bg<|ts<|r;tf (λbi=>f2<|tg 56 bi<|tw (aw e)<|bz (cQ.ln e.Types)<|tE) λbi=>f2<|tg 56 bi<|tE) λbe=>have f3:=λ{X lg lv} (r:PV _ X lg lv)=>f0<|tg 45 be<|ts<|r;tf (λbl=>f3<|tg 56 bl<|tw (aw e)<|bz (cQ.ln e.Types)<|tE) λbl=>f3<|tg 56 bl<|tE
end
section
variable(e:aj)(ok unused m m2:K)(a b:Int)(c d:K)(h i:Int)(n:K)
def yg:Q K:=if(!ok)then O T else O unused
def V8:OU 0 (cA qfD 122) (yg ok unused) .normal (λo=>[(4,.undef),(5,.undef),(81,.bool o)]) (aM 156 [(1,.eptr (ak e)),(3,.bptr 1 0),(4,.bool ok),(5,.bool unused)] [.dead,.cells [.bool m,.bool m2,.i6 a,.i6 b,.bool c,.bool d,.i6 h,.i6 i,.bool n] []] []):=qjd.j<|tf (λp=>tg 3 p<|tE) λp=>tg 3 p<|tE
end
section
variable(e:aj)(m m2:K)(a b:Int)(c d:K)(h i:Int)(n:K)
def yh:Q K:=if (e.Op == 1) = T then (qb5 e.N).bind λo=>if(!o)then O T else if(e.Op==2)then if(e.N !=0)then O (e.N !=1) else O Z else O Z else if(e.Op==2)then if(e.N !=0)then O (e.N !=1) else O Z else O Z
def V9:OU 0 (cA qfD 1982) (yh e) .normal (λo=>[(92,.bool o)]) (aM 156 [(1,.eptr (ak e)),(3,.bptr 1 0)] [.dead,.cells [.bool m,.bool m2,.i6 a,.i6 b,.bool c,.bool d,.i6 h,.i6 i,.bool n] []] []):=qjd.j<|
 have y:=λ{X P R} (r:PV _ X P R)=>tw (ba e)<|r;tf (λp=>tb λL H=>have z:=λ{X P R} (r:PV _ X P R)=>y<|tg 4 p<|tw (bE e)<|bQ (qeB _ H)<|r;tf (λq=>z<|tg 10 q<|tE) λq=>have A:=λ{X P R} (r:PV _ X P R)=>z<|tg 10 q<|tw (ba e)<|r;tf (λs=>have B:=λ{X P R} (r:PV _ X P R)=>A<|tg 14 s<|tw (bE e)<|r;tf (λt=>B<|tg 19 t<|tw (bE e)<|tE) λt=>B<|tg 19 t<|tE) λs=>A<|tg 14 s<|tE) λp=>have E:=λ{X P R} (r:PV _ X P R)=>y<|tg 4 p<|tw (ba e)<|r;tf (λw=>have F:=λ{X P R} (r:PV _ X P R)=>E<|tg 14 w<|tw (bE e)<|r;tf (λx=>F<|tg 19 x<|tw (bE e)<|tE) λx=>F<|tg 19 x<|tE) λw=>E<|tg 14 w<|tE
end
section
variable(e:aj)(b:oy)(c a:Int)
def rZ:aF:=aM 156 [(1,.eptr (ak e)),(124,sl al b),(125,.i6 c),(126,.i6 a)] [.dead,.dead] []
def KF(o:Int⊕(Unit)):Exit:=match o with|(.inl _)=>.ret|(.inr _)=>.exit 1
def zV(o:Int⊕(Unit)):aF:=match o with|(.inl o)=>aM 156 [(2,.i6 o)] [.dead,.dead] []|(.inr o)=>aM 156 [(1,.eptr (ak e))] [.dead,.dead] []
instance qEZ:KS 0 (rZ e b c a):=ks 2 rfl
instance qEW{o:Int⊕(Unit)}:KS 0 (zV e o):=match o with|(.inl o)=>ks 2 rfl|(.inr o)=>ks 2 rfl
def zU:Q (Int⊕(Int⊕(Unit))):=if Y (a<c)then (bY b a).bind λh=>(nF h).bind λd=>if(d !=0)then O (.inr (.inl d)) else O (.inl (cz (a+1))) else O (.inr (.inr ()))
def yi:Q (Int⊕(Unit)):=loop (λ(d:Int)=>zU b c d) a
def T0:OL 0 (cA qfD 1015) (zU b c a) (λ(n:Int)=>rZ e b c n) KF (zV e) (rZ e b c a):=qjd.lx<|tF (tb λd i=>tb λm h=>tv (cQ.ia i)<|tv (cc d)<|tx RZ<|tx (ij d)<|tv (eK d [])<|bQ (yp _ h)<|tF tE<|tE)<|tE
def Il:OK 0 (.loop (cA qfD 1015)) (yi b c a) KF (zV e) (rZ e b c a):=Bz λ_=>T0 _ _ _ _
end
section
variable(v:Int)(b:waF)(c d:Int)(m:ae)(m2:Int)(e:ae)(h:oy)(i:waA)(n:Int)(p:ae)(q:Int)(r a:pi)
def Gl:Q K:=if(v !=0)then (Io (⟨m2,e,h,i,⟨n,p,q,r⟩,a⟩:am)).bind λo=>O (!o) else O Z
def Wa:OJ 0 (cA qfD 261102) (Gl v m2 e h i n p q r a) .normal (λo=>aM 156 [(12,.i6 v),(137,sl bk b),(138,.i6 c),(139,.i6 d),(153,.bool o)] [.dead,.dead,.dead] []) (aM 156 [(11,.bptr 2 0),(12,.i6 v),(137,sl bk b),(138,.i6 c),(139,.i6 d)] [.dead,.dead,.cells [.str m,.i6 m2,.str e,sl al h,sl cS i,.i6 n,.str p,.i6 q,sl ag r,sl ag a] []] []):=qjd.j<|tf (λs=>tb λw t=>tg 3 s<|tv (eK (⟨m2,e,h,i,⟨n,p,q,r⟩,a⟩:am) [])<|bQ (qcN _ t)<|tE) λs=>tg 3 s<|tE
end
section
variable(b:waF)(c a:Int)
def sa:aF:=aM 156 [(137,sl bk b),(138,.i6 c),(139,.i6 a)] [.dead,.dead] []
def KH(o:Int⊕(Unit)):Exit:=match o with|(.inl _)=>.ret|(.inr _)=>.exit 3
def zW(o:Int⊕(Unit)):aF:=match o with|(.inl o)=>aM 156 [(2,.i6 o)] [.dead,.dead] []|(.inr o)=>aM 156 [] [.dead,.dead] []
instance qFa:KS 0 (sa b c a):=ks 2 rfl
instance qEX{o:Int⊕(Unit)}:KS 0 (zW o):=match o with|(.inl o)=>ks 2 rfl|(.inr o)=>ks 2 rfl
def ni:Q (Int⊕(Int⊕(Unit))):=if Y (a<c)then (bY b a).bind λd=>(nF d.Type_).bind λe=>(Gl e d.Type_.Op d.Type_.Name d.Type_.Args d.Type_.Names d.Type_.Pred.Op d.Type_.Pred.Name d.Type_.Pred.N d.Type_.Pred.Kids d.Type_.Preds).bind λh=>if h then O (.inr (.inl e)) else O (.inl (cz (a+1))) else O (.inr (.inr ()))
def yj:Q (Int⊕(Unit)):=loop (λ(d:Int)=>ni b c d) a
def T1:OL 0 (cA qfD 2039) (ni b c a) (λ(o:Int)=>sa b c o) KH zW (sa b c a):=qjd.lx<|tF (tb λd i=>tb λm h=>tb λn e=>tv (kl.ia i)<|tv (ED d)<|tx qeN<|tx (zI d)<|tv (eK d.Type_ [])<|bQ (yp _ h)<|ey 0<|bJ (Wa m b c a d.Name d.Type_.Op d.Type_.Name d.Type_.Args d.Type_.Names d.Type_.Pred.Op d.Type_.Pred.Name d.Type_.Pred.N d.Type_.Pred.Kids d.Type_.Preds _ e)<|tF tE<|tE)<|tE
def Im:OK 0 (.loop (cA qfD 2039)) (yj b c a) KH zW (sa b c a):=Bz λ_=>T1 _ _ _
end
def BL (e:aj):Q Int :=(uM e.Op).bind λc=>(yf e c.1.n c.1.name c.1.most c.1.params c.1.alts c.1.types).bind λh=>(yg c.2 h).bind λi=>if i then O 1 else (AH e c.1).bind λn=>if(!n)then O 13 else (yh e).bind λm=>if m then O 2 else (Eo e c.1).bind λd=>if(d !=0)then O d else (yi e.Types (e.Types.length:Int) 0).bind λa=>match a with|(.inl a)=>O a| (.inr a) =>(yj e.Params (e.Params.length:Int) 0).bind λb=>match b with|(.inl b)=>O b|(.inr b)=>O 0
def qcM{e:aj}:OV 106 [.agg (ak e)] (BL e) (λr=>.i6 r) []:=qjd.v<|tb λa s=>tb λo d=>tb λt h=>te (cd e)<|tw (ba e)<|bQ (XQ _ s)<|tx qsv<|tx (dp a.1)<|ey 0<|bJ (V7 e a.2 a.1.n a.1.name a.1.least a.1.most a.1.params a.1.alts a.1.typesLeast a.1.typesMost a.1.types _ d)<|ey 1<|bJ (V8 e a.2 o a.1.n a.1.name a.1.least a.1.most a.1.params a.1.alts a.1.typesLeast a.1.typesMost a.1.types _ h)<|tF tE<|tb λx m=>tv (aK e)<|tv (JX a.1 [])<|bQ (XP _ m)<|tF tE<|tb λw i=>ey 0<|bJ (V9 e a.1.n a.1.name a.1.least a.1.most a.1.params a.1.alts a.1.typesLeast a.1.typesMost a.1.types _ i)<|tF tE<|tb λy n=>tv (aK e)<|tv (JX a.1 [])<|bQ (ZK _ n)<|tF tE<|tw (aw e)<|bz (cQ.ln e.Types)<|t2 (λp b=>bJ (Il e e.Types (e.Types.length:Int) 0 _ b)<|tE) λp b=>bJ (Il e e.Types (e.Types.length:Int) 0 _ b)<|tw (aO e)<|bz (kl.ln e.Params)<|t2 (λq c=>bJ (Im e.Params (e.Params.length:Int) 0 _ c)<|tE) λq c=>bJ (Im e.Params (e.Params.length:Int) 0 _ c)<|tE
noncomputable def qyv:W:=f105.body.getD .skip
def qxk:ZF Pg [] 105 f105 qyv:=zf call105 func105 rfl mixed
def kp(a:aj)(c:Int):Q (K×Int):=(BL a).bind λb=>O (b==0,b)
def V4{a:aj}{c:Int}:OG 105 [.agg (ak a),.bptr 0 0] [] [.cells [.i6 c] []] (kp a c) (λr=>.bool r.1) [] (λr=>[.cells [.i6 r.2] []]):=qxk.g 1<|tb λd b=>te (cd a)<|tv (aK a)<|bQ (qcM _ b)<|ts<|ts<|tE
section
variable(d:g6)(e:aj)(b:waD)(c a m:Int)
def iz:aF:=aM 38 [(1,.func (.func 105) [] [.bptr 0 0]),(2,.eptr (ak e)),(14,sl ak b),(15,.i6 c),(16,.i6 a)] [.cells [.i6 m] [],.dead] []
def uN(o:Int⊕(Int)):Exit:=match o with|(.inl _)=>.ret|(.inr _)=>.exit 0
def lZ(o:Int⊕(Int)):aF:=match o with|(.inl o)=>aM 38 [(4,.bool Z)] [.cells [.i6 o] [],.dead] []|(.inr o)=>aM 38 [(1,.func (.func 105) [] [.bptr 0 0]),(2,.eptr (ak e))] [.cells [.i6 o] [],.dead] []
instance qDp:KS 1 (iz e b c a m):=ks 2 rfl
instance qDh{o:Int⊕(Int)}:KS 1 (lZ e o):=match o with|(.inl o)=>ks 2 rfl|(.inr o)=>ks 2 rfl
def eh:Q ((Int×Int)⊕(Int⊕(Int))):=if Y (a<c)then (bY b a).bind λi=>(d i m).bind λh=>if(!h.1)then O (.inr (.inl h.2)) else O (.inl (cz (a+1),h.2)) else O (.inr (.inr m))
def yl:Q (Int⊕(Int)):=loop (λ(h:Int×Int)=>eh d b c h.1 h.2) (a,m)
def Gm(h:gY d):OL 1 (cA qfC 119) (eh d b c a m) (λ(p:Int×Int)=>iz e b c p.1 p.2) uN (lZ e) (iz e b c a m):=qlH.lx<|tF (tb λo n=>tb λq i=>tv (dO.ia n)<|tv (aK o)<|tx ZB<|tx (wc o)<|tv (ga o [])<|tc [0] (h _ _ _ i)<|tF tE<|tE)<|tE
def sE(h:gY d):OK 1 (.loop (cA qfC 119)) (yl d b c a m) uN (lZ e) (iz e b c a m):=Bz λ_=>Gm _ _ _ _ _ _ h
end
section
variable(d:g6)(b:IO)(c a m:Int)
def iA:aF:=aM 38 [(1,.func (.func 105) [] [.bptr 0 0]),(26,sl bL b),(27,.i6 c),(28,.i6 a)] [.cells [.i6 m] [],.dead] []
def uO(o:Int⊕(Int)):Exit:=match o with|(.inl _)=>.ret|(.inr _)=>.exit 2
def l9(o:Int⊕(Int)):aF:=match o with|(.inl o)=>aM 38 [(4,.bool Z)] [.cells [.i6 o] [],.dead] []|(.inr o)=>aM 38 [] [.cells [.i6 o] [],.dead] []
instance qDq:KS 1 (iA b c a m):=ks 2 rfl
instance qDi{o:Int⊕(Int)}:KS 1 (l9 o):=match o with|(.inl o)=>ks 2 rfl|(.inr o)=>ks 2 rfl
def ei:Q ((Int×Int)⊕(Int⊕(Int))):=if Y (a<c)then (bY b a).bind λh=>(d h.Body m).bind λe=>if(!e.1)then O (.inr (.inl e.2)) else O (.inl (cz (a+1),e.2)) else O (.inr (.inr m))
def ym:Q (Int⊕(Int)):=loop (λ(e:Int×Int)=>ei d b c e.1 e.2) (a,m)
def Gn(h:gY d):OL 1 (cA qfC 247) (ei d b c a m) (λ(o:Int×Int)=>iA b c o.1 o.2) uO l9 (iA b c a m):=qlH.lx<|tF (tb λn i=>tb λp e=>tv (fT.ia i)<|tv (rV n)<|tx SV<|tx (oH n)<|tv (ga n.Body [])<|tc [0] (h _ _ _ e)<|tF tE<|tE)<|tE
def sF(e:gY d):OK 1 (.loop (cA qfC 247)) (ym d b c a m) uO l9 (iA b c a m):=Bz λ_=>Gn _ _ _ _ _ e
end
def kL(b:g6)(e:aj)(h:Int):Q (K×Int):=(kp e h).bind λd=>if(!d.1)then O (Z,d.2) else (yl b e.Kids (e.Kids.length:Int) 0 d.2).bind λc=>match c with|(.inl c)=>O (Z,c)| (.inr c) =>(ym b e.Alts (e.Alts.length:Int) 0 c).bind λa=>match a with|(.inl a)=>O (Z,a)|(.inr a)=>O (T,a)
def KI(b:g6)(a:gY b){e:aj}{n:Int}:OG 104 [.agg (ak e),.func (.func 105) [] [.bptr 0 0]] [] [.cells [.i6 n] []] (kL b e n) (λr=>.bool r.1) [] (λr=>[.cells [.i6 r.2] []]):=qlH.g 1<|tb λo h=>te (cd e)<|tv (aK e)<|tc [0] (V4 _ h)<|tF tE<|tw (au e)<|bz (dO.ln e.Kids)<|t2 (λm d=>bJ (sE b e e.Kids (e.Kids.length:Int) 0 o.2 a _ d)<|tE) λm d=>bJ (sE b e e.Kids (e.Kids.length:Int) 0 o.2 a _ d)<|tw (ay e)<|bz (fT.ln e.Alts)<|t2 (λi c=>bJ (sF b e.Alts (e.Alts.length:Int) 0 m a _ c)<|tE) λi c=>bJ (sF b e.Alts (e.Alts.length:Int) 0 m a _ c)<|tE
def pE:((aj×Int)->Q (K×Int))->(aj×Int)->Q (K×Int):=λ(rec:(aj×Int)->Q (K×Int)) (x:aj×Int)=>kL (λe a=>rec (e,a)) x.1 x.2
def mF(e:aj)(a:Int):Q (K×Int):=rT pE (e,a)
def MM{e:aj}{b:Int}:OG 104 [.agg (ak e),.func (.func 105) [] [.bptr 0 0]] [] [.cells [.i6 b] []] (mF e b) (λr=>.bool r.1) [] (λr=>[.cells [.i6 r.2] []]):=qkZ λ_ h=>d7 (F:=pE) (M:=λ(x:aj×Int) (r:K×Int)=>C Pg GE 104 [.agg (ak x.1),.func (.func 105) [] [.bptr 0 0]] [] [.cells [.i6 x.2] []] (.bool r.1) [] [.cells [.i6 r.2] []]) (λrec a x r h=>KI _ (λe b=>qkZ λr h=>a (e,b) r h) _ h) h
noncomputable def qCg:W:=f63.body.getD .skip
def qBG:ZF Pg [] 63 f63 qCg:=zf call63 func63 rfl mixed
def Em(e:aj):Q Int:=(En e).bind λa=>if Y (a>400)then O 7 else (MK e).bind λb=>if Y (b>40)then O 8 else (mF e 0).bind λc=>O c.2
def ZG{e:aj}:OV 63 [.agg (ak e)] (Em e) (λr=>.i6 r) []:=qBG.v<|tb λd a=>te (cd e)<|tv (aK e)<|bQ (ZI _ a)<|tF tE<|tb λh b=>tv (aK e)<|bQ (ZH _ b)<|tF tE<|tb λi c=>tx qzY<|ts<|tv (aK e)<|tc [1] (MM _ c)<|ts<|tE
abbrev bS:=(aj->V Int->K->Q (V Int×K))
abbrev dw(R:bS):Prop:=∀(e:aj)(b:V Int)(a:K),OG 64 [.bptr 0 0,.agg (ak e)] [] [cw 0 b a] (R e b a) (λr=>.tuple []) [] (λr=>[cw 0 r.1 r.2])
noncomputable def qyU:W:=f163.body.getD .skip
def qxK:ZF Pg [] 163 f163 qyU:=zf call163 func163 rfl mixed
def rA(i:Int)(a:oy)(d:V Int)(b:K):Q (V Int×K):=(bY a i).bind λe=>(cV e d b).bind λc=>O (c.2,c.1)
def Ky{i:Int}{a:oy}{e:V Int}{b:K}:OG 163 [.i6 i,.bptr 0 0,.eptr ((cL al) a)] [] [.cells [.bptr 1 0] [],cw 1 e b] (rA i a e b) (λr=>.tuple []) [] (λr=>[.cells [.bptr 1 0] [],cw 1 r.1 r.2]):=qxK.g 2<|tb λh d=>tb λm c=>tk<|MO (.dx [0,0,0,6,14] [] [] [])<|ts<|tv (dz qt8 (sl al a) [])<|tv (cQ.ia d)<|tv (cc h)<|tc [1] (dS _ c)<|tE
section
variable(v:oy)(i a:Int)(m:V Int)(m2:K)
def uD:Q (V Int):=if Y (i>0)then (aa ([ch]:V ae) m m2).bind λb=>O b else O m
def Eb:OJ 2 (cA Ze 1014) (uD i m m2) .normal (λo=>aM 20 [(0,.bptr 0 0),(2,.func (.func 163) [] [.bptr 1 0,.eptr ((cL al) v)]),(6,.i6 i),(7,.i6 a),(8,.i6 i)] [cw 0 o m2,.cells [.bptr 0 0] []] []) (aM 20 [(0,.bptr 0 0),(2,.func (.func 163) [] [.bptr 1 0,.eptr ((cL al) v)]),(6,.i6 i),(7,.i6 a),(8,.i6 i)] [cw 0 m m2,.cells [.bptr 0 0] []] []):=Ok.j<|tF (tb λc b=>tv (aP [ch] 1 rfl)<|tc [0] (af _ b)<|tE)<|tE
end
section
variable(v:oy)(b a:Int)(m:V Int)(m2:K)
def rp:aF:=aM 20 [(0,.bptr 0 0),(2,.func (.func 163) [] [.bptr 1 0,.eptr ((cL al) v)]),(7,.i6 b),(8,.i6 a)] [cw 0 m m2,.cells [.bptr 0 0] []] []
def F2(o:V Int×K):aF:=aM 20 [] [cw 0 o.1 o.2,.cells [.bptr 0 0] []] []
def rq:Q ((Int×V Int×K)⊕(V Int×K)):=if Y (a<b)then (uD a m m2).bind λd=>(rA a v d m2).bind λc=>O (.inl (cz (a+1),c.1,c.2)) else O (.inr (m,m2))
def uE:Q (V Int×K):=loop (λ(c:Int×V Int×K)=>rq v b c.1 c.2.1 c.2.2) (a,m,m2)
def Cv:OL 2 (cA Ze 15) (rq v b a m m2) (λ(e:Int×V Int×K)=>rp v b e.1 e.2.1 e.2.2) (λ_=>.exit 0) F2 (rp v b a m m2):=Ok.l<|tF (tb λh c=>tb λi d=>ey 2<|bJ (Eb v a b m m2 _ c)<|tc [1,0] (Ky _ d)<|tE)<|tE
def Ec:=nu (s:=(a,m,m2)) λc=>Cv v b c.1 c.2.1 c.2.2
end
def px(n:Int)(c:oy)(d:V Int)(a:K):Q (V Int×K):=(uE c n 0 d a).bind λb=>O (b.1,b.2)
def Ja{n:Int}{c:oy}{d:V Int}{a:K}:OG 70 [.bptr 0 0,.i6 n,.func (.func 163) [] [.bptr 1 0,.eptr ((cL al) c)]] [] [cw 0 d a,.cells [.bptr 0 0] []] (px n c d a) (λr=>.tuple []) [] (λr=>[cw 0 r.1 r.2,.cells [.bptr 0 0] []]):=Ok.g 2<|tb λe b=>bJ (Ec c n 0 d a _ b)<|tE
noncomputable def qyx:W:=f109.body.getD .skip
def qxm:ZF Pg [] 109 f109 qyx:=zf call109 func109 rfl mixed
def kj(a:oy)(d:V Int)(b:K):Q (V Int×K):=if((a.length:Int)==0)then O (d,b) else (aa ([qlx]:V ae) d b).bind λe=>(px (a.length:Int) a e b).bind λc=>(aa ([qly]:V ae) c.1 c.2).bind λh=>O (h,c.2)
def ze{a:oy}{h:V Int}{b:K}:OG 109 [.bptr 0 0,sl al a] [] [cw 0 h b] (kj a h b) (λr=>.tuple []) [] (λr=>[cw 0 r.1 r.2]):=qxm.g 1<|qls (rfl:bH (.bptr 0 0)=O [.bptr 0 0]) rfl<|te (qwn al a)<|tv (dz qt8 (sl al a) [])<|bz (cQ.ln a)<|tF tE<|tb λi c=>tb λm d=>tb λn e=>ts<|tv (aP [qlx] 1 rfl)<|tc [0] (af _ c)<|ts<|tv (dz qt8 (sl al a) [])<|bz (cQ.ln a)<|tc [0,1] (Ja _ d)<|ts<|tv (aP [qly] 1 rfl)<|tc [0] (af _ e)<|tE
noncomputable def qyV:W:=f164.body.getD .skip
def qxL:ZF Pg [] 164 f164 qyV:=zf call164 func164 rfl mixed
def tj(b:bS)(i:Int)(a:waD)(e:V Int)(c:K):Q (V Int×K):=(bY a i).bind λh=>(b h e c).bind λd=>O (d.1,d.2)
def Mj(b:bS)(c:dw b){i:Int}{a:waD}{m:V Int}{d:K}:OG 164 [.i6 i,.bptr 0 0,.eptr ((cL ak) a)] [] [.cells [.bptr 1 0] [],cw 1 m d] (tj b i a m d) (λr=>.tuple []) [] (λr=>[.cells [.bptr 1 0] [],cw 1 r.1 r.2]):=qxL.g 2<|tb λn h=>tb λo e=>tk<|MO (.dx [0,0,0,6,14] [] [] [])<|ts<|tv (dz qwP (sl ak a) [])<|tv (dO.ia h)<|tv (aK n)<|tc [1] (c _ _ _ _ e)<|tE
section
variable(v:waD)(i a:Int)(m:V Int)(m2:K)
def uF:Q (V Int):=if Y (i>0)then (aa ([ch]:V ae) m m2).bind λb=>O b else O m
def Ed:OJ 2 (cA Ze 1014) (uF i m m2) .normal (λo=>aM 20 [(0,.bptr 0 0),(2,.func (.func 164) [] [.bptr 1 0,.eptr ((cL ak) v)]),(6,.i6 i),(7,.i6 a),(8,.i6 i)] [cw 0 o m2,.cells [.bptr 0 0] []] []) (aM 20 [(0,.bptr 0 0),(2,.func (.func 164) [] [.bptr 1 0,.eptr ((cL ak) v)]),(6,.i6 i),(7,.i6 a),(8,.i6 i)] [cw 0 m m2,.cells [.bptr 0 0] []] []):=Ok.j<|tF (tb λc b=>tv (aP [ch] 1 rfl)<|tc [0] (af _ b)<|tE)<|tE
end
section
variable(a:bS)(v:waD)(c b:Int)(m:V Int)(m2:K)
def rr:aF:=aM 20 [(0,.bptr 0 0),(2,.func (.func 164) [] [.bptr 1 0,.eptr ((cL ak) v)]),(7,.i6 c),(8,.i6 b)] [cw 0 m m2,.cells [.bptr 0 0] []] []
def F7(o:V Int×K):aF:=aM 20 [] [cw 0 o.1 o.2,.cells [.bptr 0 0] []] []
def rt:Q ((Int×V Int×K)⊕(V Int×K)):=if Y (b<c)then (uF b m m2).bind λe=>(tj a b v e m2).bind λd=>O (.inl (cz (b+1),d.1,d.2)) else O (.inr (m,m2))
def uG:Q (V Int×K):=loop (λ(d:Int×V Int×K)=>rt a v c d.1 d.2.1 d.2.2) (b,m,m2)
def Cw(d:dw a):OL 2 (cA Ze 15) (rt a v c b m m2) (λ(i:Int×V Int×K)=>rr v c i.1 i.2.1 i.2.2) (λ_=>.exit 0) F7 (rr v c b m m2):=Ok.l<|tF (tb λn e=>tb λo h=>ey 2<|bJ (Ed v b c m m2 _ e)<|tc [1,0] (Mj a d _ h)<|tE)<|tE
def Ee(d:dw a):=nu (s:=(b,m,m2)) λe=>Cw a v c e.1 e.2.1 e.2.2 d
end
def py(a:bS)(n:Int)(c:waD)(e:V Int)(b:K):Q (V Int×K):=(uG a c n 0 e b).bind λd=>O (d.1,d.2)
def Jb(a:bS)(b:dw a){n:Int}{c:waD}{h:V Int}{d:K}:OG 70 [.bptr 0 0,.i6 n,.func (.func 164) [] [.bptr 1 0,.eptr ((cL ak) c)]] [] [cw 0 h d,.cells [.bptr 0 0] []] (py a n c h d) (λr=>.tuple []) [] (λr=>[cw 0 r.1 r.2,.cells [.bptr 0 0] []]):=Ok.g 2<|tb λi e=>bJ (Ee a c n 0 h d b _ e)<|tE
noncomputable def qyy:W:=f110.body.getD .skip
def qxn:ZF Pg [] 110 f110 qyy:=zf call110 func110 rfl mixed
def eW(b:bS)(a:waD)(e:V Int)(c:K):Q (V Int×K):=(aa ([dl]:V ae) e c).bind λh=>(py b (a.length:Int) a h c).bind λd=>(aa ([dM]:V ae) d.1 d.2).bind λi=>O (i,d.2)
def gd(b:bS)(c:dw b){a:waD}{m:V Int}{d:K}:OG 110 [.bptr 0 0,sl ak a] [] [cw 0 m d] (eW b a m d) (λr=>.tuple []) [] (λr=>[cw 0 r.1 r.2]):=qxn.g 1<|tb λn e=>tb λo h=>tb λp i=>qls (rfl:bH (.bptr 0 0)=O [.bptr 0 0]) rfl<|te (qwn ak a)<|ts<|tv (aP [dl] 1 rfl)<|tc [0] (af _ e)<|ts<|tv (dz qwP (sl ak a) [])<|bz (dO.ln a)<|tc [0,1] (Jb b c _ h)<|ts<|tv (aP [dM] 1 rfl)<|tc [0] (af _ i)<|tE
noncomputable def qyX:W:=f166.body.getD .skip
def qxN:ZF Pg [] 166 f166 qyX:=zf call166 func166 rfl mixed
def AB(t:am):Q K:=if (t.Op == 0) = T then if (t.Name == ([]:ae)) = T then if ((t.Args.length:Int) == 0) = T then if((t.Names.length:Int)==0)then (kk t.Pred).bind λa=>if a then O ((t.Preds.length:Int)==0) else O Z else O Z else O Z else O Z else O Z
def Xy{t:am}:OV 166 [.agg (al t)] (AB t) (λr=>.bool r) []:=qxN.v<|
 te (eM t)<|have c:=λ{X s w} (r:PV _ X s w)=>tw (aB t)<|r;tf (λm=>have d:=λ{X s w} (r:PV _ X s w)=>c<|tg 4 m<|tw (cm t)<|r;tf (λn=>have e:=λ{X s w} (r:PV _ X s w)=>d<|tg 9 n<|tw (aN t)<|bz (cQ.ln t.Args)<|r;tf (λo=>have h:=λ{X s w} (r:PV _ X s w)=>e<|tg 15 o<|tw (bh t)<|bz (dX.ln t.Names)<|r;tf (λp=>tb λq i=>have a:=λ{X s w} (r:PV _ X s w)=>h<|tg 21 p<|tw (cP t)<|bQ (pg _ i)<|r;tf (λb=>a<|tg 26 b<|tw (bF t)<|bz (dN.ln t.Preds)<|tE) λb=>a<|tg 26 b<|tE) λp=>h<|tg 21 p<|tE) λo=>e<|tg 15 o<|tE) λn=>d<|tg 9 n<|tE) λm=>c<|tg 4 m<|tE
noncomputable def qyW:W:=f165.body.getD .skip
def qxM:ZF Pg [] 165 f165 qyW:=zf call165 func165 rfl mixed
def qX(i:Int)(a:aj)(e:V Int)(c:K):Q (V Int×K):=(bY a.Params i).bind λn=>(aW n.Name e c).bind λb=>(bY a.Params i).bind λo=>(AB o.Type_).bind λh=>if(!h)then (aa ([bm]:V ae) b.2 b.1).bind λm=>(bY a.Params i).bind λp=>(cV p.Type_ m b.1).bind λd=>O (d.2,d.1) else O (b.2,b.1)
def Kf{i:Int}{a:aj}{p:V Int}{b:K}:OG 165 [.i6 i,.bptr 0 0,.eptr (ak a)] [] [.cells [.bptr 1 0] [],cw 1 p b] (qX i a p b) (λr=>.tuple []) [] (λr=>[.cells [.bptr 1 0] [],cw 1 r.1 r.2]):=qxM.g 2<|tb λq m=>tb λw c=>tb λs n=>tb λx d=>tk<|MO (.dx [0,0,2,0,14,30,62] [] [] [])<|ts<|tw (aO a)<|tv (kl.ia m)<|tw (eu q)<|tc [1] (bD _ c)<|tw (aO a)<|tv (kl.ia n)<|tw (eG s)<|bQ (Xy _ d)<|tF (tb λy e=>tb λt o=>tb λz h=>ts<|tv (aP [bm] 1 rfl)<|tc [1] (af _ e)<|tk<|MO (.dx [0,0,2,0,14,30,62] [] [] [])<|ts<|tw (aO a)<|tv (kl.ia o)<|tw (eG t)<|tc [1] (dS _ h)<|tE)<|tE
section
variable(v:aj)(i a:Int)(m:V Int)(m2:K)
def sn:Q (V Int):=if Y (i>0)then (aa ([ch]:V ae) m m2).bind λb=>O b else O m
def Cj:OJ 2 (cA Ze 1014) (sn i m m2) .normal (λo=>aM 20 [(0,.bptr 0 0),(2,.func (.func 165) [] [.bptr 1 0,.eptr (ak v)]),(6,.i6 i),(7,.i6 a),(8,.i6 i)] [cw 0 o m2,.cells [.bptr 0 0] []] []) (aM 20 [(0,.bptr 0 0),(2,.func (.func 165) [] [.bptr 1 0,.eptr (ak v)]),(6,.i6 i),(7,.i6 a),(8,.i6 i)] [cw 0 m m2,.cells [.bptr 0 0] []] []):=Ok.j<|tF (tb λc b=>tv (aP [ch] 1 rfl)<|tc [0] (af _ b)<|tE)<|tE
end
section
variable(v:aj)(b a:Int)(m:V Int)(m2:K)
def p8:aF:=aM 20 [(0,.bptr 0 0),(2,.func (.func 165) [] [.bptr 1 0,.eptr (ak v)]),(7,.i6 b),(8,.i6 a)] [cw 0 m m2,.cells [.bptr 0 0] []] []
def DW(o:V Int×K):aF:=aM 20 [] [cw 0 o.1 o.2,.cells [.bptr 0 0] []] []
def p9:Q ((Int×V Int×K)⊕(V Int×K)):=if Y (a<b)then (sn a m m2).bind λd=>(qX a v d m2).bind λc=>O (.inl (cz (a+1),c.1,c.2)) else O (.inr (m,m2))
def sq:Q (V Int×K):=loop (λ(c:Int×V Int×K)=>p9 v b c.1 c.2.1 c.2.2) (a,m,m2)
def BC:OL 2 (cA Ze 15) (p9 v b a m m2) (λ(e:Int×V Int×K)=>p8 v b e.1 e.2.1 e.2.2) (λ_=>.exit 0) DW (p8 v b a m m2):=Ok.l<|tF (tb λh c=>tb λi d=>ey 2<|bJ (Cj v a b m m2 _ c)<|tc [1,0] (Kf _ d)<|tE)<|tE
def Ck:=nu (s:=(a,m,m2)) λc=>BC v b c.1 c.2.1 c.2.2
end
def jJ(n:Int)(c:aj)(d:V Int)(a:K):Q (V Int×K):=(sq c n 0 d a).bind λb=>O (b.1,b.2)
def GS{n:Int}{c:aj}{d:V Int}{a:K}:OG 70 [.bptr 0 0,.i6 n,.func (.func 165) [] [.bptr 1 0,.eptr (ak c)]] [] [cw 0 d a,.cells [.bptr 0 0] []] (jJ n c d a) (λr=>.tuple []) [] (λr=>[cw 0 r.1 r.2,.cells [.bptr 0 0] []]):=Ok.g 2<|tb λe b=>bJ (Ck c n 0 d a _ b)<|tE
noncomputable def qqF:W:=f111.body.getD .skip
def qqj:ZF Pg [117] 111 f111 qqF:=zf call111 func111 rfl mixed
section
variable(e:aj)(m:V Int)(m2:K)
def kz:Q (V Int×K):=if Y ((e.Types.length:Int)>0)then (aa ([bm]:V ae) m m2).bind λb=>(bY e.Types 0).bind λc=>(cV c b m2).bind λa=>O (a.2,a.1) else O (m,m2)
def I0:OJ 1 (cA qqF 2038) (kz e m m2) .normal (λo=>aM 176 [(2,.bptr 1 0),(3,.eptr (ak e))] [cw 0 o.1 o.2,.cells [.bptr 0 0] [],.dead] []) (aM 176 [(2,.bptr 1 0),(3,.eptr (ak e))] [cw 0 m m2,.cells [.bptr 0 0] [],.dead] []):=qqj.j<|tw (aw e)<|bz (cQ.ln e.Types)<|tF (tb λh a=>tb λd c=>tb λi b=>ts<|tv (aP [bm] 1 rfl)<|tc [0] (af _ a)<|tk<|MO (.dx [0,0,2,6,14] [] [] [])<|ts<|tw (aw e)<|tv (cQ.ia c)<|tv (cc d)<|tc [0] (dS _ b)<|tE)<|tE
end
section
variable(i:Int)(a:IO)(b:Int)(m:V Int)(m2:K)(e:ae)(h:waA)(n:Int)(p:ae)(q:Int)(r:waD)(s:waF)(c:IO)(d:oy)
def y4:Q (V Int):=if Y (i>0)then (aa ([rH]:V ae) m m2).bind λo=>O o else O m
def I1:OJ 1 (cA qqF 33545718) (y4 i m m2) .normal (λo=>aM 176 [(2,.bptr 1 0),(5,.bptr 3 0),(113,sl bL a),(114,.i6 b),(115,.i6 i)] [cw 0 o m2,.cells [.bptr 0 0] [],.dead,.cells [.str e,sl cS h,.i6 n,.str p,.i6 q,sl ak r,sl bk s,sl bL c,sl al d] []] []) (aM 176 [(2,.bptr 1 0),(4,.i6 i),(5,.bptr 3 0),(113,sl bL a),(114,.i6 b),(115,.i6 i)] [cw 0 m m2,.cells [.bptr 0 0] [],.dead,.cells [.str e,sl cS h,.i6 n,.str p,.i6 q,sl ak r,sl bk s,sl bL c,sl al d] []] []):=qqj.j<|tF (tb λw t=>ts<|tv (aP [rH] 1 rfl)<|tc [0] (af _ t)<|tE)<|tE
end
section
variable(d:bS)(b:IO)(c a:Int)(m:V Int)(m2:K)
def mY:aF:=aM 176 [(2,.bptr 1 0),(113,sl bL b),(114,.i6 c),(115,.i6 a)] [cw 0 m m2,.cells [.bptr 0 0] [],.dead] []
def wg(o:V Int×K):aF:=aM 176 [(2,.bptr 1 0)] [cw 0 o.1 o.2,.cells [.bptr 0 0] [],.dead] []
instance qDw:KS 1 (mY b c a m m2):=ks 3 rfl
instance qDu{o:List Int×Bool}:KS 1 (wg o):=ks 3 rfl
def wd:Q ((Int×V Int×K)⊕(V Int×K)):=if Y (a<c)then (bY b a).bind λh=>(y4 a m m2).bind λo=>(bw h.Con o m2).bind λi=>(eL h.Names i.2 i.1).bind λe=>(aa ([dK]:V ae) e.1 e.2).bind λp=>(d h.Body p e.2).bind λn=>O (.inl (cz (a+1),n.1,n.2)) else O (.inr (m,m2))
def pr:Q (V Int×K):=loop (λ(e:Int×V Int×K)=>wd d b c e.1 e.2.1 e.2.2) (a,m,m2)
def GR(h:dw d):OL 1 (cA qqF 524151) (wd d b c a m m2) (λ(s:Int×V Int×K)=>mY b c s.1 s.2.1 s.2.2) (λ_=>.exit 1) wg (mY b c a m m2):=qqj.lx<|tF (tb λe r=>tb λt i=>tb λw n=>tb λx o=>tb λy p=>tb λz q=>tv (fT.ia r)<|tv (rV e)<|tx SV<|tx (oH e)<|ey 0<|bJ (I1 a b c m m2 e.Con e.Names e.Body.Op e.Body.Name e.Body.N e.Body.Kids e.Body.Params e.Body.Alts e.Body.Types _ i)<|ts<|ts<|tc [0] (du _ n)<|ts<|ts<|tc [0] (pz _ o)<|ts<|tv (aP [dK] 1 rfl)<|tc [0] (af _ p)<|ts<|tv (ga e.Body [])<|tc [0] (h _ _ _ _ q)<|tE)<|tE
def I2(e:dw d):=nu (s:=(a,m,m2)) λh=>GR d b c h.1 h.2.1 h.2.2 e
end
def od(a:bS)(e:aj)(q:V Int)(b:K):Q (V Int×K):=if(e.Op==6)then (aa ([Ix]:V ae) q b).bind λr2=>(jJ (e.Params.length:Int) e r2 b).bind λE=>(aa ([fC]:V ae) E.1 E.2).bind λr4=>(bY e.Kids 0).bind λx5=>(a x5 r4 E.2).bind λr6=>O (r6.1,r6.2) else if(e.Op==7)then (aa ([Wm]:V ae) q b).bind λr8=>(aW e.Name r8 b).bind λr9=>(kz e r9.2 r9.1).bind λc=>(aa ([ed]:V ae) c.1 c.2).bind λx=>(bY e.Kids 0).bind λX=>(a X x c.2).bind λh=>(aa ([rG]:V ae) h.1 h.2).bind λy=>(bY e.Kids 1).bind λa0=>(a a0 y h.2).bind λr=>O (r.1,r.2) else if(e.Op==8)then (aa ([qae]:V ae) q b).bind λz=>(bY e.Kids 0).bind λa1=>(a a1 z b).bind λi=>(aa ([Es]:V ae) i.1 i.2).bind λA=>(bY e.Kids 1).bind λa2=>(a a2 A i.2).bind λm=>(aa ([Er]:V ae) m.1 m.2).bind λB=>(bY e.Kids 2).bind λa3=>(a a3 B m.2).bind λs=>O (s.1,s.2) else if(e.Op==9)then (aa ([Rq]:V ae) q b).bind λF=>(bY e.Kids 0).bind λa4=>(a a4 F b).bind λn=>(aa ([si]:V ae) n.1 n.2).bind λH=>(pr a e.Alts (e.Alts.length:Int) 0 H n.2).bind λd=>(aa ([lI]:V ae) d.1 d.2).bind λL=>O (L,d.2) else if(e.Op==25)then (aa ([Wn]:V ae) q b).bind λP=>(aW e.Name P b).bind λo=>(aa ([bZ]:V ae) o.2 o.1).bind λR=>(XK e.Kids N (O (cz ((e.Kids.length:Int) - 1)))).bind λw=>(eW a w R o.1).bind λp=>(aa ([rG]:V ae) p.1 p.2).bind λS=>(bY e.Kids (cz ((e.Kids.length:Int) - 1))).bind λa5=>(a a5 S p.2).bind λt=>O (t.1,t.2) else O (q,b)
def Oc(b:bS)(a:dw b){e:aj}{k0:V Int}{a5:K}:OG 111 [.bptr 0 0,.agg (ak e)] [] [cw 0 k0 a5] (od b e k0 a5) (λr=>.tuple []) [] (λr=>[cw 0 r.1 r.2]):=qqj.g 1<|qls (rfl:bH (.bptr 0 0)=O [.bptr 0 0]) rfl<|te (cd e)<|tw (ba e)<|tF (tb λr2 a6=>tb λr3 a7=>tb λr4 a8=>tb λx5 an=>tb λr6 a9=>ts<|tv (aP [Ix] 1 rfl)<|tc [0] (af _ a6)<|ts<|tw (aO e)<|bz (kl.ln e.Params)<|tc [0,1] (GS _ a7)<|ts<|tv (aP [fC] 1 rfl)<|tc [0] (af _ a8)<|tk<|MO (.dx [0,0,2,6,14] [] [] [])<|ts<|tw (au e)<|tv (dO.ia an)<|tv (aK x5)<|tc [0] (a _ _ _ _ a9)<|tE)<|tF (tb λr8 ab=>tb λr9 ad=>tb λbe d=>tb λbi i=>tb λb0 S=>tb λbl m=>tb λbn n=>tb λb1 X=>tb λbq o=>ts<|tv (aP [Wm] 1 rfl)<|tc [0] (af _ ab)<|ts<|tw (bX e)<|tc [0] (bD _ ad)<|ey 0<|bJ (I0 e r9.2 r9.1 _ d)<|ts<|tv (aP [ed] 1 rfl)<|tc [0] (af _ i)<|tk<|MO (.dx [0,0,2,6,14] [] [] [])<|ts<|tw (au e)<|tv (dO.ia S)<|tv (aK b0)<|tc [0] (a _ _ _ _ m)<|ts<|tv (aP [rG] 1 rfl)<|tc [0] (af _ n)<|tk<|MO (.dx [0,0,2,6,14] [] [] [])<|ts<|tw (au e)<|tv (dO.ia X)<|tv (aK b1)<|tc [0] (a _ _ _ _ o)<|tE)<|tF (tb λbr p=>tb λb2 a0=>tb λbs q=>tb λbt s=>tb λb3 a1=>tb λc0 t=>tb λc1 w=>tb λb5 a2=>tb λc2 x=>ts<|tv (aP [qae] 1 rfl)<|tc [0] (af _ p)<|tk<|MO (.dx [0,0,2,6,14] [] [] [])<|ts<|tw (au e)<|tv (dO.ia a0)<|tv (aK b2)<|tc [0] (a _ _ _ _ q)<|ts<|tv (aP [Es] 1 rfl)<|tc [0] (af _ s)<|tk<|MO (.dx [0,0,2,6,14] [] [] [])<|ts<|tw (au e)<|tv (dO.ia a1)<|tv (aK b3)<|tc [0] (a _ _ _ _ t)<|ts<|tv (aP [Er] 1 rfl)<|tc [0] (af _ w)<|tk<|MO (.dx [0,0,2,6,14] [] [] [])<|ts<|tw (au e)<|tv (dO.ia a2)<|tv (aK b5)<|tc [0] (a _ _ _ _ x)<|tE)<|tF (tb λc3 y=>tb λb8 a3=>tb λao z=>tb λar A=>tb λbg h=>tb λc4 B=>ts<|tv (aP [Rq] 1 rfl)<|tc [0] (af _ y)<|tk<|MO (.dx [0,0,2,6,14] [] [] [])<|ts<|tw (au e)<|tv (dO.ia a3)<|tv (aK b8)<|tc [0] (a _ _ _ _ z)<|ts<|tv (aP [si] 1 rfl)<|tc [0] (af _ A)<|tw (ay e)<|bz (fT.ln e.Alts)<|bJ (I2 b e.Alts (e.Alts.length:Int) 0 ar ao.2 a _ h)<|ts<|tv (aP [lI] 1 rfl)<|tc [0] (af _ B)<|tE)<|tF (tb λc5 E=>tb λc6 F=>tb λc7 H=>tb λbc c=>tb λc8 L=>tb λc9 P=>tb λbb a4=>tb λcg R=>tw (au e)<|bz (dO.ln e.Kids)<|ts<|tv (aP [Wn] 1 rfl)<|tc [0] (af _ E)<|ts<|tw (bX e)<|tc [0] (bD _ F)<|ts<|tv (aP [bZ] 1 rfl)<|tc [0] (af _ H)<|tk<|MO (.dx [0,0,2,0,14] [] [] [])<|ts<|tw (au e)<|tv (dO.sc c)<|tc [0] (gd b a _ L)<|ts<|tv (aP [rG] 1 rfl)<|tc [0] (af _ P)<|tk<|MO (.dx [0,0,2,0,14,30] [] [] [])<|ts<|tw (au e)<|tv (dO.ia a4)<|tv (aK bb)<|tc [0] (a _ _ _ _ R)<|tE)<|tE
noncomputable def qnt:W:=f114.body.getD .skip
def qnk:ZF Pg [] 114 f114 qnt:=zf call114 func114 rfl mixed
section
variable(e:aj)(a:Int)
def Qt:Q K:=if(a==7)then O (a==7) else if(a==8)then O (a==8) else if(a==9)then O (a==9) else if(a==6)then O (a==6) else O (a==25)
def VL:OU 0 (cA qnt 54) (Qt a) .normal (λo=>[(5,.bool o)]) (aM 36 [(1,.eptr (ak e)),(4,.i6 a)] [.dead] []):=qnk.j<|tF tE<|tF tE<|tF tE<|tF tE<|tE
end
section
variable(a:Int)
def Qu:Q K:=if(a==16)then O (a==16) else if(a==17)then O (a==17) else O (a==18)
def VM:OU 0 (cA qnt 14334) (Qu a) .normal (λo=>[(23,.bool o)]) (aM 36 [(4,.i6 a)] [.dead] []):=qnk.j<|tF tE<|tF tE<|tE
end
section
variable(a:Int)
def Qv:Q K:=if(a==10)then O (a==10) else O (a==11)
def VN:OU 0 (cA qnt 57342) (Qv a) .normal (λo=>[(27,.bool o)]) (aM 36 [(4,.i6 a)] [.dead] []):=qnk.j<|tF tE<|tE
end
section
variable(a:Int)
def Qw:Q K:=if(a==12)then O (a==12) else if(a==13)then O (a==13) else O (a==14)
def VO:OU 0 (cA qnt 229374) (Qw a) .normal (λo=>[(30,.bool o)]) (aM 36 [(4,.i6 a)] [.dead] []):=qnk.j<|tF tE<|tF tE<|tE
end
def BB(e:aj):Q Int:=(Qt e.Op).bind λh=>if h then O 0 else if(e.Op==20)then O 1 else if(e.Op==19)then O 2 else if(e.Op==21)then (bY e.Kids 0).bind λd=>if(d.Op==16)then O 4 else O 3 else (Qu e.Op).bind λa=>if a then O 4 else (Qv e.Op).bind λb=>if b then O 5 else (Qw e.Op).bind λc=>if c then O 6 else if(e.Op==15)then O 7 else O 8
def FT{e:aj}:OV 114 [.agg (ak e)] (BB e) (λr=>.i6 r) []:=qnk.v<|tb λp h=>te (cd e)<|tw (ba e)<|ey 0<|bJ (VL e e.Op _ h)<|tF tE<|tF tE<|tF tE<|tF (tb λi d=>tw (au e)<|tv (dO.ia d)<|tw (ba i)<|tF tE<|tE)<|tb λm a=>ey 0<|bJ (VM e.Op _ a)<|tF tE<|tb λn b=>ey 0<|bJ (VN e.Op _ b)<|tF tE<|tb λo c=>ey 0<|bJ (VO e.Op _ c)<|tF tE<|tF tE<|tE
noncomputable def qyA:W:=f113.body.getD .skip
def qxp:ZF Pg [] 113 f113 qyA:=zf call113 func113 rfl mixed
def il(a:bS)(e:aj)(c:Int)(h:V Int)(b:K):Q (V Int×K):=(BB e).bind λm=>if Y (m<c)then (aa ([dl]:V ae) h b).bind λn=>(a e n b).bind λd=>(aa ([dM]:V ae) d.1 d.2).bind λo=>O (o,d.2) else (a e h b).bind λi=>O (i.1,i.2)
def mt(c:bS)(a:dw c){e:aj}{b:Int}{p:V Int}{d:K}:OG 113 [.bptr 0 0,.agg (ak e),.i6 b] [] [cw 0 p d] (il c e b p d) (λr=>.tuple []) [] (λr=>[cw 0 r.1 r.2]):=qxp.g 1<|tb λq h=>te (cd e)<|tv (aK e)<|bQ (FT _ h)<|tF (tb λs i=>tb λt m=>tb λw n=>tv (aP [dl] 1 rfl)<|tc [0] (af _ i)<|tv (aK e)<|tc [0] (a _ _ _ _ m)<|tv (aP [dM] 1 rfl)<|tc [0] (af _ n)<|tE)<|tb λx o=>tv (aK e)<|tc [0] (a _ _ _ _ o)<|tE
noncomputable def qyz:W:=f112.body.getD .skip
def qxo:ZF Pg [] 112 f112 qyz:=zf call112 func112 rfl mixed
def fy(c:bS)(a:aj)(d:ae)(m:aj)(first b:Int)(n:V Int)(e:K):Q (V Int×K):=
 (il c a first n e).bind λh=>
 (aa ([bZ,d,bZ]:V ae) h.1 h.2).bind λo=>
 (il c m b o h.2).bind λi=>
 O (i.1,i.2)
def oc(b:bS)(d:dw b){a:aj}{e:ae}{i:aj}{first c:Int}{p:V Int}{h:K}:OG 112 [.bptr 0 0,.agg (ak a),.str e,.agg (ak i),.i6 first,.i6 c] [] [cw 0 p h] (fy b a e i first c p h) (λr=>.tuple []) [] (λr=>[cw 0 r.1 r.2]):=qxo.g 1<|
 tb λq m=>tb λs n=>tb λt o=>te (cd a)<|te (cd i)<|tv (aK a)<|tc [0] (mt b d _ m)<|tv (aP [bZ,e,bZ] 3 rfl)<|tc [0] (af _ n)<|tv (aK i)<|tc [0] (mt b d _ o)<|tE
noncomputable def qzB:W:=f64.body.getD .skip
def qys:ZF Pg [] 64 f64 qzB:=zf call64 func64 rfl mixed
section
variable(e:aj)(a:Int)(m:V Int)(m2:K)
def ru:Q K:=if(a==6)then O (a==6) else if(a==7)then O (a==7) else if(a==8)then O (a==8) else if(a==9)then O (a==9) else O (a==25)
def Kl:OU 1 (cA qzB 32766) (ru a) .normal (λo=>[(90,.bool o)]) (aM 203 [(0,.bptr 0 0),(3,.eptr (ak e)),(6,.i6 a)] [cw 0 m m2,.dead] []):=qys.j<|tF tE<|tF tE<|tF tE<|tF tE<|tE
end
section
variable(e:aj)(a:Int)(m:V Int)(m2:K)
def rv:Q K:=if(a==16)then O (a==16) else if(a==17)then O (a==17) else O (a==18)
def Km:OU 1 (cA qzB 536870910) (rv a) .normal (λo=>[(6,.undef),(185,.bool o)]) (aM 203 [(0,.bptr 0 0),(3,.eptr (ak e)),(6,.i6 a)] [cw 0 m m2,.dead] []):=qys.j<|tF tE<|tF tE<|tE
end
def jC(b:bS)(e:aj)(c:V Int)(a:K):Q (V Int×K):=if(e.Op==1)then if Y (e.N<0)then (qbD e.N).bind λr3=>(aa ([dl,r3,dM]:V ae) c a).bind λr4=>O (r4,a) else (qbD e.N).bind λr5=>(aa ([r5]:V ae) c a).bind λr6=>O (r6,a) else if(e.Op==2)then (iq (e.N==1)).bind λr8=>(aa ([r8]:V ae) c a).bind λr9=>O (r9,a) else if(e.Op==3)then (aW e.Name c a).bind λn=>O (n.2,n.1) else if(e.Op==4)then (bw e.Name c a).bind λo=>(kj e.Types o.2 o.1).bind λd=>if Y ((e.Kids.length:Int)>0)then (eW b e.Kids d.1 d.2).bind λp=>O (p.1,p.2) else O (d.1,d.2) else if(e.Op==5)then (aW e.Name c a).bind λq=>(kj e.Types q.2 q.1).bind λr=>(eW b e.Kids r.1 r.2).bind λs=>O (s.1,s.2) else (ru e.Op).bind λH=>if H then (od b e c a).bind λt=>O (t.1,t.2) else if(e.Op==21)then (bY e.Kids 0).bind λh=>if(h.Op==16)then (bY h.Kids 0).bind λa6=>(bY h.Kids 1).bind λa7=>(fy b a6 yw a7 5 5 c a).bind λw=>O (w.1,w.2) else (aa ([QO]:V ae) c a).bind λP=>(il b h 3 P a).bind λx=>O (x.1,x.2) else if(e.Op==15)then (aa ([wn]:V ae) c a).bind λR=>(bY e.Kids 0).bind λa8=>(il b a8 7 R a).bind λy=>O (y.1,y.2) else if(e.Op==22)then (aa ([qlA]:V ae) c a).bind λS=>(eW b e.Kids S a).bind λz=>O (z.1,z.2) else if(e.Op==23)then (aa ([qlz]:V ae) c a).bind λX=>(eW b e.Kids X a).bind λA=>O (A.1,A.2) else if(e.Op==24)then (aa ([qlB]:V ae) c a).bind λa0=>(eW b e.Kids a0 a).bind λB=>O (B.1,B.2) else if(e.Op==26)then (aa ([dl]:V ae) c a).bind λa1=>(bY e.Kids 0).bind λa9=>(b a9 a1 a).bind λi=>(aa ([bm]:V ae) i.1 i.2).bind λa2=>(bY e.Types 0).bind λab=>(cV ab a2 i.2).bind λm=>(aa ([dM]:V ae) m.2 m.1).bind λa3=>O (a3,m.1) else (rv e.Op).bind λL=>if L then (bY e.Kids 0).bind λad=>(bY er e.Op).bind λan=>(bY e.Kids 1).bind λao=>(fy b ad an ao 5 5 c a).bind λE=>O (E.1,E.2) else (bY e.Kids 0).bind λar=>(bY er e.Op).bind λb0=>(bY e.Kids 1).bind λb1=>(BB e).bind λa4=>(BB e).bind λa5=>(fy b ar b0 b1 a4 (cz (a5+1)) c a).bind λF=>O (F.1,F.2)
def Oe(b:bS)(a:dw b){e:aj}{k0:V Int}{c:K}:OG 64 [.bptr 0 0,.agg (ak e)] [] [cw 0 k0 c] (jC b e k0 c) (λr=>.tuple []) [] (λr=>[cw 0 r.1 r.2]):=qys.g 1<|te (cd e)<|tw (ba e)<|tF (tw (bE e)<|tF (tb λr3 b5=>tb λr4 b8=>tw (bE e)<|bQ (Z1 b5)<|tv (aP [dl,r3,dM] 3 rfl)<|tc [0] (af _ b8)<|tE)<|tb λr5 bb=>tb λr6 bc=>tw (bE e)<|bQ (Z1 bb)<|tv (aP [r5] 1 rfl)<|tc [0] (af _ bc)<|tE)<|tF (tb λr8 be=>tb λr9 bg=>tw (bE e)<|bQ (zi _ be)<|tv (aP [r8] 1 rfl)<|tc [0] (af _ bg)<|tE)<|tF (tb λc4 o=>tw (bX e)<|tc [0] (bD _ o)<|tE)<|tF (tb λc5 p=>tb λc6 q=>tw (bX e)<|tc [0] (du _ p)<|tw (aw e)<|tc [0] (ze _ q)<|tw (au e)<|bz (dO.ln e.Kids)<|tF (tb λc7 s=>tw (au e)<|tc [0] (gd b a _ s)<|tE)<|tE)<|tF (tb λc8 t=>tb λc9 w=>tb λcg x=>tw (bX e)<|tc [0] (bD _ t)<|tw (aw e)<|tc [0] (ze _ w)<|tw (au e)<|tc [0] (gd b a _ x)<|tE)<|tb λc2 m=>ey 0<|bJ (Kl e e.Op k0 c _ m)<|tF (tb λci y=>tv (aK e)<|tc [0] (Oc b a _ y)<|tE)<|tF (tb λi a9=>tw (au e)<|tv (dO.ia a9)<|tv (aK i)<|tx ZB<|tx (wc i)<|ts<|tF (tb λbi ab=>tb λbl ad=>tb λcn z=>tk<|MO (.dx [0,0,2,6,14,0,32,96,224] [] [] [])<|ts<|tv (dO.ia ab)<|tv (aK bi)<|ts<|tv (dO.ia ad)<|tv (aK bl)<|tc [0] (oc b a _ z)<|tE)<|tb λcs A=>tb λcv B=>tv (aP [QO] 1 rfl)<|tc [0] (af _ A)<|tv (ga i [])<|tc [0] (mt b a _ B)<|tE)<|tF (tb λd0 E=>tb λbn an=>tb λd1 F=>tv (aP [wn] 1 rfl)<|tc [0] (af _ E)<|tw (au e)<|tv (dO.ia an)<|tv (aK bn)<|tc [0] (mt b a _ F)<|tE)<|tF (tb λd2 H=>tb λd3 L=>tv (aP [qlA] 1 rfl)<|tc [0] (af _ H)<|tw (au e)<|tc [0] (gd b a _ L)<|tE)<|tF (tb λdd P=>tb λdk R=>tv (aP [qlz] 1 rfl)<|tc [0] (af _ P)<|tw (au e)<|tc [0] (gd b a _ R)<|tE)<|tF (tb λds S=>tb λe0 X=>tv (aP [qlB] 1 rfl)<|tc [0] (af _ S)<|tw (au e)<|tc [0] (gd b a _ X)<|tE)<|tF (tb λe1 a0=>tb λbq ao=>tb λe2 a1=>tb λe3 a2=>tb λbr ar=>tb λe4 a3=>tb λe5 a4=>tv (aP [dl] 1 rfl)<|tc [0] (af _ a0)<|tw (au e)<|tv (dO.ia ao)<|tv (aK bq)<|tc [0] (a _ _ _ _ a1)<|tv (aP [bm] 1 rfl)<|tc [0] (af _ a2)<|tw (aw e)<|tv (cQ.ia ar)<|tv (cc br)<|tc [0] (dS _ a3)<|tv (aP [dM] 1 rfl)<|tc [0] (af _ a4)<|tE)<|tb λc3 n=>ey 0<|bJ (Km e e.Op k0 c _ n)<|tF (tb λbs b0=>tb λec d=>tb λbt b1=>tb λe6 a5=>tk<|MO (.dx [0,0,2,6,14,0,32,96,224,0,512,1536,3584] [] [] [])<|tw (au e)<|tv (dO.ia b0)<|tv (aK bs)<|tw (ba e)<|tv (Qx (k:=.i64) d)<|tv (Qy d)<|tw (au e)<|tv (dO.ia b1)<|tv (aK bt)<|tc [0] (oc b a _ a5)<|tE)<|tb λc0 b2=>tb λek h=>tb λc1 b3=>tb λe7 a6=>tb λea a7=>tb λeb a8=>tk<|MO (.dx [0,0,2,6,14,0,32,96,224,0,512,1536,3584,0,8192,0,57344,122880] [] [] [])<|tw (au e)<|tv (dO.ia b2)<|tv (aK c0)<|tw (ba e)<|tv (Qx (k:=.i64) h)<|tv (Qy h)<|tw (au e)<|tv (dO.ia b3)<|tv (aK c1)<|tv (aK e)<|bQ (FT _ a6)<|tv (aK e)<|bQ (FT _ a7)<|tc [0] (oc b a _ a8)<|tE
def jD:((aj×V Int×K)->Q (V Int×K))->(aj×V Int×K)->Q (V Int×K):=λ(rec:(aj×V Int×K)->Q (V Int×K)) (x:aj×V Int×K)=>jC (λe b a=>rec (e,b,a)) x.1 x.2.1 x.2.2
def xL(e:aj)(b:V Int)(a:K):Q (V Int×K):=rT jD (e,b,a)
def QA{e:aj}{c:V Int}{a:K}:OG 64 [.bptr 0 0,.agg (ak e)] [] [cw 0 c a] (xL e c a) (λr=>.tuple []) [] (λr=>[cw 0 r.1 r.2]):=qkZ λ_ h=>d7 (F:=jD) (M:=λ(x:aj×V Int×K) (r:V Int×K)=>C Pg GE 64 [.bptr 0 0,.agg (ak x.1)] [] [cw 0 x.2.1 x.2.2] (.tuple []) [] [cw 0 r.1 r.2]) (λrec b x r h=>Oe _ (λe c a=>qkZ λr h=>b (e,c,a) r h) _ h) h
noncomputable def qB4:W:=f27.body.getD .skip
def qBu:ZF Pg [] 27 f27 qB4:=zf call27 func27 rfl mixed
def im(e:aj)(b:V Int)(a:K):Q (K×V Int):=(Em e).bind λd=>if(d !=0)then O (T,b) else (xL e b a).bind λc=>O (c.2,c.1)
def zg{e:aj}{d:V Int}{a:K}:OG 27 [.bptr 0 0,.agg (ak e)] [] [cw 0 d a] (im e d a) (λr=>.tuple []) [] (λr=>[cw 0 r.2 r.1]):=qBu.g 1<|tb λh b=>te (cd e)<|tv (aK e)<|bQ (ZG _ b)<|tF (ts<|tE)<|tb λi c=>tv (aK e)<|tc [0] (QA _ c)<|tE
end Go.Proofs.YtibglelmlnfojaaGreatDoor
