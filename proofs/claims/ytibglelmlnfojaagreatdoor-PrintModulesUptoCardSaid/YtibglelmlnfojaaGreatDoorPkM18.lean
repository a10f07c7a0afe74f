/- PROVED: a part of the proof. Conditions: none. -/
import Derived.Test.YtibglelmlnfojaaGreatDoorPkM17
set_option linter.unusedSimpArgs false set_option linter.defProp false
set_option linter.unusedVariables false
noncomputable section
namespace Go.Proofs.YtibglelmlnfojaaGreatDoor
open Go Go.Proofs.Tryz
open Option renaming some→O,none→N
open Go renaming TypeId→G,Value→D,Program→I,Oper→M,World→J,Code→W
open Bool renaming true→T,false→Z
open Decidable renaming decide→Y
open Go.Proofs.YtibglelmlnfojaaGreatDoor renaming PVal→U
set_option linter.unusedVariables false
set_option linter.defProp false
set_option maxRecDepth 100000
noncomputable def qqO:W:=f193.body.getD .skip
def qsT:ZF Pg [] 193 f193 qqO:=zf call193 func193 rfl mixed
section
variable(v a:am)
def BT:Q K:=if(v.Op !=a.Op)then O T else if(!(v.Name==a.Name))then O T else (tN v.Names a.Names).bind λb=>if(!b)then O T else (OS v.Pred a.Pred).bind λc=>if(!c)then O T else O ((v.Preds.length:Int)!=(a.Preds.length:Int))
def S4:OU 0 (cA qqO 12) (BT v a) .normal (λo=>[(42,.bool o)]) (aM 67 [(2,.eptr (al v)),(3,.eptr (al a))] [.dead,.dead] []):=qsT.j<|
 have c:=λ{X w x} (r:PV _ X w x)=>tw (aB v)<|tw (aB a)<|r;tf (λm=>c<|tg 6 m<|tE) λm=>have d:=λ{X w x} (r:PV _ X w x)=>c<|tg 6 m<|tw (cm v)<|tw (cm a)<|r;tf (λn=>d<|tg 13 n<|tE) λn=>tb λs h=>have e:=λ{X w x} (r:PV _ X w x)=>d<|tg 13 n<|tw (bh v)<|tw (bh a)<|bQ (Jv _ h)<|r;tf (λp=>e<|tg 21 p<|tE) λp=>tb λt i=>have b:=λ{X w x} (r:PV _ X w x)=>e<|tg 21 p<|tw (cP v)<|tw (cP a)<|bQ (OY _ i)<|r;tf (λq=>b<|tg 29 q<|tE) λq=>b<|tg 29 q<|tw (bF v)<|bz (dN.ln v.Preds)<|tw (bF a)<|bz (dN.ln a.Preds)<|tE
end
section
variable(v a:am)(i:Int)
def wJ:aF:=aM 67 [(2,.eptr (al v)),(3,.eptr (al a)),(5,.i6 i)] [.dead,.dead] []
def Hl(o:Unit⊕(Unit)):Exit:=match o with|(.inl _)=>.ret|(.inr _)=>.exit 0
def Hm(o:Unit⊕(Unit)):aF:=match o with|(.inl o)=>aM 67 [(4,.bool Z)] [.dead,.dead] []|(.inr o)=>aM 67 [(2,.eptr (al v)),(3,.eptr (al a))] [.dead,.dead] []
def gn:Q (Int⊕(Unit⊕(Unit))):=if Y (i<(v.Preds.length:Int))then (bY v.Preds i).bind λc=>(bY a.Preds i).bind λd=>(OS c d).bind λb=>if(!b)then O (.inr (.inl ())) else O (.inl (cz (i+1))) else O (.inr (.inr ()))
def BU:Q (Unit⊕(Unit)):=loop (λ(b:Int)=>gn v a b) i
def Rv:OL 0 (cA qqO 119) (gn v a i) (λ(n:Int)=>wJ v a n) Hl (Hm v a) (wJ v a i):=qsT.l<|tw (bF v)<|bz (dN.ln v.Preds)<|tF (tb λe c=>tb λh d=>tb λm b=>qc1 [0,1,0,7,15,0,32,0,224,480,1023,2047]<|tw (bF v)<|tv (dN.ia c)<|tv (bA e)<|tw (bF a)<|tv (dN.ia d)<|tv (bA h)<|bQ (OY _ b)<|tF tE<|tE)<|tE
def EW:OK 0 (.loop (cA qqO 119)) (BU v a i) Hl (Hm v a) (wJ v a i):=Bz λ_=>Rv _ _ _
end
def wI(c:mN)(a d:am):Q K:=(BT a d).bind λe=>if e then O Z else (BU a d 0).bind λb=>match b with|(.inl b)=>O Z|(.inr b)=>(tO c a.Args d.Args).bind λh=>O h
def WB(b:mN)(e:wz b){a d:am}:OV 193 [.agg (al a),.agg (al d)] (wI b a d) (λr=>.bool r) []:=qsT.v<|tb λn h=>te (eM a)<|te (eM d)<|ey 1<|bJ (S4 a d _ h)<|tF tE<|t2 (λm c=>bJ (EW a d 0 _ c)<|tE) λm c=>tb λo i=>bJ (EW a d 0 _ c)<|tw (aN a)<|tw (aN d)<|bQ (Jw b e _ i)<|tE
def EV:((am×am)->Q K)->(am×am)->Q K:=λ(rec:(am×am)->Q K) (x:am×am)=>wI (λa b=>rec (a,b)) x.1 x.2
def nK(a b:am):Q K:=rT EV (a,b)
def BV{a c:am}:OV 193 [.agg (al a),.agg (al c)] (nK a c) (λr=>.bool r) []:=HU λ_ h=>d7 (F:=EV) (M:=λ(x:am×am) (r:K)=>CC Pg GE 193 [.agg (al x.1),.agg (al x.2)] (.bool r) []) (λrec b x r h=>WB _ (λa c=>HU λr h=>b (a,c) r h) _ h) h
noncomputable def qqG:W:=f141.body.getD .skip
def qsM:ZF Pg [] 141 f141 qqG:=zf call141 func141 rfl mixed
section
variable(v a:waF)(i:Int)
def wM:Q K:=(bY v i).bind λc=>(bY a i).bind λd=>if(!(c.Name==d.Name))then O T else (bY v i).bind λe=>(bY a i).bind λh=>(nK e.Type_ h.Type_).bind λb=>O (!b)
def Pr:OU 0 (cA qqG 1914) (wM v a i) .normal (λo=>[(41,.bool o)]) (aM 42 [(0,sl bk v),(1,sl bk a),(5,.i6 i)] [] []):=qsM.j<|tb λn b=>tb λp c=>tf (λm=>qc1 [0,0,3,7,15,0,0,96,224,480,1023,2047,4095,4095,16383,32767,65535,4095,4095,397311,921599,1970175,4194303,8388607,16777215]<|tv (kl.ia b)<|tw (eu n)<|tv (kl.ia c)<|tw (eu p)<|tg 12 m<|tE) λm=>tb λq e=>tb λr h=>tb λs d=>qc1 [0,0,3,7,15,0,0,96,224,480,1023,2047,4095,4095,16383,32767,65535,4095,4095,397311,921599,1970175,4194303,8388607,16777215]<|tv (kl.ia b)<|tw (eu n)<|tv (kl.ia c)<|tw (eu p)<|tg 12 m<|tv (kl.ia e)<|tw (eG q)<|tv (kl.ia h)<|tw (eG r)<|bQ (BV _ d)<|tE
end
section
variable(v a:waF)(i:Int)
def sI:aF:=aM 42 [(0,sl bk v),(1,sl bk a),(5,.i6 i)] [] []
def CO(o:Unit⊕(Unit)):Exit:=match o with|(.inl _)=>.ret|(.inr _)=>.exit 0
def CP(o:Unit⊕(Unit)):aF:=match o with|(.inl o)=>aM 42 [(4,.bool Z)] [] []|(.inr o)=>aM 42 [] [] []
def gK:Q (Int⊕(Unit⊕(Unit))):=if Y (i<(v.length:Int))then (wM v a i).bind λb=>if b then O (.inr (.inl ())) else O (.inl (cz (i+1))) else O (.inr (.inr ()))
def wN:Q (Unit⊕(Unit)):=loop (λ(b:Int)=>gK v a b) i
def NI:OL 0 (cA qqG 119) (gK v a i) (λ(c:Int)=>sI v a c) CO CP (sI v a i):=qsM.l<|bz (kl.ln v)<|tF (tb λd b=>ey 1<|bJ (Pr v a i _ b)<|tF tE<|tE)<|tE
def A4:OK 0 (.loop (cA qqG 119)) (wN v a i) CO CP (sI v a i):=Bz λ_=>NI _ _ _
end
def wL(a c:waF):Q K:=if((a.length:Int)!=(c.length:Int))then O Z else (wN a c 0).bind λb=>match b with|(.inl b)=>O Z|(.inr b)=>O T
def Uo{a c:waF}:OV 141 [sl bk a,sl bk c] (wL a c) (λr=>.bool r) []:=qsM.v<|bz (kl.ln a)<|bz (kl.ln c)<|tF tE<|t2 (λd b=>bJ (A4 a c 0 _ b)<|tE) λd b=>bJ (A4 a c 0 _ b)<|tE
noncomputable def qr8:W:=f89.body.getD .skip
def quw:ZF Pg [] 89 f89 qr8:=zf call89 func89 rfl mixed
section
variable(v a:aj)
def Pb:Q K:=if(v.Op !=a.Op)then O T else if(!(v.Name==a.Name))then O T else if(v.N !=a.N)then O T else (wL v.Params a.Params).bind λc=>if(!c)then O T else (tO nK v.Types a.Types).bind λb=>O (!b)
def qaS:OU 0 (cA qr8 12) (Pb v a) .normal (λo=>[(43,.bool o)]) (aM 117 [(2,.eptr (ak v)),(3,.eptr (ak a))] [.dead,.dead] []):=quw.j<|
 have c:=λ{X w x} (r:PV _ X w x)=>tw (ba v)<|tw (ba a)<|r;tf (λm=>c<|tg 6 m<|tE) λm=>have d:=λ{X w x} (r:PV _ X w x)=>c<|tg 6 m<|tw (bX v)<|tw (bX a)<|r;tf (λn=>d<|tg 13 n<|tE) λn=>have e:=λ{X w x} (r:PV _ X w x)=>d<|tg 13 n<|tw (bE v)<|tw (bE a)<|r;tf (λp=>e<|tg 20 p<|tE) λp=>tb λt i=>have h:=λ{X w x} (r:PV _ X w x)=>e<|tg 20 p<|tw (aO v)<|tw (aO a)<|bQ (Uo _ i)<|r;tf (λq=>h<|tg 28 q<|tE) λq=>tb λs b=>h<|tg 28 q<|tw (aw v)<|tw (aw a)<|bQ (Jw nK (λ_ _=>BV) _ b)<|tE
end
section
variable(v a:aj)
def Pc:Q K:=if((v.Kids.length:Int)!=(a.Kids.length:Int))then O T else O ((v.Alts.length:Int)!=(a.Alts.length:Int))
def qaT:OU 0 (cA qr8 28) (Pc v a) .normal (λo=>[(59,.bool o)]) (aM 117 [(2,.eptr (ak v)),(3,.eptr (ak a))] [.dead,.dead] []):=quw.j<|
 have b:=λ{X d e} (r:PV _ X d e)=>tw (au v)<|bz (dO.ln v.Kids)<|tw (au a)<|bz (dO.ln a.Kids)<|r;tf (λc=>b<|tg 8 c<|tE) λc=>b<|tg 8 c<|tw (ay v)<|bz (fT.ln v.Alts)<|tw (ay a)<|bz (fT.ln a.Alts)<|tE
end
section
variable(a:zt)(v b:aj)(i:Int)
def IF:aF:=aM 117 [(2,.eptr (ak v)),(3,.eptr (ak b)),(5,.i6 i)] [.dead,.dead] []
def SA(o:Unit⊕(Unit)):Exit:=match o with|(.inl _)=>.ret|(.inr _)=>.exit 0
def SB(o:Unit⊕(Unit)):aF:=match o with|(.inl o)=>aM 117 [(4,.bool Z)] [.dead,.dead] []|(.inr o)=>aM 117 [(2,.eptr (ak v)),(3,.eptr (ak b))] [.dead,.dead] []
def lK:Q (Int⊕(Unit⊕(Unit))):=if Y (i<(v.Kids.length:Int))then (bY v.Kids i).bind λd=>(bY b.Kids i).bind λe=>(a d e).bind λc=>if(!c)then O (.inr (.inl ())) else O (.inl (cz (i+1))) else O (.inr (.inr ()))
def Pe:Q (Unit⊕(Unit)):=loop (λ(c:Int)=>lK a v b c) i
def Y4(c:zj a):OL 0 (cA qr8 247) (lK a v b i) (λ(p:Int)=>IF v b p) SA (SB v b) (IF v b i):=quw.l<|tw (au v)<|bz (dO.ln v.Kids)<|tF (tb λm e=>tb λn h=>tb λo d=>qc1 [0,1,0,7,15,0,32,0,224,480,1023,2047]<|tw (au v)<|tv (dO.ia e)<|tv (aK m)<|tw (au b)<|tv (dO.ia h)<|tv (aK n)<|bQ (c _ _ _ d)<|tF tE<|tE)<|tE
def Pf(c:zj a):OK 0 (.loop (cA qr8 247)) (Pe a v b i) SA (SB v b) (IF v b i):=Bz λ_=>Y4 _ _ _ _ c
end
section
variable(a:zt)(v E:aj)(i:Int)(m:ae)(m2:waA)(t:Int)(w:ae)(x:Int)(y:waD)(z:waF)(A:IO)(B:oy)(q:ae)(s:waA)(b:Int)(c:ae)(d:Int)(e:waD)(h:waF)(n:IO)(p:oy)
def Pd:Q K:=if(!(m==q))then O T else (tN m2 s).bind λo=>if(!o)then O T else (a (⟨t,w,x,y,z,A,B⟩:aj) (⟨b,c,d,e,h,n,p⟩:aj)).bind λr=>O (!r)
def qaU(R:zj a):OJ 0 (cA qr8 16118) (Pd a m m2 t w x y z A B q s b c d e h n p) .normal (λo=>aM 117 [(2,.eptr (ak v)),(3,.eptr (ak E)),(6,.i6 i),(116,.bool o)] [.dead,.dead,.dead,.dead] []) (aM 117 [(2,.eptr (ak v)),(3,.eptr (ak E)),(6,.i6 i),(7,.bptr 2 0),(8,.bptr 3 0)] [.dead,.dead,.cells [.str m,sl cS m2,.i6 t,.str w,.i6 x,sl ak y,sl bk z,sl bL A,sl al B] [],.cells [.str q,sl cS s,.i6 b,.str c,.i6 d,sl ak e,sl bk h,sl bL n,sl al p] []] []):=quw.j<|
 have F:=λ{X a3 a4} (r:PV _ X a3 a4)=>ts<|ts<|r;tf (λL=>F<|tg 6 L<|tE) λL=>tb λa1 S=>have H:=λ{X a3 a4} (r:PV _ X a3 a4)=>F<|tg 6 L<|ts<|ts<|bQ (Jv _ S)<|r;tf (λP=>H<|tg 14 P<|tE) λP=>tb λa2 a0=>H<|tg 14 P<|tv (ga (⟨t,w,x,y,z,A,B⟩:aj) [])<|tv (ga (⟨b,c,d,e,h,n,p⟩:aj) [])<|bQ (R _ _ _ a0)<|tE
end
section
variable(a:zt)(v b:aj)(i:Int)
def Ah:aF:=aM 117 [(2,.eptr (ak v)),(3,.eptr (ak b)),(6,.i6 i)] [.dead,.dead] []
def SC(o:Unit⊕(Unit)):Exit:=match o with|(.inl _)=>.ret|(.inr _)=>.exit 2
def IG(o:Unit⊕(Unit)):aF:=match o with|(.inl o)=>aM 117 [(4,.bool Z)] [.dead,.dead] []|(.inr o)=>aM 117 [] [.dead,.dead] []
instance qFI:KS 0 (Ah v b i):=ks 2 rfl
instance qFF{o:Unit⊕(Unit)}:KS 0 (IG o):=match o with|(.inl o)=>ks 2 rfl|(.inr o)=>ks 2 rfl
def lL:Q (Int⊕(Unit⊕(Unit))):=if Y (i<(v.Alts.length:Int))then (bY v.Alts i).bind λc=>(bY b.Alts i).bind λd=>(Pd a c.Con c.Names c.Body.Op c.Body.Name c.Body.N c.Body.Kids c.Body.Params c.Body.Alts c.Body.Types d.Con d.Names d.Body.Op d.Body.Name d.Body.N d.Body.Kids d.Body.Params d.Body.Alts d.Body.Types).bind λe=>if e then O (.inr (.inl ())) else O (.inl (cz (i+1))) else O (.inr (.inr ()))
def Ph:Q (Unit⊕(Unit)):=loop (λ(c:Int)=>lL a v b c) i
def Y5(e:zj a):OL 0 (cA qr8 503) (lL a v b i) (λ(p:Int)=>Ah v b p) SC IG (Ah v b i):=quw.lx<|tw (ay v)<|bz (fT.ln v.Alts)<|tF (tb λc m=>tb λd n=>tb λo h=>MO (.dx [0,1,0,7,15,0,32,0,224,480,0,0,3103,8191] [] [] [741,765])<|tw (ay v)<|tv (fT.ia m)<|tv (rV c)<|tw (ay b)<|tv (fT.ia n)<|tv (rV d)<|tx (oH c)<|tx (oH d)<|ey 0<|bJ (qaU a v b i c.Con c.Names c.Body.Op c.Body.Name c.Body.N c.Body.Kids c.Body.Params c.Body.Alts c.Body.Types d.Con d.Names d.Body.Op d.Body.Name d.Body.N d.Body.Kids d.Body.Params d.Body.Alts d.Body.Types e _ h)<|tF tE<|tE)<|tE
def Pj(c:zj a):OK 0 (.loop (cA qr8 503)) (Ph a v b i) SC IG (Ah v b i):=Bz λ_=>Y5 _ _ _ _ c
end
def Ld(b:zt)(a e:aj):Q K:=(Pb a e).bind λh=>if h then O Z else (Pc a e).bind λi=>if i then O Z else (Pe b a e 0).bind λc=>match c with|(.inl c)=>O Z| (.inr c) =>(Ph b a e 0).bind λd=>match d with|(.inl d)=>O Z|(.inr d)=>O T
def qfs(b:zt)(c:zj b){a h:aj}:OV 89 [.agg (ak a),.agg (ak h)] (Ld b a h) (λr=>.bool r) []:=quw.v<|tb λp i=>te (cd a)<|te (cd h)<|ey 1<|bJ (qaS a h _ i)<|tF tE<|tb λq m=>ey 1<|bJ (qaT a h _ m)<|tF tE<|t2 (λn d=>bJ (Pf b a h 0 c _ d)<|tE) λn d=>bJ (Pf b a h 0 c _ d)<|t2 (λo e=>bJ (Pj b a h 0 c _ e)<|tE) λo e=>bJ (Pj b a h 0 c _ e)<|tE
def S5:((aj×aj)->Q K)->(aj×aj)->Q K:=λ(rec:(aj×aj)->Q K) (x:aj×aj)=>Ld (λa b=>rec (a,b)) x.1 x.2
def qaR(a b:aj):Q K:=rT S5 (a,b)
def qhr{a c:aj}:OV 89 [.agg (ak a),.agg (ak c)] (qaR a c) (λr=>.bool r) []:=HU λ_ h=>d7 (F:=S5) (M:=λ(x:aj×aj) (r:K)=>CC Pg GE 89 [.agg (ak x.1),.agg (ak x.2)] (.bool r) []) (λrec b x r h=>qfs _ (λa c=>HU λr h=>b (a,c) r h) _ h) h
noncomputable def qAU:W:=f88.body.getD .skip
def qAz:ZF Pg [13] 88 f88 qAU:=zf call88 func88 rfl mixed
section
variable(c:waA)(b a:Int)(m:ae)(m2:K)
def yQ:aF:=aM 26 [(0,.bptr 0 0),(9,sl cS c),(10,.i6 b),(11,.i6 a)] [.cells [.str m,.bool m2] []] []
def NS(o:ae×K):aF:=aM 26 [(0,.bptr 0 0)] [.cells [.str o.1,.bool o.2] []] []
def yR:Q ((Int×ae×K)⊕(ae×K)):=if Y (a<b)then (bY c a).bind λh=>(cC a m m2).bind λe=>(aH h Z e m2).bind λd=>O (.inl (cz (a+1),d.1,d.2)) else O (.inr (m,m2))
def sO:Q (ae×K):=loop (λ(d:Int×ae×K)=>yR c b d.1 d.2.1 d.2.2) (a,m,m2)
def JD:OL 1 (cA qAU 55) (yR c b a m m2) (λ(i:Int×ae×K)=>yQ c b i.1 i.2.1 i.2.2) (λ_=>.exit 0) NS (yQ c b a m m2):=qAz.l<|tF (tb λn h=>tb λo d=>tb λp e=>tv (dX.ia h)<|tv (dz ZC (.str n) [])<|tc [0] (cx _ d)<|tc [0] (aT _ e)<|tE)<|tE
def Lv:=nu (s:=(a,m,m2)) λd=>JD c b d.1 d.2.1 d.2.2
end
def fY(a:waA)(d:ae)(b:K):Q (ae×K):=(ac ([dl]:V ae) d b).bind λe=>(sO a (a.length:Int) 0 e b).bind λc=>(ac ([dM]:V ae) c.1 c.2).bind λh=>O (h,c.2)
def sP{a:waA}{h:ae}{b:K}:OG 88 [.bptr 0 0,sl cS a] [] [.cells [.str h,.bool b] []] (fY a h b) (λr=>.tuple []) [] (λr=>[.cells [.str r.1,.bool r.2] []]):=qAz.g 1<|tb λi d=>tb λm c=>tb λn e=>tv (aP [dl] 1 rfl)<|tc [0] (ai _ d)<|bz (dX.ln a)<|bJ (Lv a (a.length:Int) 0 i b _ c)<|tv (aP [dM] 1 rfl)<|tc [0] (ai _ e)<|tE
noncomputable def qy6:W:=f194.body.getD .skip
def qxW:ZF Pg [] 194 f194 qy6:=zf call194 func194 rfl mixed
def Hx(p:ah):Q K:=if (p.Op == 9) = T then if((p.Kids.length:Int)==1)then (bY p.Kids 0).bind λa=>if(a.Op==1)then (bY p.Kids 0).bind λb=>O (Y (b.N>=0)) else O Z else O Z else O Z
def qa6{p:ah}:OV 194 [.agg (ag p)] (Hx p) (λr=>.bool r) []:=qxW.v<|
 te (dU p)<|have a:=λ{X q s} (r:PV _ X q s)=>tw (aE p)<|r;tf (λh=>have b:=λ{X q s} (r:PV _ X q s)=>a<|tg 4 h<|tw (aA p)<|bz (dN.ln p.Kids)<|r;tf (λi=>tb λn d=>have c:=λ{X q s} (r:PV _ X q s)=>b<|tg 10 i<|tw (aA p)<|tv (dN.ia d)<|tw (aE n)<|r;tf (λm=>tb λo e=>c<|tg 18 m<|tw (aA p)<|tv (dN.ia e)<|tw (bj o)<|tE) λm=>c<|tg 18 m<|tE) λi=>b<|tg 10 i<|tE) λh=>a<|tg 4 h<|tE
noncomputable def qvx:W:=f144.body.getD .skip
def quY:ZF Pg [27] 144 f144 qvx:=zf call144 func144 rfl mixed
section
variable(v:fi)(b:waG)(c a:Int)(m:ae)(m2:K)
def ph:aF:=aM 75 [(0,.bptr 0 0),(3,.eptr (bU v)),(23,sl cp b),(24,.i6 c),(25,.i6 a)] [.cells [.str m,.bool m2] [],.dead] []
def yJ(o:ae×K):aF:=aM 75 [(0,.bptr 0 0),(3,.eptr (bU v))] [.cells [.str o.1,.bool o.2] [],.dead] []
instance qDI:KS 1 (ph v b c a m m2):=ks 2 rfl
instance qDA{o:ae×Bool}:KS 1 (yJ v o):=ks 2 rfl
def yI:Q ((Int×ae×K)⊕(ae×K)):=if Y (a<c)then (bY b a).bind λh=>(cC a m m2).bind λi=>(aH h.Name Z i m2).bind λe=>(ac ([bm]:V ae) e.1 e.2).bind λn=>(gT h.Sort_ n e.2).bind λd=>O (.inl (cz (a+1),d.1,d.2)) else O (.inr (m,m2))
def Ry:Q (ae×K):=loop (λ(d:Int×ae×K)=>yI b c d.1 d.2.1 d.2.2) (a,m,m2)
def Jz:OL 1 (cA qvx 1015) (yI b c a m m2) (λ(o:Int×ae×K)=>ph v b c o.1 o.2.1 o.2.2) (λ_=>.exit 0) (yJ v) (ph v b c a m m2):=quY.lx<|tF (tb λp n=>tb λr e=>tb λs h=>tb λt i=>tb λq d=>tv (R7.ia n)<|tv (qgl p)<|tx qpi<|tx (qce p)<|tc [0] (cx _ e)<|ts<|tc [0] (aT _ h)<|tv (aP [bm] 1 rfl)<|tc [0] (ai _ i)<|ts<|tc [0] (j5 _ d)<|tE)<|tE
def Lj:=nu (s:=(a,m,m2)) λd=>Jz v b c d.1 d.2.1 d.2.2
end
def zq(a:fi)(s:ae)(h:K):Q (ae×K):=(bv (Y ((a.Vars.length:Int)>0)) s h).bind λt=>(ac ([MR]:V ae) s t).bind λw=>(aH a.Name Z w t).bind λr=>(ac ([fw]:V ae) r.1 r.2).bind λx=>(Ry a.Vars (a.Vars.length:Int) 0 x r.2).bind λc=>(ac ([Wg]:V ae) c.1 c.2).bind λi=>(fX a.Hyp i c.2).bind λb=>(Hx a.Goal).bind λm=>if m then (ac ([dK]:V ae) b.1 b.2).bind λn=>(fX a.Goal n b.2).bind λd=>(ac ([oW]:V ae) d.1 d.2).bind λo=>O (o,d.2) else (ac ([lH]:V ae) b.1 b.2).bind λp=>(fX a.Goal p b.2).bind λe=>(ac ([BO]:V ae) e.1 e.2).bind λq=>O (q,e.2)
def Rz{a:fi}{y:ae}{q:K}:OG 144 [.bptr 0 0,.agg (bU a)] [] [.cells [.str y,.bool q] []] (zq a y q) (λr=>.tuple []) [] (λr=>[.cells [.str r.1,.bool r.2] []]):=quY.g 1<|tb λr1 s=>tb λr2 t=>tb λX w=>tb λr4 x=>tb λz b=>tb λA c=>tb λB d=>tb λE e=>te (qmE a)<|tw (Bu a)<|bz (R7.ln a.Vars)<|tc [0] (aY _ s)<|tv (aP [MR] 1 rfl)<|tc [0] (ai _ t)<|tw (RN a)<|tc [0] (aT _ w)<|tv (aP [fw] 1 rfl)<|tc [0] (ai _ x)<|tw (Bu a)<|bz (R7.ln a.Vars)<|bJ (Lj a a.Vars (a.Vars.length:Int) 0 r4 X.2 _ b)<|tv (aP [Wg] 1 rfl)<|tc [0] (ai _ c)<|tw (Qa a)<|tc [0] (mj _ d)<|tw (qH a)<|bQ (qa6 _ e)<|tF (tb λF h=>tb λH i=>tb λL m=>tv (aP [dK] 1 rfl)<|tc [0] (ai _ h)<|tw (qH a)<|tc [0] (mj _ i)<|tv (aP [oW] 1 rfl)<|tc [0] (ai _ m)<|tE)<|tb λP n=>tb λR o=>tb λS p=>tv (aP [lH] 1 rfl)<|tc [0] (ai _ n)<|tw (qH a)<|tc [0] (mj _ o)<|tv (aP [BO] 1 rfl)<|tc [0] (ai _ p)<|tE
noncomputable def qqa:W:=f90.body.getD .skip
def qp8:ZF Pg [62,103] 90 f90 qqa:=zf call90 func90 rfl mixed
section
variable(s:iQ)(b:waA)(c a:Int)(m:ae)(m2:K)
def C2:aF:=aM 135 [(0,.bptr 0 0),(3,.eptr (cu s)),(20,sl cS b),(21,.i6 c),(22,.i6 a)] [.cells [.str m,.bool m2] [],.dead] []
def RE(o:ae×K):aF:=aM 135 [(0,.bptr 0 0),(3,.eptr (cu s))] [.cells [.str o.1,.bool o.2] [],.dead] []
def C3:Q ((Int×ae×K)⊕(ae×K)):=if Y (a<c)then (bY b a).bind λh=>(ac ([bZ]:V ae) m m2).bind λe=>(aH h Z e m2).bind λd=>O (.inl (cz (a+1),d.1,d.2)) else O (.inr (m,m2))
def Hw:Q (ae×K):=loop (λ(d:Int×ae×K)=>C3 b c d.1 d.2.1 d.2.2) (a,m,m2)
def NW:OL 1 (cA qqa 855) (C3 b c a m m2) (λ(i:Int×ae×K)=>C2 s b c i.1 i.2.1 i.2.2) (λ_=>.exit 0) (RE s) (C2 s b c a m m2):=qp8.l<|tF (tb λn h=>tb λo d=>tb λp e=>tv (dX.ia h)<|tv (dz ZC (.str n) [])<|tv (aP [bZ] 1 rfl)<|tc [0] (ai _ d)<|tc [0] (aT _ e)<|tE)<|tE
def PN:=nu (s:=(a,m,m2)) λd=>NW s b c d.1 d.2.1 d.2.2
end
section
variable(s:iQ)(m:ae)(m2:K)
def pO:Q (ae×K):=if Y ((s.Vars.length:Int)>0)then (ac ([Wl]:V ae) m m2).bind λb=>(Hw s.Vars (s.Vars.length:Int) 0 b m2).bind λa=>(ac ([oW]:V ae) a.1 a.2).bind λc=>O (c,a.2) else O (m,m2)
def PI:OJ 1 (cA qqa 6) (pO s m m2) .normal (λo=>aM 135 [(0,.bptr 0 0),(3,.eptr (cu s))] [.cells [.str o.1,.bool o.2] [],.dead] []) (aM 135 [(0,.bptr 0 0),(3,.eptr (cu s))] [.cells [.str m,.bool m2] [],.dead] []):=qp8.j<|tw (pZ s)<|bz (dX.ln s.Vars)<|tF (tb λd b=>tb λe a=>tb λh c=>tv (aP [Wl] 1 rfl)<|tc [0] (ai _ b)<|tw (pZ s)<|bz (dX.ln s.Vars)<|bJ (PN s s.Vars (s.Vars.length:Int) 0 d m2 _ a)<|tv (aP [oW] 1 rfl)<|tc [0] (ai _ c)<|tE)<|tE
end
section
variable(s:iQ)(m:ae)(m2:K)
def pP:Q (ae×K):=if Y ((s.Needs.length:Int)>0)then (ac ([MS]:V ae) m m2).bind λb=>(mK s.Needs b m2).bind λa=>(ac ([oW]:V ae) a.1 a.2).bind λc=>O (c,a.2) else O (m,m2)
def PJ:OJ 1 (cA qqa 14) (pP s m m2) .normal (λo=>aM 135 [(0,.bptr 0 0),(3,.eptr (cu s))] [.cells [.str o.1,.bool o.2] [],.dead] []) (aM 135 [(0,.bptr 0 0),(3,.eptr (cu s))] [.cells [.str m,.bool m2] [],.dead] []):=qp8.j<|tw (p5 s)<|bz (qgX.ln s.Needs)<|tF (tb λd a=>tb λe b=>tb λh c=>tv (aP [MS] 1 rfl)<|tc [0] (ai _ a)<|tw (p5 s)<|tc [0] (CZ _ b)<|tv (aP [oW] 1 rfl)<|tc [0] (ai _ c)<|tE)<|tE
end
section
variable(s:iQ)(b:V G1)(c a:Int)(m:ae)(m2:K)
def sQ:aF:=aM 135 [(0,.bptr 0 0),(3,.eptr (cu s)),(58,sl fP b),(59,.i6 c),(60,.i6 a)] [.cells [.str m,.bool m2] [],.dead] []
def C5(o:ae×K):aF:=aM 135 [(0,.bptr 0 0),(3,.eptr (cu s))] [.cells [.str o.1,.bool o.2] [],.dead] []
instance qEr:KS 1 (sQ s b c a m m2):=ks 2 rfl
instance qEh{o:ae×Bool}:KS 1 (C5 s o):=ks 2 rfl
def C4:Q ((Int×ae×K)⊕(ae×K)):=if Y (a<c)then (bY b a).bind λh=>(cC a m m2).bind λi=>(aH h.Name Z i m2).bind λd=>(ac ([bm]:V ae) d.1 d.2).bind λn=>(gT h.Sort_ n d.2).bind λe=>O (.inl (cz (a+1),e.1,e.2)) else O (.inr (m,m2))
def wZ:Q (ae×K):=loop (λ(d:Int×ae×K)=>C4 b c d.1 d.2.1 d.2.2) (a,m,m2)
def NX:OL 1 (cA qqa 3927) (C4 b c a m m2) (λ(p:Int×ae×K)=>sQ s b c p.1 p.2.1 p.2.2) (λ_=>.exit 2) (C5 s) (sQ s b c a m m2):=qp8.lx<|tF (tb λo n=>tb λq d=>tb λr e=>tb λt h=>tb λw i=>tv (qj4.ia n)<|tv (qrq o)<|tx qws<|tx (qoY o)<|tc [0] (cx _ d)<|ts<|tc [0] (aT _ e)<|tv (aP [bm] 1 rfl)<|tc [0] (ai _ h)<|ts<|tc [0] (j5 _ i)<|tE)<|tE
def PO:=nu (s:=(a,m,m2)) λd=>NX s b c d.1 d.2.1 d.2.2
end
section
variable(s:iQ)(m:ae)(m2:K)
def pQ:Q (ae×K):=if Y ((s.Abs.length:Int)>0)then (ac ([KW]:V ae) m m2).bind λb=>(wZ s.Abs (s.Abs.length:Int) 0 b m2).bind λa=>(ac ([Is]:V ae) a.1 a.2).bind λc=>O (c,a.2) else O (m,m2)
def PK:OJ 1 (cA qqa 30) (pQ s m m2) .normal (λo=>aM 135 [(0,.bptr 0 0),(3,.eptr (cu s))] [.cells [.str o.1,.bool o.2] [],.dead] []) (aM 135 [(0,.bptr 0 0),(3,.eptr (cu s))] [.cells [.str m,.bool m2] [],.dead] []):=qp8.j<|tw (jb s)<|bz (qj4.ln s.Abs)<|tF (tb λd b=>tb λe a=>tb λh c=>tv (aP [KW] 1 rfl)<|tc [0] (ai _ b)<|tw (jb s)<|bz (qj4.ln s.Abs)<|bJ (PO s s.Abs (s.Abs.length:Int) 0 d m2 _ a)<|tv (aP [Is] 1 rfl)<|tc [0] (ai _ c)<|tE)<|tE
end
section
variable(s:iQ)(b:V fi)(c a:Int)(m:ae)(m2:K)
def sR:aF:=aM 135 [(0,.bptr 0 0),(3,.eptr (cu s)),(84,sl bU b),(85,.i6 c),(86,.i6 a)] [.cells [.str m,.bool m2] [],.dead] []
def C7(o:ae×K):aF:=aM 135 [(0,.bptr 0 0),(3,.eptr (cu s))] [.cells [.str o.1,.bool o.2] [],.dead] []
instance qEs:KS 1 (sR s b c a m m2):=ks 2 rfl
instance qEi{o:ae×Bool}:KS 1 (C7 s o):=ks 2 rfl
def C6:Q ((Int×ae×K)⊕(ae×K)):=if Y (a<c)then (bY b a).bind λe=>(zq e m m2).bind λd=>O (.inl (cz (a+1),d.1,d.2)) else O (.inr (m,m2))
def w9:Q (ae×K):=loop (λ(d:Int×ae×K)=>C6 b c d.1 d.2.1 d.2.2) (a,m,m2)
def NY:OL 1 (cA qqa 503) (C6 b c a m m2) (λ(i:Int×ae×K)=>sR s b c i.1 i.2.1 i.2.2) (λ_=>.exit 4) (C7 s) (sR s b c a m m2):=qp8.lx<|tF (tb λd h=>tb λn e=>tv (qpP.ia h)<|tv (qes d)<|tx qsu<|tx (qcc d)<|tv (qjD d [])<|tc [0] (Rz _ e)<|tE)<|tE
def PP:=nu (s:=(a,m,m2)) λd=>NY s b c d.1 d.2.1 d.2.2
end
section
variable(i:Int)(b:pi)(a:Int)(m:ae)(m2:K)(c:Int)(d:ae)(e:Int)(h:pi)
def pR:Q ae:=if(i==0)then (ac ([nk]:V ae) m m2).bind λn=>O n else O m
def PL:OJ 1 (cA qqa 65526) (pR i m m2) .normal (λo=>aM 135 [(0,.bptr 0 0),(10,.i6 i),(11,.bptr 2 0),(99,sl ag b),(100,.i6 a),(101,.i6 i)] [.cells [.str o,.bool m2] [],.dead,.cells [.i6 c,.str d,.i6 e,sl ag h] []] []) (aM 135 [(0,.bptr 0 0),(10,.i6 i),(11,.bptr 2 0),(99,sl ag b),(100,.i6 a),(101,.i6 i)] [.cells [.str m,.bool m2] [],.dead,.cells [.i6 c,.str d,.i6 e,sl ag h] []] []):=qp8.j<|tF (tb λp n=>tv (aP [nk] 1 rfl)<|tc [0] (ai _ n)<|tE)<|tE
end
section
variable(d:pi)(a b:Int)(m:ae)(m2:K)(c:Int)(e:ae)(h:Int)(i:pi)
def iU:Q K:=if Y (c>=10)then O (Y (c<=18)) else O Z
def PM:OU 1 (cA qqa 262110) (iU c) .normal (λo=>[(121,.bool o)]) (aM 135 [(0,.bptr 0 0),(11,.bptr 2 0),(99,sl ag d),(100,.i6 a),(101,.i6 b)] [.cells [.str m,.bool m2] [],.dead,.cells [.i6 c,.str e,.i6 h,sl ag i] []] []):=qp8.j<|tf (λn=>ts<|tg 4 n<|ts<|tE) λn=>ts<|tg 4 n<|tE
end
section
variable(c:pi)(b a:Int)(m:ae)(m2:K)
def sS:aF:=aM 135 [(0,.bptr 0 0),(99,sl ag c),(100,.i6 b),(101,.i6 a)] [.cells [.str m,.bool m2] [],.dead] []
def C8(o:ae×K):aF:=aM 135 [] [.cells [.str o.1,.bool o.2] [],.dead] []
instance qEt:KS 1 (sS c b a m m2):=ks 2 rfl
instance qEj{o:ae×Bool}:KS 1 (C8 o):=ks 2 rfl
def gL:Q ((Int×ae×K)⊕(ae×K)):=if Y (a<b)then (bY c a).bind λe=>(pR a m m2).bind λn=>(cC a n m2).bind λh=>(iU e.Op).bind λo=>if o then (ac ([dl]:V ae) h m2).bind λp=>(cj e p m2).bind λd=>(ac ([dM]:V ae) d.1 d.2).bind λq=>O (.inl (cz (a+1),q,d.2)) else (cj e h m2).bind λi=>O (.inl (cz (a+1),i.1,i.2)) else O (.inr (m,m2))
def xa:Q (ae×K):=loop (λ(d:Int×ae×K)=>gL c b d.1 d.2.1 d.2.2) (a,m,m2)
def NZ:OL 1 (cA qqa 1023) (gL c b a m m2) (λ(t:Int×ae×K)=>sS c b t.1 t.2.1 t.2.2) (λ_=>.exit 6) C8 (sS c b a m m2):=qp8.lx<|tF (tb λd r=>tb λw e=>tb λs i=>tb λx h=>tv (dN.ia r)<|tv (bA d)<|tx TP<|tx (gP d)<|ey 0<|bJ (PL a c b m m2 d.Op d.Name d.N d.Kids _ e)<|tc [0] (cx _ i)<|ey 0<|bJ (PM c b a s m2 d.Op d.Name d.N d.Kids _ h)<|tF (tb λy n=>tb λz o=>tb λA p=>tv (aP [dl] 1 rfl)<|tc [0] (ai _ n)<|tv (eJ d [])<|tc [0] (fO _ o)<|tv (aP [dM] 1 rfl)<|tc [0] (ai _ p)<|tE)<|tb λB q=>tv (eJ d [])<|tc [0] (fO _ q)<|tE)<|tE
def PQ:=nu (s:=(a,m,m2)) λd=>NZ c b d.1 d.2.1 d.2.2
end
def wY(s:iQ)(m:ae)(h:K):Q (ae×K):=(pO s m h).bind λi=>(pP s i.1 i.2).bind λa=>(pQ s a.1 a.2).bind λb=>(w9 s.Bounds (s.Bounds.length:Int) 0 b.1 b.2).bind λc=>(dH s.Type_ c.1 c.2).bind λe=>(xa s.Metric (s.Metric.length:Int) 0 e.2 e.1).bind λd=>O (d.1,d.2)
def UA{s:iQ}{p:ae}{a:K}:OG 90 [.bptr 0 0,.agg (cu s)] [] [.cells [.str p,.bool a] []] (wY s p a) (λr=>.tuple []) [] (λr=>[.cells [.str r.1,.bool r.2] []]):=qp8.g 1<|tb λq o=>tb λi b=>tb λm c=>tb λt d=>tb λn h=>tb λw e=>te (qk7 s)<|ey 0<|bJ (PI s p a _ o)<|ey 0<|bJ (PJ s q.1 q.2 _ b)<|ey 0<|bJ (PK s i.1 i.2 _ c)<|tw (HK s)<|bz (qpP.ln s.Bounds)<|bJ (PP s s.Bounds (s.Bounds.length:Int) 0 m.1 m.2 _ d)<|tw (HL s)<|tc [0] (fA _ h)<|tw (n6 s)<|bz (dN.ln s.Metric)<|bJ (PQ s.Metric (s.Metric.length:Int) 0 n.2 n.1 _ e)<|tE
abbrev HB:=(aj->Q Int)
abbrev Oq(R:HB):Prop:=∀(e:aj),OV 115 [.agg (ak e)] (R e) (λr=>.i6 r) []
noncomputable def qvu:W:=f115.body.getD .skip
def quO:ZF Pg [] 115 f115 qvu:=zf call115 func115 rfl mixed
section
variable(a:HB)(v:waD)(n i:Int)
def O6:aF:=aM 23 [(3,.i6 n),(4,sl ak v),(5,.i6 i)] [.dead] [((4,0),36)]
def qaP(o:Int):aF:=aM 23 [(3,.i6 o)] [.dead] []
def j0:Q ((Int×Int)⊕(Int)):=if Y (i<(v.length:Int))then (bY v i).bind λc=>(a c).bind λb=>O (.inl ((if b>n then b else n),cz (i+1))) else O (.inr n)
def Lb:Q Int:=loop (λ(b:Int×Int)=>j0 a v b.1 b.2) (n,i)
def Wz(b:Oq a):OL 0 (cA qvu 247) (j0 a v n i) (λ(e:Int×Int)=>O6 v e.1 e.2) (λ_=>.exit 0) qaP (O6 v n i):=quO.l<|bz (dO.ln v)<|tF (tb λh d=>tb λm c=>tv (dO.ia d)<|tv (aK h)<|bQ (b _ _ c)<|tE)<|tE
def Y2(b:Oq a):=nu (s:=(n,i)) λc=>Wz a v c.1 c.2 b
end
def Hj(a:HB)(e:aj):Q Int:=(zp e).bind λc=>(Lb a c 0 0).bind λb=>O (cz (b+1))
def qde(a:HB)(b:Oq a){e:aj}:OV 115 [.agg (ak e)] (Hj a e) (λr=>.i6 r) []:=quO.v<|tb λh d=>tb λi c=>te (cd e)<|tv (aK e)<|bQ (IH _ d)<|bJ (Y2 a h 0 0 b _ c)<|tE
def O5:(aj->Q Int)->(aj)->Q Int:=λ(rec:aj->Q Int) (x:aj)=>Hj (λe=>rec e) x
def Wy(e:aj):Q Int:=rT O5 e
def qfr{e:aj}:OV 115 [.agg (ak e)] (Wy e) (λr=>.i6 r) []:=HU λ_ h=>d7 (F:=O5) (M:=λ(x:aj) (r:Int)=>CC Pg GE 115 [.agg (ak x)] (.i6 r) []) (λrec a x r h=>qde _ (λe=>HU λr h=>a e r h) _ h) h
abbrev LE:=(aj->Q Int)
abbrev S0(R:LE):Prop:=∀(e:aj),OV 116 [.agg (ak e)] (R e) (λr=>.i6 r) []
noncomputable def qqP:W:=f215.body.getD .skip
def qqt:ZF Pg [] 215 f215 qqP:=zf call215 func215 rfl mixed
section
variable(a:Int)
def Hr:Q K:=if(a==1)then O (a==1) else O (a==2)
def qa3:OU 0 (cA qqP 54) (Hr a) .normal (λo=>[(4,.bool o)]) (aM 55 [(2,.bptr 0 0),(3,.i6 a)] [.cells [.bool Z,.bool Z,.i6 0,.i6 0,.bool Z,.bool Z,.bool Z,.bool Z,.bool Z] []] []):=qqt.j<|tF tE<|tE
end
section
variable(a:Int)
def Hs:Q K:=if(a==10)then O (a==10) else if(a==11)then O (a==11) else if(a==12)then O (a==12) else if(a==13)then O (a==13) else if(a==14)then O (a==14) else if(a==16)then O (a==16) else if(a==17)then O (a==17) else if(a==18)then O (a==18) else if(a==19)then O (a==19) else if(a==20)then O (a==20) else O (a==24)
def qa4:OU 0 (cA qqP 3670014) (Hs a) .normal (λo=>[(29,.bool o)]) (aM 55 [(2,.bptr 0 0),(3,.i6 a)] [.cells [.bool Z,.bool Z,.i6 0,.i6 0,.bool Z,.bool Z,.bool Z,.bool Z,.bool Z] []] []):=qqt.j<|tF tE<|tF tE<|tF tE<|tF tE<|tF tE<|tF tE<|tF tE<|tF tE<|tF tE<|tF tE<|tE
end
section
variable(a:Int)
def Ht:Q K:=if(a==15)then O (a==15) else if(a==21)then O (a==21) else if(a==22)then O (a==22) else O (a==23)
def qa5:OU 0 (cA qqP 14680062) (Ht a) .normal (λo=>[(42,.bool o)]) (aM 55 [(2,.bptr 0 0),(3,.i6 a)] [.cells [.bool Z,.bool Z,.i6 0,.i6 0,.bool Z,.bool Z,.bool Z,.bool Z,.bool Z] []] []):=qqt.j<|tF tE<|tF tE<|tF tE<|tE
end
def E7(a:Int):Q aq:=(Hr a).bind λd=>if d then O (⟨T,Z,0,0,Z,Z,Z,Z,T⟩:aq) else if(a==3)then O (⟨Z,T,0,0,Z,Z,Z,Z,T⟩:aq) else if(a==4)then O (⟨Z,T,0,6,Z,Z,T,Z,T⟩:aq) else if(a==5)then O (⟨Z,T,1,6,Z,Z,T,Z,T⟩:aq) else if(a==6)then O (⟨Z,Z,1,1,T,Z,Z,Z,T⟩:aq) else if(a==7)then O (⟨Z,T,2,2,Z,Z,T,Z,T⟩:aq) else if(a==8)then O (⟨Z,Z,3,3,Z,Z,Z,Z,T⟩:aq) else if(a==9)then O (⟨Z,Z,1,1,Z,T,Z,Z,T⟩:aq) else (Hs a).bind λb=>if b then O (⟨Z,Z,2,2,Z,Z,Z,Z,T⟩:aq) else (Ht a).bind λc=>if c then O (⟨Z,Z,1,1,Z,Z,Z,Z,T⟩:aq) else if(a==25)then O (⟨Z,T,2,7,Z,Z,Z,Z,T⟩:aq) else if(a==26)then O (⟨Z,Z,1,1,Z,Z,T,T,T⟩:aq) else O (⟨Z,Z,0,0,Z,Z,Z,Z,Z⟩:aq)
def qhu{c:Int}:OV 215 [.i6 c] (E7 c) (λr=>.agg (az r)) []:=qqt.v<|tb λi d=>tx qsw<|ey 2<|bJ (qa3 c _ d)<|tF (tv (DI T T)<|tx (bN (⟨T,Z,0,0,Z,Z,Z,Z,T⟩:aq))<|Jo λq=>aI (bR (⟨T,Z,0,0,Z,Z,Z,Z,T⟩:aq)) q.2)<|tF (tv (DJ T T)<|tx (bN (⟨Z,T,0,0,Z,Z,Z,Z,T⟩:aq))<|Jo λq=>aI (bR (⟨Z,T,0,0,Z,Z,Z,Z,T⟩:aq)) q.2)<|tF (tv (yD T T 6 T)<|tx (bN (⟨Z,T,0,6,Z,Z,T,Z,T⟩:aq))<|Jo λq=>aI (bR (⟨Z,T,0,6,Z,Z,T,Z,T⟩:aq)) q.2)<|tF (tv (kO T T 1 6 T)<|tx (bN (⟨Z,T,1,6,Z,Z,T,Z,T⟩:aq))<|Jo λq=>aI (bR (⟨Z,T,1,6,Z,Z,T,Z,T⟩:aq)) q.2)<|tF (tv (yE T T 1 1)<|tx (bN (⟨Z,Z,1,1,T,Z,Z,Z,T⟩:aq))<|Jo λq=>aI (bR (⟨Z,Z,1,1,T,Z,Z,Z,T⟩:aq)) q.2)<|tF (tv (kO T T 2 2 T)<|tx (bN (⟨Z,T,2,2,Z,Z,T,Z,T⟩:aq))<|Jo λq=>aI (bR (⟨Z,T,2,2,Z,Z,T,Z,T⟩:aq)) q.2)<|tF (tv (iG T 3 3)<|tx (bN (⟨Z,Z,3,3,Z,Z,Z,Z,T⟩:aq))<|Jo λq=>aI (bR (⟨Z,Z,3,3,Z,Z,Z,Z,T⟩:aq)) q.2)<|tF (tv (yF T T 1 1)<|tx (bN (⟨Z,Z,1,1,Z,T,Z,Z,T⟩:aq))<|Jo λq=>aI (bR (⟨Z,Z,1,1,Z,T,Z,Z,T⟩:aq)) q.2)<|tb λe a=>ey 0<|bJ (qa4 c _ a)<|tF (tv (iG T 2 2)<|tx (bN (⟨Z,Z,2,2,Z,Z,Z,Z,T⟩:aq))<|Jo λq=>aI (bR (⟨Z,Z,2,2,Z,Z,Z,Z,T⟩:aq)) q.2)<|tb λh b=>ey 0<|bJ (qa5 c _ b)<|tF (tv (iG T 1 1)<|tx (bN (⟨Z,Z,1,1,Z,Z,Z,Z,T⟩:aq))<|Jo λq=>aI (bR (⟨Z,Z,1,1,Z,Z,Z,Z,T⟩:aq)) q.2)<|tF (tv (yC T T 2 7)<|tx (bN (⟨Z,T,2,7,Z,Z,Z,Z,T⟩:aq))<|Jo λq=>aI (bR (⟨Z,T,2,7,Z,Z,Z,Z,T⟩:aq)) q.2)<|tF (tv (wq T 1 1 T T)<|tx (bN (⟨Z,Z,1,1,Z,Z,T,T,T⟩:aq))<|Jo λq=>aI (bR (⟨Z,Z,1,1,Z,Z,T,T,T⟩:aq)) q.2)<|tv (GD)<|tx (bN (⟨Z,Z,0,0,Z,Z,Z,Z,Z⟩:aq))<|Jo λq=>aI (bR (⟨Z,Z,0,0,Z,Z,Z,Z,Z⟩:aq)) q.2
end Go.Proofs.YtibglelmlnfojaaGreatDoor
