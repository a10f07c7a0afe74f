/- PROVED: a part of the proof. Conditions: none. -/
import Derived.Test.YtibglelmlnfojaaGreatDoorPkM12
set_option linter.unusedSimpArgs false set_option linter.defProp false
set_option linter.unusedVariables false
noncomputable section
namespace Go.Proofs.YtibglelmlnfojaaGreatDoor
open Go Go.Proofs.Tryz
open Option renaming some→O,none→N
open Go renaming TypeId→G,Value→D,Program→I,Oper→M,World→J,Code→W
open Bool renaming true→T,false→Z
open Decidable renaming decide→Y
open Go.Proofs.YtibglelmlnfojaaGreatDoor renaming PVal→U
set_option linter.unusedVariables false
set_option linter.defProp false
set_option maxRecDepth 100000
abbrev iW:=(ah->Int->Q ae)
abbrev pH(R:iW):Prop:=∀(p:ah)(a:Int),OG 188 [.agg (ag p),.i6 a,.bptr 0 0,.bptr 1 0] [] [.cells [.func (.func 188) [] [.bptr 0 0,.bptr 1 0]] [],.cells [.func (.func 185) [] [.bptr 0 0]] []] (R p a) (λr=>.str r) [] (λr=>[.cells [.func (.func 188) [] [.bptr 0 0,.bptr 1 0]] [],.cells [.func (.func 185) [] [.bptr 0 0]] []])
noncomputable def qy5:W:=f190.body.getD .skip
def qxV:ZF Pg [] 190 f190 qy5:=zf call190 func190 rfl mixed
def xv(a:Int):Q (aS×K):=if(a==18)then O ((⟨1,1,2,wo⟩:aS),T) else if(a==17)then O ((⟨2,3,2,yz⟩:aS),T) else if(a==16)then O ((⟨3,3,4,yA⟩:aS),T) else if(a==15)then O ((⟨4,4,5,yx⟩:aS),T) else if(a==10)then O ((⟨6,7,7,qe7⟩:aS),T) else if(a==11)then O ((⟨6,7,7,yw⟩:aS),T) else if(a==12)then O ((⟨6,7,7,KW⟩:aS),T) else if(a==13)then O ((⟨6,7,7,yy⟩:aS),T) else if(a==6)then O ((⟨7,7,8,Wi⟩:aS),T) else if(a==7)then O ((⟨7,7,8,wn⟩:aS),T) else if(a==8)then O ((⟨8,8,9,Wh⟩:aS),T) else O ((⟨0,0,0,[]⟩:aS),Z)
def HX{a:Int}:OV 190 [.i6 a] (xv a) (λr=>.tuple [.agg (gU r.1),.bool r.2]) []:=qxV.v<|tx qpj<|tF (tv (ct 1 1 2 wo)<|tx (db (⟨1,1,2,wo⟩:aS))<|Jo λq=>aI (mx PVal.tuple (eQ (dF (⟨1,1,2,wo⟩:aS)) (eQ (rP (.bool T)) (rfl:([]:V U)=[])))) q.2)<|tF (tv (ct 2 3 2 yz)<|tx (db (⟨2,3,2,yz⟩:aS))<|Jo λq=>aI (mx PVal.tuple (eQ (dF (⟨2,3,2,yz⟩:aS)) (eQ (rP (.bool T)) (rfl:([]:V U)=[])))) q.2)<|tF (tv (ct 3 3 4 yA)<|tx (db (⟨3,3,4,yA⟩:aS))<|Jo λq=>aI (mx PVal.tuple (eQ (dF (⟨3,3,4,yA⟩:aS)) (eQ (rP (.bool T)) (rfl:([]:V U)=[])))) q.2)<|tF (tv (ct 4 4 5 yx)<|tx (db (⟨4,4,5,yx⟩:aS))<|Jo λq=>aI (mx PVal.tuple (eQ (dF (⟨4,4,5,yx⟩:aS)) (eQ (rP (.bool T)) (rfl:([]:V U)=[])))) q.2)<|tF (tv (ct 6 7 7 qe7)<|tx (db (⟨6,7,7,qe7⟩:aS))<|Jo λq=>aI (mx PVal.tuple (eQ (dF (⟨6,7,7,qe7⟩:aS)) (eQ (rP (.bool T)) (rfl:([]:V U)=[])))) q.2)<|tF (tv (ct 6 7 7 yw)<|tx (db (⟨6,7,7,yw⟩:aS))<|Jo λq=>aI (mx PVal.tuple (eQ (dF (⟨6,7,7,yw⟩:aS)) (eQ (rP (.bool T)) (rfl:([]:V U)=[])))) q.2)<|tF (tv (ct 6 7 7 KW)<|tx (db (⟨6,7,7,KW⟩:aS))<|Jo λq=>aI (mx PVal.tuple (eQ (dF (⟨6,7,7,KW⟩:aS)) (eQ (rP (.bool T)) (rfl:([]:V U)=[])))) q.2)<|tF (tv (ct 6 7 7 yy)<|tx (db (⟨6,7,7,yy⟩:aS))<|Jo λq=>aI (mx PVal.tuple (eQ (dF (⟨6,7,7,yy⟩:aS)) (eQ (rP (.bool T)) (rfl:([]:V U)=[])))) q.2)<|tF (tv (ct 7 7 8 Wi)<|tx (db (⟨7,7,8,Wi⟩:aS))<|Jo λq=>aI (mx PVal.tuple (eQ (dF (⟨7,7,8,Wi⟩:aS)) (eQ (rP (.bool T)) (rfl:([]:V U)=[])))) q.2)<|tF (tv (ct 7 7 8 wn)<|tx (db (⟨7,7,8,wn⟩:aS))<|Jo λq=>aI (mx PVal.tuple (eQ (dF (⟨7,7,8,wn⟩:aS)) (eQ (rP (.bool T)) (rfl:([]:V U)=[])))) q.2)<|tF (tv (ct 8 8 9 Wh)<|tx (db (⟨8,8,9,Wh⟩:aS))<|Jo λq=>aI (mx PVal.tuple (eQ (dF (⟨8,8,9,Wh⟩:aS)) (eQ (rP (.bool T)) (rfl:([]:V U)=[])))) q.2)<|tv (Tj)<|tx (db (⟨0,0,0,[]⟩:aS))<|Jo λq=>aI (mx PVal.tuple (eQ (dF (⟨0,0,0,[]⟩:aS)) (eQ (rP (.bool Z)) (rfl:([]:V U)=[])))) q.2
noncomputable def qy4:W:=f189.body.getD .skip
def qxU:ZF Pg [] 189 f189 qy4:=zf call189 func189 rfl mixed
def FP(p:ah):Q Int:=if(p.Op==14)then O 5 else if(p.Op==9)then O 9 else (xv p.Op).bind λa=>if a.2 then O a.1.level else O 10
def VJ{p:ah}:OV 189 [.agg (ag p)] (FP p) (λr=>.i6 r) []:=qxU.v<|te (dU p)<|tw (aE p)<|tF tE<|tF tE<|tb λb a=>tw (aE p)<|bQ (HX _ a)<|tx qpj<|tx (db b.1)<|tF (ts<|tE)<|tE
noncomputable def qy2:W:=f186.body.getD .skip
def qxS:ZF Pg [] 186 f186 qy2:=zf call186 func186 rfl mixed
def eN(a:waA):Q ae:=(qel a ([]:ae)).bind λb=>O b
def fc{a:waA}:OV 186 [sl cS a] (eN a) (λr=>.str r) []:=qxS.v<|tb λc b=>bQ (qh8 b)<|tE
noncomputable def qyT:W:=f162.body.getD .skip
def qxJ:ZF Pg [] 162 f162 qyT:=zf call162 func162 rfl mixed
def gh(a:K):Q ae:=if a then O ([116,114,117,101]:ae) else O ([102,97,108,115,101]:ae)
def zA{a:K}:OV 162 [.bool a] (gh a) (λr=>.str r) []:=qxJ.v<|tF tE<|tE
noncomputable def qyw:W:=f108.body.getD .skip
def qxl:ZF Pg [] 108 f108 qyw:=zf call108 func108 rfl mixed
def iq(a:K):Q ae:=(gh a).bind λb=>O b
def zi{a:K}:OV 108 [.bool a] (iq a) (λr=>.str r) []:=qxl.v<|tb λc b=>bQ (zA _ b)<|tE
noncomputable def qvH:W:=f185.body.getD .skip
def qu9:ZF Pg [13] 185 f185 qvH:=zf call185 func185 rfl mixed
section
variable(b:iW)(d:pi)(e:Int)(a:waA)(c:Int)
def qW:aF:=aM 24 [(1,.bptr 0 0),(4,sl cS a),(7,sl ag d),(8,.i6 e),(9,.i6 c)] [.cells [.func (.func 188) [] [.bptr 0 0,.bptr 1 0]] [],.cells [.func (.func 185) [] [.bptr 0 0]] []] [((4,0),9)]
def BA(o:waA):aF:=aM 24 [(4,sl cS o)] [.cells [.func (.func 188) [] [.bptr 0 0,.bptr 1 0]] [],.cells [.func (.func 185) [] [.bptr 0 0]] []] [((4,0),9)]
instance qEd:KS 2 (qW d e a c):=ks 2 rfl
instance qDW{o:waA}:KS 2 (BA o):=ks 2 rfl
def iI:Q ((waA×Int)⊕(waA)):=if Y (c<e)then (bY d c).bind λm=>(b m 1).bind λi=>(app a ([i]:V ae)).bind λh=>O (.inl (h,cz (c+1))) else O (.inr a)
def vF:Q waA:=loop (λ(h:waA×Int)=>iI b d e h.1 h.2) (a,c)
def Mh(h:pH b):OL 2 (cA qvH 119) (iI b d e a c) (λ(p:waA×Int)=>qW d e p.1 p.2) (λ_=>.exit 0) BA (qW d e a c):=qu9.lx<|tF (tb λo n=>tb λq m=>tb λr i=>tv (dN.ia n)<|tv (bA o)<|tx TP<|tx (gP o)<|ts<|tv (eJ o [])<|tc [0,1] (h _ _ _ m)<|tv (aP [q] 1 rfl)<|tv (dX.ap i)<|tE)<|tE
def Ob(h:pH b):=nu (s:=(a,c)) λi=>Mh b d e i.1 i.2 h
end
def oJ(b:iW)(a:pi):Q ae:=(vF b a (a.length:Int) ([]:V ae) 0).bind λc=>(qel c ch).bind λd=>(eN ([dl,d,dM]:V ae)).bind λe=>O e
def FO(b:iW)(c:pH b){a:pi}:OG 185 [sl ag a,.bptr 0 0] [] [.cells [.func (.func 188) [] [.bptr 0 0,.bptr 1 0]] [],.cells [.func (.func 185) [] [.bptr 0 0]] []] (oJ b a) (λr=>.str r) [] (λr=>[.cells [.func (.func 188) [] [.bptr 0 0,.bptr 1 0]] [],.cells [.func (.func 185) [] [.bptr 0 0]] []]):=qu9.g 2<|tb λm d=>tb λi e=>tb λn h=>bz (dN.ln a)<|bJ (Ob b a (a.length:Int) ([]:V ae) 0 c _ d)<|bQ (qh8 e)<|tv (aP [dl,i,dM] 3 rfl)<|bQ (fc _ h)<|tE
noncomputable def qy3:W:=f188.body.getD .skip
def qxT:ZF Pg [] 188 f188 qy3:=zf call188 func188 rfl mixed
def p7(a:iW)(p:ah)(b:Int):Q ae:=(FP p).bind λB=>if Y (B<b)then (a p 1).bind λE=>(eN ([dl,E,dM]:V ae)).bind λF=>O F else (xv p.Op).bind λc=>if c.2 then (bY p.Kids 0).bind λL=>(a L c.1.left).bind λH=>(bY p.Kids 1).bind λP=>(a P c.1.right).bind λd=>(eN ([H,bZ,c.1.sign,bZ,d]:V ae)).bind λe=>O e else if(p.Op==1)then if Y (p.N<0)then (qbD p.N).bind λh=>(eN ([dl,h,dM]:V ae)).bind λi=>O i else (qbD p.N).bind λm=>O m else if(p.Op==2)then (iq (p.N==1)).bind λn=>O n else if(p.Op==3)then O p.Name else if(p.Op==4)then (oJ a p.Kids).bind λo=>(eN ([p.Name,o]:V ae)).bind λq=>O q else if(p.Op==5)then (oJ a p.Kids).bind λr=>(eN ([qcZ,p.Name,r]:V ae)).bind λs=>O s else if(p.Op==14)then (bY p.Kids 0).bind λz=>(a z 5).bind λt=>(eN ([QO,t]:V ae)).bind λw=>O w else (bY p.Kids 0).bind λA=>(a A 9).bind λx=>(eN ([wn,x]:V ae)).bind λy=>O y
def RQ(c:iW)(a:pH c){p:ah}{b:Int}:OG 188 [.agg (ag p),.i6 b,.bptr 0 0,.bptr 1 0] [] [.cells [.func (.func 188) [] [.bptr 0 0,.bptr 1 0]] [],.cells [.func (.func 185) [] [.bptr 0 0]] []] (p7 c p b) (λr=>.str r) [] (λr=>[.cells [.func (.func 188) [] [.bptr 0 0,.bptr 1 0]] [],.cells [.func (.func 185) [] [.bptr 0 0]] []]):=qxT.g 2<|tb λr1 E=>te (dU p)<|tv (bA p)<|bQ (VJ _ E)<|tF (tb λr3 F=>tb λr4 H=>ts<|tv (bA p)<|tc [0,1] (a _ _ _ F)<|tv (aP [dl,r3,dM] 3 rfl)<|bQ (fc _ H)<|tE)<|tb λr5 L=>tw (aE p)<|bQ (HX _ L)<|tx qpj<|tx (db r5.1)<|tF (tb λx7 R=>tb λr8 P=>tb λx9 S=>tb λX d=>tb λa7 e=>MO (.dx [0,0,2,6,14,0,32,127,0,256,0,0,2048,6144,14336,0,32768,130303,262143,524287,1048575] [] [] [0,2,3,11,263,301,317,343])<|ts<|tw (aA p)<|tv (dN.ia R)<|tv (bA x7)<|ts<|qBb [0,1] (a _ _ _ P)<|ts<|ts<|tw (aA p)<|tv (dN.ia S)<|tv (bA x9)<|ts<|qBb [0,1] (a _ _ _ d)<|tv (aP [r8,bZ,r5.1.sign,bZ,X] 5 rfl)<|bQ (fc _ e)<|tE)<|tw (aE p)<|tF (tw (bj p)<|tF (tb λa0 h=>tb λa8 i=>tw (bj p)<|bQ (Z1 h)<|tv (aP [dl,a0,dM] 3 rfl)<|bQ (fc _ i)<|tE)<|tb λa9 m=>tw (bj p)<|bQ (Z1 m)<|tE)<|tF (tb λab n=>tw (bj p)<|bQ (zi _ n)<|tE)<|tF (tw (bK p)<|tE)<|tF (tb λa1 o=>tb λad q=>MO (.dx [0,1,0,0,8,28,63,127,255] [] [] [3,11,589,617])<|tw (bK p)<|ts<|tw (aA p)<|tc [0,1] (FO c a _ o)<|tv (aP [p.Name,a1] 2 rfl)<|bQ (fc _ q)<|tE)<|tF (tb λa2 s=>tb λan t=>MO (.dx [0,1,0,0,8,28,63,127,255] [] [] [3,11,669,697])<|tw (bK p)<|ts<|tw (aA p)<|tc [0,1] (FO c a _ s)<|tv (aP [qcZ,p.Name,a2] 3 rfl)<|bQ (fc _ t)<|tE)<|tF (tb λa5 A=>tb λa3 w=>tb λao x=>MO (.dx [0,0,2,6,14,31,63,127,255] [] [] [3,11,777])<|ts<|tw (aA p)<|tv (dN.ia A)<|tv (bA a5)<|tc [0,1] (a _ _ _ w)<|tv (aP [QO,a3] 2 rfl)<|bQ (fc _ x)<|tE)<|tb λa6 B=>tb λa4 y=>tb λar z=>MO (.dx [0,0,2,6,14,31,63,127,255] [] [] [3,11,841])<|ts<|tw (aA p)<|tv (dN.ia B)<|tv (bA a6)<|tc [0,1] (a _ _ _ y)<|tv (aP [wn,a4] 2 rfl)<|bQ (fc _ z)<|tE
def xu:((ah×Int)->Q ae)->(ah×Int)->Q ae:=λ(rec:(ah×Int)->Q ae) (x:ah×Int)=>p7 (λp a=>rec (p,a)) x.1 x.2
def Ci(p:ah)(a:Int):Q ae:=rT xu (p,a)
def TI{p:ah}{a:Int}:OG 188 [.agg (ag p),.i6 a,.bptr 0 0,.bptr 1 0] [] [.cells [.func (.func 188) [] [.bptr 0 0,.bptr 1 0]] [],.cells [.func (.func 185) [] [.bptr 0 0]] []] (Ci p a) (λr=>.str r) [] (λr=>[.cells [.func (.func 188) [] [.bptr 0 0,.bptr 1 0]] [],.cells [.func (.func 185) [] [.bptr 0 0]] []]):=qkZ λ_ h=>d7 (F:=xu) (M:=λ(x:ah×Int) (r:ae)=>C Pg GE 188 [.agg (ag x.1),.i6 x.2,.bptr 0 0,.bptr 1 0] [] [.cells [.func (.func 188) [] [.bptr 0 0,.bptr 1 0]] [],.cells [.func (.func 185) [] [.bptr 0 0]] []] (.str r) [] [.cells [.func (.func 188) [] [.bptr 0 0,.bptr 1 0]] [],.cells [.func (.func 185) [] [.bptr 0 0]] []]) (λrec b x r h=>RQ _ (λp a=>qkZ λr h=>b (p,a) r h) _ h) h
noncomputable def qyG:W:=f127.body.getD .skip
def qxv:ZF Pg [11] 127 f127 qyG:=zf call127 func127 rfl mixed
def Ay(p:ah):Q (ae×Int):=(zJ p).bind λa=>if(a !=0)then O (([]:ae),a) else (Ci p 1).bind λb=>O (b,0)
def Xx{p:ah}:OV 127 [.agg (ag p)] (Ay p) (λr=>.tuple [.str r.1,.i6 r.2]) []:=qxv.v<|tb λc a=>te (dU p)<|tv (bA p)<|bQ (qdR a)<|tF tE<|tb λd b=>tx qwt<|tx qwu<|ts<|ts<|ts<|tv (bA p)<|tc [1,2] (TI _ b)<|tE
noncomputable def qAQ:W:=f78.body.getD .skip
def qAv:ZF Pg [] 78 f78 qAQ:=zf call78 func78 rfl mixed
section
variable(s:ae)(e:Int)(m:V Int)(m2:K)
def lD:Q K:=if m2 then O T else O (e !=0)
def Kr:OJ 1 (cA qAQ 14) (lD e m2) .normal (λo=>aM 26 [(0,.bptr 0 0),(4,.str s)] [cw 0 m o,.dead] []) (aM 26 [(0,.bptr 0 0),(4,.str s),(5,.i6 e)] [cw 0 m m2,.dead] []):=qAv.j<|tf (λa=>ts<|tg 6 a<|ts<|tE) λa=>ts<|tg 6 a<|ts<|tE
end
def cy(p:ah)(d:V Int)(a:K):Q (V Int×K):=(Ay p).bind λc=>(lD c.2 a).bind λb=>(aa ([c.1]:V ae) d b).bind λe=>O (e,b)
def fg{p:ah}{e:V Int}{a:K}:OG 78 [.bptr 0 0,.agg (ag p)] [] [cw 0 e a] (cy p e a) (λr=>.tuple []) [] (λr=>[cw 0 r.1 r.2]):=qAv.g 1<|tb λh c=>tb λi b=>tb λm d=>te (dU p)<|tv (bA p)<|bQ (Xx _ c)<|ey 0<|bJ (Kr h.1 h.2 e a _ b)<|tv (aP [h.1] 1 rfl)<|tc [0] (af _ d)<|tE
noncomputable def qCu:W:=f95.body.getD .skip
def qBU:ZF Pg [] 95 f95 qCu:=zf call95 func95 rfl mixed
def fR(p:ah)(b:V Int)(a:K):Q (V Int×K):=(kk p).bind λd=>if d then (aa ([yB]:V ae) b a).bind λe=>O (e,a) else (cy p b a).bind λc=>O (c.1,c.2)
def pB{p:ah}{e:V Int}{a:K}:OG 95 [.bptr 0 0,.agg (ag p)] [] [cw 0 e a] (fR p e a) (λr=>.tuple []) [] (λr=>[cw 0 r.1 r.2]):=qBU.g 1<|tb λh b=>te (dU p)<|tv (bA p)<|bQ (pg _ b)<|tF (tb λi c=>tv (aP [yB] 1 rfl)<|tc [0] (af _ c)<|tE)<|tb λm d=>tv (bA p)<|tc [0] (fg _ d)<|tE
noncomputable def qyM:W:=f138.body.getD .skip
def qxC:ZF Pg [] 138 f138 qyM:=zf call138 func138 rfl mixed
def Ic(p:ah):Q K:=if (p.Op == 9) = T then if((p.Kids.length:Int)==1)then (bY p.Kids 0).bind λa=>if(a.Op==1)then (bY p.Kids 0).bind λb=>O (Y (b.N>=0)) else O Z else O Z else O Z
def qcw{p:ah}:OV 138 [.agg (ag p)] (Ic p) (λr=>.bool r) []:=qxC.v<|
 te (dU p)<|have a:=λ{X q s} (r:PV _ X q s)=>tw (aE p)<|r;tf (λh=>have b:=λ{X q s} (r:PV _ X q s)=>a<|tg 4 h<|tw (aA p)<|bz (dN.ln p.Kids)<|r;tf (λi=>tb λn d=>have c:=λ{X q s} (r:PV _ X q s)=>b<|tg 10 i<|tw (aA p)<|tv (dN.ia d)<|tw (aE n)<|r;tf (λm=>tb λo e=>c<|tg 18 m<|tw (aA p)<|tv (dN.ia e)<|tw (bj o)<|tE) λm=>c<|tg 18 m<|tE) λi=>b<|tg 10 i<|tE) λh=>a<|tg 4 h<|tE
abbrev Al:=(am->Q Int)
abbrev Iy(R:Al):Prop:=∀(t:am),OV 92 [.agg (al t)] (R t) (λr=>.i6 r) []
noncomputable def qAV:W:=f92.body.getD .skip
def qAA:ZF Pg [] 92 f92 qAV:=zf call92 func92 rfl mixed
section
variable(a:Al)(c:oy)(d n b:Int)
def z7:aF:=aM 20 [(3,.i6 n),(7,sl al c),(8,.i6 d),(9,.i6 b)] [.dead] []
def KP(o:Int):aF:=aM 20 [(3,.i6 o)] [.dead] []
instance qFb:KS 0 (z7 c d n b):=ks 1 rfl
instance qEY{o:Int}:KS 0 (KP o):=ks 1 rfl
def KO:Q ((Int×Int)⊕(Int)):=if Y (b<d)then (bY c b).bind λh=>(a h).bind λe=>O (.inl ((if e>n then e else n),cz (b+1))) else O (.inr n)
def qcT:Q Int:=loop (λ(e:Int×Int)=>KO a c d e.1 e.2) (n,b)
def T5(e:Iy a):OL 0 (cA qAV 119) (KO a c d n b) (λ(o:Int×Int)=>z7 c d o.1 o.2) (λ_=>.exit 0) KP (z7 c d n b):=qAA.lx<|tF (tb λm i=>tb λp h=>tv (cQ.ia i)<|tv (cc m)<|tx RZ<|tx (ij m)<|tv (eK m [])<|bQ (e _ _ h)<|tE)<|tE
def We(e:Iy a):=nu (s:=(n,b)) λh=>T5 a c d h.1 h.2 e
end
def SW(a:Al)(t:am):Q Int:=(qcT a t.Args (t.Args.length:Int) 0 0).bind λb=>O (cz (b+1))
def ZM(a:Al)(b:Iy a){t:am}:OV 92 [.agg (al t)] (SW a t) (λr=>.i6 r) []:=qAA.v<|tb λd c=>te (eM t)<|tw (aN t)<|bz (cQ.ln t.Args)<|bJ (We a t.Args (t.Args.length:Int) 0 0 b _ c)<|tE
def Jp:(am->Q Int)->(am)->Q Int:=λ(rec:am->Q Int) (x:am)=>SW (λt=>rec t) x
def Ir(t:am):Q Int:=rT Jp t
def qcU{t:am}:OV 92 [.agg (al t)] (Ir t) (λr=>.i6 r) []:=HU λ_ h=>d7 (F:=Jp) (M:=λ(x:am) (r:Int)=>CC Pg GE 92 [.agg (al x)] (.i6 r) []) (λrec a x r h=>ZM _ (λt=>HU λr h=>a t r h) _ h) h
abbrev DH:=(am->Q Int)
abbrev K1(R:DH):Prop:=∀(t:am),OV 93 [.agg (al t)] (R t) (λr=>.i6 r) []
noncomputable def qvy:W:=f146.body.getD .skip
def quZ:ZF Pg [] 146 f146 qvy:=zf call146 func146 rfl mixed
section
variable(t:am)
def Gt:Q K:=if Y ((t.Args.length:Int)<2)then O T else if Y ((t.Args.length:Int)>7)then O T else if((t.Names.length:Int)!=0)then O ((t.Names.length:Int)!=(cz ((t.Args.length:Int) - 1))) else O Z
def Wd:OU 0 (cA qvy 892) (Gt t) .normal (λo=>[(1,.undef),(38,.bool o)]) (aM 39 [(1,.eptr (al t))] [.dead] []):=quZ.j<|
 have a:=λ{X i m} (r:PV _ X i m)=>tw (aN t)<|bz (cQ.ln t.Args)<|r;tf (λd=>a<|tg 5 d<|tE) λd=>have b:=λ{X i m} (r:PV _ X i m)=>a<|tg 5 d<|tw (aN t)<|bz (cQ.ln t.Args)<|r;tf (λe=>b<|tg 11 e<|tE) λe=>have c:=λ{X i m} (r:PV _ X i m)=>b<|tg 11 e<|tw (bh t)<|bz (dX.ln t.Names)<|r;tf (λh=>c<|tg 16 h<|tw (bh t)<|bz (dX.ln t.Names)<|tw (aN t)<|bz (cQ.ln t.Args)<|tE) λh=>c<|tg 16 h<|tE
end
def Iq(t:am):Q Int:=if(t.Op==4)then if Y ((t.Args.length:Int)>6)then O 13 else O 0 else if(t.Op==6)then (Gt t).bind λa=>if a then O 13 else O 0 else O 0
def qcS{t:am}:OV 146 [.agg (al t)] (Iq t) (λr=>.i6 r) []:=quZ.v<|te (eM t)<|tw (aB t)<|tF (tw (aN t)<|bz (cQ.ln t.Args)<|tF tE<|tE)<|tF (tb λb a=>ey 0<|bJ (Wd t _ a)<|tF tE<|tE)<|tE
noncomputable def qr9:W:=f93.body.getD .skip
def qsY:ZF Pg [68,100] 93 f93 qr9:=zf call93 func93 rfl mixed
section
variable(t:am)
def AI:Q K:=if(t.Op==4)then O T else O (t.Op==5)
def XT:OU 0 (cA qr9 6) (AI t) .normal (λo=>[(3,.bool o)]) (aM 102 [(1,.eptr (al t))] [.dead] []):=qsY.j<|
 have a:=λ{X c d} (r:PV _ X c d)=>tw (aB t)<|r;tf (λb=>a<|tg 4 b<|tE) λb=>a<|tg 4 b<|tw (aB t)<|tE
end
section
variable(t:am)(a:K)
def AJ:Q K:=if(t.Op==4)then O T else O (t.Op==6)
def XU:OU 0 (cA qr9 14) (AJ t) .normal (λo=>[(4,.bool o)]) (aM 102 [(1,.eptr (al t)),(3,.bool a)] [.dead] []):=qsY.j<|
 have b:=λ{X d e} (r:PV _ X d e)=>tw (aB t)<|r;tf (λc=>b<|tg 4 c<|tE) λc=>b<|tg 4 c<|tw (aB t)<|tE
end
section
variable(t:am)(b a:K)
def AK:Q K:=if Y (t.Op<1)then O T else if Y (t.Op>6)then O T else if(!(t.Name==([]:ae)))then if(!b)then O T else if Y ((t.Args.length:Int)>0)then if(!a)then O T else if Y ((t.Names.length:Int)>0)then O (t.Op !=6) else O Z else if Y ((t.Names.length:Int)>0)then O (t.Op !=6) else O Z else if Y ((t.Args.length:Int)>0)then if(!a)then O T else if Y ((t.Names.length:Int)>0)then O (t.Op !=6) else O Z else if Y ((t.Names.length:Int)>0)then O (t.Op !=6) else O Z
def XV:OU 0 (cA qr9 60) (AK t b a) .normal (λo=>[(4,.undef),(63,.bool o)]) (aM 102 [(1,.eptr (al t)),(3,.bool b),(4,.bool a)] [.dead] []):=qsY.j<|
 have R:=λ{X a0 a1} (r:PV _ X a0 a1)=>tw (aB t)<|r;tf (λS=>R<|tg 4 S<|tE) λS=>have c:=λ{X a0 a1} (r:PV _ X a0 a1)=>R<|tg 4 S<|tw (aB t)<|r;tf (λc9=>c<|tg 9 c9<|tE) λc9=>have d:=λ{X a0 a1} (r:PV _ X a0 a1)=>c<|tg 9 c9<|tw (cm t)<|r;tf (λx=>have e:=λ{X a0 a1} (r:PV _ X a0 a1)=>d<|tg 13 x<|r;tf (λy=>e<|tg 18 y<|tE) λy=>have h:=λ{X a0 a1} (r:PV _ X a0 a1)=>e<|tg 18 y<|tw (aN t)<|bz (cQ.ln t.Args)<|r;tf (λz=>have i:=λ{X a0 a1} (r:PV _ X a0 a1)=>h<|tg 23 z<|r;tf (λA=>i<|tg 28 A<|tE) λA=>have m:=λ{X a0 a1} (r:PV _ X a0 a1)=>i<|tg 28 A<|tw (bh t)<|bz (dX.ln t.Names)<|r;tf (λB=>m<|tg 33 B<|tw (aB t)<|tE) λB=>m<|tg 33 B<|tE) λz=>have n:=λ{X a0 a1} (r:PV _ X a0 a1)=>h<|tg 23 z<|tw (bh t)<|bz (dX.ln t.Names)<|r;tf (λE=>n<|tg 33 E<|tw (aB t)<|tE) λE=>n<|tg 33 E<|tE) λx=>have p:=λ{X a0 a1} (r:PV _ X a0 a1)=>d<|tg 13 x<|tw (aN t)<|bz (cQ.ln t.Args)<|r;tf (λF=>have q:=λ{X a0 a1} (r:PV _ X a0 a1)=>p<|tg 23 F<|r;tf (λH=>q<|tg 28 H<|tE) λH=>have s:=λ{X a0 a1} (r:PV _ X a0 a1)=>q<|tg 28 H<|tw (bh t)<|bz (dX.ln t.Names)<|r;tf (λL=>s<|tg 33 L<|tw (aB t)<|tE) λL=>s<|tg 33 L<|tE) λF=>have w:=λ{X a0 a1} (r:PV _ X a0 a1)=>p<|tg 23 F<|tw (bh t)<|bz (dX.ln t.Names)<|r;tf (λP=>w<|tg 33 P<|tw (aB t)<|tE) λP=>w<|tg 33 P<|tE
end
section
variable(t:am)
def AM:Q K:=(lq t.Name 0).bind λa=>if Y (a>=65)then (lq t.Name 0).bind λb=>O (Y (b<=90)) else O Z
def XW:OU 0 (cA qr9 2026) (AM t) .normal (λo=>[(6,.bool o)]) (aM 102 [(1,.eptr (al t))] [.dead] []):=qsY.j<|
 tb λe c=>have a:=λ{X i m} (r:PV _ X i m)=>tw (cm t)<|tv (gW underlying9 c)<|r;tf (λb=>tb λh d=>a<|tg 5 b<|tw (cm t)<|tv (gW underlying9 d)<|tE) λb=>a<|tg 5 b<|tE
end
section
variable(t:am)(a:K)
def ZN(o:Unit⊕(Unit)):Exit:=match o with|(.inl _)=>.ret|(.inr _)=>.normal
def ZO(o:Unit⊕(Unit)):aF:=match o with|(.inl o)=>aM 102 [(2,.i6 3)] [.dead] []|(.inr o)=>aM 102 [(1,.eptr (al t))] [.dead] []
def AL:Q (Unit⊕(Unit)):=if a then (n7 t.Name).bind λc=>if(c !=0)then O (.inl ()) else (AM t).bind λb=>if(!(b==(t.Op==4)))then O (.inl ()) else O (.inr ()) else O (.inr ())
def KQ:OK 0 (cA qr9 126) (AL t a) ZN (ZO t) (aM 102 [(1,.eptr (al t)),(3,.bool a)] [.dead] []):=qsY.k<|tF (tb λe c=>tw (cm t)<|bQ (jU _ c)<|tF tE<|tb λd b=>ey 0<|bJ (XW t _ b)<|tw (aB t)<|tF tE<|tE)<|tE
end
section
variable(d:DH)(b:oy)(c a:Int)
def u6:aF:=aM 102 [(90,sl al b),(91,.i6 c),(92,.i6 a)] [.dead] []
def NH(o:Int⊕(Unit)):Exit:=match o with|(.inl _)=>.ret|(.inr _)=>.exit 0
def CL(o:Int⊕(Unit)):aF:=match o with|(.inl o)=>aM 102 [(2,.i6 o)] [.dead] []|(.inr o)=>aM 102 [] [.dead] []
instance qFu:KS 0 (u6 b c a):=ks 1 rfl
instance qFl{o:Int⊕(Unit)}:KS 0 (CL o):=match o with|(.inl o)=>ks 1 rfl|(.inr o)=>ks 1 rfl
def NG:Q (Int⊕(Int⊕(Unit))):=if Y (a<c)then (bY b a).bind λh=>(d h).bind λe=>if(e !=0)then O (.inr (.inl e)) else O (.inl (cz (a+1))) else O (.inr (.inr ()))
def Jq:Q (Int⊕(Unit)):=loop (λ(e:Int)=>NG d b c e) a
def Wf(m:K1 d):OL 0 (cA qr9 2039) (NG d b c a) (λ(o:Int)=>u6 b c o) NH CL (u6 b c a):=qsY.lx<|tF (tb λe i=>tb λn h=>tv (cQ.ia i)<|tv (cc e)<|tx RZ<|tx (ij e)<|tv (eK e [])<|bQ (m _ _ h)<|tF tE<|tE)<|tE
def KR(e:K1 d):OK 0 (.loop (cA qr9 2039)) (Jq d b c a) NH CL (u6 b c a):=Bz λ_=>Wf _ _ _ _ e
end
def Ep(d:DH)(t:am):Q Int:=(AI t).bind λh=>(AJ t).bind λi=>(AK t h i).bind λe=>if e then O 1 else (Iq t).bind λc=>if(c !=0)then O c else (AL t h).bind λb=>match b with|(.inl b)=>O 3| (.inr b) =>(Jq d t.Args (t.Args.length:Int) 0).bind λa=>match a with|(.inl a)=>O a|(.inr a)=>O 0
def qcV(c:DH)(d:K1 c){t:am}:OV 93 [.agg (al t)] (Ep c t) (λr=>.i6 r) []:=qsY.v<|tb λi m=>tb λs n=>tb λq e=>te (eM t)<|ey 0<|bJ (XT t _ m)<|ey 0<|bJ (XU t i _ n)<|ey 1<|bJ (XV t i s _ e)<|tF tE<|tb λw h=>tv (cc t)<|bQ (qcS _ h)<|tF tE<|t2 (λo a=>ey 0<|bJ (KQ t i _ a)<|tE) λo a=>ey 0<|bJ (KQ t i _ a)<|tw (aN t)<|bz (cQ.ln t.Args)<|t2 (λp b=>bJ (KR c t.Args (t.Args.length:Int) 0 d _ b)<|tE) λp b=>bJ (KR c t.Args (t.Args.length:Int) 0 d _ b)<|tE
def MQ:(am->Q Int)->(am)->Q Int:=λ(rec:am->Q Int) (x:am)=>Ep (λt=>rec t) x
def MP(t:am):Q Int:=rT MQ t
def qdY{t:am}:OV 93 [.agg (al t)] (MP t) (λr=>.i6 r) []:=HU λ_ h=>d7 (F:=MQ) (M:=λ(x:am) (r:Int)=>CC Pg GE 93 [.agg (al x)] (.i6 r) []) (λrec a x r h=>qcV _ (λt=>HU λr h=>a t r h) _ h) h
noncomputable def qCb:W:=f52.body.getD .skip
def qBB:ZF Pg [] 52 f52 qCb:=zf call52 func52 rfl mixed
def nF(t:am):Q Int:=(Ir t).bind λa=>if Y (a>40)then O 8 else (MP t).bind λb=>O b
def yp{t:am}:OV 52 [.agg (al t)] (nF t) (λr=>.i6 r) []:=qBB.v<|tb λc a=>te (eM t)<|tv (cc t)<|bQ (qcU _ a)<|tF tE<|tb λd b=>tv (cc t)<|bQ (qdY _ b)<|tE
abbrev cM:=(am->V Int->K->Q (K×V Int))
abbrev ee(R:cM):Prop:=∀(t:am)(b:V Int)(a:K),OG 53 [.bptr 0 0,.agg (al t)] [] [cw 0 b a] (R t b a) (λr=>.tuple []) [] (λr=>[cw 0 r.2 r.1])
noncomputable def qAO:W:=f74.body.getD .skip
def qAt:ZF Pg [] 74 f74 qAO:=zf call74 func74 rfl mixed
section
variable(t:am)(m:V Int)(m2:K)
def kH:Q K:=(kk t.Pred).bind λa=>if a then if(t.Op==6)then O T else if Y ((t.Args.length:Int)>0)then O T else O (Y ((t.Preds.length:Int)>0)) else O Z
def Jh:OU 1 (cA qAO 12) (kH t) .normal (λo=>[(23,.bool o)]) (aM 36 [(0,.bptr 0 0),(3,.eptr (al t))] [cw 0 m m2,.dead] []):=qAt.j<|
 tb λn d=>have a:=λ{X p q} (r:PV _ X p q)=>tw (cP t)<|bQ (pg _ d)<|r;tf (λe=>have b:=λ{X p q} (r:PV _ X p q)=>a<|tg 4 e<|tw (aB t)<|r;tf (λh=>b<|tg 8 h<|tE) λh=>have c:=λ{X p q} (r:PV _ X p q)=>b<|tg 8 h<|tw (aN t)<|bz (cQ.ln t.Args)<|r;tf (λi=>c<|tg 14 i<|tE) λi=>c<|tg 14 i<|tw (bF t)<|bz (dN.ln t.Preds)<|tE) λe=>a<|tg 4 e<|tE
end
def kg(c:cM)(t:am)(i:V Int)(a:K):Q (V Int×K):=(kH t).bind λm=>if m then (aa ([dl]:V ae) i a).bind λe=>(c t e a).bind λb=>(aa ([dM]:V ae) b.2 b.1).bind λh=>O (h,b.1) else (c t i a).bind λd=>O (d.2,d.1)
def y7(c:cM)(a:ee c){t:am}{n:V Int}{b:K}:OG 74 [.bptr 0 0,.agg (al t)] [] [cw 0 n b] (kg c t n b) (λr=>.tuple []) [] (λr=>[cw 0 r.1 r.2]):=qAt.g 1<|tb λw m=>te (eM t)<|ey 1<|bJ (Jh t n b _ m)<|tF (tb λo d=>tb λp e=>tb λq h=>tv (aP [dl] 1 rfl)<|tc [0] (af _ d)<|tv (cc t)<|tc [0] (a _ _ _ _ e)<|tv (aP [dM] 1 rfl)<|tc [0] (af _ h)<|tE)<|tb λs i=>tv (cc t)<|tc [0] (a _ _ _ _ i)<|tE
noncomputable def qCt:W:=f94.body.getD .skip
def qBT:ZF Pg [] 94 f94 qCt:=zf call94 func94 rfl mixed
def vH(i:Int)(a:am)(d:V Int)(b:K):Q (V Int×K):=(aa ([Rt]:V ae) d b).bind λe=>(bY a.Preds i).bind λh=>(fR h e b).bind λc=>O (c.1,c.2)
def Oj{i:Int}{a:am}{h:V Int}{b:K}:OG 94 [.i6 i,.bptr 0 0,.eptr (al a)] [] [.cells [.bptr 1 0] [],cw 1 h b] (vH i a h b) (λr=>.tuple []) [] (λr=>[.cells [.bptr 1 0] [],cw 1 r.1 r.2]):=qBT.g 2<|tb λn c=>tb λm e=>tb λo d=>ts<|tv (aP [Rt] 1 rfl)<|tc [1] (af _ c)<|tk<|MO (.dx [0,0,2,0,14,30] [] [] [])<|ts<|tw (bF a)<|tv (dN.ia e)<|tv (bA m)<|tc [1] (pB _ d)<|tE
section
variable(v:am)(i a:Int)(m:V Int)(m2:K)
def uy:Q (V Int):=if Y (i>0)then (aa ([ch]:V ae) m m2).bind λb=>O b else O m
def D5:OJ 2 (cA Ze 1014) (uy i m m2) .normal (λo=>aM 20 [(0,.bptr 0 0),(2,.func (.func 94) [] [.bptr 1 0,.eptr (al v)]),(6,.i6 i),(7,.i6 a),(8,.i6 i)] [cw 0 o m2,.cells [.bptr 0 0] []] []) (aM 20 [(0,.bptr 0 0),(2,.func (.func 94) [] [.bptr 1 0,.eptr (al v)]),(6,.i6 i),(7,.i6 a),(8,.i6 i)] [cw 0 m m2,.cells [.bptr 0 0] []] []):=Ok.j<|tF (tb λc b=>tv (aP [ch] 1 rfl)<|tc [0] (af _ b)<|tE)<|tE
end
section
variable(v:am)(b a:Int)(m:V Int)(m2:K)
def ri:aF:=aM 20 [(0,.bptr 0 0),(2,.func (.func 94) [] [.bptr 1 0,.eptr (al v)]),(7,.i6 b),(8,.i6 a)] [cw 0 m m2,.cells [.bptr 0 0] []] []
def FX(o:V Int×K):aF:=aM 20 [] [cw 0 o.1 o.2,.cells [.bptr 0 0] []] []
def rj:Q ((Int×V Int×K)⊕(V Int×K)):=if Y (a<b)then (uy a m m2).bind λd=>(vH a v d m2).bind λc=>O (.inl (cz (a+1),c.1,c.2)) else O (.inr (m,m2))
def uz:Q (V Int×K):=loop (λ(c:Int×V Int×K)=>rj v b c.1 c.2.1 c.2.2) (a,m,m2)
def Cs:OL 2 (cA Ze 15) (rj v b a m m2) (λ(e:Int×V Int×K)=>ri v b e.1 e.2.1 e.2.2) (λ_=>.exit 0) FX (ri v b a m m2):=Ok.l<|tF (tb λh c=>tb λi d=>ey 2<|bJ (D5 v a b m m2 _ c)<|tc [1,0] (Oj _ d)<|tE)<|tE
def D6:=nu (s:=(a,m,m2)) λc=>Cs v b c.1 c.2.1 c.2.2
end
def hZ(n:Int)(c:am)(d:V Int)(a:K):Q (V Int×K):=(uz c n 0 d a).bind λb=>O (b.1,b.2)
def I7{n:Int}{c:am}{d:V Int}{a:K}:OG 70 [.bptr 0 0,.i6 n,.func (.func 94) [] [.bptr 1 0,.eptr (al c)]] [] [cw 0 d a,.cells [.bptr 0 0] []] (hZ n c d a) (λr=>.tuple []) [] (λr=>[cw 0 r.1 r.2,.cells [.bptr 0 0] []]):=Ok.g 2<|tb λe b=>bJ (D6 c n 0 d a _ b)<|tE
noncomputable def qvz:W:=f147.body.getD .skip
def qu0:ZF Pg [] 147 f147 qvz:=zf call147 func147 rfl mixed
section
variable(i:Int)(a:am)(m:V Int)(m2:K)
def kc:Q (V Int×K):=if Y ((a.Names.length:Int)>0)then (bY a.Names i).bind λd=>(aW d m m2).bind λb=>(aa ([bm]:V ae) b.2 b.1).bind λc=>O (c,b.1) else O (m,m2)
def BH:OJ 2 (cA qvz 2) (kc i a m m2) .normal (λo=>aM 25 [(0,.i6 i),(1,.eptr (al a)),(2,.bptr 0 0)] [.cells [.bptr 1 0] [],cw 1 o.1 o.2] []) (aM 25 [(0,.i6 i),(1,.eptr (al a)),(2,.bptr 0 0)] [.cells [.bptr 1 0] [],cw 1 m m2] []):=qu0.j<|tw (bh a)<|bz (dX.ln a.Names)<|tF (tb λe d=>tb λh b=>tb λn c=>tk<|MO (.dx [0,0,2,0,14,30] [] [] [])<|ts<|tw (bh a)<|tv (dX.ia d)<|tv (dz ZC (.str e) [])<|tc [1] (bD _ b)<|ts<|tv (aP [bm] 1 rfl)<|tc [1] (af _ c)<|tE)<|tE
end
def mZ(b:cM)(i:Int)(a:am)(h:V Int)(c:K):Q (V Int×K):=(kc i a h c).bind λd=>(bY a.Args i).bind λm=>(b m d.1 d.2).bind λe=>O (e.2,e.1)
def F9(c:cM)(d:ee c){i:Int}{a:am}{n:V Int}{b:K}:OG 147 [.i6 i,.eptr (al a),.bptr 0 0] [] [.cells [.bptr 1 0] [],cw 1 n b] (mZ c i a n b) (λr=>.tuple []) [] (λr=>[.cells [.bptr 1 0] [],cw 1 r.1 r.2]):=qu0.g 2<|tb λp e=>tb λo m=>tb λq h=>ey 0<|bJ (BH i a n b _ e)<|tk<|MO (.dx [0,0,2,0,14,30] [] [] [])<|ts<|tw (aN a)<|tv (cQ.ia m)<|tv (cc o)<|tc [1] (d _ _ _ _ h)<|tE
section
variable(v:am)(i a:Int)(m:V Int)(m2:K)
def uA:Q (V Int):=if Y (i>0)then (aa ([ch]:V ae) m m2).bind λb=>O b else O m
def D7:OJ 2 (cA Ze 1014) (uA i m m2) .normal (λo=>aM 20 [(0,.bptr 0 0),(2,.func (.func 147) [] [.eptr (al v),.bptr 1 0]),(6,.i6 i),(7,.i6 a),(8,.i6 i)] [cw 0 o m2,.cells [.bptr 0 0] []] []) (aM 20 [(0,.bptr 0 0),(2,.func (.func 147) [] [.eptr (al v),.bptr 1 0]),(6,.i6 i),(7,.i6 a),(8,.i6 i)] [cw 0 m m2,.cells [.bptr 0 0] []] []):=Ok.j<|tF (tb λc b=>tv (aP [ch] 1 rfl)<|tc [0] (af _ b)<|tE)<|tE
end
section
variable(a:cM)(v:am)(c b:Int)(m:V Int)(m2:K)
def rl:aF:=aM 20 [(0,.bptr 0 0),(2,.func (.func 147) [] [.eptr (al v),.bptr 1 0]),(7,.i6 c),(8,.i6 b)] [cw 0 m m2,.cells [.bptr 0 0] []] []
def FY(o:V Int×K):aF:=aM 20 [] [cw 0 o.1 o.2,.cells [.bptr 0 0] []] []
def rm:Q ((Int×V Int×K)⊕(V Int×K)):=if Y (b<c)then (uA b m m2).bind λe=>(mZ a b v e m2).bind λd=>O (.inl (cz (b+1),d.1,d.2)) else O (.inr (m,m2))
def uB:Q (V Int×K):=loop (λ(d:Int×V Int×K)=>rm a v c d.1 d.2.1 d.2.2) (b,m,m2)
def Ct(d:ee a):OL 2 (cA Ze 15) (rm a v c b m m2) (λ(i:Int×V Int×K)=>rl v c i.1 i.2.1 i.2.2) (λ_=>.exit 0) FY (rl v c b m m2):=Ok.l<|tF (tb λn e=>tb λo h=>ey 2<|bJ (D7 v b c m m2 _ e)<|tc [1,0] (F9 a d _ h)<|tE)<|tE
def D8(d:ee a):=nu (s:=(b,m,m2)) λe=>Ct a v c e.1 e.2.1 e.2.2 d
end
def pw(a:cM)(n:Int)(c:am)(e:V Int)(b:K):Q (V Int×K):=(uB a c n 0 e b).bind λd=>O (d.1,d.2)
def I8(a:cM)(d:ee a){n:Int}{c:am}{h:V Int}{b:K}:OG 70 [.bptr 0 0,.i6 n,.func (.func 147) [] [.eptr (al c),.bptr 1 0]] [] [cw 0 h b,.cells [.bptr 0 0] []] (pw a n c h b) (λr=>.tuple []) [] (λr=>[cw 0 r.1 r.2,.cells [.bptr 0 0] []]):=Ok.g 2<|tb λi e=>bJ (D8 a c n 0 h b d _ e)<|tE
noncomputable def qCv:W:=f96.body.getD .skip
def qBV:ZF Pg [] 96 f96 qCv:=zf call96 func96 rfl mixed
def kF(a:cM)(t:am)(e:V Int)(b:K):Q (V Int×K):=(aa ([dl]:V ae) e b).bind λh=>(pw a (cz ((t.Args.length:Int) - 1)) t h b).bind λc=>(aa ([fC]:V ae) c.1 c.2).bind λi=>(bY t.Args (cz ((t.Args.length:Int) - 1))).bind λm=>(a m i c.2).bind λd=>O (d.2,d.1)
def Jf(b:cM)(a:ee b){t:am}{n:V Int}{c:K}:OG 96 [.bptr 0 0,.agg (al t)] [] [cw 0 n c] (kF b t n c) (λr=>.tuple []) [] (λr=>[cw 0 r.1 r.2]):=qBV.g 1<|tb λp d=>tb λq e=>tb λs h=>tb λo m=>tb λw i=>qls (rfl:bH (.bptr 0 0)=O [.bptr 0 0]) rfl<|te (eM t)<|tw (aN t)<|bz (cQ.ln t.Args)<|ts<|tv (aP [dl] 1 rfl)<|tc [0] (af _ d)<|ts<|tc [0,1] (I8 b a _ e)<|ts<|tv (aP [fC] 1 rfl)<|tc [0] (af _ h)<|tk<|MO (.dx [0,0,2,0,14,30] [] [] [])<|ts<|tw (aN t)<|tv (cQ.ia m)<|tv (cc o)<|tc [0] (a _ _ _ _ i)<|tE
noncomputable def qvN:W:=f53.body.getD .skip
def qvo:ZF Pg [] 53 f53 qvN:=zf call53 func53 rfl mixed
section
variable(t:am)(m:V Int)(m2:K)
def mC:Q K:=if(t.Op==6)then (kk t.Pred).bind λa=>if(!a)then O T else if Y ((t.Preds.length:Int)>0)then O T else if(t.Op !=4)then O (Y ((t.Preds.length:Int)>0)) else O Z else if(t.Op !=4)then O (Y ((t.Preds.length:Int)>0)) else O Z
def My:OU 1 (cA qvN 12) (mC t) .normal (λo=>[(32,.bool o)]) (aM 119 [(2,.bptr 1 0),(3,.eptr (al t))] [cw 0 m m2,.cells [.bptr 0 0] [],.dead] []):=qvo.j<|
 have c:=λ{X x y} (r:PV _ X x y)=>tw (aB t)<|r;tf (λn=>tb λw i=>have d:=λ{X x y} (r:PV _ X x y)=>c<|tg 4 n<|tw (cP t)<|bQ (pg _ i)<|r;tf (λp=>d<|tg 9 p<|tE) λp=>have e:=λ{X x y} (r:PV _ X x y)=>d<|tg 9 p<|tw (bF t)<|bz (dN.ln t.Preds)<|r;tf (λq=>e<|tg 16 q<|tE) λq=>have h:=λ{X x y} (r:PV _ X x y)=>e<|tg 16 q<|tw (aB t)<|r;tf (λs=>h<|tg 20 s<|tw (bF t)<|bz (dN.ln t.Preds)<|tE) λs=>h<|tg 20 s<|tE) λn=>have a:=λ{X x y} (r:PV _ X x y)=>c<|tg 4 n<|tw (aB t)<|r;tf (λb=>a<|tg 20 b<|tw (bF t)<|bz (dN.ln t.Preds)<|tE) λb=>a<|tg 20 b<|tE
end
section
variable(t:am)(a:K)(m:V Int)(m2:K)
def gQ:Q (V Int):=if a then (aa ([ez]:V ae) m m2).bind λb=>O b else O m
def Mz:OJ 1 (cA qvN 30) (gQ a m m2) .normal (λo=>aM 119 [(2,.bptr 1 0),(3,.eptr (al t)),(4,.bool a)] [cw 0 o m2,.cells [.bptr 0 0] [],.dead] []) (aM 119 [(2,.bptr 1 0),(3,.eptr (al t)),(4,.bool a)] [cw 0 m m2,.cells [.bptr 0 0] [],.dead] []):=qvo.j<|tF (tb λc b=>ts<|tv (aP [ez] 1 rfl)<|tc [0] (af _ b)<|tE)<|tE
end
section
variable(e:cM)(t:am)(a:K)(c:oy)(d b:Int)(m:V Int)(m2:K)
def pC:aF:=aM 119 [(2,.bptr 1 0),(3,.eptr (al t)),(4,.bool a),(74,sl al c),(75,.i6 d),(76,.i6 b)] [cw 0 m m2,.cells [.bptr 0 0] [],.dead] []
def zd(o:V Int×K):aF:=aM 119 [(2,.bptr 1 0),(3,.eptr (al t)),(4,.bool a)] [cw 0 o.1 o.2,.cells [.bptr 0 0] [],.dead] []
instance qDO:KS 1 (pC t a c d b m m2):=ks 3 rfl
instance qDG{o:List Int×Bool}:KS 1 (zd t a o):=ks 3 rfl
def zc:Q ((Int×V Int×K)⊕(V Int×K)):=if Y (b<d)then (bY c b).bind λn=>(aa ([bZ]:V ae) m m2).bind λi=>(kg e n i m2).bind λh=>O (.inl (cz (b+1),h.1,h.2)) else O (.inr (m,m2))
def tz:Q (V Int×K):=loop (λ(h:Int×V Int×K)=>zc e c d h.1 h.2.1 h.2.2) (b,m,m2)
def Kx(p:ee e):OL 1 (cA qvN 8257495) (zc e c d b m m2) (λ(q:Int×V Int×K)=>pC t a c d q.1 q.2.1 q.2.2) (λ_=>.exit 1) (zd t a) (pC t a c d b m m2):=qvo.lx<|tF (tb λh o=>tb λr i=>tb λs n=>tv (cQ.ia o)<|tv (cc h)<|tx RZ<|tx (ij h)<|ts<|tv (aP [bZ] 1 rfl)<|tc [0] (af _ i)<|ts<|tv (eK h [])<|tc [0] (y7 e p _ n)<|tE)<|tE
def MB(h:ee e):=nu (s:=(b,m,m2)) λi=>Kx e t a c d i.1 i.2.1 i.2.2 h
end
section
variable(b:cM)(t:am)(a:K)(m:V Int)(m2:K)
def eS:Q (V Int×K):=if(t.Op==1)then (aa ([Yw]:V ae) m m2).bind λn=>O (n,m2) else if(t.Op==2)then (aa ([QL]:V ae) m m2).bind λo=>O (o,m2) else if(t.Op==3)then (aa ([QM]:V ae) m m2).bind λp=>O (p,m2) else if(t.Op==5)then (aW t.Name m m2).bind λe=>O (e.2,e.1) else if(t.Op==4)then (bw t.Name m m2).bind λh=>(tz b t.Args (t.Args.length:Int) 0 h.2 h.1).bind λc=>if Y ((t.Preds.length:Int)>0)then (aa ([yr]:V ae) c.1 c.2).bind λq=>(hZ (t.Preds.length:Int) t q c.2).bind λd=>(aa ([Wj]:V ae) d.1 d.2).bind λr=>O (r,d.2) else O (c.1,c.2) else if(t.Op==6)then (kF b t m m2).bind λi=>O (i.1,i.2) else O (m,m2)
def MA(c:ee b):OJ 1 (cA qvN 62) (eS b t m m2) .normal (λo=>aM 119 [(2,.bptr 1 0),(3,.eptr (al t)),(4,.bool a)] [cw 0 o.1 o.2,.cells [.bptr 0 0] [],.dead] []) (aM 119 [(2,.bptr 1 0),(3,.eptr (al t)),(4,.bool a)] [cw 0 m m2,.cells [.bptr 0 0] [],.dead] []):=qvo.j<|tw (aB t)<|tF (tb λz e=>ts<|tv (aP [Yw] 1 rfl)<|tc [0] (af _ e)<|tE)<|tF (tb λA h=>ts<|tv (aP [QL] 1 rfl)<|tc [0] (af _ h)<|tE)<|tF (tb λB i=>ts<|tv (aP [QM] 1 rfl)<|tc [0] (af _ i)<|tE)<|tF (tb λE n=>ts<|tw (cm t)<|tc [0] (bD _ n)<|tE)<|tF (tb λx p=>tb λy d=>ts<|tw (cm t)<|tc [0] (du _ p)<|tw (aN t)<|bz (cQ.ln t.Args)<|bJ (MB b t a t.Args (t.Args.length:Int) 0 x.2 x.1 c _ d)<|tw (bF t)<|bz (dN.ln t.Preds)<|tF (tb λF q=>tb λH r=>tb λL s=>ts<|tv (aP [yr] 1 rfl)<|tc [0] (af _ q)<|ts<|tw (bF t)<|bz (dN.ln t.Preds)<|tc [0,1] (I7 _ r)<|ts<|tv (aP [Wj] 1 rfl)<|tc [0] (af _ s)<|tE)<|tE)<|tF (tb λP w=>ts<|tv (cc t)<|tc [0] (Jf b c _ w)<|tE)<|tE
end
def oh(e:cM)(t:am)(o:V Int)(c:K):Q (K×V Int):=(mC t).bind λh=>if h then O (T,o) else (kk t.Pred).bind λd=>(gQ (!d) o c).bind λi=>(eS e t i c).bind λa=>if(!d)then (aa ([gX]:V ae) a.1 a.2).bind λm=>(cy t.Pred m a.2).bind λb=>(aa ([Iu]:V ae) b.1 b.2).bind λn=>O (b.2,n) else O (a.2,a.1)
def QC(b:cM)(o:ee b){t:am}{q:V Int}{a:K}:OG 53 [.bptr 0 0,.agg (al t)] [] [cw 0 q a] (oh b t q a) (λr=>.tuple []) [] (λr=>[cw 0 r.2 r.1]):=qvo.g 1<|tb λw c=>qls (rfl:bH (.bptr 0 0)=O [.bptr 0 0]) rfl<|te (eM t)<|ey 1<|bJ (My t q a _ c)<|tF (ts<|ts<|tE)<|tb λp h=>tb λs d=>tb λx e=>tw (cP t)<|bQ (pg _ h)<|ey 0<|bJ (Mz t (!p) q a _ d)<|ey 0<|bJ (MA b t (!p) s a o _ e)<|tF (tb λy i=>tb λz m=>tb λA n=>ts<|tv (aP [gX] 1 rfl)<|tc [0] (af _ i)<|ts<|tw (cP t)<|tc [0] (fg _ m)<|ts<|tv (aP [Iu] 1 rfl)<|tc [0] (af _ n)<|tE)<|tE
def ki:((am×V Int×K)->Q (K×V Int))->(am×V Int×K)->Q (K×V Int):=λ(rec:(am×V Int×K)->Q (K×V Int)) (x:am×V Int×K)=>oh (λt b a=>rec (t,b,a)) x.1 x.2.1 x.2.2
def na(t:am)(b:V Int)(a:K):Q (K×V Int):=rT ki (t,b,a)
def Dt{t:am}{c:V Int}{a:K}:OG 53 [.bptr 0 0,.agg (al t)] [] [cw 0 c a] (na t c a) (λr=>.tuple []) [] (λr=>[cw 0 r.2 r.1]):=qkZ λ_ h=>d7 (F:=ki) (M:=λ(x:am×V Int×K) (r:K×V Int)=>C Pg GE 53 [.bptr 0 0,.agg (al x.1)] [] [cw 0 x.2.1 x.2.2] (.tuple []) [] [cw 0 r.2 r.1]) (λrec b x r h=>QC _ (λt c a=>qkZ λr h=>b (t,c,a) r h) _ h) h
noncomputable def qB2:W:=f22.body.getD .skip
def qBs:ZF Pg [] 22 f22 qB2:=zf call22 func22 rfl mixed
def cV(t:am)(b:V Int)(a:K):Q (K×V Int):=(nF t).bind λd=>if(d !=0)then O (T,b) else (na t b a).bind λc=>O (c.1,c.2)
def dS{t:am}{d:V Int}{a:K}:OG 22 [.bptr 0 0,.agg (al t)] [] [cw 0 d a] (cV t d a) (λr=>.tuple []) [] (λr=>[cw 0 r.2 r.1]):=qBs.g 1<|tb λe b=>te (eM t)<|tv (cc t)<|bQ (yp _ b)<|tF (ts<|tE)<|tb λh c=>tv (cc t)<|tc [0] (Dt _ c)<|tE
noncomputable def qvw:W:=f140.body.getD .skip
def quV:ZF Pg [] 140 f140 qvw:=zf call140 func140 rfl mixed
section
variable(p:ah)(m:V Int)(m2:K)
def lF:Q K:=if Y (p.Op<10)then O T else O (Y (p.Op>18))
def Kw:OU 1 (cA qvw 12) (lF p) .normal (λo=>[(11,.bool o)]) (aM 24 [(0,.bptr 0 0),(3,.eptr (ag p))] [cw 0 m m2,.dead] []):=quV.j<|
 have a:=λ{X c d} (r:PV _ X c d)=>tw (aE p)<|r;tf (λb=>a<|tg 4 b<|tE) λb=>a<|tg 4 b<|tw (aE p)<|tE
end
def xM(p:ah)(c:V Int)(a:K):Q (V Int×K):=(lF p).bind λe=>if e then (cy p c a).bind λd=>O (d.1,d.2) else (aa ([dl]:V ae) c a).bind λh=>(cy p h a).bind λb=>(aa ([dM]:V ae) b.1 b.2).bind λi=>O (i,b.2)
def QB{p:ah}{i:V Int}{a:K}:OG 140 [.bptr 0 0,.agg (ag p)] [] [cw 0 i a] (xM p i a) (λr=>.tuple []) [] (λr=>[cw 0 r.1 r.2]):=quV.g 1<|tb λm b=>te (dU p)<|ey 1<|bJ (Kw p i a _ b)<|tF (tb λn c=>tv (bA p)<|tc [0] (fg _ c)<|tE)<|tb λo d=>tb λq e=>tb λs h=>tv (aP [dl] 1 rfl)<|tc [0] (af _ d)<|tv (bA p)<|tc [0] (fg _ e)<|tv (aP [dM] 1 rfl)<|tc [0] (af _ h)<|tE
noncomputable def qyN:W:=f139.body.getD .skip
def qxD:ZF Pg [] 139 f139 qyN:=zf call139 func139 rfl mixed
def kh(i:Int)(a:iQ)(d:V Int)(b:K):Q (V Int×K):=(bY a.Metric i).bind λe=>(xM e d b).bind λc=>O (c.1,c.2)
def Oh{i:Int}{a:iQ}{e:V Int}{b:K}:OG 139 [.i6 i,.bptr 0 0,.eptr (cu a)] [] [.cells [.bptr 1 0] [],cw 1 e b] (kh i a e b) (λr=>.tuple []) [] (λr=>[.cells [.bptr 1 0] [],cw 1 r.1 r.2]):=qxD.g 2<|tb λh d=>tb λm c=>tk<|MO (.dx [0,0,2,0,14,30] [] [] [])<|ts<|tw (n6 a)<|tv (dN.ia d)<|tv (bA h)<|tc [1] (QB _ c)<|tE
section
variable(v:iQ)(i a:Int)(m:V Int)(m2:K)
def iw:Q (V Int):=if Y (i>0)then (aa ([ch]:V ae) m m2).bind λb=>O b else O m
def D9:OJ 2 (cA Ze 1014) (iw i m m2) .normal (λo=>aM 20 [(0,.bptr 0 0),(2,.func (.func 139) [] [.bptr 1 0,.eptr (cu v)]),(6,.i6 i),(7,.i6 a),(8,.i6 i)] [cw 0 o m2,.cells [.bptr 0 0] []] []) (aM 20 [(0,.bptr 0 0),(2,.func (.func 139) [] [.bptr 1 0,.eptr (cu v)]),(6,.i6 i),(7,.i6 a),(8,.i6 i)] [cw 0 m m2,.cells [.bptr 0 0] []] []):=Ok.j<|tF (tb λc b=>tv (aP [ch] 1 rfl)<|tc [0] (af _ b)<|tE)<|tE
end
section
variable(v:iQ)(b a:Int)(m:V Int)(m2:K)
def rn:aF:=aM 20 [(0,.bptr 0 0),(2,.func (.func 139) [] [.bptr 1 0,.eptr (cu v)]),(7,.i6 b),(8,.i6 a)] [cw 0 m m2,.cells [.bptr 0 0] []] []
def F0(o:V Int×K):aF:=aM 20 [] [cw 0 o.1 o.2,.cells [.bptr 0 0] []] []
def fe:Q ((Int×V Int×K)⊕(V Int×K)):=if Y (a<b)then (iw a m m2).bind λd=>(kh a v d m2).bind λc=>O (.inl (cz (a+1),c.1,c.2)) else O (.inr (m,m2))
def uC:Q (V Int×K):=loop (λ(c:Int×V Int×K)=>fe v b c.1 c.2.1 c.2.2) (a,m,m2)
def Cu:OL 2 (cA Ze 15) (fe v b a m m2) (λ(e:Int×V Int×K)=>rn v b e.1 e.2.1 e.2.2) (λ_=>.exit 0) F0 (rn v b a m m2):=Ok.l<|tF (tb λh c=>tb λi d=>ey 2<|bJ (D9 v a b m m2 _ c)<|tc [1,0] (Oh _ d)<|tE)<|tE
def Ea:=nu (s:=(a,m,m2)) λc=>Cu v b c.1 c.2.1 c.2.2
end
def kE(n:Int)(c:iQ)(d:V Int)(a:K):Q (V Int×K):=(uC c n 0 d a).bind λb=>O (b.1,b.2)
def I9{n:Int}{c:iQ}{d:V Int}{a:K}:OG 70 [.bptr 0 0,.i6 n,.func (.func 139) [] [.bptr 1 0,.eptr (cu c)]] [] [cw 0 d a,.cells [.bptr 0 0] []] (kE n c d a) (λr=>.tuple []) [] (λr=>[cw 0 r.1 r.2,.cells [.bptr 0 0] []]):=Ok.g 2<|tb λe b=>bJ (Ea c n 0 d a _ b)<|tE
noncomputable def qr7:W:=f81.body.getD .skip
def qr6:ZF Pg [] 81 f81 qr7:=zf call81 func81 rfl mixed
section
variable(s:iQ)(b:waA)(c a:Int)(m:V Int)(m2:K)
def y8:aF:=aM 138 [(2,.bptr 1 0),(3,.eptr (cu s)),(18,sl cS b),(19,.i6 c),(20,.i6 a)] [cw 0 m m2,.cells [.bptr 0 0] [],.dead] []
def Oi(o:V Int×K):aF:=aM 138 [(2,.bptr 1 0),(3,.eptr (cu s))] [cw 0 o.1 o.2,.cells [.bptr 0 0] [],.dead] []
def y9:Q ((Int×V Int×K)⊕(V Int×K)):=if Y (a<c)then (bY b a).bind λh=>(aa ([bZ]:V ae) m m2).bind λe=>(aW h e m2).bind λd=>O (.inl (cz (a+1),d.2,d.1)) else O (.inr (m,m2))
def Ds:Q (V Int×K):=loop (λ(d:Int×V Int×K)=>y9 b c d.1 d.2.1 d.2.2) (a,m,m2)
def Kt:OL 1 (cA qr7 855) (y9 b c a m m2) (λ(i:Int×V Int×K)=>y8 s b c i.1 i.2.1 i.2.2) (λ_=>.exit 0) (Oi s) (y8 s b c a m m2):=qr6.l<|tF (tb λn h=>tb λo d=>tb λp e=>tv (dX.ia h)<|tv (dz ZC (.str n) [])<|ts<|tv (aP [bZ] 1 rfl)<|tc [0] (af _ d)<|ts<|tc [0] (bD _ e)<|tE)<|tE
def Mw:=nu (s:=(a,m,m2)) λd=>Kt s b c d.1 d.2.1 d.2.2
end
section
variable(s:iQ)(m:V Int)(m2:K)
def mw:Q (V Int×K):=if Y ((s.Vars.length:Int)>0)then (aa ([Wl]:V ae) m m2).bind λb=>(Ds s.Vars (s.Vars.length:Int) 0 b m2).bind λa=>(aa ([oW]:V ae) a.1 a.2).bind λc=>O (c,a.2) else O (m,m2)
def Mr:OJ 1 (cA qr7 6) (mw s m m2) .normal (λo=>aM 138 [(2,.bptr 1 0),(3,.eptr (cu s))] [cw 0 o.1 o.2,.cells [.bptr 0 0] [],.dead] []) (aM 138 [(2,.bptr 1 0),(3,.eptr (cu s))] [cw 0 m m2,.cells [.bptr 0 0] [],.dead] []):=qr6.j<|tw (pZ s)<|bz (dX.ln s.Vars)<|tF (tb λd b=>tb λe a=>tb λh c=>ts<|tv (aP [Wl] 1 rfl)<|tc [0] (af _ b)<|tw (pZ s)<|bz (dX.ln s.Vars)<|bJ (Mw s s.Vars (s.Vars.length:Int) 0 d m2 _ a)<|ts<|tv (aP [oW] 1 rfl)<|tc [0] (af _ c)<|tE)<|tE
end
section
variable(s:iQ)(m:V Int)(m2:K)
def my:Q (V Int×K):=if Y ((s.Needs.length:Int)>0)then (aa ([MS]:V ae) m m2).bind λb=>(kf s.Needs b m2).bind λa=>(aa ([oW]:V ae) a.1 a.2).bind λc=>O (c,a.2) else O (m,m2)
def Ms:OJ 1 (cA qr7 14) (my s m m2) .normal (λo=>aM 138 [(2,.bptr 1 0),(3,.eptr (cu s))] [cw 0 o.1 o.2,.cells [.bptr 0 0] [],.dead] []) (aM 138 [(2,.bptr 1 0),(3,.eptr (cu s))] [cw 0 m m2,.cells [.bptr 0 0] [],.dead] []):=qr6.j<|tw (p5 s)<|bz (qgX.ln s.Needs)<|tF (tb λd a=>tb λe b=>tb λh c=>ts<|tv (aP [MS] 1 rfl)<|tc [0] (af _ a)<|ts<|tw (p5 s)<|tc [0] (y5 _ b)<|ts<|tv (aP [oW] 1 rfl)<|tc [0] (af _ c)<|tE)<|tE
end
section
variable(s:iQ)(m:V Int)(m2:K)
def mz:Q (V Int×K):=if Y ((s.Abs.length:Int)>0)then (aa ([KW]:V ae) m m2).bind λb=>(kC (s.Abs.length:Int) s b m2).bind λa=>(aa ([Is]:V ae) a.1 a.2).bind λc=>O (c,a.2) else O (m,m2)
def Mt:OJ 1 (cA qr7 30) (mz s m m2) .normal (λo=>aM 138 [(2,.bptr 1 0),(3,.eptr (cu s))] [cw 0 o.1 o.2,.cells [.bptr 0 0] [],.dead] []) (aM 138 [(2,.bptr 1 0),(3,.eptr (cu s))] [cw 0 m m2,.cells [.bptr 0 0] [],.dead] []):=qr6.j<|tw (jb s)<|bz (qj4.ln s.Abs)<|tF (tb λd a=>tb λe b=>tb λh c=>ts<|tv (aP [KW] 1 rfl)<|tc [0] (af _ a)<|ts<|tw (jb s)<|bz (qj4.ln s.Abs)<|tc [0,1] (I5 _ b)<|ts<|tv (aP [Is] 1 rfl)<|tc [0] (af _ c)<|tE)<|tE
end
section
variable(s:iQ)(e:V fi)(h i:Int)(m:V Int)(m2:K)(n:ae)(a:waG)(p:Int)(q:ae)(r:Int)(t:pi)(w:Int)(b:ae)(c:Int)(d:pi)
def mA:Q K:=if m2 then O T else O ((a.length:Int)==0)
def Mu:OJ 1 (cA qr7 32246) (mA m2 a) .normal (λo=>aM 138 [(2,.bptr 1 0),(3,.eptr (cu s)),(7,.bptr 3 0),(65,sl bU e),(66,.i6 h),(67,.i6 i)] [cw 0 m o,.cells [.bptr 0 0] [],.dead,.cells [.str n,sl cp a,.i6 p,.str q,.i6 r,sl ag t,.i6 w,.str b,.i6 c,sl ag d] []] []) (aM 138 [(2,.bptr 1 0),(3,.eptr (cu s)),(7,.bptr 3 0),(65,sl bU e),(66,.i6 h),(67,.i6 i)] [cw 0 m m2,.cells [.bptr 0 0] [],.dead,.cells [.str n,sl cp a,.i6 p,.str q,.i6 r,sl ag t,.i6 w,.str b,.i6 c,sl ag d] []] []):=qr6.j<|tf (λx=>qc1 [0,0,2,6,14,30,62,126,254,510,1022,2047,4095,8191]<|ts<|ts<|ts<|tg 6 x<|quB (rfl:bH (.bool T)=O [.bool T])<|tE) λx=>qc1 [0,0,2,6,14,30,62,126,254,510,1022,2047,4095,8191]<|ts<|ts<|ts<|tg 6 x<|ts<|bz (R7.ln a)<|quB (rfl:bH (.bool ((a.length:Int)==0))=O [.bool ((a.length:Int)==0)])<|tE
end
section
variable(s:iQ)(e:V fi)(h i:Int)(m:V Int)(m2:K)(n:ae)(p:waG)(q:Int)(r:ae)(t:Int)(w:pi)(d:Int)(a:ae)(b:Int)(c:pi)
def mB:Q (ae×ae):=(Ic (⟨d,a,b,c⟩:ah)).bind λo=>if o then O (dK,oW) else O (lH,BO)
def Mv:OU 1 (cA qr7 8255486) (mB d a b c) .normal (λo=>[(8,.str o.1),(9,.str o.2)]) (aM 138 [(2,.bptr 1 0),(3,.eptr (cu s)),(7,.bptr 3 0),(8,.str lH),(9,.str BO),(65,sl bU e),(66,.i6 h),(67,.i6 i)] [cw 0 m m2,.cells [.bptr 0 0] [],.dead,.cells [.str n,sl cp p,.i6 q,.str r,.i6 t,sl ag w,.i6 d,.str a,.i6 b,sl ag c] []] []):=qr6.j<|tb λy x=>tv (eJ (⟨d,a,b,c⟩:ah) [])<|bQ (qcw _ x)<|tF tE<|tE
end
section
variable(s:iQ)(b:V fi)(c a:Int)(m:V Int)(m2:K)
def pA:aF:=aM 138 [(2,.bptr 1 0),(3,.eptr (cu s)),(65,sl bU b),(66,.i6 c),(67,.i6 a)] [cw 0 m m2,.cells [.bptr 0 0] [],.dead] []
def zb(o:V Int×K):aF:=aM 138 [(2,.bptr 1 0),(3,.eptr (cu s))] [cw 0 o.1 o.2,.cells [.bptr 0 0] [],.dead] []
instance qDN:KS 1 (pA s b c a m m2):=ks 3 rfl
instance qDF{o:List Int×Bool}:KS 1 (zb s o):=ks 3 rfl
def za:Q ((Int×V Int×K)⊕(V Int×K)):=if Y (a<c)then (bY b a).bind λd=>(mA m2 d.Vars).bind λo=>(aa ([MR]:V ae) m o).bind λq=>(aW d.Name q o).bind λe=>(aa ([fw]:V ae) e.2 e.1).bind λr=>(eX d.Vars Z r e.1).bind λh=>(aa ([Wg]:V ae) h.1 h.2).bind λt=>(fR d.Hyp t h.2).bind λi=>(mB d.Goal.Op d.Goal.Name d.Goal.N d.Goal.Kids).bind λp=>(aa ([p.1]:V ae) i.1 i.2).bind λw=>(fR d.Goal w i.2).bind λn=>(aa ([p.2]:V ae) n.1 n.2).bind λx=>O (.inl (cz (a+1),x,n.2)) else O (.inr (m,m2))
def tu:Q (V Int×K):=loop (λ(d:Int×V Int×K)=>za b c d.1 d.2.1 d.2.2) (a,m,m2)
def Ku:OL 1 (cA qr7 503) (za b c a m m2) (λ(B:Int×V Int×K)=>pA s b c B.1 B.2.1 B.2.2) (λ_=>.exit 2) (zb s) (pA s b c a m m2):=qr6.lx<|tF (tb λd y=>tb λE e=>tb λF i=>tb λH n=>tb λL o=>tb λP p=>tb λR q=>tb λA r=>tb λz h=>tb λS t=>tb λX w=>tb λa0 x=>tv (qpP.ia y)<|tv (qes d)<|tx qsu<|tx (qcc d)<|ey 0<|bJ (Mu s b c a m m2 d.Name d.Vars d.Hyp.Op d.Hyp.Name d.Hyp.N d.Hyp.Kids d.Goal.Op d.Goal.Name d.Goal.N d.Goal.Kids _ e)<|ts<|tv (aP [MR] 1 rfl)<|tc [0] (af _ i)<|ts<|ts<|tc [0] (bD _ n)<|ts<|tv (aP [fw] 1 rfl)<|tc [0] (af _ o)<|ts<|ts<|tc [0] (rB _ p)<|ts<|tv (aP [Wg] 1 rfl)<|tc [0] (af _ q)<|ts<|tv (eJ d.Hyp [.i6 d.Goal.Op,.str d.Goal.Name,.i6 d.Goal.N,sl ag d.Goal.Kids])<|tc [0] (pB _ r)<|ey 1<|bJ (Mv s b c a A.1 A.2 d.Name d.Vars d.Hyp.Op d.Hyp.Name d.Hyp.N d.Hyp.Kids d.Goal.Op d.Goal.Name d.Goal.N d.Goal.Kids _ h)<|ts<|tv (aP [z.1] 1 rfl)<|tc [0] (af _ t)<|ts<|tv (eJ d.Goal [])<|tc [0] (pB _ w)<|ts<|tv (aP [z.2] 1 rfl)<|tc [0] (af _ x)<|tE)<|tE
def Mx:=nu (s:=(a,m,m2)) λd=>Ku s b c d.1 d.2.1 d.2.2
end
def rX(s:iQ)(n:V Int)(h:K):Q (V Int×K):=(mw s n h).bind λm=>(my s m.1 m.2).bind λb=>(mz s b.1 b.2).bind λc=>(tu s.Bounds (s.Bounds.length:Int) 0 c.1 c.2).bind λd=>(cV s.Type_ d.1 d.2).bind λa=>if Y ((s.Metric.length:Int)>0)then (aa ([nk]:V ae) a.2 a.1).bind λi=>(kE (s.Metric.length:Int) s i a.1).bind λe=>O (e.1,e.2) else O (a.2,a.1)
def RY{s:iQ}{p:V Int}{a:K}:OG 81 [.bptr 0 0,.agg (cu s)] [] [cw 0 p a] (rX s p a) (λr=>.tuple []) [] (λr=>[cw 0 r.1 r.2]):=qr6.g 1<|tb λq o=>tb λm b=>tb λn c=>tb λt d=>tb λw e=>qls (rfl:bH (.bptr 0 0)=O [.bptr 0 0]) rfl<|te (qk7 s)<|ey 0<|bJ (Mr s p a _ o)<|ey 0<|bJ (Ms s q.1 q.2 _ b)<|ey 0<|bJ (Mt s m.1 m.2 _ c)<|tw (HK s)<|bz (qpP.ln s.Bounds)<|bJ (Mx s s.Bounds (s.Bounds.length:Int) 0 n.1 n.2 _ d)<|ts<|tw (HL s)<|tc [0] (dS _ e)<|tw (n6 s)<|bz (dN.ln s.Metric)<|tF (tb λx h=>tb λy i=>ts<|tv (aP [nk] 1 rfl)<|tc [0] (af _ h)<|ts<|tw (n6 s)<|bz (dN.ln s.Metric)<|tc [0,1] (I9 _ i)<|tE)<|tE
abbrev g7:=(aj->Int->Q (K×Int))
abbrev g5(R:g7):Prop:=∀(e:aj)(a:Int),OG 104 [.agg (ak e),.func (.func 155) [] [.bptr 0 0]] [] [.cells [.i6 a] []] (R e a) (λr=>.bool r.1) [] (λr=>[.cells [.i6 r.2] []])
noncomputable def qyQ:W:=f155.body.getD .skip
def qxG:ZF Pg [] 155 f155 qyQ:=zf call155 func155 rfl mixed
def kq(a:aj)(b:Int):Q (K×Int):=O (T,cz (b+1))
def V5{a:aj}{b:Int}:OG 155 [.agg (ak a),.bptr 0 0] [] [.cells [.i6 b] []] (kq a b) (λr=>.bool r.1) [] (λr=>[.cells [.i6 r.2] []]):=qxG.g 1<|te (cd a)<|ts<|ts<|tE
noncomputable def qfC:W:=f104.body.getD .skip
def qlH:ZF Pg [] 104 f104 qfC:=zf call104 func104 rfl mixed
section
variable(d:g7)(e:aj)(b:waD)(c a m:Int)
def iC:aF:=aM 38 [(1,.func (.func 155) [] [.bptr 0 0]),(2,.eptr (ak e)),(14,sl ak b),(15,.i6 c),(16,.i6 a)] [.cells [.i6 m] [],.dead] []
def uP(o:Int⊕(Int)):Exit:=match o with|(.inl _)=>.ret|(.inr _)=>.exit 0
def ma(o:Int⊕(Int)):aF:=match o with|(.inl o)=>aM 38 [(4,.bool Z)] [.cells [.i6 o] [],.dead] []|(.inr o)=>aM 38 [(1,.func (.func 155) [] [.bptr 0 0]),(2,.eptr (ak e))] [.cells [.i6 o] [],.dead] []
instance qDr:KS 1 (iC e b c a m):=ks 2 rfl
instance qDj{o:Int⊕(Int)}:KS 1 (ma e o):=match o with|(.inl o)=>ks 2 rfl|(.inr o)=>ks 2 rfl
def ej:Q ((Int×Int)⊕(Int⊕(Int))):=if Y (a<c)then (bY b a).bind λi=>(d i m).bind λh=>if(!h.1)then O (.inr (.inl h.2)) else O (.inl (cz (a+1),h.2)) else O (.inr (.inr m))
def yn:Q (Int⊕(Int)):=loop (λ(h:Int×Int)=>ej d b c h.1 h.2) (a,m)
def Gp(h:g5 d):OL 1 (cA qfC 119) (ej d b c a m) (λ(p:Int×Int)=>iC e b c p.1 p.2) uP (ma e) (iC e b c a m):=qlH.lx<|tF (tb λo n=>tb λq i=>tv (dO.ia n)<|tv (aK o)<|tx ZB<|tx (wc o)<|tv (ga o [])<|tc [0] (h _ _ _ i)<|tF tE<|tE)<|tE
def sG(h:g5 d):OK 1 (.loop (cA qfC 119)) (yn d b c a m) uP (ma e) (iC e b c a m):=Bz λ_=>Gp _ _ _ _ _ _ h
end
section
variable(d:g7)(b:IO)(c a m:Int)
def iD:aF:=aM 38 [(1,.func (.func 155) [] [.bptr 0 0]),(26,sl bL b),(27,.i6 c),(28,.i6 a)] [.cells [.i6 m] [],.dead] []
def uQ(o:Int⊕(Int)):Exit:=match o with|(.inl _)=>.ret|(.inr _)=>.exit 2
def mb(o:Int⊕(Int)):aF:=match o with|(.inl o)=>aM 38 [(4,.bool Z)] [.cells [.i6 o] [],.dead] []|(.inr o)=>aM 38 [] [.cells [.i6 o] [],.dead] []
instance qDs:KS 1 (iD b c a m):=ks 2 rfl
instance qDk{o:Int⊕(Int)}:KS 1 (mb o):=match o with|(.inl o)=>ks 2 rfl|(.inr o)=>ks 2 rfl
def eo:Q ((Int×Int)⊕(Int⊕(Int))):=if Y (a<c)then (bY b a).bind λh=>(d h.Body m).bind λe=>if(!e.1)then O (.inr (.inl e.2)) else O (.inl (cz (a+1),e.2)) else O (.inr (.inr m))
def yo:Q (Int⊕(Int)):=loop (λ(e:Int×Int)=>eo d b c e.1 e.2) (a,m)
def Gq(h:g5 d):OL 1 (cA qfC 247) (eo d b c a m) (λ(o:Int×Int)=>iD b c o.1 o.2) uQ mb (iD b c a m):=qlH.lx<|tF (tb λn i=>tb λp e=>tv (fT.ia i)<|tv (rV n)<|tx SV<|tx (oH n)<|tv (ga n.Body [])<|tc [0] (h _ _ _ e)<|tF tE<|tE)<|tE
def sH(e:g5 d):OK 1 (.loop (cA qfC 247)) (yo d b c a m) uQ mb (iD b c a m):=Bz λ_=>Gq _ _ _ _ _ e
end
def kM(b:g7)(e:aj)(h:Int):Q (K×Int):=(kq e h).bind λd=>if(!d.1)then O (Z,d.2) else (yn b e.Kids (e.Kids.length:Int) 0 d.2).bind λc=>match c with|(.inl c)=>O (Z,c)| (.inr c) =>(yo b e.Alts (e.Alts.length:Int) 0 c).bind λa=>match a with|(.inl a)=>O (Z,a)|(.inr a)=>O (T,a)
def KK(b:g7)(a:g5 b){e:aj}{n:Int}:OG 104 [.agg (ak e),.func (.func 155) [] [.bptr 0 0]] [] [.cells [.i6 n] []] (kM b e n) (λr=>.bool r.1) [] (λr=>[.cells [.i6 r.2] []]):=qlH.g 1<|tb λo h=>te (cd e)<|tv (aK e)<|tc [0] (V5 _ h)<|tF tE<|tw (au e)<|bz (dO.ln e.Kids)<|t2 (λm d=>bJ (sG b e e.Kids (e.Kids.length:Int) 0 o.2 a _ d)<|tE) λm d=>bJ (sG b e e.Kids (e.Kids.length:Int) 0 o.2 a _ d)<|tw (ay e)<|bz (fT.ln e.Alts)<|t2 (λi c=>bJ (sH b e.Alts (e.Alts.length:Int) 0 m a _ c)<|tE) λi c=>bJ (sH b e.Alts (e.Alts.length:Int) 0 m a _ c)<|tE
def pF:((aj×Int)->Q (K×Int))->(aj×Int)->Q (K×Int):=λ(rec:(aj×Int)->Q (K×Int)) (x:aj×Int)=>kM (λe a=>rec (e,a)) x.1 x.2
def tG(e:aj)(a:Int):Q (K×Int):=rT pF (e,a)
def MN{e:aj}{b:Int}:OG 104 [.agg (ak e),.func (.func 155) [] [.bptr 0 0]] [] [.cells [.i6 b] []] (tG e b) (λr=>.bool r.1) [] (λr=>[.cells [.i6 r.2] []]):=qkZ λ_ h=>d7 (F:=pF) (M:=λ(x:aj×Int) (r:K×Int)=>C Pg GE 104 [.agg (ak x.1),.func (.func 155) [] [.bptr 0 0]] [] [.cells [.i6 x.2] []] (.bool r.1) [] [.cells [.i6 r.2] []]) (λrec a x r h=>KK _ (λe b=>qkZ λr h=>a (e,b) r h) _ h) h
noncomputable def qyu:W:=f102.body.getD .skip
def qxj:ZF Pg [] 102 f102 qyu:=zf call102 func102 rfl mixed
def En(e:aj):Q Int:=(tG e 0).bind λa=>O a.2
def ZI{e:aj}:OV 102 [.agg (ak e)] (En e) (λr=>.i6 r) []:=qxj.v<|tb λb a=>te (cd e)<|tx qCP<|ts<|tv (aK e)<|tc [1] (MN _ a)<|ts<|tE
abbrev qA:=(aj->Q Int)
abbrev qg(R:qA):Prop:=∀(e:aj),OV 103 [.agg (ak e)] (R e) (λr=>.i6 r) []
noncomputable def qs2:W:=f103.body.getD .skip
def qsJ:ZF Pg [] 103 f103 qs2:=zf call103 func103 rfl mixed
section
variable(c:qA)(e:aj)(d:waD)(b n a:Int)
def ya:aF:=aM 35 [(1,.eptr (ak e)),(3,.i6 n),(9,sl ak d),(10,.i6 b),(11,.i6 a)] [.dead] []
def Ig(o:Int):aF:=aM 35 [(1,.eptr (ak e)),(3,.i6 o)] [.dead] []
instance qES:KS 0 (ya e d b n a):=ks 1 rfl
instance qEI{o:Int}:KS 0 (Ig e o):=ks 1 rfl
def gG:Q ((Int×Int)⊕(Int)):=if Y (a<b)then (bY d a).bind λi=>(c i).bind λh=>O (.inl ((if h>n then h else n),cz (a+1))) else O (.inr n)
def CD:Q Int:=loop (λ(h:Int×Int)=>gG c d b h.1 h.2) (n,a)
def Sa(h:qg c):OL 0 (cA qs2 119) (gG c d b n a) (λ(p:Int×Int)=>ya e d b p.1 p.2) (λ_=>.exit 0) (Ig e) (ya e d b n a):=qsJ.lx<|tF (tb λo m=>tb λq i=>tv (dO.ia m)<|tv (aK o)<|tx ZB<|tx (wc o)<|tv (ga o [])<|bQ (h _ _ i)<|tE)<|tE
def TT(h:qg c):=nu (s:=(n,a)) λi=>Sa c e d b i.1 i.2 h
end
section
variable(d:qA)(b:IO)(c n a:Int)
def yb:aF:=aM 35 [(3,.i6 n),(21,sl bL b),(22,.i6 c),(23,.i6 a)] [.dead] []
def Ih(o:Int):aF:=aM 35 [(3,.i6 o)] [.dead] []
instance qET:KS 0 (yb b c n a):=ks 1 rfl
instance qEJ{o:Int}:KS 0 (Ih o):=ks 1 rfl
def gH:Q ((Int×Int)⊕(Int)):=if Y (a<c)then (bY b a).bind λh=>(d h.Body).bind λe=>O (.inl ((if e>n then e else n),cz (a+1))) else O (.inr n)
def CE:Q Int:=loop (λ(e:Int×Int)=>gH d b c e.1 e.2) (n,a)
def Sb(e:qg d):OL 0 (cA qs2 247) (gH d b c n a) (λ(o:Int×Int)=>yb b c o.1 o.2) (λ_=>.exit 2) Ih (yb b c n a):=qsJ.lx<|tF (tb λm i=>tb λp h=>tv (fT.ia i)<|tv (rV m)<|tx SV<|tx (oH m)<|tv (ga m.Body [])<|bQ (e _ _ h)<|tE)<|tE
def TU(e:qg d):=nu (s:=(n,a)) λh=>Sb d b c h.1 h.2 e
end
def xZ(a:qA)(e:aj):Q Int:=(CD a e.Kids (e.Kids.length:Int) 0 0).bind λb=>(CE a e.Alts (e.Alts.length:Int) b 0).bind λc=>O (cz (c+1))
def XM(a:qA)(b:qg a){e:aj}:OV 103 [.agg (ak e)] (xZ a e) (λr=>.i6 r) []:=qsJ.v<|tb λh c=>tb λi d=>te (cd e)<|tw (au e)<|bz (dO.ln e.Kids)<|bJ (TT a e e.Kids (e.Kids.length:Int) 0 0 b _ c)<|tw (ay e)<|bz (fT.ln e.Alts)<|bJ (TU a e.Alts (e.Alts.length:Int) h 0 b _ d)<|tE
def Gi:(aj->Q Int)->(aj)->Q Int:=λ(rec:aj->Q Int) (x:aj)=>xZ (λe=>rec e) x
def MK(e:aj):Q Int:=rT Gi e
def ZH{e:aj}:OV 103 [.agg (ak e)] (MK e) (λr=>.i6 r) []:=HU λ_ h=>d7 (F:=Gi) (M:=λ(x:aj) (r:Int)=>CC Pg GE 103 [.agg (ak x)] (.i6 r) []) (λrec a x r h=>XM _ (λe=>HU λr h=>a e r h) _ h) h
abbrev g6:=(aj->Int->Q (K×Int))
abbrev gY(R:g6):Prop:=∀(e:aj)(a:Int),OG 104 [.agg (ak e),.func (.func 105) [] [.bptr 0 0]] [] [.cells [.i6 a] []] (R e a) (λr=>.bool r.1) [] (λr=>[.cells [.i6 r.2] []])
noncomputable def qqI:W:=f156.body.getD .skip
def qqo:ZF Pg [] 156 f156 qqI:=zf call156 func156 rfl mixed
section
variable(a:Int)
def zX:Q K:=if(a==1)then O (a==1) else O (a==2)
def Si:OU 0 (cA qqI 54) (zX a) .normal (λo=>[(5,.bool o)]) (aM 56 [(2,.bptr 0 0),(4,.i6 a)] [.cells [.bool Z,.bool Z,.i6 0,.i6 0,.bool Z,.bool Z,.i6 0,.i6 0,.bool Z] []] []):=qqo.j<|tF tE<|tE
end
section
variable(a:Int)
def zY:Q K:=if(a==10)then O (a==10) else if(a==11)then O (a==11) else if(a==12)then O (a==12) else if(a==13)then O (a==13) else if(a==14)then O (a==14) else if(a==16)then O (a==16) else if(a==17)then O (a==17) else if(a==18)then O (a==18) else if(a==19)then O (a==19) else if(a==20)then O (a==20) else O (a==24)
def Sj:OU 0 (cA qqI 3670014) (zY a) .normal (λo=>[(30,.bool o)]) (aM 56 [(2,.bptr 0 0),(4,.i6 a)] [.cells [.bool Z,.bool Z,.i6 0,.i6 0,.bool Z,.bool Z,.i6 0,.i6 0,.bool Z] []] []):=qqo.j<|tF tE<|tF tE<|tF tE<|tF tE<|tF tE<|tF tE<|tF tE<|tF tE<|tF tE<|tF tE<|tE
end
section
variable(a:Int)
def zZ:Q K:=if(a==15)then O (a==15) else if(a==21)then O (a==21) else if(a==22)then O (a==22) else O (a==23)
def Sk:OU 0 (cA qqI 14680062) (zZ a) .normal (λo=>[(43,.bool o)]) (aM 56 [(2,.bptr 0 0),(4,.i6 a)] [.cells [.bool Z,.bool Z,.i6 0,.i6 0,.bool Z,.bool Z,.i6 0,.i6 0,.bool Z] []] []):=qqo.j<|tF tE<|tF tE<|tF tE<|tE
end
def uM(a:Int):Q (aD×K):=(zX a).bind λd=>if d then O ((⟨T,Z,0,0,Z,Z,0,0,Z⟩:aD),T) else if(a==3)then O ((⟨Z,T,0,0,Z,Z,0,0,Z⟩:aD),T) else if(a==4)then O ((⟨Z,T,0,6,Z,Z,0,1073741824,T⟩:aD),T) else if(a==5)then O ((⟨Z,T,1,6,Z,Z,0,1073741824,T⟩:aD),T) else if(a==6)then O ((⟨Z,Z,1,1,T,Z,0,0,Z⟩:aD),T) else if(a==7)then O ((⟨Z,T,2,2,Z,Z,0,1,T⟩:aD),T) else if(a==8)then O ((⟨Z,Z,3,3,Z,Z,0,0,Z⟩:aD),T) else if(a==9)then O ((⟨Z,Z,1,1,Z,T,0,0,Z⟩:aD),T) else (zY a).bind λb=>if b then O ((⟨Z,Z,2,2,Z,Z,0,0,Z⟩:aD),T) else (zZ a).bind λc=>if c then O ((⟨Z,Z,1,1,Z,Z,0,0,Z⟩:aD),T) else if(a==25)then O ((⟨Z,T,2,7,Z,Z,0,0,Z⟩:aD),T) else if(a==26)then O ((⟨Z,Z,1,1,Z,Z,1,1,T⟩:aD),T) else O ((⟨Z,Z,0,0,Z,Z,0,0,Z⟩:aD),Z)
def XQ{c:Int}:OV 156 [.i6 c] (uM c) (λr=>.tuple [.agg (aU r.1),.bool r.2]) []:=qqo.v<|tb λi d=>tx qsv<|ey 2<|bJ (Si c _ d)<|tF (tv (UP T)<|tx (dp (⟨T,Z,0,0,Z,Z,0,0,Z⟩:aD))<|Jo λq=>aI (mx PVal.tuple (eQ (dC (⟨T,Z,0,0,Z,Z,0,0,Z⟩:aD)) (eQ (rP (.bool T)) (rfl:([]:V U)=[])))) q.2)<|tF (tv (UQ T)<|tx (dp (⟨Z,T,0,0,Z,Z,0,0,Z⟩:aD))<|Jo λq=>aI (mx PVal.tuple (eQ (dC (⟨Z,T,0,0,Z,Z,0,0,Z⟩:aD)) (eQ (rP (.bool T)) (rfl:([]:V U)=[])))) q.2)<|tF (tv (JI T 6 T 1073741824)<|tx (dp (⟨Z,T,0,6,Z,Z,0,1073741824,T⟩:aD))<|Jo λq=>aI (mx PVal.tuple (eQ (dC (⟨Z,T,0,6,Z,Z,0,1073741824,T⟩:aD)) (eQ (rP (.bool T)) (rfl:([]:V U)=[])))) q.2)<|tF (tv (sj T 1 6 T 1073741824)<|tx (dp (⟨Z,T,1,6,Z,Z,0,1073741824,T⟩:aD))<|Jo λq=>aI (mx PVal.tuple (eQ (dC (⟨Z,T,1,6,Z,Z,0,1073741824,T⟩:aD)) (eQ (rP (.bool T)) (rfl:([]:V U)=[])))) q.2)<|tF (tv (N7 T 1 1)<|tx (dp (⟨Z,Z,1,1,T,Z,0,0,Z⟩:aD))<|Jo λq=>aI (mx PVal.tuple (eQ (dC (⟨Z,Z,1,1,T,Z,0,0,Z⟩:aD)) (eQ (rP (.bool T)) (rfl:([]:V U)=[])))) q.2)<|tF (tv (sj T 2 2 T 1)<|tx (dp (⟨Z,T,2,2,Z,Z,0,1,T⟩:aD))<|Jo λq=>aI (mx PVal.tuple (eQ (dC (⟨Z,T,2,2,Z,Z,0,1,T⟩:aD)) (eQ (rP (.bool T)) (rfl:([]:V U)=[])))) q.2)<|tF (tv (sY 3 3)<|tx (dp (⟨Z,Z,3,3,Z,Z,0,0,Z⟩:aD))<|Jo λq=>aI (mx PVal.tuple (eQ (dC (⟨Z,Z,3,3,Z,Z,0,0,Z⟩:aD)) (eQ (rP (.bool T)) (rfl:([]:V U)=[])))) q.2)<|tF (tv (N8 T 1 1)<|tx (dp (⟨Z,Z,1,1,Z,T,0,0,Z⟩:aD))<|Jo λq=>aI (mx PVal.tuple (eQ (dC (⟨Z,Z,1,1,Z,T,0,0,Z⟩:aD)) (eQ (rP (.bool T)) (rfl:([]:V U)=[])))) q.2)<|tb λe a=>ey 0<|bJ (Sj c _ a)<|tF (tv (sY 2 2)<|tx (dp (⟨Z,Z,2,2,Z,Z,0,0,Z⟩:aD))<|Jo λq=>aI (mx PVal.tuple (eQ (dC (⟨Z,Z,2,2,Z,Z,0,0,Z⟩:aD)) (eQ (rP (.bool T)) (rfl:([]:V U)=[])))) q.2)<|tb λh b=>ey 0<|bJ (Sk c _ b)<|tF (tv (sY 1 1)<|tx (dp (⟨Z,Z,1,1,Z,Z,0,0,Z⟩:aD))<|Jo λq=>aI (mx PVal.tuple (eQ (dC (⟨Z,Z,1,1,Z,Z,0,0,Z⟩:aD)) (eQ (rP (.bool T)) (rfl:([]:V U)=[])))) q.2)<|tF (tv (N6 T 2 7)<|tx (dp (⟨Z,T,2,7,Z,Z,0,0,Z⟩:aD))<|Jo λq=>aI (mx PVal.tuple (eQ (dC (⟨Z,T,2,7,Z,Z,0,0,Z⟩:aD)) (eQ (rP (.bool T)) (rfl:([]:V U)=[])))) q.2)<|tF (tv (GF 1 1 T 1 1)<|tx (dp (⟨Z,Z,1,1,Z,Z,1,1,T⟩:aD))<|Jo λq=>aI (mx PVal.tuple (eQ (dC (⟨Z,Z,1,1,Z,Z,1,1,T⟩:aD)) (eQ (rP (.bool T)) (rfl:([]:V U)=[])))) q.2)<|tv (UR)<|tx (dp (⟨Z,Z,0,0,Z,Z,0,0,Z⟩:aD))<|Jo λq=>aI (mx PVal.tuple (eQ (dC (⟨Z,Z,0,0,Z,Z,0,0,Z⟩:aD)) (eQ (rP (.bool Z)) (rfl:([]:V U)=[])))) q.2
noncomputable def qzg:W:=f208.body.getD .skip
def qx6:ZF Pg [] 208 f208 qzg:=zf call208 func208 rfl mixed
def CG(a:cH):Q K:=O (Y ((a.Names.length:Int)>6))
def TW{a:cH}:OV 208 [.agg (bL a)] (CG a) (λr=>.bool r) []:=qx6.v<|te (qgF a)<|tw (fQ a)<|bz (dX.ln a.Names)<|tE
noncomputable def qtp:W:=f236.body.getD .skip
def qvk:ZF Pg [10,17] 236 f236 qtp:=zf call236 func236 rfl mixed
section
variable(s:IO)(b a:Int)
def ip:aF:=aM 19 [(0,sl bL s),(1,.func (.func 208) [] []),(7,.i6 b),(8,.i6 a)] [] []
def nf(o:Int⊕(Unit)):Exit:=match o with|(.inl _)=>.ret|(.inr _)=>.exit 0
def ng(o:Int⊕(Unit)):aF:=match o with|(.inl o)=>aM 19 [(4,.i6 o)] [] []|(.inr o)=>aM 19 [] [] []
def eD:Q (Int⊕(Int⊕(Unit))):=if Y (a<b)then (bY s a).bind λd=>(CG d).bind λc=>if c then O (.inr (.inl a)) else O (.inl (cz (a+1))) else O (.inr (.inr ()))
def jt:Q (Int⊕(Unit)):=loop (λ(c:Int)=>eD s b c) a
def xX:OL 0 (cA qtp 55) (eD s b a) (λ(h:Int)=>ip s b h) nf ng (ip s b a):=qvk.l<|tF (tb λe d=>tb λi c=>tv (fT.ia d)<|tv (rV e)<|bQ (TW _ c)<|tF tE<|tE)<|tE
def mf:OK 0 (.loop (cA qtp 55)) (jt s b a) nf ng (ip s b a):=Bz λ_=>xX _ _ _
end
def kW(s:IO):Q Int:=(jt s (s.length:Int) 0).bind λa=>match a with|(.inl a)=>O a|(.inr a)=>O (-1)
def CB{s:IO}:OV 236 [sl bL s,.func (.func 208) [] []] (kW s) (λr=>.i6 r) []:=qvk.v<|bz (fT.ln s)<|t2 (λb a=>bJ (mf s (s.length:Int) 0 _ a)<|tE) λb a=>bJ (mf s (s.length:Int) 0 _ a)<|tE
noncomputable def qzf:W:=f207.body.getD .skip
def qx5:ZF Pg [] 207 f207 qzf:=zf call207 func207 rfl mixed
def fL(s:IO):Q K:=(kW s).bind λa=>O (Y (a>=0))
def yG{s:IO}:OV 207 [sl bL s,.func (.func 208) [] []] (fL s) (λr=>.bool r) []:=qx5.v<|tb λb a=>bQ (CB _ a)<|tE
end Go.Proofs.YtibglelmlnfojaaGreatDoor
