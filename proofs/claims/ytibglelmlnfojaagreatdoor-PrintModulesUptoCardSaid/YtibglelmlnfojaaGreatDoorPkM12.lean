/- PROVED: a part of the proof. Conditions: none. -/
import Derived.Test.YtibglelmlnfojaaGreatDoorPkM11
import Derived.Test.YtibglelmlnfojaaGreatDoorPkM10
set_option linter.unusedSimpArgs false set_option linter.defProp false
set_option linter.unusedVariables false
noncomputable section
namespace Go.Proofs.YtibglelmlnfojaaGreatDoor
open Go Go.Proofs.Tryz
open Option renaming some→O,none→N
open Go renaming TypeId→G,Value→D,Program→I,Oper→M,World→J,Code→W
open Bool renaming true→T,false→Z
open Decidable renaming decide→Y
open Go.Proofs.YtibglelmlnfojaaGreatDoor renaming PVal→U
set_option linter.unusedVariables false
set_option linter.defProp false
set_option maxRecDepth 100000
noncomputable def qs5:W:=f129.body.getD .skip
def quQ:ZF Pg [19] 129 f129 qs5:=zf call129 func129 rfl mixed
section
variable(d:fF)(e b:waD)(c a:Int)
def gE:aF:=aM 32 [(1,sl ak e),(2,.func (.func 80) [] []),(15,sl ak b),(16,.i6 c),(17,.i6 a)] [] []
def rF(o:Unit⊕(Unit)):Exit:=match o with|(.inl _)=>.ret|(.inr _)=>.exit 0
def ko(o:Unit⊕(Unit)):aF:=match o with|(.inl o)=>aM 32 [(6,.bool Z)] [] []|(.inr o)=>aM 32 [] [] []
instance qDa:KS 0 (gE e b c a):=ks 0 rfl
instance quN{o:Unit⊕(Unit)}:KS 0 (ko o):=match o with|(.inl o)=>ks 0 rfl|(.inr o)=>ks 0 rfl
def eC:Q (Int⊕(Unit⊕(Unit))):=if Y (a<c)then (bY b a).bind λi=>(bY e a).bind λm=>(d i m).bind λh=>if(!h)then O (.inr (.inl ())) else O (.inl (cz (a+1))) else O (.inr (.inr ()))
def lU:Q (Unit⊕(Unit)):=loop (λ(h:Int)=>eC d e b c h) a
def Cz(h:jP d):OL 0 (cA qs5 119) (eC d e b c a) (λ(q:Int)=>gE e b c q) rF ko (gE e b c a):=quQ.lx<|tF (tb λo m=>tb λp n=>tb λr i=>tv (dO.ia m)<|tv (aK o)<|tx ZB<|tx (wc o)<|tv (dO.ia n)<|tv (aK p)<|tx ZB<|tx (wc p)<|tv (ga o [])<|tv (ga p [])<|bQ (h _ _ _ i)<|tF tE<|tE)<|tE
def qe(h:jP d):OK 0 (.loop (cA qs5 119)) (lU d e b c a) rF ko (gE e b c a):=Bz λ_=>Cz _ _ _ _ _ h
end
def kK(a:fF)(c d:waD):Q K:=if((c.length:Int)!=(d.length:Int))then O Z else (lU a d c (c.length:Int) 0).bind λb=>match b with|(.inl b)=>O Z|(.inr b)=>O T
def Jl(a:fF)(b:jP a){c e:waD}:OV 129 [sl ak c,sl ak e,.func (.func 80) [] []] (kK a c e) (λr=>.bool r) []:=quQ.v<|bz (dO.ln c)<|bz (dO.ln e)<|tF tE<|bz (dO.ln c)<|t2 (λh d=>bJ (qe a e c (c.length:Int) 0 b _ d)<|tE) λh d=>bJ (qe a e c (c.length:Int) 0 b _ d)<|tE
noncomputable def qyJ:W:=f133.body.getD .skip
def qxz:ZF Pg [] 133 f133 qyJ:=zf call133 func133 rfl mixed
def AE(a b:bO):Q K:=if(a.Name==b.Name)then (jv a.Type_ b.Type_).bind λc=>O c else O Z
def XN{a b:bO}:OV 133 [.agg (bk a),.agg (bk b)] (AE a b) (λr=>.bool r) []:=qxz.v<|
 te (qeF a)<|te (qeF b)<|have c:=λ{X i m} (r:PV _ X i m)=>tw (eu a)<|tw (eu b)<|r;tf (λe=>tb λh d=>c<|tg 6 e<|tw (eG a)<|tw (eG b)<|bQ (vJ _ d)<|tE) λe=>c<|tg 6 e<|tE
noncomputable def qs7:W:=f132.body.getD .skip
def quS:ZF Pg [19] 132 f132 qs7:=zf call132 func132 rfl mixed
section
variable(d b:waF)(c a:Int)
def fM:aF:=aM 32 [(1,sl bk d),(2,.func (.func 133) [] []),(15,sl bk b),(16,.i6 c),(17,.i6 a)] [] []
def oT(o:Unit⊕(Unit)):Exit:=match o with|(.inl _)=>.ret|(.inr _)=>.exit 0
def jp(o:Unit⊕(Unit)):aF:=match o with|(.inl o)=>aM 32 [(6,.bool Z)] [] []|(.inr o)=>aM 32 [] [] []
instance R1:KS 0 (fM d b c a):=ks 0 rfl
instance Lf{o:Unit⊕(Unit)}:KS 0 (jp o):=match o with|(.inl o)=>ks 0 rfl|(.inr o)=>ks 0 rfl
def dY:Q (Int⊕(Unit⊕(Unit))):=if Y (a<c)then (bY b a).bind λh=>(bY d a).bind λi=>(AE h i).bind λe=>if(!e)then O (.inr (.inl ())) else O (.inl (cz (a+1))) else O (.inr (.inr ()))
def km:Q (Unit⊕(Unit)):=loop (λ(e:Int)=>dY d b c e) a
def zP:OL 0 (cA qs7 119) (dY d b c a) (λ(o:Int)=>fM d b c o) oT jp (fM d b c a):=quS.lx<|tF (tb λm h=>tb λn i=>tb λp e=>tv (kl.ia h)<|tv (ED m)<|tx qeN<|tx (zI m)<|tv (kl.ia i)<|tv (ED n)<|tx qeN<|tx (zI n)<|tv (qbP m [])<|tv (qbP n [])<|bQ (XN _ e)<|tF tE<|tE)<|tE
def nx:OK 0 (.loop (cA qs7 119)) (km d b c a) oT jp (fM d b c a):=Bz λ_=>zP _ _ _ _
end
def jd(b c:waF):Q K:=if((b.length:Int)!=(c.length:Int))then O Z else (km c b (b.length:Int) 0).bind λa=>match a with|(.inl a)=>O Z|(.inr a)=>O T
def Ge{a c:waF}:OV 132 [sl bk a,sl bk c,.func (.func 133) [] []] (jd a c) (λr=>.bool r) []:=quS.v<|bz (kl.ln a)<|bz (kl.ln c)<|tF tE<|bz (kl.ln a)<|t2 (λd b=>bJ (nx c a (a.length:Int) 0 _ b)<|tE) λd b=>bJ (nx c a (a.length:Int) 0 _ b)<|tE
noncomputable def qyK:W:=f135.body.getD .skip
def qxA:ZF Pg [] 135 f135 qyK:=zf call135 func135 rfl mixed
def AF(b:fF)(a c:cH):Q K:=if(a.Con==c.Con)then (xT a.Names c.Names).bind λd=>if d then (b a.Body c.Body).bind λe=>O e else O Z else O Z
def XO(c:fF)(d:jP c){a b:cH}:OV 135 [.agg (bL a),.agg (bL b)] (AF c a b) (λr=>.bool r) []:=qxA.v<|
 te (qgF a)<|te (qgF b)<|have e:=λ{X s t} (r:PV _ X s t)=>tw (pV a)<|tw (pV b)<|r;tf (λn=>tb λp i=>have h:=λ{X s t} (r:PV _ X s t)=>e<|tg 6 n<|tw (fQ a)<|tw (fQ b)<|bQ (NE _ i)<|r;tf (λo=>tb λq m=>h<|tg 13 o<|tw (vp a)<|tw (vp b)<|bQ (d _ _ _ m)<|tE) λo=>h<|tg 13 o<|tE) λn=>e<|tg 6 n<|tE
noncomputable def qs8:W:=f134.body.getD .skip
def quT:ZF Pg [19] 134 f134 qs8:=zf call134 func134 rfl mixed
section
variable(d:fF)(e b:IO)(c a:Int)
def fN:aF:=aM 32 [(1,sl bL e),(2,.func (.func 135) [] []),(15,sl bL b),(16,.i6 c),(17,.i6 a)] [] []
def oU(o:Unit⊕(Unit)):Exit:=match o with|(.inl _)=>.ret|(.inr _)=>.exit 0
def jq(o:Unit⊕(Unit)):aF:=match o with|(.inl o)=>aM 32 [(6,.bool Z)] [] []|(.inr o)=>aM 32 [] [] []
instance R3:KS 0 (fN e b c a):=ks 0 rfl
instance Pi{o:Unit⊕(Unit)}:KS 0 (jq o):=match o with|(.inl o)=>ks 0 rfl|(.inr o)=>ks 0 rfl
def dZ:Q (Int⊕(Unit⊕(Unit))):=if Y (a<c)then (bY b a).bind λi=>(bY e a).bind λm=>(AF d i m).bind λh=>if(!h)then O (.inr (.inl ())) else O (.inl (cz (a+1))) else O (.inr (.inr ()))
def kn:Q (Unit⊕(Unit)):=loop (λ(h:Int)=>dZ d e b c h) a
def zQ(h:jP d):OL 0 (cA qs8 119) (dZ d e b c a) (λ(q:Int)=>fN e b c q) oU jq (fN e b c a):=quT.lx<|tF (tb λo m=>tb λp n=>tb λr i=>tv (fT.ia m)<|tv (rV o)<|tx SV<|tx (oH o)<|tv (fT.ia n)<|tv (rV p)<|tx SV<|tx (oH p)<|tv (qik o [])<|tv (qik p [])<|bQ (XO d h _ i)<|tF tE<|tE)<|tE
def ny(h:jP d):OK 0 (.loop (cA qs8 119)) (kn d e b c a) oU jq (fN e b c a):=Bz λ_=>zQ _ _ _ _ _ h
end
def je(a:fF)(c d:IO):Q K:=if((c.length:Int)!=(d.length:Int))then O Z else (kn a d c (c.length:Int) 0).bind λb=>match b with|(.inl b)=>O Z|(.inr b)=>O T
def Gf(a:fF)(b:jP a){c e:IO}:OV 134 [sl bL c,sl bL e,.func (.func 135) [] []] (je a c e) (λr=>.bool r) []:=quT.v<|bz (fT.ln c)<|bz (fT.ln e)<|tF tE<|bz (fT.ln c)<|t2 (λh d=>bJ (ny a e c (c.length:Int) 0 b _ d)<|tE) λh d=>bJ (ny a e c (c.length:Int) 0 b _ d)<|tE
noncomputable def qCq:W:=f80.body.getD .skip
def qBQ:ZF Pg [] 80 f80 qCq:=zf call80 func80 rfl mixed
def AG (c:fF) (a b:aj):Q K :=if (a.Op == b.Op) = T then if (a.Name == b.Name) = T then if (a.N == b.N) = T then (kK c a.Kids b.Kids).bind λi=>if i then (fu jv a.Types b.Types).bind λd=>if d then (jd a.Params b.Params).bind λe=>if e then (je c a.Alts b.Alts).bind λh=>O h else O Z else O Z else O Z else O Z else O Z else O Z
def ZJ(c:fF)(d:jP c){a b:aj}:OV 80 [.agg (ak a),.agg (ak b)] (AG c a b) (λr=>.bool r) []:=qBQ.v<|
 te (cd a)<|te (cd b)<|have q:=λ{X P R} (r:PV _ X P R)=>tw (ba a)<|tw (ba b)<|r;tf (λy=>have s:=λ{X P R} (r:PV _ X P R)=>q<|tg 6 y<|tw (bX a)<|tw (bX b)<|r;tf (λz=>have t:=λ{X P R} (r:PV _ X P R)=>s<|tg 13 z<|tw (bE a)<|tw (bE b)<|r;tf (λA=>tb λL x=>have w:=λ{X P R} (r:PV _ X P R)=>t<|tg 20 A<|tw (au a)<|tw (au b)<|bQ (Jl c d _ x)<|r;tf (λB=>tb λE n=>have e:=λ{X P R} (r:PV _ X P R)=>w<|tg 27 B<|tw (aw a)<|tw (aw b)<|bQ (oV jv (λ_ _=>vJ) _ n)<|r;tf (λi=>tb λF o=>have h:=λ{X P R} (r:PV _ X P R)=>e<|tg 34 i<|tw (aO a)<|tw (aO b)<|bQ (Ge _ o)<|r;tf (λm=>tb λH p=>h<|tg 41 m<|tw (ay a)<|tw (ay b)<|bQ (Gf c d _ p)<|tE) λm=>h<|tg 41 m<|tE) λi=>e<|tg 34 i<|tE) λB=>w<|tg 27 B<|tE) λA=>t<|tg 20 A<|tE) λz=>s<|tg 13 z<|tE) λy=>q<|tg 6 y<|tE
def Jn:((aj×aj)->Q K)->(aj×aj)->Q K:=λ(rec:(aj×aj)->Q K) (x:aj×aj)=>AG (λa b=>rec (a,b)) x.1 x.2
def Ii(a b:aj):Q K:=rT Jn (a,b)
def QJ{a c:aj}:OV 80 [.agg (ak a),.agg (ak c)] (Ii a c) (λr=>.bool r) []:=HU λ_ h=>d7 (F:=Jn) (M:=λ(x:aj×aj) (r:K)=>CC Pg GE 80 [.agg (ak x.1),.agg (ak x.2)] (.bool r) []) (λrec b x r h=>ZJ _ (λa c=>HU λr h=>b (a,c) r h) _ h) h
noncomputable def qtg:W:=f177.body.getD .skip
def qu7:ZF Pg [23] 177 f177 qtg:=zf call177 func177 rfl mixed
section
variable(s:ae)(i:Int)
def FF:aF:=aM 24 [(0,.str s),(5,.i6 i)] [] []
def Qk(o:(ae×ae)⊕(Unit)):Exit:=match o with|(.inl _)=>.ret|(.inr _)=>.exit 0
def Ql(o:(ae×ae)⊕(Unit)):aF:=match o with|(.inl o)=>aM 24 [(2,.str o.1),(3,.str o.2),(4,.bool T)] [] []|(.inr o)=>aM 24 [(0,.str s)] [] []
def qR:Q (Int⊕((ae×ae)⊕(Unit))):=if Y (i<(s.length:Int))then (lq s i).bind λa=>if(a==46)then (XK s N (O i)).bind λb=>(XK s (O (cz (i+1))) N).bind λc=>O (.inr (.inl (b,c))) else O (.inl (cz (i+1))) else O (.inr (.inr ()))
def LX:Q ((ae×ae)⊕(Unit)):=loop (λ(a:Int)=>qR s a) i
def Xg:OL 0 (cA qtg 55) (qR s i) (λ(d:Int)=>FF s d) Qk (Ql s) (FF s i):=qu7.l<|bz (nD underlying9 s)<|tF (tb λe a=>tv (gW underlying9 a)<|tF (tb λh b=>tb λm c=>qc1 [0,0,3,0,0,16,56,7,255,511]<|tv (V3 underlying9 b)<|tv (V3 underlying9 c)<|tE)<|tE)<|tE
def No:OK 0 (.loop (cA qtg 55)) (LX s i) Qk (Ql s) (FF s i):=Bz λ_=>Xg _ _
end
def J4(s:ae):Q (ae×ae×K):=(LX s 0).bind λa=>match a with|(.inl a)=>O (a.1,a.2,T)|(.inr a)=>O (s,([]:ae),Z)
def Vi{s:ae}:OV 177 [.str s] (J4 s) (λr=>.tuple [.str r.1,.str r.2.1,.bool r.2.2]) []:=qu7.v<|t2 (λb a=>bJ (No s 0 _ a)<|tE) λb a=>bJ (No s 0 _ a)<|tE
noncomputable def qy1:W:=f180.body.getD .skip
def qxR:ZF Pg [] 180 f180 qy1:=zf call180 func180 rfl mixed
def wa(s:ae):Q K:=if Y ((s.length:Int)>=1)then O (Y ((s.length:Int)<=24)) else O Z
def mX{s:ae}:OV 180 [.str s] (wa s) (λr=>.bool r) []:=qxR.v<|tf (λa=>bz (nD underlying9 s)<|tg 4 a<|bz (nD underlying9 s)<|tE) λa=>bz (nD underlying9 s)<|tg 4 a<|tE
noncomputable def qzm:W:=f222.body.getD .skip
def qyc:ZF Pg [] 222 f222 qzm:=zf call222 func222 rfl mixed
def qS(c:Int):Q K:=if Y (97<=c)then O (Y (c<=122)) else O Z
def xq{c:Int}:OV 222 [.int .u8 c] (qS c) (λr=>.bool r) []:=qyc.v<|tf (λa=>tg 3 a<|tE) λa=>tg 3 a<|tE
noncomputable def qtm:W:=f223.body.getD .skip
def qvg:ZF Pg [] 223 f223 qtm:=zf call223 func223 rfl mixed
section
variable(s:ae)(a:Int)
def vC:aF:=aM 13 [(0,.str s),(5,.agg (eB.map PVal.str)),(6,.i6 a)] [] []
def FD(o:Unit⊕(Unit)):Exit:=match o with|(.inl _)=>.ret|(.inr _)=>.exit 0
def FE(o:Unit⊕(Unit)):aF:=match o with|(.inl o)=>aM 13 [(2,.bool T)] [] []|(.inr o)=>aM 13 [] [] []
def j8:Q (Int⊕(Unit⊕(Unit))):=if Y (a<42)then (bY eB a).bind λb=>if(b==s)then O (.inr (.inl ())) else O (.inl (cz (a+1))) else O (.inr (.inr ()))
def zE:Q (Unit⊕(Unit)):=loop (λ(b:Int)=>j8 s b) a
def Qj:OL 0 (cA qtm 55) (j8 s a) (λ(c:Int)=>vC s c) FD FE (vC s a):=qvg.l<|tF (tb λd b=>tv (Vj (k:=.i64) b)<|tF tE<|tE)<|tE
def Dq:OK 0 (.loop (cA qtm 55)) (zE s a) FD FE (vC s a):=Bz λ_=>Qj _ _
end
def Ar(s:ae):Q K:=(zE s 0).bind λa=>match a with|(.inl a)=>O T|(.inr a)=>O Z
def Xf{s:ae}:OV 223 [.str s] (Ar s) (λr=>.bool r) []:=qvg.v<|tv Vk<|t2 (λb a=>bJ (Dq s 0 _ a)<|tE) λb a=>bJ (Dq s 0 _ a)<|tE
noncomputable def qzn:W:=f224.body.getD .skip
def qyd:ZF Pg [] 224 f224 qzn:=zf call224 func224 rfl mixed
def v8(c:Int):Q K:=if Y (48<=c)then O (Y (c<=57)) else O Z
def FI{c:Int}:OV 224 [.int .u8 c] (v8 c) (λr=>.bool r) []:=qyd.v<|tf (λa=>tg 3 a<|tE) λa=>tg 3 a<|tE
noncomputable def qnz:W:=f178.body.getD .skip
def qqs:ZF Pg [] 178 f178 qnz:=zf call178 func178 rfl mixed
section
variable(s:ae)
def As:Q K:=(wa s).bind λb=>if(!b)then O T else (lq s 0).bind λa=>(qS a).bind λc=>if(!c)then O T else (Ar s).bind λd=>O d
def Xi:OU 0 (cA qnz 12) (As s) .normal (λo=>[(16,.bool o)]) (aM 41 [(0,.str s)] [] []):=qqs.j<|
 tb λn a=>tf (λh=>bQ (mX _ a)<|tg 4 h<|tE) λh=>tb λm c=>tb λp d=>have b:=λ{X t w} (r:PV _ X t w)=>bQ (mX _ a)<|tg 4 h<|tv (gW underlying9 c)<|bQ (xq _ d)<|r;tf (λi=>b<|tg 10 i<|tE) λi=>tb λq e=>b<|tg 10 i<|bQ (Xf _ e)<|tE
end
section
variable(s:ae)(i:Int)
def At:Q K:=(lq s i).bind λa=>(qS a).bind λd=>if(!d)then (lq s i).bind λb=>(v8 b).bind λe=>if(!e)then (lq s i).bind λc=>O (c !=95) else O Z else O Z
def Xk:OU 0 (cA qnz 1914) (At s i) .normal (λo=>[(40,.bool o)]) (aM 41 [(0,.str s),(3,.i6 i)] [] []):=qqs.j<|
 tb λq e=>tb λx n=>have a:=λ{X z A} (r:PV _ X z A)=>tv (gW underlying9 e)<|bQ (xq _ n)<|r;tf (λc=>tb λt h=>tb λy p=>have b:=λ{X z A} (r:PV _ X z A)=>a<|tg 6 c<|tv (gW underlying9 h)<|bQ (FI _ p)<|r;tf (λd=>tb λw m=>b<|tg 13 d<|tv (gW underlying9 m)<|tE) λd=>b<|tg 13 d<|tE) λc=>a<|tg 6 c<|tE
end
section
variable(s:ae)(i:Int)
def Cc:aF:=aM 41 [(0,.str s),(3,.i6 i)] [] []
def Np(o:Unit⊕(Unit)):Exit:=match o with|(.inl _)=>.ret|(.inr _)=>.exit 0
def Nq(o:Unit⊕(Unit)):aF:=match o with|(.inl o)=>aM 41 [(2,.bool Z)] [] []|(.inr o)=>aM 41 [] [] []
def uZ:Q (Int⊕(Unit⊕(Unit))):=if Y (i<(s.length:Int))then (At s i).bind λa=>if a then O (.inr (.inl ())) else O (.inl (cz (i+1))) else O (.inr (.inr ()))
def Au:Q (Unit⊕(Unit)):=loop (λ(a:Int)=>uZ s a) i
def Vl:OL 0 (cA qnz 119) (uZ s i) (λ(c:Int)=>Cc s c) Np Nq (Cc s i):=qqs.l<|bz (nD underlying9 s)<|tF (tb λb a=>ey 1<|bJ (Xk s i _ a)<|tF tE<|tE)<|tE
def J5:OK 0 (.loop (cA qnz 119)) (Au s i) Np Nq (Cc s i):=Bz λ_=>Vl _ _
end
def LY(s:ae):Q K:=(As s).bind λb=>if b then O Z else (Au s 1).bind λa=>match a with|(.inl a)=>O Z|(.inr a)=>O T
def SP{s:ae}:OV 178 [.str s] (LY s) (λr=>.bool r) []:=qqs.v<|tb λd b=>ey 2<|bJ (Xi s _ b)<|tF tE<|t2 (λc a=>bJ (J5 s 1 _ a)<|tE) λc a=>bJ (J5 s 1 _ a)<|tE
noncomputable def qzo:W:=f225.body.getD .skip
def qye:ZF Pg [] 225 f225 qzo:=zf call225 func225 rfl mixed
def um(c:Int):Q K:=if Y (65<=c)then O (Y (c<=90)) else O Z
def J3{c:Int}:OV 225 [.int .u8 c] (um c) (λr=>.bool r) []:=qye.v<|tf (λa=>tg 3 a<|tE) λa=>tg 3 a<|tE
noncomputable def qqM:W:=f181.body.getD .skip
def qsR:ZF Pg [] 181 f181 qqM:=zf call181 func181 rfl mixed
section
variable(s:ae)(i:Int)
def ky:Q K:=(lq s i).bind λc=>(qS c).bind λe=>if(!e)then (lq s i).bind λd=>(um d).bind λh=>if(!h)then (lq s i).bind λa=>(v8 a).bind λb=>O (!b) else O Z else O Z
def IW:OU 0 (cA qqM 890) (ky s i) .normal (λo=>[(28,.bool o)]) (aM 29 [(0,.str s),(3,.i6 i)] [] []):=qsR.j<|
 tb λx e=>tb λz m=>have c:=λ{X B E} (r:PV _ X B E)=>tv (gW underlying9 e)<|bQ (xq _ m)<|r;tf (λp=>tb λy h=>tb λA n=>have d:=λ{X B E} (r:PV _ X B E)=>c<|tg 6 p<|tv (gW underlying9 h)<|bQ (J3 _ n)<|r;tf (λq=>tb λt a=>tb λw b=>d<|tg 13 q<|tv (gW underlying9 a)<|bQ (FI _ b)<|tE) λq=>d<|tg 13 q<|tE) λp=>c<|tg 6 p<|tE
end
section
variable(s:ae)(i:Int)
def mW:aF:=aM 29 [(0,.str s),(3,.i6 i)] [] []
def v6(o:Unit⊕(Unit)):Exit:=match o with|(.inl _)=>.ret|(.inr _)=>.exit 0
def v7(o:Unit⊕(Unit)):aF:=match o with|(.inl o)=>aM 29 [(2,.bool Z)] [] []|(.inr o)=>aM 29 [] [] []
def gb:Q (Int⊕(Unit⊕(Unit))):=if Y (i<(s.length:Int))then (ky s i).bind λa=>if a then O (.inr (.inl ())) else O (.inl (cz (i+1))) else O (.inr (.inr ()))
def pq:Q (Unit⊕(Unit)):=loop (λ(a:Int)=>gb s a) i
def GQ:OL 0 (cA qqM 55) (gb s i) (λ(c:Int)=>mW s c) v6 v7 (mW s i):=qsR.l<|bz (nD underlying9 s)<|tF (tb λb a=>ey 1<|bJ (IW s i _ a)<|tF tE<|tE)<|tE
def ul:OK 0 (.loop (cA qqM 55)) (pq s i) v6 v7 (mW s i):=Bz λ_=>GQ _ _
end
def j9(s:ae):Q K:=(pq s 0).bind λa=>match a with|(.inl a)=>O Z|(.inr a)=>O T
def y2{s:ae}:OV 181 [.str s] (j9 s) (λr=>.bool r) []:=qsR.v<|t2 (λb a=>bJ (ul s 0 _ a)<|tE) λb a=>bJ (ul s 0 _ a)<|tE
noncomputable def qvG:W:=f179.body.getD .skip
def qu8:ZF Pg [] 179 f179 qvG:=zf call179 func179 rfl mixed
section
variable(s:ae)
def xr:Q K:=(wa s).bind λb=>if(!b)then O T else (lq s 0).bind λa=>(um a).bind λc=>if(!c)then O T else (j9 s).bind λd=>O (!d)
def Vn:OU 0 (cA qvG 12) (xr s) .normal (λo=>[(16,.bool o)]) (aM 31 [(0,.str s)] [] []):=qu8.j<|
 tb λn a=>tf (λh=>bQ (mX _ a)<|tg 4 h<|tE) λh=>tb λm c=>tb λp d=>have b:=λ{X t w} (r:PV _ X t w)=>bQ (mX _ a)<|tg 4 h<|tv (gW underlying9 c)<|bQ (J3 _ d)<|r;tf (λi=>b<|tg 10 i<|tE) λi=>tb λq e=>b<|tg 10 i<|bQ (y2 _ e)<|tE
end
def HT(s:ae):Q K:=(xr s).bind λa=>if a then O Z else if(!(s==([73,110,116]:ae)))then if(!(s==([66,111,111,108]:ae)))then if(!(s==([67,101,108,108]:ae)))then O (!(s==([70,117,110]:ae))) else O Z else O Z else O Z
def qbY{s:ae}:OV 179 [.str s] (HT s) (λr=>.bool r) []:=qu8.v<|
 tb λh e=>ey 2<|bJ (Vn s _ e)<|tF tE<|tf (λa=>tf (λc=>have b:=λ{X i m} (r:PV _ X i m)=>tg 3 a<|tg 7 c<|r;tf (λd=>b<|tg 11 d<|tE) λd=>b<|tg 11 d<|tE) λc=>tg 3 a<|tg 7 c<|tE) λa=>tg 3 a<|tE
noncomputable def qqN:W:=f182.body.getD .skip
def qsS:ZF Pg [] 182 f182 qqN:=zf call182 func182 rfl mixed
section
variable(s:ae)(i:Int)
def Av:Q K:=(lq s i).bind λb=>(qS b).bind λd=>if (!d) = T then if(i==0)then O T else (lq s i).bind λc=>(v8 c).bind λe=>if(!e)then (lq s i).bind λa=>O (a !=95) else O Z else O Z
def Xn:OU 0 (cA qqN 890) (Av s i) .normal (λo=>[(31,.bool o)]) (aM 32 [(0,.str s),(3,.i6 i)] [] []):=qsS.j<|
 tb λx h=>tb λz n=>have d:=λ{X B E} (r:PV _ X B E)=>tv (gW underlying9 h)<|bQ (xq _ n)<|r;tf (λq=>have e:=λ{X B E} (r:PV _ X B E)=>d<|tg 6 q<|r;tf (λt=>e<|tg 9 t<|tE) λt=>tb λy m=>tb λA p=>have a:=λ{X B E} (r:PV _ X B E)=>e<|tg 9 t<|tv (gW underlying9 m)<|bQ (FI _ p)<|r;tf (λb=>tb λw c=>a<|tg 15 b<|tv (gW underlying9 c)<|tE) λb=>a<|tg 15 b<|tE) λq=>d<|tg 6 q<|tE
end
section
variable(s:ae)(i:Int)
def Cd:aF:=aM 32 [(0,.str s),(3,.i6 i)] [] []
def Nr(o:Unit⊕(Unit)):Exit:=match o with|(.inl _)=>.ret|(.inr _)=>.exit 0
def Ns(o:Unit⊕(Unit)):aF:=match o with|(.inl o)=>aM 32 [(2,.bool Z)] [] []|(.inr o)=>aM 32 [] [] []
def oG:Q (Int⊕(Unit⊕(Unit))):=if Y (i<(s.length:Int))then (Av s i).bind λa=>if a then O (.inr (.inl ())) else O (.inl (cz (i+1))) else O (.inr (.inr ()))
def IX:Q (Unit⊕(Unit)):=loop (λ(a:Int)=>oG s a) i
def Vo:OL 0 (cA qqN 55) (oG s i) (λ(c:Int)=>Cd s c) Nr Ns (Cd s i):=qsS.l<|bz (nD underlying9 s)<|tF (tb λb a=>ey 1<|bJ (Xn s i _ a)<|tF tE<|tE)<|tE
def J6:OK 0 (.loop (cA qqN 55)) (IX s i) Nr Ns (Cd s i):=Bz λ_=>Vo _ _
end
def LZ(s:ae):Q K:=(IX s 0).bind λa=>match a with|(.inl a)=>O Z|(.inr a)=>O T
def qdJ{s:ae}:OV 182 [.str s] (LZ s) (λr=>.bool r) []:=qsS.v<|t2 (λb a=>bJ (J6 s 0 _ a)<|tE) λb a=>bJ (J6 s 0 _ a)<|tE
noncomputable def qnv:W:=f121.body.getD .skip
def qqk:ZF Pg [] 121 f121 qnv:=zf call121 func121 rfl mixed
section
variable(first b:ae)(a:K)
def Ap:Q K:=
 (LY first).bind λc=>
 if (!c) = T then
  (HT first).bind λd=>
  if(!d)then
   if(!(first==([118]:ae)))then
    O T
   else
    O (!a)
  else
   O Z
 else
  O Z
def Xa:OU 0 (cA qnv 60) (Ap first a) .normal (λo=>[(3,.undef),(31,.bool o)]) (aM 52 [(3,.str first),(4,.str b),(5,.bool a)] [] []):=qqk.j<|
 tb λp c=>tf (λi=>tb λq h=>have d:=λ{X s t} (r:PV _ X s t)=>bQ (SP _ c)<|tg 4 i<|bQ (qbY _ h)<|r;tf (λm=>have e:=λ{X s t} (r:PV _ X s t)=>d<|tg 9 m<|r;tf (λn=>e<|tg 12 n<|tE) λn=>e<|tg 12 n<|tE) λm=>d<|tg 9 m<|tE) λi=>bQ (SP _ c)<|tg 4 i<|tE
end
section
variable(b:ae)(a:K)(part:ae)
def Aq:Q K:=(wa part).bind λc=>if(!c)then O T else (j9 part).bind λd=>if(!d)then (LZ part).bind λe=>O (!e) else O Z
def Xc:OU 0 (cA qnv 8062) (Aq part) .normal (λo=>[(6,.undef),(51,.bool o)]) (aM 52 [(4,.str b),(5,.bool a),(6,.str part)] [] []):=qqk.j<|
 tb λn c=>tf (λe=>bQ (mX _ c)<|tg 4 e<|tE) λe=>tb λp i=>have d:=λ{X s t} (r:PV _ X s t)=>bQ (mX _ c)<|tg 4 e<|bQ (y2 _ i)<|r;tf (λh=>tb λq m=>d<|tg 8 h<|bQ (qdJ _ m)<|tE) λh=>d<|tg 8 h<|tE
end
section
variable(b:ae)(a:K)
def Cb:aF:=aM 52 [(4,.str b),(5,.bool a)] [] []
def Nm(o:Unit⊕(Unit)):Exit:=match o with|(.inl _)=>.ret|(.inr _)=>.exit 0
def Nn(o:Unit⊕(Unit)):aF:=match o with|(.inl o)=>aM 52 [(2,.i6 3)] [] []|(.inr o)=>aM 52 [] [] []
def kY:Q ((ae×K)⊕(Unit⊕(Unit))):=if a then (J4 b).bind λc=>(Aq c.1).bind λd=>if d then O (.inr (.inl ())) else O (.inl (c.2.1,c.2.2)) else O (.inr (.inr ()))
def jT:Q (Unit⊕(Unit)):=loop (λ(c:ae×K)=>kY c.1 c.2) (b,a)
def Vf:OL 0 (cA qnv 251) (kY b a) (λ(h:ae×K)=>Cb h.1 h.2) Nm Nn (Cb b a):=qqk.l<|tF (tb λc e=>tb λi d=>bQ (Vi _ e)<|ey 0<|bJ (Xc c.2.1 c.2.2 c.1 _ d)<|tF tE<|tE)<|tE
def J1:OK 0 (.loop (cA qnv 251)) (jT b a) Nm Nn (Cb b a):=Bz λ_=>Vf _ _
end
def n7(s:ae):Q Int:=if Y ((s.length:Int)>120)then O 3 else (J4 s).bind λb=>(Ap b.1 b.2.2).bind λc=>if c then O 3 else (jT b.2.1 b.2.2).bind λa=>match a with|(.inl a)=>O 3|(.inr a)=>O 0
def jU{s:ae}:OV 121 [.str s] (n7 s) (λr=>.i6 r) []:=qqk.v<|bz (nD underlying9 s)<|tF tE<|tb λb d=>tb λh c=>bQ (Vi _ d)<|ey 1<|bJ (Xa b.1 b.2.1 b.2.2 _ c)<|tF tE<|t2 (λe a=>bJ (J1 b.2.1 b.2.2 _ a)<|tE) λe a=>bJ (J1 b.2.1 b.2.2 _ a)<|tE
noncomputable def qyD:W:=f122.body.getD .skip
def qxs:ZF Pg [] 122 f122 qyD:=zf call122 func122 rfl mixed
def uq(s:ae):Q K:=(lq s 0).bind λa=>if Y (a>=65)then (lq s 0).bind λb=>O (Y (b<=90)) else O Z
def Ke{s:ae}:OV 122 [.str s] (uq s) (λr=>.bool r) []:=qxs.v<|tb λd a=>tf (λc=>tb λe b=>tv (gW underlying9 a)<|tg 4 c<|tv (gW underlying9 b)<|tE) λc=>tv (gW underlying9 a)<|tg 4 c<|tE
noncomputable def qAN:W:=f68.body.getD .skip
def qAs:ZF Pg [] 68 f68 qAN:=zf call68 func68 rfl mixed
section
variable(s:ae)(m:V Int)(m2:K)
def lB:Q K:=(n7 s).bind λa=>if(a !=0)then O T else (uq s).bind λb=>O b
def Ko:OU 1 (cA qAN 4) (lB s) .normal (λo=>[(10,.bool o)]) (aM 18 [(0,.bptr 0 0),(1,.str s)] [cw 0 m m2] []):=qAs.j<|tb λd a=>tf (λc=>bQ (jU _ a)<|tg 4 c<|tE) λc=>tb λe b=>bQ (jU _ a)<|tg 4 c<|bQ (Ke _ b)<|tE
end
def aW(s:ae)(b:V Int)(a:K):Q (K×V Int):=(lB s).bind λc=>if c then O (T,b) else (aa ([s]:V ae) b a).bind λd=>O (a,d)
def bD{s:ae}{d:V Int}{a:K}:OG 68 [.bptr 0 0,.str s] [] [cw 0 d a] (aW s d a) (λr=>.tuple []) [] (λr=>[cw 0 r.2 r.1]):=qAs.g 1<|tb λe b=>ey 1<|bJ (Ko s d a _ b)<|tF (ts<|tE)<|tb λh c=>tv (aP [s] 1 rfl)<|tc [0] (af _ c)<|tE
noncomputable def qyF:W:=f126.body.getD .skip
def qxu:ZF Pg [] 126 f126 qyF:=zf call126 func126 rfl mixed
def lC(i:Int)(a:waA)(d:V Int)(b:K):Q (V Int×K):=(bY a i).bind λe=>(aW e d b).bind λc=>O (c.2,c.1)
def Kp{i:Int}{a:waA}{e:V Int}{b:K}:OG 126 [.i6 i,.bptr 0 0,.eptr ((cL cS) a)] [] [.cells [.bptr 1 0] [],cw 1 e b] (lC i a e b) (λr=>.tuple []) [] (λr=>[.cells [.bptr 1 0] [],cw 1 r.1 r.2]):=qxu.g 2<|tb λh d=>tb λm c=>tk<|MO (.dx [0,0,0,6,14] [] [] [])<|ts<|tv (dz qt9 (sl cS a) [])<|tv (dX.ia d)<|tv (dz ZC (.str h) [])<|tc [1] (bD _ c)<|tE
noncomputable def Ze:W:=f70.body.getD .skip
def Ok:ZF Pg [10] 70 f70 Ze:=zf call70 func70 rfl mixed
section
variable(v:waA)(i a:Int)(m:V Int)(m2:K)
def xH:Q (V Int):=if Y (i>0)then (aa ([ch]:V ae) m m2).bind λb=>O b else O m
def GV:OJ 2 (cA Ze 1014) (xH i m m2) .normal (λo=>aM 20 [(0,.bptr 0 0),(2,.func (.func 126) [] [.bptr 1 0,.eptr ((cL cS) v)]),(6,.i6 i),(7,.i6 a),(8,.i6 i)] [cw 0 o m2,.cells [.bptr 0 0] []] []) (aM 20 [(0,.bptr 0 0),(2,.func (.func 126) [] [.bptr 1 0,.eptr ((cL cS) v)]),(6,.i6 i),(7,.i6 a),(8,.i6 i)] [cw 0 m m2,.cells [.bptr 0 0] []] []):=Ok.j<|tF (tb λc b=>tv (aP [ch] 1 rfl)<|tc [0] (af _ b)<|tE)<|tE
end
section
variable(v:waA)(b a:Int)(m:V Int)(m2:K)
def uH:aF:=aM 20 [(0,.bptr 0 0),(2,.func (.func 126) [] [.bptr 1 0,.eptr ((cL cS) v)]),(7,.i6 b),(8,.i6 a)] [cw 0 m m2,.cells [.bptr 0 0] []] []
def Jc(o:V Int×K):aF:=aM 20 [] [cw 0 o.1 o.2,.cells [.bptr 0 0] []] []
def uI:Q ((Int×V Int×K)⊕(V Int×K)):=if Y (a<b)then (xH a m m2).bind λd=>(lC a v d m2).bind λc=>O (.inl (cz (a+1),c.1,c.2)) else O (.inr (m,m2))
def oe:Q (V Int×K):=loop (λ(c:Int×V Int×K)=>uI v b c.1 c.2.1 c.2.2) (a,m,m2)
def F8:OL 2 (cA Ze 15) (uI v b a m m2) (λ(e:Int×V Int×K)=>uH v b e.1 e.2.1 e.2.2) (λ_=>.exit 0) Jc (uH v b a m m2):=Ok.l<|tF (tb λh c=>tb λi d=>ey 2<|bJ (GV v a b m m2 _ c)<|tc [1,0] (Kp _ d)<|tE)<|tE
def GW:=nu (s:=(a,m,m2)) λc=>F8 v b c.1 c.2.1 c.2.2
end
def ms(n:Int)(c:waA)(d:V Int)(a:K):Q (V Int×K):=(oe c n 0 d a).bind λb=>O (b.1,b.2)
def Mk{n:Int}{c:waA}{d:V Int}{a:K}:OG 70 [.bptr 0 0,.i6 n,.func (.func 126) [] [.bptr 1 0,.eptr ((cL cS) c)]] [] [cw 0 d a,.cells [.bptr 0 0] []] (ms n c d a) (λr=>.tuple []) [] (λr=>[cw 0 r.1 r.2,.cells [.bptr 0 0] []]):=Ok.g 2<|tb λe b=>bJ (GW c n 0 d a _ b)<|tE
noncomputable def qCo:W:=f77.body.getD .skip
def qBO:ZF Pg [] 77 f77 qCo:=zf call77 func77 rfl mixed
def eL(a:waA)(d:V Int)(b:K):Q (V Int×K):=if((a.length:Int)==0)then O (d,b) else (aa ([fw]:V ae) d b).bind λe=>(ms (a.length:Int) a e b).bind λc=>(aa ([dM]:V ae) c.1 c.2).bind λh=>O (h,c.2)
def pz{a:waA}{h:V Int}{b:K}:OG 77 [.bptr 0 0,sl cS a] [] [cw 0 h b] (eL a h b) (λr=>.tuple []) [] (λr=>[cw 0 r.1 r.2]):=qBO.g 1<|qls (rfl:bH (.bptr 0 0)=O [.bptr 0 0]) rfl<|te (qwn cS a)<|tv (dz qt9 (sl cS a) [])<|bz (dX.ln a)<|tF tE<|tb λi c=>tb λm d=>tb λn e=>ts<|tv (aP [fw] 1 rfl)<|tc [0] (af _ c)<|ts<|tv (dz qt9 (sl cS a) [])<|bz (dX.ln a)<|tc [0,1] (Mk _ d)<|ts<|tv (aP [dM] 1 rfl)<|tc [0] (af _ e)<|tE
noncomputable def qAM:W:=f67.body.getD .skip
def qAr:ZF Pg [] 67 f67 qAM:=zf call67 func67 rfl mixed
section
variable(s:ae)(m:V Int)(m2:K)
def kI:Q K:=(n7 s).bind λa=>if(a !=0)then O T else (uq s).bind λb=>O (!b)
def Ji:OU 1 (cA qAM 4) (kI s) .normal (λo=>[(11,.bool o)]) (aM 19 [(0,.bptr 0 0),(1,.str s)] [cw 0 m m2] []):=qAr.j<|tb λd a=>tf (λc=>bQ (jU _ a)<|tg 4 c<|tE) λc=>tb λe b=>bQ (jU _ a)<|tg 4 c<|bQ (Ke _ b)<|tE
end
def bw(s:ae)(b:V Int)(a:K):Q (K×V Int):=(kI s).bind λc=>if c then O (T,b) else (aa ([s]:V ae) b a).bind λd=>O (a,d)
def du{s:ae}{d:V Int}{a:K}:OG 67 [.bptr 0 0,.str s] [] [cw 0 d a] (bw s d a) (λr=>.tuple []) [] (λr=>[cw 0 r.2 r.1]):=qAr.g 1<|tb λe b=>ey 1<|bJ (Ji s d a _ b)<|tF (ts<|tE)<|tb λh c=>tv (aP [s] 1 rfl)<|tc [0] (af _ c)<|tE
noncomputable def qyE:W:=f125.body.getD .skip
def qxt:ZF Pg [] 125 f125 qyE:=zf call125 func125 rfl mixed
def ry(i:Int)(a:waI)(e:V Int)(b:K):Q (V Int×K):=(bY a i).bind λm=>(bw m.Class e b).bind λc=>(aa ([bZ]:V ae) c.2 c.1).bind λh=>(bY a i).bind λn=>(aW n.Var h c.1).bind λd=>O (d.2,d.1)
def Kq{i:Int}{a:waI}{n:V Int}{b:K}:OG 125 [.i6 i,.bptr 0 0,.eptr ((cL cr) a)] [] [.cells [.bptr 1 0] [],cw 1 n b] (ry i a n b) (λr=>.tuple []) [] (λr=>[.cells [.bptr 1 0] [],cw 1 r.1 r.2]):=qxt.g 2<|tb λo h=>tb λq c=>tb λs d=>tb λp m=>tb λt e=>tk<|MO (.dx [0,0,0,6,14,30] [] [] [])<|ts<|tv (dz qua (sl cr a) [])<|tv (qgX.ia h)<|tw (Tq o)<|tc [1] (du _ c)<|ts<|tv (aP [bZ] 1 rfl)<|tc [1] (af _ d)<|tk<|MO (.dx [0,0,0,6,14,30] [] [] [])<|ts<|tv (dz qua (sl cr a) [])<|tv (qgX.ia m)<|tw (Ts p)<|tc [1] (bD _ e)<|tE
section
variable(v:waI)(i a:Int)(m:V Int)(m2:K)
def ur:Q (V Int):=if Y (i>0)then (aa ([ch]:V ae) m m2).bind λb=>O b else O m
def DZ:OJ 2 (cA Ze 1014) (ur i m m2) .normal (λo=>aM 20 [(0,.bptr 0 0),(2,.func (.func 125) [] [.bptr 1 0,.eptr ((cL cr) v)]),(6,.i6 i),(7,.i6 a),(8,.i6 i)] [cw 0 o m2,.cells [.bptr 0 0] []] []) (aM 20 [(0,.bptr 0 0),(2,.func (.func 125) [] [.bptr 1 0,.eptr ((cL cr) v)]),(6,.i6 i),(7,.i6 a),(8,.i6 i)] [cw 0 m m2,.cells [.bptr 0 0] []] []):=Ok.j<|tF (tb λc b=>tv (aP [ch] 1 rfl)<|tc [0] (af _ b)<|tE)<|tE
end
section
variable(v:waI)(b a:Int)(m:V Int)(m2:K)
def qZ:aF:=aM 20 [(0,.bptr 0 0),(2,.func (.func 125) [] [.bptr 1 0,.eptr ((cL cr) v)]),(7,.i6 b),(8,.i6 a)] [cw 0 m m2,.cells [.bptr 0 0] []] []
def FU(o:V Int×K):aF:=aM 20 [] [cw 0 o.1 o.2,.cells [.bptr 0 0] []] []
def q9:Q ((Int×V Int×K)⊕(V Int×K)):=if Y (a<b)then (ur a m m2).bind λd=>(ry a v d m2).bind λc=>O (.inl (cz (a+1),c.1,c.2)) else O (.inr (m,m2))
def ut:Q (V Int×K):=loop (λ(c:Int×V Int×K)=>q9 v b c.1 c.2.1 c.2.2) (a,m,m2)
def Cp:OL 2 (cA Ze 15) (q9 v b a m m2) (λ(e:Int×V Int×K)=>qZ v b e.1 e.2.1 e.2.2) (λ_=>.exit 0) FU (qZ v b a m m2):=Ok.l<|tF (tb λh c=>tb λi d=>ey 2<|bJ (DZ v a b m m2 _ c)<|tc [1,0] (Kq _ d)<|tE)<|tE
def D0:=nu (s:=(a,m,m2)) λc=>Cp v b c.1 c.2.1 c.2.2
end
def pu(n:Int)(c:waI)(d:V Int)(a:K):Q (V Int×K):=(ut c n 0 d a).bind λb=>O (b.1,b.2)
def I4{n:Int}{c:waI}{d:V Int}{a:K}:OG 70 [.bptr 0 0,.i6 n,.func (.func 125) [] [.bptr 1 0,.eptr ((cL cr) c)]] [] [cw 0 d a,.cells [.bptr 0 0] []] (pu n c d a) (λr=>.tuple []) [] (λr=>[cw 0 r.1 r.2,.cells [.bptr 0 0] []]):=Ok.g 2<|tb λe b=>bJ (D0 c n 0 d a _ b)<|tE
noncomputable def qCn:W:=f75.body.getD .skip
def qBN:ZF Pg [] 75 f75 qCn:=zf call75 func75 rfl mixed
def kf(a:waI)(d:V Int)(b:K):Q (V Int×K):=(pu (a.length:Int) a d b).bind λc=>O (c.1,c.2)
def y5{a:waI}{d:V Int}{b:K}:OG 75 [.bptr 0 0,sl cr a] [] [cw 0 d b] (kf a d b) (λr=>.tuple []) [] (λr=>[cw 0 r.1 r.2]):=qBN.g 1<|tb λe c=>qls (rfl:bH (.bptr 0 0)=O [.bptr 0 0]) rfl<|te (qwn cr a)<|ts<|tv (dz qua (sl cr a) [])<|bz (qgX.ln a)<|tc [0,1] (I4 _ c)<|tE
noncomputable def qAP:W:=f76.body.getD .skip
def qAu:ZF Pg [] 76 f76 qAP:=zf call76 func76 rfl mixed
section
variable(s:ae)(m:V Int)(m2:K)
def lE:Q K:=if (!(s == Yw)) = T then if(!(s==QL))then if(!(s==QM))then (n7 s).bind λa=>O (a !=0) else O Z else O Z else O Z
def Kv:OU 1 (cA qAP 4) (lE s) .normal (λo=>[(18,.bool o)]) (aM 26 [(0,.bptr 0 0),(1,.str s)] [cw 0 m m2] []):=qAu.j<|
 tf (λb=>tf (λd=>have a:=λ{X i n} (r:PV _ X i n)=>tg 3 b<|tg 7 d<|r;tf (λe=>tb λh c=>a<|tg 11 e<|bQ (jU _ c)<|tE) λe=>a<|tg 11 e<|tE) λd=>tg 3 b<|tg 7 d<|tE) λb=>tg 3 b<|tE
end
def gA(s:ae)(b:V Int)(a:K):Q (K×V Int):=(lE s).bind λc=>if c then O (T,b) else (aa ([s]:V ae) b a).bind λd=>O (a,d)
def rz{s:ae}{d:V Int}{a:K}:OG 76 [.bptr 0 0,.str s] [] [cw 0 d a] (gA s d a) (λr=>.tuple []) [] (λr=>[cw 0 r.2 r.1]):=qAu.g 1<|tb λe b=>ey 1<|bJ (Kv s d a _ b)<|tF (ts<|tE)<|tb λh c=>tv (aP [s] 1 rfl)<|tc [0] (af _ c)<|tE
noncomputable def qyL:W:=f137.body.getD .skip
def qxB:ZF Pg [] 137 f137 qyL:=zf call137 func137 rfl mixed
def vG(i:Int)(a:iQ)(e:V Int)(b:K):Q (V Int×K):=(bY a.Abs i).bind λm=>(aW m.Name e b).bind λc=>(aa ([bm]:V ae) c.2 c.1).bind λh=>(bY a.Abs i).bind λn=>(gA n.Sort_ h c.1).bind λd=>O (d.2,d.1)
def Og{i:Int}{a:iQ}{n:V Int}{b:K}:OG 137 [.i6 i,.bptr 0 0,.eptr (cu a)] [] [.cells [.bptr 1 0] [],cw 1 n b] (vG i a n b) (λr=>.tuple []) [] (λr=>[.cells [.bptr 1 0] [],cw 1 r.1 r.2]):=qxB.g 2<|tb λo h=>tb λq c=>tb λs d=>tb λp m=>tb λt e=>tk<|MO (.dx [0,0,2,0,14,30,62] [] [] [])<|ts<|tw (jb a)<|tv (qj4.ia h)<|tw (U9 o)<|tc [1] (bD _ c)<|ts<|tv (aP [bm] 1 rfl)<|tc [1] (af _ d)<|tk<|MO (.dx [0,0,2,0,14,30,62] [] [] [])<|ts<|tw (jb a)<|tv (qj4.ia m)<|tw (RM p)<|tc [1] (rz _ e)<|tE
section
variable(v:iQ)(i a:Int)(m:V Int)(m2:K)
def uu:Q (V Int):=if Y (i>0)then (aa ([ch]:V ae) m m2).bind λb=>O b else O m
def D1:OJ 2 (cA Ze 1014) (uu i m m2) .normal (λo=>aM 20 [(0,.bptr 0 0),(2,.func (.func 137) [] [.bptr 1 0,.eptr (cu v)]),(6,.i6 i),(7,.i6 a),(8,.i6 i)] [cw 0 o m2,.cells [.bptr 0 0] []] []) (aM 20 [(0,.bptr 0 0),(2,.func (.func 137) [] [.bptr 1 0,.eptr (cu v)]),(6,.i6 i),(7,.i6 a),(8,.i6 i)] [cw 0 m m2,.cells [.bptr 0 0] []] []):=Ok.j<|tF (tb λc b=>tv (aP [ch] 1 rfl)<|tc [0] (af _ b)<|tE)<|tE
end
section
variable(v:iQ)(b a:Int)(m:V Int)(m2:K)
def ra:aF:=aM 20 [(0,.bptr 0 0),(2,.func (.func 137) [] [.bptr 1 0,.eptr (cu v)]),(7,.i6 b),(8,.i6 a)] [cw 0 m m2,.cells [.bptr 0 0] []] []
def FV(o:V Int×K):aF:=aM 20 [] [cw 0 o.1 o.2,.cells [.bptr 0 0] []] []
def rb:Q ((Int×V Int×K)⊕(V Int×K)):=if Y (a<b)then (uu a m m2).bind λd=>(vG a v d m2).bind λc=>O (.inl (cz (a+1),c.1,c.2)) else O (.inr (m,m2))
def uv:Q (V Int×K):=loop (λ(c:Int×V Int×K)=>rb v b c.1 c.2.1 c.2.2) (a,m,m2)
def Cq:OL 2 (cA Ze 15) (rb v b a m m2) (λ(e:Int×V Int×K)=>ra v b e.1 e.2.1 e.2.2) (λ_=>.exit 0) FV (ra v b a m m2):=Ok.l<|tF (tb λh c=>tb λi d=>ey 2<|bJ (D1 v a b m m2 _ c)<|tc [1,0] (Og _ d)<|tE)<|tE
def D2:=nu (s:=(a,m,m2)) λc=>Cq v b c.1 c.2.1 c.2.2
end
def kC(n:Int)(c:iQ)(d:V Int)(a:K):Q (V Int×K):=(uv c n 0 d a).bind λb=>O (b.1,b.2)
def I5{n:Int}{c:iQ}{d:V Int}{a:K}:OG 70 [.bptr 0 0,.i6 n,.func (.func 137) [] [.bptr 1 0,.eptr (cu c)]] [] [cw 0 d a,.cells [.bptr 0 0] []] (kC n c d a) (λr=>.tuple []) [] (λr=>[cw 0 r.1 r.2,.cells [.bptr 0 0] []]):=Ok.g 2<|tb λe b=>bJ (D2 c n 0 d a _ b)<|tE
noncomputable def qs4:W:=f123.body.getD .skip
def qsL:ZF Pg [] 123 f123 qs4:=zf call123 func123 rfl mixed
section
variable(i:Int)(a:K)(t2:waG)(m:V Int)(m2:K)
def jM:Q K:=if a then (bY t2 i).bind λb=>O (b.Name==quD) else O Z
def GZ:OU 2 (cA qs4 4) (jM i a t2) .normal (λo=>[(1,.undef),(13,.bool o)]) (aM 34 [(0,.i6 i),(1,.eptr (cB a)),(2,.eptr ((cL cp) t2)),(3,.bptr 0 0)] [.cells [.bptr 1 0] [],cw 1 m m2] []):=qsL.j<|tf (λc=>tb λd b=>tv (dz qA9 (.bool a) [])<|tg 2 c<|tv (dz qrQ (sl cp t2) [])<|tv (R7.ia b)<|tw (HM d)<|tE) λc=>tv (dz qA9 (.bool a) [])<|tg 2 c<|tE
end
section
variable(i:Int)(a:K)(t2:waG)(m:V Int)(m2:K)
def fm:Q (V Int×K):=(jM i a t2).bind λc=>if c then (aa ([quD]:V ae) m m2).bind λd=>O (d,m2) else (bY t2 i).bind λe=>(aW e.Name m m2).bind λb=>O (b.2,b.1)
def GY:OJ 2 (cA qs4 2) (fm i a t2 m m2) .normal (λo=>aM 34 [(0,.i6 i),(2,.eptr ((cL cp) t2)),(3,.bptr 0 0)] [.cells [.bptr 1 0] [],cw 1 o.1 o.2] []) (aM 34 [(0,.i6 i),(1,.eptr (cB a)),(2,.eptr ((cL cp) t2)),(3,.bptr 0 0)] [.cells [.bptr 1 0] [],cw 1 m m2] []):=qsL.j<|tb λn b=>ey 0<|bJ (GZ i a t2 m m2 _ b)<|tF (tb λp c=>ts<|tv (aP [quD] 1 rfl)<|tc [1] (af _ c)<|tE)<|tb λh e=>tb λq d=>tk<|MO (.dx [0,0,0,6,14,30] [] [] [])<|ts<|tv (dz qrQ (sl cp t2) [])<|tv (R7.ia e)<|tw (HM h)<|tc [1] (bD _ d)<|tE
end
def mD(i:Int)(a:K)(h:waG)(m:V Int)(c:K):Q (V Int×K):=(fm i a h m c).bind λd=>(aa ([bm]:V ae) d.1 d.2).bind λn=>(bY h i).bind λe=>(gA e.Sort_ n d.2).bind λb=>O (b.2,b.1)
def MC{i:Int}{a:K}{e:waG}{n:V Int}{b:K}:OG 123 [.i6 i,.eptr (cB a),.eptr ((cL cp) e),.bptr 0 0] [] [.cells [.bptr 1 0] [],cw 1 n b] (mD i a e n b) (λr=>.tuple []) [] (λr=>[.cells [.bptr 1 0] [],cw 1 r.1 r.2]):=qsL.g 2<|tb λq h=>tb λs m=>tb λo d=>tb λp c=>ey 0<|bJ (GY i a e n b _ h)<|ts<|tv (aP [bm] 1 rfl)<|tc [1] (af _ m)<|tk<|MO (.dx [0,0,0,6,14,30] [] [] [])<|ts<|tv (dz qrQ (sl cp e) [])<|tv (R7.ia d)<|tw (RO o)<|tc [1] (rz _ c)<|tE
section
variable(v:K)(b:waG)(i a:Int)(m:V Int)(m2:K)
def uw:Q (V Int):=if Y (i>0)then (aa ([ch]:V ae) m m2).bind λc=>O c else O m
def D3:OJ 2 (cA Ze 1014) (uw i m m2) .normal (λo=>aM 20 [(0,.bptr 0 0),(2,.func (.func 123) [] [.eptr (cB v),.eptr ((cL cp) b),.bptr 1 0]),(6,.i6 i),(7,.i6 a),(8,.i6 i)] [cw 0 o m2,.cells [.bptr 0 0] []] []) (aM 20 [(0,.bptr 0 0),(2,.func (.func 123) [] [.eptr (cB v),.eptr ((cL cp) b),.bptr 1 0]),(6,.i6 i),(7,.i6 a),(8,.i6 i)] [cw 0 m m2,.cells [.bptr 0 0] []] []):=Ok.j<|tF (tb λd c=>tv (aP [ch] 1 rfl)<|tc [0] (af _ c)<|tE)<|tE
end
section
variable(v:K)(c:waG)(b a:Int)(m:V Int)(m2:K)
def rf:aF:=aM 20 [(0,.bptr 0 0),(2,.func (.func 123) [] [.eptr (cB v),.eptr ((cL cp) c),.bptr 1 0]),(7,.i6 b),(8,.i6 a)] [cw 0 m m2,.cells [.bptr 0 0] []] []
def FW(o:V Int×K):aF:=aM 20 [] [cw 0 o.1 o.2,.cells [.bptr 0 0] []] []
def rh:Q ((Int×V Int×K)⊕(V Int×K)):=if Y (a<b)then (uw a m m2).bind λe=>(mD a v c e m2).bind λd=>O (.inl (cz (a+1),d.1,d.2)) else O (.inr (m,m2))
def lS:Q (V Int×K):=loop (λ(d:Int×V Int×K)=>rh v c b d.1 d.2.1 d.2.2) (a,m,m2)
def Cr:OL 2 (cA Ze 15) (rh v c b a m m2) (λ(h:Int×V Int×K)=>rf v c b h.1 h.2.1 h.2.2) (λ_=>.exit 0) FW (rf v c b a m m2):=Ok.l<|tF (tb λi d=>tb λn e=>ey 2<|bJ (D3 v c a b m m2 _ d)<|tc [1,0] (MC _ e)<|tE)<|tE
def D4:=nu (s:=(a,m,m2)) λd=>Cr v c b d.1 d.2.1 d.2.2
end
def kD(n:Int)(c:K)(d:waG)(e:V Int)(a:K):Q (V Int×K):=(lS c d n 0 e a).bind λb=>O (b.1,b.2)
def I6{n:Int}{c:K}{d:waG}{e:V Int}{a:K}:OG 70 [.bptr 0 0,.i6 n,.func (.func 123) [] [.eptr (cB c),.eptr ((cL cp) d),.bptr 1 0]] [] [cw 0 e a,.cells [.bptr 0 0] []] (kD n c d e a) (λr=>.tuple []) [] (λr=>[cw 0 r.1 r.2,.cells [.bptr 0 0] []]):=Ok.g 2<|tb λh b=>bJ (D4 c d n 0 e a _ b)<|tE
noncomputable def qCj:W:=f69.body.getD .skip
def qBJ:ZF Pg [] 69 f69 qCj:=zf call69 func69 rfl mixed
def eX(a:waG)(b:K)(e:V Int)(c:K):Q (V Int×K):=(kD (a.length:Int) b a e c).bind λd=>O (d.1,d.2)
def rB{a:waG}{b:K}{e:V Int}{c:K}:OG 69 [.bptr 0 0,sl cp a,.bool b] [] [cw 0 e c] (eX a b e c) (λr=>.tuple []) [] (λr=>[cw 0 r.1 r.2]):=qBJ.g 1<|tb λh d=>qls (rfl:bH (.bptr 0 0)=O [.bptr 0 0]) rfl<|te (qwn cp a)<|te (qCN b)<|ts<|tv (dz qrQ (sl cp a) [])<|bz (R7.ln a)<|tc [0,1] (I6 _ d)<|tE
noncomputable def qCp:W:=f79.body.getD .skip
def qBP:ZF Pg [] 79 f79 qCp:=zf call79 func79 rfl mixed
def kk(p:ah):Q K:=(Kb p (⟨0,[],0,[]⟩:ah)).bind λa=>O a
def pg{p:ah}:OV 79 [.agg (ag p)] (kk p) (λr=>.bool r) []:=qBP.v<|tb λb a=>te (dU p)<|tv (bA p)<|Yv (Tk) (Ti)<|bQ (L6 _ a)<|tE
abbrev DG:=(ah->Q Int)
abbrev KZ(R:DG):Prop:=∀(p:ah),OV 226 [.agg (ag p)] (R p) (λr=>.i6 r) []
noncomputable def qvL:W:=f226.body.getD .skip
def qvh:ZF Pg [18] 226 f226 qvL:=zf call226 func226 rfl mixed
section
variable(a:DG)(c:pi)(d n b:Int)
def Cg:aF:=aM 19 [(3,.i6 n),(7,sl ag c),(8,.i6 d),(9,.i6 b)] [.dead] []
def Nz(o:Int):aF:=aM 19 [(3,.i6 o)] [.dead] []
instance qFt:KS 0 (Cg c d n b):=ks 1 rfl
instance qFk{o:Int}:KS 0 (Nz o):=ks 1 rfl
def Ny:Q ((Int×Int)⊕(Int)):=if Y (b<d)then (bY c b).bind λh=>(a h).bind λe=>O (.inl (cz (n+e),cz (b+1))) else O (.inr n)
def qdT:Q Int:=loop (λ(e:Int×Int)=>Ny a c d e.1 e.2) (n,b)
def VG(e:KZ a):OL 0 (cA qvL 119) (Ny a c d n b) (λ(o:Int×Int)=>Cg c d o.1 o.2) (λ_=>.exit 0) Nz (Cg c d n b):=qvh.lx<|tF (tb λm i=>tb λp h=>tv (dN.ia i)<|tv (bA m)<|tx TP<|tx (gP m)<|tv (eJ m [])<|bQ (e _ _ h)<|tE)<|tE
def Xw(e:KZ a):=nu (s:=(n,b)) λh=>VG a c d h.1 h.2 e
end
def VE(a:DG)(p:ah):Q Int:=(qdT a p.Kids (p.Kids.length:Int) 1 0).bind λb=>O b
def qcs(a:DG)(b:KZ a){p:ah}:OV 226 [.agg (ag p)] (VE a p) (λr=>.i6 r) []:=qvh.v<|tb λd c=>te (dU p)<|tw (aA p)<|bz (dN.ln p.Kids)<|bJ (Xw a p.Kids (p.Kids.length:Int) 1 0 b _ c)<|tE
def L5:(ah->Q Int)->(ah)->Q Int:=λ(rec:ah->Q Int) (x:ah)=>VE (λp=>rec p) x
def zL(p:ah):Q Int:=rT L5 p
def SS{p:ah}:OV 226 [.agg (ag p)] (zL p) (λr=>.i6 r) []:=HU λ_ h=>d7 (F:=L5) (M:=λ(x:ah) (r:Int)=>CC Pg GE 226 [.agg (ag x)] (.i6 r) []) (λrec a x r h=>qcs _ (λp=>HU λr h=>a p r h) _ h) h
abbrev DF:=(ah->Q Int)
abbrev KY(R:DF):Prop:=∀(p:ah),OV 227 [.agg (ag p)] (R p) (λr=>.i6 r) []
noncomputable def qvM:W:=f227.body.getD .skip
def qvi:ZF Pg [] 227 f227 qvM:=zf call227 func227 rfl mixed
section
variable(a:DF)(c:pi)(d n b:Int)
def Cf:aF:=aM 20 [(3,.i6 n),(7,sl ag c),(8,.i6 d),(9,.i6 b)] [.dead] []
def Nx(o:Int):aF:=aM 20 [(3,.i6 o)] [.dead] []
instance qFs:KS 0 (Cf c d n b):=ks 1 rfl
instance qFj{o:Int}:KS 0 (Nx o):=ks 1 rfl
def Nw:Q ((Int×Int)⊕(Int)):=if Y (b<d)then (bY c b).bind λh=>(a h).bind λe=>O (.inl ((if e>n then e else n),cz (b+1))) else O (.inr n)
def qdS:Q Int:=loop (λ(e:Int×Int)=>Nw a c d e.1 e.2) (n,b)
def VD(e:KY a):OL 0 (cA qvM 119) (Nw a c d n b) (λ(o:Int×Int)=>Cf c d o.1 o.2) (λ_=>.exit 0) Nx (Cf c d n b):=qvi.lx<|tF (tb λm i=>tb λp h=>tv (dN.ia i)<|tv (bA m)<|tx TP<|tx (gP m)<|tv (eJ m [])<|bQ (e _ _ h)<|tE)<|tE
def Xv(e:KY a):=nu (s:=(n,b)) λh=>VD a c d h.1 h.2 e
end
def VC(a:DF)(p:ah):Q Int:=(qdS a p.Kids (p.Kids.length:Int) 0 0).bind λb=>O (cz (b+1))
def qcr(a:DF)(b:KY a){p:ah}:OV 227 [.agg (ag p)] (VC a p) (λr=>.i6 r) []:=qvi.v<|tb λd c=>te (dU p)<|tw (aA p)<|bz (dN.ln p.Kids)<|bJ (Xv a p.Kids (p.Kids.length:Int) 0 0 b _ c)<|tE
def L4:(ah->Q Int)->(ah)->Q Int:=λ(rec:ah->Q Int) (x:ah)=>VC (λp=>rec p) x
def zK(p:ah):Q Int:=rT L4 p
def SQ{p:ah}:OV 227 [.agg (ag p)] (zK p) (λr=>.i6 r) []:=HU λ_ h=>d7 (F:=L4) (M:=λ(x:ah) (r:Int)=>CC Pg GE 227 [.agg (ag x)] (.i6 r) []) (λrec a x r h=>qcr _ (λp=>HU λr h=>a p r h) _ h) h
noncomputable def qqS:W:=f246.body.getD .skip
def qqw:ZF Pg [] 246 f246 qqS:=zf call246 func246 rfl mixed
section
variable(a:Int)
def L8:Q K:=if(a==1)then O (a==1) else if(a==2)then O (a==2) else O (a==3)
def Zq:OU 0 (cA qqS 54) (L8 a) .normal (λo=>[(5,.bool o)]) (aM 15 [(4,.i6 a)] [] []):=qqw.j<|tF tE<|tF tE<|tE
end
section
variable(a:Int)
def L9:Q K:=if(a==4)then O (a==4) else O (a==5)
def Zr:OU 0 (cA qqS 222) (L9 a) .normal (λo=>[(9,.bool o)]) (aM 15 [(4,.i6 a)] [] []):=qqw.j<|tF tE<|tE
end
section
variable(a:Int)
def Ma:Q K:=if(a==9)then O (a==9) else O (a==14)
def Zs:OU 0 (cA qqS 894) (Ma a) .normal (λo=>[(4,.undef),(12,.bool o)]) (aM 15 [(4,.i6 a)] [] []):=qqw.j<|tF tE<|tE
end
def Rk(a:Int):Q (Int×Int):=(L8 a).bind λb=>if b then O (0,0) else (L9 a).bind λc=>if c then O (1,24) else (Ma a).bind λd=>if d then O (1,1) else O (2,2)
def qgM{a:Int}:OV 246 [.i6 a] (Rk a) (λr=>.tuple [.i6 r.1,.i6 r.2]) []:=qqw.v<|tb λe b=>ey 3<|bJ (Zq a _ b)<|tF tE<|tb λh c=>ey 0<|bJ (Zr a _ c)<|tF tE<|tb λi d=>ey 0<|bJ (Zs a _ d)<|tF tE<|tE
noncomputable def qzr:W:=f247.body.getD .skip
def qyh:ZF Pg [] 247 f247 qzr:=zf call247 func247 rfl mixed
def Mb(a:Int):Q K:=if(a==3)then O T else if(a==4)then O T else O (a==5)
def ST{c:Int}:OV 247 [.i6 c] (Mb c) (λr=>.bool r) []:=qyh.v<|tf (λa=>tg 3 a<|tE) λa=>tf (λb=>tg 3 a<|tg 7 b<|tE) λb=>tg 3 a<|tg 7 b<|tE
noncomputable def qyR:W:=f158.body.getD .skip
def qxH:ZF Pg [] 158 f158 qyR:=zf call158 func158 rfl mixed
def qb5(n:Int):Q K:=if Y (n>=(-1000000000000))then O (Y (n<=1000000000000)) else O Z
def qeB{n:Int}:OV 158 [.i6 n] (qb5 n) (λr=>.bool r) []:=qxH.v<|tf (λa=>tg 3 a<|tE) λa=>tg 3 a<|tE
noncomputable def qdm:W:=f229.body.getD .skip
def qdj:ZF Pg [] 229 f229 qdm:=zf call229 func229 rfl mixed
section
variable(p:ah)
def DS:Q K:=if Y (p.Op<1)then O T else O (Y (p.Op>18))
def Zt:OU 0 (cA qdm 12) (DS p) .normal (λo=>[(14,.bool o)]) (aM 130 [(1,.eptr (ag p))] [.dead] []):=qdj.j<|
 have a:=λ{X c d} (r:PV _ X c d)=>tw (aE p)<|r;tf (λb=>a<|tg 4 b<|tE) λb=>a<|tg 4 b<|tw (aE p)<|tE
end
section
variable(p:ah)(a b:Int)
def DT:Q K:=(Mb p.Op).bind λc=>if (!c) = T then if(!(p.Name==([]:ae)))then O T else if(p.Op !=1)then if(p.Op !=2)then if(p.N !=0)then O T else if Y ((p.Kids.length:Int)<a)then O T else O (Y ((p.Kids.length:Int)>b)) else if Y ((p.Kids.length:Int)<a)then O T else O (Y ((p.Kids.length:Int)>b)) else if Y ((p.Kids.length:Int)<a)then O T else O (Y ((p.Kids.length:Int)>b)) else if(p.Op !=1)then if(p.Op !=2)then if(p.N !=0)then O T else if Y ((p.Kids.length:Int)<a)then O T else O (Y ((p.Kids.length:Int)>b)) else if Y ((p.Kids.length:Int)<a)then O T else O (Y ((p.Kids.length:Int)>b)) else if Y ((p.Kids.length:Int)<a)then O T else O (Y ((p.Kids.length:Int)>b))
def Zu:OU 0 (cA qdm 60) (DT p a b) .normal (λo=>[(3,.undef),(4,.undef),(58,.bool o)]) (aM 130 [(1,.eptr (ag p)),(3,.i6 a),(4,.i6 b)] [.dead] []):=qdj.j<|
 tb λr6 a3=>have a2:=λ{X a4 a5} (r:PV _ X a4 a5)=>tw (aE p)<|bQ (ST _ a3)<|r;tf (λc7=>have c:=λ{X a4 a5} (r:PV _ X a4 a5)=>a2<|tg 5 c7<|tw (bK p)<|r;tf (λc9=>c<|tg 10 c9<|tE) λc9=>have d:=λ{X a4 a5} (r:PV _ X a4 a5)=>c<|tg 10 c9<|tw (aE p)<|r;tf (λz=>have e:=λ{X a4 a5} (r:PV _ X a4 a5)=>d<|tg 14 z<|tw (aE p)<|r;tf (λA=>have h:=λ{X a4 a5} (r:PV _ X a4 a5)=>e<|tg 19 A<|tw (bj p)<|r;tf (λB=>h<|tg 25 B<|tE) λB=>have i:=λ{X a4 a5} (r:PV _ X a4 a5)=>h<|tg 25 B<|tw (aA p)<|bz (dN.ln p.Kids)<|r;tf (λE=>i<|tg 32 E<|tE) λE=>i<|tg 32 E<|tw (aA p)<|bz (dN.ln p.Kids)<|tE) λA=>have m:=λ{X a4 a5} (r:PV _ X a4 a5)=>e<|tg 19 A<|tw (aA p)<|bz (dN.ln p.Kids)<|r;tf (λF=>m<|tg 32 F<|tE) λF=>m<|tg 32 F<|tw (aA p)<|bz (dN.ln p.Kids)<|tE) λz=>have n:=λ{X a4 a5} (r:PV _ X a4 a5)=>d<|tg 14 z<|tw (aA p)<|bz (dN.ln p.Kids)<|r;tf (λH=>n<|tg 32 H<|tE) λH=>n<|tg 32 H<|tw (aA p)<|bz (dN.ln p.Kids)<|tE) λc7=>have q:=λ{X a4 a5} (r:PV _ X a4 a5)=>a2<|tg 5 c7<|tw (aE p)<|r;tf (λL=>have s:=λ{X a4 a5} (r:PV _ X a4 a5)=>q<|tg 14 L<|tw (aE p)<|r;tf (λP=>have t:=λ{X a4 a5} (r:PV _ X a4 a5)=>s<|tg 19 P<|tw (bj p)<|r;tf (λR=>t<|tg 25 R<|tE) λR=>have w:=λ{X a4 a5} (r:PV _ X a4 a5)=>t<|tg 25 R<|tw (aA p)<|bz (dN.ln p.Kids)<|r;tf (λS=>w<|tg 32 S<|tE) λS=>w<|tg 32 S<|tw (aA p)<|bz (dN.ln p.Kids)<|tE) λP=>have x:=λ{X a4 a5} (r:PV _ X a4 a5)=>s<|tg 19 P<|tw (aA p)<|bz (dN.ln p.Kids)<|r;tf (λa0=>x<|tg 32 a0<|tE) λa0=>x<|tg 32 a0<|tw (aA p)<|bz (dN.ln p.Kids)<|tE) λL=>have y:=λ{X a4 a5} (r:PV _ X a4 a5)=>q<|tg 14 L<|tw (aA p)<|bz (dN.ln p.Kids)<|r;tf (λa1=>y<|tg 32 a1<|tE) λa1=>y<|tg 32 a1<|tw (aA p)<|bz (dN.ln p.Kids)<|tE
end
section
variable(p:ah)
def DU:Q K:=if (p.Op == 1) = T then (qb5 p.N).bind λa=>if(!a)then O T else if(p.Op==2)then if(p.N !=0)then O (p.N !=1) else O Z else O Z else if(p.Op==2)then if(p.N !=0)then O (p.N !=1) else O Z else O Z
def Zv:OU 0 (cA qdm 124) (DU p) .normal (λo=>[(82,.bool o)]) (aM 130 [(1,.eptr (ag p))] [.dead] []):=qdj.j<|
 have a:=λ{X y z} (r:PV _ X y z)=>tw (aE p)<|r;tf (λi=>tb λx w=>have b:=λ{X y z} (r:PV _ X y z)=>a<|tg 4 i<|tw (bj p)<|bQ (qeB _ w)<|r;tf (λm=>b<|tg 10 m<|tE) λm=>have c:=λ{X y z} (r:PV _ X y z)=>b<|tg 10 m<|tw (aE p)<|r;tf (λn=>have d:=λ{X y z} (r:PV _ X y z)=>c<|tg 14 n<|tw (bj p)<|r;tf (λq=>d<|tg 19 q<|tw (bj p)<|tE) λq=>d<|tg 19 q<|tE) λn=>c<|tg 14 n<|tE) λi=>have e:=λ{X y z} (r:PV _ X y z)=>a<|tg 4 i<|tw (aE p)<|r;tf (λs=>have h:=λ{X y z} (r:PV _ X y z)=>e<|tg 14 s<|tw (bj p)<|r;tf (λt=>h<|tg 19 t<|tw (bj p)<|tE) λt=>h<|tg 19 t<|tE) λs=>e<|tg 14 s<|tE
end
section
variable(p:ah)
def Mc:Q K:=(Mb p.Op).bind λa=>if a then (n7 p.Name).bind λb=>O (b !=0) else O Z
def Zw:OU 0 (cA qdm 252) (Mc p) .normal (λo=>[(91,.bool o)]) (aM 130 [(1,.eptr (ag p))] [.dead] []):=qdj.j<|
 tb λe c=>have a:=λ{X i m} (r:PV _ X i m)=>tw (aE p)<|bQ (ST _ c)<|r;tf (λb=>tb λh d=>a<|tg 4 b<|tw (bK p)<|bQ (jU _ d)<|tE) λb=>a<|tg 4 b<|tE
end
section
variable(p:ah)
def Md:Q K:=if(p.Op==3)then O (p.Name==([118]:ae)) else O Z
def Zx:OU 0 (cA qdm 1012) (Md p) .normal (λo=>[(5,.bool o)]) (aM 130 [(1,.eptr (ag p))] [.dead] []):=qdj.j<|
 have a:=λ{X c d} (r:PV _ X c d)=>tw (aE p)<|r;tf (λb=>a<|tg 4 b<|tw (bK p)<|tE) λb=>a<|tg 4 b<|tE
end
section
variable(p:ah)(v:K)
def Me:Q K:=if(p.Op==4)then if(p.Name==([116,97,103]:ae))then O T else O (p.Name==([118,97,108]:ae)) else O Z
def Zy:OU 0 (cA qdm 2026) (Me p) .normal (λo=>[(6,.bool o)]) (aM 130 [(1,.eptr (ag p)),(5,.bool v)] [.dead] []):=qdj.j<|
 have a:=λ{X e h} (r:PV _ X e h)=>tw (aE p)<|r;tf (λc=>have b:=λ{X e h} (r:PV _ X e h)=>a<|tg 4 c<|tw (bK p)<|r;tf (λd=>b<|tg 8 d<|tE) λd=>b<|tg 8 d<|tw (bK p)<|tE) λc=>a<|tg 4 c<|tE
end
section
variable(p:ah)(v a:K)
def Mf:Q K:=if(!v)then O (!a) else O Z
def Zz:OU 0 (cA qdm 4054) (Mf v a) .normal (λo=>[(5,.undef),(6,.undef),(118,.bool o)]) (aM 130 [(1,.eptr (ag p)),(5,.bool v),(6,.bool a)] [.dead] []):=qdj.j<|tf (λb=>tg 3 b<|tE) λb=>tg 3 b<|tE
end
section
variable(p:ah)
def qct(o:Unit⊕(Unit)):Exit:=match o with|(.inl _)=>.ret|(.inr _)=>.normal
def qcu(o:Unit⊕(Unit)):aF:=match o with|(.inl o)=>aM 130 [(2,.i6 3)] [.dead] []|(.inr o)=>aM 130 [(1,.eptr (ag p))] [.dead] []
def DV:Q (Unit⊕(Unit)):=(Mc p).bind λa=>if a then (Md p).bind λb=>(Me p).bind λc=>(Mf b c).bind λd=>if d then O (.inl ()) else O (.inr ()) else O (.inr ())
def NC:OK 0 (cA qdm 126) (DV p) qct (qcu p) (aM 130 [(1,.eptr (ag p))] [.dead] []):=qdj.k<|tb λi a=>ey 0<|bJ (Zw p _ a)<|tF (tb λe b=>tb λh c=>tb λm d=>ey 0<|bJ (Zx p _ b)<|ey 0<|bJ (Zy p e _ c)<|ey 0<|bJ (Zz p e h _ d)<|tF tE<|tE)<|tE
end
section
variable(p:ah)
def Mg:Q K:=if(p.Op==8)then (bY p.Kids 0).bind λa=>O (a.Op !=1) else O Z
def ZA:OU 0 (cA qdm 508) (Mg p) .normal (λo=>[(1,.undef),(129,.bool o)]) (aM 130 [(1,.eptr (ag p))] [.dead] []):=qdj.j<|
 have a:=λ{X e h} (r:PV _ X e h)=>tw (aE p)<|r;tf (λb=>tb λd c=>a<|tg 4 b<|tw (aA p)<|tv (dN.ia c)<|tw (aE d)<|tE) λb=>a<|tg 4 b<|tE
end
def Rl(p:ah):Q Int:=(DS p).bind λh=>if h then O 1 else (Rk p.Op).bind λe=>(DT p e.1 e.2).bind λb=>if b then O 1 else (DU p).bind λc=>if c then O 2 else (DV p).bind λa=>match a with|(.inl a)=>O 3| (.inr a) =>(Mg p).bind λd=>if d then O 6 else O 0
def VI{p:ah}:OV 229 [.agg (ag p)] (Rl p) (λr=>.i6 r) []:=qdj.v<|tb λs e=>te (dU p)<|ey 1<|bJ (Zt p _ e)<|tF tE<|tb λm h=>tb λn b=>tw (aE p)<|bQ (qgM _ h)<|ey 1<|bJ (Zu p m.1 m.2 _ b)<|tF tE<|tb λo c=>ey 1<|bJ (Zv p _ c)<|tF tE<|t2 (λi a=>ey 0<|bJ (NC p _ a)<|tE) λi a=>tb λq d=>ey 0<|bJ (NC p _ a)<|ey 1<|bJ (ZA p _ d)<|tF tE<|tE
abbrev qCB:Nat:=184
noncomputable def qqU:W:=f184.body.getD .skip
abbrev qA4:W:=jG qqU [Z]
abbrev qzN:W:=jG qqU [T,Z]
abbrev qzO:W:=jG qqU [T,T,Z]
abbrev qA5:W:=jG qqU [T,T,T,Z,Z]
abbrev qqe:W:=jG qqU [T,T,T,Z,T,Z]
abbrev qtI:W:=jG qqU [T,T,T,T,Z]
def qtu:qqU=.seq qA4 (.seq qzN (.seq qzO (.seq (.seq qA5 (.block 0 (.rangeFunc (.tmp 12) #[13] (qwL qqe) (qwM qqe)))) (.seq qtI .ret)))):=by kernel_rfl
def eP(s:Int)(x:ah):Q (K×Int):=(Rl x).bind λe=>if(e !=0)then O (Z,e)else O (T,s)
def zJ(p:ah):Q Int:=(zL p).bind λn=>if Y (n>400)then O 7 else (zK p).bind λd=>if Y (d>40)then O 8 else (qcW eP p 0).bind λq=>if q.1 then O 0 else O q.2
abbrev qqV(s:Int):V aJ:=[.dead,.cells [.int .i64 s] []]
abbrev qi6(s:Int):aF:=aM 19 [(2,.bptr 1 0)] (qqV s) []
abbrev qcJ(p:ah):aF:=aM 19 [(1,.eptr (ag p)),(2,.bptr 1 0)] (qqV 0) []
def qCD(p:ah):fx Pg GE 0 qA4 (EX .normal (qcJ p)) (aM 19 [(0,.agg (ag p))] [] []):=by have z:=se (dU p)<|sx (show ft Pg 61=O [.int .i64 0] by kernel_rfl)<|eF .normal (qcJ p);exact n8 (A:=[]) mixed z (by kernel_rfl)
def qzQ(p:ah){n:Int}(h:zL p=O n)(c:Y (n>400)=T):fx Pg GE 0 qzN (EX .ret (qi6 7)) (qcJ p):=by have z:=sv (bA p)<|qub (SS _ h)<|sg 0 c<|ss<|eF .ret (qi6 7);exact n8 (A:=[]) mixed z (by kernel_rfl)
def qzR(p:ah){n:Int}(h:zL p=O n)(c:Y (n>400)=Z):fx Pg GE 0 qzN (EX .normal (qcJ p)) (qcJ p):=by have z:=sv (bA p)<|qub (SS _ h)<|sg 0 c<|eF .normal (qcJ p);exact n8 (A:=[]) mixed z (by kernel_rfl)
def qzS(p:ah){n:Int}(h:zK p=O n)(c:Y (n>40)=T):fx Pg GE 0 qzO (EX .ret (qi6 8)) (qcJ p):=by have z:=sv (bA p)<|qub (SQ _ h)<|sg 0 c<|ss<|eF .ret (qi6 8);exact n8 (A:=[]) mixed z (by kernel_rfl)
def qzT(p:ah){n:Int}(h:zK p=O n)(c:Y (n>40)=Z):fx Pg GE 0 qzO (EX .normal (qcJ p)) (qcJ p):=by have z:=sv (bA p)<|qub (SQ _ h)<|sg 0 c<|eF .normal (qcJ p);exact n8 (A:=[]) mixed z (by kernel_rfl)
abbrev qrW(p:ah):aF:=aM 19 [(2,.bptr 1 0),(12,.func (.func fW) [] [.eptr (ag p)])] (qqV 0) []
def qCE(p:ah):fx Pg GE 0 qA5 (EX .normal (qrW p)) (qcJ p):=by have z:=sv (bA p)<|qub (qlM p)<|eF .normal (qrW p);exact n8 (A:=[]) mixed z (by kernel_rfl)
abbrev qud(s:Int)(x:ah):aF:=aM 19 [(2,.bptr 1 0),(3,.bptr 2 0)] (qqV s++[.cells (qhb x) []]) []
def qCF(s:Int)(x:ah):fx Pg GE 2 (qwL qqe) (EX .normal (qud s x)) (aM 19 [(2,.bptr 1 0),(13,.agg (ag x))] (qqV s) []):=by have z:=sx TP<|sx (gP x)<|eF .normal (qud s x);exact n8 (A:=[]) mixed z (by kernel_rfl)
abbrev que(r:Int):aF:=aM 19 [(2,.bptr 1 0)] (qqV r++[.dead]) []
def qCG(s:Int)(x:ah){r:K×Int}(h:eP s x=O r):fx Pg GE 2 (qwM qqe) (EX (if r.1 then .normal else .ret) (que r.2)) (qud s x):=by
 unfold eP at h;let⟨e,b,h⟩:=qdp h;rcases T6 h with⟨a,h⟩|⟨a,h⟩;.cases h;have z:=sv (eJ x [])<|qub (VI _ b)<|sg 0 a<|ss<|eF .ret (que e);exact n8 (A:=[]) mixed z (by kernel_rfl)
 .cases h;have z:=sv (eJ x [])<|qub (VI _ b)<|sg 0 a<|eF .normal (que s);exact n8 (A:=[]) mixed z (by kernel_rfl)
def qzP(s:Int):fx Pg GE 2 (.seq qtI .ret) (EX .ret (qi6 0)) (qi6 s):=by have z:=ss<|eF .ret (qi6 0);exact n8 (A:=[]) mixed z (by kernel_rfl)
def qwb(s:Int):fx Pg GE 2 .ret (EX .ret (qi6 s)) (qi6 s):=by have z:=eF .ret (qi6 s);exact n8 (A:=[]) mixed z (by kernel_rfl)
abbrev MF(fn:FuncId)(a:Array D)(c:Nat)(b:K):Loop:={state:=if b then .ready else .done,pending:=if b then N else O .ret,fn:=fn,tmps:=a,params:=#[13],assign:=qwL qqe,body:=qwM qqe,defers:=c}
def JC(e:ca)(h:J)(c:cF)(a:Array D)(fn:FuncId)(l i:Nat)(b:K)(s:Int)(Γ:ca)(w:J):Prop:=∃d,SR Pg (qfB GE e h) Γ c d w a (qi6 s)/\¬cG c d l/\¬cG c d i/\w.heap[l]? =O (.loop (MF fn a i b))/\w.heap[i]? =O (.deferred (O []))
def quH{Γe:ca}{we:J}{bs:cF}{a:Array Value}{fn:FuncId}{l D:Nat}(hl:we.heap.size<=l)(hD:we.heap.size<=D)(a7:D≠l)(hb:bs.length=2):Yd Pg GE l ag eP (JC Γe we bs a fn l D) where
 base:=λb s Γ w ⟨ow,h,_⟩=>h.base
 side:=λb s Γ w ⟨ow,h,a5,a4,m,A⟩ c0 b8 bg w' a' bn h'=>
  ⟨ow,h.aside h',a5,a4,(h'.step.keep l (lQ m) id).1.trans m,(h'.step.keep D (lQ A) id).1.trans A⟩
 yield:=λs Γ w x v n r ⟨ow,h,a5,a4,m,A⟩ hv hr=>by
  have ar:=qCG s x hr;refine⟨_,_,_,_,run_yield m rfl,?_⟩;have hz:(((#[13]:Array Tmp).zip #[v]).foldl (λL (t,a)=>L.setIfInBounds t a) a)=a.setIfInBounds 13 v:=by simp
  show RoundIn Fence.wide n Pg l fn (((#[13]:Array Tmp).zip #[v]).foldl (λL (t,a)=>L.setIfInBounds t a) a) (qwL qqe) (qwM qqe) w _;rw[hz];have h7:SR Pg (qfB GE Γe we) Γ bs ow w (a.setIfInBounds 13 v) (aM 19 [(2,.bptr 1 0),(13,.agg (ag x))] (qqV s) []):=h.set (d:=13) (p:=.agg (ag x)) (hv.mono (.refl _ _) (λi b hi=>by simp at hi));refine roundIn_of_wpIn md (wpIn_mono (fx.on (qCF s x) (by decide) h7 (by rw[hb];decide) (O l) [] n) ?_);rintro e ⟨a1,bc⟩ w1 ⟨rfl,c1,bs1,bi,br,h1,⟨rfl,rfl⟩,R,a0,b3,a9⟩;let⟨k1,t1⟩:=a9 l (lQ m) a5;let⟨b1,b2⟩:=a9 D (lQ A) a4;have a6:=k1.trans m;refine⟨_,run_beginRound a6 rfl,?_⟩;let⟨ao,E⟩:=h1.putOther (l:=l) (o:=.loop {MF fn a D T with state:=.busy}) t1 (.inr hl) (λc t fr e=>by rw[a6]at e;cases e);have b0:2<=bs1.length:=by have:=h1.bl;rw[this];exact Nat.le_of_ble_eq_true rfl
  let⟨bq,s'⟩:=r;refine wpIn_mono (fx.on ar (by decide) ao b0 (O l) [] n) ?_;rintro e ⟨a2,be⟩ w2 ⟨rfl,P,bb,bl,bt,h2,⟨rfl,rfl⟩,S,a3,b5,ab⟩;have X:(w1.putObj l (.loop {MF fn a D T with state:=.busy})).heap[l]? =O (.loop {MF fn a D T with state:=.busy}):=World.putObj_heap_same (lQ a6);have y:(w1.putObj l (.loop {MF fn a D T with state:=.busy})).heap[D]? =O (.deferred (O [])):=(World.putObj_heap_other a7).trans (b1.trans A);let⟨k2,t2⟩:=ab l (lQ X) t1;let⟨ad,an⟩:=ab D (lQ y) b2;have q:=k2.trans X;cases bq with|true=>refine⟨_,_,run_endRound N q,?_⟩;let⟨h3,F⟩:=h2.putOther (l:=l) (o:=.loop {{MF fn a D T with state:=.busy}with state:=if(N:Q W).isNone then .ready else .done,pending:=N}) t2 (.inr hl) (λc t fr e=>by rw[q]at e;cases e);have B:Γ.Le w P (w2.putObj l (.loop {{MF fn a D T with state:=.busy}with state:=if(N:Q W).isNone then .ready else .done,pending:=N})):=((a0.trans E).trans a3).trans F;let⟨a8,h4,z⟩:=h.back rfl h3 B (H':=qqV s') (λi hi=>(S i (by omega)).trans (R i (by omega))) ⟨md,⟨rfl,aI md md,λx H=>H⟩,md⟩ hb.symm;exact⟨P,rfl,B,a8,h4,λH=>t2 (z l H),λH=>an (z D H),World.putObj_heap_same (lQ q),(World.putObj_heap_other a7).trans (ad.trans y)⟩|false=>refine⟨_,_,run_endRound (O .ret) q,?_⟩;let⟨h3,F⟩:=h2.putOther (l:=l) (o:=.loop {{MF fn a D T with state:=.busy}with state:=if(O Code.ret:Q W).isNone then .ready else .done,pending:=O .ret}) t2 (.inr hl) (λc t fr e=>by rw[q]at e;cases e);have B:Γ.Le w P (w2.putObj l (.loop {{MF fn a D T with state:=.busy}with state:=if(O Code.ret:Q W).isNone then .ready else .done,pending:=O .ret})):=((a0.trans E).trans a3).trans F;let⟨a8,h4,z⟩:=h.back rfl h3 B (H':=qqV s') (λi hi=>(S i (by omega)).trans (R i (by omega))) ⟨md,⟨rfl,aI md md,λx H=>H⟩,md⟩ hb.symm;exact⟨P,rfl,B,a8,h4,λH=>t2 (z l H),λH=>an (z D H),World.putObj_heap_same (lQ q),(World.putObj_heap_other a7).trans (ad.trans y)⟩
def qdR{p:ah}{r:Int}(h:zJ p=O r):CC Pg GE qCB [.agg (ag p)] (.int .i64 r) []:=by
 refine⟨aI (cN p) trivial,call184,λΓ bs ow w vs hS=>(callsIn_wide (n:=0)).1 (callsIn_of_wp_marks func184 (c:=qqU) rfl md ?_)⟩;obtain rfl:bs=[]:=vaw hS.bl;obtain⟨v,rfl⟩:∃v,vs=#[v]:=vcP.1 hS.sz;have hB:qe8 GE Γ w:=hS.base;have hE:qag GE 0 (qfB GE Γ w):=hB.good;have bg:VR Γ [] w (.agg (ag p)) v:=hS.tm 0 _ _ rfl rfl;have h0:SR Pg (qfB GE Γ w) Γ [] (λ_=>N) w (#[v]++Array.replicate 18 undef) (aM 19 [(0,.agg (ag p))] [] []):=by
  refine hB.fresh (a:=#[v]++Array.replicate 18 undef) 0 (tmps:=[.agg (ag p)]++List.replicate 18 .undef) (by simp) λt q u P hu=>?_;by_cases ht:t<1;.rw[B2 (by simpa using ht)]at P;rw[va4 (by simpa using ht)]at hu;match t,ht with|0,_=>simp at P hu;subst P;subst hu;exact bg
  .rw[vav (by show 1<=t;omega),va7]at P;split at P<;>cases P;exact .undef u
 have bi:∀R:Ending->J->Prop,(∀{A:ca}{B:cF}{z:Nat->Q rI}{a6:Array Value}{w6:J},SR Pg (qfB GE Γ w) A B z w6 a6 (qi6 r)->LeavesInM Fence.wide 0 Pg f184 a6 R [] .returning w6)->
   qqU.wpIn Fence.wide 0 Pg (bodyPostM Fence.wide 0 Pg f184 R) ⟨#[v]++Array.replicate 18 undef,[]⟩ w:=λR y=>by
  unfold zJ at h
  let⟨n1,b1,h⟩:=qdp h
  rw[qtu]
  refine wpIn_seq (wpIn_mono (fx.wideE (qCD p) hE h0 0 []) ?_)
  rintro e ⟨a1,dd⟩ w1 ⟨rfl,e7,d3,ds,e0,h1,rfl,rfl⟩
  rcases T6 h with⟨c1,h⟩|⟨c1,h⟩
  .cases h
   refine wpIn_seq (wpIn_mono (fx.wideE (qzQ p b1 c1) hE h1 0 []) ?_)
   rintro e ⟨a2,ar⟩ w2 ⟨rfl,c4,ao,bl,bq,h2,rfl,rfl⟩
   exact y h2
  refine wpIn_seq (wpIn_mono (fx.wideE (qzR p b1 c1) hE h1 0 []) ?_)
  rintro e ⟨a2,ar⟩ w2 ⟨rfl,c4,ao,bl,bq,h2,rfl,rfl⟩
  let⟨n2,b2,h⟩:=qdp h
  rcases T6 h with⟨c2,h⟩|⟨c2,h⟩
  .cases h
   refine wpIn_seq (wpIn_mono (fx.wideE (qzS p b2 c2) hE h2 0 []) ?_)
   rintro e ⟨d,b0⟩ w3 ⟨rfl,a4,s,F,br,E,rfl,rfl⟩
   exact y E
  refine wpIn_seq (wpIn_mono (fx.wideE (qzT p b2 c2) hE h2 0 []) ?_)
  rintro e ⟨d2,c6⟩ e5 ⟨rfl,d1,c5,cn,d0,b3,rfl,rfl⟩
  let⟨q,P,h⟩:=qdp h
  refine wpIn_seq (wpIn_seq (wpIn_mono (fx.wideE (qCE p) hE b3 0 []) ?_))
  rintro e ⟨d,b0⟩ w3 ⟨rfl,a4,s,F,br,E,rfl,rfl⟩
  have h6:=E.opv [] (.tmp 12)
  have e6:opv (qfB GE Γ w).GE (qrW p).tmps (.tmp 12)=.func (.func fW) [] [.eptr (ag p)]:=rfl
  rw[e6]at h6
  have a8:s.length=2:=E.bl
  refine wpIn_block (wpIn_rangeFunc λfn _=>?_)
  let⟨g1,l1⟩:=E.allocO (.deferred (O []))
  let⟨g2,l2⟩:=g1.allocO (.loop (MF fn d w3.heap.size T))
  have gF:=g2.forgetT (tm:=(qi6 0).tmps) rfl
  have S:w.heap.size<=w3.heap.size:=E.step.size
  have ad:∀b,w3.heap.size<=b->¬cG s F b:=λb hb m=>by
   rcases m with⟨i,hi⟩|m
   .have bb:i<(qrW p).boxes.length:=by rw[<-E.bl];exact ax hi
    have:=(E.bx i b _ hi (m6 bb)).2.1;omega
   .cases hL:F b with|none=>exact m hL|some L=>have:=(E.on b L hL).1;omega
  generalize be:(Act.mk d []).eval (.tmp 12)=vf at h6
  cases h6 with
  |func _ _ _ fs cs hl1 hl2 hf hc=>
  obtain rfl:fs=#[]:=vcc hl1
  obtain⟨cv,rfl⟩:∃v,cs=#[v]:=vcP.1 hl2
  have b8:VR a4 s w3 (.eptr (ag p)) cv:=hc 0 _ _ rfl rfl
  have hJ:JC Γ w s d fn (w3.heap.size+1) w3.heap.size T 0 a4 ((w3.alloc (.deferred (O []))).alloc (.loop (MF fn d w3.heap.size T))):=by
   refine⟨F,gF,ad _ (by omega),ad _ (m7 _),?_,?_⟩;.have:=World.alloc_heap_new (w3.alloc (.deferred (O []))) (.loop (MF fn d w3.heap.size T));rwa[World.size_alloc]at this
   .rw[alloc_old _ _ (by rw[World.size_alloc];omega)];exact World.alloc_heap_new w3 _
  have hY:=quH (Γe:=Γ) (we:=w) (bs:=s) (a:=d) (fn:=fn) (l:=w3.heap.size+1) (D:=w3.heap.size) (by omega) S (by omega) a8
  refine⟨_,_,_,{target:=.fn (.func fW) #[cv],args:=#[.func (.yield (w3.heap.size+1)) #[] #[]]},(w3.alloc (.deferred (O []))).alloc (.loop (MF fn d w3.heap.size T)),fW,#[.func (.yield (w3.heap.size+1)) #[] #[],cv],(w3.alloc (.deferred (O []))).alloc (.loop (MF fn d w3.heap.size T)),run_enterLoop_outer fn d #[13] (qwL qqe) (qwM qqe),?_,λ_ _=>trivial,?_,λm=>by simp[Fence.wide]at m,?_⟩
  .have an:(Act.mk d []).eval (.tmp 12)=.func (.func fW) #[] #[cv]:=be
   simp only[resolve,an,Deferred.ofValue]
   simp[Act.eval]
   rfl
  .simp[invoke,call244]
  .refine(qtw hY p (n:=0 - 1) P hJ (((b8.mono l1 (.refl _)).mono l2 (.refl _)).clo (show kT 0 (ag p)from cN p))).mono ?_
   rintro e w4 ⟨⟨u,rfl⟩,ea,c8,dx,h4,c0,bt,a9,b5⟩
   refine⟨_,_,run_endLoop a9 (by cases q.1<;>simp),?_⟩
   let⟨h5,ab⟩:=h4.putOther (l:=w3.heap.size+1) (o:=.loop {MF fn d w3.heap.size q.1 with state:=.exhausted}) c0 (.inr (show w.heap.size<=_ by omega)) (λc t fr e=>by rw[a9]at e;cases e)
   have a0:(w4.putObj (w3.heap.size+1) (.loop {MF fn d w3.heap.size q.1 with state:=.exhausted})).heap[w3.heap.size]? =O (.deferred (O [])):=(World.putObj_heap_other (by omega)).trans b5
   generalize w4.putObj (w3.heap.size+1) (.loop {MF fn d w3.heap.size q.1 with state:=.exhausted})=w5 at h5 ab a0
   have X:∀c:W,fx Pg GE 2 c (EX .ret (qi6 r)) (qi6 q.2)->∀eb:Exit->Act->J->Prop,(∀a w,bodyPostM Fence.wide 0 Pg f184 R .ret a w->eb .ret a w)->c.wpIn Fence.wide 0 Pg eb ⟨d,[{target:=.collected w3.heap.size,args:=#[]}]⟩ w5:=λc hc eb hQ=>by refine wpIn_mono (wpIn_wide.2 (fx.on hc (by decide) h5 (by rw[a8];decide) N [{target:=.collected w3.heap.size,args:=#[]}])) ?_;rintro e ⟨a6,dk⟩ w6 ⟨rfl,A,B,z,e4,h6,⟨rfl,rfl⟩,c7,c9,ci,bc⟩;let⟨k6,t6⟩:=bc _ (lQ a0) bt;have a5:=k6.trans a0;let⟨H,cg⟩:=h6.putOther (l:=w3.heap.size) (o:=.deferred N) t6 (.inr S) (λc t fr e=>by rw[a5]at e;cases e);exact hQ _ _ ⟨by simp,.inl ⟨w3.heap.size,_,rfl,run_takeDeferred a5,y H⟩⟩
   rcases T6 h with⟨c3,h⟩|⟨c3,h⟩
   .cases h
    have e3:(MF fn d w3.heap.size q.1).pending=N:=by show(if q.1 then N else O Code.ret)=N;rw[c3];rfl
    rw[e3]
    exact X (.seq qtI .ret) (qzP q.2) _ (λ_ _ m=>m)
   .cases h
    have e3:(MF fn d w3.heap.size q.1).pending=O .ret:=by show(if q.1 then N else O Code.ret)=O .ret;rw[c3];rfl
    rw[e3]
    exact X .ret (qwb q.2) _ (λ_ _ m=>m)
 refine bi _ λ{A B z a6 w6} H=>?_;have a7:SR Pg ⟨GE,Γ,w,cG [] ow⟩ A B z w6 a6 (qi6 r):={H with
  bn:=λi b hb=>(H.bn i b hb).elim False.elim .inr
  on:=λb L hL=>⟨(H.on b L hL).1,(H.on b L hL).2.elim False.elim .inr⟩
  gx:=hS.gx
  step:={H.step with keep:=λb hb _=>H.step.keep b hb (λm=>m)}}
 let⟨vr,e1,e2,e3⟩:=Gd a7 (fn:=f184) (r:=.int .i64 r) (by kernel_rfl);refine⟨vr,e1,vr,A,SJ (fS f184.results.toList) [] z,rfl,?_⟩;have hf:=a7.finish (H':=[]) (src:=fS f184.results.toList) (ro:=[]) e2 md md (λx m=>by cases m) (λx m=>by cases m);simpa using hf
end Go.Proofs.YtibglelmlnfojaaGreatDoor
