/- PROVED: a part of the proof. Conditions: none. -/
import Derived.Test.YtankopenjcbeeaaGreatDoorPkO12
import Derived.Test.YtankopenjcbeeaaGreatDoorPkO11
set_option linter.unusedSimpArgs false set_option linter.defProp false
set_option linter.unusedVariables false
noncomputable section
namespace Go.Proofs.YtankopenjcbeeaaGreatDoor
open Go Go.Proofs.Tryz
open Option renaming some→O,none→N
open Go renaming TypeId→G,Value→D,Program→I,Oper→M,World→J,Code→W
open Bool renaming true→T,false→Z
open Decidable renaming decide→Y
open YtankopenjcbeeaaGreatDoor renaming PVal→U
set_option linter.defProp false
set_option maxRecDepth 100000
noncomputable def qta:W:=f186.body.getD .skip
def qsb:ZF Pg [] 186 f186 qta:=zf call186 func186 rfl mixed
def Eh(c:tu)(a b:ag):Q K:=if (a.Op == b.Op) = T then if(a.Name==b.Name)then if(a.N==b.N)then (Ie c a.Kids b.Kids).bind λd=>O d else O Z else O Z else O Z
def Xz(b:tu)(d:Dq b){a c:ag}:OV 186 [.agg (af a),.agg (af c)] (Eh b a c) (λr=>.bool r) []:=qsb.v<|
 te (jL a)<|te (jL c)<|have e:=λ{X t w} (r:PV _ X t w)=>tw (aP a)<|tw (aP c)<|r;tf (λo=>have h:=λ{X t w} (r:PV _ X t w)=>e<|tg 6 o<|tw (eo a)<|tw (eo c)<|r;tf (λp=>have i:=λ{X t w} (r:PV _ X t w)=>h<|tg 13 p<|tw (cx a)<|tw (cx c)<|r;tf (λq=>tb λs m=>i<|tg 20 q<|tw (aQ a)<|tw (aQ c)<|cP (XA b d _ m)<|tE) λq=>i<|tg 20 q<|tE) λp=>h<|tg 13 p<|tE) λo=>e<|tg 6 o<|tE
def Ln:((ag×ag)->Q K)->(ag×ag)->Q K:=λ(rec:(ag×ag)->Q K) (x:ag×ag)=>Eh (λa b=>rec (a,b)) x.1 x.2
def GG(a b:ag):Q K:=sQ Ln (a,b)
def Id{a c:ag}:OV 186 [.agg (af a),.agg (af c)] (GG a c) (λr=>.bool r) []:=qaK λ_ h=>ij (F:=Ln) (M:=λ(x:ag×ag) (r:K)=>CC Pg GE 186 [.agg (af x.1),.agg (af x.2)] (.bool r) []) (λrec b x r h=>Xz _ (λa c=>qaK λr h=>b (a,c) r h) _ h) h
noncomputable def qnj:W:=f187.body.getD .skip
def qpw:ZF Pg [19] 187 f187 qnj:=zf call187 func187 rfl mixed
section
variable(d b:m6)(c a:Int)
def kb:az:=aR 32 [(1,sl af d),(2,.func (.func 186) [] []),(15,sl af b),(16,.i6 c),(17,.i6 a)] [] []
def wO(o:Unit⊕(Unit)):Exit:=match o with|(.inl _)=>.ret|(.inr _)=>.exit 0
def oE(o:Unit⊕(Unit)):az:=match o with|(.inl o)=>aR 32 [(6,.bool Z)] [] []|(.inr o)=>aR 32 [] [] []
instance qxQ:KS 0 (kb d b c a):=ks 0 rfl
instance qxM{o:Unit⊕(Unit)}:KS 0 (oE o):=match o with|(.inl o)=>ks 0 rfl|(.inr o)=>ks 0 rfl
def fm:Q (Int⊕(Unit⊕(Unit))):=if Y (a<c)then (cJ b a).bind λh=>(cJ d a).bind λi=>(GG h i).bind λe=>if(!e)then O (.inr (.inl ())) else O (.inl (dc (a+1))) else O (.inr (.inr ()))
def rj:Q (Unit⊕(Unit)):=loop (λ(e:Int)=>fm d b c e) a
def G4:OL 0 (cA qnj 119) (fm d b c a) (λ(p:Int)=>kb d b c p) wO oE (kb d b c a):=qpw.lx<|tF (tb λm h=>tb λo i=>tb λq e=>tv (je.ia h)<|tv (db m)<|tx qd7<|tx (tX m)<|tv (je.ia i)<|tv (db o)<|tx qd7<|tx (tX o)<|tv (mo m [])<|tv (mo o [])<|cP (Id _ e)<|tF tE<|tE)<|tE
def vF:OK 0 (.loop (cA qnj 119)) (rj d b c a) wO oE (kb d b c a):=NA λ_=>G4 _ _ _ _
end
def qq(b c:m6):Q K:=if((b.length:Int)!=(c.length:Int))then O Z else (rj c b (b.length:Int) 0).bind λa=>match a with|(.inl a)=>O Z|(.inr a)=>O T
def M0{a c:m6}:OV 187 [sl af a,sl af c,.func (.func 186) [] []] (qq a c) (λr=>.bool r) []:=qpw.v<|ca (je.ln a)<|ca (je.ln c)<|tF tE<|ca (je.ln a)<|t2 (λd b=>cM (vF c a (a.length:Int) 0 _ b)<|tE) λd b=>cM (vF c a (a.length:Int) 0 _ b)<|tE
noncomputable def qsU:W:=f141.body.getD .skip
def qrV:ZF Pg [] 141 f141 qsU:=zf call141 func141 rfl mixed
def jb(c:dU)(a b:ai):Q K:=if (a.Op == b.Op) = T then if (a.Name == b.Name) = T then (vD a.Names b.Names).bind λh=>if h then (GG a.Pred b.Pred).bind λi=>if i then (qq a.Preds b.Preds).bind λd=>if d then (c a.Args b.Args).bind λe=>O e else O Z else O Z else O Z else O Z else O Z
def td(h:dU)(o:fM h){a b:ai}:OV 141 [.agg (aj a),.agg (aj b)] (jb h a b) (λr=>.bool r) []:=qrV.v<|
 te (nN a)<|te (nN b)<|have p:=λ{X L P} (r:PV _ X L P)=>tw (bo a)<|tw (bo b)<|r;tf (λx=>have q:=λ{X L P} (r:PV _ X L P)=>p<|tg 6 x<|tw (eM a)<|tw (eM b)<|r;tf (λy=>tb λF t=>have s:=λ{X L P} (r:PV _ X L P)=>q<|tg 13 y<|tw (dp a)<|tw (dp b)<|cP (Js _ t)<|r;tf (λz=>tb λH w=>have c:=λ{X L P} (r:PV _ X L P)=>s<|tg 20 z<|tw (fA a)<|tw (fA b)<|cP (Id _ w)<|r;tf (λA=>tb λB i=>have d:=λ{X L P} (r:PV _ X L P)=>c<|tg 27 A<|tw (dK a)<|tw (dK b)<|cP (M0 _ i)<|r;tf (λe=>tb λE m=>d<|tg 34 e<|tw (bN a)<|tw (bN b)<|cP (o _ _ _ m)<|tE) λe=>d<|tg 34 e<|tE) λA=>c<|tg 27 A<|tE) λz=>s<|tg 20 z<|tE) λy=>q<|tg 13 y<|tE) λx=>p<|tg 6 x<|tE
noncomputable def qne:W:=f140.body.getD .skip
def qpm:ZF Pg [19] 140 f140 qne:=zf call140 func140 rfl mixed
section
variable(d:dU)(e b:md)(c a:Int)
def fg:az:=aR 32 [(1,sl aj e),(2,.func (.func 141) [] []),(15,sl aj b),(16,.i6 c),(17,.i6 a)] [] []
def mD(o:Unit⊕(Unit)):Exit:=match o with|(.inl _)=>.ret|(.inr _)=>.exit 0
def gP(o:Unit⊕(Unit)):az:=match o with|(.inl o)=>aR 32 [(6,.bool Z)] [] []|(.inr o)=>aR 32 [] [] []
instance qxh:KS 0 (fg e b c a):=ks 0 rfl
instance qxe{o:Unit⊕(Unit)}:KS 0 (gP o):=match o with|(.inl o)=>ks 0 rfl|(.inr o)=>ks 0 rfl
def dh:Q (Int⊕(Unit⊕(Unit))):=if Y (a<c)then (cJ b a).bind λi=>(cJ e a).bind λm=>(jb d i m).bind λh=>if(!h)then O (.inr (.inl ())) else O (.inl (dc (a+1))) else O (.inr (.inr ()))
def iU:Q (Unit⊕(Unit)):=loop (λ(h:Int)=>dh d e b c h) a
def vG(h:fM d):OL 0 (cA qne 119) (dh d e b c a) (λ(r:Int)=>fg e b c r) mD gP (fg e b c a):=qpm.lx<|tF (tb λp m=>tb λq o=>tb λs i=>tv (ff.ia m)<|tv (fp p)<|tx qhb<|tx (BC p)<|tv (ff.ia o)<|tv (fp q)<|tx qhb<|tx (BC q)<|tv (tL p [])<|tv (tL q [])<|cP (td d h _ i)<|tF tE<|tE)<|tE
def lH(h:fM d):OK 0 (.loop (cA qne 119)) (iU d e b c a) mD gP (fg e b c a):=NA λ_=>vG _ _ _ _ _ h
end
def fR(a:dU)(c d:md):Q K:=if((c.length:Int)!=(d.length:Int))then O Z else (iU a d c (c.length:Int) 0).bind λb=>match b with|(.inl b)=>O Z|(.inr b)=>O T
def yX(a:dU)(b:fM a){c e:md}:OV 140 [sl aj c,sl aj e,.func (.func 141) [] []] (fR a c e) (λr=>.bool r) []:=qpm.v<|ca (ff.ln c)<|ca (ff.ln e)<|tF tE<|ca (ff.ln c)<|t2 (λh d=>cM (lH a e c (c.length:Int) 0 b _ d)<|tE) λh d=>cM (lH a e c (c.length:Int) 0 b _ d)<|tE
def jo:((md×md)->Q K)->(md×md)->Q K:=λ(rec:(md×md)->Q K) (x:md×md)=>fR (λa b=>rec (a,b)) x.1 x.2
def cU(a b:md):Q K:=sQ jo (a,b)
def iV{b c:md}:OV 140 [sl aj b,sl aj c,.func (.func 141) [] []] (cU b c) (λr=>.bool r) []:=qaK λ_ h=>ij (F:=jo) (M:=λ(x:md×md) (r:K)=>CC Pg GE 140 [sl aj x.1,sl aj x.2,.func (.func 141) [] []] (.bool r) []) (λrec a x r h=>yX _ (λb c=>qaK λr h=>a (b,c) r h) _ h) h
noncomputable def qsV:W:=f143.body.getD .skip
def qrW:ZF Pg [] 143 f143 qsV:=zf call143 func143 rfl mixed
def yf(a b:aY):Q K:=if(a.Name==b.Name)then (jb cU a.Type_ b.Type_).bind λc=>O c else O Z
def SF{a b:aY}:OV 143 [.agg (aU a),.agg (aU b)] (yf a b) (λr=>.bool r) []:=qrW.v<|
 te (Yv a)<|te (Yv b)<|have c:=λ{X i m} (r:PV _ X i m)=>tw (qV a)<|tw (qV b)<|r;tf (λe=>tb λh d=>c<|tg 6 e<|tw (kK a)<|tw (kK b)<|cP (td cU (λ_ _=>iV) _ d)<|tE) λe=>c<|tg 6 e<|tE
noncomputable def qnf:W:=f142.body.getD .skip
def qpn:ZF Pg [19] 142 f142 qnf:=zf call142 func142 rfl mixed
section
variable(d b:waF)(c a:Int)
def fw:az:=aR 32 [(1,sl aU d),(2,.func (.func 143) [] []),(15,sl aU b),(16,.i6 c),(17,.i6 a)] [] []
def nR(o:Unit⊕(Unit)):Exit:=match o with|(.inl _)=>.ret|(.inr _)=>.exit 0
def iS(o:Unit⊕(Unit)):az:=match o with|(.inl o)=>aR 32 [(6,.bool Z)] [] []|(.inr o)=>aR 32 [] [] []
instance qxn:KS 0 (fw d b c a):=ks 0 rfl
instance qxl{o:Unit⊕(Unit)}:KS 0 (iS o):=match o with|(.inl o)=>ks 0 rfl|(.inr o)=>ks 0 rfl
def dC:Q (Int⊕(Unit⊕(Unit))):=if Y (a<c)then (cJ b a).bind λh=>(cJ d a).bind λi=>(yf h i).bind λe=>if(!e)then O (.inr (.inl ())) else O (.inl (dc (a+1))) else O (.inr (.inr ()))
def jR:Q (Unit⊕(Unit)):=loop (λ(e:Int)=>dC d b c e) a
def xt:OL 0 (cA qnf 119) (dC d b c a) (λ(p:Int)=>fw d b c p) nR iS (fw d b c a):=qpn.lx<|tF (tb λm h=>tb λo i=>tb λq e=>tv (CA.ia h)<|tv (Mf m)<|tx qfi<|tx (H9 m)<|tv (CA.ia i)<|tv (Mf o)<|tx qfi<|tx (H9 o)<|tv (VQ m [])<|tv (VQ o [])<|cP (SF _ e)<|tF tE<|tE)<|tE
def mT:OK 0 (.loop (cA qnf 119)) (jR d b c a) nR iS (fw d b c a):=NA λ_=>xt _ _ _ _
end
def iJ(b c:waF):Q K:=if((b.length:Int)!=(c.length:Int))then O Z else (jR c b (b.length:Int) 0).bind λa=>match a with|(.inl a)=>O Z|(.inr a)=>O T
def CD{a c:waF}:OV 142 [sl aU a,sl aU c,.func (.func 143) [] []] (iJ a c) (λr=>.bool r) []:=qpn.v<|ca (CA.ln a)<|ca (CA.ln c)<|tF tE<|ca (CA.ln a)<|t2 (λd b=>cM (mT c a (a.length:Int) 0 _ b)<|tE) λd b=>cM (mT c a (a.length:Int) 0 _ b)<|tE
noncomputable def qsW:W:=f145.body.getD .skip
def qrX:ZF Pg [] 145 f145 qsW:=zf call145 func145 rfl mixed
def yg(b:fo)(a c:bH):Q K:=if(a.Con==c.Con)then (vD a.Names c.Names).bind λd=>if d then (b a.Body c.Body).bind λe=>O e else O Z else O Z
def SG(c:fo)(d:jt c){a b:bH}:OV 145 [.agg (bz a),.agg (bz b)] (yg c a b) (λr=>.bool r) []:=qrX.v<|
 te (qae a)<|te (qae b)<|have e:=λ{X t w} (r:PV _ X t w)=>tw (D3 a)<|tw (D3 b)<|r;tf (λo=>tb λq i=>have h:=λ{X t w} (r:PV _ X t w)=>e<|tg 6 o<|tw (sR a)<|tw (sR b)<|cP (Js _ i)<|r;tf (λp=>tb λs m=>h<|tg 13 p<|tw (sS a)<|tw (sS b)<|cP (d _ _ _ m)<|tE) λp=>h<|tg 13 p<|tE) λo=>e<|tg 6 o<|tE
noncomputable def qng:W:=f144.body.getD .skip
def qpo:ZF Pg [19] 144 f144 qng:=zf call144 func144 rfl mixed
section
variable(d:fo)(e b:rf)(c a:Int)
def fx:az:=aR 32 [(1,sl bz e),(2,.func (.func 145) [] []),(15,sl bz b),(16,.i6 c),(17,.i6 a)] [] []
def nS(o:Unit⊕(Unit)):Exit:=match o with|(.inl _)=>.ret|(.inr _)=>.exit 0
def iT(o:Unit⊕(Unit)):az:=match o with|(.inl o)=>aR 32 [(6,.bool Z)] [] []|(.inr o)=>aR 32 [] [] []
instance qxo:KS 0 (fx e b c a):=ks 0 rfl
instance qxm{o:Unit⊕(Unit)}:KS 0 (iT o):=match o with|(.inl o)=>ks 0 rfl|(.inr o)=>ks 0 rfl
def dD:Q (Int⊕(Unit⊕(Unit))):=if Y (a<c)then (cJ b a).bind λi=>(cJ e a).bind λm=>(yg d i m).bind λh=>if(!h)then O (.inr (.inl ())) else O (.inl (dc (a+1))) else O (.inr (.inr ()))
def jS:Q (Unit⊕(Unit)):=loop (λ(h:Int)=>dD d e b c h) a
def xu(h:jt d):OL 0 (cA qng 119) (dD d e b c a) (λ(r:Int)=>fx e b c r) nS iT (fx e b c a):=qpo.lx<|tF (tb λp m=>tb λq o=>tb λs i=>tv (kn.ia m)<|tv (uL p)<|tx NF<|tx (rE p)<|tv (kn.ia o)<|tv (uL q)<|tx NF<|tx (rE q)<|tv (qbL p [])<|tv (qbL q [])<|cP (SG d h _ i)<|tF tE<|tE)<|tE
def mU(h:jt d):OK 0 (.loop (cA qng 119)) (jS d e b c a) nS iT (fx e b c a):=NA λ_=>xu _ _ _ _ _ h
end
def iK(a:fo)(c d:rf):Q K:=if((c.length:Int)!=(d.length:Int))then O Z else (jS a d c (c.length:Int) 0).bind λb=>match b with|(.inl b)=>O Z|(.inr b)=>O T
def CE(a:fo)(b:jt a){c e:rf}:OV 144 [sl bz c,sl bz e,.func (.func 145) [] []] (iK a c e) (λr=>.bool r) []:=qpo.v<|ca (kn.ln c)<|ca (kn.ln e)<|tF tE<|ca (kn.ln c)<|t2 (λh d=>cM (mU a e c (c.length:Int) 0 b _ d)<|tE) λh d=>cM (mU a e c (c.length:Int) 0 b _ d)<|tE
noncomputable def qsN:W:=f104.body.getD .skip
def qrO:ZF Pg [] 104 f104 qsN:=zf call104 func104 rfl mixed
def yh (c:fo) (a b:ah):Q K :=if (a.Op == b.Op) = T then if (a.Name == b.Name) = T then if (a.N == b.N) = T then (kc c a.Kids b.Kids).bind λi=>if i then (cU a.Types b.Types).bind λd=>if d then (iJ a.Params b.Params).bind λe=>if e then (iK c a.Alts b.Alts).bind λh=>O h else O Z else O Z else O Z else O Z else O Z else O Z
def Ub(c:fo)(d:jt c){a b:ah}:OV 104 [.agg (al a),.agg (al b)] (yh c a b) (λr=>.bool r) []:=qrO.v<|
 te (dG a)<|te (dG b)<|have s:=λ{X R S} (r:PV _ X R S)=>tw (bK a)<|tw (bK b)<|r;tf (λz=>have t:=λ{X R S} (r:PV _ X R S)=>s<|tg 6 z<|tw (cc a)<|tw (cc b)<|r;tf (λA=>have w:=λ{X R S} (r:PV _ X R S)=>t<|tg 13 A<|tw (di a)<|tw (di b)<|r;tf (λB=>tb λP y=>have x:=λ{X R S} (r:PV _ X R S)=>w<|tg 20 B<|tw (aB a)<|tw (aB b)<|cP (FA c d _ y)<|r;tf (λE=>tb λF o=>have e:=λ{X R S} (r:PV _ X R S)=>x<|tg 27 E<|tw (ax a)<|tw (ax b)<|cP (iV _ o)<|r;tf (λi=>tb λH p=>have h:=λ{X R S} (r:PV _ X R S)=>e<|tg 34 i<|tw (bk a)<|tw (bk b)<|cP (CD _ p)<|r;tf (λm=>tb λL q=>h<|tg 41 m<|tw (aF a)<|tw (aF b)<|cP (CE c d _ q)<|tE) λm=>h<|tg 41 m<|tE) λi=>e<|tg 34 i<|tE) λE=>x<|tg 27 E<|tE) λB=>w<|tg 20 B<|tE) λA=>t<|tg 13 A<|tE) λz=>s<|tg 6 z<|tE
def FC:((ah×ah)->Q K)->(ah×ah)->Q K:=λ(rec:(ah×ah)->Q K) (x:ah×ah)=>yh (λa b=>rec (a,b)) x.1 x.2
def EG(a b:ah):Q K:=sQ FC (a,b)
def LH{a c:ah}:OV 104 [.agg (al a),.agg (al c)] (EG a c) (λr=>.bool r) []:=qaK λ_ h=>ij (F:=FC) (M:=λ(x:ah×ah) (r:K)=>CC Pg GE 104 [.agg (al x.1),.agg (al x.2)] (.bool r) []) (λrec b x r h=>Ub _ (λa c=>qaK λr h=>b (a,c) r h) _ h) h
noncomputable def qnk:W:=f188.body.getD .skip
def qpx:ZF Pg [23] 188 f188 qnk:=zf call188 func188 rfl mixed
section
variable(s:aa)(i:Int)
def Cc:az:=aR 24 [(0,.str s),(5,.i6 i)] [] []
def La(o:(aa×aa)⊕(Unit)):Exit:=match o with|(.inl _)=>.ret|(.inr _)=>.exit 0
def Lb(o:(aa×aa)⊕(Unit)):az:=match o with|(.inl o)=>aR 24 [(2,.str o.1),(3,.str o.2),(4,.bool T)] [] []|(.inr o)=>aR 24 [(0,.str s)] [] []
def py:Q (Int⊕((aa×aa)⊕(Unit))):=if Y (i<(s.length:Int))then (lO s i).bind λa=>if(a==46)then (SB s N (O i)).bind λb=>(SB s (O (dc (i+1))) N).bind λc=>O (.inr (.inl (b,c))) else O (.inl (dc (i+1))) else O (.inr (.inr ()))
def H5:Q ((aa×aa)⊕(Unit)):=loop (λ(a:Int)=>py s a) i
def R5:OL 0 (cA qnk 55) (py s i) (λ(d:Int)=>Cc s d) La (Lb s) (Cc s i):=qpx.l<|ca (LF underlying9 s)<|tF (tb λe a=>tv (wP underlying9 a)<|tF (tb λh b=>tb λm c=>qfr [0,0,3,0,0,16,56,7,255,511]<|tv (qmR underlying9 b)<|tv (qmR underlying9 c)<|tE)<|tE)<|tE
def Jd:OK 0 (.loop (cA qnk 55)) (H5 s i) La (Lb s) (Cc s i):=NA λ_=>R5 _ _
end
def Gw(s:aa):Q (aa×aa×K):=(H5 s 0).bind λa=>match a with|(.inl a)=>O (a.1,a.2,T)|(.inr a)=>O (s,([]:aa),Z)
def Qe{s:aa}:OV 188 [.str s] (Gw s) (λr=>.tuple [.str r.1,.str r.2.1,.bool r.2.2]) []:=qpx.v<|t2 (λb a=>cM (Jd s 0 _ a)<|tE) λb a=>cM (Jd s 0 _ a)<|tE
noncomputable def qtb:W:=f191.body.getD .skip
def qsc:ZF Pg [] 191 f191 qtb:=zf call191 func191 rfl mixed
def tS(s:aa):Q K:=if Y ((s.length:Int)>=1)then O (Y ((s.length:Int)<=24)) else O Z
def ms{s:aa}:OV 191 [.str s] (tS s) (λr=>.bool r) []:=qsc.v<|tf (λa=>ca (LF underlying9 s)<|tg 4 a<|ca (LF underlying9 s)<|tE) λa=>ca (LF underlying9 s)<|tg 4 a<|tE
noncomputable def qtl:W:=f232.body.getD .skip
def qsm:ZF Pg [] 232 f232 qtl:=zf call232 func232 rfl mixed
def pz(c:Int):Q K:=if Y (97<=c)then O (Y (c<=122)) else O Z
def uP{c:Int}:OV 232 [.int .u8 c] (pz c) (λr=>.bool r) []:=qsm.v<|tf (λa=>tg 3 a<|tE) λa=>tg 3 a<|tE
noncomputable def qno:W:=f233.body.getD .skip
def qpB:ZF Pg [] 233 f233 qno:=zf call233 func233 rfl mixed
section
variable(s:aa)(a:Int)
def sW:az:=aR 13 [(0,.str s),(5,.agg (ee.map PVal.str)),(6,.i6 a)] [] []
def Ca(o:Unit⊕(Unit)):Exit:=match o with|(.inl _)=>.ret|(.inr _)=>.exit 0
def Cb(o:Unit⊕(Unit)):az:=match o with|(.inl o)=>aR 13 [(2,.bool T)] [] []|(.inr o)=>aR 13 [] [] []
def jJ:Q (Int⊕(Unit⊕(Unit))):=if Y (a<42)then (cJ ee a).bind λb=>if(b==s)then O (.inr (.inl ())) else O (.inl (dc (a+1))) else O (.inr (.inr ()))
def xf:Q (Unit⊕(Unit)):=loop (λ(b:Int)=>jJ s b) a
def K8:OL 0 (cA qno 55) (jJ s a) (λ(c:Int)=>sW s c) Ca Cb (sW s a):=qpB.l<|tF (tb λd b=>tv (Qf (k:=.i64) b)<|tF tE<|tE)<|tE
def At:OK 0 (.loop (cA qno 55)) (xf s a) Ca Cb (sW s a):=NA λ_=>K8 _ _
end
def xX(s:aa):Q K:=(xf s 0).bind λa=>match a with|(.inl a)=>O T|(.inr a)=>O Z
def R2{s:aa}:OV 233 [.str s] (xX s) (λr=>.bool r) []:=qpB.v<|tv Qg<|t2 (λb a=>cM (At s 0 _ a)<|tE) λb a=>cM (At s 0 _ a)<|tE
noncomputable def qtm:W:=f234.body.getD .skip
def qsn:ZF Pg [] 234 f234 qtm:=zf call234 func234 rfl mixed
def tQ(c:Int):Q K:=if Y (48<=c)then O (Y (c<=57)) else O Z
def Ce{c:Int}:OV 234 [.int .u8 c] (tQ c) (λr=>.bool r) []:=qsn.v<|tf (λa=>tg 3 a<|tE) λa=>tg 3 a<|tE
noncomputable def qhT:W:=f189.body.getD .skip
def qkD:ZF Pg [] 189 f189 qhT:=zf call189 func189 rfl mixed
section
variable(s:aa)
def xY:Q K:=(tS s).bind λb=>if(!b)then O T else (lO s 0).bind λa=>(pz a).bind λc=>if(!c)then O T else (xX s).bind λd=>O d
def R7:OU 0 (cA qhT 12) (xY s) .normal (λo=>[(16,.bool o)]) (aR 41 [(0,.str s)] [] []):=qkD.j<|
 tb λp a=>tf (λh=>cP (ms _ a)<|tg 4 h<|tE) λh=>tb λm c=>tb λq d=>have b:=λ{X w x} (r:PV _ X w x)=>cP (ms _ a)<|tg 4 h<|tv (wP underlying9 c)<|cP (uP _ d)<|r;tf (λi=>b<|tg 10 i<|tE) λi=>tb λt e=>b<|tg 10 i<|cP (R2 _ e)<|tE
end
section
variable(s:aa)(i:Int)
def xZ:Q K:=(lO s i).bind λa=>(pz a).bind λd=>if(!d)then (lO s i).bind λb=>(tQ b).bind λe=>if(!e)then (lO s i).bind λc=>O (c !=95) else O Z else O Z
def R9:OU 0 (cA qhT 1914) (xZ s i) .normal (λo=>[(40,.bool o)]) (aR 41 [(0,.str s),(3,.i6 i)] [] []):=qkD.j<|
 tb λt e=>tb λy p=>have a:=λ{X A B} (r:PV _ X A B)=>tv (wP underlying9 e)<|cP (uP _ p)<|r;tf (λc=>tb λw h=>tb λz q=>have b:=λ{X A B} (r:PV _ X A B)=>a<|tg 6 c<|tv (wP underlying9 h)<|cP (Ce _ q)<|r;tf (λd=>tb λx m=>b<|tg 13 d<|tv (wP underlying9 m)<|tE) λd=>b<|tg 13 d<|tE) λc=>a<|tg 6 c<|tE
end
section
variable(s:aa)(i:Int)
def zq:az:=aR 41 [(0,.str s),(3,.i6 i)] [] []
def Je(o:Unit⊕(Unit)):Exit:=match o with|(.inl _)=>.ret|(.inr _)=>.exit 0
def Jf(o:Unit⊕(Unit)):az:=match o with|(.inl o)=>aR 41 [(2,.bool Z)] [] []|(.inr o)=>aR 41 [] [] []
def sG:Q (Int⊕(Unit⊕(Unit))):=if Y (i<(s.length:Int))then (xZ s i).bind λa=>if a then O (.inr (.inl ())) else O (.inl (dc (i+1))) else O (.inr (.inr ()))
def ya:Q (Unit⊕(Unit)):=loop (λ(a:Int)=>sG s a) i
def Qh:OL 0 (cA qhT 119) (sG s i) (λ(c:Int)=>zq s c) Je Jf (zq s i):=qkD.l<|ca (LF underlying9 s)<|tF (tb λb a=>jC 1<|cM (R9 s i _ a)<|tF tE<|tE)<|tE
def Gx:OK 0 (.loop (cA qhT 119)) (ya s i) Je Jf (zq s i):=NA λ_=>Qh _ _
end
def H6(s:aa):Q K:=(xY s).bind λb=>if b then O Z else (ya s 1).bind λa=>match a with|(.inl a)=>O Z|(.inr a)=>O T
def Nz{s:aa}:OV 189 [.str s] (H6 s) (λr=>.bool r) []:=qkD.v<|tb λd b=>jC 2<|cM (R7 s _ b)<|tF tE<|t2 (λc a=>cM (Gx s 1 _ a)<|tE) λc a=>cM (Gx s 1 _ a)<|tE
noncomputable def qtn:W:=f235.body.getD .skip
def qso:ZF Pg [] 235 f235 qtn:=zf call235 func235 rfl mixed
def rC(c:Int):Q K:=if Y (65<=c)then O (Y (c<=90)) else O Z
def Gv{c:Int}:OV 235 [.int .u8 c] (rC c) (λr=>.bool r) []:=qso.v<|tf (λa=>tg 3 a<|tE) λa=>tg 3 a<|tE
noncomputable def qkO:W:=f192.body.getD .skip
def qm5:ZF Pg [] 192 f192 qkO:=zf call192 func192 rfl mixed
section
variable(s:aa)(i:Int)
def jZ:Q K:=(lO s i).bind λc=>(pz c).bind λe=>if(!e)then (lO s i).bind λd=>(rC d).bind λh=>if(!h)then (lO s i).bind λa=>(tQ a).bind λb=>O (!b) else O Z else O Z
def E8:OU 0 (cA qkO 890) (jZ s i) .normal (λo=>[(28,.bool o)]) (aR 29 [(0,.str s),(3,.i6 i)] [] []):=qm5.j<|
 tb λy e=>tb λA m=>have c:=λ{X E F} (r:PV _ X E F)=>tv (wP underlying9 e)<|cP (uP _ m)<|r;tf (λq=>tb λz h=>tb λB p=>have d:=λ{X E F} (r:PV _ X E F)=>c<|tg 6 q<|tv (wP underlying9 h)<|cP (Gv _ p)<|r;tf (λt=>tb λw a=>tb λx b=>d<|tg 13 t<|tv (wP underlying9 a)<|cP (Ce _ b)<|tE) λt=>d<|tg 13 t<|tE) λq=>c<|tg 6 q<|tE
end
section
variable(s:aa)(i:Int)
def mr:az:=aR 29 [(0,.str s),(3,.i6 i)] [] []
def tO(o:Unit⊕(Unit)):Exit:=match o with|(.inl _)=>.ret|(.inr _)=>.exit 0
def tP(o:Unit⊕(Unit)):az:=match o with|(.inl o)=>aR 29 [(2,.bool Z)] [] []|(.inr o)=>aR 29 [] [] []
def fI:Q (Int⊕(Unit⊕(Unit))):=if Y (i<(s.length:Int))then (jZ s i).bind λa=>if a then O (.inr (.inl ())) else O (.inl (dc (i+1))) else O (.inr (.inr ()))
def og:Q (Unit⊕(Unit)):=loop (λ(a:Int)=>fI s a) i
def C9:OL 0 (cA qkO 55) (fI s i) (λ(c:Int)=>mr s c) tO tP (mr s i):=qm5.l<|ca (LF underlying9 s)<|tF (tb λb a=>jC 1<|cM (E8 s i _ a)<|tF tE<|tE)<|tE
def rB:OK 0 (.loop (cA qkO 55)) (og s i) tO tP (mr s i):=NA λ_=>C9 _ _
end
def jK(s:aa):Q K:=(og s 0).bind λa=>match a with|(.inl a)=>O Z|(.inr a)=>O T
def wC{s:aa}:OV 192 [.str s] (jK s) (λr=>.bool r) []:=qm5.v<|t2 (λb a=>cM (rB s 0 _ a)<|tE) λb a=>cM (rB s 0 _ a)<|tE
noncomputable def qpX:W:=f190.body.getD .skip
def qpy:ZF Pg [] 190 f190 qpX:=zf call190 func190 rfl mixed
section
variable(s:aa)
def uQ:Q K:=(tS s).bind λb=>if(!b)then O T else (lO s 0).bind λa=>(rC a).bind λc=>if(!c)then O T else (jK s).bind λd=>O (!d)
def Qj:OU 0 (cA qpX 12) (uQ s) .normal (λo=>[(16,.bool o)]) (aR 31 [(0,.str s)] [] []):=qpy.j<|
 tb λp a=>tf (λh=>cP (ms _ a)<|tg 4 h<|tE) λh=>tb λm c=>tb λq d=>have b:=λ{X w x} (r:PV _ X w x)=>cP (ms _ a)<|tg 4 h<|tv (wP underlying9 c)<|cP (Gv _ d)<|r;tf (λi=>b<|tg 10 i<|tE) λi=>tb λt e=>b<|tg 10 i<|cP (wC _ e)<|tE
end
def Ed(s:aa):Q K:=(uQ s).bind λa=>if a then O Z else if(!(s==([73,110,116]:aa)))then if(!(s==([66,111,111,108]:aa)))then if(!(s==([67,101,108,108]:aa)))then O (!(s==([70,117,110]:aa))) else O Z else O Z else O Z
def VZ{s:aa}:OV 190 [.str s] (Ed s) (λr=>.bool r) []:=qpy.v<|
 tb λh e=>jC 2<|cM (Qj s _ e)<|tF tE<|tf (λa=>tf (λc=>have b:=λ{X i m} (r:PV _ X i m)=>tg 3 a<|tg 7 c<|r;tf (λd=>b<|tg 11 d<|tE) λd=>b<|tg 11 d<|tE) λc=>tg 3 a<|tg 7 c<|tE) λa=>tg 3 a<|tE
noncomputable def qkP:W:=f193.body.getD .skip
def qm6:ZF Pg [] 193 f193 qkP:=zf call193 func193 rfl mixed
section
variable(s:aa)(i:Int)
def yb:Q K:=(lO s i).bind λb=>(pz b).bind λd=>if (!d) = T then if(i==0)then O T else (lO s i).bind λc=>(tQ c).bind λe=>if(!e)then (lO s i).bind λa=>O (a !=95) else O Z else O Z
def Sc:OU 0 (cA qkP 890) (yb s i) .normal (λo=>[(31,.bool o)]) (aR 32 [(0,.str s),(3,.i6 i)] [] []):=qm6.j<|
 tb λy h=>tb λA p=>have d:=λ{X E F} (r:PV _ X E F)=>tv (wP underlying9 h)<|cP (uP _ p)<|r;tf (λt=>have e:=λ{X E F} (r:PV _ X E F)=>d<|tg 6 t<|r;tf (λw=>e<|tg 9 w<|tE) λw=>tb λz m=>tb λB q=>have a:=λ{X E F} (r:PV _ X E F)=>e<|tg 9 w<|tv (wP underlying9 m)<|cP (Ce _ q)<|r;tf (λb=>tb λx c=>a<|tg 15 b<|tv (wP underlying9 c)<|tE) λb=>a<|tg 15 b<|tE) λt=>d<|tg 6 t<|tE
end
section
variable(s:aa)(i:Int)
def zr:az:=aR 32 [(0,.str s),(3,.i6 i)] [] []
def Jg(o:Unit⊕(Unit)):Exit:=match o with|(.inl _)=>.ret|(.inr _)=>.exit 0
def Jh(o:Unit⊕(Unit)):az:=match o with|(.inl o)=>aR 32 [(2,.bool Z)] [] []|(.inr o)=>aR 32 [] [] []
def nM:Q (Int⊕(Unit⊕(Unit))):=if Y (i<(s.length:Int))then (yb s i).bind λa=>if a then O (.inr (.inl ())) else O (.inl (dc (i+1))) else O (.inr (.inr ()))
def E9:Q (Unit⊕(Unit)):=loop (λ(a:Int)=>nM s a) i
def Qk:OL 0 (cA qkP 55) (nM s i) (λ(c:Int)=>zr s c) Jg Jh (zr s i):=qm6.l<|ca (LF underlying9 s)<|tF (tb λb a=>jC 1<|cM (Sc s i _ a)<|tF tE<|tE)<|tE
def Gy:OK 0 (.loop (cA qkP 55)) (E9 s i) Jg Jh (zr s i):=NA λ_=>Qk _ _
end
def H7(s:aa):Q K:=(E9 s 0).bind λa=>match a with|(.inl a)=>O Z|(.inr a)=>O T
def Xo{s:aa}:OV 193 [.str s] (H7 s) (λr=>.bool r) []:=qm6.v<|t2 (λb a=>cM (Gy s 0 _ a)<|tE) λb a=>cM (Gy s 0 _ a)<|tE
noncomputable def qhS:W:=f147.body.getD .skip
def qkC:ZF Pg [] 147 f147 qhS:=zf call147 func147 rfl mixed
section
variable(first b:aa)(a:K)
def xV:Q K:=
 (H6 first).bind λc=>
 if (!c) = T then
  (Ed first).bind λd=>
  if(!d)then
   if(!(first==([118]:aa)))then
    O T
   else
    O (!a)
  else
   O Z
 else
  O Z
def RX:OU 0 (cA qhS 60) (xV first a) .normal (λo=>[(3,.undef),(31,.bool o)]) (aR 52 [(3,.str first),(4,.str b),(5,.bool a)] [] []):=qkC.j<|
 tb λq c=>tf (λi=>tb λs h=>have d:=λ{X t w} (r:PV _ X t w)=>cP (Nz _ c)<|tg 4 i<|cP (VZ _ h)<|r;tf (λm=>have e:=λ{X t w} (r:PV _ X t w)=>d<|tg 9 m<|r;tf (λp=>e<|tg 12 p<|tE) λp=>e<|tg 12 p<|tE) λm=>d<|tg 9 m<|tE) λi=>cP (Nz _ c)<|tg 4 i<|tE
end
section
variable(b:aa)(a:K)(part:aa)
def xW:Q K:=(tS part).bind λc=>if(!c)then O T else (jK part).bind λd=>if(!d)then (H7 part).bind λe=>O (!e) else O Z
def RZ:OU 0 (cA qhS 8062) (xW part) .normal (λo=>[(6,.undef),(51,.bool o)]) (aR 52 [(4,.str b),(5,.bool a),(6,.str part)] [] []):=qkC.j<|
 tb λp c=>tf (λe=>cP (ms _ c)<|tg 4 e<|tE) λe=>tb λq i=>have d:=λ{X t w} (r:PV _ X t w)=>cP (ms _ c)<|tg 4 e<|cP (wC _ i)<|r;tf (λh=>tb λs m=>d<|tg 8 h<|cP (Xo _ m)<|tE) λh=>d<|tg 8 h<|tE
end
section
variable(b:aa)(a:K)
def zp:az:=aR 52 [(4,.str b),(5,.bool a)] [] []
def Jb(o:Unit⊕(Unit)):Exit:=match o with|(.inl _)=>.ret|(.inr _)=>.exit 0
def Jc(o:Unit⊕(Unit)):az:=match o with|(.inl o)=>aR 52 [(2,.i6 3)] [] []|(.inr o)=>aR 52 [] [] []
def kw:Q ((aa×K)⊕(Unit⊕(Unit))):=if a then (Gw b).bind λc=>(xW c.1).bind λd=>if d then O (.inr (.inl ())) else O (.inl (c.2.1,c.2.2)) else O (.inr (.inr ()))
def jx:Q (Unit⊕(Unit)):=loop (λ(c:aa×K)=>kw c.1 c.2) (b,a)
def Qb:OL 0 (cA qhS 251) (kw b a) (λ(h:aa×K)=>zp h.1 h.2) Jb Jc (zp b a):=qkC.l<|tF (tb λc e=>tb λi d=>cP (Qe _ e)<|jC 0<|cM (RZ c.2.1 c.2.2 c.1 _ d)<|tF tE<|tE)<|tE
def Gt:OK 0 (.loop (cA qhS 251)) (jx b a) Jb Jc (zp b a):=NA λ_=>Qb _ _
end
def nj(s:aa):Q Int:=if Y ((s.length:Int)>120)then O 3 else (Gw s).bind λb=>(xV b.1 b.2.2).bind λc=>if c then O 3 else (jx b.2.1 b.2.2).bind λa=>match a with|(.inl a)=>O 3|(.inr a)=>O 0
def jy{s:aa}:OV 147 [.str s] (nj s) (λr=>.i6 r) []:=qkC.v<|ca (LF underlying9 s)<|tF tE<|tb λb d=>tb λh c=>cP (Qe _ d)<|jC 1<|cM (RX b.1 b.2.1 b.2.2 _ c)<|tF tE<|t2 (λe a=>cM (Gt b.2.1 b.2.2 _ a)<|tE) λe a=>cM (Gt b.2.1 b.2.2 _ a)<|tE
noncomputable def qsX:W:=f148.body.getD .skip
def qrY:ZF Pg [] 148 f148 qsX:=zf call148 func148 rfl mixed
def rG(s:aa):Q K:=(lO s 0).bind λa=>if Y (a>=65)then (lO s 0).bind λb=>O (Y (b<=90)) else O Z
def GI{s:aa}:OV 148 [.str s] (rG s) (λr=>.bool r) []:=qrY.v<|tb λd a=>tf (λc=>tb λe b=>tv (wP underlying9 a)<|tg 4 c<|tv (wP underlying9 b)<|tE) λc=>tv (wP underlying9 a)<|tg 4 c<|tE
noncomputable def qpO:W:=f105.body.getD .skip
def qpi:ZF Pg [] 105 f105 qpO:=zf call105 func105 rfl mixed
section
variable(s:aa)(m:V Int)(a:K)
def kZ:Q K:=(nj s).bind λb=>if(b !=0)then O T else (rG s).bind λc=>O c
def GR:OU 1 (cA qpO 4) (kZ s) .normal (λo=>[(10,.bool o)]) (aR 18 [(0,.bptr 0 0),(1,.str s)] [ce 0 m a] []):=qpi.j<|tb λe b=>tf (λd=>cP (jy _ b)<|tg 4 d<|tE) λd=>tb λh c=>cP (jy _ b)<|tg 4 d<|cP (GI _ c)<|tE
end
def aZ(s:aa)(b:V Int)(a:K):Q (K×V Int):=(kZ s).bind λc=>if c then O (T,b) else (ae ([s]:V aa) b a).bind λd=>O (a,d)
def bh{s:aa}{d:V Int}{a:K}:OG 105 [.bptr 0 0,.str s] [] [ce 0 d a] (aZ s d a) (λr=>.tuple []) [] (λr=>[ce 0 r.2 r.1]):=qpi.g 1<|tb λe b=>jC 1<|cM (GR s d a _ b)<|tF (ts<|tE)<|tb λh c=>tv (bG [s] 1 rfl)<|tc [0] (ac _ c)<|tE
noncomputable def qsY:W:=f150.body.getD .skip
def qrZ:ZF Pg [] 150 f150 qsY:=zf call150 func150 rfl mixed
def pV(i:Int)(a:waA)(d:V Int)(b:K):Q (V Int×K):=(cJ a i).bind λe=>(aZ e d b).bind λc=>O (c.2,c.1)
def GS{i:Int}{a:waA}{e:V Int}{b:K}:OG 150 [.i6 i,.bptr 0 0,.eptr ((cL cS) a)] [] [.cells [.bptr 1 0] [],ce 1 e b] (pV i a e b) (λr=>.tuple []) [] (λr=>[.cells [.bptr 1 0] [],ce 1 r.1 r.2]):=qrZ.g 2<|tb λh d=>tb λm c=>tk<|FD (.dx [0,0,0,6,14] [] [] [])<|ts<|tv (cX qoB (sl cS a) [])<|tv (cT.ia d)<|tv (cX OR (.str h) [])<|tc [1] (bh _ c)<|tE
noncomputable def BS:W:=f149.body.getD .skip
def qO:ZF Pg [10] 149 f149 BS:=zf call149 func149 rfl mixed
section
variable(v:waA)(i b:Int)(m:V Int)(a:K)
def vd:Q (V Int):=if Y (i>0)then (ae ([dI]:V aa) m a).bind λc=>O c else O m
def Dg:OJ 2 (cA BS 1014) (vd i m a) .normal (λo=>aR 20 [(0,.bptr 0 0),(2,.func (.func 150) [] [.bptr 1 0,.eptr ((cL cS) v)]),(6,.i6 i),(7,.i6 b),(8,.i6 i)] [ce 0 o a,.cells [.bptr 0 0] []] []) (aR 20 [(0,.bptr 0 0),(2,.func (.func 150) [] [.bptr 1 0,.eptr ((cL cS) v)]),(6,.i6 i),(7,.i6 b),(8,.i6 i)] [ce 0 m a,.cells [.bptr 0 0] []] []):=qO.j<|tF (tb λd c=>tv (bG [dI] 1 rfl)<|tc [0] (ac _ c)<|tE)<|tE
end
section
variable(v:waA)(c a:Int)(m:V Int)(b:K)
def rZ:az:=aR 20 [(0,.bptr 0 0),(2,.func (.func 150) [] [.bptr 1 0,.eptr ((cL cS) v)]),(7,.i6 c),(8,.i6 a)] [ce 0 m b,.cells [.bptr 0 0] []] []
def Fq(o:V Int×K):az:=aR 20 [] [ce 0 o.1 o.2,.cells [.bptr 0 0] []] []
def sa:Q ((Int×V Int×K)⊕(V Int×K)):=if Y (a<c)then (vd a m b).bind λe=>(pV a v e b).bind λd=>O (.inl (dc (a+1),d.1,d.2)) else O (.inr (m,b))
def vg:Q (V Int×K):=loop (λ(d:Int×V Int×K)=>sa v c d.1 d.2.1 d.2.2) (a,m,b)
def Cv:OL 2 (cA BS 15) (sa v c a m b) (λ(h:Int×V Int×K)=>rZ v c h.1 h.2.1 h.2.2) (λ_=>.exit 0) Fq (rZ v c a m b):=qO.l<|tF (tb λi d=>tb λo e=>jC 2<|cM (Dg v a c m b _ d)<|tc [1,0] (GS _ e)<|tE)<|tE
def Dh:=ug (s:=(a,m,b)) λd=>Cv v c d.1 d.2.1 d.2.2
end
def qZ(n:Int)(c:waA)(d:V Int)(a:K):Q (V Int×K):=(vg c n 0 d a).bind λb=>O (b.1,b.2)
def Is{n:Int}{c:waA}{d:V Int}{a:K}:OG 149 [.bptr 0 0,.i6 n,.func (.func 150) [] [.bptr 1 0,.eptr ((cL cS) c)]] [] [ce 0 d a,.cells [.bptr 0 0] []] (qZ n c d a) (λr=>.tuple []) [] (λr=>[ce 0 r.1 r.2,.cells [.bptr 0 0] []]):=qO.g 2<|tb λe b=>cM (Dh c n 0 d a _ b)<|tE
noncomputable def qsO:W:=f106.body.getD .skip
def qrP:ZF Pg [] 106 f106 qsO:=zf call106 func106 rfl mixed
def gO(a:waA)(d:V Int)(b:K):Q (V Int×K):=if((a.length:Int)==0)then O (d,b) else (ae ([wk]:V aa) d b).bind λe=>(qZ (a.length:Int) a e b).bind λc=>(ae ([jA]:V aa) c.1 c.2).bind λh=>O (h,c.2)
def oz{a:waA}{h:V Int}{b:K}:OG 106 [.bptr 0 0,sl cS a] [] [ce 0 h b] (gO a h b) (λr=>.tuple []) [] (λr=>[ce 0 r.1 r.2]):=qrP.g 1<|qkj (rfl:bF (.bptr 0 0)=O [.bptr 0 0]) rfl<|te (qqW cS a)<|tv (cX qoB (sl cS a) [])<|ca (cT.ln a)<|tF tE<|tb λi c=>tb λm d=>tb λo e=>ts<|tv (bG [wk] 1 rfl)<|tc [0] (ac _ c)<|ts<|tv (cX qoB (sl cS a) [])<|ca (cT.ln a)<|tc [0,1] (Is _ d)<|ts<|tv (bG [jA] 1 rfl)<|tc [0] (ac _ e)<|tE
noncomputable def qpT:W:=f174.body.getD .skip
def qps:ZF Pg [] 174 f174 qpT:=zf call174 func174 rfl mixed
section
variable(s:aa)(m:V Int)(a:K)
def ka:Q K:=(nj s).bind λb=>if(b !=0)then O T else (rG s).bind λc=>O (!c)
def Fx:OU 1 (cA qpT 4) (ka s) .normal (λo=>[(11,.bool o)]) (aR 19 [(0,.bptr 0 0),(1,.str s)] [ce 0 m a] []):=qps.j<|tb λe b=>tf (λd=>cP (jy _ b)<|tg 4 d<|tE) λd=>tb λh c=>cP (jy _ b)<|tg 4 d<|cP (GI _ c)<|tE
end
def cC(s:aa)(b:V Int)(a:K):Q (K×V Int):=(ka s).bind λc=>if c then O (T,b) else (ae ([s]:V aa) b a).bind λd=>O (a,d)
def dY{s:aa}{d:V Int}{a:K}:OG 174 [.bptr 0 0,.str s] [] [ce 0 d a] (cC s d a) (λr=>.tuple []) [] (λr=>[ce 0 r.2 r.1]):=qps.g 1<|tb λe b=>jC 1<|cM (Fx s d a _ b)<|tF (ts<|tE)<|tb λh c=>tv (bG [s] 1 rfl)<|tc [0] (ac _ c)<|tE
noncomputable def qtc:W:=f194.body.getD .skip
def qsd:ZF Pg [] 194 f194 qtc:=zf call194 func194 rfl mixed
def pX(i:Int)(a:waH)(e:V Int)(b:K):Q (V Int×K):=(cJ a i).bind λm=>(cC m.Class e b).bind λc=>(ae ([lM]:V aa) c.2 c.1).bind λh=>(cJ a i).bind λo=>(aZ o.Var h c.1).bind λd=>O (d.2,d.1)
def GT{i:Int}{a:waH}{o:V Int}{b:K}:OG 194 [.i6 i,.bptr 0 0,.eptr ((cL bS) a)] [] [.cells [.bptr 1 0] [],ce 1 o b] (pX i a o b) (λr=>.tuple []) [] (λr=>[.cells [.bptr 1 0] [],ce 1 r.1 r.2]):=qsd.g 2<|tb λp h=>tb λs c=>tb λt d=>tb λq m=>tb λw e=>tk<|FD (.dx [0,0,0,6,14,30] [] [] [])<|ts<|tv (cX qoD (sl bS a) [])<|tv (qlZ.ia h)<|tw (Od p)<|tc [1] (dY _ c)<|ts<|tv (bG [lM] 1 rfl)<|tc [1] (ac _ d)<|tk<|FD (.dx [0,0,0,6,14,30] [] [] [])<|ts<|tv (cX qoD (sl bS a) [])<|tv (qlZ.ia m)<|tw (Oe q)<|tc [1] (bh _ e)<|tE
section
variable(v:waH)(i b:Int)(m:V Int)(a:K)
def rH:Q (V Int):=if Y (i>0)then (ae ([dI]:V aa) m a).bind λc=>O c else O m
def A5:OJ 2 (cA BS 1014) (rH i m a) .normal (λo=>aR 20 [(0,.bptr 0 0),(2,.func (.func 194) [] [.bptr 1 0,.eptr ((cL bS) v)]),(6,.i6 i),(7,.i6 b),(8,.i6 i)] [ce 0 o a,.cells [.bptr 0 0] []] []) (aR 20 [(0,.bptr 0 0),(2,.func (.func 194) [] [.bptr 1 0,.eptr ((cL bS) v)]),(6,.i6 i),(7,.i6 b),(8,.i6 i)] [ce 0 m a,.cells [.bptr 0 0] []] []):=qO.j<|tF (tb λd c=>tv (bG [dI] 1 rfl)<|tc [0] (ac _ c)<|tE)<|tE
end
section
variable(v:waH)(c a:Int)(m:V Int)(b:K)
def pD:az:=aR 20 [(0,.bptr 0 0),(2,.func (.func 194) [] [.bptr 1 0,.eptr ((cL bS) v)]),(7,.i6 c),(8,.i6 a)] [ce 0 m b,.cells [.bptr 0 0] []] []
def Cn(o:V Int×K):az:=aR 20 [] [ce 0 o.1 o.2,.cells [.bptr 0 0] []] []
def pE:Q ((Int×V Int×K)⊕(V Int×K)):=if Y (a<c)then (rH a m b).bind λe=>(pX a v e b).bind λd=>O (.inl (dc (a+1),d.1,d.2)) else O (.inr (m,b))
def rI:Q (V Int×K):=loop (λ(d:Int×V Int×K)=>pE v c d.1 d.2.1 d.2.2) (a,m,b)
def zI:OL 2 (cA BS 15) (pE v c a m b) (λ(h:Int×V Int×K)=>pD v c h.1 h.2.1 h.2.2) (λ_=>.exit 0) Cn (pD v c a m b):=qO.l<|tF (tb λi d=>tb λo e=>jC 2<|cM (A5 v a c m b _ d)<|tc [1,0] (GT _ e)<|tE)<|tE
def A6:=ug (s:=(a,m,b)) λd=>zI v c d.1 d.2.1 d.2.2
end
def ol(n:Int)(c:waH)(d:V Int)(a:K):Q (V Int×K):=(rI c n 0 d a).bind λb=>O (b.1,b.2)
def Fh{n:Int}{c:waH}{d:V Int}{a:K}:OG 149 [.bptr 0 0,.i6 n,.func (.func 194) [] [.bptr 1 0,.eptr ((cL bS) c)]] [] [ce 0 d a,.cells [.bptr 0 0] []] (ol n c d a) (λr=>.tuple []) [] (λr=>[ce 0 r.1 r.2,.cells [.bptr 0 0] []]):=qO.g 2<|tb λe b=>cM (A6 c n 0 d a _ b)<|tE
noncomputable def qsZ:W:=f151.body.getD .skip
def qr0:ZF Pg [] 151 f151 qsZ:=zf call151 func151 rfl mixed
def nu(a:waH)(d:V Int)(b:K):Q (V Int×K):=(ol (a.length:Int) a d b).bind λc=>O (c.1,c.2)
def JT{a:waH}{d:V Int}{b:K}:OG 151 [.bptr 0 0,sl bS a] [] [ce 0 d b] (nu a d b) (λr=>.tuple []) [] (λr=>[ce 0 r.1 r.2]):=qr0.g 1<|tb λe c=>qkj (rfl:bF (.bptr 0 0)=O [.bptr 0 0]) rfl<|te (qqW bS a)<|ts<|tv (cX qoD (sl bS a) [])<|ca (qlZ.ln a)<|tc [0,1] (Fh _ c)<|tE
noncomputable def qpR:W:=f153.body.getD .skip
def qpq:ZF Pg [] 153 f153 qpR:=zf call153 func153 rfl mixed
section
variable(s:aa)(m:V Int)(a:K)
def lc:Q K:=if (!(s == qkl)) = T then if(!(s==qem))then if(!(s==qen))then (nj s).bind λb=>O (b !=0) else O Z else O Z else O Z
def GY:OU 1 (cA qpR 4) (lc s) .normal (λo=>[(18,.bool o)]) (aR 26 [(0,.bptr 0 0),(1,.str s)] [ce 0 m a] []):=qpq.j<|
 tf (λc=>tf (λe=>have b:=λ{X p q} (r:PV _ X p q)=>tg 3 c<|tg 7 e<|r;tf (λh=>tb λi d=>b<|tg 11 h<|cP (jy _ d)<|tE) λh=>b<|tg 11 h<|tE) λe=>tg 3 c<|tg 7 e<|tE) λc=>tg 3 c<|tE
end
def iH(s:aa)(b:V Int)(a:K):Q (K×V Int):=(lc s).bind λc=>if c then O (T,b) else (ae ([s]:V aa) b a).bind λd=>O (a,d)
def pY{s:aa}{d:V Int}{a:K}:OG 153 [.bptr 0 0,.str s] [] [ce 0 d a] (iH s d a) (λr=>.tuple []) [] (λr=>[ce 0 r.2 r.1]):=qpq.g 1<|tb λe b=>jC 1<|cM (GY s d a _ b)<|tF (ts<|tE)<|tb λh c=>tv (bG [s] 1 rfl)<|tc [0] (ac _ c)<|tE
noncomputable def qs0:W:=f152.body.getD .skip
def qr1:ZF Pg [] 152 f152 qs0:=zf call152 func152 rfl mixed
def sZ(i:Int)(a:iu)(e:V Int)(b:K):Q (V Int×K):=(cJ a.Abs i).bind λm=>(aZ m.Name e b).bind λc=>(ae ([d7]:V aa) c.2 c.1).bind λh=>(cJ a.Abs i).bind λo=>(iH o.Sort_ h c.1).bind λd=>O (d.2,d.1)
def JW{i:Int}{a:iu}{o:V Int}{b:K}:OG 152 [.i6 i,.bptr 0 0,.eptr (cr a)] [] [.cells [.bptr 1 0] [],ce 1 o b] (sZ i a o b) (λr=>.tuple []) [] (λr=>[.cells [.bptr 1 0] [],ce 1 r.1 r.2]):=qr1.g 2<|tb λp h=>tb λs c=>tb λt d=>tb λq m=>tb λw e=>tk<|FD (.dx [0,0,2,0,14,30,62] [] [] [])<|ts<|tw (oO a)<|tv (ql0.ia h)<|tw (PX p)<|tc [1] (bh _ c)<|ts<|tv (bG [d7] 1 rfl)<|tc [1] (ac _ d)<|tk<|FD (.dx [0,0,2,0,14,30,62] [] [] [])<|ts<|tw (oO a)<|tv (ql0.ia m)<|tw (MM q)<|tc [1] (pY _ e)<|tE
section
variable(v:iu)(i b:Int)(m:V Int)(a:K)
def rJ:Q (V Int):=if Y (i>0)then (ae ([dI]:V aa) m a).bind λc=>O c else O m
def A7:OJ 2 (cA BS 1014) (rJ i m a) .normal (λo=>aR 20 [(0,.bptr 0 0),(2,.func (.func 152) [] [.bptr 1 0,.eptr (cr v)]),(6,.i6 i),(7,.i6 b),(8,.i6 i)] [ce 0 o a,.cells [.bptr 0 0] []] []) (aR 20 [(0,.bptr 0 0),(2,.func (.func 152) [] [.bptr 1 0,.eptr (cr v)]),(6,.i6 i),(7,.i6 b),(8,.i6 i)] [ce 0 m a,.cells [.bptr 0 0] []] []):=qO.j<|tF (tb λd c=>tv (bG [dI] 1 rfl)<|tc [0] (ac _ c)<|tE)<|tE
end
section
variable(v:iu)(c a:Int)(m:V Int)(b:K)
def pF:az:=aR 20 [(0,.bptr 0 0),(2,.func (.func 152) [] [.bptr 1 0,.eptr (cr v)]),(7,.i6 c),(8,.i6 a)] [ce 0 m b,.cells [.bptr 0 0] []] []
def Co(o:V Int×K):az:=aR 20 [] [ce 0 o.1 o.2,.cells [.bptr 0 0] []] []
def pG:Q ((Int×V Int×K)⊕(V Int×K)):=if Y (a<c)then (rJ a m b).bind λe=>(sZ a v e b).bind λd=>O (.inl (dc (a+1),d.1,d.2)) else O (.inr (m,b))
def rK:Q (V Int×K):=loop (λ(d:Int×V Int×K)=>pG v c d.1 d.2.1 d.2.2) (a,m,b)
def zJ:OL 2 (cA BS 15) (pG v c a m b) (λ(h:Int×V Int×K)=>pF v c h.1 h.2.1 h.2.2) (λ_=>.exit 0) Co (pF v c a m b):=qO.l<|tF (tb λi d=>tb λo e=>jC 2<|cM (A7 v a c m b _ d)<|tc [1,0] (JW _ e)<|tE)<|tE
def A8:=ug (s:=(a,m,b)) λd=>zJ v c d.1 d.2.1 d.2.2
end
def j4(n:Int)(c:iu)(d:V Int)(a:K):Q (V Int×K):=(rK c n 0 d a).bind λb=>O (b.1,b.2)
def Fi{n:Int}{c:iu}{d:V Int}{a:K}:OG 149 [.bptr 0 0,.i6 n,.func (.func 152) [] [.bptr 1 0,.eptr (cr c)]] [] [ce 0 d a,.cells [.bptr 0 0] []] (j4 n c d a) (λr=>.tuple []) [] (λr=>[ce 0 r.1 r.2,.cells [.bptr 0 0] []]):=qO.g 2<|tb λe b=>cM (A8 c n 0 d a _ b)<|tE
noncomputable def qnl:W:=f195.body.getD .skip
def qm7:ZF Pg [] 195 f195 qnl:=zf call195 func195 rfl mixed
section
variable(i:Int)(a:K)(t2:wbA)(m:V Int)(b:K)
def jn:Q K:=if a then (cJ t2 i).bind λc=>O (c.Name==quR) else O Z
def Dk:OU 2 (cA qnl 4) (jn i a t2) .normal (λo=>[(1,.undef),(13,.bool o)]) (aR 34 [(0,.i6 i),(1,.eptr (cB a)),(2,.eptr ((cL cN) t2)),(3,.bptr 0 0)] [.cells [.bptr 1 0] [],ce 1 m b] []):=qm7.j<|tf (λd=>tb λe c=>tv (cX qvH (.bool a) [])<|tg 2 d<|tv (cX qfn (sl cN t2) [])<|tv (WA.ia c)<|tw (D7 e)<|tE) λd=>tv (cX qvH (.bool a) [])<|tg 2 d<|tE
end
section
variable(i:Int)(b:K)(t2:wbA)(m:V Int)(a:K)
def ny:Q (V Int×K):=(jn i b t2).bind λd=>if d then (ae ([quR]:V aa) m a).bind λe=>O (e,a) else (cJ t2 i).bind λh=>(aZ h.Name m a).bind λc=>O (c.2,c.1)
def Dj:OJ 2 (cA qnl 2) (ny i b t2 m a) .normal (λo=>aR 34 [(0,.i6 i),(2,.eptr ((cL cN) t2)),(3,.bptr 0 0)] [.cells [.bptr 1 0] [],ce 1 o.1 o.2] []) (aR 34 [(0,.i6 i),(1,.eptr (cB b)),(2,.eptr ((cL cN) t2)),(3,.bptr 0 0)] [.cells [.bptr 1 0] [],ce 1 m a] []):=qm7.j<|tb λq c=>jC 0<|cM (Dk i b t2 m a _ c)<|tF (tb λr d=>ts<|tv (bG [quR] 1 rfl)<|tc [1] (ac _ d)<|tE)<|tb λp h=>tb λs e=>tk<|FD (.dx [0,0,0,6,14,30] [] [] [])<|ts<|tv (cX qfn (sl cN t2) [])<|tv (WA.ia h)<|tw (D7 p)<|tc [1] (bh _ e)<|tE
end
def ri(i:Int)(a:K)(h:wbA)(m:V Int)(c:K):Q (V Int×K):=(ny i a h m c).bind λd=>(ae ([d7]:V aa) d.1 d.2).bind λo=>(cJ h i).bind λe=>(iH e.Sort_ o d.2).bind λb=>O (b.2,b.1)
def IL{i:Int}{a:K}{e:wbA}{o:V Int}{b:K}:OG 195 [.i6 i,.eptr (cB a),.eptr ((cL cN) e),.bptr 0 0] [] [.cells [.bptr 1 0] [],ce 1 o b] (ri i a e o b) (λr=>.tuple []) [] (λr=>[.cells [.bptr 1 0] [],ce 1 r.1 r.2]):=qm7.g 2<|tb λs h=>tb λt m=>tb λp d=>tb λq c=>jC 0<|cM (Dj i a e o b _ h)<|ts<|tv (bG [d7] 1 rfl)<|tc [1] (ac _ m)<|tk<|FD (.dx [0,0,0,6,14,30] [] [] [])<|ts<|tv (cX qfn (sl cN e) [])<|tv (WA.ia d)<|tw (MP p)<|tc [1] (pY _ c)<|tE
section
variable(v:K)(c:wbA)(i b:Int)(m:V Int)(a:K)
def rL:Q (V Int):=if Y (i>0)then (ae ([dI]:V aa) m a).bind λd=>O d else O m
def A9:OJ 2 (cA BS 1014) (rL i m a) .normal (λo=>aR 20 [(0,.bptr 0 0),(2,.func (.func 195) [] [.eptr (cB v),.eptr ((cL cN) c),.bptr 1 0]),(6,.i6 i),(7,.i6 b),(8,.i6 i)] [ce 0 o a,.cells [.bptr 0 0] []] []) (aR 20 [(0,.bptr 0 0),(2,.func (.func 195) [] [.eptr (cB v),.eptr ((cL cN) c),.bptr 1 0]),(6,.i6 i),(7,.i6 b),(8,.i6 i)] [ce 0 m a,.cells [.bptr 0 0] []] []):=qO.j<|tF (tb λe d=>tv (bG [dI] 1 rfl)<|tc [0] (ac _ d)<|tE)<|tE
end
section
variable(v:K)(d:wbA)(c a:Int)(m:V Int)(b:K)
def pH:az:=aR 20 [(0,.bptr 0 0),(2,.func (.func 195) [] [.eptr (cB v),.eptr ((cL cN) d),.bptr 1 0]),(7,.i6 c),(8,.i6 a)] [ce 0 m b,.cells [.bptr 0 0] []] []
def Cp(o:V Int×K):az:=aR 20 [] [ce 0 o.1 o.2,.cells [.bptr 0 0] []] []
def pI:Q ((Int×V Int×K)⊕(V Int×K)):=if Y (a<c)then (rL a m b).bind λh=>(ri a v d h b).bind λe=>O (.inl (dc (a+1),e.1,e.2)) else O (.inr (m,b))
def rN:Q (V Int×K):=loop (λ(e:Int×V Int×K)=>pI v d c e.1 e.2.1 e.2.2) (a,m,b)
def zK:OL 2 (cA BS 15) (pI v d c a m b) (λ(i:Int×V Int×K)=>pH v d c i.1 i.2.1 i.2.2) (λ_=>.exit 0) Cp (pH v d c a m b):=qO.l<|tF (tb λo e=>tb λp h=>jC 2<|cM (A9 v d a c m b _ e)<|tc [1,0] (IL _ h)<|tE)<|tE
def Ba:=ug (s:=(a,m,b)) λe=>zK v d c e.1 e.2.1 e.2.2
end
def om(n:Int)(c:K)(d:wbA)(e:V Int)(a:K):Q (V Int×K):=(rN c d n 0 e a).bind λb=>O (b.1,b.2)
def Fj{n:Int}{c:K}{d:wbA}{e:V Int}{a:K}:OG 149 [.bptr 0 0,.i6 n,.func (.func 195) [] [.eptr (cB c),.eptr ((cL cN) d),.bptr 1 0]] [] [ce 0 e a,.cells [.bptr 0 0] []] (om n c d e a) (λr=>.tuple []) [] (λr=>[ce 0 r.1 r.2,.cells [.bptr 0 0] []]):=qO.g 2<|tb λh b=>cM (Ba c d n 0 e a _ b)<|tE
noncomputable def qs1:W:=f154.body.getD .skip
def qr2:ZF Pg [] 154 f154 qs1:=zf call154 func154 rfl mixed
def iI(a:wbA)(b:K)(e:V Int)(c:K):Q (V Int×K):=(om (a.length:Int) b a e c).bind λd=>O (d.1,d.2)
def p5{a:wbA}{b:K}{e:V Int}{c:K}:OG 154 [.bptr 0 0,sl cN a,.bool b] [] [ce 0 e c] (iI a b e c) (λr=>.tuple []) [] (λr=>[ce 0 r.1 r.2]):=qr2.g 1<|tb λh d=>qkj (rfl:bF (.bptr 0 0)=O [.bptr 0 0]) rfl<|te (qqW cN a)<|te (qwP b)<|ts<|tv (cX qfn (sl cN a) [])<|ca (WA.ln a)<|tc [0,1] (Fj _ d)<|tE
noncomputable def qs9:W:=f180.body.getD .skip
def qsa:ZF Pg [] 180 f180 qs9:=zf call180 func180 rfl mixed
def nB(p:ag):Q K:=(GG p (⟨0,[],0,[]⟩:ag)).bind λa=>O a
def n9{p:ag}:OV 180 [.agg (af p)] (nB p) (λr=>.bool r) []:=qsa.v<|tb λb a=>te (jL p)<|tv (db p)<|XD (qcY) (qcW)<|cP (Id _ a)<|tE
abbrev AH:=(ag->Q Int)
abbrev Ht(R:AH):Prop:=∀(p:ag),OV 302 [.agg (af p)] (R p) (λr=>.i6 r) []
noncomputable def qp3:W:=f302.body.getD .skip
def qpG:ZF Pg [18] 302 f302 qp3:=zf call302 func302 rfl mixed
section
variable(a:AH)(c:m6)(d n b:Int)
def zu:az:=aR 19 [(3,.i6 n),(7,sl af c),(8,.i6 d),(9,.i6 b)] [.dead] []
def Jo(o:Int):az:=aR 19 [(3,.i6 o)] [.dead] []
instance qyR:KS 0 (zu c d n b):=ks 1 rfl
instance qyN{o:Int}:KS 0 (Jo o):=ks 1 rfl
def Jn:Q ((Int×Int)⊕(Int)):=if Y (b<d)then (cJ c b).bind λh=>(a h).bind λe=>O (.inl (dc (n+e),dc (b+1))) else O (.inr n)
def Xy:Q Int:=loop (λ(e:Int×Int)=>Jn a c d e.1 e.2) (n,b)
def QA(e:Ht a):OL 0 (cA qp3 119) (Jn a c d n b) (λ(o:Int×Int)=>zu c d o.1 o.2) (λ_=>.exit 0) Jo (zu c d n b):=qpG.lx<|tF (tb λm i=>tb λp h=>tv (je.ia i)<|tv (db m)<|tx qd7<|tx (tX m)<|tv (mo m [])<|cP (e _ _ h)<|tE)<|tE
def Ss(e:Ht a):=ug (s:=(n,b)) λh=>QA a c d h.1 h.2 e
end
def Qz(a:AH)(p:ag):Q Int:=(Xy a p.Kids (p.Kids.length:Int) 1 0).bind λb=>O b
def Wn(a:AH)(b:Ht a){p:ag}:OV 302 [.agg (af p)] (Qz a p) (λr=>.i6 r) []:=qpG.v<|tb λd c=>te (jL p)<|tw (aQ p)<|ca (je.ln p.Kids)<|cM (Ss a p.Kids (p.Kids.length:Int) 1 0 b _ c)<|tE
def Ic:(ag->Q Int)->(ag)->Q Int:=λ(rec:ag->Q Int) (x:ag)=>Qz (λp=>rec p) x
def xm(p:ag):Q Int:=sQ Ic p
def NC{p:ag}:OV 302 [.agg (af p)] (xm p) (λr=>.i6 r) []:=qaK λ_ h=>ij (F:=Ic) (M:=λ(x:ag) (r:Int)=>CC Pg GE 302 [.agg (af x)] (.i6 r) []) (λrec a x r h=>Wn _ (λp=>qaK λr h=>a p r h) _ h) h
abbrev AG:=(ag->Q Int)
abbrev Hs(R:AG):Prop:=∀(p:ag),OV 303 [.agg (af p)] (R p) (λr=>.i6 r) []
noncomputable def qp4:W:=f303.body.getD .skip
def qpH:ZF Pg [] 303 f303 qp4:=zf call303 func303 rfl mixed
section
variable(a:AG)(c:m6)(d n b:Int)
def zt:az:=aR 20 [(3,.i6 n),(7,sl af c),(8,.i6 d),(9,.i6 b)] [.dead] []
def Jm(o:Int):az:=aR 20 [(3,.i6 o)] [.dead] []
instance qyQ:KS 0 (zt c d n b):=ks 1 rfl
instance qyM{o:Int}:KS 0 (Jm o):=ks 1 rfl
def Jl:Q ((Int×Int)⊕(Int)):=if Y (b<d)then (cJ c b).bind λh=>(a h).bind λe=>O (.inl ((if e>n then e else n),dc (b+1))) else O (.inr n)
def Xx:Q Int:=loop (λ(e:Int×Int)=>Jl a c d e.1 e.2) (n,b)
def Qy(e:Hs a):OL 0 (cA qp4 119) (Jl a c d n b) (λ(o:Int×Int)=>zt c d o.1 o.2) (λ_=>.exit 0) Jm (zt c d n b):=qpH.lx<|tF (tb λm i=>tb λp h=>tv (je.ia i)<|tv (db m)<|tx qd7<|tx (tX m)<|tv (mo m [])<|cP (e _ _ h)<|tE)<|tE
def Sr(e:Hs a):=ug (s:=(n,b)) λh=>Qy a c d h.1 h.2 e
end
def Qx(a:AG)(p:ag):Q Int:=(Xx a p.Kids (p.Kids.length:Int) 0 0).bind λb=>O (dc (b+1))
def Wm(a:AG)(b:Hs a){p:ag}:OV 303 [.agg (af p)] (Qx a p) (λr=>.i6 r) []:=qpH.v<|tb λd c=>te (jL p)<|tw (aQ p)<|ca (je.ln p.Kids)<|cM (Sr a p.Kids (p.Kids.length:Int) 0 0 b _ c)<|tE
def Ib:(ag->Q Int)->(ag)->Q Int:=λ(rec:ag->Q Int) (x:ag)=>Qx (λp=>rec p) x
def xl(p:ag):Q Int:=sQ Ib p
def NB{p:ag}:OV 303 [.agg (af p)] (xl p) (λr=>.i6 r) []:=qaK λ_ h=>ij (F:=Ib) (M:=λ(x:ag) (r:Int)=>CC Pg GE 303 [.agg (af x)] (.i6 r) []) (λrec a x r h=>Wm _ (λp=>qaK λr h=>a p r h) _ h) h
noncomputable def qkT:W:=f319.body.getD .skip
def qkH:ZF Pg [] 319 f319 qkT:=zf call319 func319 rfl mixed
section
variable(a:Int)
def If:Q K:=if(a==1)then O (a==1) else if(a==2)then O (a==2) else O (a==3)
def TS:OU 0 (cA qkT 54) (If a) .normal (λo=>[(5,.bool o)]) (aR 15 [(4,.i6 a)] [] []):=qkH.j<|tF tE<|tF tE<|tE
end
section
variable(a:Int)
def Ig:Q K:=if(a==4)then O (a==4) else O (a==5)
def TT:OU 0 (cA qkT 222) (Ig a) .normal (λo=>[(9,.bool o)]) (aR 15 [(4,.i6 a)] [] []):=qkH.j<|tF tE<|tE
end
section
variable(a:Int)
def Ih:Q K:=if(a==9)then O (a==9) else O (a==14)
def TU:OU 0 (cA qkT 894) (Ih a) .normal (λo=>[(4,.undef),(12,.bool o)]) (aR 15 [(4,.i6 a)] [] []):=qkH.j<|tF tE<|tE
end
def Mt(a:Int):Q (Int×Int):=(If a).bind λb=>if b then O (0,0) else (Ig a).bind λc=>if c then O (1,24) else (Ih a).bind λd=>if d then O (1,1) else O (2,2)
def qao{a:Int}:OV 319 [.i6 a] (Mt a) (λr=>.tuple [.i6 r.1,.i6 r.2]) []:=qkH.v<|tb λe b=>jC 3<|cM (TS a _ b)<|tF tE<|tb λh c=>jC 0<|cM (TT a _ c)<|tF tE<|tb λi d=>jC 0<|cM (TU a _ d)<|tF tE<|tE
noncomputable def qtK:W:=f320.body.getD .skip
def qsJ:ZF Pg [] 320 f320 qtK:=zf call320 func320 rfl mixed
def Ii(a:Int):Q K:=if(a==3)then O T else if(a==4)then O T else O (a==5)
def ND{c:Int}:OV 320 [.i6 c] (Ii c) (λr=>.bool r) []:=qsJ.v<|tf (λa=>tg 3 a<|tE) λa=>tf (λb=>tg 3 a<|tg 7 b<|tE) λb=>tg 3 a<|tg 7 b<|tE
noncomputable def qts:W:=f241.body.getD .skip
def qss:ZF Pg [] 241 f241 qts:=zf call241 func241 rfl mixed
def V5(n:Int):Q K:=if Y (n>=(-1000000000000))then O (Y (n<=1000000000000)) else O Z
def Ys{n:Int}:OV 241 [.i6 n] (V5 n) (λr=>.bool r) []:=qss.v<|tf (λa=>tg 3 a<|tE) λa=>tg 3 a<|tE
noncomputable def W0:W:=f305.body.getD .skip
def WX:ZF Pg [] 305 f305 W0:=zf call305 func305 rfl mixed
section
variable(p:ag)
def AT:Q K:=if Y (p.Op<1)then O T else O (Y (p.Op>18))
def TV:OU 0 (cA W0 12) (AT p) .normal (λo=>[(14,.bool o)]) (aR 130 [(1,.eptr (af p))] [.dead] []):=WX.j<|
 have a:=λ{X c d} (r:PV _ X c d)=>tw (aP p)<|r;tf (λb=>a<|tg 4 b<|tE) λb=>a<|tg 4 b<|tw (aP p)<|tE
end
section
variable(p:ag)(a b:Int)
def AU:Q K:=(Ii p.Op).bind λc=>if (!c) = T then if(!(p.Name==([]:aa)))then O T else if(p.Op !=1)then if(p.Op !=2)then if(p.N !=0)then O T else if Y ((p.Kids.length:Int)<a)then O T else O (Y ((p.Kids.length:Int)>b)) else if Y ((p.Kids.length:Int)<a)then O T else O (Y ((p.Kids.length:Int)>b)) else if Y ((p.Kids.length:Int)<a)then O T else O (Y ((p.Kids.length:Int)>b)) else if(p.Op !=1)then if(p.Op !=2)then if(p.N !=0)then O T else if Y ((p.Kids.length:Int)<a)then O T else O (Y ((p.Kids.length:Int)>b)) else if Y ((p.Kids.length:Int)<a)then O T else O (Y ((p.Kids.length:Int)>b)) else if Y ((p.Kids.length:Int)<a)then O T else O (Y ((p.Kids.length:Int)>b))
def TW:OU 0 (cA W0 60) (AU p a b) .normal (λo=>[(3,.undef),(4,.undef),(58,.bool o)]) (aR 130 [(1,.eptr (af p)),(3,.i6 a),(4,.i6 b)] [.dead] []):=WX.j<|
 tb λr6 a4=>have a3:=λ{X a5 a6} (r:PV _ X a5 a6)=>tw (aP p)<|cP (ND _ a4)<|r;tf (λc7=>have c:=λ{X a5 a6} (r:PV _ X a5 a6)=>a3<|tg 5 c7<|tw (eo p)<|r;tf (λc9=>c<|tg 10 c9<|tE) λc9=>have d:=λ{X a5 a6} (r:PV _ X a5 a6)=>c<|tg 10 c9<|tw (aP p)<|r;tf (λA=>have e:=λ{X a5 a6} (r:PV _ X a5 a6)=>d<|tg 14 A<|tw (aP p)<|r;tf (λB=>have h:=λ{X a5 a6} (r:PV _ X a5 a6)=>e<|tg 19 B<|tw (cx p)<|r;tf (λE=>h<|tg 25 E<|tE) λE=>have i:=λ{X a5 a6} (r:PV _ X a5 a6)=>h<|tg 25 E<|tw (aQ p)<|ca (je.ln p.Kids)<|r;tf (λF=>i<|tg 32 F<|tE) λF=>i<|tg 32 F<|tw (aQ p)<|ca (je.ln p.Kids)<|tE) λB=>have m:=λ{X a5 a6} (r:PV _ X a5 a6)=>e<|tg 19 B<|tw (aQ p)<|ca (je.ln p.Kids)<|r;tf (λH=>m<|tg 32 H<|tE) λH=>m<|tg 32 H<|tw (aQ p)<|ca (je.ln p.Kids)<|tE) λA=>have q:=λ{X a5 a6} (r:PV _ X a5 a6)=>d<|tg 14 A<|tw (aQ p)<|ca (je.ln p.Kids)<|r;tf (λL=>q<|tg 32 L<|tE) λL=>q<|tg 32 L<|tw (aQ p)<|ca (je.ln p.Kids)<|tE) λc7=>have s:=λ{X a5 a6} (r:PV _ X a5 a6)=>a3<|tg 5 c7<|tw (aP p)<|r;tf (λP=>have t:=λ{X a5 a6} (r:PV _ X a5 a6)=>s<|tg 14 P<|tw (aP p)<|r;tf (λR=>have w:=λ{X a5 a6} (r:PV _ X a5 a6)=>t<|tg 19 R<|tw (cx p)<|r;tf (λS=>w<|tg 25 S<|tE) λS=>have x:=λ{X a5 a6} (r:PV _ X a5 a6)=>w<|tg 25 S<|tw (aQ p)<|ca (je.ln p.Kids)<|r;tf (λa0=>x<|tg 32 a0<|tE) λa0=>x<|tg 32 a0<|tw (aQ p)<|ca (je.ln p.Kids)<|tE) λR=>have y:=λ{X a5 a6} (r:PV _ X a5 a6)=>t<|tg 19 R<|tw (aQ p)<|ca (je.ln p.Kids)<|r;tf (λa1=>y<|tg 32 a1<|tE) λa1=>y<|tg 32 a1<|tw (aQ p)<|ca (je.ln p.Kids)<|tE) λP=>have z:=λ{X a5 a6} (r:PV _ X a5 a6)=>s<|tg 14 P<|tw (aQ p)<|ca (je.ln p.Kids)<|r;tf (λa2=>z<|tg 32 a2<|tE) λa2=>z<|tg 32 a2<|tw (aQ p)<|ca (je.ln p.Kids)<|tE
end
section
variable(p:ag)
def AV:Q K:=if (p.Op == 1) = T then (V5 p.N).bind λa=>if(!a)then O T else if(p.Op==2)then if(p.N !=0)then O (p.N !=1) else O Z else O Z else if(p.Op==2)then if(p.N !=0)then O (p.N !=1) else O Z else O Z
def TX:OU 0 (cA W0 124) (AV p) .normal (λo=>[(82,.bool o)]) (aR 130 [(1,.eptr (af p))] [.dead] []):=WX.j<|
 have a:=λ{X z A} (r:PV _ X z A)=>tw (aP p)<|r;tf (λi=>tb λy x=>have b:=λ{X z A} (r:PV _ X z A)=>a<|tg 4 i<|tw (cx p)<|cP (Ys _ x)<|r;tf (λm=>b<|tg 10 m<|tE) λm=>have c:=λ{X z A} (r:PV _ X z A)=>b<|tg 10 m<|tw (aP p)<|r;tf (λq=>have d:=λ{X z A} (r:PV _ X z A)=>c<|tg 14 q<|tw (cx p)<|r;tf (λs=>d<|tg 19 s<|tw (cx p)<|tE) λs=>d<|tg 19 s<|tE) λq=>c<|tg 14 q<|tE) λi=>have e:=λ{X z A} (r:PV _ X z A)=>a<|tg 4 i<|tw (aP p)<|r;tf (λt=>have h:=λ{X z A} (r:PV _ X z A)=>e<|tg 14 t<|tw (cx p)<|r;tf (λw=>h<|tg 19 w<|tw (cx p)<|tE) λw=>h<|tg 19 w<|tE) λt=>e<|tg 14 t<|tE
end
section
variable(p:ag)
def Ij:Q K:=(Ii p.Op).bind λa=>if a then (nj p.Name).bind λb=>O (b !=0) else O Z
def TY:OU 0 (cA W0 252) (Ij p) .normal (λo=>[(91,.bool o)]) (aR 130 [(1,.eptr (af p))] [.dead] []):=WX.j<|
 tb λe c=>have a:=λ{X i m} (r:PV _ X i m)=>tw (aP p)<|cP (ND _ c)<|r;tf (λb=>tb λh d=>a<|tg 4 b<|tw (eo p)<|cP (jy _ d)<|tE) λb=>a<|tg 4 b<|tE
end
section
variable(p:ag)
def Ik:Q K:=if(p.Op==3)then O (p.Name==([118]:aa)) else O Z
def TZ:OU 0 (cA W0 1012) (Ik p) .normal (λo=>[(5,.bool o)]) (aR 130 [(1,.eptr (af p))] [.dead] []):=WX.j<|
 have a:=λ{X c d} (r:PV _ X c d)=>tw (aP p)<|r;tf (λb=>a<|tg 4 b<|tw (eo p)<|tE) λb=>a<|tg 4 b<|tE
end
section
variable(p:ag)(v:K)
def Il:Q K:=if(p.Op==4)then if(p.Name==([116,97,103]:aa))then O T else O (p.Name==([118,97,108]:aa)) else O Z
def T0:OU 0 (cA W0 2026) (Il p) .normal (λo=>[(6,.bool o)]) (aR 130 [(1,.eptr (af p)),(5,.bool v)] [.dead] []):=WX.j<|
 have a:=λ{X e h} (r:PV _ X e h)=>tw (aP p)<|r;tf (λc=>have b:=λ{X e h} (r:PV _ X e h)=>a<|tg 4 c<|tw (eo p)<|r;tf (λd=>b<|tg 8 d<|tE) λd=>b<|tg 8 d<|tw (eo p)<|tE) λc=>a<|tg 4 c<|tE
end
section
variable(p:ag)(v a:K)
def Im:Q K:=if(!v)then O (!a) else O Z
def T1:OU 0 (cA W0 4054) (Im v a) .normal (λo=>[(5,.undef),(6,.undef),(118,.bool o)]) (aR 130 [(1,.eptr (af p)),(5,.bool v),(6,.bool a)] [.dead] []):=WX.j<|tf (λb=>tg 3 b<|tE) λb=>tg 3 b<|tE
end
section
variable(p:ag)
def Wo(o:Unit⊕(Unit)):Exit:=match o with|(.inl _)=>.ret|(.inr _)=>.normal
def Wp(o:Unit⊕(Unit)):az:=match o with|(.inl o)=>aR 130 [(2,.i6 3)] [.dead] []|(.inr o)=>aR 130 [(1,.eptr (af p))] [.dead] []
def AW:Q (Unit⊕(Unit)):=(Ij p).bind λa=>if a then (Ik p).bind λb=>(Il p).bind λc=>(Im b c).bind λd=>if d then O (.inl ()) else O (.inr ()) else O (.inr ())
def Jr:OK 0 (cA W0 126) (AW p) Wo (Wp p) (aR 130 [(1,.eptr (af p))] [.dead] []):=WX.k<|tb λi a=>jC 0<|cM (TY p _ a)<|tF (tb λe b=>tb λh c=>tb λm d=>jC 0<|cM (TZ p _ b)<|jC 0<|cM (T0 p e _ c)<|jC 0<|cM (T1 p e h _ d)<|tF tE<|tE)<|tE
end
section
variable(p:ag)
def Io:Q K:=if(p.Op==8)then (cJ p.Kids 0).bind λa=>O (a.Op !=1) else O Z
def T3:OU 0 (cA W0 508) (Io p) .normal (λo=>[(1,.undef),(129,.bool o)]) (aR 130 [(1,.eptr (af p))] [.dead] []):=WX.j<|
 have a:=λ{X e h} (r:PV _ X e h)=>tw (aP p)<|r;tf (λb=>tb λd c=>a<|tg 4 b<|tw (aQ p)<|tv (je.ia c)<|tw (aP d)<|tE) λb=>a<|tg 4 b<|tE
end
def Mu(p:ag):Q Int:=(AT p).bind λh=>if h then O 1 else (Mt p.Op).bind λe=>(AU p e.1 e.2).bind λb=>if b then O 1 else (AV p).bind λc=>if c then O 2 else (AW p).bind λa=>match a with|(.inl a)=>O 3| (.inr a) =>(Io p).bind λd=>if d then O 6 else O 0
def QC{p:ag}:OV 305 [.agg (af p)] (Mu p) (λr=>.i6 r) []:=WX.v<|tb λt e=>te (jL p)<|jC 1<|cM (TV p _ e)<|tF tE<|tb λm h=>tb λo b=>tw (aP p)<|cP (qao _ h)<|jC 1<|cM (TW p m.1 m.2 _ b)<|tF tE<|tb λq c=>jC 1<|cM (TX p _ c)<|tF tE<|t2 (λi a=>jC 0<|cM (Jr p _ a)<|tE) λi a=>tb λs d=>jC 0<|cM (Jr p _ a)<|jC 1<|cM (T3 p _ d)<|tF tE<|tE
abbrev qwx:Nat:=270
noncomputable def qkV:W:=f270.body.getD .skip
abbrev qvz:W:=aE qkV [Z]
abbrev qub:W:=aE qkV [T,Z]
abbrev quc:W:=aE qkV [T,T,Z]
abbrev qvA:W:=aE qkV [T,T,T,Z,Z]
abbrev qkv:W:=aE qkV [T,T,T,Z,T,Z]
abbrev qn0:W:=aE qkV [T,T,T,T,Z]
def qnu:qkV=.seq qvz (.seq qub (.seq quc (.seq (.seq qvA (.block 0 (.rangeFunc (.tmp 12) #[13] (qre qkv) (qrf qkv)))) (.seq qn0 .ret)))):=by kernel_rfl
def eE(s:Int)(x:ag):Q (K×Int):=(Mu x).bind λe=>if(e !=0)then O (Z,e)else O (T,s)
def xk(p:ag):Q Int:=(xm p).bind λn=>if Y (n>400)then O 7 else (xl p).bind λd=>if Y (d>40)then O 8 else (WO eE p 0).bind λq=>if q.1 then O 0 else O q.2
abbrev qkX(s:Int):V ay:=[.dead,.cells [.int .i64 s] []]
abbrev qcK(s:Int):az:=aR 19 [(2,.bptr 1 0)] (qkX s) []
abbrev WE(p:ag):az:=aR 19 [(1,.eptr (af p)),(2,.bptr 1 0)] (qkX 0) []
def qwD(p:ag):dz Pg GE 0 qvz (EX .normal (WE p)) (aR 19 [(0,.agg (af p))] [] []):=by have z:=se (jL p)<|sx (show eR Pg 91=O [.int .i64 0] by kernel_rfl)<|eF .normal (WE p);exact fU (A:=[]) mixed z (by kernel_rfl)
def que(p:ag){n:Int}(h:xm p=O n)(c:Y (n>400)=T):dz Pg GE 0 qub (EX .ret (qcK 7)) (WE p):=by have z:=sv (db p)<|qhB (NC _ h)<|sg 0 c<|ss<|eF .ret (qcK 7);exact fU (A:=[]) mixed z (by kernel_rfl)
def quf(p:ag){n:Int}(h:xm p=O n)(c:Y (n>400)=Z):dz Pg GE 0 qub (EX .normal (WE p)) (WE p):=by have z:=sv (db p)<|qhB (NC _ h)<|sg 0 c<|eF .normal (WE p);exact fU (A:=[]) mixed z (by kernel_rfl)
def qug(p:ag){n:Int}(h:xl p=O n)(c:Y (n>40)=T):dz Pg GE 0 quc (EX .ret (qcK 8)) (WE p):=by have z:=sv (db p)<|qhB (NB _ h)<|sg 0 c<|ss<|eF .ret (qcK 8);exact fU (A:=[]) mixed z (by kernel_rfl)
def quh(p:ag){n:Int}(h:xl p=O n)(c:Y (n>40)=Z):dz Pg GE 0 quc (EX .normal (WE p)) (WE p):=by have z:=sv (db p)<|qhB (NB _ h)<|sg 0 c<|eF .normal (WE p);exact fU (A:=[]) mixed z (by kernel_rfl)
abbrev ql6(p:ag):az:=aR 19 [(2,.bptr 1 0),(12,.func (.func fW) [] [.eptr (af p)])] (qkX 0) []
def qwE(p:ag):dz Pg GE 0 qvA (EX .normal (ql6 p)) (WE p):=by have z:=sv (db p)<|qhB (qfJ p)<|eF .normal (ql6 p);exact fU (A:=[]) mixed z (by kernel_rfl)
abbrev qoF(s:Int)(x:ag):az:=aR 19 [(2,.bptr 1 0),(3,.bptr 2 0)] (qkX s++[.cells (qaL x) []]) []
def qwF(s:Int)(x:ag):dz Pg GE 2 (qre qkv) (EX .normal (qoF s x)) (aR 19 [(2,.bptr 1 0),(13,.agg (af x))] (qkX s) []):=by have z:=sx qd7<|sx (tX x)<|eF .normal (qoF s x);exact fU (A:=[]) mixed z (by kernel_rfl)
abbrev qoG(r:Int):az:=aR 19 [(2,.bptr 1 0)] (qkX r++[.dead]) []
def qwG(s:Int)(x:ag){r:K×Int}(h:eE s x=O r):dz Pg GE 2 (qrf qkv) (EX (if r.1 then .normal else .ret) (qoG r.2)) (qoF s x):=by
 unfold eE at h;let⟨e,b,h⟩:=L0 h;rcases Hr h with⟨a,h⟩|⟨a,h⟩;.cases h;have z:=sv (mo x [])<|qhB (QC _ b)<|sg 0 a<|ss<|eF .ret (qoG e);exact fU (A:=[]) mixed z (by kernel_rfl)
 .cases h;have z:=sv (mo x [])<|qhB (QC _ b)<|sg 0 a<|eF .normal (qoG s);exact fU (A:=[]) mixed z (by kernel_rfl)
def qud(s:Int):dz Pg GE 2 (.seq qn0 .ret) (EX .ret (qcK 0)) (qcK s):=by have z:=ss<|eF .ret (qcK 0);exact fU (A:=[]) mixed z (by kernel_rfl)
def qqD(s:Int):dz Pg GE 2 .ret (EX .ret (qcK s)) (qcK s):=by have z:=eF .ret (qcK s);exact fU (A:=[]) mixed z (by kernel_rfl)
end Go.Proofs.YtankopenjcbeeaaGreatDoor
