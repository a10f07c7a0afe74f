/- PROVED: a part of the proof. Conditions: none. -/
import Derived.Test.YtankopenjcbeeaaGreatDoorPkO16
import Derived.Test.YtankopenjcbeeaaGreatDoorPkO11
set_option linter.unusedSimpArgs false set_option linter.defProp false
set_option linter.unusedVariables false
noncomputable section
namespace Go.Proofs.YtankopenjcbeeaaGreatDoor
open Go Go.Proofs.Tryz
open Option renaming some→O,none→N
open Go renaming TypeId→G,Value→D,Program→I,Oper→M,World→J,Code→W
open Bool renaming true→T,false→Z
open Decidable renaming decide→Y
open YtankopenjcbeeaaGreatDoor renaming PVal→U
set_option linter.defProp false
set_option maxRecDepth 100000
noncomputable def qrC:W:=f77.body.getD .skip
def qrz:ZF Pg [] 77 f77 qrC:=zf call77 func77 rfl mixed
section
variable(d:ba)(a:K)(m:V Int)(b:K)
def lQ:Q (V Int×K):=if(d.Mode==0)then (ae ([qcF]:V aa) m b).bind λc=>O (c,b) else if(d.Mode==2)then (ae ([Rb]:V aa) m b).bind λe=>O (e,b) else if(d.Mode==1)then (ae ([Tt]:V aa) m b).bind λh=>O (h,b) else O (m,T)
def Iw:OJ 1 (cA qrC 14) (lQ d m b) .normal (λo=>aR 75 [(0,.bptr 0 0),(3,.eptr (aL d)),(4,.bool a)] [ce 0 o.1 o.2,.dead] []) (aR 75 [(0,.bptr 0 0),(3,.eptr (aL d)),(4,.bool a)] [ce 0 m b,.dead] []):=qrz.j<|tw (oN d)<|tF (tb λi c=>tv (bG [qcF] 1 rfl)<|tc [0] (ac _ c)<|tE)<|tF (tb λp e=>tv (bG [Rb] 1 rfl)<|tc [0] (ac _ e)<|tE)<|tF (tb λq h=>tv (bG [Tt] 1 rfl)<|tc [0] (ac _ h)<|tE)<|ts<|tE
end
section
variable(d:ba)(a:K)(m:V Int)(b:K)
def lR:Q K:=if(d.Mode !=0)then if(!d.Typed)then O T else if a then (EG d.Body (⟨0,[],0,[],[],[],[]⟩:ah)).bind λc=>O (!c) else O Z else if a then (EG d.Body (⟨0,[],0,[],[],[],[]⟩:ah)).bind λe=>O (!e) else O Z
def Ix:OU 1 (cA qrC 60) (lR d a) .normal (λo=>[(45,.bool o)]) (aR 75 [(0,.bptr 0 0),(3,.eptr (aL d)),(4,.bool a)] [ce 0 m b,.dead] []):=qrz.j<|
 have w:=λ{X A B} (r:PV _ X A B)=>tw (oN d)<|r;tf (λx=>have c:=λ{X A B} (r:PV _ X A B)=>w<|tg 4 x<|tw (D4 d)<|r;tf (λi=>c<|tg 9 i<|tE) λi=>have e:=λ{X A B} (r:PV _ X A B)=>c<|tg 9 i<|r;tf (λp=>tb λy s=>e<|tg 11 p<|tw (oM d)<|XD (NV) (NT)<|cP (LH _ s)<|tE) λp=>e<|tg 11 p<|tE) λx=>have h:=λ{X A B} (r:PV _ X A B)=>w<|tg 4 x<|r;tf (λq=>tb λz t=>h<|tg 11 q<|tw (oM d)<|XD (NV) (NT)<|cP (LH _ t)<|tE) λq=>h<|tg 11 q<|tE
end
section
variable(d:ba)(a:K)(m:V Int)(b:K)
def lS:Q (V Int×K):=if d.Typed then (ae ([d7]:V aa) m b).bind λe=>(qo d.Sig e b).bind λc=>O (c.1,c.2) else O (m,b)
def Iy:OJ 1 (cA qrC 254) (lS d m b) .normal (λo=>aR 75 [(0,.bptr 0 0),(3,.eptr (aL d)),(4,.bool a)] [ce 0 o.1 o.2,.dead] []) (aR 75 [(0,.bptr 0 0),(3,.eptr (aL d)),(4,.bool a)] [ce 0 m b,.dead] []):=qrz.j<|tw (D4 d)<|tF (tb λh c=>tb λi e=>tv (bG [d7] 1 rfl)<|tc [0] (ac _ c)<|tw (Oc d)<|tc [0] (MY _ e)<|tE)<|tE
end
def mz(d:ba)(p:V Int)(h:K):Q (V Int×K):=(lQ d p h).bind λm=>(lR d (d.Mode==1)).bind λi=>if i then O (m.1,T) else (aZ d.Name m.1 m.2).bind λb=>(gO d.Params b.2 b.1).bind λc=>(lS d c.1 c.2).bind λa=>if(!(d.Mode==1))then (ae ([mX]:V aa) a.1 a.2).bind λo=>(nz d.Body o a.2).bind λe=>O (e.2,e.1) else O (a.1,a.2)
def Au{d:ba}{q:V Int}{a:K}:OG 77 [.bptr 0 0,.agg (aL d)] [] [ce 0 q a] (mz d q a) (λr=>.tuple []) [] (λr=>[ce 0 r.1 r.2]):=qrz.g 1<|tb λs p=>tb λt b=>te (Qs d)<|tw (oN d)<|jC 0<|cM (Iw d (d.Mode==1) q a _ p)<|jC 1<|cM (Ix d (d.Mode==1) s.1 s.2 _ b)<|tF (ts<|tE)<|tb λx e=>tb λo h=>tb λw c=>tw (Rz d)<|tc [0] (bh _ e)<|tw (uG d)<|tc [0] (oz _ h)<|jC 0<|cM (Iy d (d.Mode==1) o.1 o.2 _ c)<|tF (tb λy i=>tb λz m=>tv (bG [mX] 1 rfl)<|tc [0] (ac _ i)<|tw (oM d)<|tc [0] (J0 _ m)<|tE)<|tE
noncomputable def qsQ:W:=f109.body.getD .skip
def qrR:ZF Pg [] 109 f109 qsQ:=zf call109 func109 rfl mixed
def rm(a:V Int)(b:K):Q Int:=O (a.length:Int)
def IS{b:V Int}{a:K}:OG 109 [.bptr 0 0] [] [ce 0 b a] (rm b a) (λr=>.i6 r) [] (λr=>[ce 0 b a]):=qrR.g 1<|ts<|ca (qj2.ln b)<|tE
noncomputable def qwo:W:=f78.body.getD .skip
def qv7:ZF Pg [] 78 f78 qwo:=zf call78 func78 rfl mixed
def kV(b:V Int)(a:K):Q (aa×Int):=if a then O (([]:aa),6) else (rm b a).bind λc=>if Y (c>40000)then O (([]:aa),7) else (NS b a).bind λd=>O (d,0)
def yS{d:V Int}{a:K}:OG 78 [.bptr 0 0] [] [ce 0 d a] (kV d a) (λr=>.tuple [.str r.1,.i6 r.2]) [] (λr=>[.cells [.nptr 0 132,sl (cI .u8) d,.bool a] []]):=qv7.g 1<|ts<|tF tE<|tb λe b=>tc [0] (IS _ b)<|tF tE<|tb λh c=>tc [0] (W1 c)<|tE
noncomputable def qwh:W:=f57.body.getD .skip
def qv1:ZF Pg [] 57 f57 qwh:=zf call57 func57 rfl mixed
def Mv(d:ba):Q (aa×Int):=(mz d ([]:V Int) Z).bind λa=>(kV a.1 a.2).bind λb=>O (b.1,b.2)
def qap{d:ba}:OV 57 [.agg (aL d)] (Mv d) (λr=>.tuple [.str r.1,.i6 r.2]) []:=qv1.v<|
 tb λc a=>tb λe b=>te (Qs d)<|XD (show dF Pg 132 []=O (.agg [.val (.pointer N),sl (cI .u8) ([]:V Int),.bool Z]) by kernel_rfl) (show Db Pg 132 [] [(1,5)]from⟨[.val (.pointer N),.val fe,.bool Z],by kernel_rfl,(aI rfl hV)⟩)<|ty (qvE [.val (.pointer N),sl (cI .u8) ([]:V Int),.bool Z])<|tv (sF d)<|tc [1] (Au _ a)<|tc [1] (yS _ b)<|tE
noncomputable def qwe:W:=f38.body.getD .skip
def qvY:ZF Pg [12] 38 f38 qwe:=zf call38 func38 rfl mixed
def kG(d:ba):Q aa:=(Mv d).bind λa=>if(a.2 !=0)then O Ts else O a.1
def uC{d:ba}:OV 38 [.agg (aL d)] (kG d) (λr=>.str r) []:=qvY.v<|tb λb a=>te (Qs d)<|tv (sF d)<|cP (qap _ a)<|tF tE<|tE
def fl(s:aa)(a:V Int):Q (Int×Unit×V Int):=(Kz a).bind λc=>(qfF a s).bind λb=>O ((s.length:Int),(),b)
def li{s:aa}{c:V Int}:OG 67 [.bptr 0 0,.str s] [] [.cells [.nptr 0 106,sl (cI .u8) c] [(1,5)]] (fl s c) (λr=>.tuple [.i6 r.1,.val .nilIface]) [] (λr=>[.cells [.nptr 0 106,sl (cI .u8) r.2.2] [(1,5)]]):=qu8.g 1<|
 tb λe b=>tb λd a=>tc [0] (U2 b)<|ti (.z [sl (cI .u8) d]) (qet qj2 underlying9 (by kernel_rfl) (by kernel_rfl) (by kernel_rfl) a)<|ca (LF underlying9 s)<|tE
noncomputable def qwj:W:=f66.body.getD .skip
def qv3:ZF Pg [] 66 f66 qwj:=zf call66 func66 rfl mixed
def d8(s:aa)(a:V Int):Q (V Int):=(fl s a).bind λb=>(fl XG b.2.2).bind λc=>O c.2.2
def fk{s:aa}{c:V Int}:OG 66 [.str s,.bptr 0 0] [] [.cells [.nptr 0 106,sl (cI .u8) c] [(1,5)]] (d8 s c) (λr=>.tuple []) [] (λr=>[.cells [.nptr 0 106,sl (cI .u8) r] [(1,5)]]):=qv3.g 1<|tb λd a=>tb λe b=>tc [0] (li _ a)<|tc [0] (li _ b)<|tE
noncomputable def qs7:W:=f175.body.getD .skip
def qr8:ZF Pg [] 175 f175 qs7:=zf call175 func175 rfl mixed
def jc(k:Int)(h:V Int)(a:K)(p:aa)(b:waA)(c:md):Q (V Int×K):=(cJ b k).bind λm=>(aZ m h a).bind λd=>(ae ([d7]:V aa) d.2 d.1).bind λi=>(cJ c k).bind λo=>(dH o i d.1).bind λe=>O (e.2,e.1)
def Iu{k:Int}{p:V Int}{c:K}{o:aa}{a:waA}{b:md}:OG 175 [.i6 k,.bptr 0 0,.bptr 2 0] [] [.cells [.bptr 1 0] [],ce 1 p c,.cells [.str o,sl cS a,sl aj b] []] (jc k p c o a b) (λr=>.tuple []) [] (λr=>[.cells [.bptr 1 0] [],ce 1 r.1 r.2,.cells [.str o,sl cS a,sl aj b] []]):=qr8.g 3<|tb λq i=>tb λt d=>tb λw e=>tb λs m=>tb λx h=>tk<|FD (.dx [0,0,2,0,14,30] [] [] [])<|ts<|ts<|tv (cT.ia i)<|tv (cX OR (.str q) [])<|tc [1] (bh _ d)<|ts<|tv (bG [d7] 1 rfl)<|tc [1] (ac _ e)<|tk<|FD (.dx [0,0,2,0,14,30] [] [] [])<|ts<|ts<|tv (ff.ia m)<|tv (fp s)<|tc [1] (eQ _ h)<|tE
section
variable(i e:Int)(m:V Int)(a:K)(b:aa)(c:waA)(d:md)
def kl:Q (V Int):=if Y (i>0)then (ae ([dI]:V aa) m a).bind λh=>O h else O m
def zG:OJ 3 (cA BS 1014) (kl i m a) .normal (λo=>aR 20 [(0,.bptr 0 0),(2,.func (.func 175) [] [.bptr 1 0,.bptr 2 0]),(6,.i6 i),(7,.i6 e),(8,.i6 i)] [ce 0 o a,.cells [.bptr 0 0] [],.cells [.str b,sl cS c,sl aj d] []] []) (aR 20 [(0,.bptr 0 0),(2,.func (.func 175) [] [.bptr 1 0,.bptr 2 0]),(6,.i6 i),(7,.i6 e),(8,.i6 i)] [ce 0 m a,.cells [.bptr 0 0] [],.cells [.str b,sl cS c,sl aj d] []] []):=qO.j<|tF (tb λp h=>tv (bG [dI] 1 rfl)<|tc [0] (ac _ h)<|tE)<|tE
end
section
variable(h:Int)(a:aa)(b:waA)(c:md)(d:Int)(m:V Int)(e:K)
def oW:az:=aR 20 [(0,.bptr 0 0),(2,.func (.func 175) [] [.bptr 1 0,.bptr 2 0]),(7,.i6 h),(8,.i6 d)] [ce 0 m e,.cells [.bptr 0 0] [],.cells [.str a,sl cS b,sl aj c] []] []
def AZ(o:V Int×K):az:=aR 20 [] [ce 0 o.1 o.2,.cells [.bptr 0 0] [],.cells [.str a,sl cS b,sl aj c] []] []
def oX:Q ((Int×V Int×K)⊕(V Int×K)):=if Y (d<h)then (kl d m e).bind λo=>(jc d o e a b c).bind λi=>O (.inl (dc (d+1),i.1,i.2)) else O (.inr (m,e))
def qE:Q (V Int×K):=loop (λ(i:Int×V Int×K)=>oX h a b c i.1 i.2.1 i.2.2) (d,m,e)
def yQ:OL 3 (cA BS 15) (oX h a b c d m e) (λ(p:Int×V Int×K)=>oW h a b c p.1 p.2.1 p.2.2) (λ_=>.exit 0) (AZ a b c) (oW h a b c d m e):=qO.l<|tF (tb λq i=>tb λr o=>jC 2<|cM (zG d h m e a b c _ i)<|tc [1,0,2] (Iu _ o)<|tE)<|tE
def zH:=ug (s:=(d,m,e)) λi=>yQ h a b c i.1 i.2.1 i.2.2
end
def gg(n:Int)(e:V Int)(a:K)(h:aa)(b:waA)(c:md):Q (V Int×K):=(qE n h b c 0 e a).bind λd=>O (d.1,d.2)
def Df{n:Int}{h:V Int}{c:K}{d:aa}{a:waA}{b:md}:OG 149 [.bptr 0 0,.i6 n,.func (.func 175) [] [.bptr 1 0,.bptr 2 0]] [] [ce 0 h c,.cells [.bptr 0 0] [],.cells [.str d,sl cS a,sl aj b] []] (gg n h c d a b) (λr=>.tuple []) [] (λr=>[ce 0 r.1 r.2,.cells [.bptr 0 0] [],.cells [.str d,sl cS a,sl aj b] []]):=qO.g 3<|tb λi e=>cM (zH n d a b 0 h c _ e)<|tE
noncomputable def qcT:W:=f119.body.getD .skip
def qfC:ZF Pg [64] 119 f119 qcT:=zf call119 func119 rfl mixed
section
variable(d:ei)(b:waA)(c a:Int)(m:V Int)(e:K)
def vj:az:=aR 103 [(2,.bptr 1 0),(3,.eptr (bP d)),(16,sl cS b),(17,.i6 c),(18,.i6 a)] [ce 0 m e,.cells [.bptr 0 0] [],.dead] []
def Iv(o:V Int×K):az:=aR 103 [(2,.bptr 1 0),(3,.eptr (bP d))] [ce 0 o.1 o.2,.cells [.bptr 0 0] [],.dead] []
def vo:Q ((Int×V Int×K)⊕(V Int×K)):=if Y (a<c)then (cJ b a).bind λo=>(ae ([lM]:V aa) m e).bind λi=>(aZ o i e).bind λh=>O (.inl (dc (a+1),h.2,h.1)) else O (.inr (m,e))
def pU:Q (V Int×K):=loop (λ(h:Int×V Int×K)=>vo b c h.1 h.2.1 h.2.2) (a,m,e)
def Fs:OL 1 (cA qcT 247) (vo b c a m e) (λ(p:Int×V Int×K)=>vj d b c p.1 p.2.1 p.2.2) (λ_=>.exit 0) (Iv d) (vj d b c a m e):=qfC.l<|tF (tb λq o=>tb λr h=>tb λs i=>tv (cT.ia o)<|tv (cX OR (.str q) [])<|ts<|tv (bG [lM] 1 rfl)<|tc [0] (ac _ h)<|ts<|tc [0] (bh _ i)<|tE)<|tE
def GN:=ug (s:=(a,m,e)) λh=>Fs d b c h.1 h.2.1 h.2.2
end
section
variable(d:ei)(m:V Int)(a:K)
def kT:Q (V Int×K):=if Y ((d.Preds.length:Int)>0)then (ae ([Q5]:V aa) m a).bind λe=>(iI d.Preds Z e a).bind λb=>(ae ([qfw]:V aa) b.1 b.2).bind λc=>O (c,b.2) else O (m,a)
def GK:OJ 1 (cA qcT 62) (kT d m a) .normal (λo=>aR 103 [(2,.bptr 1 0),(3,.eptr (bP d))] [ce 0 o.1 o.2,.cells [.bptr 0 0] [],.dead] []) (aR 103 [(2,.bptr 1 0),(3,.eptr (bP d))] [ce 0 m a,.cells [.bptr 0 0] [],.dead] []):=qfC.j<|tw (yF d)<|ca (WA.ln d.Preds)<|tF (tb λp e=>tb λh b=>tb λi c=>ts<|tv (bG [Q5] 1 rfl)<|tc [0] (ac _ e)<|ts<|tw (yF d)<|tc [0] (p5 _ b)<|ts<|tv (bG [qfw] 1 rfl)<|tc [0] (ac _ c)<|tE)<|tE
end
section
variable(d:ei)(m:V Int)(a:K)
def kU:Q K:=if a then O T else O ((d.Cons.length:Int)==0)
def GL:OJ 1 (cA qcT 254) (kU d a) .normal (λo=>aR 103 [(2,.bptr 1 0),(3,.eptr (bP d))] [ce 0 m o,.cells [.bptr 0 0] [],.dead] []) (aR 103 [(2,.bptr 1 0),(3,.eptr (bP d))] [ce 0 m a,.cells [.bptr 0 0] [],.dead] []):=qfC.j<|tf (λb=>qfr [0,0,2,6,14,30,62,126,254,510,1022,2047,4095,8191]<|ts<|ts<|ts<|tg 6 b<|qrl (rfl:bF (.bool T)=O [.bool T])<|tE) λb=>qfr [0,0,2,6,14,30,62,126,254,510,1022,2047,4095,8191]<|ts<|ts<|ts<|tg 6 b<|tw (yG d)<|ca (qj3.ln d.Cons)<|qrl (rfl:bF (.bool ((d.Cons.length:Int)==0))=O [.bool ((d.Cons.length:Int)==0)])<|tE
end
section
variable(i:Int)(a:V QX)(b:Int)(m:V Int)(c:K)(d:aa)(e:waA)(h:md)
def pT:Q (V Int):=if Y (i>0)then (ae ([y8]:V aa) m c).bind λo=>O o else O m
def GM:OJ 1 (cA qcT 131062) (pT i m c) .normal (λo=>aR 103 [(2,.bptr 1 0),(7,.bptr 3 0),(60,sl iN a),(61,.i6 b),(62,.i6 i)] [ce 0 o c,.cells [.bptr 0 0] [],.dead,.cells [.str d,sl cS e,sl aj h] []] []) (aR 103 [(2,.bptr 1 0),(6,.i6 i),(7,.bptr 3 0),(60,sl iN a),(61,.i6 b),(62,.i6 i)] [ce 0 m c,.cells [.bptr 0 0] [],.dead,.cells [.str d,sl cS e,sl aj h] []] []):=qfC.j<|tF (tb λq p=>ts<|tv (bG [y8] 1 rfl)<|tc [0] (ac _ p)<|tE)<|tE
end
section
variable(b:V QX)(c a:Int)(m:V Int)(d:K)
def jl:az:=aR 103 [(2,.bptr 1 0),(60,sl iN b),(61,.i6 c),(62,.i6 a)] [ce 0 m d,.cells [.bptr 0 0] [],.dead] []
def vq(o:V Int⊕(V Int×K)):Exit:=match o with|(.inl _)=>.ret|(.inr _)=>.exit 2
def nr(o:V Int⊕(V Int×K)):az:=match o with|(.inl o)=>aR 103 [] [ce 0 o T,.dead,.dead] []|(.inr o)=>aR 103 [] [ce 0 o.1 o.2,.dead,.dead] []
instance qxI:KS 1 (jl b c a m d):=ks 3 rfl
instance qxH{o:List Int⊕(List Int×Bool)}:KS 1 (nr o):=match o with|(.inl o)=>ks 3 rfl|(.inr o)=>ks 3 rfl
def vp:Q ((Int×V Int×K)⊕(V Int⊕(V Int×K))):=if Y (a<c)then (cJ b a).bind λe=>(pT a m d).bind λo=>(cC e.Name o d).bind λh=>if((e.Names.length:Int)!=(e.Fields.length:Int))then O (.inr (.inl h.2)) else if((e.Fields.length:Int)==0)then O (.inl (dc (a+1),h.2,h.1)) else (ae ([wk]:V aa) h.2 h.1).bind λp=>(gg (e.Fields.length:Int) p h.1 e.Name e.Names e.Fields).bind λi=>(ae ([jA]:V aa) i.1 i.2).bind λq=>O (.inl (dc (a+1),q,i.2)) else O (.inr (.inr (m,d)))
def yR:Q (V Int⊕(V Int×K)):=loop (λ(e:Int×V Int×K)=>vp b c e.1 e.2.1 e.2.2) (a,m,d)
def Ft:OL 1 (cA qcT 2047) (vp b c a m d) (λ(s:Int×V Int×K)=>jl b c s.1 s.2.1 s.2.2) vq nr (jl b c a m d):=qfC.lx<|tF (tb λe r=>tb λt h=>tb λw i=>tv (qj3.ia r)<|tv (qlt e)<|tx qq8<|tx (qjA e)<|jC 0<|cM (GM a b c m d e.Name e.Names e.Fields _ h)<|ts<|ts<|tc [0] (dY _ i)<|ts<|ca (cT.ln e.Names)<|ts<|ca (ff.ln e.Fields)<|tF (ts<|ts<|tE)<|ts<|ca (ff.ln e.Fields)<|tF tE<|tb λx o=>tb λy p=>tb λz q=>ts<|tv (bG [wk] 1 rfl)<|tc [0] (ac _ o)<|ts<|ts<|ca (ff.ln e.Fields)<|tc [0,1,3] (Df _ p)<|ts<|tv (bG [jA] 1 rfl)<|tc [0] (ac _ q)<|tE)<|tE
def ub:OK 1 (.loop (cA qcT 2047)) (yR b c a m d) vq nr (jl b c a m d):=NA λ_=>Ft _ _ _ _ _
end
def oY(d:ei)(o:V Int)(c:K):Q (V Int×K):=(ae ([YX]:V aa) o c).bind λp=>(cC d.Name p c).bind λm=>(pU d.Vars (d.Vars.length:Int) 0 m.2 m.1).bind λi=>(kT d i.1 i.2).bind λb=>(ae ([mX]:V aa) b.1 b.2).bind λh=>(kU d b.2).bind λe=>(yR d.Cons (d.Cons.length:Int) 0 h e).bind λa=>match a with|(.inl a)=>O (a,T)|(.inr a)=>O (a.1,a.2)
def Lu{d:ei}{w:V Int}{i:K}:OG 119 [.bptr 0 0,.agg (bP d)] [] [ce 0 w i] (oY d w i) (λr=>.tuple []) [] (λr=>[ce 0 r.1 r.2]):=qfC.g 1<|tb λz p=>tb λy q=>tb λx o=>tb λs c=>tb λb h=>tb λm e=>qkj (rfl:bF (.bptr 0 0)=O [.bptr 0 0]) rfl<|te (qjy d)<|ts<|tv (bG [YX] 1 rfl)<|tc [0] (ac _ p)<|ts<|tw (Ob d)<|tc [0] (dY _ q)<|tw (MN d)<|ca (cT.ln d.Vars)<|cM (GN d d.Vars (d.Vars.length:Int) 0 y.2 y.1 _ o)<|jC 0<|cM (GK d x.1 x.2 _ c)<|ts<|tv (bG [mX] 1 rfl)<|tc [0] (ac _ h)<|jC 0<|cM (GL d b s.2 _ e)<|tw (yG d)<|ca (qj3.ln d.Cons)<|t2 (λt a=>cM (ub d.Cons (d.Cons.length:Int) 0 b m _ a)<|tE) λt a=>cM (ub d.Cons (d.Cons.length:Int) 0 b m _ a)<|tE
def Cm(c:dy)(b:V Int)(a:K):Q (V Int×K):=N
def JR{c:dy}{b:V Int}{a:K}:OG 120 [.bptr 0 0,.agg (eL c)] [] [ce 0 b a] (Cm c b a) (λr=>.tuple []) [] (λr=>[ce 0 r.1 r.2]):=qaJ λr h=>by cases(show(N:Q _)=O r from h)
def wF(a:bw)(c:V Int)(b:K):Q (V Int×K):=N
def Fv{a:bw}{c:V Int}{b:K}:OG 121 [.bptr 0 0,.agg (cu a)] [] [ce 0 c b] (wF a c b) (λr=>.tuple []) [] (λr=>[ce 0 r.1 r.2]):=qaJ λr h=>by cases(show(N:Q _)=O r from h)
noncomputable def qkN:W:=f122.body.getD .skip
def qkB:ZF Pg [48] 122 f122 qkN:=zf call122 func122 rfl mixed
section
variable(v:bj)(m:V Int)(a:K)
def iG:Q K:=if a then O T else O ((v.Cases.length:Int)==0)
def Cx:OJ 1 (cA qkN 1022) (iG v a) .normal (λo=>aR 86 [(0,.bptr 0 0),(3,.eptr (aO v))] [ce 0 m o,.dead] []) (aR 86 [(0,.bptr 0 0),(3,.eptr (aO v))] [ce 0 m a,.dead] []):=qkB.j<|tf (λb=>ts<|tg 6 b<|ts<|tE) λb=>ts<|tg 6 b<|tw (tG v)<|ca (qj4.ln v.Cases)<|ts<|tE
end
section
variable(v:bj)(i:Int)(a:V EM)(b:Int)(m:V Int)(c:K)(d:aa)(e:waA)(h:Int)(p:aa)(q:Int)(r:m6)
def uc:Q (V Int):=if Y (i>0)then (ae ([Q9]:V aa) m c).bind λo=>O o else O m
def Cy:OJ 1 (cA qkN 1048054) (uc i m c) .normal (λo=>aR 86 [(0,.bptr 0 0),(3,.eptr (aO v)),(5,.bptr 2 0),(44,sl fj a),(45,.i6 b),(46,.i6 i)] [ce 0 o c,.dead,.cells [.str d,sl cS e,.i6 h,.str p,.i6 q,sl af r] []] []) (aR 86 [(0,.bptr 0 0),(3,.eptr (aO v)),(4,.i6 i),(5,.bptr 2 0),(44,sl fj a),(45,.i6 b),(46,.i6 i)] [ce 0 m c,.dead,.cells [.str d,sl cS e,.i6 h,.str p,.i6 q,sl af r] []] []):=qkB.j<|tF (tb λt s=>tv (bG [Q9] 1 rfl)<|tc [0] (ac _ s)<|tE)<|tE
end
section
variable(v:bj)(b:V EM)(c a:Int)(m:V Int)(d:K)
def km:az:=aR 86 [(0,.bptr 0 0),(3,.eptr (aO v)),(44,sl fj b),(45,.i6 c),(46,.i6 a)] [ce 0 m d,.dead] []
def qG(o:V Int×K):az:=aR 86 [(0,.bptr 0 0),(3,.eptr (aO v))] [ce 0 o.1 o.2,.dead] []
instance qxu:KS 1 (km v b c a m d):=ks 2 rfl
instance qxt{o:List Int×Bool}:KS 1 (qG v o):=ks 2 rfl
def qF:Q ((Int×V Int×K)⊕(V Int×K)):=if Y (a<c)then (cJ b a).bind λh=>(uc a m d).bind λp=>(cC h.Con p d).bind λi=>(gO h.Names i.2 i.1).bind λe=>(ae ([mX]:V aa) e.1 e.2).bind λq=>(dj h.Body q e.2).bind λo=>O (.inl (dc (a+1),o.1,o.2)) else O (.inr (m,d))
def mA:Q (V Int×K):=loop (λ(e:Int×V Int×K)=>qF b c e.1 e.2.1 e.2.2) (a,m,d)
def Bm:OL 1 (cA qkN 16375) (qF b c a m d) (λ(s:Int×V Int×K)=>km v b c s.1 s.2.1 s.2.2) (λ_=>.exit 0) (qG v) (km v b c a m d):=qkB.lx<|tF (tb λe r=>tb λt h=>tb λw i=>tb λx o=>tb λy p=>tb λz q=>tv (qj4.ia r)<|tv (qiS e)<|tx qq9<|tx (qgU e)<|jC 0<|cM (Cy v a b c m d e.Con e.Names e.Body.Op e.Body.Name e.Body.N e.Body.Kids _ h)<|ts<|tc [0] (dY _ i)<|ts<|tc [0] (oz _ o)<|tv (bG [mX] 1 rfl)<|tc [0] (ac _ p)<|tv (mo e.Body [])<|tc [0] (eY _ q)<|tE)<|tE
def Cz:=ug (s:=(a,m,d)) λe=>Bm v b c e.1 e.2.1 e.2.2
end
def kY(a:bj)(q:V Int)(c:K):Q (V Int×K):=(ae ([Ra]:V aa) q c).bind λs=>(aZ a.Name s c).bind λh=>(ae ([d7]:V aa) h.2 h.1).bind λt=>(cC a.Data t h.1).bind λo=>(ae ([qb]:V aa) o.2 o.1).bind λw=>(iH a.Result w o.1).bind λp=>(ae ([Tm]:V aa) p.2 p.1).bind λx=>(iG a p.1).bind λr=>(mA a.Cases (a.Cases.length:Int) 0 x r).bind λb=>(ae ([Q6]:V aa) b.1 b.2).bind λd=>(nB a.Inv).bind λi=>if(!i)then (ae ([EQ]:V aa) d b.2).bind λm=>(dj a.Inv m b.2).bind λe=>O (e.1,e.2) else O (d,b.2)
def GQ{a:bj}{y:V Int}{i:K}:OG 122 [.bptr 0 0,.agg (aO a)] [] [ce 0 y i] (kY a y i) (λr=>.tuple []) [] (λr=>[ce 0 r.1 r.2]):=qkB.g 1<|tb λR o=>tb λS p=>tb λX q=>tb λr4 s=>tb λr5 t=>tb λP w=>tb λz x=>tb λB m=>tb λA b=>tb λE c=>tb λF d=>te (qb6 a)<|tv (bG [Ra] 1 rfl)<|tc [0] (ac _ o)<|tw (JK a)<|tc [0] (bh _ p)<|tv (bG [d7] 1 rfl)<|tc [0] (ac _ q)<|tw (JL a)<|tc [0] (dY _ s)<|tv (bG [qb] 1 rfl)<|tc [0] (ac _ t)<|tw (Gg a)<|tc [0] (pY _ w)<|tv (bG [Tm] 1 rfl)<|tc [0] (ac _ x)<|jC 0<|cM (Cx a z P.1 _ m)<|tw (tG a)<|ca (qj4.ln a.Cases)<|cM (Cz a a.Cases (a.Cases.length:Int) 0 z B _ b)<|tv (bG [Q6] 1 rfl)<|tc [0] (ac _ c)<|tw (uH a)<|cP (n9 _ d)<|tF (tb λH e=>tb λL h=>tv (bG [EQ] 1 rfl)<|tc [0] (ac _ e)<|tw (uH a)<|tc [0] (eY _ h)<|tE)<|tE
noncomputable def qpP:W:=f123.body.getD .skip
def qpj:ZF Pg [] 123 f123 qpP:=zf call123 func123 rfl mixed
section
variable(q:ez)(m:V Int)(a:K)
def gy:Q K:=if a then O T else O ((q.Vars.length:Int)==0)
def zQ:OJ 1 (cA qpP 62) (gy q a) .normal (λo=>aR 38 [(0,.bptr 0 0),(3,.eptr (cj q))] [ce 0 m o,.dead] []) (aR 38 [(0,.bptr 0 0),(3,.eptr (cj q))] [ce 0 m a,.dead] []):=qpj.j<|tf (λb=>ts<|tg 6 b<|ts<|tE) λb=>ts<|tg 6 b<|tw (yH q)<|ca (WA.ln q.Vars)<|ts<|tE
end
def jm(q:ez)(e:V Int)(a:K):Q (V Int×K):=(ae ([YY]:V aa) e a).bind λi=>(aZ q.Name i a).bind λb=>(ae ([wk]:V aa) b.2 b.1).bind λm=>(gy q b.1).bind λh=>(iI q.Vars T m h).bind λc=>(ae ([LM]:V aa) c.1 c.2).bind λo=>(dj q.Body o c.2).bind λd=>O (d.1,d.2)
def Di{q:ez}{o:V Int}{a:K}:OG 123 [.bptr 0 0,.agg (cj q)] [] [ce 0 o a] (jm q o a) (λr=>.tuple []) [] (λr=>[ce 0 r.1 r.2]):=qpj.g 1<|tb λw c=>tb λp d=>tb λs e=>tb λt b=>tb λx h=>tb λy i=>tb λz m=>te (qjz q)<|tv (bG [YY] 1 rfl)<|tc [0] (ac _ c)<|tw (Of q)<|tc [0] (bh _ d)<|tv (bG [wk] 1 rfl)<|tc [0] (ac _ e)<|jC 0<|cM (zQ q s p.1 _ b)<|tw (yH q)<|tc [0] (p5 _ h)<|tv (bG [LM] 1 rfl)<|tc [0] (ac _ i)<|tw (MO q)<|tc [0] (eY _ m)<|tE
noncomputable def qns:W:=f86.body.getD .skip
def qna:ZF Pg [] 86 f86 qns:=zf call86 func86 rfl mixed
section
variable(m:am)(b:V ei)(c a:Int)(d:V Int)(e:K)
def uW:az:=aR 107 [(1,.eptr (au m)),(4,.bptr 1 0),(20,sl bP b),(21,.i6 c),(22,.i6 a)] [.dead,ce 1 d e] []
def Ek(o:V Int×K):az:=aR 107 [(1,.eptr (au m)),(4,.bptr 1 0)] [.dead,ce 1 o.1 o.2] []
instance qyr:KS 0 (uW m b c a d e):=ks 2 rfl
instance qye{o:List Int×Bool}:KS 0 (Ek m o):=ks 2 rfl
def Ej:Q ((Int×V Int×K)⊕(V Int×K)):=if Y (a<c)then (cJ b a).bind λo=>(oY o d e).bind λh=>(ae ([sL]:V aa) h.1 h.2).bind λi=>O (.inl (dc (a+1),i,h.2)) else O (.inr (d,e))
def zx:Q (V Int×K):=loop (λ(h:Int×V Int×K)=>Ej b c h.1 h.2.1 h.2.2) (a,d,e)
def MS:OL 0 (cA qns 119) (Ej b c a d e) (λ(q:Int×V Int×K)=>uW m b c q.1 q.2.1 q.2.2) (λ_=>.exit 0) (Ek m) (uW m b c a d e):=qna.lx<|tF (tb λp o=>tb λr h=>tb λs i=>tv (qj5.ia o)<|tv (qiT p)<|tx qq2<|tx (qgV p)<|tv (qgr p [])<|tc [1] (Lu _ h)<|tv (bG [sL] 1 rfl)<|tc [1] (ac _ i)<|tE)<|tE
def OD:=ug (s:=(a,d,e)) λh=>MS m b c h.1 h.2.1 h.2.2
end
section
variable(m:am)(b:V dy)(c a:Int)(d:V Int)(e:K)
def uX:az:=aR 107 [(1,.eptr (au m)),(4,.bptr 1 0),(34,sl eL b),(35,.i6 c),(36,.i6 a)] [.dead,ce 1 d e] []
def Em(o:V Int×K):az:=aR 107 [(1,.eptr (au m)),(4,.bptr 1 0)] [.dead,ce 1 o.1 o.2] []
instance qys:KS 0 (uX m b c a d e):=ks 2 rfl
instance qyf{o:List Int×Bool}:KS 0 (Em m o):=ks 2 rfl
def El:Q ((Int×V Int×K)⊕(V Int×K)):=if Y (a<c)then (cJ b a).bind λo=>(Cm o d e).bind λh=>(ae ([sL]:V aa) h.1 h.2).bind λi=>O (.inl (dc (a+1),i,h.2)) else O (.inr (d,e))
def zy:Q (V Int×K):=loop (λ(h:Int×V Int×K)=>El b c h.1 h.2.1 h.2.2) (a,d,e)
def MT:OL 0 (cA qns 247) (El b c a d e) (λ(q:Int×V Int×K)=>uX m b c q.1 q.2.1 q.2.2) (λ_=>.exit 2) (Em m) (uX m b c a d e):=qna.lx<|tF (tb λp o=>tb λr h=>tb λs i=>tv (qrg.ia o)<|tv (qgq p)<|tx qq5<|tx (qdX p)<|tv (qdC p [])<|tc [1] (JR _ h)<|tv (bG [sL] 1 rfl)<|tc [1] (ac _ i)<|tE)<|tE
def OE:=ug (s:=(a,d,e)) λh=>MT m b c h.1 h.2.1 h.2.2
end
section
variable(m:am)(b:V bw)(c a:Int)(d:V Int)(e:K)
def uY:az:=aR 107 [(1,.eptr (au m)),(4,.bptr 1 0),(48,sl cu b),(49,.i6 c),(50,.i6 a)] [.dead,ce 1 d e] []
def Eo(o:V Int×K):az:=aR 107 [(1,.eptr (au m)),(4,.bptr 1 0)] [.dead,ce 1 o.1 o.2] []
instance qyt:KS 0 (uY m b c a d e):=ks 2 rfl
instance qyg{o:List Int×Bool}:KS 0 (Eo m o):=ks 2 rfl
def En:Q ((Int×V Int×K)⊕(V Int×K)):=if Y (a<c)then (cJ b a).bind λo=>(wF o d e).bind λh=>(ae ([sL]:V aa) h.1 h.2).bind λi=>O (.inl (dc (a+1),i,h.2)) else O (.inr (d,e))
def zA:Q (V Int×K):=loop (λ(h:Int×V Int×K)=>En b c h.1 h.2.1 h.2.2) (a,d,e)
def MU:OL 0 (cA qns 503) (En b c a d e) (λ(q:Int×V Int×K)=>uY m b c q.1 q.2.1 q.2.2) (λ_=>.exit 4) (Eo m) (uY m b c a d e):=qna.lx<|tF (tb λh p=>tb λr i=>tb λs o=>tv (qrh.ia p)<|tv (ZW h)<|tx qq6<|tx (Xr h)<|tv (Xi h [])<|tc [1] (Fv _ i)<|tv (bG [sL] 1 rfl)<|tc [1] (ac _ o)<|tE)<|tE
def OF:=ug (s:=(a,d,e)) λh=>MU m b c h.1 h.2.1 h.2.2
end
section
variable(m:am)(b:V bj)(c a:Int)(d:V Int)(e:K)
def uZ:az:=aR 107 [(1,.eptr (au m)),(4,.bptr 1 0),(62,sl aO b),(63,.i6 c),(64,.i6 a)] [.dead,ce 1 d e] []
def Er(o:V Int×K):az:=aR 107 [(1,.eptr (au m)),(4,.bptr 1 0)] [.dead,ce 1 o.1 o.2] []
instance qyu:KS 0 (uZ m b c a d e):=ks 2 rfl
instance qyh{o:List Int×Bool}:KS 0 (Er m o):=ks 2 rfl
def Ep:Q ((Int×V Int×K)⊕(V Int×K)):=if Y (a<c)then (cJ b a).bind λo=>(kY o d e).bind λh=>(ae ([sL]:V aa) h.1 h.2).bind λi=>O (.inl (dc (a+1),i,h.2)) else O (.inr (d,e))
def zB:Q (V Int×K):=loop (λ(h:Int×V Int×K)=>Ep b c h.1 h.2.1 h.2.2) (a,d,e)
def MV:OL 0 (cA qns 1015) (Ep b c a d e) (λ(q:Int×V Int×K)=>uZ m b c q.1 q.2.1 q.2.2) (λ_=>.exit 6) (Er m) (uZ m b c a d e):=qna.lx<|tF (tb λh p=>tb λr i=>tb λs o=>tv (qj6.ia p)<|tv (qbK h)<|tx qq3<|tx (qag h)<|tv (ZX h [])<|tc [1] (GQ _ i)<|tv (bG [sL] 1 rfl)<|tc [1] (ac _ o)<|tE)<|tE
def OH:=ug (s:=(a,d,e)) λh=>MV m b c h.1 h.2.1 h.2.2
end
section
variable(m:am)(b:V ez)(c a:Int)(d:V Int)(e:K)
def u6:az:=aR 107 [(1,.eptr (au m)),(4,.bptr 1 0),(76,sl cj b),(77,.i6 c),(78,.i6 a)] [.dead,ce 1 d e] []
def Et(o:V Int×K):az:=aR 107 [(1,.eptr (au m)),(4,.bptr 1 0)] [.dead,ce 1 o.1 o.2] []
instance qyv:KS 0 (u6 m b c a d e):=ks 2 rfl
instance qyi{o:List Int×Bool}:KS 0 (Et m o):=ks 2 rfl
def Es:Q ((Int×V Int×K)⊕(V Int×K)):=if Y (a<c)then (cJ b a).bind λo=>(jm o d e).bind λh=>(ae ([sL]:V aa) h.1 h.2).bind λi=>O (.inl (dc (a+1),i,h.2)) else O (.inr (d,e))
def zC:Q (V Int×K):=loop (λ(h:Int×V Int×K)=>Es b c h.1 h.2.1 h.2.2) (a,d,e)
def MW:OL 0 (cA qns 2039) (Es b c a d e) (λ(q:Int×V Int×K)=>u6 m b c q.1 q.2.1 q.2.2) (λ_=>.exit 8) (Et m) (u6 m b c a d e):=qna.lx<|tF (tb λh p=>tb λr i=>tb λs o=>tv (qj7.ia p)<|tv (qiU h)<|tx qq4<|tx (qgW h)<|tv (qgs h [])<|tc [1] (Di _ i)<|tv (bG [sL] 1 rfl)<|tc [1] (ac _ o)<|tE)<|tE
def OI:=ug (s:=(a,d,e)) λh=>MW m b c h.1 h.2.1 h.2.2
end
section
variable(b:waG)(c a:Int)(m:V Int)(d:K)
def u7:az:=aR 107 [(4,.bptr 1 0),(90,sl aL b),(91,.i6 c),(92,.i6 a)] [.dead,ce 1 m d] []
def Ev(o:V Int×K):az:=aR 107 [(4,.bptr 1 0)] [.dead,ce 1 o.1 o.2] []
instance qyw:KS 0 (u7 b c a m d):=ks 2 rfl
instance qyj{o:List Int×Bool}:KS 0 (Ev o):=ks 2 rfl
def Eu:Q ((Int×V Int×K)⊕(V Int×K)):=if Y (a<c)then (cJ b a).bind λi=>(mz i m d).bind λe=>(ae ([sL]:V aa) e.1 e.2).bind λh=>O (.inl (dc (a+1),h,e.2)) else O (.inr (m,d))
def zD:Q (V Int×K):=loop (λ(e:Int×V Int×K)=>Eu b c e.1 e.2.1 e.2.2) (a,m,d)
def MX:OL 0 (cA qns 4087) (Eu b c a m d) (λ(p:Int×V Int×K)=>u7 b c p.1 p.2.1 p.2.2) (λ_=>.exit 10) Ev (u7 b c a m d):=qna.lx<|tF (tb λe o=>tb λq h=>tb λr i=>tv (ta.ia o)<|tv (sF e)<|tx Dl<|tx (eW e)<|tv (rA e [])<|tc [1] (Au _ h)<|tv (bG [sL] 1 rfl)<|tc [1] (ac _ i)<|tE)<|tE
def OM:=ug (s:=(a,m,d)) λe=>MX b c e.1 e.2.1 e.2.2
end
def AX(m:am):Q (aa×Int):=(zx m.Datas (m.Datas.length:Int) 0 ([]:V Int) Z).bind λi=>(zy m.Classes (m.Classes.length:Int) 0 i.1 i.2).bind λa=>(zA m.Instances (m.Instances.length:Int) 0 a.1 a.2).bind λb=>(zB m.Measures (m.Measures.length:Int) 0 b.1 b.2).bind λc=>(zC m.Quals (m.Quals.length:Int) 0 c.1 c.2).bind λd=>(zD m.Defs (m.Defs.length:Int) 0 d.1 d.2).bind λe=>(kV e.1 e.2).bind λh=>O (h.1,h.2)
def T4{m:am}:OV 86 [.agg (au m)] (AX m) (λr=>.tuple [.str r.1,.i6 r.2]) []:=qna.v<|
 tb λt s=>tb λi a=>tb λo b=>tb λp c=>tb λq d=>tb λw e=>tb λx h=>te (ew m)<|XD (show dF Pg 132 []=O (.agg [.val (.pointer N),sl (cI .u8) ([]:V Int),.bool Z]) by kernel_rfl) (show Db Pg 132 [] [(1,5)]from⟨[.val (.pointer N),.val fe,.bool Z],by kernel_rfl,(aI rfl hV)⟩)<|ty (qvE [.val (.pointer N),sl (cI .u8) ([]:V Int),.bool Z])<|tw (kH m)<|ca (qj5.ln m.Datas)<|cM (OD m m.Datas (m.Datas.length:Int) 0 ([]:V Int) Z _ s)<|tw (KY m)<|ca (qrg.ln m.Classes)<|cM (OE m m.Classes (m.Classes.length:Int) 0 t.1 t.2 _ a)<|tw (KZ m)<|ca (qrh.ln m.Instances)<|cM (OF m m.Instances (m.Instances.length:Int) 0 i.1 i.2 _ b)<|tw (kI m)<|ca (qj6.ln m.Measures)<|cM (OH m m.Measures (m.Measures.length:Int) 0 o.1 o.2 _ c)<|tw (kJ m)<|ca (qj7.ln m.Quals)<|cM (OI m m.Quals (m.Quals.length:Int) 0 p.1 p.2 _ d)<|tw (ck m)<|ca (ta.ln m.Defs)<|cM (OM m.Defs (m.Defs.length:Int) 0 q.1 q.2 _ e)<|tc [1] (yS _ h)<|tE
noncomputable def qwl:W:=f69.body.getD .skip
def qv4:ZF Pg [12] 69 f69 qwl:=zf call69 func69 rfl mixed
def ft(m:am):Q aa:=(AX m).bind λa=>if(a.2 !=0)then O Ts else O a.1
def sO{m:am}:OV 69 [.agg (au m)] (ft m) (λr=>.str r) []:=qv4.v<|tb λb a=>te (ew m)<|tv (bM m)<|cP (T4 _ a)<|tF tE<|tE
noncomputable def qvf:W:=f30.body.getD .skip
def qu4:ZF Pg [16,21] 30 f30 qvf:=zf call30 func30 rfl mixed
section
variable(c:waG)(d:Int)(a:waG)(b:Int)
def oc:az:=aR 22 [(3,sl aL a),(7,sl aL c),(8,.i6 d),(9,.i6 b)] [.dead] [((3,0),65)]
def wx(o:waG):az:=aR 22 [(3,sl aL o)] [.dead] [((3,0),65)]
instance qxN:KS 0 (oc c d a b):=ks 1 rfl
instance qxJ{o:waG}:KS 0 (wx o):=ks 1 rfl
def gE:Q ((waG×Int)⊕(waG)):=if Y (b<d)then (cJ c b).bind λe=>if(e.Mode==2)then (app a ([e]:V ba)).bind λh=>O (.inl (h,dc (b+1))) else O (.inl (a,dc (b+1))) else O (.inr a)
def An:Q waG:=loop (λ(e:waG×Int)=>gE c d e.1 e.2) (a,b)
def F9:OL 0 (cA qvf 119) (gE c d a b) (λ(m:waG×Int)=>oc c d m.1 m.2) (λ_=>.exit 0) wx (oc c d a b):=qu4.lx<|
 tF (tb λe i=>tv (ta.ia i)<|tv (sF e)<|tx Dl<|tx (eW e)<|ts<|tF (tb λo h=>tv (rA e [])<|tv (ta.mk' (v:=Pd) GB ([e]:V ba) 1 (by kernel_rfl))<|tv (ta.ap h)<|tE)<|tE)<|tE
def HT:=ug (s:=(a,b)) λe=>F9 c d e.1 e.2
end
def fF(m:am):Q waG:=(An m.Defs (m.Defs.length:Int) ([]:V ba) 0).bind λa=>O a
def Ao{m:am}:OV 30 [.agg (au m)] (fF m) (λr=>sl aL r) [(0,65)]:=qu4.v<|tb λb a=>te (ew m)<|tw (ck m)<|ca (ta.ln m.Defs)<|cM (HT m.Defs (m.Defs.length:Int) ([]:V ba) 0 _ a)<|tE
noncomputable def qvh:W:=f62.body.getD .skip
def qu7:ZF Pg [] 62 f62 qvh:=zf call62 func62 rfl mixed
section
variable(c:waA)(d b:Int)(a:V (aa×K))
def Ax:az:=aR 18 [(0,.bptr 0 0),(6,sl cS c),(7,.i6 d),(8,.i6 b)] [.cells [.mapr 1] [],.map (bU PVal.bool a)] []
def Nb(o:V (aa×K)):az:=aR 18 [] [.cells [.mapr 1] [],.map (bU PVal.bool o)] []
def fi:Q ((Int×(V (aa×K)))⊕(((V (aa×K))))):=if Y (b<d)then (cJ c b).bind λe=>O (.inl (dc (b+1),mq a e T)) else O (.inr a)
def wb:Q (((V (aa×K)))):=loop (λ(e:Int×(V (aa×K)))=>fi c d e.1 e.2) (b,a)
def J1:OL 2 (cA qvh 15) (fi c d b a) (λ(i:Int×(V (aa×K)))=>Ax c d i.1 i.2) (λ_=>.exit 0) Nb (Ax c d b a):=qu7.l<|tF (tb λh e=>tv (cT.ia e)<|tv (cX OR (.str h) [])<|ts<|qo4 (RP (f:=PVal.bool) underlying84 underlying9 a h T)<|tE)<|tE
def LI:=ug (s:=(b,a)) λe=>J1 c d e.1 e.2
end
def mN(a:waA)(b:V (aa×K)):Q ((V (aa×K))):=(wb a (a.length:Int) 0 b).bind λc=>O c
def wc{a:waA}{c:V (aa×K)}:OG 62 [.bptr 0 0,sl cS a] [] [.cells [.mapr 1] [],.map (bU PVal.bool c)] (mN a c) (λr=>.tuple []) [] (λr=>[.cells [.mapr 1] [],.map (bU PVal.bool r)]):=qu7.g 2<|tb λd b=>ca (cT.ln a)<|cM (LI a (a.length:Int) 0 c _ b)<|tE
noncomputable def qwi:W:=f59.body.getD .skip
def qv2:ZF Pg [10] 59 f59 qwi:=zf call59 func59 rfl mixed
def sj(a:waA):Q ((V (aa×K))):=(mN a ([]:V (aa×K))).bind λb=>O b
def G7{a:waA}:ON 59 [sl cS a] (sj a) (λr=>.bptr 1 0) [] (λr=>[.map (bU PVal.bool r),.cells [.mapr 0] []]):=qv2.n 2<|
 tb λc b=>tv (show dF Pg 99 [(0,.mapr 0)]=O (.agg [.mapr 0]) by kernel_rfl)<|qkj (qwO [.mapr 0]) rfl<|tc [1,0] (wc _ b)<|tE
abbrev eK:=(ah->waA->(V (aa×K))->Q ((V (aa×K))))
abbrev eH(R:eK):Prop:=∀(e:ah)(a:waA)(b:V (aa×K)),OG 88 [.agg (al e),sl cS a,.func (.func 89) [] [.bptr 0 0]] [] [.cells [.bptr 1 0] [],.cells [.mapr 2] [],.map (bU PVal.bool b)] (R e a b) (λr=>.tuple []) [] (λr=>[.cells [.bptr 1 0] [],.cells [.mapr 2] [],.map (bU PVal.bool r)])
noncomputable def qsS:W:=f129.body.getD .skip
def qrT:ZF Pg [] 129 f129 qsS:=zf call129 func129 rfl mixed
def ky(e:ah):Q K:=if(e.Op==3)then O T else O (e.Op==5)
def CO{e:ah}:OV 129 [.agg (al e)] (ky e) (λr=>.bool r) []:=qrT.v<|
 te (dG e)<|have a:=λ{X c d} (r:PV _ X c d)=>tw (bK e)<|r;tf (λb=>a<|tg 4 b<|tE) λb=>a<|tg 4 b<|tw (bK e)<|tE
noncomputable def qtP:W:=f90.body.getD .skip
def qu9:ZF Pg [10,17] 90 f90 qtP:=zf call90 func90 rfl mixed
section
variable(s:waA)(v:aa)(b a:Int)
def vK:az:=aR 19 [(0,sl cS s),(1,.str v),(7,.i6 b),(8,.i6 a)] [] []
def EB(o:Int⊕(Unit)):Exit:=match o with|(.inl _)=>.ret|(.inr _)=>.exit 0
def EC(o:Int⊕(Unit)):az:=match o with|(.inl o)=>aR 19 [(4,.i6 o)] [] []|(.inr o)=>aR 19 [] [] []
def eO:Q (Int⊕(Int⊕(Unit))):=if Y (a<b)then (cJ s a).bind λc=>if(v==c)then O (.inr (.inl a)) else O (.inl (dc (a+1))) else O (.inr (.inr ()))
def nV:Q (Int⊕(Unit)):=loop (λ(c:Int)=>eO s v b c) a
def M2:OL 0 (cA qtP 55) (eO s v b a) (λ(e:Int)=>vK s v b e) EB EC (vK s v b a):=qu9.l<|tF (tb λd c=>tv (cT.ia c)<|tv (cX OR (.str d) [])<|tF tE<|tE)<|tE
def CG:OK 0 (.loop (cA qtP 55)) (nV s v b a) EB EC (vK s v b a):=NA λ_=>M2 _ _ _ _
end
def slices_Index(s:waA)(v:aa):Q Int:=(nV s v (s.length:Int) 0).bind λa=>match a with|(.inl a)=>O a|(.inr a)=>O (-1)
def Jt{s:waA}{v:aa}:OV 90 [sl cS s,.str v] (slices_Index s v) (λr=>.i6 r) []:=qu9.v<|ca (cT.ln s)<|t2 (λb a=>cM (CG s v (s.length:Int) 0 _ a)<|tE) λb a=>cM (CG s v (s.length:Int) 0 _ a)<|tE
noncomputable def qwr:W:=f83.body.getD .skip
def qwa:ZF Pg [] 83 f83 qwr:=zf call83 func83 rfl mixed
def sV(a:waA)(s:aa):Q Int:=(slices_Index a s).bind λb=>O b
def E6{a:waA}{s:aa}:OV 83 [sl cS a,.str s] (sV a s) (λr=>.i6 r) []:=qwa.v<|tb λc b=>cP (Jt _ b)<|tE
noncomputable def qws:W:=f89.body.getD .skip
def qwb:ZF Pg [] 89 f89 qws:=zf call89 func89 rfl mixed
def ye(a:ah)(b:V (aa×K)):Q ((V (aa×K))):=(mN ([a.Name]:V aa) b).bind λc=>O c
def SE{a:ah}{c:V (aa×K)}:OG 89 [.agg (al a),.bptr 0 0] [] [.cells [.bptr 1 0] [],.cells [.mapr 2] [],.map (bU PVal.bool c)] (ye a c) (λr=>.tuple []) [] (λr=>[.cells [.bptr 1 0] [],.cells [.mapr 2] [],.map (bU PVal.bool r)]):=qwb.g 3<|tb λd b=>te (dG a)<|ts<|tw (cc a)<|tv (bG [a.Name] 1 rfl)<|tc [1,2] (wc _ b)<|tE
noncomputable def qpQ:W:=f131.body.getD .skip
def qpk:ZF Pg [] 131 f131 qpQ:=zf call131 func131 rfl mixed
section
variable(a:Int)(e:ah)
def xy:Q K:=if(e.Op==7)then O (Y (a>0)) else O Z
def M9:OU 0 (cA qpQ 26) (xy a e) .normal (λo=>[(1,.undef),(5,.bool o)]) (aR 23 [(1,.i6 a),(2,.eptr (al e))] [.dead] []):=qpk.j<|
 have b:=λ{X d h} (r:PV _ X d h)=>tw (bK e)<|r;tf (λc=>b<|tg 4 c<|tE) λc=>b<|tg 4 c<|tE
end
def sd(e:ah)(a:Int):Q waA:=(xy a e).bind λb=>if b then O ([e.Name]:V aa) else if(e.Op==6)then (qt e.Params).bind λc=>O c else O ([]:V aa)
def G6{e:ah}{a:Int}:OV 131 [.agg (al e),.i6 a] (sd e a) (λr=>sl cS r) [(0,9)]:=qpk.v<|tb λd b=>te (dG e)<|jC 1<|cM (M9 a e _ b)<|tF (tw (cc e)<|tv (bG [e.Name] 1 rfl)<|tE)<|tw (bK e)<|tF (tb λh c=>tw (bk e)<|cP (z8 _ c)<|tE)<|tE
noncomputable def qkU:W:=f88.body.getD .skip
def qkq:ZF Pg [27] 88 f88 qkU:=zf call88 func88 rfl mixed
section
variable(a:waA)(e:ah)(b:V (aa×K))
def i7:Q K:=(ky e).bind λc=>if c then (sV a e.Name).bind λd=>O (Y (d<0)) else O Z
def wr:OU 3 (cA qkU 12) (i7 a e) .normal (λo=>[(18,.bool o)]) (aR 57 [(1,sl cS a),(2,.func (.func 89) [] [.bptr 0 0]),(3,.eptr (al e))] [.cells [.bptr 1 0] [],.cells [.mapr 2] [],.map (bU PVal.bool b),.dead] []):=qkq.j<|
 tb λm d=>have c:=λ{X q s} (r:PV _ X q s)=>tv (bv e)<|cP (CO _ d)<|r;tf (λi=>tb λp h=>c<|tg 3 i<|tw (cc e)<|cP (E6 _ h)<|tE) λi=>c<|tg 3 i<|tE
end
section
variable(a:waA)(e:ah)(b:V (aa×K))
def iZ:Q (((V (aa×K)))):=(i7 a e).bind λc=>if c then (ye e b).bind λd=>O d else O b
def wq:OJ 3 (cA qkU 6) (iZ a e b) .normal (λo=>aR 57 [(1,sl cS a),(2,.func (.func 89) [] [.bptr 0 0]),(3,.eptr (al e))] [.cells [.bptr 1 0] [],.cells [.mapr 2] [],.map (bU PVal.bool o),.dead] []) (aR 57 [(1,sl cS a),(2,.func (.func 89) [] [.bptr 0 0]),(3,.eptr (al e))] [.cells [.bptr 1 0] [],.cells [.mapr 2] [],.map (bU PVal.bool b),.dead] []):=qkq.j<|tb λh c=>jC 0<|cM (wr a e b _ c)<|tF (tb λi d=>tv (bv e)<|tc [0,1,2] (SE _ d)<|tE)<|tE
end
section
variable(c:eK)(a:waA)(e:ah)(d:waD)(h b:Int)(i:V (aa×K))
def gT:az:=aR 57 [(1,sl cS a),(2,.func (.func 89) [] [.bptr 0 0]),(3,.eptr (al e)),(23,sl al d),(24,.i6 h),(25,.i6 b)] [.cells [.bptr 1 0] [],.cells [.mapr 2] [],.map (bU PVal.bool i),.dead] []
def mL(o:V (aa×K)):az:=aR 57 [(1,sl cS a),(2,.func (.func 89) [] [.bptr 0 0]),(3,.eptr (al e))] [.cells [.bptr 1 0] [],.cells [.mapr 2] [],.map (bU PVal.bool o),.dead] []
instance qxi:KS 3 (gT a e d h b i):=ks 4 rfl
instance qxf{o:((List (aa×Bool)))}:KS 3 (mL a e o):=ks 4 rfl
def cE:Q ((Int×(V (aa×K)))⊕(((V (aa×K))))):=if Y (b<h)then (cJ d b).bind λr=>(HM a).bind λo=>(sd e b).bind λp=>(app o p).bind λm=>(c r m i).bind λq=>O (.inl (dc (b+1),q)) else O (.inr i)
def i8:Q (((V (aa×K)))):=loop (λ(m:Int×(V (aa×K)))=>cE c a e d h m.1 m.2) (b,i)
def v8(m:eH c):OL 3 (cA qkU 119) (cE c a e d h b i) (λ(w:Int×(V (aa×K)))=>gT a e d h w.1 w.2) (λ_=>.exit 0) (mL a e) (gT a e d h b i):=qkq.lx<|tF (tb λo t=>tb λy q=>tb λz r=>tb λx p=>tb λA s=>tv (iQ.ia t)<|tv (bv o)<|tx qaq<|tx (tV o)<|tk<|FD (.dx [0,0,2,0,0,30,62,0] [] [] [])<|tv (fH o [])<|cP (DL q)<|tv (bv e)<|cP (G6 _ r)<|tv (cT.ap p)<|tc [0,1,2] (m _ _ _ _ s)<|tE)<|tE
def wt(m:eH c):=ug (s:=(b,i)) λo=>v8 c a e d h o.1 o.2 m
end
section
variable(b:eK)(a:waA)(d:rf)(e c:Int)(h:V (aa×K))
def gU:az:=aR 57 [(1,sl cS a),(2,.func (.func 89) [] [.bptr 0 0]),(41,sl bz d),(42,.i6 e),(43,.i6 c)] [.cells [.bptr 1 0] [],.cells [.mapr 2] [],.map (bU PVal.bool h),.dead] []
def mM(o:V (aa×K)):az:=aR 57 [] [.cells [.bptr 1 0] [],.cells [.mapr 2] [],.map (bU PVal.bool o),.dead] []
instance qxj:KS 3 (gU a d e c h):=ks 4 rfl
instance qxg{o:((List (aa×Bool)))}:KS 3 (mM o):=ks 4 rfl
def cF:Q ((Int×(V (aa×K)))⊕(((V (aa×K))))):=if Y (c<e)then (cJ d c).bind λi=>(HM a).bind λo=>(app o i.Names).bind λm=>(b i.Body m h).bind λp=>O (.inl (dc (c+1),p)) else O (.inr h)
def ja:Q (((V (aa×K)))):=loop (λ(i:Int×(V (aa×K)))=>cF b a d e i.1 i.2) (c,h)
def wa(i:eH b):OL 3 (cA qkU 127) (cF b a d e c h) (λ(s:Int×(V (aa×K)))=>gU a d e s.1 s.2) (λ_=>.exit 2) mM (gU a d e c h):=qkq.lx<|tF (tb λm r=>tb λw p=>tb λt o=>tb λx q=>tv (kn.ia r)<|tv (uL m)<|tx NF<|tx (rE m)<|tk<|FD (.dx [0,1,0,4,0,16,60,0] [] [] [])<|tv (fH m.Body [])<|cP (DL p)<|ts<|tv (cT.ap o)<|tc [0,1,2] (i _ _ _ _ q)<|tE)<|tE
def wu(i:eH b):=ug (s:=(c,h)) λm=>wa b a d e m.1 m.2 i
end
def fT(b:eK)(e:ah)(a:waA)(h:V (aa×K)):Q ((V (aa×K))):=(iZ a e h).bind λi=>(i8 b a e e.Kids (e.Kids.length:Int) 0 i).bind λc=>(ja b a e.Alts (e.Alts.length:Int) 0 c).bind λd=>O d
def y7(b:eK)(c:eH b){e:ah}{a:waA}{m:V (aa×K)}:OG 88 [.agg (al e),sl cS a,.func (.func 89) [] [.bptr 0 0]] [] [.cells [.bptr 1 0] [],.cells [.mapr 2] [],.map (bU PVal.bool m)] (fT b e a m) (λr=>.tuple []) [] (λr=>[.cells [.bptr 1 0] [],.cells [.mapr 2] [],.map (bU PVal.bool r)]):=qkq.g 3<|tb λq i=>tb λo d=>tb λp h=>te (dG e)<|jC 0<|cM (wq a e m _ i)<|tw (aB e)<|ca (iQ.ln e.Kids)<|cM (wt b a e e.Kids (e.Kids.length:Int) 0 q c _ d)<|tw (aF e)<|ca (kn.ln e.Alts)<|cM (wu b a e.Alts (e.Alts.length:Int) 0 o c _ h)<|tE
def jr:((ah×waA×(V (aa×K)))->Q ((V (aa×K))))->(ah×waA×(V (aa×K)))->Q ((V (aa×K))):=λ(rec:(ah×waA×(V (aa×K)))->Q ((V (aa×K)))) (x:ah×waA×(V (aa×K)))=>fT (λe a b=>rec (e,a,b)) x.1 x.2.1 x.2.2
def kq(e:ah)(a:waA)(b:V (aa×K)):Q ((V (aa×K))):=sQ jr (e,a,b)
def Ae{e:ah}{a:waA}{c:V (aa×K)}:OG 88 [.agg (al e),sl cS a,.func (.func 89) [] [.bptr 0 0]] [] [.cells [.bptr 1 0] [],.cells [.mapr 2] [],.map (bU PVal.bool c)] (kq e a c) (λr=>.tuple []) [] (λr=>[.cells [.bptr 1 0] [],.cells [.mapr 2] [],.map (bU PVal.bool r)]):=qaJ λ_ h=>ij (F:=jr) (M:=λ(x:ah×waA×(V (aa×K))) (r:V (aa×K))=>C Pg GE 88 [.agg (al x.1),sl cS x.2.1,.func (.func 89) [] [.bptr 0 0]] [] [.cells [.bptr 1 0] [],.cells [.mapr 2] [],.map (bU PVal.bool x.2.2)] (.tuple []) [] [.cells [.bptr 1 0] [],.cells [.mapr 2] [],.map (bU PVal.bool r)]) (λrec b x r h=>y7 _ (λe a c=>qaJ λr h=>b (e,a,c) r h) _ h) h
noncomputable def qwm:W:=f72.body.getD .skip
def qv5:ZF Pg [] 72 f72 qwm:=zf call72 func72 rfl mixed
def EF(e:ah):Q waA:=(sj ([]:V aa)).bind λa=>(kq e ([]:V aa) a).bind λb=>(lu b).bind λc=>O c
def WF{e:ah}:OV 72 [.agg (al e)] (EF e) (λr=>sl cS r) [(0,9)]:=qv5.v<|tb λa b=>tb λh c=>tb λi d=>te (dG e)<|ti (.cn ⟨[2,3],[],[],[],[],[.map (bU PVal.bool a),.cells [.mapr 2] []],[.map (bU PVal.bool a),.cells [.mapr 0] []],.bptr 3 0,.bptr 1 0,[]⟩) (G7 _ b)<|tq (aI (cw J3 ([]:V aa)) trivial)<|tq (aI (aI (rM (bU PVal.bool a)) (qnF (n:=0) PVal.bool (λx=>trivial) a)) (aI (aI (rW []) (aI (xM [2,3] 0 2 rfl) trivial)) trivial))<|tq (xB [2,3] 1 3 0 rfl)<|tx qrc<|ts<|tv (bv e)<|tc [1,3,2] (Ae _ c)<|ts<|tc [3,2] (NH d)<|tE
noncomputable def qwn:W:=f73.body.getD .skip
def qv6:ZF Pg [] 73 f73 qwn:=zf call73 func73 rfl mixed
def sI(s:waA)(v:aa):Q K:=(slices_Index s v).bind λa=>O (Y (a>=0))
def OY{s:waA}{v:aa}:OV 73 [sl cS s,.str v] (sI s v) (λr=>.bool r) []:=qv6.v<|tb λb a=>cP (Jt _ a)<|tE
noncomputable def qtM:W:=f49.body.getD .skip
def qsK:ZF Pg [32,37] 49 f49 qtM:=zf call49 func49 rfl mixed
section
variable(m:am)(d:ba)(a:waA)(s:aa)(ok:K)(b:waA)(c e:Int)
def ng:Q K:=if ok then (sI d.Params s).bind λh=>O (!h) else O Z
def JI:OU 0 (cA qtM 15342) (ng d s ok) .normal (λo=>[(9,.undef),(31,.bool o)]) (aR 38 [(2,.eptr (au m)),(3,.eptr (aL d)),(5,sl cS a),(7,.str s),(9,.bool ok),(12,sl cS b),(13,.i6 c),(14,.i6 e)] [.dead,.dead,.dead] [((12,0),9),((5,0),9)]):=qsK.j<|tf (λi=>tb λp h=>tg 2 i<|tw (uG d)<|cP (OY _ h)<|tE) λi=>tg 2 i<|tE
end
section
variable(m:am)(d:ba)(c:waA)(e:Int)(b:waA)(a:Int)
def pr:az:=aR 38 [(2,.eptr (au m)),(3,.eptr (aL d)),(5,sl cS b),(12,sl cS c),(13,.i6 e),(14,.i6 a)] [.dead,.dead] [((12,0),9),((5,0),9)]
def yD(o:waA):az:=aR 38 [(5,sl cS o)] [.dead,.dead] [((5,0),9)]
instance qxT:KS 0 (pr m d c e b a):=ks 2 rfl
instance qxR{o:waA}:KS 0 (yD o):=ks 2 rfl
def eT:Q ((waA×Int)⊕(waA)):=if Y (a<e)then (cJ c a).bind λh=>(dM m h).bind λp=>(ng d h p.2).bind λo=>if o then (app b ([h]:V aa)).bind λi=>O (.inl (i,dc (a+1))) else O (.inl (b,dc (a+1))) else O (.inr b)
def sP:Q waA:=loop (λ(h:waA×Int)=>eT m d c e h.1 h.2) (b,a)
def HS:OL 0 (cA qtM 119) (eT m d c e b a) (λ(s:waA×Int)=>pr m d c e s.1 s.2) (λ_=>.exit 0) yD (pr m d c e b a):=qsK.lx<|tF (tb λq p=>tb λr o=>tb λw i=>tv (cT.ia p)<|tv (cX OR (.str q) [])<|tv (bM m)<|cP (fa _ o)<|tx Dl<|tx (eW r.1)<|jC 0<|cM (JI m d b q r.2 c e a _ i)<|tF (tb λt h=>tv (bG [q] 1 rfl)<|tv (cT.ap h)<|tE)<|tE)<|tE
def JJ:=ug (s:=(b,a)) λh=>HS m d c e h.1 h.2
end
def gr(m:am)(d:ba):Q waA:=(EF d.Body).bind λb=>(sP m d b (b.length:Int) ([]:V aa) 0).bind λa=>O a
def BY{m:am}{d:ba}:OV 49 [.agg (au m),.agg (aL d)] (gr m d) (λr=>sl cS r) [(0,9)]:=qsK.v<|tb λc b=>tb λe a=>te (ew m)<|te (Qs d)<|tw (oM d)<|cP (WF _ b)<|ca (cT.ln c)<|cM (JJ m d c (c.length:Int) ([]:V aa) 0 _ a)<|tE
noncomputable def qtO:W:=f71.body.getD .skip
def qsM:ZF Pg [25,41,46] 71 f71 qtO:=zf call71 func71 rfl mixed
section
variable(m:am)(c:waA)(d:Int)(a:waA)(b:Int)(e:V (aa×K))
def DX:az:=aR 47 [(2,.eptr (au m)),(5,.mapr 1),(6,sl cS a),(29,sl cS c),(30,.i6 d),(31,.i6 b)] [.dead,.map (bU PVal.bool e),.dead] [((29,0),9),((6,1),9)]
def PN(o:waA×(V (aa×K))):az:=aR 47 [(2,.eptr (au m)),(5,.mapr 1),(6,sl cS o.1)] [.dead,.map (bU PVal.bool o.2),.dead] [((6,1),9)]
def iD:Q ((waA×Int×(V (aa×K)))⊕((waA×(V (aa×K))))):=if Y (b<d)then (cJ c b).bind λh=>if(!((oe e h).getD Z))then (app a ([h]:V aa)).bind λi=>O (.inl (i,dc (b+1),mq e h T)) else O (.inl (a,dc (b+1),e)) else O (.inr (a,e))
def I8:Q ((waA×(V (aa×K)))):=loop (λ(h:waA×Int×(V (aa×K)))=>iD c d h.1 h.2.1 h.2.2) (a,b,e)
def ML:OL 0 (cA qtO 15871) (iD c d a b e) (λ(p:waA×Int×(V (aa×K)))=>DX m c d p.1 p.2.1 p.2.2) (λ_=>.exit 2) (PN m) (DX m c d a b e):=qsM.l<|tF (tb λh o=>tv (cT.ia o)<|tv (cX OR (.str h) [])<|tv (RO (f:=PVal.bool) underlying84 underlying9 qo6 e h)<|tF (tb λq i=>qo4 (RP (f:=PVal.bool) underlying84 underlying9 e h T)<|tv (bG [h] 1 rfl)<|ti (.z [sl cS q]) (cT.ap i)<|tE)<|tE)<|tE
def N8:=ug (s:=(a,b,e)) λh=>ML m c d h.1 h.2.1 h.2.2
end
section
variable(m:am)(a:waA)(b:V (aa×K))
def uB:az:=aR 47 [(2,.eptr (au m)),(5,.mapr 1),(6,sl cS a)] [.dead,.map (bU PVal.bool b)] [((6,1),9)]
def DW(o:V (aa×K)):az:=aR 47 [(5,.mapr 1)] [.dead,.map (bU PVal.bool o)] []
instance qyq:KS 0 (uB m a b):=ks 2 rfl
instance qyd{o:((List (aa×Bool)))}:KS 0 (DW o):=ks 2 rfl
def kF:Q ((waA×(V (aa×K)))⊕(((V (aa×K))))):=if Y ((a.length:Int)>0)then (cJ a 0).bind λi=>(dM m i).bind λh=>(SB a (O 1) N).bind λe=>(gr m h.1).bind λd=>(I8 d (d.length:Int) e 0 b).bind λc=>O (.inl (c.1,c.2)) else O (.inr b)
def zk:Q (((V (aa×K)))):=loop (λ(c:waA×(V (aa×K)))=>kF m c.1 c.2) (a,b)
def MK:OL 0 (cA qtO 123) (kF m a b) (λ(r:waA×(V (aa×K)))=>uB m r.1 r.2) (λ_=>.exit 0) DW (uB m a b):=qsM.lx<|ca (cT.ln a)<|tF (tb λt i=>tb λq e=>tb λp d=>tb λo h=>tb λs c=>qfr [0,0,2,6,15,31,63,63,0,383,1023]<|tv (bM m)<|tv (cT.ia i)<|tv (cX OR (.str t) [])<|cP (fa _ e)<|tx (eW q.1)<|ti (.z [sl cS p]) (cT.sc d)<|tv (bM m)<|tv (rA q.1 [])<|cP (BY _ h)<|ca (cT.ln o)<|cM (N8 m o (o.length:Int) p 0 b _ c)<|tE)<|tE
def N7:=ug (s:=(a,b)) λc=>MK m c.1 c.2
end
def fc(m:am)(a:aa):Q ((V (aa×K))):=(zk m ([a]:V aa) ([]:V (aa×K))).bind λb=>O b
def zl{m:am}{a:aa}:ON 71 [.agg (au m),.str a] (fc m a) (λr=>.mapr 1) [] (λr=>[.dead,.map (bU PVal.bool r)]):=qsM.n 2<|tb λc b=>te (ew m)<|tv (bG [a] 1 rfl)<|FD (.sh 6 1 9)<|cM (N7 m ([a]:V aa) ([]:V (aa×K)) _ b)<|tE
open Go
section
variable{P:I}{GE:V (Nat×V U)}{E:qy}{Γ:aS}{bs:bC}{B:Nat->Q kg}{w:J}{st:az}
structure Fr(st:az)(d:Nat):Prop where
 t:st.tmps.set d .undef=st.tmps
 o:bI d st.own=st.own
 l:d<st.tmps.length
def SR.putU{a:Array D}(h:SR P E Γ bs B w a st){d:Nat}(b:Fr st d)(v:D):SR P E Γ bs B w (a.setIfInBounds d v) st:=by have:=h.set (d:=d) (p:=.undef) (v:=v) (.undef v);rw[b.t,b.o]at this;exact this
def Gb{a:Array D}{ds:V Deferred}{d:Nat}{v:D}(h:d<a.size):(Act.mk (a.setIfInBounds d v) ds).eval (.tmp d)=v:=by refine bu ?_;show(a.setIfInBounds d v)[d]? =_;simp[h]
def zR{a:Array D}{b:V Deferred}{d:Nat}{v:D}:(Act.mk a b).put (O d) v=⟨a.setIfInBounds d v,b⟩:=rfl
def SR.turnIt{a:Array D}(h:SR P E Γ bs B w a st){r s c:Nat}{m:Q Nat}{q:Array Nat}(y:w.heap[r]? =O (.mapIter m s q c))(X:E.w.heap.size<=r)(A:¬aV bs B r){w1:J}(z:w1=w\/w1=w.drew)(o:Obj):SR P E Γ bs B (Go.ChangeMaps.setBlock w1 r o) a st:=by
 let⟨F,_⟩:=h.unown y;obtain⟨H,k2,k3,k4,k5⟩:w1.heap=w.heap/\w1.os=w.os/\w1.tape=w.tape/\w1.output=w.output/\w.drawn<=w1.drawn:=by
  rcases z with rfl|rfl;.exact⟨rfl,rfl,rfl,rfl,l8 _⟩
  .exact⟨rfl,rfl,rfl,rfl,vch _⟩
 have p:∀b,b≠r->(Go.ChangeMaps.setBlock w1 r o).heap[b]? =w.heap[b]?:=λb d=>by show(w1.heap.setIfInBounds r _)[b]? =_;rw[H,vaI (λx=>d x.symm)]
 refine h.world (λb=>b=r) (λb m d S=>⟨m,d,l8 _,λo _=>bE (p b λx=>by rw[x,F]at d;cases d) o⟩) (λb m d=>?_) k2 k3 k4 ?_ (λb _ d=>⟨p b d,rfl⟩) (λb d=>by subst d;exact .inr X) (λi b d e=>A (.inl ⟨i,e▸d⟩)) (λb L R hx=>A (.inr (by rw[<-hx,R];simp))) (DY k5);.let⟨c,t,fr,q1,q2⟩:=h.wi b m d;exact⟨c,t,fr,(p b λx=>by rw[x,F]at d;cases d).trans q1,q2⟩
 .show _<=(w1.heap.setIfInBounds r _).size;rw[H];simp
variable{es:Array MapEntry}{z F r:Nat}{A:V MapEntry}{a:Array D}{ds:V Deferred}{ti d1 d2 e1 e2 kx:Nat}
def qof(h:SR P E Γ bs B w a st)(H:w.heap[r]? =O (.mapIter (O F) z (A.map (·.born)).toArray z))(hm:w.heap[F]? =O (.map es z))(hb:Jy es z)(hr:E.w.heap.size<=r)(hT:¬aV bs B r)
  (a2:st.tmps[ti]? =O (.val (JM r))) (s:Fr st d1) (t:Fr st d2) {ro:Q Nat} {i3:Nat} {c d:M}
  (h1:c.op=.next (.tmp ti) Z) (L:c.dst=O d1) (R:c.guard=N) (h2:d.op=.extract (.tmp d1) 0) (S:d.dst=O d2) (X:d.guard=N):
  MC ro P (.region i3 #[c,d] Z) (λq a' w'=>q=.normal/\a'.defers=ds/\SR P E Γ bs B w' a'.tmps st/\((a'.eval (.tmp d2)=.bool Z/\(leftOf es (A.map (·.born)).toArray).size=0/\w'=w)\/
   (a'.eval (.tmp d2)=.bool T/\∃y∈(leftOf es (A.map (·.born)).toArray).toList,w'.heap[r]? =O (.mapIter (O F) z ((A.map (·.born)).toArray.push y.born) z)/\w'.heap.size=w.heap.size/\∀b,b≠r->w'.heap[b]? =w.heap[b]?))) ⟨a,ds⟩ w:=by
 refine nc (by simp[eD,h1,h2]) (by rintro⟨_,_,hx,_⟩;cases hx) ?_
 show wpOps P #[c,d] _ [0,1] _ w
 have a0:d1<a.size:=by rw[h.sz];exact s.l
 have p:d2<a.size:=by rw[h.sz];exact t.l
 have m:(Act.mk a ds).eval (.tmp ti)=JM r:=by
  have h9:=h.opv ds (.tmp ti);have e9:opv E.GE st.tmps (.tmp ti)=.val (JM r):=by show st.tmps.getD ti .undef=_;rw[vav,a2];rfl
  rw[e9]at h9;generalize (Act.mk a ds).eval (.tmp ti)=u at h9;cases h9;rfl
 have i:∀(l:Array D)(b:K)(w':J),l[0]? =O (.bool b)->(execOp ((Act.mk (a.setIfInBounds d1 (.tuple l)) ds)).eval d).run P w'=.ok (.value (.bool b)) w':=λl b w' hl=>by have:=Gb (ds:=ds) (v:=.tuple l) a0;simp[execOp,h2,this,Instr.extract,hl]
 rcases run_next_at (P:=P) w c.type r F z z _ es z H hm hb.2 (l8 _)with⟨hz,e⟩|⟨y,hy,w1,hw1,e⟩
 .refine da (o:=c) rfl R (v:=.tuple #[.bool Z]) (w':=w) (by simp[execOp,h1,m,e]) ?_
  rw[L,zR]
  refine da (o:=d) rfl X (i _ Z _ rfl) ?_
  rw[S,zR]
  exact⟨rfl,rfl,(h.putU s _).putU t _,.inl ⟨Gb (by simpa using p),hz,rfl⟩⟩
 .refine da (o:=c) rfl R (v:=.tuple #[.bool T,y.key,y.val]) (w':=Go.ChangeMaps.setBlock w1 r (.mapIter (O F) z ((A.map (·.born)).toArray.push y.born) z)) (by simp[execOp,h1,m,e]) ?_
  rw[L,zR]
  refine da (o:=d) rfl X (i _ T _ rfl) ?_
  rw[S,zR]
  have a1:r<w.heap.size:=(vh.1 H).1
  have k1:w1.heap=w.heap:=by rcases hw1 with rfl|rfl<;>rfl
  refine⟨rfl,rfl,(((h.turnIt H hr hT hw1 _).putU s _).putU t _),.inr ⟨Gb (by simpa using p),y,hy,?_,?_,λb hb=>?_⟩⟩
  .show(w1.heap.setIfInBounds r _)[r]? =_
   rw[k1];simp[a1]
  .show(w1.heap.setIfInBounds r _).size=_
   rw[k1];simp
  .show(w1.heap.setIfInBounds r _)[b]? =_
   rw[k1,vaI (λx=>hb x.symm)]
def qla(h:SR P E Γ bs B w a st){y:MapEntry}(a2:w.heap[r]? =O (.mapIter (O F) z ((A.map (·.born)).toArray.push y.born) z))(hm:w.heap[F]? =O (.map es z))(hb:Jy es z)(hy:y∈es.toList)(hk:y.key=.string ⟨(ki y).toArray⟩)
  (a4:st.tmps[ti]? =O (.val (JM r))) (i:Fr st e1) (m:Fr st e2) (a3:bI kx st.own=st.own) (a5:ti≠e1/\e1≠e2) {ro:Q Nat} {i4:Nat} {b c e:M}
  (h1:b.op=.entry (.tmp ti)) (L:b.dst=O e1) (R:b.guard=N) (h2:c.op=.extract (.tmp e1) 0) (S:c.dst=O e2) (X:c.guard=N) (h3:e.op=.assign (.tmp e2)) (a0:e.dst=O kx) (a1:e.guard=N):
  MC ro P (.region i4 #[b,c,e] Z) (λq a' w'=>q=.normal/\a'.defers=ds/\w'=w/\SR P E Γ bs B w a'.tmps {st with tmps:=st.tmps.set kx (.str (ki y))}) ⟨a,ds⟩ w:=by
 refine nc (by simp[eD,h1,h2,h3]) (by rintro⟨_,_,hx,_⟩;cases hx) ?_
 show wpOps P #[b,c,e] _ [0,1,2] _ w
 have t:e1<a.size:=by rw[h.sz];exact i.l
 have x:e2<a.size:=by rw[h.sz];exact m.l
 have s:(Act.mk a ds).eval (.tmp ti)=JM r:=by
  have h9:=h.opv ds (.tmp ti);have e9:opv E.GE st.tmps (.tmp ti)=.val (JM r):=by show st.tmps.getD ti .undef=_;rw[vav,a4];rfl
  rw[e9]at h9;generalize (Act.mk a ds).eval (.tmp ti)=u at h9;cases h9;rfl
 have H:=run_entry_at (P:=P) w r F z _ es z y a2 hm hy hb.1
 refine da (o:=b) rfl R (v:=.tuple #[y.key,y.val]) (w':=w) (by simp[execOp,h1,s,H]) ?_
 rw[L,zR]
 refine da (o:=c) rfl X (v:=y.key) (w':=w) ?_ ?_
 .have:=Gb (ds:=ds) (v:=.tuple #[y.key,y.val]) t
  simp[execOp,h2,this,Instr.extract]
 rw[S,zR]
 refine da (o:=e) rfl a1 (v:=y.key) (w':=w) ?_ ?_
 .have:=Gb (a:=a.setIfInBounds e1 (.tuple #[y.key,y.val])) (ds:=ds) (v:=y.key) (d:=e2) (by simpa using x)
  simp[execOp,h3,this]
 rw[a0,zR]
 refine⟨rfl,rfl,rfl,?_⟩
 have:=((h.putU i (.tuple #[y.key,y.val])).putU m y.key).set (d:=kx) (p:=.str (ki y)) (v:=y.key) (by rw[hk];exact .str _)
 rw[a3]at this
 exact this
end
open Classical in
def qhf{α:Type}{l m:V α}(d:l.Nodup)(b:m.Nodup)(o:∀x∈l,x∈m):∃r,(l++r).Perm m:=by
 refine⟨m.filter λx=>Y (x∉l),(vcl ?_ b).2 λx=>?_⟩;.rw[vbw];refine⟨d,b.filter _,λp e q i a=>?_⟩;subst a;have:=(vaX.1 i).2;simp at this;exact this e
 .simp only[vz,vaX,oy];constructor
  .rintro(h|h);.exact o x h
   .exact h.1
  .intro h;by_cases c:x∈l;.exact .inl c
   .exact .inr ⟨h,c⟩
def wy{σ:Type}(f:aa->σ->Q σ):List aa->σ->Q σ|[],s=>O s|k::l,s=>(f k s).bind λa=>wy f l a
def Vt{σ:Type}{f:aa->σ->Q σ}{k:aa}:∀{l:List aa}{s:σ},wy f (l++[k]) s=(wy f l s).bind λa=>f k a
 |[],s=>by simp[wy]
 |x::l,s=>by simp only[vaT,wy];cases f x s with|none=>rfl|some a=>exact Vt
def Y0{σ:Type}(f:aa->σ->Q σ)(keys:V aa)(s:σ):Prop:=∀l k,(∃r,(l++k::r).Perm keys)->∀b,wy f l s=O b->∃a,f k b=O a
section
variable{P:I}{GE:V (Nat×V U)}{E:qy}{Γ:aS}{bs:bC}{h:Nat->Q kg}{w:J}
variable{es:Array MapEntry}{c d r:Nat}{a:Array D}{ds:V Deferred}{ti d1 d2 e1 e2 kx:Nat}{σ:Type}
def Wu{f:aa->σ->Q σ}{S:σ->az}{s0:σ}{mB:Nat}{c5:W}(b5:w.heap[r]? =O (.mapIter (O d) c #[] c))(hm:w.heap[d]? =O (.map es c))(z:Jy es c)(hr:E.w.heap.size<=r)(ci:¬aV bs h r)(cg:¬aV bs h d)(bc:d≠r)
  (h0:SR P E Γ bs h w a (S s0)) (de:mB≠0) (hl:mB % 1000<=bs.length) (hk:∀y∈es.toList,y.key=.string ⟨(ki y).toArray⟩)
  (bi:∀s,(S s).tmps[ti]? =O (.val (JM r))) (cs:∀s,Fr (S s) d1) (cv:∀s,Fr (S s) d2) (d3:∀s,Fr (S s) e1) (d4:∀s,Fr (S s) e2) (d6:∀s,bI kx (S s).own=(S s).own) (dk:ti≠e1/\e1≠e2)
  (hf:Y0 f (es.toList.map ki) s0) (hB:∀s k s',f k s=O s'->dz P E.GE mB c5 (EX .normal (S s')) {S s with tmps:=(S s).tmps.set kx (.str k)})
  {ro:Q Nat} {i3 i4 b0 b1:Nat} {o10 o11 o12 o13 o4:M}
  (h1:o10.op=.next (.tmp ti) Z) (bt:o10.dst=O d1) (c0:o10.guard=N) (h2:o11.op=.extract (.tmp d1) 0) (c1:o11.dst=O d2) (c2:o11.guard=N)
  (h3:o12.op=.entry (.tmp ti)) (c3:o12.dst=O e1) (c4:o12.guard=N) (h4:o13.op=.extract (.tmp e1) 0) (c6:o13.dst=O e2) (c7:o13.guard=N) (h5:o4.op=.assign (.tmp e2)) (c8:o4.dst=O kx) (c9:o4.guard=N):
  MC ro P (.loop (.seq (.region i3 #[o10,o11] Z) (.seq (.cond (.tmp d2) .skip (.exit b0)) (.block b1 (.seq (.region i4 #[o12,o13,o4] Z) c5)))))
   (λq a' R=>q=.exit b0/\a'.defers=ds/\∃(l:V aa)(s:σ)(L:aS)(t:bC)(ow':Nat->Q kg),l.Perm (es.toList.map ki)/\wy f l s0=O s/\SR P E L t ow' R a'.tmps (S s)/\(∀i:Nat,i<mB % 1000->t[i]? =bs[i]?)/\Γ.Le w L R/\w.heap.size<=R.heap.size/\
    ∀b,b<w.heap.size->b≠r->¬aV bs h b->R.heap[b]? =w.heap[b]?/\¬aV t ow' b) ⟨a,ds⟩ w:=by
 refine BU (λk a' R=>a'.defers=ds/\∃(m:V MapEntry)(s:σ)(L:aS)(t:bC)(ow':Nat->Q kg),qrN es m/\m.length+k=es.size+1/\wy f (m.map ki) s0=O s/\SR P E L t ow' R a'.tmps (S s)/\R.heap[r]? =O (.mapIter (O d) c (m.map (·.born)).toArray c)/\
  (∀i:Nat,i<mB % 1000->t[i]? =bs[i]?)/\Γ.Le w L R/\w.heap.size<=R.heap.size/\¬aV t ow' r/\∀b,b<w.heap.size->b≠r->¬aV bs h b->R.heap[b]? =w.heap[b]?/\¬aV t ow' b) (es.size+1)
  ⟨rfl,[],s0,Γ,bs,h,⟨by simp,by simp⟩,by simp,rfl,h0,b5,λ_ _=>rfl,.refl _ _,l8 _,ci,λb _ _ z=>⟨rfl,z⟩⟩ ?_
 rintro k ⟨a1,bn⟩ w1 ⟨hd,m,s,e4,bs1,e0,hv,e7,a8,hS,a5,A,a6,bg,a0,a9⟩
 simp only at hd;subst hd
 have ar:d<w.heap.size:=(vh.1 hm).1
 have ea:r<w.heap.size:=(vh.1 b5).1
 let⟨ab,e6⟩:=a9 d ar bc cg
 rw[hm]at ab
 refine xQ (gD (qof (ds:=bn) hS a5 ab z hr a0 (bi s) (cs s) (cv s) h1 bt c0 h2 c1 c2) λq a2 w2 hq=>?_)
 obtain⟨rfl,B,a7,hc⟩:=hq
 show MC ro P (.seq _ _) _ a2 w2
 rcases hc with⟨d5,hz,rfl⟩|⟨ht,y,hy,hit2,hsz2,hoth⟩
 .refine xQ (KM d5 (λX=>by cases X) λ_=>Ve ?_)
  exact⟨rfl,B,m.map ki,s,e4,bs1,e0,(Yh z hv hz).map ki,a8,a7,A,a6,bg,a9⟩
 .let⟨an,dx⟩:=qbG hy
  refine xQ (KM ht (λ_=>Vf ?_) λX=>by cases X)
  show MC ro P (.block b1 _) _ a2 w2
  have dd:w2.heap[d]? =O (.map es c):=(hoth d bc).trans ab
  let⟨a2,bq⟩:=a2
  simp only at B a7;subst B
  refine L5 (xQ (gD (qla (ds:=bq) a7 hit2 dd z an (hk y an) (bi s) (d3 s) (d4 s) (d6 s) dk h3 c3 c4 h4 c6 c7 h5 c8 c9) λq a3 w3 hq=>?_))
  obtain⟨rfl,b4,rfl,ao⟩:=hq
  show MC ro P c5 _ a3 w3
  let⟨a3,br⟩:=a3
  simp only at b4 ao;subst b4
  have ad:((m++[y]).map (·.born)).Nodup:=by rw[va5,vbw];exact⟨hv.nd,by simp,λp hp q hq dl=>by simp at hq;subst hq;subst dl;exact dx hp⟩
  have H:∀x∈m++[y],x∈es.toList:=λx X=>by
   rcases vz.1 X with X|X;.exact hv.sub x X
   .rw[va1.1 X];exact an
  have e9:m.length<es.size:=by have:=(nk _ ad).length_le_of_subset H;simp at this;omega
  let⟨bl,F⟩:=qhf (nk _ ad) (nk _ z.1) H
  rw[<-List.append_cons]at F
  let⟨s',be⟩:=hf (m.map ki) (ki y) ⟨bl.map ki,by have:=F.map ki;simpa using this⟩ s a8
  have cn:mB % 1000<=bs1.length:=by
   by_cases h0:mB % 1000=0;.omega
   .have:=A (mB % 1000 - 1) (by omega);have he:bs[mB % 1000 - 1]? =O bs[mB % 1000 - 1]:=m3 (by omega);rw[he]at this;have:=aq this;omega
  refine gD (dz.on (hB s (ki y) s' be) de ao cn ro br) λq a4 w4 hq=>?_
  obtain⟨d0,e5,bm,e3,eb,cd,⟨rfl,rfl⟩,b3,bb,e8,b7⟩:=hq
  have dt:r<w3.heap.size:=(vh.1 hit2).1
  let⟨kr,tr⟩:=b7 r dt a0
  show ∃n',n'<k/\_
  refine⟨k - 1,by omega,d0,m++[y],s',e5,bm,e3,⟨H,ad⟩,by simp;omega,?_,cd,?_,λi hi=>(b3 i hi).trans (A i hi),?_,by omega,tr,λb z b2 hT=>?_⟩
  .rw[va5,List.map_singleton,Vt,a8];exact be
  .rw[kr,hit2];simp
  .refine a6.trans (aS.Le.trans (λb n z hn=>⟨n,z,l8 _,λo _=>bE (hoth b ?_) o⟩) bb)
   intro e;subst e
   let⟨hg,_⟩:=hS.unown a5
   rw[hg]at z;cases z
  .let⟨q1,q2⟩:=a9 b z b2 hT
   let⟨q3,q4⟩:=b7 b (by omega) q2
   exact⟨q3.trans ((hoth b b2).trans q1),q4⟩
end
end Go.Proofs.YtankopenjcbeeaaGreatDoor
