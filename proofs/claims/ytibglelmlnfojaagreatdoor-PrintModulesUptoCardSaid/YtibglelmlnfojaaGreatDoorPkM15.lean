/- PROVED: a part of the proof. Conditions: none. -/
import Derived.Test.YtibglelmlnfojaaGreatDoorPkM14
set_option linter.unusedSimpArgs false set_option linter.defProp false
set_option linter.unusedVariables false
noncomputable section
namespace Go.Proofs.YtibglelmlnfojaaGreatDoor
open Go Go.Proofs.Tryz
open Option renaming some→O,none→N
open Go renaming TypeId→G,Value→D,Program→I,Oper→M,World→J,Code→W
open Bool renaming true→T,false→Z
open Decidable renaming decide→Y
open Go.Proofs.YtibglelmlnfojaaGreatDoor renaming PVal→U
set_option linter.unusedVariables false
set_option linter.defProp false
set_option maxRecDepth 100000
noncomputable def qw6:W:=f38.body.getD .skip
def qw1:ZF Pg [] 38 f38 qw6:=zf call38 func38 rfl mixed
section
variable(d:d5)(a:K)(m:V Int)(m2:K)
def tp:Q (V Int×K):=if(d.Mode==0)then (aa ([Wk]:V ae) m m2).bind λb=>O (b,m2) else if(d.Mode==2)then (aa ([Et]:V ae) m m2).bind λc=>O (c,m2) else if(d.Mode==1)then (aa ([Iv]:V ae) m m2).bind λe=>O (e,m2) else O (m,T)
def Mn:OJ 1 (cA qw6 14) (tp d m m2) .normal (λo=>aM 75 [(0,.bptr 0 0),(3,.eptr (aV d)),(4,.bool a)] [cw 0 o.1 o.2,.dead] []) (aM 75 [(0,.bptr 0 0),(3,.eptr (aV d)),(4,.bool a)] [cw 0 m m2,.dead] []):=qw1.j<|tw (eU d)<|tF (tb λh b=>tv (aP [Wk] 1 rfl)<|tc [0] (af _ b)<|tE)<|tF (tb λi c=>tv (aP [Et] 1 rfl)<|tc [0] (af _ c)<|tE)<|tF (tb λn e=>tv (aP [Iv] 1 rfl)<|tc [0] (af _ e)<|tE)<|ts<|tE
end
section
variable(d:d5)(a:K)(m:V Int)(m2:K)
def tq:Q K:=if(d.Mode !=0)then if(!d.Typed)then O T else if a then (Ii d.Body (⟨0,[],0,[],[],[],[]⟩:aj)).bind λb=>O (!b) else O Z else if a then (Ii d.Body (⟨0,[],0,[],[],[],[]⟩:aj)).bind λc=>O (!c) else O Z
def Mo:OU 1 (cA qw6 60) (tq d a) .normal (λo=>[(45,.bool o)]) (aM 75 [(0,.bptr 0 0),(3,.eptr (aV d)),(4,.bool a)] [cw 0 m m2,.dead] []):=qw1.j<|
 have s:=λ{X y z} (r:PV _ X y z)=>tw (eU d)<|r;tf (λt=>have b:=λ{X y z} (r:PV _ X y z)=>s<|tg 4 t<|tw (pY d)<|r;tf (λh=>b<|tg 9 h<|tE) λh=>have c:=λ{X y z} (r:PV _ X y z)=>b<|tg 9 h<|r;tf (λi=>tb λw p=>c<|tg 11 i<|tw (i7 d)<|Yv (LM) (LL)<|bQ (QJ _ p)<|tE) λi=>c<|tg 11 i<|tE) λt=>have e:=λ{X y z} (r:PV _ X y z)=>s<|tg 4 t<|r;tf (λn=>tb λx q=>e<|tg 11 n<|tw (i7 d)<|Yv (LM) (LL)<|bQ (QJ _ q)<|tE) λn=>e<|tg 11 n<|tE
end
section
variable(d:d5)(a:K)(m:V Int)(m2:K)
def jB:Q (V Int×K):=if d.Typed then (aa ([bm]:V ae) m m2).bind λc=>(rX d.Sig c m2).bind λb=>O (b.1,b.2) else O (m,m2)
def Mp:OJ 1 (cA qw6 254) (jB d m m2) .normal (λo=>aM 75 [(0,.bptr 0 0),(3,.eptr (aV d)),(4,.bool a)] [cw 0 o.1 o.2,.dead] []) (aM 75 [(0,.bptr 0 0),(3,.eptr (aV d)),(4,.bool a)] [cw 0 m m2,.dead] []):=qw1.j<|tw (pY d)<|tF (tb λe b=>tb λh c=>tv (aP [bm] 1 rfl)<|tc [0] (af _ b)<|tw (Fw d)<|tc [0] (RY _ c)<|tE)<|tE
end
def jY(d:d5)(o:V Int)(h:K):Q (V Int×K):=(tp d o h).bind λm=>(tq d (d.Mode==1)).bind λi=>if i then O (m.1,T) else (aW d.Name m.1 m.2).bind λb=>(eL d.Params b.2 b.1).bind λc=>(jB d c.1 c.2).bind λa=>if(!(d.Mode==1))then (aa ([ed]:V ae) a.1 a.2).bind λn=>(im d.Body n a.2).bind λe=>O (e.2,e.1) else O (a.1,a.2)
def tt{d:d5}{p:V Int}{a:K}:OG 38 [.bptr 0 0,.agg (aV d)] [] [cw 0 p a] (jY d p a) (λr=>.tuple []) [] (λr=>[cw 0 r.1 r.2]):=qw1.g 1<|tb λq o=>tb λs b=>te (Re d)<|tw (eU d)<|ey 0<|bJ (Mn d (d.Mode==1) p a _ o)<|ey 1<|bJ (Mo d (d.Mode==1) q.1 q.2 _ b)<|tF (ts<|tE)<|tb λw e=>tb λn h=>tb λt c=>tw (JR d)<|tc [0] (bD _ e)<|tw (pX d)<|tc [0] (pz _ h)<|ey 0<|bJ (Mp d (d.Mode==1) n.1 n.2 _ c)<|tF (tb λx i=>tb λy m=>tv (aP [ed] 1 rfl)<|tc [0] (af _ i)<|tw (i7 d)<|tc [0] (zg _ m)<|tE)<|tE
noncomputable def qCr:W:=f82.body.getD .skip
def qBR:ZF Pg [] 82 f82 qCr:=zf call82 func82 rfl mixed
def tD(a:V Int)(b:K):Q Int:=O (a.length:Int)
def MI{b:V Int}{a:K}:OG 82 [.bptr 0 0] [] [cw 0 b a] (tD b a) (λr=>.i6 r) [] (λr=>[cw 0 b a]):=qBR.g 1<|ts<|bz (qt7.ln b)<|tE
noncomputable def qB9:W:=f39.body.getD .skip
def qBz:ZF Pg [] 39 f39 qB9:=zf call39 func39 rfl mixed
def lA(b:V Int)(a:K):Q (ae×Int):=if a then O (([]:ae),6) else (tD b a).bind λc=>if Y (c>40000)then O (([]:ae),7) else (QW b a).bind λd=>O (d,0)
def BG{d:V Int}{a:K}:OG 39 [.bptr 0 0] [] [cw 0 d a] (lA d a) (λr=>.tuple [.str r.1,.i6 r.2]) [] (λr=>[.cells [.nptr 0 76,sl (cI .u8) d,.bool a] []]):=qBz.g 1<|ts<|tF tE<|tb λe b=>tc [0] (MI _ b)<|tF tE<|tb λh c=>tc [0] (UM c)<|tE
noncomputable def qB0:W:=f17.body.getD .skip
def qBq:ZF Pg [] 17 f17 qB0:=zf call17 func17 rfl mixed
def Kd(d:d5):Q (ae×Int):=(jY d ([]:V Int) Z).bind λa=>(lA a.1 a.2).bind λb=>O (b.1,b.2)
def VK{d:d5}:OV 17 [.agg (aV d)] (Kd d) (λr=>.tuple [.str r.1,.i6 r.2]) []:=qBq.v<|
 tb λc a=>tb λe b=>te (Re d)<|Yv (show df Pg 76 []=O (.agg [.val (.pointer N),sl (cI .u8) ([]:V Int),.bool Z]) by kernel_rfl) (show Ce Pg 76 [] [(1,5)]from⟨[.val (.pointer N),.val fG,.bool Z],by kernel_rfl,(aI rfl md)⟩)<|ty (qxe [.val (.pointer N),sl (cI .u8) ([]:V Int),.bool Z])<|tv (Ao d)<|tc [1] (tt _ a)<|tc [1] (BG _ b)<|tE
noncomputable def qCk:W:=f71.body.getD .skip
def qBK:ZF Pg [] 71 f71 qCk:=zf call71 func71 rfl mixed
def tn(k:Int)(h:V Int)(a:K)(o:ae)(b:waA)(c:oy):Q (V Int×K):=(bY b k).bind λm=>(aW m h a).bind λd=>(aa ([bm]:V ae) d.2 d.1).bind λi=>(bY c k).bind λn=>(cV n i d.1).bind λe=>O (e.2,e.1)
def Ml{k:Int}{o:V Int}{c:K}{n:ae}{a:waA}{b:oy}:OG 71 [.i6 k,.bptr 0 0,.bptr 2 0] [] [.cells [.bptr 1 0] [],cw 1 o c,.cells [.str n,sl cS a,sl al b] []] (tn k o c n a b) (λr=>.tuple []) [] (λr=>[.cells [.bptr 1 0] [],cw 1 r.1 r.2,.cells [.str n,sl cS a,sl al b] []]):=qBK.g 3<|tb λp i=>tb λs d=>tb λt e=>tb λq m=>tb λw h=>tk<|MO (.dx [0,0,2,0,14,30] [] [] [])<|ts<|ts<|tv (dX.ia i)<|tv (dz ZC (.str p) [])<|tc [1] (bD _ d)<|ts<|tv (aP [bm] 1 rfl)<|tc [1] (af _ e)<|tk<|MO (.dx [0,0,2,0,14,30] [] [] [])<|ts<|ts<|tv (cQ.ia m)<|tv (cc q)<|tc [1] (dS _ h)<|tE
section
variable(i d:Int)(m:V Int)(m2:K)(a:ae)(b:waA)(c:oy)
def su:Q (V Int):=if Y (i>0)then (aa ([ch]:V ae) m m2).bind λe=>O e else O m
def Cl:OJ 3 (cA Ze 1014) (su i m m2) .normal (λo=>aM 20 [(0,.bptr 0 0),(2,.func (.func 71) [] [.bptr 1 0,.bptr 2 0]),(6,.i6 i),(7,.i6 d),(8,.i6 i)] [cw 0 o m2,.cells [.bptr 0 0] [],.cells [.str a,sl cS b,sl al c] []] []) (aM 20 [(0,.bptr 0 0),(2,.func (.func 71) [] [.bptr 1 0,.bptr 2 0]),(6,.i6 i),(7,.i6 d),(8,.i6 i)] [cw 0 m m2,.cells [.bptr 0 0] [],.cells [.str a,sl cS b,sl al c] []] []):=Ok.j<|tF (tb λh e=>tv (aP [ch] 1 rfl)<|tc [0] (af _ e)<|tE)<|tE
end
section
variable(e:Int)(a:ae)(b:waA)(c:oy)(d:Int)(m:V Int)(m2:K)
def qa:aF:=aM 20 [(0,.bptr 0 0),(2,.func (.func 71) [] [.bptr 1 0,.bptr 2 0]),(7,.i6 e),(8,.i6 d)] [cw 0 m m2,.cells [.bptr 0 0] [],.cells [.str a,sl cS b,sl al c] []] []
def DX(o:V Int×K):aF:=aM 20 [] [cw 0 o.1 o.2,.cells [.bptr 0 0] [],.cells [.str a,sl cS b,sl al c] []] []
def qb:Q ((Int×V Int×K)⊕(V Int×K)):=if Y (d<e)then (su d m m2).bind λi=>(tn d i m2 a b c).bind λh=>O (.inl (cz (d+1),h.1,h.2)) else O (.inr (m,m2))
def sw:Q (V Int×K):=loop (λ(h:Int×V Int×K)=>qb e a b c h.1 h.2.1 h.2.2) (d,m,m2)
def BD:OL 3 (cA Ze 15) (qb e a b c d m m2) (λ(n:Int×V Int×K)=>qa e a b c n.1 n.2.1 n.2.2) (λ_=>.exit 0) (DX a b c) (qa e a b c d m m2):=Ok.l<|tF (tb λo h=>tb λp i=>ey 2<|bJ (Cl d e m m2 a b c _ h)<|tc [1,0,2] (Ml _ i)<|tE)<|tE
def Cm:=nu (s:=(d,m,m2)) λh=>BD e a b c h.1 h.2.1 h.2.2
end
def d8(n:Int)(e:V Int)(a:K)(h:ae)(b:waA)(c:oy):Q (V Int×K):=(sw n h b c 0 e a).bind λd=>O (d.1,d.2)
def GT{n:Int}{h:V Int}{c:K}{d:ae}{a:waA}{b:oy}:OG 70 [.bptr 0 0,.i6 n,.func (.func 71) [] [.bptr 1 0,.bptr 2 0]] [] [cw 0 h c,.cells [.bptr 0 0] [],.cells [.str d,sl cS a,sl al b] []] (d8 n h c d a b) (λr=>.tuple []) [] (λr=>[cw 0 r.1 r.2,.cells [.bptr 0 0] [],.cells [.str d,sl cS a,sl al b] []]):=Ok.g 3<|tb λi e=>bJ (Cm n d a b 0 h c _ e)<|tE
noncomputable def qtt:W:=f32.body.getD .skip
def qut:ZF Pg [64] 32 f32 qtt:=zf call32 func32 rfl mixed
section
variable(d:jE)(b:waA)(c a:Int)(m:V Int)(m2:K)
def xI:aF:=aM 103 [(2,.bptr 1 0),(3,.eptr (cq d)),(16,sl cS b),(17,.i6 c),(18,.i6 a)] [cw 0 m m2,.cells [.bptr 0 0] [],.dead] []
def Mm(o:V Int×K):aF:=aM 103 [(2,.bptr 1 0),(3,.eptr (cq d))] [cw 0 o.1 o.2,.cells [.bptr 0 0] [],.dead] []
def xJ:Q ((Int×V Int×K)⊕(V Int×K)):=if Y (a<c)then (bY b a).bind λi=>(aa ([bZ]:V ae) m m2).bind λh=>(aW i h m2).bind λe=>O (.inl (cz (a+1),e.2,e.1)) else O (.inr (m,m2))
def iK:Q (V Int×K):=loop (λ(e:Int×V Int×K)=>xJ b c e.1 e.2.1 e.2.2) (a,m,m2)
def Jd:OL 1 (cA qtt 247) (xJ b c a m m2) (λ(n:Int×V Int×K)=>xI d b c n.1 n.2.1 n.2.2) (λ_=>.exit 0) (Mm d) (xI d b c a m m2):=qut.l<|tF (tb λo i=>tb λp e=>tb λq h=>tv (dX.ia i)<|tv (dz ZC (.str o) [])<|ts<|tv (aP [bZ] 1 rfl)<|tc [0] (af _ e)<|ts<|tc [0] (bD _ h)<|tE)<|tE
def Kk:=nu (s:=(a,m,m2)) λe=>Jd d b c e.1 e.2.1 e.2.2
end
section
variable(d:jE)(m:V Int)(m2:K)
def gf:Q (V Int×K):=if Y ((d.Preds.length:Int)>0)then (aa ([yr]:V ae) m m2).bind λc=>(eX d.Preds Z c m2).bind λa=>(aa ([Wj]:V ae) a.1 a.2).bind λb=>O (b,a.2) else O (m,m2)
def Kh:OJ 1 (cA qtt 62) (gf d m m2) .normal (λo=>aM 103 [(2,.bptr 1 0),(3,.eptr (cq d))] [cw 0 o.1 o.2,.cells [.bptr 0 0] [],.dead] []) (aM 103 [(2,.bptr 1 0),(3,.eptr (cq d))] [cw 0 m m2,.cells [.bptr 0 0] [],.dead] []):=qut.j<|tw (nY d)<|bz (R7.ln d.Preds)<|tF (tb λi c=>tb λe a=>tb λh b=>ts<|tv (aP [yr] 1 rfl)<|tc [0] (af _ c)<|ts<|tw (nY d)<|tc [0] (rB _ a)<|ts<|tv (aP [Wj] 1 rfl)<|tc [0] (af _ b)<|tE)<|tE
end
section
variable(d:jE)(m:V Int)(m2:K)
def iJ:Q K:=if m2 then O T else O ((d.Cons.length:Int)==0)
def Ki:OJ 1 (cA qtt 254) (iJ d m2) .normal (λo=>aM 103 [(2,.bptr 1 0),(3,.eptr (cq d))] [cw 0 m o,.cells [.bptr 0 0] [],.dead] []) (aM 103 [(2,.bptr 1 0),(3,.eptr (cq d))] [cw 0 m m2,.cells [.bptr 0 0] [],.dead] []):=qut.j<|tf (λa=>qc1 [0,0,2,6,14,30,62,126,254,510,1022,2047,4095,8191]<|ts<|ts<|ts<|tg 6 a<|quB (rfl:bH (.bool T)=O [.bool T])<|tE) λa=>qc1 [0,0,2,6,14,30,62,126,254,510,1022,2047,4095,8191]<|ts<|ts<|ts<|tg 6 a<|tw (nZ d)<|bz (qmV.ln d.Cons)<|quB (rfl:bH (.bool ((d.Cons.length:Int)==0))=O [.bool ((d.Cons.length:Int)==0)])<|tE
end
section
variable(i:Int)(a:V tH)(b:Int)(m:V Int)(m2:K)(c:ae)(d:waA)(e:oy)
def lz:Q (V Int):=if Y (i>0)then (aa ([gX]:V ae) m m2).bind λh=>O h else O m
def Kj:OJ 1 (cA qtt 131062) (lz i m m2) .normal (λo=>aM 103 [(2,.bptr 1 0),(7,.bptr 3 0),(60,sl ef a),(61,.i6 b),(62,.i6 i)] [cw 0 o m2,.cells [.bptr 0 0] [],.dead,.cells [.str c,sl cS d,sl al e] []] []) (aM 103 [(2,.bptr 1 0),(6,.i6 i),(7,.bptr 3 0),(60,sl ef a),(61,.i6 b),(62,.i6 i)] [cw 0 m m2,.cells [.bptr 0 0] [],.dead,.cells [.str c,sl cS d,sl al e] []] []):=qut.j<|tF (tb λn h=>ts<|tv (aP [gX] 1 rfl)<|tc [0] (af _ h)<|tE)<|tE
end
section
variable(b:V tH)(c a:Int)(m:V Int)(m2:K)
def jL:aF:=aM 103 [(2,.bptr 1 0),(60,sl ef b),(61,.i6 c),(62,.i6 a)] [cw 0 m m2,.cells [.bptr 0 0] [],.dead] []
def xK(o:List Int⊕(List Int×K)):Exit:=match o with|(.inl _)=>.ret|(.inr _)=>.exit 2
def og(o:List Int⊕(List Int×K)):aF:=match o with|(.inl o)=>aM 103 [] [cw 0 o T,.dead,.dead] []|(.inr o)=>aM 103 [] [cw 0 o.1 o.2,.dead,.dead] []
instance qDz:KS 1 (jL b c a m m2):=ks 3 rfl
instance qDy{o:List Int⊕(List Int×Bool)}:KS 1 (og o):=match o with|(.inl o)=>ks 3 rfl|(.inr o)=>ks 3 rfl
def d9:Q ((Int×V Int×K)⊕(V Int⊕(V Int×K))):=if Y (a<c)then (bY b a).bind λd=>(lz a m m2).bind λi=>(bw d.Name i m2).bind λe=>if((d.Names.length:Int)!=(d.Fields.length:Int))then O (.inr (.inl e.2)) else if((d.Fields.length:Int)==0)then O (.inl (cz (a+1),e.2,e.1)) else (aa ([fw]:V ae) e.2 e.1).bind λn=>(d8 (d.Fields.length:Int) n e.1 d.Name d.Names d.Fields).bind λh=>(aa ([dM]:V ae) h.1 h.2).bind λo=>O (.inl (cz (a+1),o,h.2)) else O (.inr (.inr (m,m2)))
def BF:Q (V Int⊕(V Int×K)):=loop (λ(d:Int×V Int×K)=>d9 b c d.1 d.2.1 d.2.2) (a,m,m2)
def Je:OL 1 (cA qtt 2047) (d9 b c a m m2) (λ(q:Int×V Int×K)=>jL b c q.1 q.2.1 q.2.2) xK og (jL b c a m m2):=qut.lx<|tF (tb λd p=>tb λr e=>tb λs h=>tv (qmV.ia p)<|tv (qkN d)<|tx qss<|tx (qiF d)<|ey 0<|bJ (Kj a b c m m2 d.Name d.Names d.Fields _ e)<|ts<|ts<|tc [0] (du _ h)<|ts<|bz (dX.ln d.Names)<|ts<|bz (cQ.ln d.Fields)<|tF (ts<|ts<|tE)<|ts<|bz (cQ.ln d.Fields)<|tF tE<|tb λt i=>tb λw n=>tb λx o=>ts<|tv (aP [fw] 1 rfl)<|tc [0] (af _ i)<|ts<|ts<|bz (cQ.ln d.Fields)<|tc [0,1,3] (GT _ n)<|ts<|tv (aP [dM] 1 rfl)<|tc [0] (af _ o)<|tE)<|tE
def wh:OK 1 (.loop (cA qtt 2047)) (BF b c a m m2) xK og (jL b c a m m2):=Bz λ_=>Je _ _ _ _ _
end
def ly(d:jE)(n:List Int)(c:K):Q (List Int×K):=(aa ([Aa]:List ae) n c).bind λo=>(bw d.Name o c).bind λm=>(iK d.Vars (d.Vars.length:Int) 0 m.2 m.1).bind λi=>(gf d i.1 i.2).bind λb=>(aa ([ed]:List ae) b.1 b.2).bind λh=>(iJ d b.2).bind λe=>(BF d.Cons (d.Cons.length:Int) 0 h e).bind λa=>match a with|(.inl a)=>O (a,T)|(.inr a)=>O (a.1,a.2)
def Qz{d:jE}{t:V Int}{i:K}:OG 32 [.bptr 0 0,.agg (cq d)] [] [cw 0 t i] (ly d t i) (λr=>.tuple []) [] (λr=>[cw 0 r.1 r.2]):=qut.g 1<|tb λy o=>tb λx p=>tb λw n=>tb λq c=>tb λb h=>tb λm e=>qls (rfl:bH (.bptr 0 0)=O [.bptr 0 0]) rfl<|te (qiD d)<|ts<|tv (aP [Aa] 1 rfl)<|tc [0] (af _ o)<|ts<|tw (HJ d)<|tc [0] (du _ p)<|tw (Fv d)<|bz (dX.ln d.Vars)<|bJ (Kk d d.Vars (d.Vars.length:Int) 0 x.2 x.1 _ n)<|ey 0<|bJ (Kh d w.1 w.2 _ c)<|ts<|tv (aP [ed] 1 rfl)<|tc [0] (af _ h)<|ey 0<|bJ (Ki d b q.2 _ e)<|tw (nZ d)<|bz (qmV.ln d.Cons)<|t2 (λs a=>bJ (wh d.Cons (d.Cons.length:Int) 0 b m _ a)<|tE) λs a=>bJ (wh d.Cons (d.Cons.length:Int) 0 b m _ a)<|tE
noncomputable def qCm:W:=f73.body.getD .skip
def qBM:ZF Pg [] 73 f73 qCm:=zf call73 func73 rfl mixed
def qY(i:Int)(a:fI)(e:V Int)(b:K):Q (V Int×K):=(bY a.Methods i).bind λm=>(aW m.Name e b).bind λc=>(aa ([bm]:V ae) c.2 c.1).bind λh=>(bY a.Methods i).bind λn=>(cV n.Type_ h c.1).bind λd=>O (d.2,d.1)
def Kg{i:Int}{a:fI}{n:V Int}{b:K}:OG 73 [.i6 i,.bptr 0 0,.eptr (ce a)] [] [.cells [.bptr 1 0] [],cw 1 n b] (qY i a n b) (λr=>.tuple []) [] (λr=>[.cells [.bptr 1 0] [],cw 1 r.1 r.2]):=qBM.g 2<|tb λo h=>tb λq c=>tb λs d=>tb λp m=>tb λt e=>tk<|MO (.dx [0,0,2,0,14,30,62] [] [] [])<|ts<|tw (gO a)<|tv (qj5.ia h)<|tw (Qb o)<|tc [1] (bD _ c)<|ts<|tv (aP [bm] 1 rfl)<|tc [1] (af _ d)<|tk<|MO (.dx [0,0,2,0,14,30,62] [] [] [])<|ts<|tw (gO a)<|tv (qj5.ia m)<|tw (N9 p)<|tc [1] (dS _ e)<|tE
section
variable(v:fI)(i a:Int)(m:V Int)(m2:K)
def sy:Q (V Int):=if Y (i>0)then (aa ([ch]:V ae) m m2).bind λb=>O b else O m
def Cn:OJ 2 (cA Ze 1014) (sy i m m2) .normal (λo=>aM 20 [(0,.bptr 0 0),(2,.func (.func 73) [] [.bptr 1 0,.eptr (ce v)]),(6,.i6 i),(7,.i6 a),(8,.i6 i)] [cw 0 o m2,.cells [.bptr 0 0] []] []) (aM 20 [(0,.bptr 0 0),(2,.func (.func 73) [] [.bptr 1 0,.eptr (ce v)]),(6,.i6 i),(7,.i6 a),(8,.i6 i)] [cw 0 m m2,.cells [.bptr 0 0] []] []):=Ok.j<|tF (tb λc b=>tv (aP [ch] 1 rfl)<|tc [0] (af _ b)<|tE)<|tE
end
section
variable(v:fI)(b a:Int)(m:V Int)(m2:K)
def qc:aF:=aM 20 [(0,.bptr 0 0),(2,.func (.func 73) [] [.bptr 1 0,.eptr (ce v)]),(7,.i6 b),(8,.i6 a)] [cw 0 m m2,.cells [.bptr 0 0] []] []
def DY(o:V Int×K):aF:=aM 20 [] [cw 0 o.1 o.2,.cells [.bptr 0 0] []] []
def qd:Q ((Int×V Int×K)⊕(V Int×K)):=if Y (a<b)then (sy a m m2).bind λd=>(qY a v d m2).bind λc=>O (.inl (cz (a+1),c.1,c.2)) else O (.inr (m,m2))
def sA:Q (V Int×K):=loop (λ(c:Int×V Int×K)=>qd v b c.1 c.2.1 c.2.2) (a,m,m2)
def BE:OL 2 (cA Ze 15) (qd v b a m m2) (λ(e:Int×V Int×K)=>qc v b e.1 e.2.1 e.2.2) (λ_=>.exit 0) DY (qc v b a m m2):=Ok.l<|tF (tb λh c=>tb λi d=>ey 2<|bJ (Cn v a b m m2 _ c)<|tc [1,0] (Kg _ d)<|tE)<|tE
def Co:=nu (s:=(a,m,m2)) λc=>BE v b c.1 c.2.1 c.2.2
end
def jK(n:Int)(c:fI)(d:V Int)(a:K):Q (V Int×K):=(sA c n 0 d a).bind λb=>O (b.1,b.2)
def GU{n:Int}{c:fI}{d:V Int}{a:K}:OG 70 [.bptr 0 0,.i6 n,.func (.func 73) [] [.bptr 1 0,.eptr (ce c)]] [] [cw 0 d a,.cells [.bptr 0 0] []] (jK n c d a) (λr=>.tuple []) [] (λr=>[cw 0 r.1 r.2,.cells [.bptr 0 0] []]):=Ok.g 2<|tb λe b=>bJ (Co c n 0 d a _ b)<|tE
noncomputable def qAG:W:=f34.body.getD .skip
def qAl:ZF Pg [] 34 f34 qAG:=zf call34 func34 rfl mixed
section
variable(c:fI)(m:V Int)(m2:K)
def hO:Q K:=if m2 then O T else O ((c.Methods.length:Int)==0)
def I3:OJ 1 (cA qAG 254) (hO c m2) .normal (λo=>aM 40 [(2,.bptr 1 0),(3,.eptr (ce c))] [cw 0 m o,.cells [.bptr 0 0] [],.dead] []) (aM 40 [(2,.bptr 1 0),(3,.eptr (ce c))] [cw 0 m m2,.cells [.bptr 0 0] [],.dead] []):=qAl.j<|tf (λa=>qc1 [0,0,2,6,14,30,62,126,254,510,1022,2047,4095,8191]<|ts<|ts<|ts<|tg 6 a<|quB (rfl:bH (.bool T)=O [.bool T])<|tE) λa=>qc1 [0,0,2,6,14,30,62,126,254,510,1022,2047,4095,8191]<|ts<|ts<|ts<|tg 6 a<|tw (gO c)<|bz (qj5.ln c.Methods)<|quB (rfl:bH (.bool ((c.Methods.length:Int)==0))=O [.bool ((c.Methods.length:Int)==0)])<|tE
end
def kb(c:fI)(h:V Int)(a:K):Q (V Int×K):=(aa ([oq]:V ae) h a).bind λm=>(bw c.Name m a).bind λb=>(aa ([bZ]:V ae) b.2 b.1).bind λn=>(aW c.Var n b.1).bind λd=>(aa ([jO]:V ae) d.2 d.1).bind λo=>(hO c d.1).bind λi=>(jK (c.Methods.length:Int) c o i).bind λe=>O (e.1,e.2)
def Od{c:fI}{o:V Int}{a:K}:OG 34 [.bptr 0 0,.agg (ce c)] [] [cw 0 o a] (kb c o a) (λr=>.tuple []) [] (λr=>[cw 0 r.1 r.2]):=qAl.g 1<|tb λt d=>tb λw e=>tb λx h=>tb λp i=>tb λq m=>tb λs b=>tb λy n=>qls (rfl:bH (.bptr 0 0)=O [.bptr 0 0]) rfl<|te (qeE c)<|ts<|tv (aP [oq] 1 rfl)<|tc [0] (af _ d)<|ts<|tw (Fs c)<|tc [0] (du _ e)<|ts<|tv (aP [bZ] 1 rfl)<|tc [0] (af _ h)<|ts<|tw (Ft c)<|tc [0] (bD _ i)<|ts<|tv (aP [jO] 1 rfl)<|tc [0] (af _ m)<|ey 0<|bJ (I3 c q p.1 _ b)<|ts<|tw (gO c)<|bz (qj5.ln c.Methods)<|tc [0,1] (GU _ n)<|tE
noncomputable def qw4:W:=f35.body.getD .skip
def qwZ:ZF Pg [] 35 f35 qw4:=zf call35 func35 rfl mixed
section
variable(v:cW)(m:V Int)(m2:K)
def fH:Q (V Int×K):=if Y ((v.Needs.length:Int)>0)then (aa ([AN]:V ae) m m2).bind λb=>(kf v.Needs b m2).bind λa=>O (a.1,a.2) else O (m,m2)
def Ef:OJ 1 (cA qw4 254) (fH v m m2) .normal (λo=>aM 73 [(0,.bptr 0 0),(3,.eptr (aX v))] [cw 0 o.1 o.2,.dead] []) (aM 73 [(0,.bptr 0 0),(3,.eptr (aX v))] [cw 0 m m2,.dead] []):=qwZ.j<|tw (i8 v)<|bz (qgX.ln v.Needs)<|tF (tb λc a=>tb λd b=>tv (aP [AN] 1 rfl)<|tc [0] (af _ a)<|tw (i8 v)<|tc [0] (y5 _ b)<|tE)<|tE
end
section
variable(B:waH)(E F:Int)(m:V Int)(m2:K)(H:ae)(L:waA)(P:Int)(R:ae)(S:Int)(X:waD)(m9:waF)(b:IO)(c:oy)(a:Int)(d:K)(e:waA)(h:waI)(i:V G1)(n:V fi)(p:Int)(q:ae)(r:oy)(s:waA)(t:Int)(w:ae)(x:Int)(y z A:pi)
def iy:Q K:=if m2 then O T else O (a !=0)
def Eg:OJ 1 (cA qw4 523766) (iy m2 a) .normal (λo=>aM 73 [(0,.bptr 0 0),(5,.bptr 2 0),(42,sl aV B),(43,.i6 E),(44,.i6 F)] [cw 0 m o,.dead,.cells [.str H,sl cS L,.i6 P,.str R,.i6 S,sl ak X,sl bk m9,sl bL b,sl al c,.i6 a,.bool d,sl cS e,sl cr h,sl fP i,sl bU n,.i6 p,.str q,sl al r,sl cS s,.i6 t,.str w,.i6 x,sl ag y,sl ag z,sl ag A] []] []) (aM 73 [(0,.bptr 0 0),(5,.bptr 2 0),(42,sl aV B),(43,.i6 E),(44,.i6 F)] [cw 0 m m2,.dead,.cells [.str H,sl cS L,.i6 P,.str R,.i6 S,sl ak X,sl bk m9,sl bL b,sl al c,.i6 a,.bool d,sl cS e,sl cr h,sl fP i,sl bU n,.i6 p,.str q,sl al r,sl cS s,.i6 t,.str w,.i6 x,sl ag y,sl ag z,sl ag A] []] []):=qwZ.j<|tf (λa0=>ts<|tg 6 a0<|ts<|tE) λa0=>ts<|tg 6 a0<|ts<|ts<|tE
end
section
variable(b:waH)(c a:Int)(m:V Int)(m2:K)
def ke:aF:=aM 73 [(0,.bptr 0 0),(42,sl aV b),(43,.i6 c),(44,.i6 a)] [cw 0 m m2,.dead] []
def rx(o:V Int×K):aF:=aM 73 [(0,.bptr 0 0)] [cw 0 o.1 o.2,.dead] []
instance qwh:KS 1 (ke b c a m m2):=ks 2 rfl
instance qty{o:List Int×Bool}:KS 1 (rx o):=ks 2 rfl
def ff:Q ((Int×V Int×K)⊕(V Int×K)):=if Y (a<c)then (bY b a).bind λh=>(iy m2 h.Mode).bind λe=>(aa ([bZ]:V ae) m e).bind λi=>(jY h i e).bind λd=>(aa ([qp3]:V ae) d.1 d.2).bind λn=>O (.inl (cz (a+1),n,d.2)) else O (.inr (m,m2))
def uJ:Q (V Int×K):=loop (λ(d:Int×V Int×K)=>ff b c d.1 d.2.1 d.2.2) (a,m,m2)
def Cx:OL 1 (cA qw4 8183) (ff b c a m m2) (λ(p:Int×V Int×K)=>ke b c p.1 p.2.1 p.2.2) (λ_=>.exit 0) rx (ke b c a m m2):=qwZ.lx<|tF (tb λd o=>tb λq e=>tb λr h=>tb λs i=>tb λt n=>tv (R6.ia o)<|tv (Ao d)<|tx qpk<|tx (Qn d)<|ey 0<|bJ (Eg b c a m m2 d.Name d.Params d.Body.Op d.Body.Name d.Body.N d.Body.Kids d.Body.Params d.Body.Alts d.Body.Types d.Mode d.Typed d.Sig.Vars d.Sig.Needs d.Sig.Abs d.Sig.Bounds d.Sig.Type_.Op d.Sig.Type_.Name d.Sig.Type_.Args d.Sig.Type_.Names d.Sig.Type_.Pred.Op d.Sig.Type_.Pred.Name d.Sig.Type_.Pred.N d.Sig.Type_.Pred.Kids d.Sig.Type_.Preds d.Sig.Metric _ e)<|tv (aP [bZ] 1 rfl)<|tc [0] (af _ h)<|tv (Qf d [])<|tc [0] (tt _ i)<|tv (aP [qp3] 1 rfl)<|tc [0] (af _ n)<|tE)<|tE
def Eh:=nu (s:=(a,m,m2)) λd=>Cx b c d.1 d.2.1 d.2.2
end
def kG(a:cW)(o:V Int)(d:K):Q (V Int×K):=(aa ([Rr]:V ae) o d).bind λp=>(bw a.Class p d).bind λh=>(aa ([bZ]:V ae) h.2 h.1).bind λm=>(nF a.Type_).bind λq=>if(q !=0)then O (m,T) else (kg na a.Type_ m h.1).bind λn=>(fH a n.1 n.2).bind λb=>(aa ([qcX]:V ae) b.1 b.2).bind λe=>(uJ a.Defs (a.Defs.length:Int) 0 e b.2).bind λc=>(aa ([lI]:V ae) c.1 c.2).bind λi=>O (i,c.2)
def Jg{a:cW}{t:V Int}{h:K}:OG 35 [.bptr 0 0,.agg (aX a)] [] [cw 0 t h] (kG a t h) (λr=>.tuple []) [] (λr=>[cw 0 r.1 r.2]):=qwZ.g 1<|tb λz i=>tb λA m=>tb λB n=>tb λE o=>te (Vu a)<|tv (aP [Rr] 1 rfl)<|tc [0] (af _ i)<|tw (yY a)<|tc [0] (du _ m)<|tv (aP [bZ] 1 rfl)<|tc [0] (af _ n)<|tw (n5 a)<|bQ (yp _ o)<|tF (ts<|tE)<|tb λw p=>tb λq b=>tb λs d=>tb λx c=>tb λy e=>tw (n5 a)<|tc [0] (y7 na (λ_ _ _=>Dt) _ p)<|ey 0<|bJ (Ef a w.1 w.2 _ b)<|tv (aP [qcX] 1 rfl)<|tc [0] (af _ d)<|tw (vW a)<|bz (R6.ln a.Defs)<|bJ (Eh a.Defs (a.Defs.length:Int) 0 s q.2 _ c)<|tv (aP [lI] 1 rfl)<|tc [0] (af _ e)<|tE
noncomputable def qw5:W:=f36.body.getD .skip
def qw0:ZF Pg [48] 36 f36 qw5:=zf call36 func36 rfl mixed
section
variable(v:dq)(m:V Int)(m2:K)
def gg:Q K:=if m2 then O T else O ((v.Cases.length:Int)==0)
def Ga:OJ 1 (cA qw5 1022) (gg v m2) .normal (λo=>aM 86 [(0,.bptr 0 0),(3,.eptr (aZ v))] [cw 0 m o,.dead] []) (aM 86 [(0,.bptr 0 0),(3,.eptr (aZ v))] [cw 0 m m2,.dead] []):=qw0.j<|tf (λa=>ts<|tg 6 a<|ts<|tE) λa=>ts<|tg 6 a<|tw (ja v)<|bz (qeX.ln v.Cases)<|ts<|tE
end
section
variable(v:dq)(i:Int)(a:V BM)(b:Int)(m:V Int)(m2:K)(c:ae)(d:waA)(e:Int)(h:ae)(n:Int)(p:pi)
def wj:Q (V Int):=if Y (i>0)then (aa ([rH]:V ae) m m2).bind λo=>O o else O m
def Gb:OJ 1 (cA qw5 1048054) (wj i m m2) .normal (λo=>aM 86 [(0,.bptr 0 0),(3,.eptr (aZ v)),(5,.bptr 2 0),(44,sl eE a),(45,.i6 b),(46,.i6 i)] [cw 0 o m2,.dead,.cells [.str c,sl cS d,.i6 e,.str h,.i6 n,sl ag p] []] []) (aM 86 [(0,.bptr 0 0),(3,.eptr (aZ v)),(4,.i6 i),(5,.bptr 2 0),(44,sl eE a),(45,.i6 b),(46,.i6 i)] [cw 0 m m2,.dead,.cells [.str c,sl cS d,.i6 e,.str h,.i6 n,sl ag p] []] []):=qw0.j<|tF (tb λr q=>tv (aP [rH] 1 rfl)<|tc [0] (af _ q)<|tE)<|tE
end
section
variable(v:dq)(b:V BM)(c a:Int)(m:V Int)(m2:K)
def kV:aF:=aM 86 [(0,.bptr 0 0),(3,.eptr (aZ v)),(44,sl eE b),(45,.i6 c),(46,.i6 a)] [cw 0 m m2,.dead] []
def sC(o:V Int×K):aF:=aM 86 [(0,.bptr 0 0),(3,.eptr (aZ v))] [cw 0 o.1 o.2,.dead] []
instance qDc:KS 1 (kV v b c a m m2):=ks 2 rfl
instance qDb{o:List Int×Bool}:KS 1 (sC v o):=ks 2 rfl
def sB:Q ((Int×V Int×K)⊕(V Int×K)):=if Y (a<c)then (bY b a).bind λe=>(wj a m m2).bind λn=>(bw e.Con n m2).bind λh=>(eL e.Names h.2 h.1).bind λd=>(aa ([ed]:V ae) d.1 d.2).bind λo=>(cy e.Body o d.2).bind λi=>O (.inl (cz (a+1),i.1,i.2)) else O (.inr (m,m2))
def jc:Q (V Int×K):=loop (λ(d:Int×V Int×K)=>sB b c d.1 d.2.1 d.2.2) (a,m,m2)
def Ei:OL 1 (cA qw5 16375) (sB b c a m m2) (λ(q:Int×V Int×K)=>kV v b c q.1 q.2.1 q.2.2) (λ_=>.exit 0) (sC v) (kV v b c a m m2):=qw0.lx<|tF (tb λd p=>tb λr e=>tb λs h=>tb λt i=>tb λw n=>tb λx o=>tv (qeX.ia p)<|tv (qih d)<|tx qst<|tx (qeG d)<|ey 0<|bJ (Gb v a b c m m2 d.Con d.Names d.Body.Op d.Body.Name d.Body.N d.Body.Kids _ e)<|ts<|tc [0] (du _ h)<|ts<|tc [0] (pz _ i)<|tv (aP [ed] 1 rfl)<|tc [0] (af _ n)<|tv (eJ d.Body [])<|tc [0] (fg _ o)<|tE)<|tE
def Gc:=nu (s:=(a,m,m2)) λd=>Ei v b c d.1 d.2.1 d.2.2
end
def iL(a:dq)(p:V Int)(c:K):Q (V Int×K):=(aa ([ou]:V ae) p c).bind λr=>(aW a.Name r c).bind λh=>(aa ([bm]:V ae) h.2 h.1).bind λs=>(bw a.Data s h.1).bind λn=>(aa ([dK]:V ae) n.2 n.1).bind λt=>(gA a.Result t n.1).bind λo=>(aa ([jW]:V ae) o.2 o.1).bind λw=>(gg a o.1).bind λq=>(jc a.Cases (a.Cases.length:Int) 0 w q).bind λb=>(aa ([lI]:V ae) b.1 b.2).bind λd=>(kk a.Inv).bind λi=>if(!i)then (aa ([jh]:V ae) d b.2).bind λm=>(cy a.Inv m b.2).bind λe=>O (e.1,e.2) else O (d,b.2)
def Kn{a:dq}{x:V Int}{i:K}:OG 36 [.bptr 0 0,.agg (aZ a)] [] [cw 0 x i] (iL a x i) (λr=>.tuple []) [] (λr=>[cw 0 r.1 r.2]):=qw0.g 1<|tb λP n=>tb λR o=>tb λS p=>tb λX q=>tb λr5 s=>tb λL t=>tb λy w=>tb λA m=>tb λz b=>tb λB c=>tb λE d=>te (Ym a)<|tv (aP [ou] 1 rfl)<|tc [0] (af _ n)<|tw (yZ a)<|tc [0] (bD _ o)<|tv (aP [bm] 1 rfl)<|tc [0] (af _ p)<|tw (y0 a)<|tc [0] (du _ q)<|tv (aP [dK] 1 rfl)<|tc [0] (af _ s)<|tw (vX a)<|tc [0] (rz _ t)<|tv (aP [jW] 1 rfl)<|tc [0] (af _ w)<|ey 0<|bJ (Ga a y L.1 _ m)<|tw (ja a)<|bz (qeX.ln a.Cases)<|bJ (Gc a a.Cases (a.Cases.length:Int) 0 y A _ b)<|tv (aP [lI] 1 rfl)<|tc [0] (af _ c)<|tw (jH a)<|bQ (pg _ d)<|tF (tb λF e=>tb λH h=>tv (aP [jh] 1 rfl)<|tc [0] (af _ e)<|tw (jH a)<|tc [0] (fg _ h)<|tE)<|tE
noncomputable def qAH:W:=f37.body.getD .skip
def qAm:ZF Pg [] 37 f37 qAH:=zf call37 func37 rfl mixed
section
variable(q:lG)(m:V Int)(m2:K)
def fq:Q K:=if m2 then O T else O ((q.Vars.length:Int)==0)
def Cy:OJ 1 (cA qAH 62) (fq q m2) .normal (λo=>aM 38 [(0,.bptr 0 0),(3,.eptr (cX q))] [cw 0 m o,.dead] []) (aM 38 [(0,.bptr 0 0),(3,.eptr (cX q))] [cw 0 m m2,.dead] []):=qAm.j<|tf (λa=>ts<|tg 6 a<|ts<|tE) λa=>ts<|tg 6 a<|tw (mr q)<|bz (R7.ln q.Vars)<|ts<|tE
end
def gz(q:lG)(e:V Int)(a:K):Q (V Int×K):=(aa ([Ab]:V ae) e a).bind λi=>(aW q.Name i a).bind λb=>(aa ([fw]:V ae) b.2 b.1).bind λm=>(fq q b.1).bind λh=>(eX q.Vars T m h).bind λc=>(aa ([nl]:V ae) c.1 c.2).bind λn=>(cy q.Body n c.2).bind λd=>O (d.1,d.2)
def GX{q:lG}{n:V Int}{a:K}:OG 37 [.bptr 0 0,.agg (cX q)] [] [cw 0 n a] (gz q n a) (λr=>.tuple []) [] (λr=>[cw 0 r.1 r.2]):=qAm.g 1<|tb λt c=>tb λo d=>tb λp e=>tb λs b=>tb λw h=>tb λx i=>tb λy m=>te (qiE q)<|tv (aP [Ab] 1 rfl)<|tc [0] (af _ c)<|tw (Fx q)<|tc [0] (bD _ d)<|tv (aP [fw] 1 rfl)<|tc [0] (af _ e)<|ey 0<|bJ (Cy q p o.1 _ b)<|tw (mr q)<|tc [0] (rB _ h)<|tv (aP [nl] 1 rfl)<|tc [0] (af _ i)<|tw (Dl q)<|tc [0] (fg _ m)<|tE
noncomputable def qtc:W:=f15.body.getD .skip
def qsN:ZF Pg [] 15 f15 qtc:=zf call15 func15 rfl mixed
section
variable(m:dt)(b:V jE)(c a:Int)(m2:V Int)(d:K)
def xy:aF:=aM 107 [(1,.eptr (bo m)),(4,.bptr 1 0),(20,sl cq b),(21,.i6 c),(22,.i6 a)] [.dead,cw 1 m2 d] []
def HZ(o:V Int×K):aF:=aM 107 [(1,.eptr (bo m)),(4,.bptr 1 0)] [.dead,cw 1 o.1 o.2] []
instance qEM:KS 0 (xy m b c a m2 d):=ks 2 rfl
instance qEC{o:List Int×Bool}:KS 0 (HZ m o):=ks 2 rfl
def HY:Q ((Int×V Int×K)⊕(V Int×K)):=if Y (a<c)then (bY b a).bind λi=>(ly i m2 d).bind λe=>(aa ([gk]:V ae) e.1 e.2).bind λh=>O (.inl (cz (a+1),h,e.2)) else O (.inr (m2,d))
def oK:Q (V Int×K):=loop (λ(e:Int×V Int×K)=>HY b c e.1 e.2.1 e.2.2) (a,m2,d)
def RR:OL 0 (cA qtc 119) (HY b c a m2 d) (λ(o:Int×V Int×K)=>xy m b c o.1 o.2.1 o.2.2) (λ_=>.exit 0) (HZ m) (xy m b c a m2 d):=qsN.lx<|tF (tb λn i=>tb λp e=>tb λq h=>tv (qpL.ia i)<|tv (qii n)<|tx qww<|tx (qeH n)<|tv (qeu n [])<|tc [1] (Qz _ e)<|tv (aP [gk] 1 rfl)<|tc [1] (af _ h)<|tE)<|tE
def TJ:=nu (s:=(a,m2,d)) λe=>RR m b c e.1 e.2.1 e.2.2
end
section
variable(m:dt)(b:V fI)(c a:Int)(m2:V Int)(d:K)
def xz:aF:=aM 107 [(1,.eptr (bo m)),(4,.bptr 1 0),(34,sl ce b),(35,.i6 c),(36,.i6 a)] [.dead,cw 1 m2 d] []
def H3(o:V Int×K):aF:=aM 107 [(1,.eptr (bo m)),(4,.bptr 1 0)] [.dead,cw 1 o.1 o.2] []
instance qEN:KS 0 (xz m b c a m2 d):=ks 2 rfl
instance qED{o:List Int×Bool}:KS 0 (H3 m o):=ks 2 rfl
def H1:Q ((Int×V Int×K)⊕(V Int×K)):=if Y (a<c)then (bY b a).bind λi=>(kb i m2 d).bind λe=>(aa ([gk]:V ae) e.1 e.2).bind λh=>O (.inl (cz (a+1),h,e.2)) else O (.inr (m2,d))
def oM:Q (V Int×K):=loop (λ(e:Int×V Int×K)=>H1 b c e.1 e.2.1 e.2.2) (a,m2,d)
def RT:OL 0 (cA qtc 247) (H1 b c a m2 d) (λ(o:Int×V Int×K)=>xz m b c o.1 o.2.1 o.2.2) (λ_=>.exit 2) (H3 m) (xz m b c a m2 d):=qsN.lx<|tF (tb λn i=>tb λp e=>tb λq h=>tv (qpM.ia i)<|tv (qet n)<|tx qwx<|tx (qcd n)<|tv (qbO n [])<|tc [1] (Od _ e)<|tv (aP [gk] 1 rfl)<|tc [1] (af _ h)<|tE)<|tE
def TK:=nu (s:=(a,m2,d)) λe=>RT m b c e.1 e.2.1 e.2.2
end
section
variable(m:dt)(b:V cW)(c a:Int)(m2:V Int)(d:K)
def xC:aF:=aM 107 [(1,.eptr (bo m)),(4,.bptr 1 0),(48,sl aX b),(49,.i6 c),(50,.i6 a)] [.dead,cw 1 m2 d] []
def H5(o:V Int×K):aF:=aM 107 [(1,.eptr (bo m)),(4,.bptr 1 0)] [.dead,cw 1 o.1 o.2] []
instance qEO:KS 0 (xC m b c a m2 d):=ks 2 rfl
instance qEE{o:List Int×Bool}:KS 0 (H5 m o):=ks 2 rfl
def H4:Q ((Int×V Int×K)⊕(V Int×K)):=if Y (a<c)then (bY b a).bind λi=>(kG i m2 d).bind λe=>(aa ([gk]:V ae) e.1 e.2).bind λh=>O (.inl (cz (a+1),h,e.2)) else O (.inr (m2,d))
def oN:Q (V Int×K):=loop (λ(e:Int×V Int×K)=>H4 b c e.1 e.2.1 e.2.2) (a,m2,d)
def RU:OL 0 (cA qtc 503) (H4 b c a m2 d) (λ(o:Int×V Int×K)=>xC m b c o.1 o.2.1 o.2.2) (λ_=>.exit 4) (H5 m) (xC m b c a m2 d):=qsN.lx<|tF (tb λe n=>tb λp h=>tb λq i=>tv (qj3.ia n)<|tv (LW e)<|tx qtW<|tx (IY e)<|tv (SN e [])<|tc [1] (Jg _ h)<|tv (aP [gk] 1 rfl)<|tc [1] (af _ i)<|tE)<|tE
def TL:=nu (s:=(a,m2,d)) λe=>RU m b c e.1 e.2.1 e.2.2
end
section
variable(m:dt)(b:V dq)(c a:Int)(m2:V Int)(d:K)
def xD:aF:=aM 107 [(1,.eptr (bo m)),(4,.bptr 1 0),(62,sl aZ b),(63,.i6 c),(64,.i6 a)] [.dead,cw 1 m2 d] []
def H7(o:V Int×K):aF:=aM 107 [(1,.eptr (bo m)),(4,.bptr 1 0)] [.dead,cw 1 o.1 o.2] []
instance qEP:KS 0 (xD m b c a m2 d):=ks 2 rfl
instance qEF{o:List Int×Bool}:KS 0 (H7 m o):=ks 2 rfl
def H6:Q ((Int×V Int×K)⊕(V Int×K)):=if Y (a<c)then (bY b a).bind λi=>(iL i m2 d).bind λe=>(aa ([gk]:V ae) e.1 e.2).bind λh=>O (.inl (cz (a+1),h,e.2)) else O (.inr (m2,d))
def oO:Q (V Int×K):=loop (λ(e:Int×V Int×K)=>H6 b c e.1 e.2.1 e.2.2) (a,m2,d)
def RV:OL 0 (cA qtc 1015) (H6 b c a m2 d) (λ(o:Int×V Int×K)=>xD m b c o.1 o.2.1 o.2.2) (λ_=>.exit 6) (H7 m) (xD m b c a m2 d):=qsN.lx<|tF (tb λe n=>tb λp h=>tb λq i=>tv (qpN.ia n)<|tv (Yg e)<|tx qsq<|tx (Vv e)<|tv (Vd e [])<|tc [1] (Kn _ h)<|tv (aP [gk] 1 rfl)<|tc [1] (af _ i)<|tE)<|tE
def TM:=nu (s:=(a,m2,d)) λe=>RV m b c e.1 e.2.1 e.2.2
end
section
variable(m:dt)(b:V lG)(c a:Int)(m2:V Int)(d:K)
def xE:aF:=aM 107 [(1,.eptr (bo m)),(4,.bptr 1 0),(76,sl cX b),(77,.i6 c),(78,.i6 a)] [.dead,cw 1 m2 d] []
def H9(o:V Int×K):aF:=aM 107 [(1,.eptr (bo m)),(4,.bptr 1 0)] [.dead,cw 1 o.1 o.2] []
instance qEQ:KS 0 (xE m b c a m2 d):=ks 2 rfl
instance qEG{o:List Int×Bool}:KS 0 (H9 m o):=ks 2 rfl
def H8:Q ((Int×V Int×K)⊕(V Int×K)):=if Y (a<c)then (bY b a).bind λi=>(gz i m2 d).bind λe=>(aa ([gk]:V ae) e.1 e.2).bind λh=>O (.inl (cz (a+1),h,e.2)) else O (.inr (m2,d))
def oP:Q (V Int×K):=loop (λ(e:Int×V Int×K)=>H8 b c e.1 e.2.1 e.2.2) (a,m2,d)
def RW:OL 0 (cA qtc 2039) (H8 b c a m2 d) (λ(o:Int×V Int×K)=>xE m b c o.1 o.2.1 o.2.2) (λ_=>.exit 8) (H9 m) (xE m b c a m2 d):=qsN.lx<|tF (tb λe n=>tb λp h=>tb λq i=>tv (qpO.ia n)<|tv (qij e)<|tx qsr<|tx (qeI e)<|tv (qev e [])<|tc [1] (GX _ h)<|tv (aP [gk] 1 rfl)<|tc [1] (af _ i)<|tE)<|tE
def TN:=nu (s:=(a,m2,d)) λe=>RW m b c e.1 e.2.1 e.2.2
end
section
variable(b:waH)(c a:Int)(m:V Int)(m2:K)
def xG:aF:=aM 107 [(4,.bptr 1 0),(90,sl aV b),(91,.i6 c),(92,.i6 a)] [.dead,cw 1 m m2] []
def Ib(o:V Int×K):aF:=aM 107 [(4,.bptr 1 0)] [.dead,cw 1 o.1 o.2] []
instance qER:KS 0 (xG b c a m m2):=ks 2 rfl
instance qEH{o:List Int×Bool}:KS 0 (Ib o):=ks 2 rfl
def Ia:Q ((Int×V Int×K)⊕(V Int×K)):=if Y (a<c)then (bY b a).bind λh=>(jY h m m2).bind λd=>(aa ([gk]:V ae) d.1 d.2).bind λe=>O (.inl (cz (a+1),e,d.2)) else O (.inr (m,m2))
def oQ:Q (V Int×K):=loop (λ(d:Int×V Int×K)=>Ia b c d.1 d.2.1 d.2.2) (a,m,m2)
def RX:OL 0 (cA qtc 4087) (Ia b c a m m2) (λ(n:Int×V Int×K)=>xG b c n.1 n.2.1 n.2.2) (λ_=>.exit 10) Ib (xG b c a m m2):=qsN.lx<|tF (tb λd i=>tb λo e=>tb λp h=>tv (R6.ia i)<|tv (Ao d)<|tx qpk<|tx (Qn d)<|tv (Qf d [])<|tc [1] (tt _ e)<|tv (aP [gk] 1 rfl)<|tc [1] (af _ h)<|tE)<|tE
def TO:=nu (s:=(a,m,m2)) λd=>RX b c d.1 d.2.1 d.2.2
end
def xx(m:dt):Q (ae×Int):=(oK m.Datas (m.Datas.length:Int) 0 ([]:V Int) Z).bind λi=>(oM m.Classes (m.Classes.length:Int) 0 i.1 i.2).bind λa=>(oN m.Instances (m.Instances.length:Int) 0 a.1 a.2).bind λb=>(oO m.Measures (m.Measures.length:Int) 0 b.1 b.2).bind λc=>(oP m.Quals (m.Quals.length:Int) 0 c.1 c.2).bind λd=>(oQ m.Defs (m.Defs.length:Int) 0 d.1 d.2).bind λe=>(lA e.1 e.2).bind λh=>O (h.1,h.2)
def ND{m:dt}:OV 15 [.agg (bo m)] (xx m) (λr=>.tuple [.str r.1,.i6 r.2]) []:=qsN.v<|
 tb λs q=>tb λi a=>tb λn b=>tb λo c=>tb λp d=>tb λt e=>tb λw h=>te (L2 m)<|Yv (show df Pg 76 []=O (.agg [.val (.pointer N),sl (cI .u8) ([]:V Int),.bool Z]) by kernel_rfl) (show Ce Pg 76 [] [(1,5)]from⟨[.val (.pointer N),.val fG,.bool Z],by kernel_rfl,(aI rfl md)⟩)<|ty (qxe [.val (.pointer N),sl (cI .u8) ([]:V Int),.bool Z])<|tw (qI m)<|bz (qpL.ln m.Datas)<|bJ (TJ m m.Datas (m.Datas.length:Int) 0 ([]:V Int) Z _ q)<|tw (qJ m)<|bz (qpM.ln m.Classes)<|bJ (TK m m.Classes (m.Classes.length:Int) 0 s.1 s.2 _ a)<|tw (ll m)<|bz (qj3.ln m.Instances)<|bJ (TL m m.Instances (m.Instances.length:Int) 0 i.1 i.2 _ b)<|tw (qK m)<|bz (qpN.ln m.Measures)<|bJ (TM m m.Measures (m.Measures.length:Int) 0 n.1 n.2 _ c)<|tw (qL m)<|bz (qpO.ln m.Quals)<|bJ (TN m m.Quals (m.Quals.length:Int) 0 o.1 o.2 _ d)<|tw (qM m)<|bz (R6.ln m.Defs)<|bJ (TO m.Defs (m.Defs.length:Int) 0 p.1 p.2 _ e)<|tc [1] (BG _ h)<|tE
end Go.Proofs.YtibglelmlnfojaaGreatDoor
