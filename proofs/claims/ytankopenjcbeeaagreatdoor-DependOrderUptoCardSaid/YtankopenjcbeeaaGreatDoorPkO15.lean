/- PROVED: a part of the proof. Conditions: none. -/
import Derived.Test.YtankopenjcbeeaaGreatDoorPkO14
set_option linter.unusedSimpArgs false set_option linter.defProp false
set_option linter.unusedVariables false
noncomputable section
namespace Go.Proofs.YtankopenjcbeeaaGreatDoor
open Go Go.Proofs.Tryz
open Option renaming some→O,none→N
open Go renaming TypeId→G,Value→D,Program→I,Oper→M,World→J,Code→W
open Bool renaming true→T,false→Z
open Decidable renaming decide→Y
open YtankopenjcbeeaaGreatDoor renaming PVal→U
set_option linter.defProp false
set_option maxRecDepth 100000
noncomputable def qhU:W:=f196.body.getD .skip
def qhM:ZF Pg [] 196 f196 qhU:=zf call196 func196 rfl mixed
section
variable(t:ai)(m:V Int)(a:K)
def mb:Q K:=if(t.Op==6)then (nB t.Pred).bind λb=>if(!b)then O T else if Y ((t.Preds.length:Int)>0)then O T else if(t.Op !=4)then O (Y ((t.Preds.length:Int)>0)) else O Z else if(t.Op !=4)then O (Y ((t.Preds.length:Int)>0)) else O Z
def IH:OU 1 (cA qhU 12) (mb t) .normal (λo=>[(32,.bool o)]) (aR 119 [(2,.bptr 1 0),(3,.eptr (aj t))] [ce 0 m a,.cells [.bptr 0 0] [],.dead] []):=qhM.j<|
 have d:=λ{X z A} (r:PV _ X z A)=>tw (bo t)<|r;tf (λq=>tb λy p=>have e:=λ{X z A} (r:PV _ X z A)=>d<|tg 4 q<|tw (fA t)<|cP (n9 _ p)<|r;tf (λs=>e<|tg 9 s<|tE) λs=>have h:=λ{X z A} (r:PV _ X z A)=>e<|tg 9 s<|tw (dK t)<|ca (je.ln t.Preds)<|r;tf (λw=>h<|tg 16 w<|tE) λw=>have i:=λ{X z A} (r:PV _ X z A)=>h<|tg 16 w<|tw (bo t)<|r;tf (λx=>i<|tg 20 x<|tw (dK t)<|ca (je.ln t.Preds)<|tE) λx=>i<|tg 20 x<|tE) λq=>have b:=λ{X z A} (r:PV _ X z A)=>d<|tg 4 q<|tw (bo t)<|r;tf (λc=>b<|tg 20 c<|tw (dK t)<|ca (je.ln t.Preds)<|tE) λc=>b<|tg 20 c<|tE
end
section
variable(t:ai)(a:K)(m:V Int)(b:K)
def re:Q (V Int):=if a then (ae ([sM]:V aa) m b).bind λc=>O c else O m
def II:OJ 1 (cA qhU 30) (re a m b) .normal (λo=>aR 119 [(2,.bptr 1 0),(3,.eptr (aj t)),(4,.bool a)] [ce 0 o b,.cells [.bptr 0 0] [],.dead] []) (aR 119 [(2,.bptr 1 0),(3,.eptr (aj t)),(4,.bool a)] [ce 0 m b,.cells [.bptr 0 0] [],.dead] []):=qhM.j<|tF (tb λd c=>ts<|tv (bG [sM] 1 rfl)<|tc [0] (ac _ c)<|tE)<|tE
end
section
variable(e:cb)(t:ai)(a:K)(c:md)(d b:Int)(m:V Int)(h:K)
def oC:az:=aR 119 [(2,.bptr 1 0),(3,.eptr (aj t)),(4,.bool a),(74,sl aj c),(75,.i6 d),(76,.i6 b)] [ce 0 m h,.cells [.bptr 0 0] [],.dead] []
def wM(o:V Int×K):az:=aR 119 [(2,.bptr 1 0),(3,.eptr (aj t)),(4,.bool a)] [ce 0 o.1 o.2,.cells [.bptr 0 0] [],.dead] []
instance qxP:KS 1 (oC t a c d b m h):=ks 3 rfl
instance qxL{o:List Int×Bool}:KS 1 (wM t a o):=ks 3 rfl
def wL:Q ((Int×V Int×K)⊕(V Int×K)):=if Y (b<d)then (cJ c b).bind λp=>(ae ([lM]:V aa) m h).bind λo=>(nv e p o h).bind λi=>O (.inl (dc (b+1),i.1,i.2)) else O (.inr (m,h))
def rh:Q (V Int×K):=loop (λ(i:Int×V Int×K)=>wL e c d i.1 i.2.1 i.2.2) (b,m,h)
def G0(r:dJ e):OL 1 (cA qhU 8257495) (wL e c d b m h) (λ(s:Int×V Int×K)=>oC t a c d s.1 s.2.1 s.2.2) (λ_=>.exit 1) (wM t a) (oC t a c d b m h):=qhM.lx<|tF (tb λi q=>tb λw o=>tb λx p=>tv (ff.ia q)<|tv (fp i)<|tx qhb<|tx (BC i)<|ts<|tv (bG [lM] 1 rfl)<|tc [0] (ac _ o)<|ts<|tv (tL i [])<|tc [0] (JV e r _ p)<|tE)<|tE
def IK(i:dJ e):=ug (s:=(b,m,h)) λo=>G0 e t a c d o.1 o.2.1 o.2.2 i
end
section
variable(b:cb)(t:ai)(a:K)(m:V Int)(c:K)
def jd:Q (V Int×K):=if(t.Op==1)then (ae ([qkl]:V aa) m c).bind λp=>O (p,c) else if(t.Op==2)then (ae ([qem]:V aa) m c).bind λq=>O (q,c) else if(t.Op==3)then (ae ([qen]:V aa) m c).bind λr=>O (r,c) else if(t.Op==5)then (aZ t.Name m c).bind λh=>O (h.2,h.1) else if(t.Op==4)then (cC t.Name m c).bind λi=>(rh b t.Args (t.Args.length:Int) 0 i.2 i.1).bind λd=>if Y ((t.Preds.length:Int)>0)then (ae ([Q5]:V aa) d.1 d.2).bind λs=>(j5 (t.Preds.length:Int) t s d.2).bind λe=>(ae ([qfw]:V aa) e.1 e.2).bind λw=>O (w,e.2) else O (d.1,d.2) else if(t.Op==6)then (j8 b t m c).bind λo=>O (o.1,o.2) else O (m,c)
def IJ(d:dJ b):OJ 1 (cA qhU 62) (jd b t m c) .normal (λo=>aR 119 [(2,.bptr 1 0),(3,.eptr (aj t)),(4,.bool a)] [ce 0 o.1 o.2,.cells [.bptr 0 0] [],.dead] []) (aR 119 [(2,.bptr 1 0),(3,.eptr (aj t)),(4,.bool a)] [ce 0 m c,.cells [.bptr 0 0] [],.dead] []):=qhM.j<|tw (bo t)<|tF (tb λB h=>ts<|tv (bG [qkl] 1 rfl)<|tc [0] (ac _ h)<|tE)<|tF (tb λE i=>ts<|tv (bG [qem] 1 rfl)<|tc [0] (ac _ i)<|tE)<|tF (tb λF p=>ts<|tv (bG [qen] 1 rfl)<|tc [0] (ac _ p)<|tE)<|tF (tb λH q=>ts<|tw (eM t)<|tc [0] (bh _ q)<|tE)<|tF (tb λz r=>tb λA e=>ts<|tw (eM t)<|tc [0] (dY _ r)<|tw (bN t)<|ca (ff.ln t.Args)<|cM (IK b t a t.Args (t.Args.length:Int) 0 z.2 z.1 d _ e)<|tw (dK t)<|ca (je.ln t.Preds)<|tF (tb λL s=>tb λP w=>tb λR x=>ts<|tv (bG [Q5] 1 rfl)<|tc [0] (ac _ s)<|ts<|tw (dK t)<|ca (je.ln t.Preds)<|tc [0,1] (Fk _ w)<|ts<|tv (bG [qfw] 1 rfl)<|tc [0] (ac _ x)<|tE)<|tE)<|tF (tb λS y=>ts<|tv (fp t)<|tc [0] (Fu b d _ y)<|tE)<|tE
end
def nx(e:cb)(t:ai)(p:V Int)(c:K):Q (K×V Int):=(mb t).bind λh=>if h then O (T,p) else (nB t.Pred).bind λd=>(re (!d) p c).bind λi=>(jd e t i c).bind λa=>if(!d)then (ae ([y8]:V aa) a.1 a.2).bind λm=>(dj t.Pred m a.2).bind λb=>(ae ([qkn]:V aa) b.1 b.2).bind λo=>O (b.2,o) else O (a.2,a.1)
def Lx(b:cb)(p:dJ b){t:ai}{s:V Int}{a:K}:OG 196 [.bptr 0 0,.agg (aj t)] [] [ce 0 s a] (nx b t s a) (λr=>.tuple []) [] (λr=>[ce 0 r.2 r.1]):=qhM.g 1<|tb λx c=>qkj (rfl:bF (.bptr 0 0)=O [.bptr 0 0]) rfl<|te (nN t)<|jC 1<|cM (IH t s a _ c)<|tF (ts<|ts<|tE)<|tb λq h=>tb λw d=>tb λy e=>tw (fA t)<|cP (n9 _ h)<|jC 0<|cM (II t (!q) s a _ d)<|jC 0<|cM (IJ b t (!q) w a p _ e)<|tF (tb λz i=>tb λA m=>tb λB o=>ts<|tv (bG [y8] 1 rfl)<|tc [0] (ac _ i)<|ts<|tw (fA t)<|tc [0] (eY _ m)<|ts<|tv (bG [qkn] 1 rfl)<|tc [0] (ac _ o)<|tE)<|tE
def s9:((ai×V Int×K)->Q (K×V Int))->(ai×V Int×K)->Q (K×V Int):=λ(rec:(ai×V Int×K)->Q (K×V Int)) (x:ai×V Int×K)=>nx (λt b a=>rec (t,b,a)) x.1 x.2.1 x.2.2
def xn(t:ai)(b:V Int)(a:K):Q (K×V Int):=sQ s9 (t,b,a)
def MZ{t:ai}{c:V Int}{a:K}:OG 196 [.bptr 0 0,.agg (aj t)] [] [ce 0 c a] (xn t c a) (λr=>.tuple []) [] (λr=>[ce 0 r.2 r.1]):=qaJ λ_ h=>ij (F:=s9) (M:=λ(x:ai×V Int×K) (r:K×V Int)=>C Pg GE 196 [.bptr 0 0,.agg (aj x.1)] [] [ce 0 x.2.1 x.2.2] (.tuple []) [] [ce 0 r.2 r.1]) (λrec b x r h=>Lx _ (λt c a=>qaJ λr h=>b (t,c,a) r h) _ h) h
noncomputable def qs4:W:=f157.body.getD .skip
def qr5:ZF Pg [] 157 f157 qs4:=zf call157 func157 rfl mixed
def dH(t:ai)(b:V Int)(a:K):Q (K×V Int):=(qa t).bind λd=>if(d !=0)then O (T,b) else (xn t b a).bind λc=>O (c.1,c.2)
def eQ{t:ai}{d:V Int}{a:K}:OG 157 [.bptr 0 0,.agg (aj t)] [] [ce 0 d a] (dH t d a) (λr=>.tuple []) [] (λr=>[ce 0 r.2 r.1]):=qr5.g 1<|tb λe b=>te (nN t)<|tv (fp t)<|cP (CU _ b)<|tF (ts<|tE)<|tb λh c=>tv (fp t)<|tc [0] (MZ _ c)<|tE
noncomputable def qpS:W:=f159.body.getD .skip
def qpr:ZF Pg [] 159 f159 qpS:=zf call159 func159 rfl mixed
section
variable(p:ag)(m:V Int)(a:K)
def lh:Q K:=if Y (p.Op<10)then O T else O (Y (p.Op>18))
def GZ:OU 1 (cA qpS 12) (lh p) .normal (λo=>[(11,.bool o)]) (aR 24 [(0,.bptr 0 0),(3,.eptr (af p))] [ce 0 m a,.dead] []):=qpr.j<|
 have b:=λ{X d e} (r:PV _ X d e)=>tw (aP p)<|r;tf (λc=>b<|tg 4 c<|tE) λc=>b<|tg 4 c<|tw (aP p)<|tE
end
def vA(p:ag)(c:V Int)(a:K):Q (V Int×K):=(lh p).bind λe=>if e then (dj p c a).bind λd=>O (d.1,d.2) else (ae ([lj]:V aa) c a).bind λh=>(dj p h a).bind λb=>(ae ([jA]:V aa) b.1 b.2).bind λi=>O (i,b.2)
def Lw{p:ag}{i:V Int}{a:K}:OG 159 [.bptr 0 0,.agg (af p)] [] [ce 0 i a] (vA p i a) (λr=>.tuple []) [] (λr=>[ce 0 r.1 r.2]):=qpr.g 1<|tb λm b=>te (jL p)<|jC 1<|cM (GZ p i a _ b)<|tF (tb λo c=>tv (db p)<|tc [0] (eY _ c)<|tE)<|tb λq d=>tb λs e=>tb λt h=>tv (bG [lj] 1 rfl)<|tc [0] (ac _ d)<|tv (db p)<|tc [0] (eY _ e)<|tv (bG [jA] 1 rfl)<|tc [0] (ac _ h)<|tE
noncomputable def qs5:W:=f158.body.getD .skip
def qr6:ZF Pg [] 158 f158 qs5:=zf call158 func158 rfl mixed
def s6(i:Int)(a:iu)(d:V Int)(b:K):Q (V Int×K):=(cJ a.Metric i).bind λe=>(vA e d b).bind λc=>O (c.1,c.2)
def JX{i:Int}{a:iu}{e:V Int}{b:K}:OG 158 [.i6 i,.bptr 0 0,.eptr (cr a)] [] [.cells [.bptr 1 0] [],ce 1 e b] (s6 i a e b) (λr=>.tuple []) [] (λr=>[.cells [.bptr 1 0] [],ce 1 r.1 r.2]):=qr6.g 2<|tb λh d=>tb λm c=>tk<|FD (.dx [0,0,2,0,14,30] [] [] [])<|ts<|tw (sT a)<|tv (je.ia d)<|tv (db h)<|tc [1] (Lw _ c)<|tE
section
variable(v:iu)(i b:Int)(m:V Int)(a:K)
def rS:Q (V Int):=if Y (i>0)then (ae ([dI]:V aa) m a).bind λc=>O c else O m
def Bg:OJ 2 (cA BS 1014) (rS i m a) .normal (λo=>aR 20 [(0,.bptr 0 0),(2,.func (.func 158) [] [.bptr 1 0,.eptr (cr v)]),(6,.i6 i),(7,.i6 b),(8,.i6 i)] [ce 0 o a,.cells [.bptr 0 0] []] []) (aR 20 [(0,.bptr 0 0),(2,.func (.func 158) [] [.bptr 1 0,.eptr (cr v)]),(6,.i6 i),(7,.i6 b),(8,.i6 i)] [ce 0 m a,.cells [.bptr 0 0] []] []):=qO.j<|tF (tb λd c=>tv (bG [dI] 1 rfl)<|tc [0] (ac _ c)<|tE)<|tE
end
section
variable(v:iu)(c a:Int)(m:V Int)(b:K)
def pN:az:=aR 20 [(0,.bptr 0 0),(2,.func (.func 158) [] [.bptr 1 0,.eptr (cr v)]),(7,.i6 c),(8,.i6 a)] [ce 0 m b,.cells [.bptr 0 0] []] []
def Cs(o:V Int×K):az:=aR 20 [] [ce 0 o.1 o.2,.cells [.bptr 0 0] []] []
def pO:Q ((Int×V Int×K)⊕(V Int×K)):=if Y (a<c)then (rS a m b).bind λe=>(s6 a v e b).bind λd=>O (.inl (dc (a+1),d.1,d.2)) else O (.inr (m,b))
def rT:Q (V Int×K):=loop (λ(d:Int×V Int×K)=>pO v c d.1 d.2.1 d.2.2) (a,m,b)
def zN:OL 2 (cA BS 15) (pO v c a m b) (λ(h:Int×V Int×K)=>pN v c h.1 h.2.1 h.2.2) (λ_=>.exit 0) Cs (pN v c a m b):=qO.l<|tF (tb λi d=>tb λo e=>jC 2<|cM (Bg v a c m b _ d)<|tc [1,0] (JX _ e)<|tE)<|tE
def Bh:=ug (s:=(a,m,b)) λd=>zN v c d.1 d.2.1 d.2.2
end
def j7(n:Int)(c:iu)(d:V Int)(a:K):Q (V Int×K):=(rT c n 0 d a).bind λb=>O (b.1,b.2)
def Fm{n:Int}{c:iu}{d:V Int}{a:K}:OG 149 [.bptr 0 0,.i6 n,.func (.func 158) [] [.bptr 1 0,.eptr (cr c)]] [] [ce 0 d a,.cells [.bptr 0 0] []] (j7 n c d a) (λr=>.tuple []) [] (λr=>[ce 0 r.1 r.2,.cells [.bptr 0 0] []]):=qO.g 2<|tb λe b=>cM (Bh c n 0 d a _ b)<|tE
noncomputable def qaX:W:=f107.body.getD .skip
def qaR:ZF Pg [] 107 f107 qaX:=zf call107 func107 rfl mixed
section
variable(s:iu)(b:waA)(c a:Int)(m:V Int)(d:K)
def wH:az:=aR 138 [(2,.bptr 1 0),(3,.eptr (cr s)),(18,sl cS b),(19,.i6 c),(20,.i6 a)] [ce 0 m d,.cells [.bptr 0 0] [],.dead] []
def JY(o:V Int×K):az:=aR 138 [(2,.bptr 1 0),(3,.eptr (cr s))] [ce 0 o.1 o.2,.cells [.bptr 0 0] [],.dead] []
def wI:Q ((Int×V Int×K)⊕(V Int×K)):=if Y (a<c)then (cJ b a).bind λi=>(ae ([lM]:V aa) m d).bind λh=>(aZ i h d).bind λe=>O (.inl (dc (a+1),e.2,e.1)) else O (.inr (m,d))
def Aw:Q (V Int×K):=loop (λ(e:Int×V Int×K)=>wI b c e.1 e.2.1 e.2.2) (a,m,d)
def GW:OL 1 (cA qaX 855) (wI b c a m d) (λ(o:Int×V Int×K)=>wH s b c o.1 o.2.1 o.2.2) (λ_=>.exit 0) (JY s) (wH s b c a m d):=qaR.l<|tF (tb λp i=>tb λq e=>tb λr h=>tv (cT.ia i)<|tv (cX OR (.str p) [])<|ts<|tv (bG [lM] 1 rfl)<|tc [0] (ac _ e)<|ts<|tc [0] (bh _ h)<|tE)<|tE
def IF:=ug (s:=(a,m,d)) λe=>GW s b c e.1 e.2.1 e.2.2
end
section
variable(s:iu)(m:V Int)(a:K)
def lV:Q (V Int×K):=if Y ((s.Vars.length:Int)>0)then (ae ([qcG]:V aa) m a).bind λc=>(Aw s.Vars (s.Vars.length:Int) 0 c a).bind λb=>(ae ([LN]:V aa) b.1 b.2).bind λd=>O (d,b.2) else O (m,a)
def IA:OJ 1 (cA qaX 6) (lV s m a) .normal (λo=>aR 138 [(2,.bptr 1 0),(3,.eptr (cr s))] [ce 0 o.1 o.2,.cells [.bptr 0 0] [],.dead] []) (aR 138 [(2,.bptr 1 0),(3,.eptr (cr s))] [ce 0 m a,.cells [.bptr 0 0] [],.dead] []):=qaR.j<|tw (D5 s)<|ca (cT.ln s.Vars)<|tF (tb λe c=>tb λh b=>tb λi d=>ts<|tv (bG [qcG] 1 rfl)<|tc [0] (ac _ c)<|tw (D5 s)<|ca (cT.ln s.Vars)<|cM (IF s s.Vars (s.Vars.length:Int) 0 e a _ b)<|ts<|tv (bG [LN] 1 rfl)<|tc [0] (ac _ d)<|tE)<|tE
end
section
variable(s:iu)(m:V Int)(a:K)
def lW:Q (V Int×K):=if Y ((s.Needs.length:Int)>0)then (ae ([WR]:V aa) m a).bind λc=>(nu s.Needs c a).bind λb=>(ae ([LN]:V aa) b.1 b.2).bind λd=>O (d,b.2) else O (m,a)
def IB:OJ 1 (cA qaX 14) (lW s m a) .normal (λo=>aR 138 [(2,.bptr 1 0),(3,.eptr (cr s))] [ce 0 o.1 o.2,.cells [.bptr 0 0] [],.dead] []) (aR 138 [(2,.bptr 1 0),(3,.eptr (cr s))] [ce 0 m a,.cells [.bptr 0 0] [],.dead] []):=qaR.j<|tw (D6 s)<|ca (qlZ.ln s.Needs)<|tF (tb λe b=>tb λh c=>tb λi d=>ts<|tv (bG [WR] 1 rfl)<|tc [0] (ac _ b)<|ts<|tw (D6 s)<|tc [0] (JT _ c)<|ts<|tv (bG [LN] 1 rfl)<|tc [0] (ac _ d)<|tE)<|tE
end
section
variable(s:iu)(m:V Int)(a:K)
def lX:Q (V Int×K):=if Y ((s.Abs.length:Int)>0)then (ae ([Tp]:V aa) m a).bind λc=>(j4 (s.Abs.length:Int) s c a).bind λb=>(ae ([Tq]:V aa) b.1 b.2).bind λd=>O (d,b.2) else O (m,a)
def IC:OJ 1 (cA qaX 30) (lX s m a) .normal (λo=>aR 138 [(2,.bptr 1 0),(3,.eptr (cr s))] [ce 0 o.1 o.2,.cells [.bptr 0 0] [],.dead] []) (aR 138 [(2,.bptr 1 0),(3,.eptr (cr s))] [ce 0 m a,.cells [.bptr 0 0] [],.dead] []):=qaR.j<|tw (oO s)<|ca (ql0.ln s.Abs)<|tF (tb λe b=>tb λh c=>tb λi d=>ts<|tv (bG [Tp] 1 rfl)<|tc [0] (ac _ b)<|ts<|tw (oO s)<|ca (ql0.ln s.Abs)<|tc [0,1] (Fi _ c)<|ts<|tv (bG [Tq] 1 rfl)<|tc [0] (ac _ d)<|tE)<|tE
end
section
variable(s:iu)(e:waI)(h i:Int)(m:V Int)(p:K)(q:aa)(a:wbA)(r:Int)(t:aa)(w:Int)(x:m6)(y:Int)(b:aa)(c:Int)(d:m6)
def lY:Q K:=if p then O T else O ((a.length:Int)==0)
def ID:OJ 1 (cA qaX 32246) (lY p a) .normal (λo=>aR 138 [(2,.bptr 1 0),(3,.eptr (cr s)),(7,.bptr 3 0),(65,sl bT e),(66,.i6 h),(67,.i6 i)] [ce 0 m o,.cells [.bptr 0 0] [],.dead,.cells [.str q,sl cN a,.i6 r,.str t,.i6 w,sl af x,.i6 y,.str b,.i6 c,sl af d] []] []) (aR 138 [(2,.bptr 1 0),(3,.eptr (cr s)),(7,.bptr 3 0),(65,sl bT e),(66,.i6 h),(67,.i6 i)] [ce 0 m p,.cells [.bptr 0 0] [],.dead,.cells [.str q,sl cN a,.i6 r,.str t,.i6 w,sl af x,.i6 y,.str b,.i6 c,sl af d] []] []):=qaR.j<|tf (λz=>qfr [0,0,2,6,14,30,62,126,254,510,1022,2047,4095,8191]<|ts<|ts<|ts<|tg 6 z<|qrl (rfl:bF (.bool T)=O [.bool T])<|tE) λz=>qfr [0,0,2,6,14,30,62,126,254,510,1022,2047,4095,8191]<|ts<|ts<|ts<|tg 6 z<|ts<|ca (WA.ln a)<|qrl (rfl:bF (.bool ((a.length:Int)==0))=O [.bool ((a.length:Int)==0)])<|tE
end
section
variable(s:iu)(e:waI)(h i:Int)(m:V Int)(p:K)(q:aa)(r:wbA)(t:Int)(w:aa)(x:Int)(y:m6)(d:Int)(a:aa)(b:Int)(c:m6)
def lZ:Q (aa×aa):=(Ew (⟨d,a,b,c⟩:ag)).bind λo=>if o then O (qb,LN) else O (EP,To)
def IE:OU 1 (cA qaX 8255486) (lZ d a b c) .normal (λo=>[(8,.str o.1),(9,.str o.2)]) (aR 138 [(2,.bptr 1 0),(3,.eptr (cr s)),(7,.bptr 3 0),(8,.str EP),(9,.str To),(65,sl bT e),(66,.i6 h),(67,.i6 i)] [ce 0 m p,.cells [.bptr 0 0] [],.dead,.cells [.str q,sl cN r,.i6 t,.str w,.i6 x,sl af y,.i6 d,.str a,.i6 b,sl af c] []] []):=qaR.j<|tb λA z=>tv (mo (⟨d,a,b,c⟩:ag) [])<|cP (Wq _ z)<|tF tE<|tE
end
section
variable(s:iu)(b:waI)(c a:Int)(m:V Int)(d:K)
def oA:az:=aR 138 [(2,.bptr 1 0),(3,.eptr (cr s)),(65,sl bT b),(66,.i6 c),(67,.i6 a)] [ce 0 m d,.cells [.bptr 0 0] [],.dead] []
def wK(o:V Int×K):az:=aR 138 [(2,.bptr 1 0),(3,.eptr (cr s))] [ce 0 o.1 o.2,.cells [.bptr 0 0] [],.dead] []
instance qxO:KS 1 (oA s b c a m d):=ks 3 rfl
instance qxK{o:List Int×Bool}:KS 1 (wK s o):=ks 3 rfl
def wJ:Q ((Int×V Int×K)⊕(V Int×K)):=if Y (a<c)then (cJ b a).bind λe=>(lY d e.Vars).bind λq=>(ae ([WQ]:V aa) m q).bind λt=>(aZ e.Name t q).bind λh=>(ae ([wk]:V aa) h.2 h.1).bind λw=>(iI e.Vars Z w h.1).bind λi=>(ae ([qcD]:V aa) i.1 i.2).bind λx=>(fD e.Hyp x i.2).bind λo=>(lZ e.Goal.Op e.Goal.Name e.Goal.N e.Goal.Kids).bind λr=>(ae ([r.1]:V aa) o.1 o.2).bind λy=>(fD e.Goal y o.2).bind λp=>(ae ([r.2]:V aa) p.1 p.2).bind λz=>O (.inl (dc (a+1),z,p.2)) else O (.inr (m,d))
def rb:Q (V Int×K):=loop (λ(e:Int×V Int×K)=>wJ b c e.1 e.2.1 e.2.2) (a,m,d)
def GX:OL 1 (cA qaX 503) (wJ b c a m d) (λ(F:Int×V Int×K)=>oA s b c F.1 F.2.1 F.2.2) (λ_=>.exit 2) (wK s) (oA s b c a m d):=qaR.lx<|tF (tb λe A=>tb λH h=>tb λL o=>tb λP p=>tb λR q=>tb λS r=>tb λX t=>tb λE w=>tb λB i=>tb λa0 x=>tb λa1 y=>tb λa2 z=>tv (qoA.ia A)<|tv (qgp e)<|tx qq7<|tx (qdW e)<|jC 0<|cM (ID s b c a m d e.Name e.Vars e.Hyp.Op e.Hyp.Name e.Hyp.N e.Hyp.Kids e.Goal.Op e.Goal.Name e.Goal.N e.Goal.Kids _ h)<|ts<|tv (bG [WQ] 1 rfl)<|tc [0] (ac _ o)<|ts<|ts<|tc [0] (bh _ p)<|ts<|tv (bG [wk] 1 rfl)<|tc [0] (ac _ q)<|ts<|ts<|tc [0] (p5 _ r)<|ts<|tv (bG [qcD] 1 rfl)<|tc [0] (ac _ t)<|ts<|tv (mo e.Hyp [.i6 e.Goal.Op,.str e.Goal.Name,.i6 e.Goal.N,sl af e.Goal.Kids])<|tc [0] (oB _ w)<|jC 1<|cM (IE s b c a E.1 E.2 e.Name e.Vars e.Hyp.Op e.Hyp.Name e.Hyp.N e.Hyp.Kids e.Goal.Op e.Goal.Name e.Goal.N e.Goal.Kids _ i)<|ts<|tv (bG [B.1] 1 rfl)<|tc [0] (ac _ x)<|ts<|tv (mo e.Goal [])<|tc [0] (oB _ y)<|ts<|tv (bG [B.2] 1 rfl)<|tc [0] (ac _ z)<|tE)<|tE
def IG:=ug (s:=(a,m,d)) λe=>GX s b c e.1 e.2.1 e.2.2
end
def qo(s:iu)(o:V Int)(h:K):Q (V Int×K):=(lV s o h).bind λm=>(lW s m.1 m.2).bind λb=>(lX s b.1 b.2).bind λc=>(rb s.Bounds (s.Bounds.length:Int) 0 c.1 c.2).bind λd=>(dH s.Type_ d.1 d.2).bind λa=>if Y ((s.Metric.length:Int)>0)then (ae ([LL]:V aa) a.2 a.1).bind λi=>(j7 (s.Metric.length:Int) s i a.1).bind λe=>O (e.1,e.2) else O (a.2,a.1)
def MY{s:iu}{q:V Int}{a:K}:OG 107 [.bptr 0 0,.agg (cr s)] [] [ce 0 q a] (qo s q a) (λr=>.tuple []) [] (λr=>[ce 0 r.1 r.2]):=qaR.g 1<|tb λt p=>tb λm b=>tb λo c=>tb λw d=>tb λx e=>qkj (rfl:bF (.bptr 0 0)=O [.bptr 0 0]) rfl<|te (qlP s)<|jC 0<|cM (IA s q a _ p)<|jC 0<|cM (IB s t.1 t.2 _ b)<|jC 0<|cM (IC s m.1 m.2 _ c)<|tw (PY s)<|ca (qoA.ln s.Bounds)<|cM (IG s s.Bounds (s.Bounds.length:Int) 0 o.1 o.2 _ d)<|ts<|tw (PZ s)<|tc [0] (eQ _ e)<|tw (sT s)<|ca (je.ln s.Metric)<|tF (tb λy h=>tb λz i=>ts<|tv (bG [LL] 1 rfl)<|tc [0] (ac _ h)<|ts<|tw (sT s)<|ca (je.ln s.Metric)<|tc [0,1] (Fm _ i)<|tE)<|tE
abbrev gC:=(ah->Int->Q (K×Int))
abbrev gA(R:gC):Prop:=∀(e:ah)(a:Int),OG 199 [.agg (al e),.func (.func 238) [] [.bptr 0 0]] [] [.cells [.i6 a] []] (R e a) (λr=>.bool r.1) [] (λr=>[.cells [.i6 r.2] []])
noncomputable def qtq:W:=f238.body.getD .skip
def qsr:ZF Pg [] 238 f238 qtq:=zf call238 func238 rfl mixed
def jV(a:ah)(b:Int):Q (K×Int):=O (T,dc (b+1))
def QR{a:ah}{b:Int}:OG 238 [.agg (al a),.bptr 0 0] [] [.cells [.i6 b] []] (jV a b) (λr=>.bool r.1) [] (λr=>[.cells [.i6 r.2] []]):=qsr.g 1<|te (dG a)<|ts<|ts<|tE
noncomputable def Za:W:=f199.body.getD .skip
def qfD:ZF Pg [] 199 f199 Za:=zf call199 func199 rfl mixed
section
variable(d:gC)(e:ah)(b:waD)(c a m:Int)
def g9:az:=aR 38 [(1,.func (.func 238) [] [.bptr 0 0]),(2,.eptr (al e)),(14,sl al b),(15,.i6 c),(16,.i6 a)] [.cells [.i6 m] [],.dead] []
def sq(o:Int⊕(Int)):Exit:=match o with|(.inl _)=>.ret|(.inr _)=>.exit 0
def lE(o:Int⊕(Int)):az:=match o with|(.inl o)=>aR 38 [(4,.bool Z)] [.cells [.i6 o] [],.dead] []|(.inr o)=>aR 38 [(1,.func (.func 238) [] [.bptr 0 0]),(2,.eptr (al e))] [.cells [.i6 o] [],.dead] []
instance qxD:KS 1 (g9 e b c a m):=ks 2 rfl
instance qxy{o:Int⊕(Int)}:KS 1 (lE e o):=match o with|(.inl o)=>ks 2 rfl|(.inr o)=>ks 2 rfl
def dR:Q ((Int×Int)⊕(Int⊕(Int))):=if Y (a<c)then (cJ b a).bind λi=>(d i m).bind λh=>if(!h.1)then O (.inr (.inl h.2)) else O (.inl (dc (a+1),h.2)) else O (.inr (.inr m))
def wh:Q (Int⊕(Int)):=loop (λ(h:Int×Int)=>dR d b c h.1 h.2) (a,m)
def CR(h:gA d):OL 1 (cA Za 119) (dR d b c a m) (λ(q:Int×Int)=>g9 e b c q.1 q.2) sq (lE e) (g9 e b c a m):=qfD.lx<|tF (tb λp o=>tb λr i=>tv (iQ.ia o)<|tv (bv p)<|tx qaq<|tx (tV p)<|tv (fH p [])<|tc [0] (h _ _ _ i)<|tF tE<|tE)<|tE
def qM(h:gA d):OK 1 (.loop (cA Za 119)) (wh d b c a m) sq (lE e) (g9 e b c a m):=NA λ_=>CR _ _ _ _ _ _ h
end
section
variable(d:gC)(b:rf)(c a m:Int)
def hO:az:=aR 38 [(1,.func (.func 238) [] [.bptr 0 0]),(26,sl bz b),(27,.i6 c),(28,.i6 a)] [.cells [.i6 m] [],.dead] []
def su(o:Int⊕(Int)):Exit:=match o with|(.inl _)=>.ret|(.inr _)=>.exit 2
def lF(o:Int⊕(Int)):az:=match o with|(.inl o)=>aR 38 [(4,.bool Z)] [.cells [.i6 o] [],.dead] []|(.inr o)=>aR 38 [] [.cells [.i6 o] [],.dead] []
instance qxE:KS 1 (hO b c a m):=ks 2 rfl
instance qxz{o:Int⊕(Int)}:KS 1 (lF o):=match o with|(.inl o)=>ks 2 rfl|(.inr o)=>ks 2 rfl
def dT:Q ((Int×Int)⊕(Int⊕(Int))):=if Y (a<c)then (cJ b a).bind λh=>(d h.Body m).bind λe=>if(!e.1)then O (.inr (.inl e.2)) else O (.inl (dc (a+1),e.2)) else O (.inr (.inr m))
def wj:Q (Int⊕(Int)):=loop (λ(e:Int×Int)=>dT d b c e.1 e.2) (a,m)
def CS(h:gA d):OL 1 (cA Za 247) (dT d b c a m) (λ(p:Int×Int)=>hO b c p.1 p.2) su lF (hO b c a m):=qfD.lx<|tF (tb λo i=>tb λq e=>tv (kn.ia i)<|tv (uL o)<|tx NF<|tx (rE o)<|tv (fH o.Body [])<|tc [0] (h _ _ _ e)<|tF tE<|tE)<|tE
def qN(e:gA d):OK 1 (.loop (cA Za 247)) (wj d b c a m) su lF (hO b c a m):=NA λ_=>CS _ _ _ _ _ e
end
def kf(b:gC)(e:ah)(h:Int):Q (K×Int):=(jV e h).bind λd=>if(!d.1)then O (Z,d.2) else (wh b e.Kids (e.Kids.length:Int) 0 d.2).bind λc=>match c with|(.inl c)=>O (Z,c)| (.inr c) =>(wj b e.Alts (e.Alts.length:Int) 0 c).bind λa=>match a with|(.inl a)=>O (Z,a)|(.inr a)=>O (T,a)
def Hb(b:gC)(a:gA b){e:ah}{o:Int}:OG 199 [.agg (al e),.func (.func 238) [] [.bptr 0 0]] [] [.cells [.i6 o] []] (kf b e o) (λr=>.bool r.1) [] (λr=>[.cells [.i6 r.2] []]):=qfD.g 1<|tb λp h=>te (dG e)<|tv (bv e)<|tc [0] (QR _ h)<|tF tE<|tw (aB e)<|ca (iQ.ln e.Kids)<|t2 (λm d=>cM (qM b e e.Kids (e.Kids.length:Int) 0 p.2 a _ d)<|tE) λm d=>cM (qM b e e.Kids (e.Kids.length:Int) 0 p.2 a _ d)<|tw (aF e)<|ca (kn.ln e.Alts)<|t2 (λi c=>cM (qN b e.Alts (e.Alts.length:Int) 0 m a _ c)<|tE) λi c=>cM (qN b e.Alts (e.Alts.length:Int) 0 m a _ c)<|tE
def oH:((ah×Int)->Q (K×Int))->(ah×Int)->Q (K×Int):=λ(rec:(ah×Int)->Q (K×Int)) (x:ah×Int)=>kf (λe a=>rec (e,a)) x.1 x.2
def rn(e:ah)(a:Int):Q (K×Int):=sQ oH (e,a)
def IX{e:ah}{b:Int}:OG 199 [.agg (al e),.func (.func 238) [] [.bptr 0 0]] [] [.cells [.i6 b] []] (rn e b) (λr=>.bool r.1) [] (λr=>[.cells [.i6 r.2] []]):=qaJ λ_ h=>ij (F:=oH) (M:=λ(x:ah×Int) (r:K×Int)=>C Pg GE 199 [.agg (al x.1),.func (.func 238) [] [.bptr 0 0]] [] [.cells [.i6 x.2] []] (.bool r.1) [] [.cells [.i6 r.2] []]) (λrec a x r h=>Hb _ (λe b=>qaJ λr h=>a (e,b) r h) _ h) h
noncomputable def qtd:W:=f197.body.getD .skip
def qse:ZF Pg [] 197 f197 qtd:=zf call197 func197 rfl mixed
def Bt(e:ah):Q Int:=(rn e 0).bind λa=>O a.2
def T9{e:ah}:OV 197 [.agg (al e)] (Bt e) (λr=>.i6 r) []:=qse.v<|tb λb a=>te (dG e)<|tx qwQ<|ts<|tv (bv e)<|tc [1] (IX _ a)<|ts<|tE
abbrev pj:=(ah->Q Int)
abbrev pe(R:pj):Prop:=∀(e:ah),OV 198 [.agg (al e)] (R e) (λr=>.i6 r) []
noncomputable def qnm:W:=f198.body.getD .skip
def qm8:ZF Pg [] 198 f198 qnm:=zf call198 func198 rfl mixed
section
variable(c:pj)(e:ah)(d:waD)(b n a:Int)
def vO:az:=aR 35 [(1,.eptr (al e)),(3,.i6 n),(9,sl al d),(10,.i6 b),(11,.i6 a)] [.dead] []
def ED(o:Int):az:=aR 35 [(1,.eptr (al e)),(3,.i6 o)] [.dead] []
instance qyx:KS 0 (vO e d b n a):=ks 1 rfl
instance qyk{o:Int}:KS 0 (ED e o):=ks 1 rfl
def gj:Q ((Int×Int)⊕(Int)):=if Y (a<b)then (cJ d a).bind λi=>(c i).bind λh=>O (.inl ((if h>n then h else n),dc (a+1))) else O (.inr n)
def zX:Q Int:=loop (λ(h:Int×Int)=>gj c d b h.1 h.2) (n,a)
def M4(h:pe c):OL 0 (cA qnm 119) (gj c d b n a) (λ(p:Int×Int)=>vO e d b p.1 p.2) (λ_=>.exit 0) (ED e) (vO e d b n a):=qm8.lx<|tF (tb λo m=>tb λq i=>tv (iQ.ia m)<|tv (bv o)<|tx qaq<|tx (tV o)<|tv (fH o [])<|cP (h _ _ i)<|tE)<|tE
def OZ(h:pe c):=ug (s:=(n,a)) λi=>M4 c e d b i.1 i.2 h
end
section
variable(d:pj)(b:rf)(c n a:Int)
def vP:az:=aR 35 [(3,.i6 n),(21,sl bz b),(22,.i6 c),(23,.i6 a)] [.dead] []
def EE(o:Int):az:=aR 35 [(3,.i6 o)] [.dead] []
instance qyy:KS 0 (vP b c n a):=ks 1 rfl
instance qyl{o:Int}:KS 0 (EE o):=ks 1 rfl
def gk:Q ((Int×Int)⊕(Int)):=if Y (a<c)then (cJ b a).bind λh=>(d h.Body).bind λe=>O (.inl ((if e>n then e else n),dc (a+1))) else O (.inr n)
def zY:Q Int:=loop (λ(e:Int×Int)=>gk d b c e.1 e.2) (n,a)
def M5(e:pe d):OL 0 (cA qnm 247) (gk d b c n a) (λ(o:Int×Int)=>vP b c o.1 o.2) (λ_=>.exit 2) EE (vP b c n a):=qm8.lx<|tF (tb λm i=>tb λp h=>tv (kn.ia i)<|tv (uL m)<|tx NF<|tx (rE m)<|tv (fH m.Body [])<|cP (e _ _ h)<|tE)<|tE
def O0(e:pe d):=ug (s:=(n,a)) λh=>M5 d b c h.1 h.2 e
end
def vN(a:pj)(e:ah):Q Int:=(zX a e.Kids (e.Kids.length:Int) 0 0).bind λb=>(zY a e.Alts (e.Alts.length:Int) b 0).bind λc=>O (dc (c+1))
def SD(a:pj)(b:pe a){e:ah}:OV 198 [.agg (al e)] (vN a e) (λr=>.i6 r) []:=qm8.v<|tb λh c=>tb λi d=>te (dG e)<|tw (aB e)<|ca (iQ.ln e.Kids)<|cM (OZ a e e.Kids (e.Kids.length:Int) 0 0 b _ c)<|tw (aF e)<|ca (kn.ln e.Alts)<|cM (O0 a e.Alts (e.Alts.length:Int) h 0 b _ d)<|tE
def CI:(ah->Q Int)->(ah)->Q Int:=λ(rec:ah->Q Int) (x:ah)=>vN (λe=>rec e) x
def IU(e:ah):Q Int:=sQ CI e
def T8{e:ah}:OV 198 [.agg (al e)] (IU e) (λr=>.i6 r) []:=qaK λ_ h=>ij (F:=CI) (M:=λ(x:ah) (r:Int)=>CC Pg GE 198 [.agg (al x)] (.i6 r) []) (λrec a x r h=>SD _ (λe=>qaK λr h=>a e r h) _ h) h
abbrev gB:=(ah->Int->Q (K×Int))
abbrev gz(R:gB):Prop:=∀(e:ah)(a:Int),OG 199 [.agg (al e),.func (.func 200) [] [.bptr 0 0]] [] [.cells [.i6 a] []] (R e a) (λr=>.bool r.1) [] (λr=>[.cells [.i6 r.2] []])
noncomputable def qkR:W:=f239.body.getD .skip
def qkF:ZF Pg [] 239 f239 qkR:=zf call239 func239 rfl mixed
section
variable(a:Int)
def xG:Q K:=if(a==1)then O (a==1) else O (a==2)
def Nc:OU 0 (cA qkR 54) (xG a) .normal (λo=>[(5,.bool o)]) (aR 56 [(2,.bptr 0 0),(4,.i6 a)] [.cells [.bool Z,.bool Z,.i6 0,.i6 0,.bool Z,.bool Z,.i6 0,.i6 0,.bool Z] []] []):=qkF.j<|tF tE<|tE
end
section
variable(a:Int)
def xH:Q K:=if(a==10)then O (a==10) else if(a==11)then O (a==11) else if(a==12)then O (a==12) else if(a==13)then O (a==13) else if(a==14)then O (a==14) else if(a==16)then O (a==16) else if(a==17)then O (a==17) else if(a==18)then O (a==18) else if(a==19)then O (a==19) else if(a==20)then O (a==20) else O (a==24)
def Nd:OU 0 (cA qkR 3670014) (xH a) .normal (λo=>[(30,.bool o)]) (aR 56 [(2,.bptr 0 0),(4,.i6 a)] [.cells [.bool Z,.bool Z,.i6 0,.i6 0,.bool Z,.bool Z,.i6 0,.i6 0,.bool Z] []] []):=qkF.j<|tF tE<|tF tE<|tF tE<|tF tE<|tF tE<|tF tE<|tF tE<|tF tE<|tF tE<|tF tE<|tE
end
section
variable(a:Int)
def xI:Q K:=if(a==15)then O (a==15) else if(a==21)then O (a==21) else if(a==22)then O (a==22) else O (a==23)
def Nf:OU 0 (cA qkR 14680062) (xI a) .normal (λo=>[(43,.bool o)]) (aR 56 [(2,.bptr 0 0),(4,.i6 a)] [.cells [.bool Z,.bool Z,.i6 0,.i6 0,.bool Z,.bool Z,.i6 0,.i6 0,.bool Z] []] []):=qkF.j<|tF tE<|tF tE<|tF tE<|tE
end
def sk(a:Int):Q (av×K):=(xG a).bind λd=>if d then O ((⟨T,Z,0,0,Z,Z,0,0,Z⟩:av),T) else if(a==3)then O ((⟨Z,T,0,0,Z,Z,0,0,Z⟩:av),T) else if(a==4)then O ((⟨Z,T,0,6,Z,Z,0,1073741824,T⟩:av),T) else if(a==5)then O ((⟨Z,T,1,6,Z,Z,0,1073741824,T⟩:av),T) else if(a==6)then O ((⟨Z,Z,1,1,T,Z,0,0,Z⟩:av),T) else if(a==7)then O ((⟨Z,T,2,2,Z,Z,0,1,T⟩:av),T) else if(a==8)then O ((⟨Z,Z,3,3,Z,Z,0,0,Z⟩:av),T) else if(a==9)then O ((⟨Z,Z,1,1,Z,T,0,0,Z⟩:av),T) else (xH a).bind λb=>if b then O ((⟨Z,Z,2,2,Z,Z,0,0,Z⟩:av),T) else (xI a).bind λc=>if c then O ((⟨Z,Z,1,1,Z,Z,0,0,Z⟩:av),T) else if(a==25)then O ((⟨Z,T,2,7,Z,Z,0,0,Z⟩:av),T) else if(a==26)then O ((⟨Z,Z,1,1,Z,Z,1,1,T⟩:av),T) else O ((⟨Z,Z,0,0,Z,Z,0,0,Z⟩:av),Z)
def SJ{c:Int}:OV 239 [.i6 c] (sk c) (λr=>.tuple [.agg (aK r.1),.bool r.2]) []:=qkF.v<|tb λi d=>tx qmL<|jC 2<|cM (Nc c _ d)<|tF (tv (Pz T)<|tx (cQ (⟨T,Z,0,0,Z,Z,0,0,Z⟩:av))<|QZ λq=>aI (m4 PVal.tuple (ej (dg (⟨T,Z,0,0,Z,Z,0,0,Z⟩:av)) (ej (rP (.bool T)) (rfl:([]:V U)=[])))) q.2)<|tF (tv (PA T)<|tx (cQ (⟨Z,T,0,0,Z,Z,0,0,Z⟩:av))<|QZ λq=>aI (m4 PVal.tuple (ej (dg (⟨Z,T,0,0,Z,Z,0,0,Z⟩:av)) (ej (rP (.bool T)) (rfl:([]:V U)=[])))) q.2)<|tF (tv (FW T 6 T 1073741824)<|tx (cQ (⟨Z,T,0,6,Z,Z,0,1073741824,T⟩:av))<|QZ λq=>aI (m4 PVal.tuple (ej (dg (⟨Z,T,0,6,Z,Z,0,1073741824,T⟩:av)) (ej (rP (.bool T)) (rfl:([]:V U)=[])))) q.2)<|tF (tv (qz T 1 6 T 1073741824)<|tx (cQ (⟨Z,T,1,6,Z,Z,0,1073741824,T⟩:av))<|QZ λq=>aI (m4 PVal.tuple (ej (dg (⟨Z,T,1,6,Z,Z,0,1073741824,T⟩:av)) (ej (rP (.bool T)) (rfl:([]:V U)=[])))) q.2)<|tF (tv (JD T 1 1)<|tx (cQ (⟨Z,Z,1,1,T,Z,0,0,Z⟩:av))<|QZ λq=>aI (m4 PVal.tuple (ej (dg (⟨Z,Z,1,1,T,Z,0,0,Z⟩:av)) (ej (rP (.bool T)) (rfl:([]:V U)=[])))) q.2)<|tF (tv (qz T 2 2 T 1)<|tx (cQ (⟨Z,T,2,2,Z,Z,0,1,T⟩:av))<|QZ λq=>aI (m4 PVal.tuple (ej (dg (⟨Z,T,2,2,Z,Z,0,1,T⟩:av)) (ej (rP (.bool T)) (rfl:([]:V U)=[])))) q.2)<|tF (tv (qP 3 3)<|tx (cQ (⟨Z,Z,3,3,Z,Z,0,0,Z⟩:av))<|QZ λq=>aI (m4 PVal.tuple (ej (dg (⟨Z,Z,3,3,Z,Z,0,0,Z⟩:av)) (ej (rP (.bool T)) (rfl:([]:V U)=[])))) q.2)<|tF (tv (JE T 1 1)<|tx (cQ (⟨Z,Z,1,1,Z,T,0,0,Z⟩:av))<|QZ λq=>aI (m4 PVal.tuple (ej (dg (⟨Z,Z,1,1,Z,T,0,0,Z⟩:av)) (ej (rP (.bool T)) (rfl:([]:V U)=[])))) q.2)<|tb λe a=>jC 0<|cM (Nd c _ a)<|tF (tv (qP 2 2)<|tx (cQ (⟨Z,Z,2,2,Z,Z,0,0,Z⟩:av))<|QZ λq=>aI (m4 PVal.tuple (ej (dg (⟨Z,Z,2,2,Z,Z,0,0,Z⟩:av)) (ej (rP (.bool T)) (rfl:([]:V U)=[])))) q.2)<|tb λh b=>jC 0<|cM (Nf c _ b)<|tF (tv (qP 1 1)<|tx (cQ (⟨Z,Z,1,1,Z,Z,0,0,Z⟩:av))<|QZ λq=>aI (m4 PVal.tuple (ej (dg (⟨Z,Z,1,1,Z,Z,0,0,Z⟩:av)) (ej (rP (.bool T)) (rfl:([]:V U)=[])))) q.2)<|tF (tv (JB T 2 7)<|tx (cQ (⟨Z,T,2,7,Z,Z,0,0,Z⟩:av))<|QZ λq=>aI (m4 PVal.tuple (ej (dg (⟨Z,T,2,7,Z,Z,0,0,Z⟩:av)) (ej (rP (.bool T)) (rfl:([]:V U)=[])))) q.2)<|tF (tv (CZ 1 1 T 1 1)<|tx (cQ (⟨Z,Z,1,1,Z,Z,1,1,T⟩:av))<|QZ λq=>aI (m4 PVal.tuple (ej (dg (⟨Z,Z,1,1,Z,Z,1,1,T⟩:av)) (ej (rP (.bool T)) (rfl:([]:V U)=[])))) q.2)<|tv (PB)<|tx (cQ (⟨Z,Z,0,0,Z,Z,0,0,Z⟩:av))<|QZ λq=>aI (m4 PVal.tuple (ej (dg (⟨Z,Z,0,0,Z,Z,0,0,Z⟩:av)) (ej (rP (.bool Z)) (rfl:([]:V U)=[])))) q.2
noncomputable def qtE:W:=f279.body.getD .skip
def qsE:ZF Pg [] 279 f279 qtE:=zf call279 func279 rfl mixed
def Aa(a:bH):Q K:=O (Y ((a.Names.length:Int)>6))
def O3{a:bH}:OV 279 [.agg (bz a)] (Aa a) (λr=>.bool r) []:=qsE.v<|te (qae a)<|tw (sR a)<|ca (cT.ln a.Names)<|tE
noncomputable def qnq:W:=f307.body.getD .skip
def qpI:ZF Pg [10,17] 307 f307 qnq:=zf call307 func307 rfl mixed
section
variable(s:rf)(b a:Int)
def gR:az:=aR 19 [(0,sl bz s),(1,.func (.func 279) [] []),(7,.i6 b),(8,.i6 a)] [] []
def mH(o:Int⊕(Unit)):Exit:=match o with|(.inl _)=>.ret|(.inr _)=>.exit 0
def mI(o:Int⊕(Unit)):az:=match o with|(.inl o)=>aR 19 [(4,.i6 o)] [] []|(.inr o)=>aR 19 [] [] []
def eh:Q (Int⊕(Int⊕(Unit))):=if Y (a<b)then (cJ s a).bind λd=>(Aa d).bind λc=>if c then O (.inr (.inl a)) else O (.inl (dc (a+1))) else O (.inr (.inr ()))
def iW:Q (Int⊕(Unit)):=loop (λ(c:Int)=>eh s b c) a
def vJ:OL 0 (cA qnq 55) (eh s b a) (λ(h:Int)=>gR s b h) mH mI (gR s b a):=qpI.l<|tF (tb λe d=>tb λi c=>tv (kn.ia d)<|tv (uL e)<|cP (O3 _ c)<|tF tE<|tE)<|tE
def lJ:OK 0 (.loop (cA qnq 55)) (iW s b a) mH mI (gR s b a):=NA λ_=>vJ _ _ _
end
def ko(s:rf):Q Int:=(iW s (s.length:Int) 0).bind λa=>match a with|(.inl a)=>O a|(.inr a)=>O (-1)
def zV{s:rf}:OV 307 [sl bz s,.func (.func 279) [] []] (ko s) (λr=>.i6 r) []:=qpI.v<|ca (kn.ln s)<|t2 (λb a=>cM (lJ s (s.length:Int) 0 _ a)<|tE) λb a=>cM (lJ s (s.length:Int) 0 _ a)<|tE
noncomputable def qtD:W:=f278.body.getD .skip
def qsD:ZF Pg [] 278 f278 qtD:=zf call278 func278 rfl mixed
def fu(s:rf):Q K:=(ko s).bind λa=>O (Y (a>=0))
def wn{s:rf}:OV 278 [sl bz s,.func (.func 279) [] []] (fu s) (λr=>.bool r) []:=qsD.v<|tb λb a=>cP (zV _ a)<|tE
end Go.Proofs.YtankopenjcbeeaaGreatDoor
