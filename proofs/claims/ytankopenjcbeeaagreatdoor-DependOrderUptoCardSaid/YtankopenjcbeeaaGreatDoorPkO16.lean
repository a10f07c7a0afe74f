/- PROVED: a part of the proof. Conditions: none. -/
import Derived.Test.YtankopenjcbeeaaGreatDoorPkO15
set_option linter.unusedSimpArgs false set_option linter.defProp false
set_option linter.unusedVariables false
noncomputable section
namespace Go.Proofs.YtankopenjcbeeaaGreatDoor
open Go Go.Proofs.Tryz
open Option renaming some→O,none→N
open Go renaming TypeId→G,Value→D,Program→I,Oper→M,World→J,Code→W
open Bool renaming true→T,false→Z
open Decidable renaming decide→Y
open YtankopenjcbeeaaGreatDoor renaming PVal→U
set_option linter.defProp false
set_option maxRecDepth 100000
noncomputable def qnp:W:=f240.body.getD .skip
def qm9:ZF Pg [] 240 f240 qnp:=zf call240 func240 rfl mixed
section
variable(e:ah)(s:av)
def xw:Q K:=if Y ((e.Kids.length:Int)<s.least)then O T else if Y ((e.Kids.length:Int)>s.most)then O T else if Y ((e.Types.length:Int)<s.typesLeast)then O T else O (Y ((e.Types.length:Int)>s.typesMost))
def M7:OU 0 (cA qnp 12) (xw e s) .normal (λo=>[(34,.bool o)]) (aR 69 [(2,.eptr (al e)),(3,.eptr (aK s))] [.dead,.dead] []):=qm9.j<|
 have a:=λ{X m p} (r:PV _ X m p)=>tw (aB e)<|ca (iQ.ln e.Kids)<|tw (C4 s)<|r;tf (λd=>a<|tg 7 d<|tE) λd=>have b:=λ{X m p} (r:PV _ X m p)=>a<|tg 7 d<|tw (aB e)<|ca (iQ.ln e.Kids)<|tw (C5 s)<|r;tf (λh=>b<|tg 15 h<|tE) λh=>have c:=λ{X m p} (r:PV _ X m p)=>b<|tg 15 h<|tw (ax e)<|ca (ff.ln e.Types)<|tw (C7 s)<|r;tf (λi=>c<|tg 23 i<|tE) λi=>c<|tg 23 i<|tw (ax e)<|ca (ff.ln e.Types)<|tw (C8 s)<|tE
end
section
variable(e:ah)(s:av)
def xx:Q K:=if s.params then if Y ((e.Params.length:Int)<1)then O T else if Y ((e.Params.length:Int)>6)then O T else if s.alts then if Y ((e.Alts.length:Int)<1)then O T else O (Y ((e.Alts.length:Int)>8)) else O Z else if s.alts then if Y ((e.Alts.length:Int)<1)then O T else O (Y ((e.Alts.length:Int)>8)) else O Z
def M8:OU 0 (cA qnp 28) (xx e s) .normal (λo=>[(3,.undef),(64,.bool o)]) (aR 69 [(2,.eptr (al e)),(3,.eptr (aK s))] [.dead,.dead] []):=qm9.j<|
 have a:=λ{X A B} (r:PV _ X A B)=>tw (C6 s)<|r;tf (λz=>have b:=λ{X A B} (r:PV _ X A B)=>a<|tg 3 z<|tw (bk e)<|ca (CA.ln e.Params)<|r;tf (λp=>b<|tg 8 p<|tE) λp=>have c:=λ{X A B} (r:PV _ X A B)=>b<|tg 8 p<|tw (bk e)<|ca (CA.ln e.Params)<|r;tf (λq=>c<|tg 15 q<|tE) λq=>have d:=λ{X A B} (r:PV _ X A B)=>c<|tg 15 q<|tw (qA s)<|r;tf (λt=>have h:=λ{X A B} (r:PV _ X A B)=>d<|tg 18 t<|tw (aF e)<|ca (kn.ln e.Alts)<|r;tf (λw=>h<|tg 23 w<|tE) λw=>h<|tg 23 w<|tw (aF e)<|ca (kn.ln e.Alts)<|tE) λt=>d<|tg 18 t<|tE) λz=>have i:=λ{X A B} (r:PV _ X A B)=>a<|tg 3 z<|tw (qA s)<|r;tf (λx=>have m:=λ{X A B} (r:PV _ X A B)=>i<|tg 18 x<|tw (aF e)<|ca (kn.ln e.Alts)<|r;tf (λy=>m<|tg 23 y<|tE) λy=>m<|tg 23 y<|tw (aF e)<|ca (kn.ln e.Alts)<|tE) λx=>i<|tg 18 x<|tE
end
def yj(e:ah)(s:av):Q K:=(xw e s).bind λc=>if c then O Z else (xx e s).bind λa=>if a then O Z else (fu e.Alts).bind λb=>O (!b)
def SI{e:ah}{s:av}:OV 240 [.agg (al e),.agg (aK s)] (yj e s) (λr=>.bool r) []:=qm9.v<|tb λi c=>te (dG e)<|te (Jj s)<|jC 1<|cM (M7 e s _ c)<|tF tE<|tb λd a=>jC 1<|cM (M8 e s _ a)<|tF tE<|tb λh b=>tw (aF e)<|cP (wn _ b)<|tE
noncomputable def qpW:W:=f184.body.getD .skip
def qpv:ZF Pg [12,18] 184 f184 qpW:=zf call184 func184 rfl mixed
section
variable(c:waF)(d:Int)(a:waA)(b:Int)
def vQ:az:=aR 19 [(3,sl cS a),(6,sl aU c),(7,.i6 d),(8,.i6 b)] [] [((3,0),9)]
def EH(o:waA):az:=aR 19 [(3,sl cS o)] [] [((3,0),9)]
instance qyz:KS 0 (vQ c d a b):=ks 0 rfl
instance qym{o:waA}:KS 0 (EH o):=ks 0 rfl
def gm:Q ((waA×Int)⊕(waA)):=if Y (b<d)then (cJ c b).bind λh=>(app a ([h.Name]:V aa)).bind λe=>O (.inl (e,dc (b+1))) else O (.inr a)
def z7:Q waA:=loop (λ(e:waA×Int)=>gm c d e.1 e.2) (a,b)
def M6:OL 0 (cA qpW 119) (gm c d a b) (λ(m:waA×Int)=>vQ c d m.1 m.2) (λ_=>.exit 0) EH (vQ c d a b):=qpv.lx<|tF (tb λi h=>tb λo e=>tv (CA.ia h)<|tv (Mf i)<|tx qfi<|tx (H9 i)<|ts<|tv (bG [i.Name] 1 rfl)<|tv (cT.ap e)<|tE)<|tE
def O1:=ug (s:=(a,b)) λe=>M6 c d e.1 e.2
end
def qt(a:waF):Q waA:=(z7 a (a.length:Int) ([]:V aa) 0).bind λb=>O b
def z8{a:waF}:OV 184 [sl aU a] (qt a) (λr=>sl cS r) [(0,9)]:=qpv.v<|tb λc b=>ca (CA.ln a)<|cM (O1 a (a.length:Int) ([]:V aa) 0 _ b)<|tE
noncomputable def qnr:W:=f308.body.getD .skip
def qpJ:ZF Pg [] 308 f308 qnr:=zf call308 func308 rfl mixed
section
variable(c:waA)(d b:Int)(a:V (aa×K))
def qW:az:=aR 19 [(3,.mapr 0),(7,sl cS c),(8,.i6 d),(9,.i6 b)] [.map (bU PVal.bool a)] []
def Ar(o:((V (aa×K)))⊕((V (aa×K)))):Exit:=match o with|(.inl _)=>.ret|(.inr _)=>.exit 0
def As(o:((V (aa×K)))⊕((V (aa×K)))):az:=match o with|(.inl o)=>aR 19 [(2,.bool Z)] [.map (bU PVal.bool o)] []|(.inr o)=>aR 19 [] [.map (bU PVal.bool o)] []
def cf:Q ((Int×(V (aa×K)))⊕(((V (aa×K)))⊕((V (aa×K))))):=if Y (b<d)then (cJ c b).bind λe=>if((oe a e).getD Z)then O (.inr (.inl a)) else O (.inl (dc (b+1),mq a e T)) else O (.inr (.inr a))
def uN:Q (((V (aa×K)))⊕((V (aa×K)))):=loop (λ(e:Int×(V (aa×K)))=>cf c d e.1 e.2) (b,a)
def JN:OL 0 (cA qnr 119) (cf c d b a) (λ(i:Int×(V (aa×K)))=>qW c d i.1 i.2) Ar As (qW c d b a):=qpJ.l<|tF (tb λh e=>tv (cT.ia e)<|tv (cX OR (.str h) [])<|tv (RO (f:=PVal.bool) underlying84 underlying9 qo6 a h)<|tF tE<|qo4 (RP (f:=PVal.bool) underlying84 underlying9 a h T)<|tE)<|tE
def yK:OK 0 (.loop (cA qnr 119)) (uN c d b a) Ar As (qW c d b a):=NA λ_=>JN _ _ _ _
end
def uM(a:waA):Q K:=(uN a (a.length:Int) 0 ([]:V (aa×K))).bind λb=>match b with|(.inl b)=>O Z|(.inr b)=>O T
def Qc{a:waA}:OV 308 [sl cS a] (uM a) (λr=>.bool r) []:=qpJ.v<|ca (cT.ln a)<|t2 (λc b=>cM (yK a (a.length:Int) 0 ([]:V (aa×K)) _ b)<|tE) λc b=>cM (yK a (a.length:Int) 0 ([]:V (aa×K)) _ b)<|tE
noncomputable def qtG:W:=f280.body.getD .skip
def qsF:ZF Pg [] 280 f280 qtG:=zf call280 func280 rfl mixed
def qw(a:waA):Q K:=(uM a).bind λb=>O (!b)
def Af{a:waA}:OV 280 [sl cS a] (qw a) (λr=>.bool r) []:=qsF.v<|tb λc b=>cP (Qc _ b)<|tE
noncomputable def qp2:W:=f281.body.getD .skip
def qpF:ZF Pg [12,18] 281 f281 qp2:=zf call281 func281 rfl mixed
section
variable(c:rf)(d:Int)(a:waA)(b:Int)
def lB:az:=aR 19 [(3,sl cS a),(6,sl bz c),(7,.i6 d),(8,.i6 b)] [] [((3,0),9)]
def sb(o:waA):az:=aR 19 [(3,sl cS o)] [] [((3,0),9)]
instance qxA:KS 0 (lB c d a b):=ks 0 rfl
instance qxv{o:waA}:KS 0 (sb o):=ks 0 rfl
def dN:Q ((waA×Int)⊕(waA)):=if Y (b<d)then (cJ c b).bind λh=>(app a ([h.Con]:V aa)).bind λe=>O (.inl (e,dc (b+1))) else O (.inr a)
def nG:Q waA:=loop (λ(e:waA×Int)=>dN c d e.1 e.2) (a,b)
def CK:OL 0 (cA qp2 119) (dN c d a b) (λ(m:waA×Int)=>lB c d m.1 m.2) (λ_=>.exit 0) sb (lB c d a b):=qpF.lx<|tF (tb λi h=>tb λo e=>tv (kn.ia h)<|tv (uL i)<|tx NF<|tx (rE i)<|ts<|tv (bG [i.Con] 1 rfl)<|tv (cT.ap e)<|tE)<|tE
def Dn:=ug (s:=(a,b)) λe=>CK c d e.1 e.2
end
def mc(a:rf):Q waA:=(nG a (a.length:Int) ([]:V aa) 0).bind λb=>O b
def IV{a:rf}:OV 281 [sl bz a] (mc a) (λr=>sl cS r) [(0,9)]:=qpF.v<|tb λc b=>ca (kn.ln a)<|cM (Dn a (a.length:Int) ([]:V aa) 0 _ b)<|tE
noncomputable def qtI:W:=f283.body.getD .skip
def qsH:ZF Pg [] 283 f283 qtI:=zf call283 func283 rfl mixed
def CL(a:aa):Q K:=(nj a).bind λb=>O (b !=0)
def QS{a:aa}:OV 283 [.str a] (CL a) (λr=>.bool r) []:=qsH.v<|tb λc b=>cP (jy _ b)<|tE
noncomputable def qp5:W:=f51.body.getD .skip
def qry:ZF Pg [10,17] 51 f51 qp5:=zf call51 func51 rfl mixed
section
variable(s:waA)(b a:Int)
def il:az:=aR 19 [(0,sl cS s),(1,.func (.func 283) [] []),(7,.i6 b),(8,.i6 a)] [] []
def mV(o:Int⊕(Unit)):Exit:=match o with|(.inl _)=>.ret|(.inr _)=>.exit 0
def mW(o:Int⊕(Unit)):az:=match o with|(.inl o)=>aR 19 [(4,.i6 o)] [] []|(.inr o)=>aR 19 [] [] []
def er:Q (Int⊕(Int⊕(Unit))):=if Y (a<b)then (cJ s a).bind λd=>(CL d).bind λc=>if c then O (.inr (.inl a)) else O (.inl (dc (a+1))) else O (.inr (.inr ()))
def jp:Q (Int⊕(Unit)):=loop (λ(c:Int)=>er s b c) a
def wo:OL 0 (cA qp5 55) (er s b a) (λ(h:Int)=>il s b h) mV mW (il s b a):=qry.l<|tF (tb λe d=>tb λi c=>tv (cT.ia d)<|tv (cX OR (.str e) [])<|cP (QS _ c)<|tF tE<|tE)<|tE
def mJ:OK 0 (.loop (cA qp5 55)) (jp s b a) mV mW (il s b a):=NA λ_=>wo _ _ _
end
def ly(s:waA):Q Int:=(jp s (s.length:Int) 0).bind λa=>match a with|(.inl a)=>O a|(.inr a)=>O (-1)
def Bq{s:waA}:OV 51 [sl cS s,.func (.func 283) [] []] (ly s) (λr=>.i6 r) []:=qry.v<|ca (cT.ln s)<|t2 (λb a=>cM (mJ s (s.length:Int) 0 _ a)<|tE) λb a=>cM (mJ s (s.length:Int) 0 _ a)<|tE
noncomputable def qtH:W:=f282.body.getD .skip
def qsG:ZF Pg [] 282 f282 qtH:=zf call282 func282 rfl mixed
def fQ(s:waA):Q K:=(ly s).bind λa=>O (Y (a>=0))
def xr{s:waA}:OV 282 [sl cS s,.func (.func 283) [] []] (fQ s) (λr=>.bool r) []:=qsG.v<|tb λb a=>cP (Bq _ a)<|tE
noncomputable def qkS:W:=f242.body.getD .skip
def qkG:ZF Pg [14,36] 242 f242 qkS:=zf call242 func242 rfl mixed
section
variable(e:ah)(s:av)(v:waA)
def Ab:Q waA:=if s.name then (app v ([e.Name]:V aa)).bind λa=>O a else O v
def O4:OU 0 (cA qkS 14) (Ab e s v) .normal (λo=>[(3,.undef),(5,sl cS o)]) (aR 54 [(2,.eptr (al e)),(3,.eptr (aK s)),(5,sl cS v)] [.dead,.dead] [((5,0),9)]):=qkG.j<|tw (C3 s)<|tF (tb λb a=>tw (cc e)<|tv (bG [e.Name] 1 rfl)<|tv (cT.ap a)<|tE)<|tE
end
section
variable(e:ah)(v:waA)
def Ac:Q K:=(qt e.Params).bind λb=>(qw b).bind λc=>if c then O T else (mc e.Alts).bind λd=>(qw d).bind λa=>O a
def O5:OU 0 (cA qkS 30) (Ac e) .normal (λo=>[(6,.bool o)]) (aR 54 [(2,.eptr (al e)),(5,sl cS v)] [.dead,.dead] [((5,0),9)]):=qkG.j<|
 tb λp c=>tb λq d=>have b:=λ{X t w} (r:PV _ X t w)=>tw (bk e)<|cP (z8 _ c)<|cP (Af _ d)<|r;tf (λi=>b<|tg 5 i<|tE) λi=>tb λs h=>tb λm a=>b<|tg 5 i<|tw (aF e)<|cP (IV _ h)<|cP (Af _ a)<|tE
end
section
variable(c:rf)(d:Int)(v:waA)(a:K)(b:Int)
def vR:az:=aR 54 [(5,sl cS v),(6,.bool a),(30,sl bz c),(31,.i6 d),(32,.i6 b)] [.dead,.dead] [((5,0),9)]
def EI(o:waA×K):az:=aR 54 [(5,sl cS o.1),(6,.bool o.2)] [.dead,.dead] [((5,0),9)]
instance qyA:KS 0 (vR c d v a b):=ks 2 rfl
instance qyn{o:waA×Bool}:KS 0 (EI o):=ks 2 rfl
def gn:Q ((waA×K×Int)⊕(waA×K)):=if Y (b<d)then (cJ c b).bind λe=>(app v ([e.Con]:V aa)).bind λi=>(app i e.Names).bind λh=>if a then O (.inl (h,T,dc (b+1))) else (qw e.Names).bind λm=>O (.inl (h,m,dc (b+1))) else O (.inr (v,a))
def Ad:Q (waA×K):=loop (λ(e:waA×K×Int)=>gn c d e.1 e.2.1 e.2.2) (v,a,b)
def Na:OL 0 (cA qkS 503) (gn c d v a b) (λ(q:waA×K×Int)=>vR c d q.1 q.2.1 q.2.2) (λ_=>.exit 0) EI (vR c d v a b):=qkG.lx<|tF (tb λh p=>tb λr i=>tb λs m=>tv (kn.ia p)<|tv (uL h)<|tx NF<|tx (rE h)<|qfr [0,0,2,6,15,0,32,127,255]<|ts<|tv (bG [h.Con] 1 rfl)<|tv (cT.ap i)<|ts<|tv (cT.ap m)<|tf (λe=>tg 2 e<|tE) λe=>tb λt o=>tg 2 e<|ts<|cP (Af _ o)<|tE)<|tE
def O6:=ug (s:=(v,a,b)) λe=>Na c d e.1 e.2.1 e.2.2
end
def Bu(e:ah)(s:av):Q Int:=(qt e.Params).bind λh=>(Ab e s h).bind λd=>(Ac e).bind λb=>(Ad e.Alts (e.Alts.length:Int) d b 0).bind λa=>(fQ a.1).bind λc=>if c then O 3 else if a.2 then O 4 else O 0
def Uc{e:ah}{s:av}:OV 242 [.agg (al e),.agg (aK s)] (Bu e s) (λr=>.i6 r) []:=qkG.v<|tb λp h=>tb λm d=>tb λi a=>tb λo b=>tb λq c=>te (dG e)<|te (Jj s)<|tw (bk e)<|cP (z8 _ h)<|jC 0<|cM (O4 e s p _ d)<|jC 0<|cM (O5 e m _ a)<|tw (aF e)<|ca (kn.ln e.Alts)<|cM (O6 e.Alts (e.Alts.length:Int) m i 0 _ b)<|cP (xr _ c)<|tF tE<|tF tE<|tE
noncomputable def qtt:W:=f243.body.getD .skip
def qst:ZF Pg [] 243 f243 qtt:=zf call243 func243 rfl mixed
def EL(t:ai):Q K:=(jb cU t (⟨0,[],[],[],⟨0,[],0,[]⟩,[]⟩:ai)).bind λa=>O a
def WH{t:ai}:OV 243 [.agg (aj t)] (EL t) (λr=>.bool r) []:=qst.v<|tb λb a=>te (nN t)<|tv (fp t)<|XD (qcZ) (qcX)<|cP (td cU (λ_ _=>iV) _ a)<|tE
noncomputable def Zb:W:=f201.body.getD .skip
def qcQ:ZF Pg [122,134,154] 201 f201 Zb:=zf call201 func201 rfl mixed
section
variable(e:ah)(ok m h:K)(i d:Int)(c b:K)(p q:Int)(a:K)
def vS:Q K:=if (!m) = T then if(e.N !=0)then O T else if(!h)then if(!(e.Name==([]:aa)))then O T else if(d==0)then if Y ((e.Kids.length:Int)>0)then O T else if(!c)then if Y ((e.Params.length:Int)>0)then O T else if(!b)then if Y ((e.Alts.length:Int)>0)then O T else if(!a)then O (Y ((e.Types.length:Int)>0)) else O Z else if(!a)then O (Y ((e.Types.length:Int)>0)) else O Z else if(!b)then if Y ((e.Alts.length:Int)>0)then O T else if(!a)then O (Y ((e.Types.length:Int)>0)) else O Z else if(!a)then O (Y ((e.Types.length:Int)>0)) else O Z else if(!c)then if Y ((e.Params.length:Int)>0)then O T else if(!b)then if Y ((e.Alts.length:Int)>0)then O T else if(!a)then O (Y ((e.Types.length:Int)>0)) else O Z else if(!a)then O (Y ((e.Types.length:Int)>0)) else O Z else if(!b)then if Y ((e.Alts.length:Int)>0)then O T else if(!a)then O (Y ((e.Types.length:Int)>0)) else O Z else if(!a)then O (Y ((e.Types.length:Int)>0)) else O Z else if(d==0)then if Y ((e.Kids.length:Int)>0)then O T else if(!c)then if Y ((e.Params.length:Int)>0)then O T else if(!b)then if Y ((e.Alts.length:Int)>0)then O T else if(!a)then O (Y ((e.Types.length:Int)>0)) else O Z else if(!a)then O (Y ((e.Types.length:Int)>0)) else O Z else if(!b)then if Y ((e.Alts.length:Int)>0)then O T else if(!a)then O (Y ((e.Types.length:Int)>0)) else O Z else if(!a)then O (Y ((e.Types.length:Int)>0)) else O Z else if(!c)then if Y ((e.Params.length:Int)>0)then O T else if(!b)then if Y ((e.Alts.length:Int)>0)then O T else if(!a)then O (Y ((e.Types.length:Int)>0)) else O Z else if(!a)then O (Y ((e.Types.length:Int)>0)) else O Z else if(!b)then if Y ((e.Alts.length:Int)>0)then O T else if(!a)then O (Y ((e.Types.length:Int)>0)) else O Z else if(!a)then O (Y ((e.Types.length:Int)>0)) else O Z else if(!h)then if(!(e.Name==([]:aa)))then O T else if(d==0)then if Y ((e.Kids.length:Int)>0)then O T else if(!c)then if Y ((e.Params.length:Int)>0)then O T else if(!b)then if Y ((e.Alts.length:Int)>0)then O T else if(!a)then O (Y ((e.Types.length:Int)>0)) else O Z else if(!a)then O (Y ((e.Types.length:Int)>0)) else O Z else if(!b)then if Y ((e.Alts.length:Int)>0)then O T else if(!a)then O (Y ((e.Types.length:Int)>0)) else O Z else if(!a)then O (Y ((e.Types.length:Int)>0)) else O Z else if(!c)then if Y ((e.Params.length:Int)>0)then O T else if(!b)then if Y ((e.Alts.length:Int)>0)then O T else if(!a)then O (Y ((e.Types.length:Int)>0)) else O Z else if(!a)then O (Y ((e.Types.length:Int)>0)) else O Z else if(!b)then if Y ((e.Alts.length:Int)>0)then O T else if(!a)then O (Y ((e.Types.length:Int)>0)) else O Z else if(!a)then O (Y ((e.Types.length:Int)>0)) else O Z else if(d==0)then if Y ((e.Kids.length:Int)>0)then O T else if(!c)then if Y ((e.Params.length:Int)>0)then O T else if(!b)then if Y ((e.Alts.length:Int)>0)then O T else if(!a)then O (Y ((e.Types.length:Int)>0)) else O Z else if(!a)then O (Y ((e.Types.length:Int)>0)) else O Z else if(!b)then if Y ((e.Alts.length:Int)>0)then O T else if(!a)then O (Y ((e.Types.length:Int)>0)) else O Z else if(!a)then O (Y ((e.Types.length:Int)>0)) else O Z else if(!c)then if Y ((e.Params.length:Int)>0)then O T else if(!b)then if Y ((e.Alts.length:Int)>0)then O T else if(!a)then O (Y ((e.Types.length:Int)>0)) else O Z else if(!a)then O (Y ((e.Types.length:Int)>0)) else O Z else if(!b)then if Y ((e.Alts.length:Int)>0)then O T else if(!a)then O (Y ((e.Types.length:Int)>0)) else O Z else if(!a)then O (Y ((e.Types.length:Int)>0)) else O Z
theorem QT:OU 0 (cA Zb 14) (vS e m h d c b a) .normal (λo=>[(5,.bool o)]) (aR 156 [(1,.eptr (al e)),(3,.bptr 1 0),(4,.bool ok)] [.dead,.cells [.bool m,.bool h,.i6 i,.i6 d,.bool c,.bool b,.i6 p,.i6 q,.bool a] []] []):=qcQ.j<|
 tf (λc2=>have k7:=λ{X kd kk} (r:PV _ X kd kk)=>ts<|tg 4 c2<|tw (di e)<|r;tf (λc3=>k7<|tg 9 c3<|tE) λc3=>have k8:=λ{X kd kk} (r:PV _ X kd kk)=>k7<|tg 9 c3<|ts<|r;tf (λc5=>have k9:=λ{X kd kk} (r:PV _ X kd kk)=>k8<|tg 13 c5<|tw (cc e)<|r;tf (λc7=>k9<|tg 19 c7<|tE) λc7=>have el:=λ{X kd kk} (r:PV _ X kd kk)=>k9<|tg 19 c7<|ts<|r;tf (λc9=>have em:=λ{X kd kk} (r:PV _ X kd kk)=>el<|tg 23 c9<|tw (aB e)<|ca (iQ.ln e.Kids)<|r;tf (λhf=>em<|tg 30 hf<|tE) λhf=>have es:=λ{X kd kk} (r:PV _ X kd kk)=>em<|tg 30 hf<|ts<|r;tf (λhg=>have et:=λ{X kd kk} (r:PV _ X kd kk)=>es<|tg 34 hg<|tw (bk e)<|ca (CA.ln e.Params)<|r;tf (λhh=>et<|tg 41 hh<|tE) λhh=>have ex:=λ{X kd kk} (r:PV _ X kd kk)=>et<|tg 41 hh<|ts<|r;tf (λhi=>have f1:=λ{X kd kk} (r:PV _ X kd kk)=>ex<|tg 45 hi<|tw (aF e)<|ca (kn.ln e.Alts)<|r;tf (λhj=>f1<|tg 52 hj<|tE) λhj=>have f2:=λ{X kd kk} (r:PV _ X kd kk)=>f1<|tg 52 hj<|ts<|r;tf (λhk=>f2<|tg 56 hk<|tw (ax e)<|ca (ff.ln e.Types)<|tE) λhk=>f2<|tg 56 hk<|tE) λhi=>have f3:=λ{X kd kk} (r:PV _ X kd kk)=>ex<|tg 45 hi<|ts<|r;tf (λhl=>f3<|tg 56 hl<|tw (ax e)<|ca (ff.ln e.Types)<|tE) λhl=>f3<|tg 56 hl<|tE) λhg=>have f4:=λ{X kd kk} (r:PV _ X kd kk)=>es<|tg 34 hg<|ts<|r;tf (λhm=>have f5:=λ{X kd kk} (r:PV _ X kd kk)=>f4<|tg 45 hm<|tw (aF e)<|ca (kn.ln e.Alts)<|r;tf (λhn=>f5<|tg 52 hn<|tE) λhn=>have f6:=λ{X kd kk} (r:PV _ X kd kk)=>f5<|tg 52 hn<|ts<|r;tf (λho=>f6<|tg 56 ho<|tw (ax e)<|ca (ff.ln e.Types)<|tE) λho=>f6<|tg 56 ho<|tE) λhm=>have f8:=λ{X kd kk} (r:PV _ X kd kk)=>f4<|tg 45 hm<|ts<|r;tf (λhp=>f8<|tg 56 hp<|tw (ax e)<|ca (ff.ln e.Types)<|tE) λhp=>f8<|tg 56 hp<|tE) λc9=>have f9:=λ{X kd kk} (r:PV _ X kd kk)=>el<|tg 23 c9<|ts<|r;tf (λhq=>have fd:=λ{X kd kk} (r:PV _ X kd kk)=>f9<|tg 34 hq<|tw (bk e)<|ca (CA.ln e.Params)<|r;tf (λhr=>fd<|tg 41 hr<|tE) λhr=>have fs:=λ{X kd kk} (r:PV _ X kd kk)=>fd<|tg 41 hr<|ts<|r;tf (λhs=>have fv:=λ{X kd kk} (r:PV _ X kd kk)=>fs<|tg 45 hs<|tw (aF e)<|ca (kn.ln e.Alts)<|r;tf (λht=>fv<|tg 52 ht<|tE) λht=>have fz:=λ{X kd kk} (r:PV _ X kd kk)=>fv<|tg 52 ht<|ts<|r;tf (λhu=>fz<|tg 56 hu<|tw (ax e)<|ca (ff.ln e.Types)<|tE) λhu=>fz<|tg 56 hu<|tE) λhs=>have g1:=λ{X kd kk} (r:PV _ X kd kk)=>fs<|tg 45 hs<|ts<|r;tf (λhv=>g1<|tg 56 hv<|tw (ax e)<|ca (ff.ln e.Types)<|tE) λhv=>g1<|tg 56 hv<|tE) λhq=>have g2:=λ{X kd kk} (r:PV _ X kd kk)=>f9<|tg 34 hq<|ts<|r;tf (λhw=>have g3:=λ{X kd kk} (r:PV _ X kd kk)=>g2<|tg 45 hw<|tw (aF e)<|ca (kn.ln e.Alts)<|r;tf (λhx=>g3<|tg 52 hx<|tE) λhx=>have g4:=λ{X kd kk} (r:PV _ X kd kk)=>g3<|tg 52 hx<|ts<|r;tf (λhy=>g4<|tg 56 hy<|tw (ax e)<|ca (ff.ln e.Types)<|tE) λhy=>g4<|tg 56 hy<|tE) λhw=>have g5:=λ{X kd kk} (r:PV _ X kd kk)=>g2<|tg 45 hw<|ts<|r;tf (λhz=>g5<|tg 56 hz<|tw (ax e)<|ca (ff.ln e.Types)<|tE) λhz=>g5<|tg 56 hz<|tE) λc5=>have g6:=λ{X kd kk} (r:PV _ X kd kk)=>k8<|tg 13 c5<|ts<|r;tf (λi0=>have g7:=λ{X kd kk} (r:PV _ X kd kk)=>g6<|tg 23 i0<|tw (aB e)<|ca (iQ.ln e.Kids)<|r;tf (λi1=>g7<|tg 30 i1<|tE) λi1=>have gc:=λ{X kd kk} (r:PV _ X kd kk)=>g7<|tg 30 i1<|ts<|r;tf (λi2=>have ge:=λ{X kd kk} (r:PV _ X kd kk)=>gc<|tg 34 i2<|tw (bk e)<|ca (CA.ln e.Params)<|r;tf (λi3=>ge<|tg 41 i3<|tE) λi3=>have gl:=λ{X kd kk} (r:PV _ X kd kk)=>ge<|tg 41 i3<|ts<|r;tf (λi4=>have gs:=λ{X kd kk} (r:PV _ X kd kk)=>gl<|tg 45 i4<|tw (aF e)<|ca (kn.ln e.Alts)<|r;tf (λi5=>gs<|tg 52 i5<|tE) λi5=>have gt:=λ{X kd kk} (r:PV _ X kd kk)=>gs<|tg 52 i5<|ts<|r;tf (λi9=>gt<|tg 56 i9<|tw (ax e)<|ca (ff.ln e.Types)<|tE) λi9=>gt<|tg 56 i9<|tE) λi4=>have gx:=λ{X kd kk} (r:PV _ X kd kk)=>gl<|tg 45 i4<|ts<|r;tf (λih=>gx<|tg 56 ih<|tw (ax e)<|ca (ff.ln e.Types)<|tE) λih=>gx<|tg 56 ih<|tE) λi2=>have h0:=λ{X kd kk} (r:PV _ X kd kk)=>gc<|tg 34 i2<|ts<|r;tf (λit=>have h1:=λ{X kd kk} (r:PV _ X kd kk)=>h0<|tg 45 it<|tw (aF e)<|ca (kn.ln e.Alts)<|r;tf (λix=>h1<|tg 52 ix<|tE) λix=>have h2:=λ{X kd kk} (r:PV _ X kd kk)=>h1<|tg 52 ix<|ts<|r;tf (λj1=>h2<|tg 56 j1<|tw (ax e)<|ca (ff.ln e.Types)<|tE) λj1=>h2<|tg 56 j1<|tE) λit=>have h3:=λ{X kd kk} (r:PV _ X kd kk)=>h0<|tg 45 it<|ts<|r;tf (λj2=>h3<|tg 56 j2<|tw (ax e)<|ca (ff.ln e.Types)<|tE) λj2=>h3<|tg 56 j2<|tE) λi0=>have h4:=λ{X kd kk} (r:PV _ X kd kk)=>g6<|tg 23 i0<|ts<|r;tf (λj3=>have h5:=λ{X kd kk} (r:PV _ X kd kk)=>h4<|tg 34 j3<|tw (bk e)<|ca (CA.ln e.Params)<|r;tf (λjg=>h5<|tg 41 jg<|tE) λjg=>have h6:=λ{X kd kk} (r:PV _ X kd kk)=>h5<|tg 41 jg<|ts<|r;tf (λjj=>have h7:=λ{X kd kk} (r:PV _ X kd kk)=>h6<|tg 45 jj<|tw (aF e)<|ca (kn.ln e.Alts)<|r;tf (λjs=>h7<|tg 52 js<|tE) λjs=>have h8:=λ{X kd kk} (r:PV _ X kd kk)=>h7<|tg 52 js<|ts<|r;tf (λju=>h8<|tg 56 ju<|tw (ax e)<|ca (ff.ln e.Types)<|tE) λju=>h8<|tg 56 ju<|tE) λjj=>have h9:=λ{X kd kk} (r:PV _ X kd kk)=>h6<|tg 45 jj<|ts<|r;tf (λk0=>h9<|tg 56 k0<|tw (ax e)<|ca (ff.ln e.Types)<|tE) λk0=>h9<|tg 56 k0<|tE) λj3=>have ha:=λ{X kd kk} (r:PV _ X kd kk)=>h4<|tg 34 j3<|ts<|r;tf (λk1=>have hb:=λ{X kd kk} (r:PV _ X kd kk)=>ha<|tg 45 k1<|tw (aF e)<|ca (kn.ln e.Alts)<|r;tf (λk2=>hb<|tg 52 k2<|tE) λk2=>have hc:=λ{X kd kk} (r:PV _ X kd kk)=>hb<|tg 52 k2<|ts<|r;tf (λk3=>hc<|tg 56 k3<|tw (ax e)<|ca (ff.ln e.Types)<|tE) λk3=>hc<|tg 56 k3<|tE) λk1=>have hd:=λ{X kd kk} (r:PV _ X kd kk)=>ha<|tg 45 k1<|ts<|r;tf (λk4=>hd<|tg 56 k4<|tw (ax e)<|ca (ff.ln e.Types)<|tE) λk4=>hd<|tg 56 k4<|tE) λc2=>have he:=λ{X kd kk} (r:PV _ X kd kk)=>ts<|tg 4 c2<|ts<|r;tf (λk5=>have bn:=λ{X kd kk} (r:PV _ X kd kk)=>he<|tg 13 k5<|tw (cc e)<|r;tf (λk6=>bn<|tg 19 k6<|tE) λk6=>have bq:=λ{X kd kk} (r:PV _ X kd kk)=>bn<|tg 19 k6<|ts<|r;tf (λs=>have br:=λ{X kd kk} (r:PV _ X kd kk)=>bq<|tg 23 s<|tw (aB e)<|ca (iQ.ln e.Kids)<|r;tf (λt=>br<|tg 30 t<|tE) λt=>have bs:=λ{X kd kk} (r:PV _ X kd kk)=>br<|tg 30 t<|ts<|r;tf (λw=>have bt:=λ{X kd kk} (r:PV _ X kd kk)=>bs<|tg 34 w<|tw (bk e)<|ca (CA.ln e.Params)<|r;tf (λx=>bt<|tg 41 x<|tE) λx=>have c0:=λ{X kd kk} (r:PV _ X kd kk)=>bt<|tg 41 x<|ts<|r;tf (λy=>have c1:=λ{X kd kk} (r:PV _ X kd kk)=>c0<|tg 45 y<|tw (aF e)<|ca (kn.ln e.Alts)<|r;tf (λz=>c1<|tg 52 z<|tE) λz=>have c4:=λ{X kd kk} (r:PV _ X kd kk)=>c1<|tg 52 z<|ts<|r;tf (λA=>c4<|tg 56 A<|tw (ax e)<|ca (ff.ln e.Types)<|tE) λA=>c4<|tg 56 A<|tE) λy=>have c6:=λ{X kd kk} (r:PV _ X kd kk)=>c0<|tg 45 y<|ts<|r;tf (λB=>c6<|tg 56 B<|tw (ax e)<|ca (ff.ln e.Types)<|tE) λB=>c6<|tg 56 B<|tE) λw=>have c8:=λ{X kd kk} (r:PV _ X kd kk)=>bs<|tg 34 w<|ts<|r;tf (λE=>have cd:=λ{X kd kk} (r:PV _ X kd kk)=>c8<|tg 45 E<|tw (aF e)<|ca (kn.ln e.Alts)<|r;tf (λF=>cd<|tg 52 F<|tE) λF=>have cg:=λ{X kd kk} (r:PV _ X kd kk)=>cd<|tg 52 F<|ts<|r;tf (λH=>cg<|tg 56 H<|tw (ax e)<|ca (ff.ln e.Types)<|tE) λH=>cg<|tg 56 H<|tE) λE=>have ci:=λ{X kd kk} (r:PV _ X kd kk)=>c8<|tg 45 E<|ts<|r;tf (λL=>ci<|tg 56 L<|tw (ax e)<|ca (ff.ln e.Types)<|tE) λL=>ci<|tg 56 L<|tE) λs=>have cn:=λ{X kd kk} (r:PV _ X kd kk)=>bq<|tg 23 s<|ts<|r;tf (λP=>have cs:=λ{X kd kk} (r:PV _ X kd kk)=>cn<|tg 34 P<|tw (bk e)<|ca (CA.ln e.Params)<|r;tf (λR=>cs<|tg 41 R<|tE) λR=>have cv:=λ{X kd kk} (r:PV _ X kd kk)=>cs<|tg 41 R<|ts<|r;tf (λS=>have d0:=λ{X kd kk} (r:PV _ X kd kk)=>cv<|tg 45 S<|tw (aF e)<|ca (kn.ln e.Alts)<|r;tf (λa0=>d0<|tg 52 a0<|tE) λa0=>have d1:=λ{X kd kk} (r:PV _ X kd kk)=>d0<|tg 52 a0<|ts<|r;tf (λa1=>d1<|tg 56 a1<|tw (ax e)<|ca (ff.ln e.Types)<|tE) λa1=>d1<|tg 56 a1<|tE) λS=>have d2:=λ{X kd kk} (r:PV _ X kd kk)=>cv<|tg 45 S<|ts<|r;tf (λa2=>d2<|tg 56 a2<|tw (ax e)<|ca (ff.ln e.Types)<|tE) λa2=>d2<|tg 56 a2<|tE) λP=>have d3:=λ{X kd kk} (r:PV _ X kd kk)=>cn<|tg 34 P<|ts<|r;tf (λa3=>have d4:=λ{X kd kk} (r:PV _ X kd kk)=>d3<|tg 45 a3<|tw (aF e)<|ca (kn.ln e.Alts)<|r;tf (λa4=>d4<|tg 52 a4<|tE) λa4=>have d5:=λ{X kd kk} (r:PV _ X kd kk)=>d4<|tg 52 a4<|ts<|r;tf (λa5=>d5<|tg 56 a5<|tw (ax e)<|ca (ff.ln e.Types)<|tE) λa5=>d5<|tg 56 a5<|tE) λa3=>have d6:=λ{X kd kk} (r:PV _ X kd kk)=>d3<|tg 45 a3<|ts<|r;tf (λa6=>d6<|tg 56 a6<|tw (ax e)<|ca (ff.ln e.Types)<|tE) λa6=>d6<|tg 56 a6<|tE) λk5=>have dd:=λ{X kd kk} (r:PV _ X kd kk)=>he<|tg 13 k5<|ts<|r;tf (λa7=>have de:=λ{X kd kk} (r:PV _ X kd kk)=>dd<|tg 23 a7<|tw (aB e)<|ca (iQ.ln e.Kids)<|r;tf (λa8=>de<|tg 30 a8<|tE) λa8=>have dk:=λ{X kd kk} (r:PV _ X kd kk)=>de<|tg 30 a8<|ts<|r;tf (λa9=>have dl:=λ{X kd kk} (r:PV _ X kd kk)=>dk<|tg 34 a9<|tw (bk e)<|ca (CA.ln e.Params)<|r;tf (λab=>dl<|tg 41 ab<|tE) λab=>have ds:=λ{X kd kk} (r:PV _ X kd kk)=>dl<|tg 41 ab<|ts<|r;tf (λad=>have dt:=λ{X kd kk} (r:PV _ X kd kk)=>ds<|tg 45 ad<|tw (aF e)<|ca (kn.ln e.Alts)<|r;tf (λan=>dt<|tg 52 an<|tE) λan=>have dx:=λ{X kd kk} (r:PV _ X kd kk)=>dt<|tg 52 an<|ts<|r;tf (λao=>dx<|tg 56 ao<|tw (ax e)<|ca (ff.ln e.Types)<|tE) λao=>dx<|tg 56 ao<|tE) λad=>have e0:=λ{X kd kk} (r:PV _ X kd kk)=>ds<|tg 45 ad<|ts<|r;tf (λar=>e0<|tg 56 ar<|tw (ax e)<|ca (ff.ln e.Types)<|tE) λar=>e0<|tg 56 ar<|tE) λa9=>have e1:=λ{X kd kk} (r:PV _ X kd kk)=>dk<|tg 34 a9<|ts<|r;tf (λb0=>have e2:=λ{X kd kk} (r:PV _ X kd kk)=>e1<|tg 45 b0<|tw (aF e)<|ca (kn.ln e.Alts)<|r;tf (λb1=>e2<|tg 52 b1<|tE) λb1=>have e3:=λ{X kd kk} (r:PV _ X kd kk)=>e2<|tg 52 b1<|ts<|r;tf (λb2=>e3<|tg 56 b2<|tw (ax e)<|ca (ff.ln e.Types)<|tE) λb2=>e3<|tg 56 b2<|tE) λb0=>have e4:=λ{X kd kk} (r:PV _ X kd kk)=>e1<|tg 45 b0<|ts<|r;tf (λb3=>e4<|tg 56 b3<|tw (ax e)<|ca (ff.ln e.Types)<|tE) λb3=>e4<|tg 56 b3<|tE) λa7=>have e5:=λ{X kd kk} (r:PV _ X kd kk)=>dd<|tg 23 a7<|ts<|r;tf (λb4=>have e6:=λ{X kd kk} (r:PV _ X kd kk)=>e5<|tg 34 b4<|tw (bk e)<|ca (CA.ln e.Params)<|r;tf (λb5=>e6<|tg 41 b5<|tE) λb5=>have e7:=λ{X kd kk} (r:PV _ X kd kk)=>e6<|tg 41 b5<|ts<|r;tf (λb7=>have e8:=λ{X kd kk} (r:PV _ X kd kk)=>e7<|tg 45 b7<|tw (aF e)<|ca (kn.ln e.Alts)<|r;tf (λbb=>e8<|tg 52 bb<|tE) λbb=>have e9:=λ{X kd kk} (r:PV _ X kd kk)=>e8<|tg 52 bb<|ts<|r;tf (λbc=>e9<|tg 56 bc<|tw (ax e)<|ca (ff.ln e.Types)<|tE) λbc=>e9<|tg 56 bc<|tE) λb7=>have ea:=λ{X kd kk} (r:PV _ X kd kk)=>e7<|tg 45 b7<|ts<|r;tf (λbe=>ea<|tg 56 be<|tw (ax e)<|ca (ff.ln e.Types)<|tE) λbe=>ea<|tg 56 be<|tE) λb4=>have eb:=λ{X kd kk} (r:PV _ X kd kk)=>e5<|tg 34 b4<|ts<|r;tf (λbg=>have ec:=λ{X kd kk} (r:PV _ X kd kk)=>eb<|tg 45 bg<|tw (aF e)<|ca (kn.ln e.Alts)<|r;tf (λbi=>ec<|tg 52 bi<|tE) λbi=>have eg:=λ{X kd kk} (r:PV _ X kd kk)=>ec<|tg 52 bi<|ts<|r;tf (λbl=>eg<|tg 56 bl<|tw (ax e)<|ca (ff.ln e.Types)<|tE) λbl=>eg<|tg 56 bl<|tE) λbg=>have ek:=λ{X kd kk} (r:PV _ X kd kk)=>eb<|tg 45 bg<|ts<|r;tf (λbm=>ek<|tg 56 bm<|tw (ax e)<|ca (ff.ln e.Types)<|tE) λbm=>ek<|tg 56 bm<|tE
end
section
variable(e:ah)(ok unused m a:K)(b c:Int)(d h:K)(i p:Int)(q:K)
def vT:Q K:=if(!ok)then O T else O unused
def QU:OU 0 (cA Zb 122) (vT ok unused) .normal (λo=>[(4,.undef),(5,.undef),(81,.bool o)]) (aR 156 [(1,.eptr (al e)),(3,.bptr 1 0),(4,.bool ok),(5,.bool unused)] [.dead,.cells [.bool m,.bool a,.i6 b,.i6 c,.bool d,.bool h,.i6 i,.i6 p,.bool q] []] []):=qcQ.j<|tf (λr=>tg 3 r<|tE) λr=>tg 3 r<|tE
end
section
variable(e:ah)(m a:K)(b c:Int)(d h:K)(i p:Int)(q:K)
def vU:Q K:=if (e.Op == 1) = T then (V5 e.N).bind λo=>if(!o)then O T else if(e.Op==2)then if(e.N !=0)then O (e.N !=1) else O Z else O Z else if(e.Op==2)then if(e.N !=0)then O (e.N !=1) else O Z else O Z
def QV:OU 0 (cA Zb 1982) (vU e) .normal (λo=>[(92,.bool o)]) (aR 156 [(1,.eptr (al e)),(3,.bptr 1 0)] [.dead,.cells [.bool m,.bool a,.i6 b,.i6 c,.bool d,.bool h,.i6 i,.i6 p,.bool q] []] []):=qcQ.j<|
 have A:=λ{X S a0} (r:PV _ X S a0)=>tw (bK e)<|r;tf (λs=>tb λR P=>have B:=λ{X S a0} (r:PV _ X S a0)=>A<|tg 4 s<|tw (di e)<|cP (Ys _ P)<|r;tf (λt=>B<|tg 10 t<|tE) λt=>have E:=λ{X S a0} (r:PV _ X S a0)=>B<|tg 10 t<|tw (bK e)<|r;tf (λw=>have F:=λ{X S a0} (r:PV _ X S a0)=>E<|tg 14 w<|tw (di e)<|r;tf (λx=>F<|tg 19 x<|tw (di e)<|tE) λx=>F<|tg 19 x<|tE) λw=>E<|tg 14 w<|tE) λs=>have H:=λ{X S a0} (r:PV _ X S a0)=>A<|tg 4 s<|tw (bK e)<|r;tf (λy=>have L:=λ{X S a0} (r:PV _ X S a0)=>H<|tg 14 y<|tw (di e)<|r;tf (λz=>L<|tg 19 z<|tw (di e)<|tE) λz=>L<|tg 19 z<|tE) λy=>H<|tg 14 y<|tE
end
section
variable(e:ah)(b:md)(c a:Int)
def qu:az:=aR 156 [(1,.eptr (al e)),(124,sl aj b),(125,.i6 c),(126,.i6 a)] [.dead,.dead] []
def G8(o:Int⊕(Unit)):Exit:=match o with|(.inl _)=>.ret|(.inr _)=>.exit 1
def xC(o:Int⊕(Unit)):az:=match o with|(.inl o)=>aR 156 [(2,.i6 o)] [.dead,.dead] []|(.inr o)=>aR 156 [(1,.eptr (al e))] [.dead,.dead] []
instance qyI:KS 0 (qu e b c a):=ks 2 rfl
instance qyD{o:Int⊕(Unit)}:KS 0 (xC e o):=match o with|(.inl o)=>ks 2 rfl|(.inr o)=>ks 2 rfl
def xz:Q (Int⊕(Int⊕(Unit))):=if Y (a<c)then (cJ b a).bind λh=>(qa h).bind λd=>if(d !=0)then O (.inr (.inl d)) else O (.inl (dc (a+1))) else O (.inr (.inr ()))
def vV:Q (Int⊕(Unit)):=loop (λ(d:Int)=>xz b c d) a
def O7:OL 0 (cA Zb 1015) (xz b c a) (λ(o:Int)=>qu e b c o) G8 (xC e) (qu e b c a):=qcQ.lx<|tF (tb λd i=>tb λm h=>tv (ff.ia i)<|tv (fp d)<|tx qhb<|tx (BC d)<|tv (tL d [])<|cP (CU _ h)<|tF tE<|tE)<|tE
def EJ:OK 0 (.loop (cA Zb 1015)) (vV b c a) G8 (xC e) (qu e b c a):=NA λ_=>O7 _ _ _ _
end
section
variable(v:Int)(b:waF)(c d:Int)(m:aa)(e:Int)(h:aa)(i:md)(p:waA)(q:Int)(r:aa)(s:Int)(t a:m6)
def CM:Q K:=if(v !=0)then (EL (⟨e,h,i,p,⟨q,r,s,t⟩,a⟩:ai)).bind λo=>O (!o) else O Z
def QW:OJ 0 (cA Zb 261102) (CM v e h i p q r s t a) .normal (λo=>aR 156 [(12,.i6 v),(137,sl aU b),(138,.i6 c),(139,.i6 d),(153,.bool o)] [.dead,.dead,.dead] []) (aR 156 [(11,.bptr 2 0),(12,.i6 v),(137,sl aU b),(138,.i6 c),(139,.i6 d)] [.dead,.dead,.cells [.str m,.i6 e,.str h,sl aj i,sl cS p,.i6 q,.str r,.i6 s,sl af t,sl af a] []] []):=qcQ.j<|tf (λw=>tb λy x=>tg 3 w<|tv (tL (⟨e,h,i,p,⟨q,r,s,t⟩,a⟩:ai) [])<|cP (WH _ x)<|tE) λw=>tg 3 w<|tE
end
section
variable(b:waF)(c a:Int)
def qv:az:=aR 156 [(137,sl aU b),(138,.i6 c),(139,.i6 a)] [.dead,.dead] []
def G9(o:Int⊕(Unit)):Exit:=match o with|(.inl _)=>.ret|(.inr _)=>.exit 3
def xD(o:Int⊕(Unit)):az:=match o with|(.inl o)=>aR 156 [(2,.i6 o)] [.dead,.dead] []|(.inr o)=>aR 156 [] [.dead,.dead] []
instance qyJ:KS 0 (qv b c a):=ks 2 rfl
instance qyE{o:Int⊕(Unit)}:KS 0 (xD o):=match o with|(.inl o)=>ks 2 rfl|(.inr o)=>ks 2 rfl
def mK:Q (Int⊕(Int⊕(Unit))):=if Y (a<c)then (cJ b a).bind λd=>(qa d.Type_).bind λe=>(CM e d.Type_.Op d.Type_.Name d.Type_.Args d.Type_.Names d.Type_.Pred.Op d.Type_.Pred.Name d.Type_.Pred.N d.Type_.Pred.Kids d.Type_.Preds).bind λh=>if h then O (.inr (.inl e)) else O (.inl (dc (a+1))) else O (.inr (.inr ()))
def vW:Q (Int⊕(Unit)):=loop (λ(d:Int)=>mK b c d) a
def O8:OL 0 (cA Zb 2039) (mK b c a) (λ(p:Int)=>qv b c p) G9 xD (qv b c a):=qcQ.lx<|tF (tb λd i=>tb λm h=>tb λo e=>tv (CA.ia i)<|tv (Mf d)<|tx qfi<|tx (H9 d)<|tv (tL d.Type_ [])<|cP (CU _ h)<|jC 0<|cM (QW m b c a d.Name d.Type_.Op d.Type_.Name d.Type_.Args d.Type_.Names d.Type_.Pred.Op d.Type_.Pred.Name d.Type_.Pred.N d.Type_.Pred.Kids d.Type_.Preds _ e)<|tF tE<|tE)<|tE
def EK:OK 0 (.loop (cA Zb 2039)) (vW b c a) G9 xD (qv b c a):=NA λ_=>O8 _ _ _
end
def yZ (e:ah):Q Int :=(sk e.Op).bind λc=>(vS e c.1.n c.1.name c.1.most c.1.params c.1.alts c.1.types).bind λh=>(vT c.2 h).bind λi=>if i then O 1 else (yj e c.1).bind λo=>if(!o)then O 13 else (vU e).bind λm=>if m then O 2 else (Bu e c.1).bind λd=>if(d !=0)then O d else (vV e.Types (e.Types.length:Int) 0).bind λa=>match a with|(.inl a)=>O a| (.inr a) =>(vW e.Params (e.Params.length:Int) 0).bind λb=>match b with|(.inl b)=>O b|(.inr b)=>O 0
def WG{e:ah}:OV 201 [.agg (al e)] (yZ e) (λr=>.i6 r) []:=qcQ.v<|tb λa t=>tb λp d=>tb λw h=>te (dG e)<|tw (bK e)<|cP (SJ _ t)<|tx qmL<|tx (cQ a.1)<|jC 0<|cM (QT e a.2 a.1.n a.1.name a.1.least a.1.most a.1.params a.1.alts a.1.typesLeast a.1.typesMost a.1.types _ d)<|jC 1<|cM (QU e a.2 p a.1.n a.1.name a.1.least a.1.most a.1.params a.1.alts a.1.typesLeast a.1.typesMost a.1.types _ h)<|tF tE<|tb λy m=>tv (bv e)<|tv (Gp a.1 [])<|cP (SI _ m)<|tF tE<|tb λx i=>jC 0<|cM (QV e a.1.n a.1.name a.1.least a.1.most a.1.params a.1.alts a.1.typesLeast a.1.typesMost a.1.types _ i)<|tF tE<|tb λz o=>tv (bv e)<|tv (Gp a.1 [])<|cP (Uc _ o)<|tF tE<|tw (ax e)<|ca (ff.ln e.Types)<|t2 (λq b=>cM (EJ e e.Types (e.Types.length:Int) 0 _ b)<|tE) λq b=>cM (EJ e e.Types (e.Types.length:Int) 0 _ b)<|tw (bk e)<|ca (CA.ln e.Params)<|t2 (λs c=>cM (EK e.Params (e.Params.length:Int) 0 _ c)<|tE) λs c=>cM (EK e.Params (e.Params.length:Int) 0 _ c)<|tE
noncomputable def qte:W:=f200.body.getD .skip
def qsf:ZF Pg [] 200 f200 qte:=zf call200 func200 rfl mixed
def jU(a:ah)(c:Int):Q (K×Int):=(yZ a).bind λb=>O (b==0,b)
def QP{a:ah}{c:Int}:OG 200 [.agg (al a),.bptr 0 0] [] [.cells [.i6 c] []] (jU a c) (λr=>.bool r.1) [] (λr=>[.cells [.i6 r.2] []]):=qsf.g 1<|tb λd b=>te (dG a)<|tv (bv a)<|cP (WG _ b)<|ts<|ts<|tE
section
variable(d:gB)(e:ah)(b:waD)(c a m:Int)
def gZ:az:=aR 38 [(1,.func (.func 200) [] [.bptr 0 0]),(2,.eptr (al e)),(14,sl al b),(15,.i6 c),(16,.i6 a)] [.cells [.i6 m] [],.dead] []
def sm(o:Int⊕(Int)):Exit:=match o with|(.inl _)=>.ret|(.inr _)=>.exit 0
def lC(o:Int⊕(Int)):az:=match o with|(.inl o)=>aR 38 [(4,.bool Z)] [.cells [.i6 o] [],.dead] []|(.inr o)=>aR 38 [(1,.func (.func 200) [] [.bptr 0 0]),(2,.eptr (al e))] [.cells [.i6 o] [],.dead] []
instance qxB:KS 1 (gZ e b c a m):=ks 2 rfl
instance qxw{o:Int⊕(Int)}:KS 1 (lC e o):=match o with|(.inl o)=>ks 2 rfl|(.inr o)=>ks 2 rfl
def dO:Q ((Int×Int)⊕(Int⊕(Int))):=if Y (a<c)then (cJ b a).bind λi=>(d i m).bind λh=>if(!h.1)then O (.inr (.inl h.2)) else O (.inl (dc (a+1),h.2)) else O (.inr (.inr m))
def wd:Q (Int⊕(Int)):=loop (λ(h:Int×Int)=>dO d b c h.1 h.2) (a,m)
def CP(h:gz d):OL 1 (cA Za 119) (dO d b c a m) (λ(q:Int×Int)=>gZ e b c q.1 q.2) sm (lC e) (gZ e b c a m):=qfD.lx<|tF (tb λp o=>tb λr i=>tv (iQ.ia o)<|tv (bv p)<|tx qaq<|tx (tV p)<|tv (fH p [])<|tc [0] (h _ _ _ i)<|tF tE<|tE)<|tE
def qK(h:gz d):OK 1 (.loop (cA Za 119)) (wd d b c a m) sm (lC e) (gZ e b c a m):=NA λ_=>CP _ _ _ _ _ _ h
end
section
variable(d:gB)(b:rf)(c a m:Int)
def g8:az:=aR 38 [(1,.func (.func 200) [] [.bptr 0 0]),(26,sl bz b),(27,.i6 c),(28,.i6 a)] [.cells [.i6 m] [],.dead] []
def sn(o:Int⊕(Int)):Exit:=match o with|(.inl _)=>.ret|(.inr _)=>.exit 2
def lD(o:Int⊕(Int)):az:=match o with|(.inl o)=>aR 38 [(4,.bool Z)] [.cells [.i6 o] [],.dead] []|(.inr o)=>aR 38 [] [.cells [.i6 o] [],.dead] []
instance qxC:KS 1 (g8 b c a m):=ks 2 rfl
instance qxx{o:Int⊕(Int)}:KS 1 (lD o):=match o with|(.inl o)=>ks 2 rfl|(.inr o)=>ks 2 rfl
def dQ:Q ((Int×Int)⊕(Int⊕(Int))):=if Y (a<c)then (cJ b a).bind λh=>(d h.Body m).bind λe=>if(!e.1)then O (.inr (.inl e.2)) else O (.inl (dc (a+1),e.2)) else O (.inr (.inr m))
def wg:Q (Int⊕(Int)):=loop (λ(e:Int×Int)=>dQ d b c e.1 e.2) (a,m)
def CQ(h:gz d):OL 1 (cA Za 247) (dQ d b c a m) (λ(p:Int×Int)=>g8 b c p.1 p.2) sn lD (g8 b c a m):=qfD.lx<|tF (tb λo i=>tb λq e=>tv (kn.ia i)<|tv (uL o)<|tx NF<|tx (rE o)<|tv (fH o.Body [])<|tc [0] (h _ _ _ e)<|tF tE<|tE)<|tE
def qL(e:gz d):OK 1 (.loop (cA Za 247)) (wg d b c a m) sn lD (g8 b c a m):=NA λ_=>CQ _ _ _ _ _ e
end
def ke(b:gB)(e:ah)(h:Int):Q (K×Int):=(jU e h).bind λd=>if(!d.1)then O (Z,d.2) else (wd b e.Kids (e.Kids.length:Int) 0 d.2).bind λc=>match c with|(.inl c)=>O (Z,c)| (.inr c) =>(wg b e.Alts (e.Alts.length:Int) 0 c).bind λa=>match a with|(.inl a)=>O (Z,a)|(.inr a)=>O (T,a)
def Ha(b:gB)(a:gz b){e:ah}{o:Int}:OG 199 [.agg (al e),.func (.func 200) [] [.bptr 0 0]] [] [.cells [.i6 o] []] (ke b e o) (λr=>.bool r.1) [] (λr=>[.cells [.i6 r.2] []]):=qfD.g 1<|tb λp h=>te (dG e)<|tv (bv e)<|tc [0] (QP _ h)<|tF tE<|tw (aB e)<|ca (iQ.ln e.Kids)<|t2 (λm d=>cM (qK b e e.Kids (e.Kids.length:Int) 0 p.2 a _ d)<|tE) λm d=>cM (qK b e e.Kids (e.Kids.length:Int) 0 p.2 a _ d)<|tw (aF e)<|ca (kn.ln e.Alts)<|t2 (λi c=>cM (qL b e.Alts (e.Alts.length:Int) 0 m a _ c)<|tE) λi c=>cM (qL b e.Alts (e.Alts.length:Int) 0 m a _ c)<|tE
def oG:((ah×Int)->Q (K×Int))->(ah×Int)->Q (K×Int):=λ(rec:(ah×Int)->Q (K×Int)) (x:ah×Int)=>ke (λe a=>rec (e,a)) x.1 x.2
def me(e:ah)(a:Int):Q (K×Int):=sQ oG (e,a)
def IW{e:ah}{b:Int}:OG 199 [.agg (al e),.func (.func 200) [] [.bptr 0 0]] [] [.cells [.i6 b] []] (me e b) (λr=>.bool r.1) [] (λr=>[.cells [.i6 r.2] []]):=qaJ λ_ h=>ij (F:=oG) (M:=λ(x:ah×Int) (r:K×Int)=>C Pg GE 199 [.agg (al x.1),.func (.func 200) [] [.bptr 0 0]] [] [.cells [.i6 x.2] []] (.bool r.1) [] [.cells [.i6 r.2] []]) (λrec a x r h=>Ha _ (λe b=>qaJ λr h=>a (e,b) r h) _ h) h
noncomputable def qs6:W:=f160.body.getD .skip
def qr7:ZF Pg [] 160 f160 qs6:=zf call160 func160 rfl mixed
def qr(e:ah):Q Int:=(Bt e).bind λa=>if Y (a>400)then O 7 else (IU e).bind λb=>if Y (b>40)then O 8 else (me e 0).bind λc=>O c.2
def T7{e:ah}:OV 160 [.agg (al e)] (qr e) (λr=>.i6 r) []:=qr7.v<|tb λd a=>te (dG e)<|tv (bv e)<|cP (T9 _ a)<|tF tE<|tb λh b=>tv (bv e)<|cP (T8 _ b)<|tF tE<|tb λi c=>tx quC<|ts<|tv (bv e)<|tc [1] (IW _ c)<|ts<|tE
abbrev bD:=(ah->V Int->K->Q (V Int×K))
abbrev cV(R:bD):Prop:=∀(e:ah)(b:V Int)(a:K),OG 161 [.bptr 0 0,.agg (al e)] [] [ce 0 b a] (R e b a) (λr=>.tuple []) [] (λr=>[ce 0 r.1 r.2])
noncomputable def qtv:W:=f246.body.getD .skip
def qsv:ZF Pg [] 246 f246 qtv:=zf call246 func246 rfl mixed
def pZ(i:Int)(a:md)(d:V Int)(b:K):Q (V Int×K):=(cJ a i).bind λe=>(dH e d b).bind λc=>O (c.2,c.1)
def G1{i:Int}{a:md}{e:V Int}{b:K}:OG 246 [.i6 i,.bptr 0 0,.eptr ((cL aj) a)] [] [.cells [.bptr 1 0] [],ce 1 e b] (pZ i a e b) (λr=>.tuple []) [] (λr=>[.cells [.bptr 1 0] [],ce 1 r.1 r.2]):=qsv.g 2<|tb λh d=>tb λm c=>tk<|FD (.dx [0,0,0,6,14] [] [] [])<|ts<|tv (cX qoC (sl aj a) [])<|tv (ff.ia d)<|tv (fp h)<|tc [1] (eQ _ c)<|tE
section
variable(v:md)(i b:Int)(m:V Int)(a:K)
def rU:Q (V Int):=if Y (i>0)then (ae ([dI]:V aa) m a).bind λc=>O c else O m
def Bi:OJ 2 (cA BS 1014) (rU i m a) .normal (λo=>aR 20 [(0,.bptr 0 0),(2,.func (.func 246) [] [.bptr 1 0,.eptr ((cL aj) v)]),(6,.i6 i),(7,.i6 b),(8,.i6 i)] [ce 0 o a,.cells [.bptr 0 0] []] []) (aR 20 [(0,.bptr 0 0),(2,.func (.func 246) [] [.bptr 1 0,.eptr ((cL aj) v)]),(6,.i6 i),(7,.i6 b),(8,.i6 i)] [ce 0 m a,.cells [.bptr 0 0] []] []):=qO.j<|tF (tb λd c=>tv (bG [dI] 1 rfl)<|tc [0] (ac _ c)<|tE)<|tE
end
section
variable(v:md)(c a:Int)(m:V Int)(b:K)
def pP:az:=aR 20 [(0,.bptr 0 0),(2,.func (.func 246) [] [.bptr 1 0,.eptr ((cL aj) v)]),(7,.i6 c),(8,.i6 a)] [ce 0 m b,.cells [.bptr 0 0] []] []
def Ct(o:V Int×K):az:=aR 20 [] [ce 0 o.1 o.2,.cells [.bptr 0 0] []] []
def pQ:Q ((Int×V Int×K)⊕(V Int×K)):=if Y (a<c)then (rU a m b).bind λe=>(pZ a v e b).bind λd=>O (.inl (dc (a+1),d.1,d.2)) else O (.inr (m,b))
def rV:Q (V Int×K):=loop (λ(d:Int×V Int×K)=>pQ v c d.1 d.2.1 d.2.2) (a,m,b)
def zO:OL 2 (cA BS 15) (pQ v c a m b) (λ(h:Int×V Int×K)=>pP v c h.1 h.2.1 h.2.2) (λ_=>.exit 0) Ct (pP v c a m b):=qO.l<|tF (tb λi d=>tb λo e=>jC 2<|cM (Bi v a c m b _ d)<|tc [1,0] (G1 _ e)<|tE)<|tE
def Bj:=ug (s:=(a,m,b)) λd=>zO v c d.1 d.2.1 d.2.2
end
def oq(n:Int)(c:md)(d:V Int)(a:K):Q (V Int×K):=(rV c n 0 d a).bind λb=>O (b.1,b.2)
def Fo{n:Int}{c:md}{d:V Int}{a:K}:OG 149 [.bptr 0 0,.i6 n,.func (.func 246) [] [.bptr 1 0,.eptr ((cL aj) c)]] [] [ce 0 d a,.cells [.bptr 0 0] []] (oq n c d a) (λr=>.tuple []) [] (λr=>[ce 0 r.1 r.2,.cells [.bptr 0 0] []]):=qO.g 2<|tb λe b=>cM (Bj c n 0 d a _ b)<|tE
noncomputable def qtg:W:=f204.body.getD .skip
def qsh:ZF Pg [] 204 f204 qtg:=zf call204 func204 rfl mixed
def jP(a:md)(d:V Int)(b:K):Q (V Int×K):=if((a.length:Int)==0)then O (d,b) else (ae ([qmT]:V aa) d b).bind λe=>(oq (a.length:Int) a e b).bind λc=>(ae ([qmU]:V aa) c.1 c.2).bind λh=>O (h,c.2)
def wN{a:md}{h:V Int}{b:K}:OG 204 [.bptr 0 0,sl aj a] [] [ce 0 h b] (jP a h b) (λr=>.tuple []) [] (λr=>[ce 0 r.1 r.2]):=qsh.g 1<|qkj (rfl:bF (.bptr 0 0)=O [.bptr 0 0]) rfl<|te (qqW aj a)<|tv (cX qoC (sl aj a) [])<|ca (ff.ln a)<|tF tE<|tb λi c=>tb λm d=>tb λo e=>ts<|tv (bG [qmT] 1 rfl)<|tc [0] (ac _ c)<|ts<|tv (cX qoC (sl aj a) [])<|ca (ff.ln a)<|tc [0,1] (Fo _ d)<|ts<|tv (bG [qmU] 1 rfl)<|tc [0] (ac _ e)<|tE
noncomputable def qtw:W:=f247.body.getD .skip
def qsw:ZF Pg [] 247 f247 qtw:=zf call247 func247 rfl mixed
def qY(b:bD)(i:Int)(a:waD)(e:V Int)(c:K):Q (V Int×K):=(cJ a i).bind λh=>(b h e c).bind λd=>O (d.1,d.2)
def Ir(b:bD)(c:cV b){i:Int}{a:waD}{m:V Int}{d:K}:OG 247 [.i6 i,.bptr 0 0,.eptr ((cL al) a)] [] [.cells [.bptr 1 0] [],ce 1 m d] (qY b i a m d) (λr=>.tuple []) [] (λr=>[.cells [.bptr 1 0] [],ce 1 r.1 r.2]):=qsw.g 2<|tb λo h=>tb λp e=>tk<|FD (.dx [0,0,0,6,14] [] [] [])<|ts<|tv (cX qri (sl al a) [])<|tv (iQ.ia h)<|tv (bv o)<|tc [1] (c _ _ _ _ e)<|tE
section
variable(v:waD)(i b:Int)(m:V Int)(a:K)
def rX:Q (V Int):=if Y (i>0)then (ae ([dI]:V aa) m a).bind λc=>O c else O m
def Bk:OJ 2 (cA BS 1014) (rX i m a) .normal (λo=>aR 20 [(0,.bptr 0 0),(2,.func (.func 247) [] [.bptr 1 0,.eptr ((cL al) v)]),(6,.i6 i),(7,.i6 b),(8,.i6 i)] [ce 0 o a,.cells [.bptr 0 0] []] []) (aR 20 [(0,.bptr 0 0),(2,.func (.func 247) [] [.bptr 1 0,.eptr ((cL al) v)]),(6,.i6 i),(7,.i6 b),(8,.i6 i)] [ce 0 m a,.cells [.bptr 0 0] []] []):=qO.j<|tF (tb λd c=>tv (bG [dI] 1 rfl)<|tc [0] (ac _ c)<|tE)<|tE
end
section
variable(a:bD)(v:waD)(d b:Int)(m:V Int)(c:K)
def pR:az:=aR 20 [(0,.bptr 0 0),(2,.func (.func 247) [] [.bptr 1 0,.eptr ((cL al) v)]),(7,.i6 d),(8,.i6 b)] [ce 0 m c,.cells [.bptr 0 0] []] []
def Cu(o:V Int×K):az:=aR 20 [] [ce 0 o.1 o.2,.cells [.bptr 0 0] []] []
def pS:Q ((Int×V Int×K)⊕(V Int×K)):=if Y (b<d)then (rX b m c).bind λh=>(qY a b v h c).bind λe=>O (.inl (dc (b+1),e.1,e.2)) else O (.inr (m,c))
def rY:Q (V Int×K):=loop (λ(e:Int×V Int×K)=>pS a v d e.1 e.2.1 e.2.2) (b,m,c)
def zP(e:cV a):OL 2 (cA BS 15) (pS a v d b m c) (λ(o:Int×V Int×K)=>pR v d o.1 o.2.1 o.2.2) (λ_=>.exit 0) Cu (pR v d b m c):=qO.l<|tF (tb λp h=>tb λq i=>jC 2<|cM (Bk v b d m c _ h)<|tc [1,0] (Ir a e _ i)<|tE)<|tE
def Bl(e:cV a):=ug (s:=(b,m,c)) λh=>zP a v d h.1 h.2.1 h.2.2 e
end
def ou(a:bD)(n:Int)(c:waD)(e:V Int)(b:K):Q (V Int×K):=(rY a c n 0 e b).bind λd=>O (d.1,d.2)
def Fp(a:bD)(b:cV a){n:Int}{c:waD}{h:V Int}{d:K}:OG 149 [.bptr 0 0,.i6 n,.func (.func 247) [] [.bptr 1 0,.eptr ((cL al) c)]] [] [ce 0 h d,.cells [.bptr 0 0] []] (ou a n c h d) (λr=>.tuple []) [] (λr=>[ce 0 r.1 r.2,.cells [.bptr 0 0] []]):=qO.g 2<|tb λi e=>cM (Bl a c n 0 h d b _ e)<|tE
noncomputable def qth:W:=f205.body.getD .skip
def qsi:ZF Pg [] 205 f205 qth:=zf call205 func205 rfl mixed
def eN(b:bD)(a:waD)(e:V Int)(c:K):Q (V Int×K):=(ae ([lj]:V aa) e c).bind λh=>(ou b (a.length:Int) a h c).bind λd=>(ae ([jA]:V aa) d.1 d.2).bind λi=>O (i,d.2)
def fK(b:bD)(c:cV b){a:waD}{m:V Int}{d:K}:OG 205 [.bptr 0 0,sl al a] [] [ce 0 m d] (eN b a m d) (λr=>.tuple []) [] (λr=>[ce 0 r.1 r.2]):=qsi.g 1<|tb λo e=>tb λp h=>tb λq i=>qkj (rfl:bF (.bptr 0 0)=O [.bptr 0 0]) rfl<|te (qqW al a)<|ts<|tv (bG [lj] 1 rfl)<|tc [0] (ac _ e)<|ts<|tv (cX qri (sl al a) [])<|ca (iQ.ln a)<|tc [0,1] (Fp b c _ h)<|ts<|tv (bG [jA] 1 rfl)<|tc [0] (ac _ i)<|tE
noncomputable def qty:W:=f249.body.getD .skip
def qsy:ZF Pg [] 249 f249 qty:=zf call249 func249 rfl mixed
def yd(t:ai):Q K:=if (t.Op == 0) = T then if (t.Name == ([]:aa)) = T then if ((t.Args.length:Int) == 0) = T then if((t.Names.length:Int)==0)then (nB t.Pred).bind λa=>if a then O ((t.Preds.length:Int)==0) else O Z else O Z else O Z else O Z else O Z
def Sv{t:ai}:OV 249 [.agg (aj t)] (yd t) (λr=>.bool r) []:=qsy.v<|
 te (nN t)<|have c:=λ{X w x} (r:PV _ X w x)=>tw (bo t)<|r;tf (λm=>have d:=λ{X w x} (r:PV _ X w x)=>c<|tg 4 m<|tw (eM t)<|r;tf (λo=>have e:=λ{X w x} (r:PV _ X w x)=>d<|tg 9 o<|tw (bN t)<|ca (ff.ln t.Args)<|r;tf (λp=>have h:=λ{X w x} (r:PV _ X w x)=>e<|tg 15 p<|tw (dp t)<|ca (cT.ln t.Names)<|r;tf (λq=>tb λs i=>have a:=λ{X w x} (r:PV _ X w x)=>h<|tg 21 q<|tw (fA t)<|cP (n9 _ i)<|r;tf (λb=>a<|tg 26 b<|tw (dK t)<|ca (je.ln t.Preds)<|tE) λb=>a<|tg 26 b<|tE) λq=>h<|tg 21 q<|tE) λp=>e<|tg 15 p<|tE) λo=>d<|tg 9 o<|tE) λm=>c<|tg 4 m<|tE
noncomputable def qtx:W:=f248.body.getD .skip
def qsx:ZF Pg [] 248 f248 qtx:=zf call248 func248 rfl mixed
def pC(i:Int)(a:ah)(e:V Int)(c:K):Q (V Int×K):=(cJ a.Params i).bind λo=>(aZ o.Name e c).bind λb=>(cJ a.Params i).bind λp=>(yd p.Type_).bind λh=>if(!h)then (ae ([d7]:V aa) b.2 b.1).bind λm=>(cJ a.Params i).bind λq=>(dH q.Type_ m b.1).bind λd=>O (d.2,d.1) else O (b.2,b.1)
def GJ{i:Int}{a:ah}{q:V Int}{b:K}:OG 248 [.i6 i,.bptr 0 0,.eptr (al a)] [] [.cells [.bptr 1 0] [],ce 1 q b] (pC i a q b) (λr=>.tuple []) [] (λr=>[.cells [.bptr 1 0] [],ce 1 r.1 r.2]):=qsx.g 2<|tb λs m=>tb λx c=>tb λt o=>tb λy d=>tk<|FD (.dx [0,0,2,0,14,30,62] [] [] [])<|ts<|tw (bk a)<|tv (CA.ia m)<|tw (qV s)<|tc [1] (bh _ c)<|tw (bk a)<|tv (CA.ia o)<|tw (kK t)<|cP (Sv _ d)<|tF (tb λz e=>tb λw p=>tb λA h=>ts<|tv (bG [d7] 1 rfl)<|tc [1] (ac _ e)<|tk<|FD (.dx [0,0,2,0,14,30,62] [] [] [])<|ts<|tw (bk a)<|tv (CA.ia p)<|tw (kK w)<|tc [1] (eQ _ h)<|tE)<|tE
section
variable(v:ah)(i b:Int)(m:V Int)(a:K)
def qC:Q (V Int):=if Y (i>0)then (ae ([dI]:V aa) m a).bind λc=>O c else O m
def zE:OJ 2 (cA BS 1014) (qC i m a) .normal (λo=>aR 20 [(0,.bptr 0 0),(2,.func (.func 248) [] [.bptr 1 0,.eptr (al v)]),(6,.i6 i),(7,.i6 b),(8,.i6 i)] [ce 0 o a,.cells [.bptr 0 0] []] []) (aR 20 [(0,.bptr 0 0),(2,.func (.func 248) [] [.bptr 1 0,.eptr (al v)]),(6,.i6 i),(7,.i6 b),(8,.i6 i)] [ce 0 m a,.cells [.bptr 0 0] []] []):=qO.j<|tF (tb λd c=>tv (bG [dI] 1 rfl)<|tc [0] (ac _ c)<|tE)<|tE
end
section
variable(v:ah)(c a:Int)(m:V Int)(b:K)
def oU:az:=aR 20 [(0,.bptr 0 0),(2,.func (.func 248) [] [.bptr 1 0,.eptr (al v)]),(7,.i6 c),(8,.i6 a)] [ce 0 m b,.cells [.bptr 0 0] []] []
def AY(o:V Int×K):az:=aR 20 [] [ce 0 o.1 o.2,.cells [.bptr 0 0] []] []
def oV:Q ((Int×V Int×K)⊕(V Int×K)):=if Y (a<c)then (qC a m b).bind λe=>(pC a v e b).bind λd=>O (.inl (dc (a+1),d.1,d.2)) else O (.inr (m,b))
def qD:Q (V Int×K):=loop (λ(d:Int×V Int×K)=>oV v c d.1 d.2.1 d.2.2) (a,m,b)
def yP:OL 2 (cA BS 15) (oV v c a m b) (λ(h:Int×V Int×K)=>oU v c h.1 h.2.1 h.2.2) (λ_=>.exit 0) AY (oU v c a m b):=qO.l<|tF (tb λi d=>tb λo e=>jC 2<|cM (zE v a c m b _ d)<|tc [1,0] (GJ _ e)<|tE)<|tE
def zF:=ug (s:=(a,m,b)) λd=>yP v c d.1 d.2.1 d.2.2
end
def jk(n:Int)(c:ah)(d:V Int)(a:K):Q (V Int×K):=(qD c n 0 d a).bind λb=>O (b.1,b.2)
def De{n:Int}{c:ah}{d:V Int}{a:K}:OG 149 [.bptr 0 0,.i6 n,.func (.func 248) [] [.bptr 1 0,.eptr (al c)]] [] [ce 0 d a,.cells [.bptr 0 0] []] (jk n c d a) (λr=>.tuple []) [] (λr=>[ce 0 r.1 r.2,.cells [.bptr 0 0] []]):=qO.g 2<|tb λe b=>cM (zF c n 0 d a _ b)<|tE
noncomputable def qkQ:W:=f206.body.getD .skip
def qkE:ZF Pg [117] 206 f206 qkQ:=zf call206 func206 rfl mixed
section
variable(e:ah)(m:V Int)(a:K)
def j0:Q (V Int×K):=if Y ((e.Types.length:Int)>0)then (ae ([d7]:V aa) m a).bind λc=>(cJ e.Types 0).bind λd=>(dH d c a).bind λb=>O (b.2,b.1) else O (m,a)
def Fe:OJ 1 (cA qkQ 2038) (j0 e m a) .normal (λo=>aR 176 [(2,.bptr 1 0),(3,.eptr (al e))] [ce 0 o.1 o.2,.cells [.bptr 0 0] [],.dead] []) (aR 176 [(2,.bptr 1 0),(3,.eptr (al e))] [ce 0 m a,.cells [.bptr 0 0] [],.dead] []):=qkE.j<|tw (ax e)<|ca (ff.ln e.Types)<|tF (tb λi b=>tb λh d=>tb λp c=>ts<|tv (bG [d7] 1 rfl)<|tc [0] (ac _ b)<|tk<|FD (.dx [0,0,2,6,14] [] [] [])<|ts<|tw (ax e)<|tv (ff.ia d)<|tv (fp h)<|tc [0] (eQ _ c)<|tE)<|tE
end
section
variable(i:Int)(a:rf)(b:Int)(m:V Int)(e:K)(h:aa)(p:waA)(q:Int)(r:aa)(s:Int)(t:waD)(w:waF)(c:rf)(d:md)
def wE:Q (V Int):=if Y (i>0)then (ae ([Q9]:V aa) m e).bind λo=>O o else O m
def Ff:OJ 1 (cA qkQ 33545718) (wE i m e) .normal (λo=>aR 176 [(2,.bptr 1 0),(5,.bptr 3 0),(113,sl bz a),(114,.i6 b),(115,.i6 i)] [ce 0 o e,.cells [.bptr 0 0] [],.dead,.cells [.str h,sl cS p,.i6 q,.str r,.i6 s,sl al t,sl aU w,sl bz c,sl aj d] []] []) (aR 176 [(2,.bptr 1 0),(4,.i6 i),(5,.bptr 3 0),(113,sl bz a),(114,.i6 b),(115,.i6 i)] [ce 0 m e,.cells [.bptr 0 0] [],.dead,.cells [.str h,sl cS p,.i6 q,.str r,.i6 s,sl al t,sl aU w,sl bz c,sl aj d] []] []):=qkE.j<|tF (tb λy x=>ts<|tv (bG [Q9] 1 rfl)<|tc [0] (ac _ x)<|tE)<|tE
end
section
variable(d:bD)(b:rf)(c a:Int)(m:V Int)(e:K)
def my:az:=aR 176 [(2,.bptr 1 0),(113,sl bz b),(114,.i6 c),(115,.i6 a)] [ce 0 m e,.cells [.bptr 0 0] [],.dead] []
def tZ(o:V Int×K):az:=aR 176 [(2,.bptr 1 0)] [ce 0 o.1 o.2,.cells [.bptr 0 0] [],.dead] []
instance qxG:KS 1 (my b c a m e):=ks 3 rfl
instance qxF{o:List Int×Bool}:KS 1 (tZ o):=ks 3 rfl
def tY:Q ((Int×V Int×K)⊕(V Int×K)):=if Y (a<c)then (cJ b a).bind λi=>(wE a m e).bind λq=>(cC i.Con q e).bind λo=>(gO i.Names o.2 o.1).bind λh=>(ae ([qb]:V aa) h.1 h.2).bind λr=>(d i.Body r h.2).bind λp=>O (.inl (dc (a+1),p.1,p.2)) else O (.inr (m,e))
def oh:Q (V Int×K):=loop (λ(h:Int×V Int×K)=>tY d b c h.1 h.2.1 h.2.2) (a,m,e)
def Dc(i:cV d):OL 1 (cA qkQ 524151) (tY d b c a m e) (λ(w:Int×V Int×K)=>my b c w.1 w.2.1 w.2.2) (λ_=>.exit 1) tZ (my b c a m e):=qkE.lx<|tF (tb λh t=>tb λx o=>tb λy p=>tb λz q=>tb λA r=>tb λB s=>tv (kn.ia t)<|tv (uL h)<|tx NF<|tx (rE h)<|jC 0<|cM (Ff a b c m e h.Con h.Names h.Body.Op h.Body.Name h.Body.N h.Body.Kids h.Body.Params h.Body.Alts h.Body.Types _ o)<|ts<|ts<|tc [0] (dY _ p)<|ts<|ts<|tc [0] (oz _ q)<|ts<|tv (bG [qb] 1 rfl)<|tc [0] (ac _ r)<|ts<|tv (fH h.Body [])<|tc [0] (i _ _ _ _ s)<|tE)<|tE
def Fg(h:cV d):=ug (s:=(a,m,e)) λi=>Dc d b c i.1 i.2.1 i.2.2 h
end
def nq(a:bD)(e:ah)(r:V Int)(b:K):Q (V Int×K):=if(e.Op==6)then (ae ([Tu]:V aa) r b).bind λr2=>(jk (e.Params.length:Int) e r2 b).bind λF=>(ae ([pd]:V aa) F.1 F.2).bind λr4=>(cJ e.Kids 0).bind λx5=>(a x5 r4 F.2).bind λr6=>O (r6.1,r6.2) else if(e.Op==7)then (ae ([qcH]:V aa) r b).bind λr8=>(aZ e.Name r8 b).bind λr9=>(j0 e r9.2 r9.1).bind λc=>(ae ([mX]:V aa) c.1 c.2).bind λy=>(cJ e.Kids 0).bind λa0=>(a a0 y c.2).bind λh=>(ae ([I1]:V aa) h.1 h.2).bind λz=>(cJ e.Kids 1).bind λa1=>(a a1 z h.2).bind λs=>O (s.1,s.2) else if(e.Op==8)then (ae ([qfx]:V aa) r b).bind λA=>(cJ e.Kids 0).bind λa2=>(a a2 A b).bind λi=>(ae ([Q8]:V aa) i.1 i.2).bind λB=>(cJ e.Kids 1).bind λa3=>(a a3 B i.2).bind λm=>(ae ([Q7]:V aa) m.1 m.2).bind λE=>(cJ e.Kids 2).bind λa4=>(a a4 E m.2).bind λt=>O (t.1,t.2) else if(e.Op==9)then (ae ([YW]:V aa) r b).bind λH=>(cJ e.Kids 0).bind λa5=>(a a5 H b).bind λo=>(ae ([Hm]:V aa) o.1 o.2).bind λL=>(oh a e.Alts (e.Alts.length:Int) 0 L o.2).bind λd=>(ae ([Q6]:V aa) d.1 d.2).bind λP=>O (P,d.2) else if(e.Op==25)then (ae ([qcI]:V aa) r b).bind λR=>(aZ e.Name R b).bind λp=>(ae ([lM]:V aa) p.2 p.1).bind λS=>(SB e.Kids N (O (dc ((e.Kids.length:Int) - 1)))).bind λx=>(eN a x S p.1).bind λq=>(ae ([I1]:V aa) q.1 q.2).bind λX=>(cJ e.Kids (dc ((e.Kids.length:Int) - 1))).bind λa6=>(a a6 X q.2).bind λw=>O (w.1,w.2) else O (r,b)
def JQ(b:bD)(a:cV b){e:ah}{k0:V Int}{a6:K}:OG 206 [.bptr 0 0,.agg (al e)] [] [ce 0 k0 a6] (nq b e k0 a6) (λr=>.tuple []) [] (λr=>[ce 0 r.1 r.2]):=qkE.g 1<|qkj (rfl:bF (.bptr 0 0)=O [.bptr 0 0]) rfl<|te (dG e)<|tw (bK e)<|tF (tb λr2 a7=>tb λr3 a8=>tb λr4 a9=>tb λx5 ao=>tb λr6 ab=>ts<|tv (bG [Tu] 1 rfl)<|tc [0] (ac _ a7)<|ts<|tw (bk e)<|ca (CA.ln e.Params)<|tc [0,1] (De _ a8)<|ts<|tv (bG [pd] 1 rfl)<|tc [0] (ac _ a9)<|tk<|FD (.dx [0,0,2,6,14] [] [] [])<|ts<|tw (aB e)<|tv (iQ.ia ao)<|tv (bv x5)<|tc [0] (a _ _ _ _ ab)<|tE)<|tF (tb λr8 ad=>tb λr9 an=>tb λbe d=>tb λbi i=>tb λb1 X=>tb λbl m=>tb λbm o=>tb λb2 a0=>tb λbn p=>ts<|tv (bG [qcH] 1 rfl)<|tc [0] (ac _ ad)<|ts<|tw (cc e)<|tc [0] (bh _ an)<|jC 0<|cM (Fe e r9.2 r9.1 _ d)<|ts<|tv (bG [mX] 1 rfl)<|tc [0] (ac _ i)<|tk<|FD (.dx [0,0,2,6,14] [] [] [])<|ts<|tw (aB e)<|tv (iQ.ia X)<|tv (bv b1)<|tc [0] (a _ _ _ _ m)<|ts<|tv (bG [I1] 1 rfl)<|tc [0] (ac _ o)<|tk<|FD (.dx [0,0,2,6,14] [] [] [])<|ts<|tw (aB e)<|tv (iQ.ia a0)<|tv (bv b2)<|tc [0] (a _ _ _ _ p)<|tE)<|tF (tb λbq q=>tb λb3 a1=>tb λbr s=>tb λbs t=>tb λb4 a2=>tb λbt w=>tb λc0 x=>tb λb5 a3=>tb λc1 y=>ts<|tv (bG [qfx] 1 rfl)<|tc [0] (ac _ q)<|tk<|FD (.dx [0,0,2,6,14] [] [] [])<|ts<|tw (aB e)<|tv (iQ.ia a1)<|tv (bv b3)<|tc [0] (a _ _ _ _ s)<|ts<|tv (bG [Q8] 1 rfl)<|tc [0] (ac _ t)<|tk<|FD (.dx [0,0,2,6,14] [] [] [])<|ts<|tw (aB e)<|tv (iQ.ia a2)<|tv (bv b4)<|tc [0] (a _ _ _ _ w)<|ts<|tv (bG [Q7] 1 rfl)<|tc [0] (ac _ x)<|tk<|FD (.dx [0,0,2,6,14] [] [] [])<|ts<|tw (aB e)<|tv (iQ.ia a3)<|tv (bv b5)<|tc [0] (a _ _ _ _ y)<|tE)<|tF (tb λc2 z=>tb λb7 a4=>tb λar A=>tb λb0 B=>tb λbg h=>tb λc3 E=>ts<|tv (bG [YW] 1 rfl)<|tc [0] (ac _ z)<|tk<|FD (.dx [0,0,2,6,14] [] [] [])<|ts<|tw (aB e)<|tv (iQ.ia a4)<|tv (bv b7)<|tc [0] (a _ _ _ _ A)<|ts<|tv (bG [Hm] 1 rfl)<|tc [0] (ac _ B)<|tw (aF e)<|ca (kn.ln e.Alts)<|cM (Fg b e.Alts (e.Alts.length:Int) 0 b0 ar.2 a _ h)<|ts<|tv (bG [Q6] 1 rfl)<|tc [0] (ac _ E)<|tE)<|tF (tb λc4 F=>tb λc5 H=>tb λc6 L=>tb λbc c=>tb λc7 P=>tb λc8 R=>tb λbb a5=>tb λc9 S=>tw (aB e)<|ca (iQ.ln e.Kids)<|ts<|tv (bG [qcI] 1 rfl)<|tc [0] (ac _ F)<|ts<|tw (cc e)<|tc [0] (bh _ H)<|ts<|tv (bG [lM] 1 rfl)<|tc [0] (ac _ L)<|tk<|FD (.dx [0,0,2,0,14] [] [] [])<|ts<|tw (aB e)<|tv (iQ.sc c)<|tc [0] (fK b a _ P)<|ts<|tv (bG [I1] 1 rfl)<|tc [0] (ac _ R)<|tk<|FD (.dx [0,0,2,0,14,30] [] [] [])<|ts<|tw (aB e)<|tv (iQ.ia a5)<|tv (bv bb)<|tc [0] (a _ _ _ _ S)<|tE)<|tE
noncomputable def qhV:W:=f209.body.getD .skip
def qhN:ZF Pg [] 209 f209 qhV:=zf call209 func209 rfl mixed
section
variable(e:ah)(a:Int)
def Lo:Q K:=if(a==7)then O (a==7) else if(a==8)then O (a==8) else if(a==9)then O (a==9) else if(a==6)then O (a==6) else O (a==25)
def QE:OU 0 (cA qhV 54) (Lo a) .normal (λo=>[(5,.bool o)]) (aR 36 [(1,.eptr (al e)),(4,.i6 a)] [.dead] []):=qhN.j<|tF tE<|tF tE<|tF tE<|tF tE<|tE
end
section
variable(a:Int)
def Lp:Q K:=if(a==16)then O (a==16) else if(a==17)then O (a==17) else O (a==18)
def QF:OU 0 (cA qhV 14334) (Lp a) .normal (λo=>[(23,.bool o)]) (aR 36 [(4,.i6 a)] [.dead] []):=qhN.j<|tF tE<|tF tE<|tE
end
section
variable(a:Int)
def Lq:Q K:=if(a==10)then O (a==10) else O (a==11)
def QG:OU 0 (cA qhV 57342) (Lq a) .normal (λo=>[(27,.bool o)]) (aR 36 [(4,.i6 a)] [.dead] []):=qhN.j<|tF tE<|tE
end
section
variable(a:Int)
def Lr:Q K:=if(a==12)then O (a==12) else if(a==13)then O (a==13) else O (a==14)
def QH:OU 0 (cA qhV 229374) (Lr a) .normal (λo=>[(30,.bool o)]) (aR 36 [(4,.i6 a)] [.dead] []):=qhN.j<|tF tE<|tF tE<|tE
end
def yO(e:ah):Q Int:=(Lo e.Op).bind λh=>if h then O 0 else if(e.Op==20)then O 1 else if(e.Op==19)then O 2 else if(e.Op==21)then (cJ e.Kids 0).bind λd=>if(d.Op==16)then O 4 else O 3 else (Lp e.Op).bind λa=>if a then O 4 else (Lq e.Op).bind λb=>if b then O 5 else (Lr e.Op).bind λc=>if c then O 6 else if(e.Op==15)then O 7 else O 8
def Cl{e:ah}:OV 209 [.agg (al e)] (yO e) (λr=>.i6 r) []:=qhN.v<|tb λq h=>te (dG e)<|tw (bK e)<|jC 0<|cM (QE e e.Op _ h)<|tF tE<|tF tE<|tF tE<|tF (tb λi d=>tw (aB e)<|tv (iQ.ia d)<|tw (bK i)<|tF tE<|tE)<|tb λm a=>jC 0<|cM (QF e.Op _ a)<|tF tE<|tb λo b=>jC 0<|cM (QG e.Op _ b)<|tF tE<|tb λp c=>jC 0<|cM (QH e.Op _ c)<|tF tE<|tF tE<|tE
noncomputable def qtj:W:=f208.body.getD .skip
def qsk:ZF Pg [] 208 f208 qtj:=zf call208 func208 rfl mixed
def gN(a:bD)(e:ah)(c:Int)(h:V Int)(b:K):Q (V Int×K):=(yO e).bind λm=>if Y (m<c)then (ae ([lj]:V aa) h b).bind λo=>(a e o b).bind λd=>(ae ([jA]:V aa) d.1 d.2).bind λp=>O (p,d.2) else (a e h b).bind λi=>O (i.1,i.2)
def lU(c:bD)(a:cV c){e:ah}{b:Int}{q:V Int}{d:K}:OG 208 [.bptr 0 0,.agg (al e),.i6 b] [] [ce 0 q d] (gN c e b q d) (λr=>.tuple []) [] (λr=>[ce 0 r.1 r.2]):=qsk.g 1<|tb λs h=>te (dG e)<|tv (bv e)<|cP (Cl _ h)<|tF (tb λt i=>tb λw m=>tb λx o=>tv (bG [lj] 1 rfl)<|tc [0] (ac _ i)<|tv (bv e)<|tc [0] (a _ _ _ _ m)<|tv (bG [jA] 1 rfl)<|tc [0] (ac _ o)<|tE)<|tb λy p=>tv (bv e)<|tc [0] (a _ _ _ _ p)<|tE
noncomputable def qti:W:=f207.body.getD .skip
def qsj:ZF Pg [] 207 f207 qti:=zf call207 func207 rfl mixed
def gq(c:bD)(a:ah)(d:aa)(m:ah)(first b:Int)(o:V Int)(e:K):Q (V Int×K):=
 (gN c a first o e).bind λh=>
 (ae ([lM,d,lM]:V aa) h.1 h.2).bind λp=>
 (gN c m b p h.2).bind λi=>
 O (i.1,i.2)
def np(b:bD)(d:cV b){a:ah}{e:aa}{i:ah}{first c:Int}{q:V Int}{h:K}:OG 207 [.bptr 0 0,.agg (al a),.str e,.agg (al i),.i6 first,.i6 c] [] [ce 0 q h] (gq b a e i first c q h) (λr=>.tuple []) [] (λr=>[ce 0 r.1 r.2]):=qsj.g 1<|
 tb λs m=>tb λt o=>tb λw p=>te (dG a)<|te (dG i)<|tv (bv a)<|tc [0] (lU b d _ m)<|tv (bG [lM,e,lM] 3 rfl)<|tc [0] (ac _ o)<|tv (bv i)<|tc [0] (lU b d _ p)<|tE
noncomputable def qni:W:=f161.body.getD .skip
def qm4:ZF Pg [] 161 f161 qni:=zf call161 func161 rfl mixed
section
variable(e:ah)(a:Int)(m:V Int)(b:K)
def kW:Q K:=if(a==6)then O (a==6) else if(a==7)then O (a==7) else if(a==8)then O (a==8) else if(a==9)then O (a==9) else O (a==25)
def GO:OU 1 (cA qni 32766) (kW a) .normal (λo=>[(90,.bool o)]) (aR 203 [(0,.bptr 0 0),(3,.eptr (al e)),(6,.i6 a)] [ce 0 m b,.dead] []):=qm4.j<|tF tE<|tF tE<|tF tE<|tF tE<|tE
end
section
variable(e:ah)(a:Int)(m:V Int)(b:K)
def kX:Q K:=if(a==16)then O (a==16) else if(a==17)then O (a==17) else O (a==18)
def GP:OU 1 (cA qni 536870910) (kX a) .normal (λo=>[(6,.undef),(185,.bool o)]) (aR 203 [(0,.bptr 0 0),(3,.eptr (al e)),(6,.i6 a)] [ce 0 m b,.dead] []):=qm4.j<|tF tE<|tF tE<|tE
end
def lT(b:bD)(e:ah)(c:V Int)(a:K):Q (V Int×K):=if(e.Op==1)then if Y (e.N<0)then (VC e.N).bind λr3=>(ae ([lj,r3,jA]:V aa) c a).bind λr4=>O (r4,a) else (VC e.N).bind λr5=>(ae ([r5]:V aa) c a).bind λr6=>O (r6,a) else if(e.Op==2)then (gS (e.N==1)).bind λr8=>(ae ([r8]:V aa) c a).bind λr9=>O (r9,a) else if(e.Op==3)then (aZ e.Name c a).bind λo=>O (o.2,o.1) else if(e.Op==4)then (cC e.Name c a).bind λp=>(jP e.Types p.2 p.1).bind λd=>if Y ((e.Kids.length:Int)>0)then (eN b e.Kids d.1 d.2).bind λq=>O (q.1,q.2) else O (d.1,d.2) else if(e.Op==5)then (aZ e.Name c a).bind λr=>(jP e.Types r.2 r.1).bind λs=>(eN b e.Kids s.1 s.2).bind λt=>O (t.1,t.2) else (kW e.Op).bind λL=>if L then (nq b e c a).bind λw=>O (w.1,w.2) else if(e.Op==21)then (cJ e.Kids 0).bind λh=>if(h.Op==16)then (cJ h.Kids 0).bind λa7=>(cJ h.Kids 1).bind λa8=>(gq b a7 CY a8 5 5 c a).bind λx=>O (x.1,x.2) else (ae ([Tn]:V aa) c a).bind λR=>(gN b h 3 R a).bind λy=>O (y.1,y.2) else if(e.Op==15)then (ae ([ER]:V aa) c a).bind λS=>(cJ e.Kids 0).bind λa9=>(gN b a9 7 S a).bind λz=>O (z.1,z.2) else if(e.Op==22)then (ae ([qmW]:V aa) c a).bind λX=>(eN b e.Kids X a).bind λA=>O (A.1,A.2) else if(e.Op==23)then (ae ([qmV]:V aa) c a).bind λa0=>(eN b e.Kids a0 a).bind λB=>O (B.1,B.2) else if(e.Op==24)then (ae ([qmX]:V aa) c a).bind λa1=>(eN b e.Kids a1 a).bind λE=>O (E.1,E.2) else if(e.Op==26)then (ae ([lj]:V aa) c a).bind λa2=>(cJ e.Kids 0).bind λab=>(b ab a2 a).bind λi=>(ae ([d7]:V aa) i.1 i.2).bind λa3=>(cJ e.Types 0).bind λad=>(dH ad a3 i.2).bind λm=>(ae ([jA]:V aa) m.2 m.1).bind λa4=>O (a4,m.1) else (kX e.Op).bind λP=>if P then (cJ e.Kids 0).bind λan=>(cJ kR e.Op).bind λao=>(cJ e.Kids 1).bind λar=>(gq b an ao ar 5 5 c a).bind λF=>O (F.1,F.2) else (cJ e.Kids 0).bind λb0=>(cJ kR e.Op).bind λb1=>(cJ e.Kids 1).bind λb2=>(yO e).bind λa5=>(yO e).bind λa6=>(gq b b0 b1 b2 a5 (dc (a6+1)) c a).bind λH=>O (H.1,H.2)
def JS(b:bD)(a:cV b){e:ah}{k0:V Int}{c:K}:OG 161 [.bptr 0 0,.agg (al e)] [] [ce 0 k0 c] (lT b e k0 c) (λr=>.tuple []) [] (λr=>[ce 0 r.1 r.2]):=qm4.g 1<|te (dG e)<|tw (bK e)<|tF (tw (di e)<|tF (tb λr3 b5=>tb λr4 b7=>tw (di e)<|cP (Us b5)<|tv (bG [lj,r3,jA] 3 rfl)<|tc [0] (ac _ b7)<|tE)<|tb λr5 bb=>tb λr6 bc=>tw (di e)<|cP (Us bb)<|tv (bG [r5] 1 rfl)<|tc [0] (ac _ bc)<|tE)<|tF (tb λr8 be=>tb λr9 bg=>tw (di e)<|cP (wQ _ be)<|tv (bG [r8] 1 rfl)<|tc [0] (ac _ bg)<|tE)<|tF (tb λc3 p=>tw (cc e)<|tc [0] (bh _ p)<|tE)<|tF (tb λc4 q=>tb λc5 s=>tw (cc e)<|tc [0] (dY _ q)<|tw (ax e)<|tc [0] (wN _ s)<|tw (aB e)<|ca (iQ.ln e.Kids)<|tF (tb λc6 t=>tw (aB e)<|tc [0] (fK b a _ t)<|tE)<|tE)<|tF (tb λc7 w=>tb λc8 x=>tb λc9 y=>tw (cc e)<|tc [0] (bh _ w)<|tw (ax e)<|tc [0] (wN _ x)<|tw (aB e)<|tc [0] (fK b a _ y)<|tE)<|tb λc1 m=>jC 0<|cM (GO e e.Op k0 c _ m)<|tF (tb λcd z=>tv (bv e)<|tc [0] (JQ b a _ z)<|tE)<|tF (tb λi ab=>tw (aB e)<|tv (iQ.ia ab)<|tv (bv i)<|tx qaq<|tx (tV i)<|ts<|tF (tb λbi ad=>tb λbl an=>tb λcg A=>tk<|FD (.dx [0,0,2,6,14,0,32,96,224] [] [] [])<|ts<|tv (iQ.ia ad)<|tv (bv bi)<|ts<|tv (iQ.ia an)<|tv (bv bl)<|tc [0] (np b a _ A)<|tE)<|tb λci B=>tb λcn E=>tv (bG [Tn] 1 rfl)<|tc [0] (ac _ B)<|tv (fH i [])<|tc [0] (lU b a _ E)<|tE)<|tF (tb λcs F=>tb λbm ao=>tb λcv H=>tv (bG [ER] 1 rfl)<|tc [0] (ac _ F)<|tw (aB e)<|tv (iQ.ia ao)<|tv (bv bm)<|tc [0] (lU b a _ H)<|tE)<|tF (tb λd0 L=>tb λd1 P=>tv (bG [qmW] 1 rfl)<|tc [0] (ac _ L)<|tw (aB e)<|tc [0] (fK b a _ P)<|tE)<|tF (tb λd2 R=>tb λd3 S=>tv (bG [qmV] 1 rfl)<|tc [0] (ac _ R)<|tw (aB e)<|tc [0] (fK b a _ S)<|tE)<|tF (tb λd4 X=>tb λd5 a0=>tv (bG [qmX] 1 rfl)<|tc [0] (ac _ X)<|tw (aB e)<|tc [0] (fK b a _ a0)<|tE)<|tF (tb λd6 a1=>tb λbn ar=>tb λdd a2=>tb λde a3=>tb λbq b0=>tb λdk a4=>tb λdl a5=>tv (bG [lj] 1 rfl)<|tc [0] (ac _ a1)<|tw (aB e)<|tv (iQ.ia ar)<|tv (bv bn)<|tc [0] (a _ _ _ _ a2)<|tv (bG [d7] 1 rfl)<|tc [0] (ac _ a3)<|tw (ax e)<|tv (ff.ia b0)<|tv (fp bq)<|tc [0] (eQ _ a4)<|tv (bG [jA] 1 rfl)<|tc [0] (ac _ a5)<|tE)<|tb λc2 o=>jC 0<|cM (GP e e.Op k0 c _ o)<|tF (tb λbr b1=>tb λe2 d=>tb λbs b2=>tb λds a6=>tk<|FD (.dx [0,0,2,6,14,0,32,96,224,0,512,1536,3584] [] [] [])<|tw (aB e)<|tv (iQ.ia b1)<|tv (bv br)<|tw (bK e)<|tv (Ls (k:=.i64) d)<|tv (Lt d)<|tw (aB e)<|tv (iQ.ia b2)<|tv (bv bs)<|tc [0] (np b a _ a6)<|tE)<|tb λbt b3=>tb λe3 h=>tb λc0 b4=>tb λdt a7=>tb λe0 a8=>tb λe1 a9=>tk<|FD (.dx [0,0,2,6,14,0,32,96,224,0,512,1536,3584,0,8192,0,57344,122880] [] [] [])<|tw (aB e)<|tv (iQ.ia b3)<|tv (bv bt)<|tw (bK e)<|tv (Ls (k:=.i64) h)<|tv (Lt h)<|tw (aB e)<|tv (iQ.ia b4)<|tv (bv c0)<|tv (bv e)<|cP (Cl _ a7)<|tv (bv e)<|cP (Cl _ a8)<|tc [0] (np b a _ a9)<|tE
def ra:((ah×V Int×K)->Q (V Int×K))->(ah×V Int×K)->Q (V Int×K):=λ(rec:(ah×V Int×K)->Q (V Int×K)) (x:ah×V Int×K)=>lT (λe b a=>rec (e,b,a)) x.1 x.2.1 x.2.2
def vw(e:ah)(b:V Int)(a:K):Q (V Int×K):=sQ ra (e,b,a)
def Lv{e:ah}{c:V Int}{a:K}:OG 161 [.bptr 0 0,.agg (al e)] [] [ce 0 c a] (vw e c a) (λr=>.tuple []) [] (λr=>[ce 0 r.1 r.2]):=qaJ λ_ h=>ij (F:=ra) (M:=λ(x:ah×V Int×K) (r:V Int×K)=>C Pg GE 161 [.bptr 0 0,.agg (al x.1)] [] [ce 0 x.2.1 x.2.2] (.tuple []) [] [ce 0 r.1 r.2]) (λrec b x r h=>JS _ (λe c a=>qaJ λr h=>b (e,c,a) r h) _ h) h
noncomputable def qsP:W:=f108.body.getD .skip
def qrQ:ZF Pg [] 108 f108 qsP:=zf call108 func108 rfl mixed
def nz(e:ah)(b:V Int)(a:K):Q (K×V Int):=(qr e).bind λd=>if(d !=0)then O (T,b) else (vw e b a).bind λc=>O (c.2,c.1)
def J0{e:ah}{d:V Int}{a:K}:OG 108 [.bptr 0 0,.agg (al e)] [] [ce 0 d a] (nz e d a) (λr=>.tuple []) [] (λr=>[ce 0 r.2 r.1]):=qrQ.g 1<|tb λh b=>te (dG e)<|tv (bv e)<|cP (T7 _ b)<|tF (ts<|tE)<|tb λi c=>tv (bv e)<|tc [0] (Lv _ c)<|tE
end Go.Proofs.YtankopenjcbeeaaGreatDoor
