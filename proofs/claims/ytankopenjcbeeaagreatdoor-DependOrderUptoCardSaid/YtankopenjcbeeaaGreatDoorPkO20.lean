/- PROVED: a part of the proof. Conditions: none. -/
import Derived.Test.YtankopenjcbeeaaGreatDoorPkO19
import Derived.Test.YtankopenjcbeeaaGreatDoorPkO10
import Derived.Lib.ItoaLen
set_option linter.unusedSimpArgs false set_option linter.defProp false
set_option linter.unusedVariables false
noncomputable section
namespace Go.Proofs.YtankopenjcbeeaaGreatDoor
open Go Go.Proofs.Tryz
open Option renaming some→O,none→N
open Go renaming TypeId→G,Value→D,Program→I,Oper→M,World→J,Code→W
open Bool renaming true→T,false→Z
open Decidable renaming decide→Y
open YtankopenjcbeeaaGreatDoor renaming PVal→U
set_option linter.defProp false
set_option maxRecDepth 100000
noncomputable def b9:W:=Tryz.f9.body.getD .skip
def Z9:ZF Pg [] 9 Tryz.f9 b9:=zf call9 func9 rfl mixed
def FT:Q K:=(AJ ([102]:aa) T ([103]:aa) 1).bind λa=>(AJ ([103]:aa) T ([]:aa) 1).bind λb=>(AJ ([102]:aa) T ([103]:aa) 1).bind λs=>(AJ ([103]:aa) T ([]:aa) 2).bind λt=>(AJ ([102]:aa) T ([103]:aa) 1).bind λw=>(AJ ([103]:aa) Z ([]:aa) 1).bind λx=>(AJ ([102]:aa) T ([103]:aa) 1).bind λy=>(AJ ([103]:aa) Z ([]:aa) 2).bind λz=>(wX ([]:aa)).bind λA=>if (A == 2166136261) = T then (wX ([97]:aa)).bind λc=>if (c == 3826002220) = T then (BV (⟨[],[],[],[],[],[a,b]⟩:am) (⟨[],[],[],[],[],[s,t]⟩:am)).bind λd=>(Ph d ([[103]]:V aa)).bind λe=>if e then (BV (⟨[],[],[],[],[],[w,x]⟩:am) (⟨[],[],[],[],[],[y,z]⟩:am)).bind λh=>(Ph h ([[102],[103]]:V aa)).bind λi=>if i then (XW (⟨[],[],[],[],[],[a,b]⟩:am) ([102]:aa)).bind λm=>(Ph m ([[103]]:V aa)).bind λo=>if o then (fb (⟨[],[],[],[],[],[a,b]⟩:am) ([103]:aa)).bind λp=>if(p==([97,115,115,117,109,101,32,103,32,40,120,41,32,58,32,40,120,32,58,32,73,110,116,41,32,45,62,32,73,110,116]:aa))then (ig (⟨[],[],[],[],[],[a,b]⟩:am) ([102]:aa)).bind λq=>if((q.length:Int)==0)then (eG (⟨[],[],[],[],[],[a,b]⟩:am) ([104]:aa)).bind λr=>O (r==0) else O Z else O Z else O Z else O Z else O Z else O Z else O Z
def HG:OV 9 [] FT (λr=>.bool r) []:=Z9.v<|
 tb λa a0=>tb λb a1=>tb λr3 a2=>tb λr4 a3=>tb λr5 a4=>tb λr6 a5=>tb λr7 a6=>tb λr8 a7=>tb λr9 S=>cP (pn _ a0)<|cP (pn _ a1)<|tv (ta.mk' (v:=Pd) GB ([a,b]:V ba) 2 (by kernel_rfl))<|XD (AM ([a,b]:V ba)) (AL ([a,b]:V ba))<|tx qjV<|ty (pu (⟨[],[],[],[],[],[a,b]⟩:am))<|cP (pn _ a2)<|cP (pn _ a3)<|tv (ta.mk' (v:=Pd) GB ([r3,r4]:V ba) 2 (by kernel_rfl))<|XD (AM ([r3,r4]:V ba)) (AL ([r3,r4]:V ba))<|tx qjV<|ty (pu (⟨[],[],[],[],[],[r3,r4]⟩:am))<|cP (pn _ a4)<|cP (pn _ a5)<|tv (ta.mk' (v:=Pd) GB ([r5,r6]:V ba) 2 (by kernel_rfl))<|XD (AM ([r5,r6]:V ba)) (AL ([r5,r6]:V ba))<|tx qjV<|ty (pu (⟨[],[],[],[],[],[r5,r6]⟩:am))<|cP (pn _ a6)<|cP (pn _ a7)<|tv (ta.mk' (v:=Pd) GB ([r7,r8]:V ba) 2 (by kernel_rfl))<|XD (AM ([r7,r8]:V ba)) (AL ([r7,r8]:V ba))<|tx qjV<|ty (pu (⟨[],[],[],[],[],[r7,r8]⟩:am))<|tf (λo=>tb λa9 y=>have c:=λ{X b3 b4} (r:PV _ X b3 b4)=>cP (xS _ S)<|tg 3 o<|cP (xS _ y)<|r;tf (λp=>tb λab z=>tb λad A=>have d:=λ{X b3 b4} (r:PV _ X b3 b4)=>c<|tg 7 p<|tv (kO (⟨[],[],[],[],[],[a,b]⟩:am) [])<|tv (kO (⟨[],[],[],[],[],[r3,r4]⟩:am) [])<|cP (DO _ z)<|tv (bG [([103]:aa)] 1 rfl)<|cP (Kf _ A)<|r;tf (λq=>tb λan B=>tb λao E=>have e:=λ{X b3 b4} (r:PV _ X b3 b4)=>d<|tg 14 q<|tv (kO (⟨[],[],[],[],[],[r5,r6]⟩:am) [])<|tv (kO (⟨[],[],[],[],[],[r7,r8]⟩:am) [])<|cP (DO _ B)<|tv (bG [([102]:aa),([103]:aa)] 2 rfl)<|cP (Kf _ E)<|r;tf (λs=>tb λar F=>tb λb0 H=>have h:=λ{X b3 b4} (r:PV _ X b3 b4)=>e<|tg 21 s<|tv (kO (⟨[],[],[],[],[],[a,b]⟩:am) [])<|cP (Zr F)<|tv (bG [([103]:aa)] 1 rfl)<|cP (Kf _ H)<|r;tf (λt=>tb λb1 L=>have i:=λ{X b3 b4} (r:PV _ X b3 b4)=>h<|tg 27 t<|tv (kO (⟨[],[],[],[],[],[a,b]⟩:am) [])<|cP (Am _ L)<|r;tf (λw=>tb λa8 P=>have m:=λ{X b3 b4} (r:PV _ X b3 b4)=>i<|tg 32 w<|tv (kO (⟨[],[],[],[],[],[a,b]⟩:am) [])<|cP (DM _ P)<|ca (cT.ln a8)<|r;tf (λx=>tb λb2 R=>m<|tg 38 x<|tv (kO (⟨[],[],[],[],[],[a,b]⟩:am) [])<|cP (mj _ R)<|tE) λx=>m<|tg 38 x<|tE) λw=>i<|tg 32 w<|tE) λt=>h<|tg 27 t<|tE) λs=>e<|tg 21 s<|tE) λq=>d<|tg 14 q<|tE) λp=>c<|tg 7 p<|tE) λo=>cP (xS _ S)<|tg 3 o<|tE
noncomputable def b6:W:=Tryz.f6.body.getD .skip
def Z6:ZF Pg [25,27] 6 Tryz.f6 b6:=zf call6 func6 rfl mixed
section
variable(m:am)
def mZ:Q K:=(Uj m).bind λa=>if(!a)then O T else (FU m).bind λb=>(kC b).bind λc=>O (!c)
def Jz:OU 0 (cA b6 12) (mZ m) .normal (λo=>[(16,.bool o)]) (aR 70 [(1,.eptr (au m))] [.dead] []):=Z6.j<|
 tb λh b=>have a:=λ{X q s} (r:PV _ X q s)=>tv (bM m)<|cP (qcO _ b)<|r;tf (λe=>a<|tg 4 e<|tE) λe=>tb λi c=>tb λp d=>a<|tg 4 e<|tv (bM m)<|cP (Pt _ c)<|cP (Tz _ d)<|tE
end
section
variable(m:am)(c:Int)(e:V ei)(h:V dy)(i:V bw)(p:V bj)(q:V ez)(a b:Int)(d:waG)
def yx:az:=aR 70 [(1,.eptr (au m)),(3,.bptr 1 0),(4,.i6 a),(22,.i6 c),(23,.i6 b)] [.dead,.cells [sl bP e,sl eL h,sl cu i,sl aO p,sl cj q,sl aL d] [(5,65)]] []
def Kv(o:Int×waG):az:=aR 70 [(1,.eptr (au m)),(3,.bptr 1 0),(4,.i6 o.1)] [.dead,.cells [sl bP e,sl eL h,sl cu i,sl aO p,sl cj q,sl aL o.2] [(5,65)]] []
def ib:Q ((Int×Int×waG)⊕(Int×waG)):=if Y (b<c)then (cJ m.Defs (dc ((dc ((m.Defs.length:Int) - 1)) - b))).bind λr=>(app d ([r]:V ba)).bind λo=>(cJ m.Defs b).bind λs=>if(s.Mode==2)then O (.inl (dc (a+1),dc (b+1),o)) else O (.inl (a,dc (b+1),o)) else O (.inr (a,d))
def sN:Q (Int×waG):=loop (λ(o:Int×Int×waG)=>ib m c o.1 o.2.1 o.2.2) (a,b,d)
def HE:OL 0 (cA b6 1015) (ib m c a b d) (λ(y:Int×Int×waG)=>yx m c e h i p q y.1 y.2.1 y.2.2) (λ_=>.exit 0) (Kv m e h i p q) (yx m c e h i p q a b d):=Z6.l<|
 tF (tb λw r=>tb λt o=>tb λx s=>qfr [0,1,0,4,0,16,48,112,0,496,1020,2044,4092,8191,16383,32767]<|tw (ck m)<|tw (ck m)<|ca (ta.ln m.Defs)<|tv (ta.ia r)<|tv (sF w)<|tv (ta.mk' (v:=Pd) GB ([w]:V ba) 1 (by kernel_rfl))<|tv (ta.ap o)<|qrl (rfl:bF (sl aL t)=O [sl aL t])<|tw (ck m)<|tv (ta.ia s)<|tw (oN x)<|tF tE<|tE)<|tE
def JA:=ug (s:=(a,b,d)) λo=>HE m c e h i p q o.1 o.2.1 o.2.2
end
section
variable(m:am)(b:waA)(c:Int)(d:V ei)(e:V dy)(h:V bw)(i:V bj)(p:V ez)(q:waG)(a:Int)
def pl:az:=aR 70 [(1,.eptr (au m)),(3,.bptr 1 0),(55,sl cS b),(56,.i6 c),(57,.i6 a)] [.dead,.cells [sl bP d,sl eL e,sl cu h,sl aO i,sl cj p,sl aL q] [(5,65)]] [((55,0),9)]
def yy(o:Unit⊕(Unit)):Exit:=match o with|(.inl _)=>.ret|(.inr _)=>.exit 2
def yz(o:Unit⊕(Unit)):az:=match o with|(.inl o)=>aR 70 [(2,.bool Z)] [.dead,.dead] []|(.inr o)=>aR 70 [] [.dead,.dead] []
def ic:Q (Int⊕(Unit⊕(Unit))):=if Y (a<c)then (cJ b a).bind λo=>(eG m o).bind λr=>(eG (⟨d,e,h,i,p,q⟩:am) o).bind λs=>if(r !=s)then O (.inr (.inl ())) else O (.inl (dc (a+1))) else O (.inr (.inr ()))
def na:Q (Unit⊕(Unit)):=loop (λ(o:Int)=>ic m b c d e h i p q o) a
def HF:OL 0 (cA b6 4087) (ic m b c d e h i p q a) (λ(y:Int)=>pl m b c d e h i p q y) yy yz (pl m b c d e h i p q a):=Z6.l<|tF (tb λt s=>tb λw o=>tb λx r=>tv (cT.ia s)<|tv (cX OR (.str t) [])<|qfr [0,0,3,0,0,31,63]<|tv (bM m)<|cP (mj _ o)<|tv (kO (⟨d,e,h,i,p,q⟩:am) [])<|cP (mj _ r)<|tF tE<|tE)<|tE
def ww:OK 0 (.loop (cA b6 4087)) (na m b c d e h i p q a) yy yz (pl m b c d e h i p q a):=NA λ_=>HF _ _ _ _ _ _ _ _ _ _
end
def ze(m:am):Q K:=(mZ m).bind λh=>if h then FT.bind λi=>O i else (sN m (m.Defs.length:Int) 0 0 ([]:V ba)).bind λb=>if Y (b.1>1)then FT.bind λd=>O d else (FU m).bind λc=>(na m c (c.length:Int) m.Datas m.Classes m.Instances m.Measures m.Quals b.2 0).bind λa=>match a with|(.inl a)=>O Z|(.inr a)=>FT.bind λe=>O e
def NN{m:am}:OV 6 [.agg (au m)] (ze m) (λr=>.bool r) []:=Z6.v<|tb λw o=>te (ew m)<|jC 1<|cM (Jz m _ o)<|tF (tb λx p=>cP (HG _ p)<|tE)<|tb λi c=>tv (bM m)<|tx qjV<|tx (qb7 m)<|FD (.ar 0 65 0 [])<|tw (ck m)<|ca (ta.ln m.Defs)<|cM (JA m (m.Defs.length:Int) m.Datas m.Classes m.Instances m.Measures m.Quals 0 0 ([]:V ba) _ c)<|tF (tb λs d=>cP (HG _ d)<|tE)<|tb λb e=>tv (bM m)<|cP (Pt _ e)<|ca (cT.ln b)<|t2 (λq a=>cM (ww m b (b.length:Int) m.Datas m.Classes m.Instances m.Measures m.Quals i.2 0 _ a)<|tE) λq a=>tb λt h=>cM (ww m b (b.length:Int) m.Datas m.Classes m.Instances m.Measures m.Quals i.2 0 _ a)<|cP (HG _ h)<|tE
abbrev SV:=(ag->Q Int)
section
variable(a:SV)(c:m6)(d n b:Int)
def BI:Q ((Int×Int)⊕(Int)):=if Y (b<d)then (cJ c b).bind λh=>(a h).bind λe=>O (.inl (dc (n+e),dc (b+1))) else O (.inr n)
def Pm:Q Int:=loop (λ(e:Int×Int)=>BI a c d e.1 e.2) (n,b)
end
def Kk(a:SV)(p:ag):Q Int:=(Pm a p.Kids (p.Kids.length:Int) 1 0).bind λb=>O b
def Kl:(ag->Q Int)->(ag)->Q Int:=λ(rec:ag->Q Int) (x:ag)=>Kk (λp=>rec p) x
def LR(p:ag):Q Int:=sQ Kl p
abbrev SU:=(ag->Q Int)
section
variable(a:SU)(c:m6)(d n b:Int)
def UM:Q ((Int×Int)⊕(Int)):=if Y (b<d)then (cJ c b).bind λh=>(a h).bind λe=>O (.inl ((if e>n then e else n),dc (b+1))) else O (.inr n)
def Pl:Q Int:=loop (λ(e:Int×Int)=>UM a c d e.1 e.2) (n,b)
end
def Ki(a:SU)(p:ag):Q Int:=(Pl a p.Kids (p.Kids.length:Int) 0 0).bind λb=>O (dc (b+1))
def Kj:(ag->Q Int)->(ag)->Q Int:=λ(rec:ag->Q Int) (x:ag)=>Ki (λp=>rec p) x
def LP(p:ag):Q Int:=sQ Kj p
abbrev UV:=(ag->Q Int)
def FK(a:Int):Q K:=if(a==3)then O T else if(a==4)then O T else O (a==5)
section
variable(n a:Int)
def Dv:Q K:=if(a==1)then O (a==1) else if(a==2)then O (a==2) else O (a==3)
end
section
variable(n a:Int)
def Dw:Q K:=if(a==4)then O (a==4) else O (a==5)
end
section
variable(n a:Int)
def Dx:Q K:=if(a==9)then O (a==9) else O (a==14)
end
def rq(b n:Int):Q K:=(Dv b).bind λc=>if c then O (n==0) else (Dw b).bind λd=>if d then if Y (n>=1)then O (Y (n<=24)) else O Z else (Dx b).bind λa=>if a then O (n==1) else O (n==2)
def J8(n:Int):Q K:=if Y (n>=(-1000000000000))then O (Y (n<=1000000000000)) else O Z
section
variable(s:aa)(d:Int)(b:waA)(a c:Int)
def hZ:Q ((waA×Int×Int)⊕(waA×Int)):=if Y (c<d)then (lO s c).bind λe=>if(e==46)then (SB s (O a) (O c)).bind λi=>(app b ([i]:V aa)).bind λh=>O (.inl (h,dc (c+1),dc (c+1))) else O (.inl (b,a,dc (c+1))) else O (.inr (b,a))
def Hv:Q (waA×Int):=loop (λ(e:waA×Int×Int)=>hZ s d e.1 e.2.1 e.2.2) (b,a,c)
end
def FJ(s:aa):Q waA:=(Hv s (s.length:Int) ([]:V aa) 0 0).bind λa=>(SB s (O a.2) N).bind λc=>(app a.1 ([c]:V aa)).bind λb=>O b
def nY(c:Int):Q K:=if Y (c>=97)then O (Y (c<=122)) else O Z
def Pj:Q waA:=O ([([97,110,100]:aa),([97,115,115,117,109,101]:aa),([98,111,111,108]:aa),([98,111,117,110,100]:aa),([99,97,115,101]:aa),([99,101,108,108]:aa),([99,108,97,115,115]:aa),([100,97,116,97]:aa),([100,101,102]:aa),([100,105,118]:aa),([101,108,115,101]:aa),([101,110,100]:aa),([102,97,108,115,101]:aa),([102,111,114,97,108,108]:aa),([102,117,110]:aa),([103,101,116]:aa),([105,102]:aa),([105,110]:aa),([105,110,115,116]:aa),([105,110,116]:aa),([105,110,118,97,114,105,97,110,116]:aa),([108,101,116]:aa),([109,97,116,99,104]:aa),([109,101,97,115,117,114,101]:aa),([109,101,116,114,105,99]:aa),([109,111,100]:aa),([109,117]:aa),([110,101,119]:aa),([110,111,116]:aa),([111,102]:aa),([111,114]:aa),([113,117,97,108]:aa),([114,101,102,108,101,99,116]:aa),([115,101,116]:aa),([116,104,101,110]:aa),([116,114,117,101]:aa),([117,115,101]:aa),([118]:aa),([118,97,108]:aa),([116,97,103]:aa),([119,104,101,114,101]:aa),([119,105,116,104]:aa)]:V aa)
def yq(s:aa):Q K:=Pj.bind λa=>(Ka a s).bind λb=>O (Y (b>=0))
def tn(c:Int):Q K:=if Y (c>=48)then O (Y (c<=57)) else O Z
section
variable(s:aa)
def Ay:Q K:=if Y ((s.length:Int)<1)then O T else if Y ((s.length:Int)>24)then O T else (lO s 0).bind λa=>(nY a).bind λb=>if(!b)then O T else (yq s).bind λc=>O c
end
section
variable(s:aa)(i a:Int)
def qe:Q K:=(lO s i).bind λb=>(nY b).bind λe=>if(!e)then (lO s i).bind λc=>(tn c).bind λh=>if(!h)then (lO s i).bind λd=>O (d !=95) else O Z else O Z
end
section
variable(s:aa)(b a:Int)
def uj:Q (Int⊕(Unit⊕(Unit))):=if Y (a<b)then (qe s a).bind λc=>if c then O (.inr (.inl ())) else O (.inl (dc (a+1))) else O (.inr (.inr ()))
def Az:Q (Unit⊕(Unit)):=loop (λ(c:Int)=>uj s b c) a
end
def FH(s:aa):Q Int:=(Ay s).bind λb=>if b then O 3 else (Az s (s.length:Int) 0).bind λa=>match a with|(.inl a)=>O 3|(.inr a)=>O 0
def pf(c:Int):Q K:=if Y (c>=65)then O (Y (c<=90)) else O Z
section
variable(s:aa)
def AA:Q K:=if Y ((s.length:Int)<1)then O T else if Y ((s.length:Int)>24)then O T else (lO s 0).bind λa=>(pf a).bind λb=>if(!b)then O T else if(s==([73,110,116]:aa))then O T else if(s==([66,111,111,108]:aa))then O T else if(s==([67,101,108,108]:aa))then O T else O (s==([70,117,110]:aa))
end
section
variable(s:aa)(i a:Int)
def qf:Q K:=(lO s i).bind λb=>(nY b).bind λe=>if(!e)then (lO s i).bind λc=>(pf c).bind λh=>if(!h)then (lO s i).bind λd=>(tn d).bind λm=>O (!m) else O Z else O Z
end
section
variable(s:aa)(b a:Int)
def ul:Q (Int⊕(Unit⊕(Unit))):=if Y (a<b)then (qf s a).bind λc=>if c then O (.inr (.inl ())) else O (.inl (dc (a+1))) else O (.inr (.inr ()))
def AB:Q (Unit⊕(Unit)):=loop (λ(c:Int)=>ul s b c) a
end
def FI(s:aa):Q Int:=(AA s).bind λb=>if b then O 3 else (AB s (s.length:Int) 0).bind λa=>match a with|(.inl a)=>O 3|(.inr a)=>O 0
section
variable(p:aa)
def Kh:Q K:=if Y ((p.length:Int)<1)then O T else O (Y ((p.length:Int)>24))
end
section
variable(p:aa)(nm a:K)(i b:Int)
def yr:Q K:=if nm then (lO p i).bind λm=>(nY m).bind λo=>if o then O T else (lO p i).bind λc=>(pf c).bind λe=>if e then O T else (lO p i).bind λd=>(tn d).bind λh=>O h else O Z
end
section
variable(p:aa)(c:Int)(nm b:K)(a:Int)
def jv:Q ((K×K×Int)⊕(K×K)):=if Y (a<c)then (yr p nm a).bind λd=>if b then (lO p a).bind λe=>(nY e).bind λm=>if m then O (.inl (d,T,dc (a+1))) else (lO p a).bind λh=>(tn h).bind λo=>if o then O (.inl (d,T,dc (a+1))) else (lO p a).bind λi=>O (.inl (d,i==95,dc (a+1))) else O (.inl (d,Z,dc (a+1))) else O (.inr (nm,b))
def Dt:Q (K×K):=loop (λ(d:K×K×Int)=>jv p c d.1 d.2.1 d.2.2) (nm,b,a)
end
def Kg(p:aa):Q K:=(Kh p).bind λc=>if c then O Z else (lO p 0).bind λb=>(nY b).bind λd=>(Dt p (p.length:Int) T d 0).bind λa=>if a.1 then O T else O a.2
section
variable(v:waA)
def yp:Q K:=(cJ v 0).bind λd=>(FH d).bind λb=>if (b != 0) = T then (cJ v 0).bind λe=>(FI e).bind λc=>if(c !=0)then (cJ v 0).bind λa=>if(!(a==([118]:aa)))then O T else O ((v.length:Int)==1) else O Z else O Z
end
section
variable(b:waA)(c a:Int)
def xK:Q (Int⊕(Unit⊕(Unit))):=if Y (a<c)then (cJ b a).bind λe=>(Kg e).bind λd=>if(!d)then O (.inr (.inl ())) else O (.inl (dc (a+1))) else O (.inr (.inr ()))
def J9:Q (Unit⊕(Unit)):=loop (λ(d:Int)=>xK b c d) a
end
def mf(s:aa):Q Int:=if Y ((s.length:Int)>120)then O 3 else (FJ s).bind λd=>(yp d).bind λc=>if c then O 3 else (SB d (O 1) N).bind λb=>(J9 b (b.length:Int) 0).bind λa=>match a with|(.inl a)=>O 3|(.inr a)=>O 0
def wR(p:ag):Q K:=if(p.Op==3)then if(p.Name==([118]:aa))then O T else (mf p.Name).bind λc=>O (c==0) else if(p.Op==4)then if(p.Name==([116,97,103]:aa))then O T else if(p.Name==([118,97,108]:aa))then O T else (mf p.Name).bind λa=>O (a==0) else if(p.Op==5)then (mf p.Name).bind λb=>O (b==0) else O T
section
variable(p:ag)
def Dy:Q K:=if(p.Op==1)then O T else O (p.Op==2)
end
section
variable(p:ag)(a:K)
def Dz:Q K:=if Y (p.Op<1)then O T else if Y (p.Op>18)then O T else if(!(p.Name==([]:aa)))then (FK p.Op).bind λb=>if(!b)then O T else if(p.N !=0)then if(!a)then O T else (rq p.Op (p.Kids.length:Int)).bind λc=>O (!c) else (rq p.Op (p.Kids.length:Int)).bind λd=>O (!d) else if(p.N !=0)then if(!a)then O T else (rq p.Op (p.Kids.length:Int)).bind λe=>O (!e) else (rq p.Op (p.Kids.length:Int)).bind λh=>O (!h)
end
section
variable(p:ag)
def tp:Q K:=if (p.Op == 1) = T then (J8 p.N).bind λa=>if(!a)then O T else if(p.Op==2)then if Y (p.N<0)then O T else O (Y (p.N>1)) else O Z else if(p.Op==2)then if Y (p.N<0)then O T else O (Y (p.N>1)) else O Z
end
section
variable(p:ag)
def DA:Q K:=if(p.Op==8)then (cJ p.Kids 0).bind λa=>O (a.Op !=1) else O Z
end
def BK(p:ag):Q Int:=(Dy p).bind λe=>(Dz p e).bind λa=>if a then O 1 else (tp p).bind λb=>if b then O 2 else (wR p).bind λd=>if(!d)then O 3 else (DA p).bind λc=>if c then O 6 else O 0
open Go
section
variable(b:UV)(c:m6)(d a:Int)
def lm:Q (Int⊕(Int⊕(Unit))):=if Y (a<d)then (cJ c a).bind λh=>(b h).bind λe=>if(e !=0)then O (.inr (.inl e)) else O (.inl (dc (a+1))) else O (.inr (.inr ()))
def Du:Q (Int⊕(Unit)):=loop (λ(e:Int)=>lm b c d e) a
end
def BJ(a:UV)(p:ag):Q Int:=(BK p).bind λc=>if(c !=0)then O c else (Du a p.Kids (p.Kids.length:Int) 0).bind λb=>match b with|(.inl b)=>O b|(.inr b)=>O 0
def NL:(ag->Q Int)->(ag)->Q Int:=λ(rec:ag->Q Int) (x:ag)=>BJ (λp=>rec p) x
def UP(p:ag):Q Int:=sQ NL p
def Bx(p:ag):Q Int:=(LR p).bind λa=>if Y (a>400)then O 7 else (LP p).bind λb=>if Y (b>40)then O 8 else (UP p).bind λc=>O c
abbrev SW:=(ai->Q Int)
section
variable(a:SW)(c:md)(d n b:Int)
def mg:Q ((Int×Int)⊕(Int)):=if Y (b<d)then (cJ c b).bind λh=>(a h).bind λe=>O (.inl ((if e>n then e else n),dc (b+1))) else O (.inr n)
def AD:Q Int:=loop (λ(e:Int×Int)=>mg a c d e.1 e.2) (n,b)
end
def yt(a:SW)(t:ai):Q Int:=(AD a t.Args (t.Args.length:Int) 0 0).bind λb=>O (dc (b+1))
def DB:(ai->Q Int)->(ai)->Q Int:=λ(rec:ai->Q Int) (x:ai)=>yt (λt=>rec t) x
def FL(t:ai):Q Int:=sQ DB t
abbrev UW:=(ai->Q Int)
def BL(s:aa)(a:K):Q K:=(mf s).bind λd=>if(d==0)then (lO s 0).bind λb=>if Y (b>=65)then (lO s 0).bind λc=>O ((Y (c<=90))==a) else O (Z==a) else O Z
section
variable(t:ai)
def mO:Q K:=if Y (t.Op<1)then O T else if Y (t.Op>6)then O T else if(!(t.Name==([]:aa)))then if (t.Op != 4) = T then if(t.Op !=5)then O T else if Y ((t.Args.length:Int)>0)then if(t.Op !=4)then if(t.Op !=6)then O T else if Y ((t.Names.length:Int)>0)then O (t.Op !=6) else O Z else if Y ((t.Names.length:Int)>0)then O (t.Op !=6) else O Z else if Y ((t.Names.length:Int)>0)then O (t.Op !=6) else O Z else if Y ((t.Args.length:Int)>0)then if(t.Op !=4)then if(t.Op !=6)then O T else if Y ((t.Names.length:Int)>0)then O (t.Op !=6) else O Z else if Y ((t.Names.length:Int)>0)then O (t.Op !=6) else O Z else if Y ((t.Names.length:Int)>0)then O (t.Op !=6) else O Z else if Y ((t.Args.length:Int)>0)then if(t.Op !=4)then if(t.Op !=6)then O T else if Y ((t.Names.length:Int)>0)then O (t.Op !=6) else O Z else if Y ((t.Names.length:Int)>0)then O (t.Op !=6) else O Z else if Y ((t.Names.length:Int)>0)then O (t.Op !=6) else O Z
end
section
variable(t:ai)
def pg:Q K:=if(t.Op==4)then O (Y ((t.Args.length:Int)>6)) else O Z
end
section
variable(t:ai)
def mP:Q K:=if(t.Op==6)then if Y ((t.Args.length:Int)<2)then O T else if Y ((t.Args.length:Int)>7)then O T else if Y ((t.Names.length:Int)>0)then O ((t.Names.length:Int)!=(dc ((t.Args.length:Int) - 1))) else O Z else O Z
end
section
variable(t:ai)
def ph:Q K:=if(t.Op==4)then (BL t.Name T).bind λa=>if(!a)then O T else if(t.Op==5)then (BL t.Name Z).bind λb=>O (!b) else O Z else if(t.Op==5)then (BL t.Name Z).bind λc=>O (!c) else O Z
end
def yu(t:ai):Q Int:=(mO t).bind λa=>if a then O 1 else (pg t).bind λb=>if b then O 13 else (mP t).bind λc=>if c then O 13 else (ph t).bind λd=>if d then O 3 else O 0
section
variable(b:UW)(c:md)(d a:Int)
def EY:Q (Int⊕(Int⊕(Unit))):=if Y (a<d)then (cJ c a).bind λh=>(b h).bind λe=>if(e !=0)then O (.inr (.inl e)) else O (.inl (dc (a+1))) else O (.inr (.inr ()))
def tt:Q (Int⊕(Unit)):=loop (λ(e:Int)=>EY b c d e) a
end
def mY(a:UW)(t:ai):Q Int:=(yu t).bind λc=>if(c !=0)then O c else (tt a t.Args (t.Args.length:Int) 0).bind λb=>match b with|(.inl b)=>O b|(.inr b)=>O 0
def BM:(ai->Q Int)->(ai)->Q Int:=λ(rec:ai->Q Int) (x:ai)=>mY (λt=>rec t) x
def FM(t:ai):Q Int:=sQ BM t
def qh(t:ai):Q Int:=(FL t).bind λa=>if Y (a>40)then O 8 else (FM t).bind λb=>O b
abbrev SX:=(ah->Q Int)
section
variable(a:SX)(v:waD)(n i:Int)
def mh:Q ((Int×Int)⊕(Int)):=if Y (i<(v.length:Int))then (cJ v i).bind λc=>(a c).bind λb=>O (.inl ((if b>n then b else n),dc (i+1))) else O (.inr n)
def Hw:Q Int:=loop (λ(b:Int×Int)=>mh a v b.1 b.2) (n,i)
end
def Km(a:SX)(e:ah):Q Int:=(wS e).bind λc=>(Hw a c 0 0).bind λb=>O (dc (b+1))
def ST:(ah->Q Int)->(ah)->Q Int:=λ(rec:ah->Q Int) (x:ah)=>Km (λe=>rec e) x
def XI(e:ah):Q Int:=sQ ST e
abbrev UX:=(ah->Q Int)
section
variable(a:Int)
def Kr:Q K:=if(a==1)then O (a==1) else O (a==2)
end
section
variable(a:Int)
def Ks:Q K:=if(a==10)then O (a==10) else if(a==11)then O (a==11) else if(a==12)then O (a==12) else if(a==13)then O (a==13) else if(a==14)then O (a==14) else if(a==16)then O (a==16) else if(a==17)then O (a==17) else if(a==18)then O (a==18) else if(a==19)then O (a==19) else if(a==20)then O (a==20) else O (a==24)
end
section
variable(a:Int)
def Kt:Q K:=if(a==15)then O (a==15) else if(a==21)then O (a==21) else if(a==22)then O (a==22) else O (a==23)
end
def FQ(a:Int):Q aM:=(Kr a).bind λd=>if d then O (⟨T,Z,0,0,Z,Z,Z,Z,T⟩:aM) else if(a==3)then O (⟨Z,T,0,0,Z,Z,Z,Z,T⟩:aM) else if(a==4)then O (⟨Z,T,0,6,Z,Z,T,Z,T⟩:aM) else if(a==5)then O (⟨Z,T,1,6,Z,Z,T,Z,T⟩:aM) else if(a==6)then O (⟨Z,Z,1,1,T,Z,Z,Z,T⟩:aM) else if(a==7)then O (⟨Z,T,2,2,Z,Z,T,Z,T⟩:aM) else if(a==8)then O (⟨Z,Z,3,3,Z,Z,Z,Z,T⟩:aM) else if(a==9)then O (⟨Z,Z,1,1,Z,T,Z,Z,T⟩:aM) else (Ks a).bind λb=>if b then O (⟨Z,Z,2,2,Z,Z,Z,Z,T⟩:aM) else (Kt a).bind λc=>if c then O (⟨Z,Z,1,1,Z,Z,Z,Z,T⟩:aM) else if(a==25)then O (⟨Z,T,2,7,Z,Z,Z,Z,T⟩:aM) else if(a==26)then O (⟨Z,Z,1,1,Z,Z,T,T,T⟩:aM) else O (⟨Z,Z,0,0,Z,Z,Z,Z,Z⟩:aM)
section
variable(e:ah)(v:aM)
def E1:Q K:=if Y ((e.Kids.length:Int)<v.least)then O T else O (Y ((e.Kids.length:Int)>v.most))
end
section
variable(e:ah)(v:aM)
def Nm:Q K:=if v.params then if Y ((e.Params.length:Int)<1)then O T else O (Y ((e.Params.length:Int)>6)) else O Z
end
section
variable(e:ah)(v:aM)
def Nn:Q K:=if v.alts then if Y ((e.Alts.length:Int)<1)then O T else O (Y ((e.Alts.length:Int)>8)) else O Z
end
section
variable(e:ah)(v:aM)(i:Int)
def sw:Q (Int⊕(Unit⊕(Unit))):=if Y (i<(e.Alts.length:Int))then (cJ e.Alts i).bind λa=>if Y ((a.Names.length:Int)>6)then O (.inr (.inl ())) else O (.inl (dc (i+1))) else O (.inr (.inr ()))
def E2:Q (Unit⊕(Unit)):=loop (λ(a:Int)=>sw e a) i
end
def Hy (e:ah) (a:aM):Q K :=(E1 e a).bind λd=>if d then O Z else (Nm e a).bind λh=>if h then O Z else (Nn e a).bind λc=>if c then O Z else (E2 e 0).bind λb=>match b with|(.inl b)=>O Z| (.inr b) =>if(!a.exactly)then if(e.Op !=7)then O T else O (Y ((e.Types.length:Int)<=1)) else if((e.Types.length:Int)==1)then if(e.Op !=7)then O T else O (Y ((e.Types.length:Int)<=1)) else O Z
section
variable(e:ah)(v:aM)
def Pp:Q K:=if v.name then (mf e.Name).bind λa=>O (a !=0) else O Z
end
section
variable(e:ah)(i:Int)
def um:Q (Int⊕(Unit⊕(Unit))):=if Y (i<(e.Params.length:Int))then (cJ e.Params i).bind λb=>(mf b.Name).bind λa=>if(a !=0)then O (.inr (.inl ())) else O (.inl (dc (i+1))) else O (.inr (.inr ()))
def HA:Q (Unit⊕(Unit)):=loop (λ(a:Int)=>um e a) i
end
section
variable(e:ah)(i k:Int)
def uq:Q (Int⊕(Unit⊕(Unit))):=(cJ e.Alts i).bind λb=>if Y (k<(b.Names.length:Int))then (cJ e.Alts i).bind λc=>(cJ c.Names k).bind λd=>(mf d).bind λa=>if(a !=0)then O (.inr (.inl ())) else O (.inl (dc (k+1))) else O (.inr (.inr ()))
def HC:Q (Unit⊕(Unit)):=loop (λ(a:Int)=>uq e i a) k
end
section
variable(e:ah)(i:Int)
def uo:Q (Int⊕(Unit⊕(Unit))):=if Y (i<(e.Alts.length:Int))then (cJ e.Alts i).bind λc=>(mf c.Con).bind λb=>if(b !=0)then O (.inr (.inl ())) else (HC e i 0).bind λa=>match a with|(.inl a)=>O (.inr (.inl ()))|(.inr a)=>O (.inl (dc (i+1))) else O (.inr (.inr ()))
def HB:Q (Unit⊕(Unit)):=loop (λ(a:Int)=>uo e a) i
end
def Rh(e:ah)(a:aM):Q K:=(Pp e a).bind λd=>if d then O Z else (HA e 0).bind λb=>match b with|(.inl b)=>O Z| (.inr b) =>(HB e 0).bind λc=>match c with|(.inl c)=>O Z|(.inr c)=>O T
section
variable(e:ah)(a:waA)(i:Int)
def iz:Q ((waA×Int)⊕(waA)):=if Y (i<(e.Params.length:Int))then (cJ e.Params i).bind λc=>(app a ([c.Name]:V aa)).bind λb=>O (.inl (b,dc (i+1))) else O (.inr a)
def zd:Q waA:=loop (λ(b:waA×Int)=>iz e b.1 b.2) (a,i)
end
section
variable(e:ah)(a cons:waA)(i:Int)
def kD:Q ((waA×Int)⊕(Unit⊕(waA))):=if Y (i<(e.Alts.length:Int))then (cJ e.Alts i).bind λd=>(app cons ([d.Con]:V aa)).bind λb=>(cJ e.Alts i).bind λh=>(kC h.Names).bind λc=>if(!c)then O (.inr (.inl ())) else O (.inl (b,dc (i+1))) else O (.inr (.inr cons))
def kv:Q (Unit⊕(waA)):=loop (λ(b:waA×Int)=>kD e b.1 b.2) (cons,i)
end
def Hz(e:ah):Q K:=(zd e ([]:V aa) 0).bind λd=>(kv e ([]:V aa) 0).bind λa=>match a with|(.inl a)=>O Z| (.inr a) =>(kC d).bind λb=>if b then (kC a).bind λc=>O c else O Z
abbrev BP:=(ai->ai->Q K)
section
variable(v a:waA)(i:Int)
def jE:Q (Int⊕(Unit⊕(Unit))):=if Y (i<(v.length:Int))then (cJ v i).bind λb=>(cJ a i).bind λc=>if(!(b==c))then O (.inr (.inl ())) else O (.inl (dc (i+1))) else O (.inr (.inr ()))
def FO:Q (Unit⊕(Unit)):=loop (λ(b:Int)=>jE v a b) i
end
def EZ(a c:waA):Q K:=if((a.length:Int)!=(c.length:Int))then O Z else (FO a c 0).bind λb=>match b with|(.inl b)=>O Z|(.inr b)=>O T
abbrev UU:=(ag->ag->Q K)
section
variable(v a:ag)
def SQ:Q K:=if(v.Op !=a.Op)then O T else if(!(v.Name==a.Name))then O T else if(v.N !=a.N)then O T else O ((v.Kids.length:Int)!=(a.Kids.length:Int))
end
section
variable(b:UU)(v d:ag)(c a:Int)
def EW:Q (Int⊕(Unit⊕(Unit))):=if Y (a<c)then (cJ v.Kids a).bind λh=>(cJ d.Kids a).bind λi=>(b h i).bind λe=>if(!e)then O (.inr (.inl ())) else O (.inl (dc (a+1))) else O (.inr (.inr ()))
def SS:Q (Unit⊕(Unit)):=loop (λ(e:Int)=>EW b v d c e) a
end
def NK(c:UU)(a d:ag):Q K:=(SQ a d).bind λe=>if e then O Z else (SS c a d (a.Kids.length:Int) 0).bind λb=>match b with|(.inl b)=>O Z|(.inr b)=>O T
def UO:((ag×ag)->Q K)->(ag×ag)->Q K:=λ(rec:(ag×ag)->Q K) (x:ag×ag)=>NK (λa b=>rec (a,b)) x.1 x.2
def UN(a b:ag):Q K:=sQ UO (a,b)
section
variable(a:BP)(v b:md)(i:Int)
def jF:Q (Int⊕(Unit⊕(Unit))):=if Y (i<(v.length:Int))then (cJ v i).bind λd=>(cJ b i).bind λe=>(a d e).bind λc=>if(!c)then O (.inr (.inl ())) else O (.inl (dc (i+1))) else O (.inr (.inr ()))
def FP:Q (Unit⊕(Unit)):=loop (λ(c:Int)=>jF a v b c) i
end
def E0(b:BP)(a d:md):Q K:=if((a.length:Int)!=(d.length:Int))then O Z else (FP b a d 0).bind λc=>match c with|(.inl c)=>O Z|(.inr c)=>O T
section
variable(v a:ai)
def I3:Q K:=if(v.Op !=a.Op)then O T else if(!(v.Name==a.Name))then O T else (EZ v.Names a.Names).bind λb=>if(!b)then O T else (UN v.Pred a.Pred).bind λc=>if(!c)then O T else O ((v.Preds.length:Int)!=(a.Preds.length:Int))
end
section
variable(v a:ai)(i:Int)
def iy:Q (Int⊕(Unit⊕(Unit))):=if Y (i<(v.Preds.length:Int))then (cJ v.Preds i).bind λc=>(cJ a.Preds i).bind λd=>(UN c d).bind λb=>if(!b)then O (.inr (.inl ())) else O (.inl (dc (i+1))) else O (.inr (.inr ()))
def I4:Q (Unit⊕(Unit)):=loop (λ(b:Int)=>iy v a b) i
end
def BN(c:BP)(a d:ai):Q K:=(I3 a d).bind λe=>if e then O Z else (I4 a d 0).bind λb=>match b with|(.inl b)=>O Z|(.inr b)=>(E0 c a.Args d.Args).bind λh=>O h
def Kp:((ai×ai)->Q K)->(ai×ai)->Q K:=λ(rec:(ai×ai)->Q K) (x:ai×ai)=>BN (λa b=>rec (a,b)) x.1 x.2
def Pn(a b:ai):Q K:=sQ Kp (a,b)
def UR(t:ai):Q K:=(Pn t (⟨0,[],[],[],⟨0,[],0,[]⟩,[]⟩:ai)).bind λa=>O a
section
variable(e:ah)(i:Int)
def ur:Q (Int⊕(Int⊕(Unit))):=if Y (i<(e.Types.length:Int))then (cJ e.Types i).bind λb=>(qh b).bind λa=>if(a !=0)then O (.inr (.inl a)) else O (.inl (dc (i+1))) else O (.inr (.inr ()))
def AE:Q (Int⊕(Unit)):=loop (λ(a:Int)=>ur e a) i
end
section
variable(e:ah)(i:Int)
def HD:Q (Unit⊕(Int)):=(cJ e.Params i).bind λd=>(UR d.Type_).bind λc=>if c then O (.inl ()) else (cJ e.Params i).bind λb=>(qh b.Type_).bind λa=>if(a !=0)then O (.inr a) else O (.inl ())
end
section
variable(e:ah)(i:Int)
def jG:Q (Int⊕(Int⊕(Unit))):=if Y (i<(e.Params.length:Int))then (HD e i).bind λa=>match a with|(.inl a)=>O (.inl (dc (i+1)))|(.inr a)=>O (.inr (.inl a)) else O (.inr (.inr ()))
def AF:Q (Int⊕(Unit)):=loop (λ(a:Int)=>jG e a) i
end
def LU(e:ah):Q Int:=(AE e 0).bind λb=>match b with|(.inl b)=>O b| (.inr b) =>(AF e 0).bind λa=>match a with|(.inl a)=>O a|(.inr a)=>O 0
section
variable(e:ah)(m b:K)(d a:Int)(h i o p c:K)
def DE:Q K:=if(!c)then O T else if(!m)then if(e.N !=0)then O T else if(!b)then if(!(e.Name==([]:aa)))then O T else if(a==0)then O (Y ((e.Kids.length:Int)>0)) else O Z else if(a==0)then O (Y ((e.Kids.length:Int)>0)) else O Z else if(!b)then if(!(e.Name==([]:aa)))then O T else if(a==0)then O (Y ((e.Kids.length:Int)>0)) else O Z else if(a==0)then O (Y ((e.Kids.length:Int)>0)) else O Z
end
section
variable(e:ah)(m d:K)(h i:Int)(c b a o p:K)
def Kq:Q K:=if (!c) = T then if Y ((e.Params.length:Int)>0)then O T else if(!b)then if Y ((e.Alts.length:Int)>0)then O T else if(!a)then O (Y ((e.Types.length:Int)>0)) else O Z else if(!a)then O (Y ((e.Types.length:Int)>0)) else O Z else if(!b)then if Y ((e.Alts.length:Int)>0)then O T else if(!a)then O (Y ((e.Types.length:Int)>0)) else O Z else if(!a)then O (Y ((e.Types.length:Int)>0)) else O Z
end
section
variable(e:ah)(m a:K)(b c:Int)(d h i o p:K)
def DF:Q K:=if (e.Op == 1) = T then (J8 e.N).bind λq=>if(!q)then O T else if(e.Op==2)then if(e.N !=0)then O (e.N !=1) else O Z else O Z else if(e.Op==2)then if(e.N !=0)then O (e.N !=1) else O Z else O Z
end
def BO (e:ah):Q Int :=(FQ e.Op).bind λa=>(DE e a.n a.name a.most a.ok).bind λb=>if b then O 1 else (Kq e a.params a.alts a.types).bind λc=>if c then O 1 else (Hy e a).bind λh=>if(!h)then O 13 else (DF e).bind λd=>if d then O 2 else (Rh e a).bind λi=>if(!i)then O 3 else (Hz e).bind λm=>if(!m)then O 4 else (LU e).bind λo=>O o
section
variable(v:Int)(a:waD)(i:Int)
def DD:Q K:=if Y (i<(a.length:Int))then O (v==0) else O Z
end
section
variable(a:UX)(b:waD)(v i:Int)
def lp:Q ((Int×Int)⊕(Int)):=(DD v b i).bind λc=>if c then (cJ b i).bind λe=>(a e).bind λd=>O (.inl (d,dc (i+1))) else O (.inr v)
def yw:Q Int:=loop (λ(c:Int×Int)=>lp a b c.1 c.2) (v,i)
end
def NM(a:UX)(e:ah):Q Int:=(BO e).bind λc=>(wS e).bind λd=>(yw a d c 0).bind λb=>O b
def US:(ah->Q Int)->(ah)->Q Int:=λ(rec:ah->Q Int) (x:ah)=>NM (λe=>rec e) x
def qaQ(e:ah):Q Int:=sQ US e
def LS(e:ah):Q Int:=(LT e).bind λa=>if Y (a>400)then O 7 else (XI e).bind λb=>if Y (b>40)then O 8 else (qaQ e).bind λc=>O c
def dw{σ X:Type}(n:Nat)(a:σ->Q (σ⊕X))(S:Nat->σ)(e:X)(c:∀i,i<n->a (S i)=O (.inl (S (i+1))))(b:a (S n)=O (.inr e)):loop a (S 0)=O e:=by
 have d:∀k i,k+i=n->loop a (S i)=O e:=by
  intro k;induction k with
  |zero=>
   intro i h;have:i=n:=by omega
   subst this;exact gL b
  |succ k ih=>intro i h;rw[tN (c i (by omega))];exact ih (i+1) (by omega)
 exact d n 0 (by omega)
def UF:aa:=[102,97,108,115,101]
def qkm:aa:=[61,61]
def qrq:aa:=[100,105,118]
def qrr:aa:=[109,111,100]
abbrev qnY(n:Int):Prop:=-1000000000000<=n/\n<=1000000000000
def Md{n:Int}(h:qnY n):VC n=O (Lib.itoa n):=by unfold VC;rw[l7 (by simp;omega)]
def qmB{n:Int}(h:qnY n):(Lib.itoa n).length<=21:=Lib.itoa_length_le n (by omega) (by omega)
def Gf(l:V aa)(s:aa):Int:=match l.findIdx? (λx=>x==s)with|some j=>(j:Int)|none=>-1
def Kd(l:V aa)(s:aa)(a:l.length<9223372036854775808):Ka l s=O (Gf l s):=by
 unfold Ka Kb
 have:=RN l a (λb=>rp l s l.length b) (λx=>x==s) (λj=>Sum.inl (j:Int)) (Sum.inr ()) (λi h=>by
  simp only[rp];rw[l7 (by simp;omega),aC _ i h];simp only[eJ];split<;>simp_all) (by simp only[rp];rw[hG (by simp)])
 rw[this];unfold Gf;cases l.findIdx? (λx=>x==s)<;>rfl
def Xl(l:V aa)(s:aa)(b:l.length<9223372036854775808):sV l s=O (Gf l s):=by
 unfold sV slices_Index nV
 have:=RN l b (λc=>eO l s l.length c) (λx=>x==s) (λj=>Sum.inl (j:Int)) (Sum.inr ()) (λi h=>by
  simp only[eO];rw[l7 (by simp;omega),aC _ i h];simp only[eJ,BEq.comm (a:=s)];split<;>simp_all) (by simp only[eO];rw[hG (by simp)])
 rw[this];unfold Gf;cases l.findIdx? (λx=>x==s)<;>rfl
def PU(l:V aa)(s:aa):Y (Gf l s>=0)=l.any λk=>k==s:=by
 unfold Gf;cases h:l.findIdx? (λx=>x==s)with
 |none=>rw[vby]at h;symm;simp only[vbl];rw[show Y ((-1:Int)>=0)=Z from rfl];simp only[vbl,vcd];exact h
 | some j =>
  have a:l.any (λx=>x==s)=true:=by have:=List.findIdx?_isSome (xs:=l) (p:=λx=>x==s);rw[h]at this;exact this.symm
  rw[a];simp
def qf6(l:V aa)(s:aa):Y (Gf l s<0)= !l.any λk=>k==s:=by rw[<-PU];rw[<-decide_not];simp
def RQ{α:Type}(k:aa)(v:α)(j:aa):∀(m:List (aa×α)),oe (mq m k v) j=if(j==k)then O v else oe m j
 |[]=>by simp only[mq,oe,List.find?_cons,List.find?_nil];cases(j==k)<;>rfl
 | e :: r => by
  have b:=RQ k v j r;unfold mq;by_cases h:(k==e.1)=T
  .have c:k=e.1:=by simpa using h
   rw[l7 h];unfold oe;simp only[List.find?_cons];rw[<-c];cases a:(j==k)<;>simp
  .rw [hG h];unfold oe at b ⊢;simp only[List.find?_cons];cases a:(j==e.1);.simpa using b
   .have:¬(j==k)=true:=λo=>h (by
      have d:j=e.1:=by simpa using a
      have i:j=k:=by simpa using o
      simp[<-d,<-i])
    simp[this]
abbrev iP(m:V (aa×K))(k:aa):K:=(oe m k).getD Z
def qi6(m:V (aa×K))(k j:aa):iP (mq m k T) j=(j==k||iP m j):=by unfold iP;rw[RQ];cases(j==k)<;>rfl
def qjF:∀(b L:List aa),L.Nodup->b.length<L.length->∃x∈L,x∉b
 |[],L,_,h=>by cases L with|nil=>simp at h|cons x L=>exact⟨x,by simp,by simp⟩
 | u :: us,L,hn,h => by
  let⟨x,c,d⟩:=qjF us (L.erase u) (hn.erase u) (by
   have:=List.length_erase (a:=u) (l:=L);rw[this];simp at h;split<;>omega)
  rw[hn.mem_erase_iff]at c;exact⟨x,c.2,by simp[c.1,d]⟩
def fO(c:Int):K:=Y (97<=c)&&Y (c<=122)
def nK(c:Int):K:=Y (65<=c)&&Y (c<=90)
def S7(c:Int):K:=Y (48<=c)&&Y (c<=57)
def uO(c:Int):pz c=O (fO c):=by unfold pz fO;split<;>simp_all<;>omega
def Gu(c:Int):rC c=O (nK c):=by unfold rC nK;split<;>simp_all<;>omega
def Cd(c:Int):tQ c=O (S7 c):=by unfold tQ S7;split<;>simp_all<;>omega
def qg(c:Int):nY c=O (fO c):=by unfold nY fO;split<;>simp_all<;>omega
def BH(c:Int):pf c=O (nK c):=by unfold pf nK;split<;>simp_all<;>omega
def AC(c:Int):tn c=O (S7 c):=by unfold tn S7;split<;>simp_all<;>omega
def pb(b:UInt8):K:=fO b.toNat||S7 b.toNat||(b.toNat:Int)==95
def mi(b:UInt8):K:=fO b.toNat||nK b.toNat||S7 b.toNat
def qH(s:aa):K:=Y ((s.length:Int)>=1)&&Y ((s.length:Int)<=24)
def qmC(s:aa):K:=ee.any λk=>k==s
def kM(p:Int->K)(s:aa):K:=match s with|[]=>Z|c::_=>p c.toNat
abbrev qaG(s:aa):Prop:=s.length<9223372036854775808
def Cf(s:aa):tS s=O (qH s):=by
 unfold tS qH;by_cases h:(s.length:Int)>=1;.rw[l7 (vaY h),vaY h];rfl
 .rw[hG (by simpa using h),decide_eq_false h];rfl
def R1(s:aa):xX s=O (qmC s):=by
 unfold xX xf;have a:ee.length=42:=rfl
 have:=px ee (by rw[a];omega) (λb=>jJ s b) (λk=>k==s) (Sum.inl ()) (Sum.inr ()) (λi h=>by
  rw[a]at h;simp only[jJ];rw[l7 (by simp;omega),aC _ i (by rw[a];omega)];simp only[eJ];split<;>simp_all) (by simp only[jJ];rw[hG (by rw[a];simp)]) 0 (s5 _)
 simp only[Int.ofNat_zero,vbj]at this;rw[this];unfold qmC;cases ee.any (λk=>k==s)<;>rfl
def TF:Pj=O ee:=rfl
def UJ(s:aa):yq s=O (qmC s):=by unfold yq;have a:ee.length=42:=rfl;rw[TF];simp only[eJ];rw[Kd _ _ (by rw[a];omega)];simp only[eJ,PU];rfl
def HY(s:aa):K:=qH s&&kM fO s&&!qmC s&&s.all pb
def AP(s:aa):K:=qH s&&kM nK s&&s.all mi&&!(s==[73,110,116])&&!(s==[66,111,111,108])&&!(s==[67,101,108,108])&&!(s==[70,117,110])
def Ja(b:K):Int:=if b then 0 else 3
def SA{s:aa}(h:qH s=T):∃c r,s=c::r:=by cases s with|nil=>simp[qH]at h|cons c r=>exact⟨c,r,rfl⟩
def R8(s:aa)(i:Nat)(h:i<s.length):xZ s i=O (!pb s[i]):=by unfold xZ pb;simp only[nI s i h,eJ,uO,Cd];cases fO (s[i].toNat:Int)<;>cases S7 (s[i].toNat:Int)<;>simp[bne]
def Tx(s:aa)(i:Nat)(h:i<s.length):qe s i=O (!pb s[i]):=by unfold qe pb;simp only[nI s i h,eJ,qg,AC];cases fO (s[i].toNat:Int)<;>cases S7 (s[i].toNat:Int)<;>simp[bne]
def Sa(s:aa)(c:qaG s)(i:Nat)(a:i<=s.length):ya s i=O (if(s.drop i).any (λb=>!pb b)then .inl ()else .inr ()):=by
 unfold ya;refine px s c _ (λb=>!pb b) _ _ (λj h=>?_) ?_ i a;.simp only[sG];rw[l7 (by simp;omega),R8 s j h];simp only[eJ];split<;>simp_all
 .simp only[sG];rw[hG (by simp)]
def Ty(s:aa)(a:qaG s):Az s s.length 0=O (if s.any (λb=>!pb b)then .inl ()else .inr ()):=by
 unfold Az
 have:=px s a (λc=>uj s s.length c) (λb=>!pb b) (.inl ()) (.inr ()) (λj h=>by
  simp only[uj];rw[l7 (by simp;omega),Tx s j h];simp only[eJ];split<;>simp_all) (by simp only[uj];rw[hG (by simp)]) 0 (s5 _)
 simpa using this
def YM{b:UInt8}(h:fO b.toNat=T):pb b=true:=by simp[pb,h]
def R6(s:aa):xY s=O (!(qH s&&kM fO s&&!qmC s)):=by
 unfold xY;rw[Cf];simp only[eJ];by_cases h:qH s=T;.obtain⟨c,r,rfl⟩:=SA h;simp only[h,tI,eJ,uO,R1,kM];cases fO (c.toNat:Int)<;>simp
 .simp[h]
def Xm(s:aa)(e:qaG s):H6 s=O (HY s):=by
 unfold H6 HY;rw[R6];simp only[eJ];by_cases h:(qH s&&kM fO s&&!qmC s)=T
 .have a:qH s=true:=by revert h;cases qH s<;>simp
  obtain⟨c,r,rfl⟩:=SA a;have d:fO (c.toNat:Int)=true:=by revert h;simp[kM];intro _ h _;exact h
  have b:=Sa (c::r) e 1 (by simp);simp only[Int.ofNat_one]at b;rw[h,b];simp only[List.drop_succ_cons,vbj,List.all_cons,YM d,vbr];rw[vbE];simp only[vcq];cases r.all pb<;>simp
 .simp[h]
def Tw(s:aa):Ay s=O (!(qH s&&kM fO s&&!qmC s)):=by
 unfold Ay qH;cases s with
 |nil=>simp
 | cons c r =>
  have b:¬(((c::r).length:Int)<1):=by simp;omega
  have d:(((c::r).length:Int)>=1):=by omega
  simp only[b,d,decide_false,decide_true,vbr,vaF,if_false,tI,eJ,qg,UJ,kM];by_cases h:(((c::r).length:Int)>24)
  .have a:¬(((c::r).length:Int)<=24):=by omega
   simp only[h,a,decide_true,decide_false,if_true];simp
  .have a:(((c::r).length:Int)<=24):=by omega
   simp only[h,a,decide_true,decide_false,if_false,vaF];cases fO (c.toNat:Int)<;>simp
def Y1(s:aa)(a:qaG s):FH s=O (Ja (HY s)):=by unfold FH;rw[Tw,Ty s a];unfold HY Ja;cases(qH s&&kM fO s&&!qmC s)with|false=>simp|true=>simp only[eJ,vcE,vaF,if_false,vbr];rw[vbE];simp only[vcq];cases s.all pb<;>simp
def E7(s:aa)(i:Nat)(h:i<s.length):jZ s i=O (!mi s[i]):=by unfold jZ mi;simp only[nI s i h,eJ,uO,Gu,Cd];cases fO (s[i].toNat:Int)<;>cases nK (s[i].toNat:Int)<;>simp
def TD(s:aa)(i:Nat)(h:i<s.length):qf s i=O (!mi s[i]):=by unfold qf mi;simp only[nI s i h,eJ,qg,BH,AC];cases fO (s[i].toNat:Int)<;>cases nK (s[i].toNat:Int)<;>simp
def wB(s:aa)(a:qaG s):jK s=O (s.all mi):=by
 unfold jK og
 have:=px s a (λc=>fI s c) (λb=>!mi b) (.inl ()) (.inr ()) (λj h=>by
  simp only[fI];rw[l7 (by simp;omega),E7 s j h];simp only[eJ];split<;>simp_all) (by simp only[fI];rw[hG (by simp)]) 0 (s5 _)
 simp only[Int.ofNat_zero,vbj]at this;rw[this,vbE];simp only[vcq];cases s.all mi<;>rfl
def Qi(s:aa)(a:qaG s):uQ s=O (!(qH s&&kM nK s&&s.all mi)):=by
 unfold uQ;rw[Cf];simp only[eJ];by_cases h:qH s=T;.obtain⟨c,r,rfl⟩:=SA h;simp only[h,tI,eJ,Gu,wB _ a,kM];cases nK (c.toNat:Int)<;>simp
 .simp[h]
def VY(s:aa)(a:qaG s):Ed s=O (AP s):=by unfold Ed AP;rw[Qi s a];simp only[eJ];cases(qH s&&kM nK s&&s.all mi)<;>cases(s==[73,110,116])<;>cases(s==[66,111,111,108])<;>cases(s==[67,101,108,108])<;>cases(s==[70,117,110])<;>rfl
def TC(s:aa):AA s=O (!(qH s&&kM nK s&&!(s==[73,110,116])&&!(s==[66,111,111,108])&&!(s==[67,101,108,108])&&!(s==[70,117,110]))):=by
 unfold AA qH;cases s with
 |nil=>simp
 | cons c r =>
  have b:¬(((c::r).length:Int)<1):=by simp;omega
  have d:(((c::r).length:Int)>=1):=by omega
  simp only[b,d,decide_false,decide_true,vbr,vaF,if_false,tI,eJ,BH,kM];by_cases h:(((c::r).length:Int)>24)
  .have a:¬(((c::r).length:Int)<=24):=by omega
   simp only[h,a,decide_true,decide_false,if_true];simp
  .have a:(((c::r).length:Int)<=24):=by omega
   simp only[h,a,decide_true,decide_false,if_false,vaF];cases nK (c.toNat:Int)<;>cases(c::r==[73,110,116])<;>cases(c::r==[66,111,111,108])<;>cases(c::r==[67,101,108,108])<;>cases(c::r==[70,117,110])<;>rfl
def TE(s:aa)(a:qaG s):AB s s.length 0=O (if s.any (λb=>!mi b)then .inl ()else .inr ()):=by
 unfold AB
 have:=px s a (λc=>ul s s.length c) (λb=>!mi b) (.inl ()) (.inr ()) (λj h=>by
  simp only[ul];rw[l7 (by simp;omega),TD s j h];simp only[eJ];split<;>simp_all) (by simp only[ul];rw[hG (by simp)]) 0 (s5 _)
 simpa using this
def Y2(s:aa)(a:qaG s):FI s=O (Ja (AP s)):=by unfold FI;rw[TC,TE s a];unfold AP Ja;rw[vbE];simp only[vcq];cases(qH s&&kM nK s)<;>cases s.all mi<;>cases(s==[73,110,116])<;>cases(s==[66,111,111,108])<;>cases(s==[67,101,108,108])<;>cases(s==[70,117,110])<;>rfl
def qij(b:UInt8):((b.toNat:Int)==46)=(b==46):=by
 rw[vbK];simp only[vbf];constructor
 .intro h;have:b.toNat=46:=by omega
  exact UInt8.toNat_inj.1 this
 simp_all
def rx:aa->List aa|[]=>[[]]|c::r=>if(c==46)then[]::rx r else match rx r with|[]=>[[c]]|h::t=>(c::h)::t
def Qv(p:aa):V aa->V aa|[]=>[p]|h::t=>(p++h)::t
theorem L9:∀(s:aa),rx s≠[]
 |[]=>by simp[rx]
 |c::r=>by grind [rx]
def Rw(c:UInt8)(r:aa)(h:¬(c==46)=T):rx (c::r)=Qv [c] (rx r):=by
 conv=>lhs;unfold rx
 rw[hG h];rfl
def YA(p q:aa)(l:V aa):Qv p (Qv q l)=Qv (p++q) l:=by cases l<;>simp[Qv]
def Wl{l:V aa}(h:l≠[]):Qv [] l=l:=by cases l with
 |nil=>simp_all
 |cons=>rfl
def Vi:∀(p s:aa),p.all (λc=>!(c==46))=T->rx (p++s)=Qv p (rx s)
 |[],s,_=>(Wl (L9 s)).symm
 |c::p,s,h=>by rw[List.all_cons,ne]at h;rw[vaT,Rw _ _ (by simp_all),Vi p s h.2,YA];rfl
def Vj:∀(s:aa),(rx s).length<=s.length+1/\∀x∈rx s,x.length<=s.length
 |[]=>by simp[rx]
 | c :: r => by
  let⟨b,d⟩:=Vj r;by_cases h:(c==46)=T;.unfold rx;grind
  .rw[Rw c r h];cases e:rx r with|nil=>grind [absurd,L9]|cons a t=>rw[e]at b d;refine⟨by simp_all[Qv,Nat.le_succ_of_le],λx i=>?_⟩;simp only[Qv,x8]at i;grind
def zh(s:aa):aa×aa×K:=match s.findIdx? (λc=>c==46)with|some j=>(s.take j,s.drop (j+1),T)|none=>(s,[],Z)
def Qd(s:aa)(b:qaG s):Gw s=O (zh s):=by
 unfold Gw H5
 have:=RN s b (λm=>py s m) (λc=>c==46) (λj=>Sum.inl (s.take j,s.drop (j+1))) (Sum.inr ()) (λi h=>by
  simp only[py];rw[l7 (by simp_all),nI s i h];simp only[eJ,qij];by_cases a:(s[i]==46)=T
  .rw[l7 a,l7 a,qka s i (by omega)];have d:s.length<9223372036854775808:=b;have e:dc ((i:Int)+1)=((i+1:Nat):Int):=by grind [ch]
   rw[e];simp only[eJ,CB s (i+1) (by omega)]
  simp_all) (by simp[py,hG])
 rw[this];unfold zh;grind
def qbf(s:aa):rx s=if(zh s).2.2 then(zh s).1::rx (zh s).2.1 else[(zh s).1]:=by
 unfold zh;cases h:s.findIdx? (λc=>c==46)with
 |none=>rw[vby]at h;have:=Vi s [] (by simp_all);rw[vbR]at this;simp_all[vaF,if_false,rx,Qv]
 | some j =>
  rw[vbm]at h;let⟨o,a,d⟩:=h;have e:s=s.take j++s[j]::s.drop (j+1):=by simp
  have:=Vi (s.take j) (s[j]::s.drop (j+1)) (by
   simp only[vaE,va4];intro x b;obtain⟨i,m,rfl⟩:=vcV b;grind)
  rw[<-e]at this;simp only[if_true];rw[this];conv=>lhs;arg 2;unfold rx
  rw[l7 a];simp[Qv]
def qba(s:aa):(zh s).1.length<=s.length/\(zh s).2.1.length<=s.length/\((zh s).2.2=T->(zh s).2.1.length<s.length):=by grind [zh,List.findIdx]
def qfv(p:aa):K:=(p.isEmpty||kM fO p)&&p.all pb
def zn(p:aa):K:=qH p&&(p.all mi||qfv p)
def YI{α X:Type}(p:Nat->α->K)(q:α->K)(y e:X)(k:Nat)(h:∀i x,k<=i->p i x=q x):∀(l:List α)(i:Nat),k<=i->wm (λi x (_:Unit)=>if p i x then Sum.inr y else .inl ()) (λ_=>e) l i ()=if l.any q then y else e
 |[],i,_=>by rfl
 |x::l,i,hk=>by have a:=YI p q y e k h l (i+1) (by omega);unfold wm;grind
def Sb(s:aa)(i:Nat)(h:i<s.length):yb s i=O (if i=0 then !fO s[i].toNat else !pb s[i]):=by unfold yb pb;simp only[nI s i h,eJ,uO,Cd];grind
def Xn(s:aa)(b:qaG s):H7 s=O (qfv s):=by
 unfold H7 E9;have:=B8 s b (λi (_:Unit)=>i) (λd=>nM s d) (λ_ _=>True) (λi x _=>if(if i=0 then !fO x.toNat else !pb x)then .inr (.inl ())else .inl ()) (λ_=>.inr ()) (λi h t _=>⟨by
  simp only[nM];rw[l7 (by simp_all),Sb s i h];grind,λ_ _=>trivial⟩) (λt _=>by simp[nM,hG]) 0 () (s5 _) trivial
 simp only[Int.ofNat_zero,vbj]at this;rw[this];cases s with
 |nil=>rfl
 | cons c r =>
  unfold wm qfv kM;simp only[if_true,List.isEmpty_cons,vcf,List.all_cons];by_cases a:fO c.toNat=T;.have:=YI (X:=Unit⊕Unit) (λi (x:UInt8)=>if i=0 then !fO x.toNat else !pb x) (λx=>!pb x) (.inl ()) (.inr ()) 1 (λi x e=>by grind) r 1 (l8 _);simp only[a,vcE,vaF,if_false,YM a,vbr,s7];grind
  simp_all
def RY(p:aa)(a:qaG p):xW p=O (!zn p):=by unfold xW zn;rw[Cf,wB p a,Xn p a];grind
def MQ(r:aa):jx r Z=O (.inr ()):=gL rfl
def B9:∀(k:Nat)(r:aa),r.length<k->qaG r->jx r T=O (if(!(rx r).all zn)then .inl ()else .inr ())
 |0,r,hk,_=>absurd hk (by omega)
 | k + 1,r,hk,hs => by
  let⟨m,o,d⟩:=qba r;have i:r.length<9223372036854775808:=hs;have b:kw r T=O (if(!zn (zh r).1)then .inr (.inl ())else .inl ((zh r).2.1,(zh r).2.2)):=by simp only[kw,if_true,Qd r hs,eJ];rw[RY _ (show _<_ by omega)];grind
  rw[qbf r];unfold jx;by_cases h:zn (zh r).1=T;.rw[h]at b;refine(tN (body:=λa:aa×K=>kw a.1 a.2) (s:=(r,T)) (s':=((zh r).2.1,(zh r).2.2)) b).trans ?_;cases e:(zh r).2.2 with|false=>have:=MQ (zh r).2.1;simp_all[jx]|true=>have p:=d e;have:=B9 k (zh r).2.1 (by omega) (show _<_ by omega);simp_all[jx]
  .have c:zn (zh r).1=false:=by simp_all
   rw[c]at b;refine(gL (body:=λa:aa×K=>kw a.1 a.2) (s:=(r,T)) b).trans ?_;grind
def R0(r:aa)(a:K)(b:qaG r):jx r a=O (if(a&&!(rx r).all zn)then .inl ()else .inr ()):=by cases a with|false=>rfl|true=>exact B9 (r.length+1) r (by omega) b
def bX(s:aa):K:=Y (s.length<=120)&&match rx s with|[]=>Z|f::r=>(HY f||AP f||(f==[118]&&!r.isEmpty))&&r.all zn
def RW(f:aa)(b:qaG f)(a:K):xV f a=O (!(HY f||AP f||(f==[118]&&a))):=by unfold xV;rw[Xm f b,VY f b];grind
def n7(s:aa):nj s=O (Ja (bX s)):=by
 unfold nj bX Ja;by_cases h:s.length<=120
 .have a:¬((s.length:Int)>120):=by omega
  let⟨b,c,d⟩:=qba s;simp only[a,h,decide_false,decide_true,vaF,if_false,vbr,Qd s (show _<_ by omega),eJ];rw[RW _ (show _<_ by omega),R0 _ _ (show _<_ by omega),qbf s];simp only[eJ];cases i:(zh s).2.2 with
  |false=>grind
  | true =>
   have:(rx (zh s).2.1).isEmpty=false:=by cases e:rx (zh s).2.1 with|nil=>grind [absurd,L9]|cons=>rfl
   grind
 grind
def EV(s:aa):∀(r:aa)(i b:Nat)(a o:List aa)(d:Nat),s.drop i=r->i+r.length=s.length->b<=i->((s.take i).drop b).all (λc=>!(c==46))=T->
  wm (λi x (t:List aa×Nat)=>if(x==46)then(Sum.inl (t.1++[(s.take i).drop t.2],i+1):(List aa×Nat)⊕(List aa×Nat))else .inl t) (λt=>t) r i (a,b)=(o,d)->
  d<=s.length/\o++[s.drop d]=a++Qv ((s.take i).drop b) (rx r)
 |[],i,b,a,o,d,h1,h2,h3,h4,h=>by simp only[wm,Prod.mk.injEq]at h;obtain⟨rfl,rfl⟩:=h;simp_all[rx,Qv]
 | c :: r,i,b,a,o,d,h1,h2,h3,h4,h => by
  have y:i<s.length:=by grind
  rw[vaN y]at h1;injection h1 with w m
  unfold wm at h;by_cases q:(c==46)=T
  .simp only[q,if_true]at h;have p:=EV s r (i+1) (i+1) _ o d m (by grind) (l8 _) (by simp) h;refine⟨p.1,?_⟩;rw[p.2];have e:(s.take (i+1)).drop (i+1)=[]:=by simp
   rw[e,Wl (L9 r)];simp_all[rx,l7,Qv]
  .simp only[q,if_false,vaF]at h;have e:(s.take (i+1)).drop b=(s.take i).drop b++[c]:=by grind [List.take_succ_eq_append_getElem]
   have p:=EV s r (i+1) b _ o d m (by grind) (by omega) (by simp_all) h;simp_all[Rw,YA]
def UB{α:Type}(l:V α)(a b:Nat)(h:a<=b)(c:b<=l.length):SB l (O (a:Int)) (O (b:Int))=O ((l.take b).drop a):=by simp_all[SB,bd]
def Y3(s:aa)(z:s.length<=1000000):FJ s=O (rx s):=by
 unfold FJ Hv
 have:=B8 s (by omega) (λi (t:V aa×Nat)=>(t.1,(t.2:Int),i)) (λd=>hZ s s.length d.1 d.2.1 d.2.2) (λi t=>t.2<=i/\t.1.length<=i)
  (λi x (t:V aa×Nat)=>if(x==46)then(Sum.inl (t.1++[(s.take i).drop t.2],i+1):(V aa×Nat)⊕(V aa×Int))else .inl t) (λt=>(t.1,(t.2:Int))) (λi h t r=>by
   refine⟨?_,λB A=>?_⟩
   .simp only[hZ];rw[l7 (by simp_all),nI s i h];simp only[eJ,qij];by_cases b:(s[i]==46)=T
    .rw[l7 b,l7 b,UB s _ _ r.1 (by omega)];simp only[eJ];rw[gJ (by grind)];have e:dc ((i:Int)+1)=((i+1:Nat):Int):=by grind [ch]
     simp_all
    simp_all
   grind) (λt _=>by simp[hZ,hG]) 0 ([],0) (s5 _) ⟨l8 _,l8 _⟩
 simp only[Int.ofNat_zero,vbj]at this;rw[this];obtain⟨o,a,m⟩:∃o a,wm (λi x (t:V aa×Nat)=>if(x==46)then(Sum.inl (t.1++[(s.take i).drop t.2],i+1):(V aa×Nat)⊕(V aa×Nat))else .inl t) (λt=>t) s 0 ([],0)=(o,a):=⟨_,_,rfl⟩
 have c:∀(l:aa)(i:Nat)(t:V aa×Nat),wm (λi x (t:V aa×Nat)=>if(x==46)then(Sum.inl (t.1++[(s.take i).drop t.2],i+1):(V aa×Nat)⊕(V aa×Int))else .inl t) (λt=>(t.1,(t.2:Int))) l i t=
   ((wm (λi x (t:V aa×Nat)=>if(x==46)then(Sum.inl (t.1++[(s.take i).drop t.2],i+1):(V aa×Nat)⊕(V aa×Nat))else .inl t) (λt=>t) l i t).1,
    ((wm (λi x (t:V aa×Nat)=>if(x==46)then(Sum.inl (t.1++[(s.take i).drop t.2],i+1):(V aa×Nat)⊕(V aa×Nat))else .inl t) (λt=>t) l i t).2:Int)):=by
  intro l
  induction l with
  |nil=>intro i t;rfl
  |cons x l ih=>
   intro i t
   unfold wm
   grind
 rw[c,m];let⟨p,w⟩:=EV s s 0 0 [] o a rfl (by simp) (l8 _) (by simp) m;simp only[eJ];rw[CB s a p];simp only[eJ];have b:=(Vj s).1;have q:o++[s.drop a]=rx s:=by simp_all[Wl,L9]
 have y:o.length+1=(rx s).length:=by grind
 rw[gJ (by grind),q];rfl
def UK(p:aa)(nm:K)(i:Nat)(h:i<p.length):yr p nm i=O (nm&&mi p[i]):=by unfold yr mi;simp only[nI p i h,eJ,qg,BH,AC];grind
def Pk:∀(l:aa)(i:Nat)(a b:K),wm (λ_ (x:UInt8) (t:K×K)=>(Sum.inl (t.1&&mi x,t.2&&pb x):(K×K)⊕(K×K))) (λt=>t) l i (a,b)=(a&&l.all mi,b&&l.all pb)
 |[],i,a,b=>by simp[wm]
 |x::l,i,a,b=>by simp[wm,Pk,List.all_cons,Bool.and_assoc]
def UL(p:aa)(d:qaG p)(a b:K):Dt p p.length a b 0=O (a&&p.all mi,b&&p.all pb):=by
 unfold Dt;have:=B8 p d (λi (t:K×K)=>(t.1,t.2,i)) (λc=>jv p p.length c.1 c.2.1 c.2.2) (λ_ _=>True) (λ_ x t=>.inl (t.1&&mi x,t.2&&pb x)) (λt=>t) (λi h t _=>⟨by
  simp only[jv];rw[l7 (by simp_all),UK p _ i h];simp only[eJ,nI p i h,qg,AC,pb];grind,λ_ _=>trivial⟩) (λt _=>by simp[jv,hG]) 0 (a,b) (s5 _) trivial
 simp_all[Int.ofNat_zero,vbj,Pk]
theorem qaP(p:aa)(d:qaG p):Kg p=O (zn p):=by
 unfold Kg Kh zn qH;cases p with
 |nil=>simp
 |cons c r=>
  have a:¬(((c::r).length:Int)<1):=by grind
  have b:(((c::r).length:Int)>=1):=by omega
  simp only[a,b,decide_false,decide_true,vbr,vaF,if_false,tI,eJ,qg,UL _ d,qfv,kM,List.isEmpty_cons,vcf];grind
def UI(f:aa)(r:V aa)(b:qaG f):yp (f::r)=O (!(HY f||AP f||(f==[118]&&!r.isEmpty))):=by
 unfold yp;simp only[fG,eJ,Y1 f b,Y2 f b];have e:(((f::r).length:Int)==1)=r.isEmpty:=by cases r with|nil=>rfl|cons a r=>rfl
 grind [Ja,HY,AP]
def qbz{s f:aa}{r:V aa}(h:s.length<=120)(a:rx s=f::r):bX s=((HY f||AP f||(f==[118]&&!r.isEmpty))&&r.all λx=>zn x):=by simp_all[bX,decide_true,vbr]
def tj(s:aa):mf s=O (Ja (bX s)):=by
 unfold mf;by_cases h:s.length<=120
 .have e:¬((s.length:Int)>120):=by omega
  simp only[e,h,decide_false,decide_true,vaF,if_false,vbr,Y3 s (by omega),eJ];let⟨b,c⟩:=Vj s;cases a:rx s with
  |nil=>grind [absurd,L9]
  | cons f r =>
   rw[a]at b c;rw[qbz h a];rw[UI f r (show _<_ by grind)];have m:r.length<9223372036854775808:=by grind
   have:=px r m (λo=>xK r r.length o) (λx=>!zn x) (.inl ()) (.inr ()) (λj i=>by
    simp only[xK];have p:r[j]∈f::r:=by simp
    rw[l7 (by simp_all),aC r j i];grind [eJ,qaP]) (by simp[xK,hG]) 0 (s5 _)
   have d:SB (f::r) (O 1) N=O r:=by have:=CB (f::r) 1 (by simp);simp_all
   simp only[Int.ofNat_zero,vbj]at this;simp only[eJ,d,J9,this,vbE,vcq];unfold Ja;grind
 grind [bX,Ja]
section
variable{α β σ τ X b:Type}
def qdE(l:V α)(p:l.length<9223372036854775808)(mk:Int->τ)(a:τ->Q (τ⊕X))(f:α->Q X)(e:X)
  (d:∀(i:Nat)(h:i<l.length),a (mk (i:Int))=O ((f l[i]).elim (.inl (mk (dc ((i:Int)+1)))) .inr)) (c:a (mk l.length)=O (.inr e)):loop a (mk 0)=O ((l.findSome? f).elim e id):=by
 have m:∀k i,k+i=l.length->loop a (mk (i:Int))=O (((l.drop i).findSome? f).elim e id):=by
  intro k;induction k with
  |zero=>
   intro i o;have:i=l.length:=by omega
   subst this;rw[jh,c,vbU];rfl
  | succ k ih =>intro i o;rw[jh,d i (by omega),vaN (by omega),List.findSome?_cons];cases h:f l[i]with|none=>simp only[Option.elim];rw[ch (by omega) (by omega),show((i:Int)+1)=((i+1:Nat):Int) by omega];exact ih (i+1) (by omega)|some y=>rfl
 have:=m l.length 0 (by omega)
 rw[vbj]at this
 exact this
def VT(l:V α)(q:l.length<9223372036854775808)(mk:Int->τ)(a:τ->Q (τ⊕X))(p:α->K)(y:Nat->X)(e:X)
  (d:∀(i:Nat)(h:i<l.length),a (mk (i:Int))=O (if p l[i] then .inr (y i)else .inl (mk (dc ((i:Int)+1))))) (c:a (mk l.length)=O (.inr e)):loop a (mk 0)=O ((l.findIdx? p).elim e y):=by
 have m:∀k i,k+i=l.length->loop a (mk (i:Int))=O (((l.drop i).findIdx? p).elim e (λj=>y (i+j))):=by
  intro k;induction k with
  |zero=>
   intro i o;have:i=l.length:=by omega
   subst this;rw[jh,c,vbU];rfl
  | succ k ih =>
   intro i o;rw[jh,d i (by omega),vaN (by omega),vc3];by_cases h:p l[i]=T;.simp[h]
   .simp only[h,if_false,vaF];rw[ch (by omega) (by omega),show((i:Int)+1)=((i+1:Nat):Int) by omega,ih (i+1) (by omega)];cases(l.drop (i+1)).findIdx? p with|none=>rfl|some j=>simp only[or,Option.elim];congr 2;omega
 have:=m l.length 0 (by omega)
 rw[vbj]at this
 simpa using this
def Mz{A:Type}(l:V α)(w:l.length<9223372036854775808){c:Int->Q (Int⊕(A⊕Unit))}(k:Int->α->Q (Int⊕(A⊕Unit)))(P:α->Prop)(B:A->Prop)
  (o:∀(i:Int),c i=if Y (i<(l.length:Int))then(cJ l i).bind (k i)else O (.inr (.inr ())))
  (s:∀x∈l,∀i,fY (k i x) (λr=>r.elim (λt=>t=dc (i+1)/\P x) (λy=>y.elim B (λ_=>False)))):fY (loop c 0) (λr=>r.elim B (λ_=>∀x∈l,P x)):=by
 refine qho l w k (.inr ()) (λi=>∀j (h:j<l.length),j<i->P l[j]) o (λi q m=>(s _ (mx q) i).mono λr e=>?_) (λm x z=>?_) (λj _ h=>absurd h (w0 _))
 .cases r with
  | inl t =>
   refine⟨e.1,λj d h=>?_⟩
   by_cases p:j=i
   .subst p;exact e.2
   .exact m j d (by omega)
  |inr y=>cases y with
   |inl a=>exact e
   |inr u=>exact e.elim
 .obtain⟨j,d,rfl⟩:=vcV z
  exact m j d d
end
def qcy{X:Type}(n:Nat)(o:n<9223372036854775808){a:Int->Q (Int⊕X)}(k:Int->Q (Int⊕X))(e:X)(c:∀i:Int,a i=if Y (i<(n:Int))then k i else O (.inr e))
  (h:∀i:Nat,i<n->fY (k (i:Int)) (λr=>match r with|.inl t=>t=dc ((i:Int)+1)|.inr _=>True)):fY (loop a 0) (λ_=>True):=by
 have b:(List.replicate n ()).length=n:=List.length_replicate
 refine kz (List.replicate n ()) (by omega) (λi (_:Unit)=>i) (λ_ _=>True) (λi d s _=>?_) (λs _=>?_) () trivial
 .rw[b]at d
  rw[c,l7 (vaY (by omega))]
  exact(h i d).mono λr m=>by cases r with|inl t=>exact⟨(),m,hV⟩|inr _=>trivial
 .rw[c,hG (by rw[b];simp)]
  exact ak hV
def BE(c:Int):fY (nY c) (λ_=>True):=by unfold nY;exact aG (λ_=>ak hV) (λ_=>ak hV)
def L8(c:Int):fY (tn c) (λ_=>True):=by unfold tn;exact aG (λ_=>ak hV) (λ_=>ak hV)
def KH(c:Int):fY (pf c) (λ_=>True):=by unfold pf;exact aG (λ_=>ak hV) (λ_=>ak hV)
def kN{s:aa}{i:Nat}(h:i<s.length):fY (lO s (i:Int)) (λ_=>True):=qeh (nI s i h) trivial
def Gh{s:aa}(h:0<s.length):fY (lO s 0) (λ_=>True):=kN (i:=0) h
def qbF(s:aa):fY (yq s) (λ_=>True):=by unfold yq;exact aA (R:=λl=>l.length<9223372036854775808) ⟨_,rfl,by decide⟩ (λl a=>eZ (Kd l s a) (ak hV))
def qc8{s:aa}{i:Nat}(h:i<s.length):fY (qe s i) (λ_=>True):=by unfold qe;exact aA (kN h) λ_ _=>aA (BE _) λ_ _=>aG (λ_=>aA (kN h) λ_ _=>aA (L8 _) λ_ _=>aG (λ_=>aA (kN h) λ_ _=>ak hV) λ_=>ak hV) λ_=>ak hV
def qfz(s:aa):fY (FH s) (λ_=>True):=by
 unfold FH;refine aA (R:=λo=>o=T\/s.length<=24) ?_ λo e=>aG (λ_=>ak hV) λd=>?_;.unfold Ay;refine aG (λ_=>ak (.inl rfl)) λa=>aG (λ_=>ak (.inl rfl)) λb=>?_;rw[oy]at a b;exact aA (Gh (by omega)) λ_ _=>aA (BE _) λ_ _=>aG (λ_=>ak (.inl rfl)) λ_=>aA (qbF s) λ_ _=>ak (.inr (by omega))
 .have h:s.length<=24:=e.resolve_left d;unfold Az;refine aA (qcy s.length (by omega) (λi=>(qe s i).bind λo=>if o then O (.inr (.inl ()))else O (.inl (dc (i+1)))) (.inr ()) (λi=>rfl) λi c=>aA (qc8 c) λ_ _=>aG (λ_=>ak hV) λ_=>ak rfl) λo _=>?_;cases o<;>exact ak hV
def qeg{s:aa}{i:Nat}(h:i<s.length):fY (qf s i) (λ_=>True):=by unfold qf;exact aA (kN h) λ_ _=>aA (BE _) λ_ _=>aG (λ_=>aA (kN h) λ_ _=>aA (KH _) λ_ _=>aG (λ_=>aA (kN h) λ_ _=>aA (L8 _) λ_ _=>ak hV) λ_=>ak hV) λ_=>ak hV
def qfB(s:aa):fY (FI s) (λ_=>True):=by
 unfold FI;refine aA (R:=λo=>o=T\/s.length<=24) ?_ λo h=>aG (λ_=>ak hV) λe=>?_
 .unfold AA;refine aG (λ_=>ak (.inl rfl)) λa=>aG (λ_=>ak (.inl rfl)) λb=>?_;rw[oy]at a b;have c:s.length<=24:=by omega
  exact aA (Gh (by omega)) λ_ _=>aA (KH _) λ_ _=>aG (λ_=>ak (.inl rfl)) λ_=>aG (λ_=>ak (.inl rfl)) λ_=>aG (λ_=>ak (.inl rfl)) λ_=>aG (λ_=>ak (.inl rfl)) λ_=>ak (.inr c)
 .have m:s.length<=24:=h.resolve_left e;unfold AB;refine aA (qcy s.length (by omega) (λi=>(qf s i).bind λo=>if o then O (.inr (.inl ()))else O (.inl (dc (i+1)))) (.inr ()) (λi=>rfl) λi d=>aA (qeg d) λ_ _=>aG (λ_=>ak hV) λ_=>ak rfl) λo _=>?_;cases o<;>exact ak hV
def qgP{s:aa}(b:K){i:Nat}(h:i<s.length):fY (yr s b i) (λ_=>True):=by unfold yr;exact aG (λ_=>aA (kN h) λ_ _=>aA (BE _) λ_ _=>aG (λ_=>ak hV) λ_=>aA (kN h) λ_ _=>aA (KH _) λ_ _=>aG (λ_=>ak hV) λ_=>aA (kN h) λ_ _=>aA (L8 _) λ_ _=>ak hV) λ_=>ak hV
def qjw(s:aa):fY (Kg s) (λ_=>True):=by
 unfold Kg;refine aA (R:=λo=>o=T\/(0<s.length/\s.length<=24)) ?_ λo m=>aG (λ_=>ak hV) λh=>?_
 .unfold Kh;refine aG (λ_=>ak (.inl rfl)) λd=>ak ?_;rw[oy]at d;by_cases e:(s.length:Int)>24;.exact .inl (vaY e)
  .exact .inr ⟨by omega,by omega⟩
 .let⟨b,q⟩:=m.resolve_left h;refine aA (Gh b) λ_ _=>aA (BE _) λp _=>?_;unfold Dt;refine aA (R:=λ_=>True) (kz s (by omega) (λi (z:K×K)=>(z.1,z.2,i)) (λ_ _=>True) (λi a z _=>?_) (λz _=>?_) (T,p) trivial) λo _=>aG (λ_=>ak hV) λ_=>ak hV;.show fY (jv s s.length z.1 z.2 i) _;unfold jv;rw[l7 (vaY (by omega))];exact aA (qgP _ a) λo _=>aG (λ_=>aA (kN a) λ_ _=>aA (BE _) λ_ _=>aG (λ_=>ak ⟨(o,T),rfl,hV⟩) λ_=>aA (kN a) λ_ _=>aA (L8 _) λ_ _=>aG (λ_=>ak ⟨(o,T),rfl,hV⟩) λ_=>aA (kN a) λc _=>ak ⟨(o,c==95),rfl,hV⟩) λ_=>ak ⟨(o,Z),rfl,hV⟩
  .show fY (jv s s.length z.1 z.2 s.length) _;unfold jv;rw[hG (by simp)];exact ak hV
def qcs{α:Type}(l:V α)(a b:Nat)(h:a<=b)(c:b<=l.length):SB l (O (a:Int)) (O (b:Int))=O ((l.take b).drop a):=by simp[SB,bd,h,c]
def qgQ(s:aa)(t:s.length<=120):fY (FJ s) (λl=>l≠[]/\l.length<=121):=by
 unfold FJ Hv;refine aA (R:=λo=>o.1.length<=s.length/\∃b:Nat,o.2=(b:Int)/\b<=s.length) (kz s (by omega) (λi (z:V aa×Int)=>(z.1,z.2,i)) (λi z=>z.1.length<=i/\∃b:Nat,z.2=(b:Int)/\b<=i) (λi q z h=>?_) (λz h=>?_) ([],0) ⟨l8 _,0,rfl,l8 _⟩) λo r=>?_;.let⟨a,m⟩:=z;let⟨p,b,e,d⟩:=h;simp only at p e;subst e;show fY (hZ s s.length a b i) _;unfold hZ;rw[l7 (vaY (by omega))];refine aA (kN q) λc _=>aG (λ_=>?_) λ_=>ak ⟨(a,b),rfl,by simp only;omega,b,rfl,by omega⟩;refine eZ (qcs s b i d (by omega)) (eZ (gJ (by simp;omega)) (ak ⟨(_,dc ((i:Int)+1)),rfl,by simp;omega,i+1,?_,l8 _⟩));simp only;rw[ch (by omega) (by omega)];omega
 .let⟨a,m⟩:=z;show fY (hZ s s.length a m s.length) _;unfold hZ;rw[hG (by simp)];exact ak h
 .let⟨p,b,e,d⟩:=r;rw[e];exact eZ (CB s b d) (eZ (gJ (by simp;omega)) (ak ⟨by simp,by simp;omega⟩))
def qfX{v:V aa}(h:v≠[]):fY (yp v) (λ_=>True):=by obtain⟨x,r,rfl⟩:=vck h;unfold yp;exact eZ (fG x r) (aA (qfz x) λ_ _=>aG (λ_=>eZ (fG x r) (aA (qfB x) λ_ _=>aG (λ_=>eZ (fG x r) (aG (λ_=>ak hV) λ_=>ak hV)) λ_=>ak hV)) λ_=>ak hV)
def qid:mf []=O 3:=by kernel_rfl
def qaM(s:aa):fY (mf s) (λr=>(r==0)=T->0<s.length):=by
 by_cases c:s=[]
 .subst c;exact qeh qid λh=>by simp at h
 have a:0<s.length:=vcW.2 c;unfold mf;refine aG (λ_=>ak λ_=>a) λd=>?_;rw[oy]at d;refine aA (qgQ s (by omega)) λl b=>aA (qfX b.1) λ_ _=>aG (λ_=>ak λ_=>a) λ_=>?_;have e:1<=l.length:=vcW.2 b.1;refine eZ (CB l 1 e) ?_;unfold J9;refine aA (Mz (l.drop 1) (by simp;omega) _ (λ_=>True) (λ_=>True) (λi=>rfl) (λx m i=>aA (qjw x) λ_ _=>aG (λ_=>ak hV) λ_=>ak ⟨rfl,hV⟩)) λo _=>?_;cases o<;>exact ak λ_=>a
def qa9(s:aa)(b:K):fY (BL s b) (λ_=>True):=by unfold BL;exact aA (qaM s) λr a=>aG (λh=>aA (Gh (a h)) λ_ _=>aG (λ_=>aA (Gh (a h)) λ_ _=>ak hV) λ_=>ak hV) λ_=>ak hV
end Go.Proofs.YtankopenjcbeeaaGreatDoor
