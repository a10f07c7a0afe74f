/- PROVED: a part of the proof. Conditions: none. -/
import Derived.Test.YtibglelmlnfojaaGreatDoorPkM18
set_option linter.unusedSimpArgs false set_option linter.defProp false
set_option linter.unusedVariables false
noncomputable section
namespace Go.Proofs.YtibglelmlnfojaaGreatDoor
open Go Go.Proofs.Tryz
open Option renaming some→O,none→N
open Go renaming TypeId→G,Value→D,Program→I,Oper→M,World→J,Code→W
open Bool renaming true→T,false→Z
open Decidable renaming decide→Y
open Go.Proofs.YtibglelmlnfojaaGreatDoor renaming PVal→U
set_option linter.unusedVariables false
set_option linter.defProp false
set_option maxRecDepth 100000
noncomputable def qlK:W:=f216.body.getD .skip
def qnn:ZF Pg [] 216 f216 qlK:=zf call216 func216 rfl mixed
section
variable(e:aj)(v:aq)
def Aj:Q K:=if Y ((e.Kids.length:Int)<v.least)then O T else O (Y ((e.Kids.length:Int)>v.most))
def WD:OU 0 (cA qlK 12) (Aj e v) .normal (λo=>[(19,.bool o)]) (aM 83 [(2,.eptr (ak e)),(3,.eptr (az v))] [.dead,.dead] []):=qnn.j<|
 have a:=λ{X c d} (r:PV _ X c d)=>tw (au e)<|bz (dO.ln e.Kids)<|tw (wt v)<|r;tf (λb=>a<|tg 7 b<|tE) λb=>a<|tg 7 b<|tw (au e)<|bz (dO.ln e.Kids)<|tw (wu v)<|tE
end
section
variable(e:aj)(v:aq)
def II:Q K:=if v.params then if Y ((e.Params.length:Int)<1)then O T else O (Y ((e.Params.length:Int)>6)) else O Z
def WE:OU 0 (cA qlK 28) (II e v) .normal (λo=>[(33,.bool o)]) (aM 83 [(2,.eptr (ak e)),(3,.eptr (az v))] [.dead,.dead] []):=qnn.j<|
 have a:=λ{X h i} (r:PV _ X h i)=>tw (wv v)<|r;tf (λc=>have b:=λ{X h i} (r:PV _ X h i)=>a<|tg 3 c<|tw (aO e)<|bz (kl.ln e.Params)<|r;tf (λd=>b<|tg 8 d<|tE) λd=>b<|tg 8 d<|tw (aO e)<|bz (kl.ln e.Params)<|tE) λc=>a<|tg 3 c<|tE
end
section
variable(e:aj)(v:aq)
def IJ:Q K:=if v.alts then if Y ((e.Alts.length:Int)<1)then O T else O (Y ((e.Alts.length:Int)>8)) else O Z
def WF:OU 0 (cA qlK 60) (IJ e v) .normal (λo=>[(47,.bool o)]) (aM 83 [(2,.eptr (ak e)),(3,.eptr (az v))] [.dead,.dead] []):=qnn.j<|
 have a:=λ{X h i} (r:PV _ X h i)=>tw (ww v)<|r;tf (λc=>have b:=λ{X h i} (r:PV _ X h i)=>a<|tg 3 c<|tw (ay e)<|bz (fT.ln e.Alts)<|r;tf (λd=>b<|tg 8 d<|tE) λd=>b<|tg 8 d<|tw (ay e)<|bz (fT.ln e.Alts)<|tE) λc=>a<|tg 3 c<|tE
end
section
variable(e:aj)(v:aq)(i:Int)
def BW:aF:=aM 83 [(2,.eptr (ak e)),(3,.eptr (az v)),(5,.i6 i)] [.dead,.dead] []
def MX(o:Unit⊕(Unit)):Exit:=match o with|(.inl _)=>.ret|(.inr _)=>.exit 0
def MY(o:Unit⊕(Unit)):aF:=match o with|(.inl o)=>aM 83 [(4,.bool Z)] [.dead,.dead] []|(.inr o)=>aM 83 [(2,.eptr (ak e)),(3,.eptr (az v))] [.dead,.dead] []
def oz:Q (Int⊕(Unit⊕(Unit))):=if Y (i<(e.Alts.length:Int))then (bY e.Alts i).bind λa=>if Y ((a.Names.length:Int)>6)then O (.inr (.inl ())) else O (.inl (cz (i+1))) else O (.inr (.inr ()))
def Ak:Q (Unit⊕(Unit)):=loop (λ(a:Int)=>oz e a) i
def Um:OL 0 (cA qlK 503) (oz e i) (λ(c:Int)=>BW e v c) MX (MY e v) (BW e v i):=qnn.l<|tw (ay e)<|bz (fT.ln e.Alts)<|tF (tb λb a=>tw (ay e)<|tv (fT.ia a)<|tw (fQ b)<|bz (dX.ln b.Names)<|tF tE<|tE)<|tE
def Jx:OK 0 (.loop (cA qlK 503)) (Ak e i) MX (MY e v) (BW e v i):=Bz λ_=>Um _ _ _
end
def E0 (e:aj) (a:aq):Q K :=(Aj e a).bind λd=>if d then O Z else (II e a).bind λh=>if h then O Z else (IJ e a).bind λc=>if c then O Z else (Ak e 0).bind λb=>match b with|(.inl b)=>O Z| (.inr b) =>if(!a.exactly)then if(e.Op !=7)then O T else O (Y ((e.Types.length:Int)<=1)) else if((e.Types.length:Int)==1)then if(e.Op !=7)then O T else O (Y ((e.Types.length:Int)<=1)) else O Z
def qdg{e:aj}{a:aq}:OV 216 [.agg (ak e),.agg (az a)] (E0 e a) (λr=>.bool r) []:=qnn.v<|
 tb λy s=>te (cd e)<|te (wb a)<|ey 1<|bJ (WD e a _ s)<|tF tE<|tb λz t=>ey 1<|bJ (WE e a _ t)<|tF tE<|tb λx q=>ey 1<|bJ (WF e a _ q)<|tF tE<|t2 (λw b=>bJ (Jx e a 0 _ b)<|tE) λw b=>bJ (Jx e a 0 _ b)<|have c:=λ{X A B} (r:PV _ X A B)=>tw (wx a)<|r;tf (λm=>have d:=λ{X A B} (r:PV _ X A B)=>c<|tg 4 m<|tw (ba e)<|r;tf (λn=>d<|tg 14 n<|tE) λn=>d<|tg 14 n<|tw (aw e)<|bz (cQ.ln e.Types)<|tE) λm=>have h:=λ{X A B} (r:PV _ X A B)=>c<|tg 4 m<|tw (aw e)<|bz (cQ.ln e.Types)<|r;tf (λo=>have i:=λ{X A B} (r:PV _ X A B)=>h<|tg 10 o<|tw (ba e)<|r;tf (λp=>i<|tg 14 p<|tE) λp=>i<|tg 14 p<|tw (aw e)<|bz (cQ.ln e.Types)<|tE) λo=>h<|tg 10 o<|tE
noncomputable def qhz:W:=f218.body.getD .skip
def qno:ZF Pg [] 218 f218 qhz:=zf call218 func218 rfl mixed
section
variable(e:aj)(v:aq)
def Lh:Q K:=if v.name then (jx e.Name).bind λa=>O (a !=0) else O Z
def Y9:OU 0 (cA qhz 12) (Lh e v) .normal (λo=>[(3,.undef),(15,.bool o)]) (aM 68 [(2,.eptr (ak e)),(3,.eptr (az v))] [.dead,.dead] []):=qno.j<|
 have a:=λ{X h i} (r:PV _ X h i)=>tw (wr v)<|r;tf (λc=>tb λd b=>a<|tg 3 c<|tw (bX e)<|bQ (gR _ b)<|tE) λc=>a<|tg 3 c<|tE
end
section
variable(e:aj)(i:Int)
def E2:aF:=aM 68 [(2,.eptr (ak e)),(5,.i6 i)] [.dead,.dead] []
def Pl(o:Unit⊕(Unit)):Exit:=match o with|(.inl _)=>.ret|(.inr _)=>.exit 0
def Pm(o:Unit⊕(Unit)):aF:=match o with|(.inl o)=>aM 68 [(4,.bool Z)] [.dead,.dead] []|(.inr o)=>aM 68 [(2,.eptr (ak e))] [.dead,.dead] []
def qm:Q (Int⊕(Unit⊕(Unit))):=if Y (i<(e.Params.length:Int))then (bY e.Params i).bind λb=>(jx b.Name).bind λa=>if(a !=0)then O (.inr (.inl ())) else O (.inl (cz (i+1))) else O (.inr (.inr ()))
def DB:Q (Unit⊕(Unit)):=loop (λ(a:Int)=>qm e a) i
def WG:OL 0 (cA qhz 119) (qm e i) (λ(d:Int)=>E2 e d) Pl (Pm e) (E2 e i):=qno.l<|tw (aO e)<|bz (kl.ln e.Params)<|tF (tb λc b=>tb λh a=>tw (aO e)<|tv (kl.ia b)<|tw (eu c)<|bQ (gR _ a)<|tF tE<|tE)<|tE
def MZ:OK 0 (.loop (cA qhz 119)) (DB e i) Pl (Pm e) (E2 e i):=Bz λ_=>WG _ _
end
section
variable(e:aj)(i k:Int)
def E4:aF:=aM 68 [(2,.eptr (ak e)),(6,.i6 i),(7,.i6 k)] [.dead,.dead] []
def Pp(o:Unit⊕(Unit)):Exit:=match o with|(.inl _)=>.ret|(.inr _)=>.exit 4
def Pq(o:Unit⊕(Unit)):aF:=match o with|(.inl o)=>aM 68 [(4,.bool Z)] [.dead,.dead] []|(.inr o)=>aM 68 [(2,.eptr (ak e)),(6,.i6 i)] [.dead,.dead] []
def qo:Q (Int⊕(Unit⊕(Unit))):=(bY e.Alts i).bind λb=>if Y (k<(b.Names.length:Int))then (bY e.Alts i).bind λc=>(bY c.Names k).bind λd=>(jx d).bind λa=>if(a !=0)then O (.inr (.inl ())) else O (.inl (cz (k+1))) else O (.inr (.inr ()))
def DD:Q (Unit⊕(Unit)):=loop (λ(a:Int)=>qo e i a) k
def WI:OL 0 (cA qhz 31711) (qo e i k) (λ(p:Int)=>E4 e i p) Pp (Pq e i) (E4 e i k):=qno.l<|tb λh b=>tw (ay e)<|tv (fT.ia b)<|tw (fQ h)<|bz (dX.ln h.Names)<|tF (tb λm c=>tb λn d=>tb λo a=>tw (ay e)<|tv (fT.ia c)<|tw (fQ m)<|tv (dX.ia d)<|tv (dz ZC (.str n) [])<|bQ (gR _ a)<|tF tE<|tE)<|tE
def M1:OK 0 (.loop (cA qhz 31711)) (DD e i k) Pp (Pq e i) (E4 e i k):=Bz λ_=>WI _ _ _
end
section
variable(e:aj)(i:Int)
def E3:aF:=aM 68 [(2,.eptr (ak e)),(6,.i6 i)] [.dead,.dead] []
def Pn(o:Unit⊕(Unit)):Exit:=match o with|(.inl _)=>.ret|(.inr _)=>.exit 2
def Po(o:Unit⊕(Unit)):aF:=match o with|(.inl o)=>aM 68 [(4,.bool Z)] [.dead,.dead] []|(.inr o)=>aM 68 [] [.dead,.dead] []
def qn:Q (Int⊕(Unit⊕(Unit))):=if Y (i<(e.Alts.length:Int))then (bY e.Alts i).bind λc=>(jx c.Con).bind λb=>if(b !=0)then O (.inr (.inl ())) else (DD e i 0).bind λa=>match a with|(.inl a)=>O (.inr (.inl ()))|(.inr a)=>O (.inl (cz (i+1))) else O (.inr (.inr ()))
def DC:Q (Unit⊕(Unit)):=loop (λ(a:Int)=>qn e a) i
def WH:OL 0 (cA qhz 247) (qn e i) (λ(n:Int)=>E3 e n) Pn Po (E3 e i):=qno.l<|tw (ay e)<|bz (fT.ln e.Alts)<|tF (tb λh c=>tb λm b=>tw (ay e)<|tv (fT.ia c)<|tw (pV h)<|bQ (gR _ b)<|tF tE<|t2 (λd a=>bJ (M1 e i 0 _ a)<|tE) λd a=>bJ (M1 e i 0 _ a)<|tE)<|tE
def M0:OK 0 (.loop (cA qhz 247)) (DC e i) Pn Po (E3 e i):=Bz λ_=>WH _ _
end
def QR(e:aj)(a:aq):Q K:=(Lh e a).bind λd=>if d then O Z else (DB e 0).bind λb=>match b with|(.inl b)=>O Z| (.inr b) =>(DC e 0).bind λc=>match c with|(.inl c)=>O Z|(.inr c)=>O T
def qfu{e:aj}{a:aq}:OV 218 [.agg (ak e),.agg (az a)] (QR e a) (λr=>.bool r) []:=qno.v<|tb λm d=>te (cd e)<|te (wb a)<|ey 1<|bJ (Y9 e a _ d)<|tF tE<|t2 (λh b=>bJ (MZ e 0 _ b)<|tE) λh b=>bJ (MZ e 0 _ b)<|t2 (λi c=>bJ (M0 e 0 _ c)<|tE) λi c=>bJ (M0 e 0 _ c)<|tE
noncomputable def qts:W:=f243.body.getD .skip
def qvn:ZF Pg [8] 243 f243 qts:=zf call243 func243 rfl mixed
section
variable(v:waA)(b a:Int)
def wD:aF:=aM 18 [(0,sl cS v),(5,.i6 b),(6,.i6 a)] [] []
def G7(o:Unit⊕(Unit)):Exit:=match o with|(.inl _)=>.ret|(.inr _)=>.exit 0
def G8(o:Unit⊕(Unit)):aF:=match o with|(.inl o)=>aM 18 [(2,.bool Z)] [] []|(.inr o)=>aM 18 [] [] []
def pJ:Q (Int⊕(Unit⊕(Unit))):=if Y (a<b)then (bY v a).bind λd=>(OE v d).bind λc=>if(c !=a)then O (.inr (.inl ())) else O (.inl (cz (a+1))) else O (.inr (.inr ()))
def BS:Q (Unit⊕(Unit)):=loop (λ(c:Int)=>pJ v b c) a
def Ru:OL 0 (cA qts 55) (pJ v b a) (λ(h:Int)=>wD v b h) G7 G8 (wD v b a):=qvn.l<|tF (tb λe d=>tb λi c=>tv (dX.ia d)<|tv (dz ZC (.str e) [])<|bQ (XZ _ c)<|tF tE<|tE)<|tE
def EK:OK 0 (.loop (cA qts 55)) (BS v b a) G7 G8 (wD v b a):=Bz λ_=>Ru _ _ _
end
def nI(a:waA):Q K:=(BS a (a.length:Int) 0).bind λb=>match b with|(.inl b)=>O Z|(.inr b)=>O T
def uR{a:waA}:OV 243 [sl cS a] (nI a) (λr=>.bool r) []:=qvn.v<|bz (dX.ln a)<|t2 (λc b=>bJ (EK a (a.length:Int) 0 _ b)<|tE) λc b=>bJ (EK a (a.length:Int) 0 _ b)<|tE
noncomputable def qqQ:W:=f219.body.getD .skip
def qsW:ZF Pg [14,30] 219 f219 qqQ:=zf call219 func219 rfl mixed
section
variable(e:aj)(a:waA)(i:Int)
def Hn:aF:=aM 53 [(1,.eptr (ak e)),(3,sl cS a),(4,sl cS ([]:V ae)),(5,.i6 i)] [.dead] [((4,0),9),((3,0),9)]
def Un(o:waA):aF:=aM 53 [(1,.eptr (ak e)),(3,sl cS o),(4,sl cS ([]:V ae))] [.dead] [((4,0),9),((3,0),9)]
def gp:Q ((waA×Int)⊕(waA)):=if Y (i<(e.Params.length:Int))then (bY e.Params i).bind λc=>(app a ([c.Name]:V ae)).bind λb=>O (.inl (b,cz (i+1))) else O (.inr a)
def BX:Q waA:=loop (λ(b:waA×Int)=>gp e b.1 b.2) (a,i)
def Rw:OL 0 (cA qqQ 119) (gp e a i) (λ(h:waA×Int)=>Hn e h.1 h.2) (λ_=>.exit 0) (Un e) (Hn e a i):=qsW.l<|tw (aO e)<|bz (kl.ln e.Params)<|tF (tb λd c=>tb λm b=>tw (aO e)<|tv (kl.ia c)<|tw (eu d)<|tv (aP [d.Name] 1 rfl)<|tv (dX.ap b)<|tE)<|tE
def S6:=nu (s:=(a,i)) λb=>Rw e b.1 b.2
end
section
variable(e:aj)(a cons:waA)(i:Int)
def wK:aF:=aM 53 [(1,.eptr (ak e)),(3,sl cS a),(4,sl cS cons),(6,.i6 i)] [.dead] [((4,0),9),((3,0),9)]
def Ho(o:Unit⊕(waA)):Exit:=match o with|(.inl _)=>.ret|(.inr _)=>.exit 2
def Hp(o:Unit⊕(waA)):aF:=match o with|(.inl o)=>aM 53 [(2,.bool Z)] [.dead] []|(.inr o)=>aM 53 [(3,sl cS a),(4,sl cS o)] [.dead] [((4,0),9),((3,0),9)]
def iS:Q ((waA×Int)⊕(Unit⊕(waA))):=if Y (i<(e.Alts.length:Int))then (bY e.Alts i).bind λd=>(app cons ([d.Con]:V ae)).bind λb=>(bY e.Alts i).bind λh=>(nI h.Names).bind λc=>if(!c)then O (.inr (.inl ())) else O (.inl (b,cz (i+1))) else O (.inr (.inr cons))
def jk:Q (Unit⊕(waA)):=loop (λ(b:waA×Int)=>iS e b.1 b.2) (cons,i)
def Rx:OL 0 (cA qqQ 247) (iS e cons i) (λ(n:waA×Int)=>wK e a n.1 n.2) Ho (Hp a) (wK e a cons i):=qsW.l<|tw (ay e)<|bz (fT.ln e.Alts)<|tF (tb λm d=>tb λp b=>tb λo h=>tb λq c=>tw (ay e)<|tv (fT.ia d)<|tw (pV m)<|tv (aP [m.Con] 1 rfl)<|tv (dX.ap b)<|tw (ay e)<|tv (fT.ia h)<|tw (fQ o)<|bQ (uR _ c)<|tF tE<|tE)<|tE
def E1:OK 0 (.loop (cA qqQ 247)) (jk e cons i) Ho (Hp a) (wK e a cons i):=Bz λ_=>Rx _ _ _ _
end
def DA(e:aj):Q K:=(BX e ([]:List ae) 0).bind λd=>(jk e ([]:List ae) 0).bind λa=>match a with|(.inl a)=>O Z| (.inr a) =>(nI d).bind λb=>if b then (nI a).bind λc=>O c else O Z
def Y7{e:aj}:OV 219 [.agg (ak e)] (DA e) (λr=>.bool r) []:=qsW.v<|tb λm h=>te (cd e)<|bJ (S6 e ([]:V ae) 0 _ h)<|t2 (λi a=>bJ (E1 e m ([]:V ae) 0 _ a)<|tE) λi a=>tb λn b=>bJ (E1 e m ([]:V ae) 0 _ a)<|tf (λc=>tb λo d=>bQ (uR _ b)<|tg 3 c<|bQ (uR _ d)<|tE) λc=>bQ (uR _ b)<|tg 3 c<|tE
noncomputable def qzl:W:=f221.body.getD .skip
def qyb:ZF Pg [] 221 f221 qzl:=zf call221 func221 rfl mixed
def Pk(t:am):Q K:=(nK t (⟨0,[],[],[],⟨0,[],0,[]⟩,[]⟩:am)).bind λa=>O a
def X1{t:am}:OV 221 [.agg (al t)] (Pk t) (λr=>.bool r) []:=qyb.v<|tb λb a=>te (eM t)<|tv (cc t)<|Yv (qbg) (qbd)<|bQ (BV _ a)<|tE
noncomputable def qlL:W:=f220.body.getD .skip
def qqu:ZF Pg [22,46] 220 f220 qlL:=zf call220 func220 rfl mixed
section
variable(e:aj)(i:Int)
def E5:aF:=aM 47 [(1,.eptr (ak e)),(3,.i6 i)] [.dead] []
def Ps(o:Int⊕(Unit)):Exit:=match o with|(.inl _)=>.ret|(.inr _)=>.exit 0
def Pt(o:Int⊕(Unit)):aF:=match o with|(.inl o)=>aM 47 [(2,.i6 o)] [.dead] []|(.inr o)=>aM 47 [(1,.eptr (ak e))] [.dead] []
def qp:Q (Int⊕(Int⊕(Unit))):=if Y (i<(e.Types.length:Int))then (bY e.Types i).bind λb=>(kX b).bind λa=>if(a !=0)then O (.inr (.inl a)) else O (.inl (cz (i+1))) else O (.inr (.inr ()))
def wO:Q (Int⊕(Unit)):=loop (λ(a:Int)=>qp e a) i
def WJ:OL 0 (cA qlL 55) (qp e i) (λ(d:Int)=>E5 e d) Ps (Pt e) (E5 e i):=qqu.l<|tw (aw e)<|bz (cQ.ln e.Types)<|tF (tb λc b=>tb λh a=>tw (aw e)<|tv (cQ.ia b)<|tv (cc c)<|bQ (La _ a)<|tF tE<|tE)<|tE
def M3:OK 0 (.loop (cA qlL 55)) (wO e i) Ps (Pt e) (E5 e i):=Bz λ_=>WJ _ _
end
section
variable(e:aj)(i:Int)
def qa1(o:Unit⊕(Int)):Exit:=match o with|(.inl _)=>.normal|(.inr _)=>.ret
def qa2(o:Unit⊕(Int)):aF:=match o with|(.inl o)=>aM 47 [(1,.eptr (ak e)),(5,.i6 i)] [.dead] []|(.inr o)=>aM 47 [(2,.i6 o)] [.dead] []
def DE:Q (Unit⊕(Int)):=(bY e.Params i).bind λd=>(Pk d.Type_).bind λc=>if c then O (.inl ()) else (bY e.Params i).bind λb=>(kX b.Type_).bind λa=>if(a !=0)then O (.inr a) else O (.inl ())
def M2:OK 0 (cA qlL 478) (DE e i) qa1 (qa2 e i) (aM 47 [(1,.eptr (ak e)),(5,.i6 i)] [.dead] []):=qqu.k<|tb λn d=>tb λo c=>tw (aO e)<|tv (kl.ia d)<|tw (eG n)<|bQ (X1 _ c)<|tF tE<|tb λh b=>tb λm a=>tw (aO e)<|tv (kl.ia b)<|tw (eG h)<|bQ (La _ a)<|tF tE<|tE
end
section
variable(e:aj)(i:Int)
def E6:aF:=aM 47 [(1,.eptr (ak e)),(5,.i6 i)] [.dead] []
def Pu(o:Int⊕(Unit)):Exit:=match o with|(.inl _)=>.ret|(.inr _)=>.exit 2
def Pv(o:Int⊕(Unit)):aF:=match o with|(.inl o)=>aM 47 [(2,.i6 o)] [.dead] []|(.inr o)=>aM 47 [] [.dead] []
def iE:Q (Int⊕(Int⊕(Unit))):=if Y (i<(e.Params.length:Int))then (DE e i).bind λa=>match a with|(.inl a)=>O (.inl (cz (i+1)))|(.inr a)=>O (.inr (.inl a)) else O (.inr (.inr ()))
def wP:Q (Int⊕(Unit)):=loop (λ(a:Int)=>iE e a) i
def WK:OL 0 (cA qlL 119) (iE e i) (λ(c:Int)=>E6 e c) Pu Pv (E6 e i):=qqu.l<|tw (aO e)<|bz (kl.ln e.Params)<|tF (t2 (λb a=>ey 0<|bJ (M2 e i _ a)<|tE) λb a=>ey 0<|bJ (M2 e i _ a)<|tE)<|tE
def M4:OK 0 (.loop (cA qlL 119)) (wP e i) Pu Pv (E6 e i):=Bz λ_=>WK _ _
end
def Jy(e:aj):Q Int:=(wO e 0).bind λb=>match b with|(.inl b)=>O b| (.inr b) =>(wP e 0).bind λa=>match a with|(.inl a)=>O a|(.inr a)=>O 0
def qfv{e:aj}:OV 220 [.agg (ak e)] (Jy e) (λr=>.i6 r) []:=qqu.v<|te (cd e)<|t2 (λd b=>bJ (M3 e 0 _ b)<|tE) λd b=>bJ (M3 e 0 _ b)<|t2 (λc a=>bJ (M4 e 0 _ a)<|tE) λc a=>bJ (M4 e 0 _ a)<|tE
noncomputable def qqK:W:=f167.body.getD .skip
def qqq:ZF Pg [] 167 f167 qqK:=zf call167 func167 rfl mixed
section
variable(e:aj)(m m2:K)(c a:Int)(d h i n b:K)
def A2:Q K:=if(!b)then O T else if(!m)then if(e.N !=0)then O T else if(!m2)then if(!(e.Name==([]:ae)))then O T else if(a==0)then O (Y ((e.Kids.length:Int)>0)) else O Z else if(a==0)then O (Y ((e.Kids.length:Int)>0)) else O Z else if(!m2)then if(!(e.Name==([]:ae)))then O T else if(a==0)then O (Y ((e.Kids.length:Int)>0)) else O Z else if(a==0)then O (Y ((e.Kids.length:Int)>0)) else O Z
def qaY:OU 0 (cA qqK 58) (A2 e m m2 a b) .normal (λo=>[(7,.bool o)]) (aM 115 [(1,.eptr (ak e)),(3,.bptr 1 0)] [.dead,.cells [.bool m,.bool m2,.i6 c,.i6 a,.bool d,.bool h,.bool i,.bool n,.bool b] []] []):=qqq.j<|
 tf (λS=>ts<|tg 4 S<|tE) λS=>have L:=λ{X a0 a1} (r:PV _ X a0 a1)=>ts<|tg 4 S<|ts<|r;tf (λc3=>have P:=λ{X a0 a1} (r:PV _ X a0 a1)=>L<|tg 8 c3<|tw (bE e)<|r;tf (λc5=>P<|tg 14 c5<|tE) λc5=>have R:=λ{X a0 a1} (r:PV _ X a0 a1)=>P<|tg 14 c5<|ts<|r;tf (λc7=>have p:=λ{X a0 a1} (r:PV _ X a0 a1)=>R<|tg 18 c7<|tw (bX e)<|r;tf (λc9=>p<|tg 24 c9<|tE) λc9=>have q:=λ{X a0 a1} (r:PV _ X a0 a1)=>p<|tg 24 c9<|ts<|r;tf (λz=>q<|tg 28 z<|tw (au e)<|bz (dO.ln e.Kids)<|tE) λz=>q<|tg 28 z<|tE) λc7=>have s:=λ{X a0 a1} (r:PV _ X a0 a1)=>R<|tg 18 c7<|ts<|r;tf (λA=>s<|tg 28 A<|tw (au e)<|bz (dO.ln e.Kids)<|tE) λA=>s<|tg 28 A<|tE) λc3=>have t:=λ{X a0 a1} (r:PV _ X a0 a1)=>L<|tg 8 c3<|ts<|r;tf (λB=>have w:=λ{X a0 a1} (r:PV _ X a0 a1)=>t<|tg 18 B<|tw (bX e)<|r;tf (λE=>w<|tg 24 E<|tE) λE=>have x:=λ{X a0 a1} (r:PV _ X a0 a1)=>w<|tg 24 E<|ts<|r;tf (λF=>x<|tg 28 F<|tw (au e)<|bz (dO.ln e.Kids)<|tE) λF=>x<|tg 28 F<|tE) λB=>have y:=λ{X a0 a1} (r:PV _ X a0 a1)=>t<|tg 18 B<|ts<|r;tf (λH=>y<|tg 28 H<|tw (au e)<|bz (dO.ln e.Kids)<|tE) λH=>y<|tg 28 H<|tE
end
section
variable(e:aj)(m m2:K)(d h:Int)(c b a i n:K)
def Hq:Q K:=if (!c) = T then if Y ((e.Params.length:Int)>0)then O T else if(!b)then if Y ((e.Alts.length:Int)>0)then O T else if(!a)then O (Y ((e.Types.length:Int)>0)) else O Z else if(!a)then O (Y ((e.Types.length:Int)>0)) else O Z else if(!b)then if Y ((e.Alts.length:Int)>0)then O T else if(!a)then O (Y ((e.Types.length:Int)>0)) else O Z else if(!a)then O (Y ((e.Types.length:Int)>0)) else O Z
def qaZ:OU 0 (cA qqK 238) (Hq e c b a) .normal (λo=>[(42,.bool o)]) (aM 115 [(1,.eptr (ak e)),(3,.bptr 1 0)] [.dead,.cells [.bool m,.bool m2,.i6 d,.i6 h,.bool c,.bool b,.bool a,.bool i,.bool n] []] []):=qqq.j<|
 tf (λB=>have p:=λ{X a2 a3} (r:PV _ X a2 a3)=>ts<|tg 4 B<|tw (aO e)<|bz (kl.ln e.Params)<|r;tf (λE=>p<|tg 10 E<|tE) λE=>have q:=λ{X a2 a3} (r:PV _ X a2 a3)=>p<|tg 10 E<|ts<|r;tf (λF=>have s:=λ{X a2 a3} (r:PV _ X a2 a3)=>q<|tg 14 F<|tw (ay e)<|bz (fT.ln e.Alts)<|r;tf (λH=>s<|tg 21 H<|tE) λH=>have t:=λ{X a2 a3} (r:PV _ X a2 a3)=>s<|tg 21 H<|ts<|r;tf (λL=>t<|tg 25 L<|tw (aw e)<|bz (cQ.ln e.Types)<|tE) λL=>t<|tg 25 L<|tE) λF=>have w:=λ{X a2 a3} (r:PV _ X a2 a3)=>q<|tg 14 F<|ts<|r;tf (λP=>w<|tg 25 P<|tw (aw e)<|bz (cQ.ln e.Types)<|tE) λP=>w<|tg 25 P<|tE) λB=>have x:=λ{X a2 a3} (r:PV _ X a2 a3)=>ts<|tg 4 B<|ts<|r;tf (λR=>have y:=λ{X a2 a3} (r:PV _ X a2 a3)=>x<|tg 14 R<|tw (ay e)<|bz (fT.ln e.Alts)<|r;tf (λS=>y<|tg 21 S<|tE) λS=>have z:=λ{X a2 a3} (r:PV _ X a2 a3)=>y<|tg 21 S<|ts<|r;tf (λa0=>z<|tg 25 a0<|tw (aw e)<|bz (cQ.ln e.Types)<|tE) λa0=>z<|tg 25 a0<|tE) λR=>have A:=λ{X a2 a3} (r:PV _ X a2 a3)=>x<|tg 14 R<|ts<|r;tf (λa1=>A<|tg 25 a1<|tw (aw e)<|bz (cQ.ln e.Types)<|tE) λa1=>A<|tg 25 a1<|tE
end
section
variable(e:aj)(m m2:K)(a b:Int)(c d h i n:K)
def A3:Q K:=if (e.Op == 1) = T then (K2 e.N).bind λo=>if(!o)then O T else if(e.Op==2)then if(e.N !=0)then O (e.N !=1) else O Z else O Z else if(e.Op==2)then if(e.N !=0)then O (e.N !=1) else O Z else O Z
def qa0:OU 0 (cA qqK 3838) (A3 e) .normal (λo=>[(79,.bool o)]) (aM 115 [(1,.eptr (ak e)),(3,.bptr 1 0)] [.dead,.cells [.bool m,.bool m2,.i6 a,.i6 b,.bool c,.bool d,.bool h,.bool i,.bool n] []] []):=qqq.j<|
 have p:=λ{X P R} (r:PV _ X P R)=>tw (ba e)<|r;tf (λy=>tb λL H=>have q:=λ{X P R} (r:PV _ X P R)=>p<|tg 4 y<|tw (bE e)<|bQ (qd0 _ H)<|r;tf (λz=>q<|tg 10 z<|tE) λz=>have s:=λ{X P R} (r:PV _ X P R)=>q<|tg 10 z<|tw (ba e)<|r;tf (λA=>have t:=λ{X P R} (r:PV _ X P R)=>s<|tg 14 A<|tw (bE e)<|r;tf (λB=>t<|tg 19 B<|tw (bE e)<|tE) λB=>t<|tg 19 B<|tE) λA=>s<|tg 14 A<|tE) λy=>have w:=λ{X P R} (r:PV _ X P R)=>p<|tg 4 y<|tw (ba e)<|r;tf (λE=>have x:=λ{X P R} (r:PV _ X P R)=>w<|tg 14 E<|tw (bE e)<|r;tf (λF=>x<|tg 19 F<|tw (bE e)<|tE) λF=>x<|tg 19 F<|tE) λE=>w<|tg 14 E<|tE
end
def A1 (e:aj):Q Int :=(E7 e.Op).bind λa=>(A2 e a.n a.name a.most a.ok).bind λb=>if b then O 1 else (Hq e a.params a.alts a.types).bind λc=>if c then O 1 else (E0 e a).bind λh=>if(!h)then O 13 else (A3 e).bind λd=>if d then O 2 else (QR e a).bind λi=>if(!i)then O 3 else (DA e).bind λm=>if(!m)then O 4 else (Jy e).bind λn=>O n
def qht{e:aj}:OV 167 [.agg (ak e)] (A1 e) (λr=>.i6 r) []:=qqq.v<|tb λa o=>tb λp b=>te (cd e)<|tw (ba e)<|bQ (qhu _ o)<|tx qsw<|tx (bN a)<|ey 1<|bJ (qaY e a.n a.name a.least a.most a.params a.alts a.types a.exactly a.ok _ b)<|tF tE<|tb λq c=>ey 0<|bJ (qaZ e a.n a.name a.least a.most a.params a.alts a.types a.exactly a.ok _ c)<|tF tE<|tb λt h=>tv (aK e)<|tv (uk a [])<|bQ (qdg _ h)<|tF tE<|tb λs d=>ey 0<|bJ (qa0 e a.n a.name a.least a.most a.params a.alts a.types a.exactly a.ok _ d)<|tF tE<|tb λw i=>tv (aK e)<|tv (uk a [])<|bQ (qfu _ i)<|tF tE<|tb λx m=>tv (aK e)<|bQ (Y7 _ m)<|tF tE<|tb λy n=>tv (aK e)<|bQ (qfv _ n)<|tE
noncomputable def qs3:W:=f116.body.getD .skip
def qsK:ZF Pg [25] 116 f116 qs3:=zf call116 func116 rfl mixed
section
variable(v:Int)(a:waD)(i:Int)
def AZ:Q K:=if Y (i<(a.length:Int))then O (v==0) else O Z
def qaW:OU 0 (cA qs3 988) (AZ v a i) .normal (λo=>[(17,.bool o)]) (aM 26 [(3,.i6 v),(4,sl ak a),(5,.i6 i)] [.dead] [((4,0),36)]):=qsK.j<|tf (λb=>bz (dO.ln a)<|tg 5 b<|tE) λb=>bz (dO.ln a)<|tg 5 b<|tE
end
section
variable(a:LE)(b:waD)(v i:Int)
def SD:aF:=aM 26 [(3,.i6 v),(4,sl ak b),(5,.i6 i)] [.dead] [((4,0),36)]
def qdh(o:Int):aF:=aM 26 [(3,.i6 o)] [.dead] []
def jR:Q ((Int×Int)⊕(Int)):=(AZ v b i).bind λc=>if c then (bY b i).bind λe=>(a e).bind λd=>O (.inl (d,cz (i+1))) else O (.inr v)
def A0:Q Int:=loop (λ(c:Int×Int)=>jR a b c.1 c.2) (v,i)
def Y8(c:S0 a):OL 0 (cA qs3 247) (jR a b v i) (λ(m:Int×Int)=>SD b m.1 m.2) (λ_=>.exit 0) qdh (SD b v i):=qsK.l<|tb λo d=>ey 1<|bJ (qaW v b i _ d)<|tF (tb λn h=>tb λp e=>tv (dO.ia h)<|tv (aK n)<|bQ (c _ _ e)<|tE)<|tE
def qaX(c:S0 a):=nu (s:=(v,i)) λd=>Y8 a b d.1 d.2 c
end
def Lg(a:LE)(e:aj):Q Int:=(A1 e).bind λc=>(zp e).bind λd=>(A0 a d c 0).bind λb=>O b
def qft(a:LE)(b:S0 a){e:aj}:OV 116 [.agg (ak e)] (Lg a e) (λr=>.i6 r) []:=qsK.v<|tb λi d=>tb λm h=>tb λn c=>te (cd e)<|tv (aK e)<|bQ (qht _ d)<|tv (aK e)<|bQ (IH _ h)<|bJ (qaX a m i 0 b _ c)<|tE
def S7:(aj->Q Int)->(aj)->Q Int:=λ(rec:aj->Q Int) (x:aj)=>Lg (λe=>rec e) x
def qaV(e:aj):Q Int:=rT S7 e
def qhs{e:aj}:OV 116 [.agg (ak e)] (qaV e) (λr=>.i6 r) []:=HU λ_ h=>d7 (F:=S7) (M:=λ(x:aj) (r:Int)=>CC Pg GE 116 [.agg (ak x)] (.i6 r) []) (λrec a x r h=>qft _ (λe=>HU λr h=>a e r h) _ h) h
noncomputable def qCh:W:=f65.body.getD .skip
def qBH:ZF Pg [] 65 f65 qCh:=zf call65 func65 rfl mixed
def Ez(e:aj):Q Int:=(QQ e).bind λa=>if Y (a>400)then O 7 else (Wy e).bind λb=>if Y (b>40)then O 8 else (qaV e).bind λc=>O c
def qfq{e:aj}:OV 65 [.agg (ak e)] (Ez e) (λr=>.i6 r) []:=qBH.v<|tb λd a=>te (cd e)<|tv (aK e)<|bQ (Uk _ a)<|tF tE<|tb λh b=>tv (aK e)<|bQ (qfr _ b)<|tF tE<|tb λi c=>tv (aK e)<|bQ (qhs _ c)<|tE
abbrev bG:=(aj->ae->K->Q (ae×K))
abbrev da(R:bG):Prop:=∀(e:aj)(b:ae)(a:K),OG 66 [.bptr 0 0,.agg (ak e)] [] [.cells [.str b,.bool a] []] (R e b a) (λr=>.tuple []) [] (λr=>[.cells [.str r.1,.bool r.2] []])
noncomputable def qyY:W:=f168.body.getD .skip
def qxO:ZF Pg [] 168 f168 qyY:=zf call168 func168 rfl mixed
def qy(e:aj):Q K:=if(e.Op==21)then if((e.Kids.length:Int)==1)then (bY e.Kids 0).bind λa=>O (a.Op==16) else O Z else O Z
def PU{e:aj}:OV 168 [.agg (ak e)] (qy e) (λr=>.bool r) []:=qxO.v<|
 te (cd e)<|have a:=λ{X m n} (r:PV _ X m n)=>tw (ba e)<|r;tf (λd=>have b:=λ{X m n} (r:PV _ X m n)=>a<|tg 4 d<|tw (au e)<|bz (dO.ln e.Kids)<|r;tf (λh=>tb λi c=>b<|tg 10 h<|tw (au e)<|tv (dO.ia c)<|tw (ba i)<|tE) λh=>b<|tg 10 h<|tE) λd=>a<|tg 4 d<|tE
noncomputable def qnu:W:=f117.body.getD .skip
def qnl:ZF Pg [] 117 f117 qnu:=zf call117 func117 rfl mixed
section
variable(e:aj)(a:Int)
def UB:Q K:=if(a==7)then O (a==7) else if(a==8)then O (a==8) else if(a==9)then O (a==9) else if(a==6)then O (a==6) else O (a==25)
def Za:OU 0 (cA qnu 54) (UB a) .normal (λo=>[(5,.bool o)]) (aM 32 [(1,.eptr (ak e)),(4,.i6 a)] [.dead] []):=qnl.j<|tF tE<|tF tE<|tF tE<|tF tE<|tE
end
section
variable(a:Int)
def UC:Q K:=if(a==16)then O (a==16) else if(a==17)then O (a==17) else O (a==18)
def Zb:OU 0 (cA qnu 14334) (UC a) .normal (λo=>[(19,.bool o)]) (aM 32 [(4,.i6 a)] [.dead] []):=qnl.j<|tF tE<|tF tE<|tE
end
section
variable(a:Int)
def UD:Q K:=if(a==10)then O (a==10) else O (a==11)
def Zc:OU 0 (cA qnu 57342) (UD a) .normal (λo=>[(23,.bool o)]) (aM 32 [(4,.i6 a)] [.dead] []):=qnl.j<|tF tE<|tE
end
section
variable(a:Int)
def UE:Q K:=if(a==12)then O (a==12) else if(a==13)then O (a==13) else O (a==14)
def Zd:OU 0 (cA qnu 229374) (UE a) .normal (λo=>[(26,.bool o)]) (aM 32 [(4,.i6 a)] [.dead] []):=qnl.j<|tF tE<|tF tE<|tE
end
def JH(e:aj):Q Int:=(UB e.Op).bind λh=>if h then O 0 else if(e.Op==20)then O 1 else if(e.Op==19)then O 2 else if(e.Op==21)then (qy e).bind λd=>if d then O 4 else O 3 else (UC e.Op).bind λa=>if a then O 4 else (UD e.Op).bind λb=>if b then O 5 else (UE e.Op).bind λc=>if c then O 6 else if(e.Op==15)then O 7 else O 8
def UF{e:aj}:OV 117 [.agg (ak e)] (JH e) (λr=>.i6 r) []:=qnl.v<|tb λp h=>te (cd e)<|tw (ba e)<|ey 0<|bJ (Za e e.Op _ h)<|tF tE<|tF tE<|tF tE<|tF (tb λo d=>tv (aK e)<|bQ (PU _ d)<|tF tE<|tE)<|tb λi a=>ey 0<|bJ (Zb e.Op _ a)<|tF tE<|tb λm b=>ey 0<|bJ (Zc e.Op _ b)<|tF tE<|tb λn c=>ey 0<|bJ (Zd e.Op _ c)<|tF tE<|tF tE<|tE
noncomputable def qvC:W:=f169.body.getD .skip
def qu3:ZF Pg [] 169 f169 qvC:=zf call169 func169 rfl mixed
section
variable(e:aj)(m:ae)(m2:K)
def pN:Q (ae×K):=if Y ((e.Types.length:Int)>0)then (ac ([bm]:V ae) m m2).bind λb=>(bY e.Types 0).bind λc=>(dH c b m2).bind λa=>O (a.2,a.1) else O (m,m2)
def PG:OJ 1 (cA qvC 30) (pN e m m2) .normal (λo=>aM 42 [(0,.bptr 0 0),(3,.eptr (ak e))] [.cells [.str o.1,.bool o.2] [],.dead] []) (aM 42 [(0,.bptr 0 0),(3,.eptr (ak e))] [.cells [.str m,.bool m2] [],.dead] []):=qu3.j<|tw (aw e)<|bz (cQ.ln e.Types)<|tF (tb λh a=>tb λd c=>tb λi b=>tv (aP [bm] 1 rfl)<|tc [0] (ai _ a)<|tw (aw e)<|tv (cQ.ia c)<|tv (cc d)<|tc [0] (fA _ b)<|tE)<|tE
end
def Fe(a:bG)(e:aj)(o:ae)(c:K):Q (ae×K):=(ac ([Wm]:V ae) o c).bind λp=>(aH e.Name Z p c).bind λn=>(pN e n.1 n.2).bind λh=>(ac ([ed]:V ae) h.1 h.2).bind λq=>(bY e.Kids 0).bind λr=>(a r q h.2).bind λb=>(ac ([rG]:V ae) b.1 b.2).bind λi=>(bY e.Kids 1).bind λm=>(a m i b.2).bind λd=>O (d.1,d.2)
def Uy(b:bG)(a:da b){e:aj}{w:ae}{m:K}:OG 169 [.bptr 0 0,.agg (ak e)] [] [.cells [.str w,.bool m] []] (Fe b e w m) (λr=>.tuple []) [] (λr=>[.cells [.str r.1,.bool r.2] []]):=qu3.g 1<|tb λF o=>tb λx p=>tb λE n=>tb λH q=>tb λB s=>tb λy c=>tb λz d=>tb λt i=>tb λA h=>te (cd e)<|tv (aP [Wm] 1 rfl)<|tc [0] (ai _ o)<|tw (bX e)<|tc [0] (aT _ p)<|ey 0<|bJ (PG e x.1 x.2 _ n)<|tv (aP [ed] 1 rfl)<|tc [0] (ai _ q)<|tw (au e)<|tv (dO.ia s)<|tv (aK B)<|tc [0] (a _ _ _ _ c)<|tv (aP [rG] 1 rfl)<|tc [0] (ai _ d)<|tw (au e)<|tv (dO.ia i)<|tv (aK t)<|tc [0] (a _ _ _ _ h)<|tE
noncomputable def qqL:W:=f170.body.getD .skip
def qqr:ZF Pg [23] 170 f170 qqL:=zf call170 func170 rfl mixed
section
variable(i:Int)(c:IO)(d:Int)(m:ae)(m2:K)(e:ae)(h:waA)(n:Int)(p:ae)(q:Int)(r:waD)(s:waF)(a:IO)(b:oy)
def CW:Q ae:=if Y (i>0)then (ac ([rH]:V ae) m m2).bind λo=>O o else O m
def Lr:OJ 1 (cA qqL 32246) (CW i m m2) .normal (λo=>aM 57 [(0,.bptr 0 0),(5,.bptr 2 0),(19,sl bL c),(20,.i6 d),(21,.i6 i)] [.cells [.str o,.bool m2] [],.dead,.cells [.str e,sl cS h,.i6 n,.str p,.i6 q,sl ak r,sl bk s,sl bL a,sl al b] []] []) (aM 57 [(0,.bptr 0 0),(4,.i6 i),(5,.bptr 2 0),(19,sl bL c),(20,.i6 d),(21,.i6 i)] [.cells [.str m,.bool m2] [],.dead,.cells [.str e,sl cS h,.i6 n,.str p,.i6 q,sl ak r,sl bk s,sl bL a,sl al b] []] []):=qqr.j<|tF (tb λw t=>tv (aP [rH] 1 rfl)<|tc [0] (ai _ t)<|tE)<|tE
end
section
variable(d:IO)(e h:Int)(m:ae)(m2:K)(i:ae)(a:waA)(n:Int)(p:ae)(q:Int)(r:waD)(s:waF)(b:IO)(c:oy)
def CX:Q (ae×K):=if Y ((a.length:Int)>0)then (ac ([bZ]:V ae) m m2).bind λt=>(fY a t m2).bind λo=>O (o.1,o.2) else O (m,m2)
def Ls:OJ 1 (cA qqL 128990) (CX m m2 a) .normal (λo=>aM 57 [(0,.bptr 0 0),(5,.bptr 2 0),(19,sl bL d),(20,.i6 e),(21,.i6 h)] [.cells [.str o.1,.bool o.2] [],.dead,.cells [.str i,sl cS a,.i6 n,.str p,.i6 q,sl ak r,sl bk s,sl bL b,sl al c] []] []) (aM 57 [(0,.bptr 0 0),(5,.bptr 2 0),(19,sl bL d),(20,.i6 e),(21,.i6 h)] [.cells [.str m,.bool m2] [],.dead,.cells [.str i,sl cS a,.i6 n,.str p,.i6 q,sl ak r,sl bk s,sl bL b,sl al c] []] []):=qqr.j<|ts<|bz (dX.ln a)<|tF (tb λx t=>tb λy w=>tv (aP [bZ] 1 rfl)<|tc [0] (ai _ t)<|ts<|tc [0] (sP _ w)<|tE)<|tE
end
section
variable(d:bG)(b:IO)(c a:Int)(m:ae)(m2:K)
def pk:aF:=aM 57 [(0,.bptr 0 0),(19,sl bL b),(20,.i6 c),(21,.i6 a)] [.cells [.str m,.bool m2] [],.dead] []
def yN(o:ae×K):aF:=aM 57 [(0,.bptr 0 0)] [.cells [.str o.1,.bool o.2] [],.dead] []
instance qDK:KS 1 (pk b c a m m2):=ks 2 rfl
instance qDC{o:ae×Bool}:KS 1 (yN o):=ks 2 rfl
def yM:Q ((Int×ae×K)⊕(ae×K)):=if Y (a<c)then (bY b a).bind λo=>(CW a m m2).bind λp=>(aH o.Con T p m2).bind λh=>(CX h.1 h.2 o.Names).bind λe=>(ac ([dK]:V ae) e.1 e.2).bind λn=>(d o.Body n e.2).bind λi=>O (.inl (cz (a+1),i.1,i.2)) else O (.inr (m,m2))
def sM:Q (ae×K):=loop (λ(e:Int×ae×K)=>yM d b c e.1 e.2.1 e.2.2) (a,m,m2)
def JB(h:da d):OL 1 (cA qqL 503) (yM d b c a m m2) (λ(t:Int×ae×K)=>pk b c t.1 t.2.1 t.2.2) (λ_=>.exit 0) yN (pk b c a m m2):=qqr.lx<|tF (tb λe s=>tb λz r=>tb λq n=>tb λw i=>tb λx o=>tb λy p=>tv (fT.ia s)<|tv (rV e)<|tx SV<|tx (oH e)<|ey 0<|bJ (Lr a b c m m2 e.Con e.Names e.Body.Op e.Body.Name e.Body.N e.Body.Kids e.Body.Params e.Body.Alts e.Body.Types _ r)<|ts<|tc [0] (aT _ n)<|ey 0<|bJ (Ls b c a q.1 q.2 e.Con e.Names e.Body.Op e.Body.Name e.Body.N e.Body.Kids e.Body.Params e.Body.Alts e.Body.Types _ i)<|tv (aP [dK] 1 rfl)<|tc [0] (ai _ o)<|tv (ga e.Body [])<|tc [0] (h _ _ _ _ p)<|tE)<|tE
def Lt(e:da d):=nu (s:=(a,m,m2)) λh=>JB d b c h.1 h.2.1 h.2.2 e
end
def zr(a:bG)(e:aj)(i:ae)(c:K):Q (ae×K):=(ac ([Rq]:V ae) i c).bind λm=>(bY e.Kids 0).bind λo=>(a o m c).bind λh=>(ac ([si]:V ae) h.1 h.2).bind λn=>(sM a e.Alts (e.Alts.length:Int) 0 n h.2).bind λb=>(ac ([lI]:V ae) b.1 b.2).bind λd=>O (d,b.2)
def RC(a:bG)(b:da a){e:aj}{p:ae}{h:K}:OG 170 [.bptr 0 0,.agg (ak e)] [] [.cells [.str p,.bool h] []] (zr a e p h) (λr=>.tuple []) [] (λr=>[.cells [.str r.1,.bool r.2] []]):=qqr.g 1<|tb λy i=>tb λx o=>tb λt m=>tb λw n=>tb λq c=>tb λs d=>te (cd e)<|tv (aP [Rq] 1 rfl)<|tc [0] (ai _ i)<|tw (au e)<|tv (dO.ia o)<|tv (aK x)<|tc [0] (b _ _ _ _ m)<|tv (aP [si] 1 rfl)<|tc [0] (ai _ n)<|tw (ay e)<|bz (fT.ln e.Alts)<|bJ (Lt a e.Alts (e.Alts.length:Int) 0 w t.2 b _ c)<|tv (aP [lI] 1 rfl)<|tc [0] (ai _ d)<|tE
noncomputable def qvD:W:=f171.body.getD .skip
def qu4:ZF Pg [14] 171 f171 qvD:=zf call171 func171 rfl mixed
section
variable(e:aj)(b:waF)(c a:Int)(m:ae)(m2:K)
def sL:aF:=aM 45 [(0,.bptr 0 0),(3,.eptr (ak e)),(10,sl bk b),(11,.i6 c),(12,.i6 a)] [.cells [.str m,.bool m2] [],.dead] []
def CV(o:ae×K):aF:=aM 45 [(0,.bptr 0 0),(3,.eptr (ak e))] [.cells [.str o.1,.bool o.2] [],.dead] []
instance qEq:KS 1 (sL e b c a m m2):=ks 2 rfl
instance qEg{o:ae×Bool}:KS 1 (CV e o):=ks 2 rfl
def CU:Q ((Int×ae×K)⊕(ae×K)):=if Y (a<c)then (bY b a).bind λh=>(cC a m m2).bind λn=>(aH h.Name Z n m2).bind λd=>(Pk h.Type_).bind λo=>if(!o)then (ac ([bm]:V ae) d.1 d.2).bind λp=>(dH h.Type_ p d.2).bind λi=>O (.inl (cz (a+1),i.2,i.1)) else O (.inl (cz (a+1),d.1,d.2)) else O (.inr (m,m2))
def wX:Q (ae×K):=loop (λ(d:Int×ae×K)=>CU b c d.1 d.2.1 d.2.2) (a,m,m2)
def NO:OL 1 (cA qvD 119) (CU b c a m m2) (λ(r:Int×ae×K)=>sL e b c r.1 r.2.1 r.2.2) (λ_=>.exit 0) (CV e) (sL e b c a m m2):=qu4.lx<|tF (tb λd q=>tb λs h=>tb λt i=>tb λw n=>tv (kl.ia q)<|tv (ED d)<|tx qeN<|tx (zI d)<|tc [0] (cx _ h)<|ts<|tc [0] (aT _ i)<|tv (eK d.Type_ [])<|bQ (X1 _ n)<|tF (tb λx o=>tb λy p=>tv (aP [bm] 1 rfl)<|tc [0] (ai _ o)<|tv (eK d.Type_ [])<|tc [0] (fA _ p)<|tE)<|tE)<|tE
def PF:=nu (s:=(a,m,m2)) λd=>NO e b c d.1 d.2.1 d.2.2
end
def Fd(b:bG)(e:aj)(m:ae)(c:K):Q (ae×K):=(ac ([Ix]:V ae) m c).bind λn=>(wX e.Params (e.Params.length:Int) 0 n c).bind λa=>(ac ([fC]:V ae) a.1 a.2).bind λh=>(bY e.Kids 0).bind λi=>(b i h a.2).bind λd=>O (d.1,d.2)
def Ux(a:bG)(b:da a){e:aj}{p:ae}{c:K}:OG 171 [.bptr 0 0,.agg (ak e)] [] [.cells [.str p,.bool c] []] (Fd a e p c) (λr=>.tuple []) [] (λr=>[.cells [.str r.1,.bool r.2] []]):=qu4.g 1<|tb λs n=>tb λq d=>tb λt h=>tb λo m=>tb λw i=>te (cd e)<|tv (aP [Ix] 1 rfl)<|tc [0] (ai _ n)<|tw (aO e)<|bz (kl.ln e.Params)<|bJ (PF e e.Params (e.Params.length:Int) 0 s c _ d)<|tv (aP [fC] 1 rfl)<|tc [0] (ai _ h)<|tw (au e)<|tv (dO.ia m)<|tv (aK o)<|tc [0] (b _ _ _ _ i)<|tE
noncomputable def qvE:W:=f172.body.getD .skip
def qu5:ZF Pg [13] 172 f172 qvE:=zf call172 func172 rfl mixed
section
variable(b:bG)(d:waD)(c a:Int)(m:ae)(m2:K)
def qv:aF:=aM 26 [(0,.bptr 0 0),(9,sl ak d),(10,.i6 c),(11,.i6 a)] [.cells [.str m,.bool m2] []] []
def Ba(o:ae×K):aF:=aM 26 [(0,.bptr 0 0)] [.cells [.str o.1,.bool o.2] []] []
instance qDZ:KS 1 (qv d c a m m2):=ks 1 rfl
instance qDS{o:ae×Bool}:KS 1 (Ba o):=ks 1 rfl
def A9:Q ((Int×ae×K)⊕(ae×K)):=if Y (a<c)then (bY d a).bind λi=>(cC a m m2).bind λh=>(b i h m2).bind λe=>O (.inl (cz (a+1),e.1,e.2)) else O (.inr (m,m2))
def Ff:Q (ae×K):=loop (λ(e:Int×ae×K)=>A9 b d c e.1 e.2.1 e.2.2) (a,m,m2)
def Lq(e:da b):OL 1 (cA qvE 55) (A9 b d c a m m2) (λ(p:Int×ae×K)=>qv d c p.1 p.2.1 p.2.2) (λ_=>.exit 0) Ba (qv d c a m m2):=qu5.lx<|tF (tb λo n=>tb λq h=>tb λr i=>tv (dO.ia n)<|tv (aK o)<|tx ZB<|tx (wc o)<|tc [0] (cx _ h)<|tv (ga o [])<|tc [0] (e _ _ _ _ i)<|tE)<|tE
def NP(e:da b):=nu (s:=(a,m,m2)) λh=>Lq b d c h.1 h.2.1 h.2.2 e
end
def gS(b:bG)(a:waD)(e:ae)(c:K):Q (ae×K):=(ac ([dl]:V ae) e c).bind λh=>(Ff b a (a.length:Int) 0 h c).bind λd=>(ac ([dM]:V ae) d.1 d.2).bind λi=>O (i,d.2)
def j3(b:bG)(c:da b){a:waD}{m:ae}{d:K}:OG 172 [.bptr 0 0,sl ak a] [] [.cells [.str m,.bool d] []] (gS b a m d) (λr=>.tuple []) [] (λr=>[.cells [.str r.1,.bool r.2] []]):=qu5.g 1<|tb λn h=>tb λo e=>tb λp i=>tv (aP [dl] 1 rfl)<|tc [0] (ai _ h)<|bz (dO.ln a)<|bJ (NP b a (a.length:Int) 0 n d c _ e)<|tv (aP [dM] 1 rfl)<|tc [0] (ai _ i)<|tE
noncomputable def qyB:W:=f118.body.getD .skip
def qxq:ZF Pg [] 118 f118 qyB:=zf call118 func118 rfl mixed
def qw(a:bG)(e:aj)(h:ae)(b:K):Q (ae×K):=if(e.Op==7)then (Fe a e h b).bind λA=>O (A.1,A.2) else if(e.Op==8)then (ac ([qae]:V ae) h b).bind λB=>(bY e.Kids 0).bind λF=>(a F B b).bind λw=>(ac ([Es]:V ae) w.1 w.2).bind λE=>(bY e.Kids 1).bind λH=>(a H E w.2).bind λx=>(ac ([Er]:V ae) x.1 x.2).bind λq=>(bY e.Kids 2).bind λy=>(a y q x.2).bind λi=>O (i.1,i.2) else if(e.Op==9)then (zr a e h b).bind λm=>O (m.1,m.2) else if(e.Op==6)then (Fd a e h b).bind λn=>O (n.1,n.2) else if(e.Op==25)then (ac ([Wn]:V ae) h b).bind λr=>(aH e.Name Z r b).bind λc=>(ac ([bZ]:V ae) c.1 c.2).bind λs=>(XK e.Kids N (O (cz ((e.Kids.length:Int) - 1)))).bind λp=>(gS a p s c.2).bind λd=>(ac ([rG]:V ae) d.1 d.2).bind λt=>(bY e.Kids (cz ((e.Kids.length:Int) - 1))).bind λz=>(a z t d.2).bind λo=>O (o.1,o.2) else O (h,b)
def Uz(b:bG)(a:da b){e:aj}{S:ae}{y:K}:OG 118 [.bptr 0 0,.agg (ak e)] [] [.cells [.str S,.bool y] []] (qw b e S y) (λr=>.tuple []) [] (λr=>[.cells [.str r.1,.bool r.2] []]):=qxq.g 1<|te (cd e)<|tw (ba e)<|tF (tb λr2 z=>tv (aK e)<|tc [0] (Uy b a _ z)<|tE)<|tF (tb λr4 A=>tb λx5 H=>tb λr6 B=>tb λr7 E=>tb λx8 L=>tb λr9 F=>tb λa0 d=>tb λP w=>tb λa1 h=>tv (aP [qae] 1 rfl)<|tc [0] (ai _ A)<|tw (au e)<|tv (dO.ia H)<|tv (aK x5)<|tc [0] (a _ _ _ _ B)<|tv (aP [Es] 1 rfl)<|tc [0] (ai _ E)<|tw (au e)<|tv (dO.ia L)<|tv (aK x8)<|tc [0] (a _ _ _ _ F)<|tv (aP [Er] 1 rfl)<|tc [0] (ai _ d)<|tw (au e)<|tv (dO.ia w)<|tv (aK P)<|tc [0] (a _ _ _ _ h)<|tE)<|tF (tb λa2 i=>tv (aK e)<|tc [0] (RC b a _ i)<|tE)<|tF (tb λa3 m=>tv (aK e)<|tc [0] (Ux b a _ m)<|tE)<|tF (tb λa4 n=>tb λa5 o=>tb λa6 p=>tb λX c=>tb λa7 q=>tb λa8 s=>tb λR x=>tb λa9 t=>tv (aP [Wn] 1 rfl)<|tc [0] (ai _ n)<|tw (bX e)<|tc [0] (aT _ o)<|tv (aP [bZ] 1 rfl)<|tc [0] (ai _ p)<|tw (au e)<|tw (au e)<|bz (dO.ln e.Kids)<|tv (dO.sc c)<|tc [0] (j3 b a _ q)<|tv (aP [rG] 1 rfl)<|tc [0] (ai _ s)<|tw (au e)<|tw (au e)<|bz (dO.ln e.Kids)<|tv (dO.ia x)<|tv (aK R)<|tc [0] (a _ _ _ _ t)<|tE)<|tE
noncomputable def qtf:W:=f173.body.getD .skip
def qsQ:ZF Pg [8,30] 173 f173 qtf:=zf call173 func173 rfl mixed
section
variable(n:Int)(s:ae)(m d:Int)
def Ow:Q Int:=if Y (d<0)then O (IntKind.i64.wrap (0 - d)) else O d
def qah:OU 0 (cA qtf 7926) (Ow d) .normal (λo=>[(5,.i6 o)]) (aM 31 [(0,.i6 n),(3,.str s),(4,.i6 m),(5,.i6 d)] [] []):=qsQ.j<|tF tE<|tE
end
section
variable(n:Int)(s:ae)(m:Int)
def Sm:aF:=aM 31 [(0,.i6 n),(3,.str s),(4,.i6 m)] [] []
def qc3(o:ae):aF:=aM 31 [(0,.i6 n),(3,.str o)] [] []
def oX:Q ((ae×Int)⊕(ae)):=if(m !=0)then (re m 10).bind λb=>(Ow b).bind λa=>(j6 ([IntKind.u8.wrap (cz (48+a))]:V Int)).bind λd=>(UT d s).bind λe=>(qu .i64 m 10).bind λc=>O (.inl (e,c)) else O (.inr s)
def AO:Q ae:=loop (λ(a:ae×Int)=>oX a.1 a.2) (s,m)
def Yx:OL 0 (cA qtf 247) (oX s m) (λ(i:ae×Int)=>Sm n i.1 i.2) (λ_=>.exit 0) (qc3 n) (Sm n s m):=qsQ.l<|
 tF (tb λo b=>tb λh a=>tb λq d=>tb λr e=>tb λp c=>tv (X4 (P:=Pg) (t:=3) (k:=.i64) b)<|ey 0<|bJ (qah n s m o _ a)<|tv (qCA underlying3 underlying5 (cz (48+h)))<|tv (qt7.mk' (v:=(PVal.int .u8)) (qA6 .u8) ([IntKind.u8.wrap (cz (48+h))]:V Int) 1 (by kernel_rfl))<|tv (qCz underlying72 underlying9 underlying5 d)<|tv (iO (P:=Pg) (t:=9) e)<|tv (X3 (P:=Pg) (t:=3) c)<|tE)<|tE
def qai:=nu (s:=(s,m)) λa=>Yx n a.1 a.2
end
def Ov(n:Int):Q ae:=if(n==0)then O ([48]:ae) else (AO ([]:ae) n).bind λb=>if Y (n<0)then (UT ([45]:ae) b).bind λa=>O a else O b
def XX{n:Int}:OV 173 [.i6 n] (Ov n) (λr=>.str r) []:=qsQ.v<|tF tE<|tb λd b=>bJ (qai n ([]:ae) n _ b)<|tF (tb λc a=>tv (iO (P:=Pg) (t:=9) a)<|tE)<|tE
noncomputable def qvF:W:=f174.body.getD .skip
def qu6:ZF Pg [16] 174 f174 qvF:=zf call174 func174 rfl mixed
section
variable(b:oy)(c a:Int)(m:ae)(m2:K)
def pn:aF:=aM 29 [(0,.bptr 0 0),(12,sl al b),(13,.i6 c),(14,.i6 a)] [.cells [.str m,.bool m2] []] []
def yW(o:ae×K):aF:=aM 29 [(0,.bptr 0 0)] [.cells [.str o.1,.bool o.2] []] []
instance qDM:KS 1 (pn b c a m m2):=ks 1 rfl
instance qDE{o:ae×Bool}:KS 1 (yW o):=ks 1 rfl
def yV:Q ((Int×ae×K)⊕(ae×K)):=if Y (a<c)then (bY b a).bind λh=>(cC a m m2).bind λe=>(dH h e m2).bind λd=>O (.inl (cz (a+1),d.2,d.1)) else O (.inr (m,m2))
def C9:Q (ae×K):=loop (λ(d:Int×ae×K)=>yV b c d.1 d.2.1 d.2.2) (a,m,m2)
def JG:OL 1 (cA qvF 119) (yV b c a m m2) (λ(n:Int×ae×K)=>pn b c n.1 n.2.1 n.2.2) (λ_=>.exit 0) yW (pn b c a m m2):=qu6.lx<|tF (tb λi h=>tb λo d=>tb λp e=>tv (cQ.ia h)<|tv (cc i)<|tx RZ<|tx (ij i)<|tc [0] (cx _ d)<|tv (eK i [])<|tc [0] (fA _ e)<|tE)<|tE
def Lz:=nu (s:=(a,m,m2)) λd=>JG b c d.1 d.2.1 d.2.2
end
def rO(a:oy)(d:ae)(b:K):Q (ae×K):=if((a.length:Int)==0)then O (d,b) else (ac ([qlx]:V ae) d b).bind λe=>(C9 a (a.length:Int) 0 e b).bind λc=>(ac ([qly]:V ae) c.1 c.2).bind λh=>O (h,c.2)
def RF{a:oy}{h:ae}{b:K}:OG 174 [.bptr 0 0,sl al a] [] [.cells [.str h,.bool b] []] (rO a h b) (λr=>.tuple []) [] (λr=>[.cells [.str r.1,.bool r.2] []]):=qu6.g 1<|bz (cQ.ln a)<|tF tE<|tb λi d=>tb λm c=>tb λn e=>tv (aP [qlx] 1 rfl)<|tc [0] (ai _ d)<|bz (cQ.ln a)<|bJ (Lz a (a.length:Int) 0 i b _ c)<|tv (aP [qly] 1 rfl)<|tc [0] (ai _ e)<|tE
noncomputable def qvv:W:=f119.body.getD .skip
def quP:ZF Pg [] 119 f119 qvv:=zf call119 func119 rfl mixed
section
variable(e:aj)(a:Int)(m:ae)(m2:K)
def e8:Q K:=if(a==4)then O (a==4) else O (a==5)
def NJ:OU 1 (cA qvv 2046) (e8 a) .normal (λo=>[(40,.bool o)]) (aM 112 [(0,.bptr 0 0),(3,.eptr (ak e)),(5,.i6 a)] [.cells [.str m,.bool m2] [],.dead] []):=quP.j<|tF tE<|tE
end
def ew(b:bG)(e:aj)(c:ae)(a:K):Q (ae×K):=if(e.Op==1)then if Y (e.N<0)then (Ov e.N).bind λH=>(ac ([dl,H,dM]:V ae) c a).bind λL=>O (L,a) else (Ov e.N).bind λP=>(ac ([P]:V ae) c a).bind λR=>O (R,a) else if(e.Op==2)then if(e.N==1)then (ac ([yB]:V ae) c a).bind λS=>O (S,a) else (ac ([Iw]:V ae) c a).bind λt=>O (t,a) else if(e.Op==3)then (aH e.Name Z c a).bind λm=>O (m.1,m.2) else (e8 e.Op).bind λs=>if s then (aH e.Name (e.Op==4) c a).bind λn=>(rO e.Types n.1 n.2).bind λd=>if Y ((e.Kids.length:Int)>0)then (gS b e.Kids d.1 d.2).bind λo=>O (o.1,o.2) else O (d.1,d.2) else if(e.Op==22)then (ac ([qlA]:V ae) c a).bind λw=>(gS b e.Kids w a).bind λp=>O (p.1,p.2) else if(e.Op==23)then (ac ([qlz]:V ae) c a).bind λx=>(gS b e.Kids x a).bind λq=>O (q.1,q.2) else if(e.Op==24)then (ac ([qlB]:V ae) c a).bind λy=>(gS b e.Kids y a).bind λr=>O (r.1,r.2) else if(e.Op==26)then (ac ([dl]:V ae) c a).bind λz=>(bY e.Kids 0).bind λE=>(b E z a).bind λh=>(ac ([bm]:V ae) h.1 h.2).bind λA=>(bY e.Types 0).bind λF=>(dH F A h.2).bind λi=>(ac ([dM]:V ae) i.2 i.1).bind λB=>O (B,i.1) else O (c,a)
def S8(b:bG)(a:da b){e:aj}{k0:ae}{c:K}:OG 119 [.bptr 0 0,.agg (ak e)] [] [.cells [.str k0,.bool c] []] (ew b e k0 c) (λr=>.tuple []) [] (λr=>[.cells [.str r.1,.bool r.2] []]):=quP.g 1<|te (cd e)<|tw (ba e)<|tF (tw (bE e)<|tF (tb λr3 L=>tb λr4 P=>tw (bE e)<|bQ (XX _ L)<|tv (aP [dl,r3,dM] 3 rfl)<|tc [0] (ai _ P)<|tE)<|tb λr5 R=>tb λr6 S=>tw (bE e)<|bQ (XX _ R)<|tv (aP [r5] 1 rfl)<|tc [0] (ai _ S)<|tE)<|tF (tw (bE e)<|tF (tb λr9 X=>tv (aP [yB] 1 rfl)<|tc [0] (ai _ X)<|tE)<|tb λa3 h=>tv (aP [Iw] 1 rfl)<|tc [0] (ai _ h)<|tE)<|tF (tb λa4 i=>tw (bX e)<|tc [0] (aT _ i)<|tE)<|tb λa2 d=>ey 0<|bJ (NJ e e.Op k0 c _ d)<|tF (tb λa5 m=>tb λa6 n=>tw (bX e)<|tw (ba e)<|tc [0] (aT _ m)<|tw (aw e)<|tc [0] (RF _ n)<|tw (au e)<|bz (dO.ln e.Kids)<|tF (tb λa7 o=>tw (au e)<|tc [0] (j3 b a _ o)<|tE)<|tE)<|tF (tb λa8 p=>tb λa9 q=>tv (aP [qlA] 1 rfl)<|tc [0] (ai _ p)<|tw (au e)<|tc [0] (j3 b a _ q)<|tE)<|tF (tb λab s=>tb λad t=>tv (aP [qlz] 1 rfl)<|tc [0] (ai _ s)<|tw (au e)<|tc [0] (j3 b a _ t)<|tE)<|tF (tb λan w=>tb λao x=>tv (aP [qlB] 1 rfl)<|tc [0] (ai _ w)<|tw (au e)<|tc [0] (j3 b a _ x)<|tE)<|tF (tb λar y=>tb λa0 F=>tb λb0 z=>tb λb1 A=>tb λa1 H=>tb λb2 B=>tb λb3 E=>tv (aP [dl] 1 rfl)<|tc [0] (ai _ y)<|tw (au e)<|tv (dO.ia F)<|tv (aK a0)<|tc [0] (a _ _ _ _ z)<|tv (aP [bm] 1 rfl)<|tc [0] (ai _ A)<|tw (aw e)<|tv (cQ.ia H)<|tv (cc a1)<|tc [0] (fA _ B)<|tv (aP [dM] 1 rfl)<|tc [0] (ai _ E)<|tE)<|tE
noncomputable def qy0:W:=f176.body.getD .skip
def qxQ:ZF Pg [] 176 f176 qy0:=zf call176 func176 rfl mixed
def j2(a:bG)(e:aj)(c:Int)(h:ae)(b:K):Q (ae×K):=(JH e).bind λm=>if Y (m<c)then (ac ([dl]:V ae) h b).bind λn=>(a e n b).bind λd=>(ac ([dM]:V ae) d.1 d.2).bind λo=>O (o,d.2) else (a e h b).bind λi=>O (i.1,i.2)
def pM(c:bG)(a:da c){e:aj}{b:Int}{p:ae}{d:K}:OG 176 [.bptr 0 0,.agg (ak e),.i6 b] [] [.cells [.str p,.bool d] []] (j2 c e b p d) (λr=>.tuple []) [] (λr=>[.cells [.str r.1,.bool r.2] []]):=qxQ.g 1<|tb λq h=>te (cd e)<|tv (aK e)<|bQ (UF _ h)<|tF (tb λs i=>tb λt m=>tb λw n=>tv (aP [dl] 1 rfl)<|tc [0] (ai _ i)<|tv (aK e)<|tc [0] (a _ _ _ _ m)<|tv (aP [dM] 1 rfl)<|tc [0] (ai _ n)<|tE)<|tb λx o=>tv (aK e)<|tc [0] (a _ _ _ _ o)<|tE
noncomputable def qyZ:W:=f175.body.getD .skip
def qxP:ZF Pg [] 175 f175 qyZ:=zf call175 func175 rfl mixed
def dG(a:bG)(e:aj)(b:ae)(left right:Int)(i:ae)(c:K):Q (ae×K):=(bY e.Kids 0).bind λn=>(j2 a n left i c).bind λd=>(ac ([bZ,b,bZ]:V ae) d.1 d.2).bind λm=>(bY e.Kids 1).bind λo=>(j2 a o right m d.2).bind λh=>O (h.1,h.2)
def d6(a:bG)(b:da a){e:aj}{c:ae}{left right:Int}{p:ae}{d:K}:OG 175 [.bptr 0 0,.agg (ak e),.str c,.i6 left,.i6 right] [] [.cells [.str p,.bool d] []] (dG a e c left right p d) (λr=>.tuple []) [] (λr=>[.cells [.str r.1,.bool r.2] []]):=qxP.g 1<|tb λq n=>tb λt h=>tb λw i=>tb λs o=>tb λx m=>te (cd e)<|tw (au e)<|tv (dO.ia n)<|tv (aK q)<|tc [0] (pM a b _ h)<|tv (aP [bZ,c,bZ] 3 rfl)<|tc [0] (ai _ i)<|tw (au e)<|tv (dO.ia o)<|tv (aK s)<|tc [0] (pM a b _ m)<|tE
noncomputable def qyC:W:=f120.body.getD .skip
def qxr:ZF Pg [] 120 f120 qyC:=zf call120 func120 rfl mixed
def cb(a:bG)(e:aj)(c:ae)(b:K):Q (ae×K):=if(e.Op==20)then (dG a e yA 1 2 c b).bind λz=>O (z.1,z.2) else if(e.Op==19)then (dG a e yx 2 3 c b).bind λA=>O (A.1,A.2) else if(e.Op==21)then (qy e).bind λE=>if E then (bY e.Kids 0).bind λF=>(dG a F yw 5 5 c b).bind λB=>O (B.1,B.2) else (ac ([QO]:V ae) c b).bind λt=>(bY e.Kids 0).bind λx=>(j2 a x 3 t b).bind λd=>O (d.1,d.2) else if(e.Op==16)then (dG a e qcY 5 5 c b).bind λh=>O (h.1,h.2) else if(e.Op==17)then (dG a e KW 5 5 c b).bind λi=>O (i.1,i.2) else if(e.Op==18)then (dG a e yy 5 5 c b).bind λm=>O (m.1,m.2) else if(e.Op==10)then (dG a e Wi 5 6 c b).bind λn=>O (n.1,n.2) else if(e.Op==11)then (dG a e wn 5 6 c b).bind λo=>O (o.1,o.2) else if(e.Op==12)then (dG a e Wh 6 7 c b).bind λp=>O (p.1,p.2) else if(e.Op==13)then (dG a e qp4 6 7 c b).bind λq=>O (q.1,q.2) else if(e.Op==14)then (dG a e qp5 6 7 c b).bind λr=>O (r.1,r.2) else if(e.Op==15)then (ac ([wn]:V ae) c b).bind λw=>(bY e.Kids 0).bind λy=>(j2 a y 7 w b).bind λs=>O (s.1,s.2) else O (c,b)
def JF(b:bG)(a:da b){e:aj}{R:ae}{z:K}:OG 120 [.bptr 0 0,.agg (ak e)] [] [.cells [.str R,.bool z] []] (cb b e R z) (λr=>.tuple []) [] (λr=>[.cells [.str r.1,.bool r.2] []]):=qxr.g 1<|te (cd e)<|tw (ba e)<|tF (tb λr2 A=>tv (aK e)<|tc [0] (d6 b a _ A)<|tE)<|tF (tb λr4 B=>tv (aK e)<|tc [0] (d6 b a _ B)<|tE)<|tF (tb λr6 E=>tv (aK e)<|bQ (PU _ E)<|tF (tb λx8 H=>tb λr9 F=>tw (au e)<|tv (dO.ia H)<|tv (aK x8)<|tc [0] (d6 b a _ F)<|tE)<|tb λS c=>tb λL x=>tb λX d=>tv (aP [QO] 1 rfl)<|tc [0] (ai _ c)<|tw (au e)<|tv (dO.ia x)<|tv (aK L)<|tc [0] (pM b a _ d)<|tE)<|tF (tb λa0 h=>tv (aK e)<|tc [0] (d6 b a _ h)<|tE)<|tF (tb λa1 i=>tv (aK e)<|tc [0] (d6 b a _ i)<|tE)<|tF (tb λa2 m=>tv (aK e)<|tc [0] (d6 b a _ m)<|tE)<|tF (tb λa3 n=>tv (aK e)<|tc [0] (d6 b a _ n)<|tE)<|tF (tb λa4 o=>tv (aK e)<|tc [0] (d6 b a _ o)<|tE)<|tF (tb λa5 p=>tv (aK e)<|tc [0] (d6 b a _ p)<|tE)<|tF (tb λa6 q=>tv (aK e)<|tc [0] (d6 b a _ q)<|tE)<|tF (tb λa7 s=>tv (aK e)<|tc [0] (d6 b a _ s)<|tE)<|tF (tb λa8 t=>tb λP y=>tb λa9 w=>tv (aP [wn] 1 rfl)<|tc [0] (ai _ t)<|tw (au e)<|tv (dO.ia y)<|tv (aK P)<|tc [0] (pM b a _ w)<|tE)<|tE
noncomputable def qCi:W:=f66.body.getD .skip
def qBI:ZF Pg [] 66 f66 qCi:=zf call66 func66 rfl mixed
def iT(a:bG)(e:aj)(c:ae)(b:K):Q (ae×K):=if b then O (c,b) else (JH e).bind λd=>if(d==0)then (qw a e c b).bind λh=>O (h.1,h.2) else if(d==8)then (ew a e c b).bind λi=>O (i.1,i.2) else (cb a e c b).bind λm=>O (m.1,m.2)
def RB(a:bG)(b:da a){e:aj}{n:ae}{c:K}:OG 66 [.bptr 0 0,.agg (ak e)] [] [.cells [.str n,.bool c] []] (iT a e n c) (λr=>.tuple []) [] (λr=>[.cells [.str r.1,.bool r.2] []]):=qBI.g 1<|te (cd e)<|ts<|tF tE<|tb λo d=>tv (aK e)<|bQ (UF _ d)<|tF (tb λp h=>tv (aK e)<|tc [0] (Uz a b _ h)<|tE)<|tF (tb λq i=>tv (aK e)<|tc [0] (S8 a b _ i)<|tE)<|tb λs m=>tv (aK e)<|tc [0] (JF a b _ m)<|tE
def gu:((aj×ae×K)->Q (ae×K))->(aj×ae×K)->Q (ae×K):=λ(rec:(aj×ae×K)->Q (ae×K)) (x:aj×ae×K)=>iT (λe b a=>rec (e,b,a)) x.1 x.2.1 x.2.2
def uS(e:aj)(b:ae)(a:K):Q (ae×K):=rT gu (e,b,a)
def Ta{e:aj}{c:ae}{a:K}:OG 66 [.bptr 0 0,.agg (ak e)] [] [.cells [.str c,.bool a] []] (uS e c a) (λr=>.tuple []) [] (λr=>[.cells [.str r.1,.bool r.2] []]):=qkZ λ_ h=>d7 (F:=gu) (M:=λ(x:aj×ae×K) (r:ae×K)=>C Pg GE 66 [.bptr 0 0,.agg (ak x.1)] [] [.cells [.str x.2.1,.bool x.2.2] []] (.tuple []) [] [.cells [.str r.1,.bool r.2] []]) (λrec b x r h=>RB _ (λe c a=>qkZ λr h=>b (e,c,a) r h) _ h) h
noncomputable def qB5:W:=f28.body.getD .skip
def qBv:ZF Pg [] 28 f28 qB5:=zf call28 func28 rfl mixed
def mL(e:aj)(b:ae)(a:K):Q (ae×K):=(Ez e).bind λd=>(bv (d==0) b a).bind λh=>(uS e b h).bind λc=>O (c.1,c.2)
def RG{e:aj}{h:ae}{a:K}:OG 28 [.bptr 0 0,.agg (ak e)] [] [.cells [.str h,.bool a] []] (mL e h a) (λr=>.tuple []) [] (λr=>[.cells [.str r.1,.bool r.2] []]):=qBv.g 1<|tb λi b=>tb λm c=>tb λn d=>te (cd e)<|tv (aK e)<|bQ (qfq _ b)<|tc [0] (aY _ c)<|tv (aK e)<|tc [0] (Ta _ d)<|tE
noncomputable def quy:W:=f46.body.getD .skip
def quv:ZF Pg [] 46 f46 quy:=zf call46 func46 rfl mixed
section
variable(d:d5)(m:ae)(m2:K)
def wQ:Q K:=if Y (d.Mode>=0)then if Y (d.Mode<=2)then if(d.Mode==0)then (bv T m m2).bind λb=>O b else (bv d.Typed m m2).bind λc=>O c else (bv Z m m2).bind λe=>O e else (bv Z m m2).bind λa=>O a
def Py:OJ 1 (cA quy 6) (wQ d m m2) .normal (λo=>aM 85 [(0,.bptr 0 0),(3,.eptr (aV d))] [.cells [.str m,.bool o] [],.dead] []) (aM 85 [(0,.bptr 0 0),(3,.eptr (aV d))] [.cells [.str m,.bool m2] [],.dead] []):=quv.j<|
 have b:=λ{X z A} (r:PV _ X z A)=>tw (eU d)<|r;tf (λp=>have c:=λ{X z A} (r:PV _ X z A)=>b<|tg 5 p<|tw (eU d)<|r;tf (λq=>have e:=λ{X z A} (r:PV _ X z A)=>c<|tg 10 q<|tw (eU d)<|r;tf (λs=>tb λw h=>e<|tg 14 s<|tc [0] (aY _ h)<|tE) λs=>tb λx i=>e<|tg 14 s<|tw (pY d)<|tc [0] (aY _ i)<|tE) λq=>tb λy n=>c<|tg 10 q<|tc [0] (aY _ n)<|tE) λp=>tb λt a=>b<|tg 5 p<|tc [0] (aY _ a)<|tE
end
section
variable(d:d5)(m:ae)(m2:K)
def wR:Q K:=if(d.Mode !=1)then (bv T m m2).bind λa=>O a else (qaR d.Body (⟨0,[],0,[],[],[],[]⟩:aj)).bind λb=>(bv b m m2).bind λc=>O c
def Pz:OJ 1 (cA quy 14) (wR d m m2) .normal (λo=>aM 85 [(0,.bptr 0 0),(3,.eptr (aV d))] [.cells [.str m,.bool o] [],.dead] []) (aM 85 [(0,.bptr 0 0),(3,.eptr (aV d))] [.cells [.str m,.bool m2] [],.dead] []):=quv.j<|
 have a:=λ{X q s} (r:PV _ X q s)=>tw (eU d)<|r;tf (λb=>tb λi c=>a<|tg 5 b<|tc [0] (aY _ c)<|tE) λb=>tb λn e=>tb λp h=>a<|tg 5 b<|tw (i7 d)<|Yv (LM) (LL)<|bQ (qhr _ e)<|tc [0] (aY _ h)<|tE
end
section
variable(d:d5)(m:ae)(m2:K)
def wS:Q ae:=if(d.Mode==0)then (ac ([Wk]:V ae) m m2).bind λa=>O a else if(d.Mode==1)then (ac ([Iv]:V ae) m m2).bind λb=>O b else if(d.Mode==2)then (ac ([Et]:V ae) m m2).bind λc=>O c else O m
def PA:OJ 1 (cA quy 30) (wS d m m2) .normal (λo=>aM 85 [(0,.bptr 0 0),(3,.eptr (aV d))] [.cells [.str o,.bool m2] [],.dead] []) (aM 85 [(0,.bptr 0 0),(3,.eptr (aV d))] [.cells [.str m,.bool m2] [],.dead] []):=quv.j<|tw (eU d)<|tF (tb λe a=>tv (aP [Wk] 1 rfl)<|tc [0] (ai _ a)<|tE)<|tF (tb λh b=>tv (aP [Iv] 1 rfl)<|tc [0] (ai _ b)<|tE)<|tF (tb λi c=>tv (aP [Et] 1 rfl)<|tc [0] (ai _ c)<|tE)<|tE
end
section
variable(d:d5)(m:ae)(m2:K)
def wT:Q (ae×K):=if Y ((d.Params.length:Int)>0)then (ac ([bZ]:V ae) m m2).bind λb=>(fY d.Params b m2).bind λa=>O (a.1,a.2) else O (m,m2)
def PB:OJ 1 (cA quy 126) (wT d m m2) .normal (λo=>aM 85 [(0,.bptr 0 0),(3,.eptr (aV d))] [.cells [.str o.1,.bool o.2] [],.dead] []) (aM 85 [(0,.bptr 0 0),(3,.eptr (aV d))] [.cells [.str m,.bool m2] [],.dead] []):=quv.j<|tw (pX d)<|bz (dX.ln d.Params)<|tF (tb λc a=>tb λe b=>tv (aP [bZ] 1 rfl)<|tc [0] (ai _ a)<|tw (pX d)<|tc [0] (sP _ b)<|tE)<|tE
end
section
variable(d:d5)(m:ae)(m2:K)
def lc:Q (ae×K):=if d.Typed then (ac ([bm]:V ae) m m2).bind λb=>(wY d.Sig b m2).bind λa=>O (a.1,a.2) else O (m,m2)
def PC:OJ 1 (cA quy 254) (lc d m m2) .normal (λo=>aM 85 [(0,.bptr 0 0),(3,.eptr (aV d))] [.cells [.str o.1,.bool o.2] [],.dead] []) (aM 85 [(0,.bptr 0 0),(3,.eptr (aV d))] [.cells [.str m,.bool m2] [],.dead] []):=quv.j<|tw (pY d)<|tF (tb λc a=>tb λe b=>tv (aP [bm] 1 rfl)<|tc [0] (ai _ a)<|tw (Fw d)<|tc [0] (UA _ b)<|tE)<|tE
end
def mI(d:d5)(i:ae)(m:K):Q (ae×K):=(wQ d i m).bind λn=>(wR d i n).bind λb=>(wS d i b).bind λo=>(aH d.Name Z o b).bind λe=>(wT d e.1 e.2).bind λc=>(lc d c.1 c.2).bind λa=>if(d.Mode !=1)then (ac ([ed]:V ae) a.1 a.2).bind λp=>(mL d.Body p a.2).bind λh=>O (h.1,h.2) else O (a.1,a.2)
def wU{d:d5}{p:ae}{a:K}:OG 46 [.bptr 0 0,.agg (aV d)] [] [.cells [.str p,.bool a] []] (mI d p a) (λr=>.tuple []) [] (λr=>[.cells [.str r.1,.bool r.2] []]):=quv.g 1<|tb λt b=>tb λw c=>tb λx e=>tb λs m=>tb λq h=>tb λy i=>te (Re d)<|ey 0<|bJ (Py d p a _ b)<|ey 0<|bJ (Pz d p t _ c)<|ey 0<|bJ (PA d p w _ e)<|tw (JR d)<|tc [0] (aT _ m)<|ey 0<|bJ (PB d s.1 s.2 _ h)<|ey 0<|bJ (PC d q.1 q.2 _ i)<|tw (eU d)<|tF (tb λz n=>tb λA o=>tv (aP [ed] 1 rfl)<|tc [0] (ai _ n)<|tw (i7 d)<|tc [0] (RG _ o)<|tE)<|tE
noncomputable def qzx:W:=f43.body.getD .skip
def qyn:ZF Pg [] 43 f43 qzx:=zf call43 func43 rfl mixed
section
variable(v:cW)(m:ae)(m2:K)
def gv:Q (ae×K):=if Y ((v.Needs.length:Int)>0)then (ac ([AN]:V ae) m m2).bind λb=>(mK v.Needs b m2).bind λa=>O (a.1,a.2) else O (m,m2)
def Gz:OJ 1 (cA qzx 126) (gv v m m2) .normal (λo=>aM 56 [(0,.bptr 0 0),(3,.eptr (aX v))] [.cells [.str o.1,.bool o.2] [],.dead] []) (aM 56 [(0,.bptr 0 0),(3,.eptr (aX v))] [.cells [.str m,.bool m2] [],.dead] []):=qyn.j<|tw (i8 v)<|bz (qgX.ln v.Needs)<|tF (tb λc a=>tb λd b=>tv (aP [AN] 1 rfl)<|tc [0] (ai _ a)<|tw (i8 v)<|tc [0] (CZ _ b)<|tE)<|tE
end
section
variable(b:waH)(c a:Int)(m:ae)(m2:K)
def lO:aF:=aM 56 [(0,.bptr 0 0),(35,sl aV b),(36,.i6 c),(37,.i6 a)] [.cells [.str m,.bool m2] [],.dead] []
def uc(o:ae×K):aF:=aM 56 [(0,.bptr 0 0)] [.cells [.str o.1,.bool o.2] [],.dead] []
instance qDn:KS 1 (lO b c a m m2):=ks 2 rfl
instance qDf{o:ae×Bool}:KS 1 (uc o):=ks 2 rfl
def fE:Q ((Int×ae×K)⊕(ae×K)):=if Y (a<c)then (bY b a).bind λe=>(bv (e.Mode==0) m m2).bind λh=>(mI e m h).bind λd=>(ac ([rH]:V ae) d.1 d.2).bind λi=>O (.inl (cz (a+1),i,d.2)) else O (.inr (m,m2))
def wW:Q (ae×K):=loop (λ(d:Int×ae×K)=>fE b c d.1 d.2.1 d.2.2) (a,m,m2)
def Fc:OL 1 (cA qzx 4087) (fE b c a m m2) (λ(o:Int×ae×K)=>lO b c o.1 o.2.1 o.2.2) (λ_=>.exit 0) uc (lO b c a m m2):=qyn.lx<|tF (tb λd n=>tb λp e=>tb λq h=>tb λr i=>tv (R6.ia n)<|tv (Ao d)<|tx qpk<|tx (Qn d)<|ts<|tc [0] (aY _ e)<|tv (Qf d [])<|tc [0] (wU _ h)<|tv (aP [rH] 1 rfl)<|tc [0] (ai _ i)<|tE)<|tE
def GA:=nu (s:=(a,m,m2)) λd=>Fc b c d.1 d.2.1 d.2.2
end
def mi(a:cW)(m:ae)(c:K):Q (ae×K):=(ac ([Rr]:V ae) m c).bind λn=>(aH a.Class T n c).bind λh=>(ac ([bZ]:V ae) h.1 h.2).bind λo=>(ig dH a.Type_ o h.2).bind λi=>(gv a i.1 i.2).bind λd=>(ac ([jW]:V ae) d.1 d.2).bind λp=>(wW a.Defs (a.Defs.length:Int) 0 p d.2).bind λb=>(ac ([Iu]:V ae) b.1 b.2).bind λe=>O (e,b.2)
def Lp{a:cW}{p:ae}{d:K}:OG 43 [.bptr 0 0,.agg (aX a)] [] [.cells [.str p,.bool d] []] (mi a p d) (λr=>.tuple []) [] (λr=>[.cells [.str r.1,.bool r.2] []]):=qyn.g 1<|tb λy h=>tb λz i=>tb λA m=>tb λq n=>tb λt e=>tb λx o=>tb λs b=>tb λw c=>te (Vu a)<|tv (aP [Rr] 1 rfl)<|tc [0] (ai _ h)<|tw (yY a)<|tc [0] (aT _ i)<|tv (aP [bZ] 1 rfl)<|tc [0] (ai _ m)<|tw (n5 a)<|tc [0] (C1 dH (λ_ _ _=>fA) _ n)<|ey 0<|bJ (Gz a q.1 q.2 _ e)<|tv (aP [jW] 1 rfl)<|tc [0] (ai _ o)<|tw (vW a)<|bz (R6.ln a.Defs)<|bJ (GA a.Defs (a.Defs.length:Int) 0 x t.2 _ b)<|tv (aP [Iu] 1 rfl)<|tc [0] (ai _ c)<|tE
noncomputable def qw7:W:=f44.body.getD .skip
def qw2:ZF Pg [41] 44 f44 qw7:=zf call44 func44 rfl mixed
section
variable(v:dq)(i:Int)(a:V BM)(b:Int)(m:ae)(m2:K)(c:ae)(d:waA)(e:Int)(h:ae)(n:Int)(p:pi)
def yO:Q ae:=if Y (i>0)then (ac ([rH]:V ae) m m2).bind λo=>O o else O m
def IL:OJ 1 (cA qw7 1048054) (yO i m m2) .normal (λo=>aM 86 [(0,.bptr 0 0),(3,.eptr (aZ v)),(5,.bptr 2 0),(37,sl eE a),(38,.i6 b),(39,.i6 i)] [.cells [.str o,.bool m2] [],.dead,.cells [.str c,sl cS d,.i6 e,.str h,.i6 n,sl ag p] []] []) (aM 86 [(0,.bptr 0 0),(3,.eptr (aZ v)),(4,.i6 i),(5,.bptr 2 0),(37,sl eE a),(38,.i6 b),(39,.i6 i)] [.cells [.str m,.bool m2] [],.dead,.cells [.str c,sl cS d,.i6 e,.str h,.i6 n,sl ag p] []] []):=qw2.j<|tF (tb λr q=>tv (aP [rH] 1 rfl)<|tc [0] (ai _ q)<|tE)<|tE
end
section
variable(v:dq)(b:V BM)(c d:Int)(m:ae)(m2:K)(e:ae)(a:waA)(h:Int)(i:ae)(n:Int)(p:pi)
def yP:Q (ae×K):=if Y ((a.length:Int)>0)then (ac ([bZ]:V ae) m m2).bind λq=>(fY a q m2).bind λo=>O (o.1,o.2) else O (m,m2)
def IM:OJ 1 (cA qw7 4192222) (yP m m2 a) .normal (λo=>aM 86 [(0,.bptr 0 0),(3,.eptr (aZ v)),(5,.bptr 2 0),(37,sl eE b),(38,.i6 c),(39,.i6 d)] [.cells [.str o.1,.bool o.2] [],.dead,.cells [.str e,sl cS a,.i6 h,.str i,.i6 n,sl ag p] []] []) (aM 86 [(0,.bptr 0 0),(3,.eptr (aZ v)),(5,.bptr 2 0),(37,sl eE b),(38,.i6 c),(39,.i6 d)] [.cells [.str m,.bool m2] [],.dead,.cells [.str e,sl cS a,.i6 h,.str i,.i6 n,sl ag p] []] []):=qw2.j<|ts<|bz (dX.ln a)<|tF (tb λs q=>tb λt r=>tv (aP [bZ] 1 rfl)<|tc [0] (ai _ q)<|ts<|tc [0] (sP _ r)<|tE)<|tE
end
section
variable(v:dq)(b:V BM)(c a:Int)(m:ae)(m2:K)
def mJ:aF:=aM 86 [(0,.bptr 0 0),(3,.eptr (aZ v)),(37,sl eE b),(38,.i6 c),(39,.i6 a)] [.cells [.str m,.bool m2] [],.dead] []
def vT(o:ae×K):aF:=aM 86 [(0,.bptr 0 0),(3,.eptr (aZ v))] [.cells [.str o.1,.bool o.2] [],.dead] []
instance qDv:KS 1 (mJ v b c a m m2):=ks 2 rfl
instance qDt{o:ae×Bool}:KS 1 (vT v o):=ks 2 rfl
def vS:Q ((Int×ae×K)⊕(ae×K)):=if Y (a<c)then (bY b a).bind λe=>(yO a m m2).bind λn=>(aH e.Con T n m2).bind λh=>(yP h.1 h.2 e.Names).bind λd=>(ac ([ed]:V ae) d.1 d.2).bind λo=>(cj e.Body o d.2).bind λi=>O (.inl (cz (a+1),i.1,i.2)) else O (.inr (m,m2))
def kr:Q (ae×K):=loop (λ(d:Int×ae×K)=>vS b c d.1 d.2.1 d.2.2) (a,m,m2)
def GB:OL 1 (cA qw7 16375) (vS b c a m m2) (λ(r:Int×ae×K)=>mJ v b c r.1 r.2.1 r.2.2) (λ_=>.exit 0) (vT v) (mJ v b c a m m2):=qw2.lx<|tF (tb λd p=>tb λs e=>tb λq i=>tb λt h=>tb λw n=>tb λx o=>tv (qeX.ia p)<|tv (qih d)<|tx qst<|tx (qeG d)<|ey 0<|bJ (IL v a b c m m2 d.Con d.Names d.Body.Op d.Body.Name d.Body.N d.Body.Kids _ e)<|ts<|tc [0] (aT _ i)<|ey 0<|bJ (IM v b c a q.1 q.2 d.Con d.Names d.Body.Op d.Body.Name d.Body.N d.Body.Kids _ h)<|tv (aP [ed] 1 rfl)<|tc [0] (ai _ n)<|tv (eJ d.Body [])<|tc [0] (fO _ o)<|tE)<|tE
def IN:=nu (s:=(a,m,m2)) λd=>GB v b c d.1 d.2.1 d.2.2
end
def j4(a:dq)(p:ae)(e:K):Q (ae×K):=(bv (Y ((a.Cases.length:Int)>0)) p e).bind λq=>(ac ([ou]:V ae) p q).bind λr=>(aH a.Name Z r q).bind λm=>(ac ([bm]:V ae) m.1 m.2).bind λs=>(aH a.Data T s m.2).bind λn=>(ac ([dK]:V ae) n.1 n.2).bind λt=>(gT a.Result t n.2).bind λo=>(ac ([jW]:V ae) o.1 o.2).bind λw=>(kr a.Cases (a.Cases.length:Int) 0 w o.2).bind λb=>(ac ([lI]:V ae) b.1 b.2).bind λc=>(ue a.Inv).bind λh=>if(!h)then (ac ([jh]:V ae) c b.2).bind λi=>(cj a.Inv i b.2).bind λd=>O (d.1,d.2) else O (c,b.2)
def NQ{a:dq}{x:ae}{i:K}:OG 44 [.bptr 0 0,.agg (aZ a)] [] [.cells [.str x,.bool i] []] (j4 a x i) (λr=>.tuple []) [] (λr=>[.cells [.str r.1,.bool r.2] []]):=qw2.g 1<|tb λL m=>tb λP n=>tb λR o=>tb λS p=>tb λX q=>tb λr6 s=>tb λF t=>tb λH w=>tb λy b=>tb λz c=>tb λA d=>te (Ym a)<|tw (ja a)<|bz (qeX.ln a.Cases)<|tc [0] (aY _ m)<|tv (aP [ou] 1 rfl)<|tc [0] (ai _ n)<|tw (yZ a)<|tc [0] (aT _ o)<|tv (aP [bm] 1 rfl)<|tc [0] (ai _ p)<|tw (y0 a)<|tc [0] (aT _ q)<|tv (aP [dK] 1 rfl)<|tc [0] (ai _ s)<|tw (vX a)<|tc [0] (j5 _ t)<|tv (aP [jW] 1 rfl)<|tc [0] (ai _ w)<|tw (ja a)<|bz (qeX.ln a.Cases)<|bJ (IN a a.Cases (a.Cases.length:Int) 0 H F.2 _ b)<|tv (aP [lI] 1 rfl)<|tc [0] (ai _ c)<|tw (jH a)<|bQ (Bf _ d)<|tF (tb λB e=>tb λE h=>tv (aP [jh] 1 rfl)<|tc [0] (ai _ e)<|tw (jH a)<|tc [0] (fO _ h)<|tE)<|tE
noncomputable def qzy:W:=f45.body.getD .skip
def qyo:ZF Pg [27] 45 f45 qzy:=zf call45 func45 rfl mixed
section
variable(q:lG)(b:waG)(c d:Int)(m:ae)(m2:K)(a e:ae)
def nO:Q (ae×K):=if(a==quD)then (ac ([quD]:V ae) m m2).bind λi=>O (i,m2) else (aH a Z m m2).bind λh=>O (h.1,h.2)
def NU:OJ 1 (cA qzy 130030) (nO m m2 a) .normal (λo=>aM 58 [(0,.bptr 0 0),(3,.eptr (cX q)),(5,.bptr 2 0),(23,sl cp b),(24,.i6 c),(25,.i6 d)] [.cells [.str o.1,.bool o.2] [],.dead,.cells [.str a,.str e] []] []) (aM 58 [(0,.bptr 0 0),(3,.eptr (cX q)),(5,.bptr 2 0),(23,sl cp b),(24,.i6 c),(25,.i6 d)] [.cells [.str m,.bool m2] [],.dead,.cells [.str a,.str e] []] []):=qyo.j<|ts<|tF (tb λp i=>tv (aP [quD] 1 rfl)<|tc [0] (ai _ i)<|tE)<|tb λn h=>ts<|tc [0] (aT _ h)<|tE
end
section
variable(q:lG)(b:waG)(c a:Int)(m:ae)(m2:K)
def qx:aF:=aM 58 [(0,.bptr 0 0),(3,.eptr (cX q)),(23,sl cp b),(24,.i6 c),(25,.i6 a)] [.cells [.str m,.bool m2] [],.dead] []
def Bd(o:ae×K):aF:=aM 58 [(0,.bptr 0 0),(3,.eptr (cX q))] [.cells [.str o.1,.bool o.2] [],.dead] []
instance qEa:KS 1 (qx q b c a m m2):=ks 2 rfl
instance qDT{o:ae×Bool}:KS 1 (Bd q o):=ks 2 rfl
def Bb:Q ((Int×ae×K)⊕(ae×K)):=if Y (a<c)then (bY b a).bind λi=>(cC a m m2).bind λn=>(nO n m2 i.Name).bind λd=>(ac ([bm]:V ae) d.1 d.2).bind λh=>(gT i.Sort_ h d.2).bind λe=>O (.inl (cz (a+1),e.1,e.2)) else O (.inr (m,m2))
def nQ:Q (ae×K):=loop (λ(d:Int×ae×K)=>Bb b c d.1 d.2.1 d.2.2) (a,m,m2)
def Lx:OL 1 (cA qzy 1015) (Bb b c a m m2) (λ(p:Int×ae×K)=>qx q b c p.1 p.2.1 p.2.2) (λ_=>.exit 0) (Bd q) (qx q b c a m m2):=qyo.lx<|tF (tb λi o=>tb λw n=>tb λr d=>tb λs e=>tb λt h=>tv (R7.ia o)<|tv (qgl i)<|tx qpi<|tx (qce i)<|tc [0] (cx _ n)<|ey 0<|bJ (NU q b c a w m2 i.Name i.Sort_ _ d)<|tv (aP [bm] 1 rfl)<|tc [0] (ai _ e)<|ts<|tc [0] (j5 _ h)<|tE)<|tE
def NV:=nu (s:=(a,m,m2)) λd=>Lx q b c d.1 d.2.1 d.2.2
end
def oB(q:lG)(h:ae)(c:K):Q (ae×K):=(bv (Y ((q.Vars.length:Int)>0)) h c).bind λi=>(ac ([Ab]:V ae) h i).bind λm=>(aH q.Name Z m i).bind λe=>(ac ([fw]:V ae) e.1 e.2).bind λn=>(nQ q.Vars (q.Vars.length:Int) 0 n e.2).bind λa=>(ac ([nl]:V ae) a.1 a.2).bind λd=>(cj q.Body d a.2).bind λb=>O (b.1,b.2)
def Tb{q:lG}{n:ae}{d:K}:OG 45 [.bptr 0 0,.agg (cX q)] [] [.cells [.str n,.bool d] []] (oB q n d) (λr=>.tuple []) [] (λr=>[.cells [.str r.1,.bool r.2] []]):=qyo.g 1<|tb λx e=>tb λy h=>tb λt i=>tb λw m=>tb λo a=>tb λp b=>tb λs c=>te (qiE q)<|tw (mr q)<|bz (R7.ln q.Vars)<|tc [0] (aY _ e)<|tv (aP [Ab] 1 rfl)<|tc [0] (ai _ h)<|tw (Fx q)<|tc [0] (aT _ i)<|tv (aP [fw] 1 rfl)<|tc [0] (ai _ m)<|tw (mr q)<|bz (R7.ln q.Vars)<|bJ (NV q q.Vars (q.Vars.length:Int) 0 w t.2 _ a)<|tv (aP [nl] 1 rfl)<|tc [0] (ai _ b)<|tw (Dl q)<|tc [0] (fO _ c)<|tE
noncomputable def qCa:W:=f47.body.getD .skip
def qBA:ZF Pg [] 47 f47 qCa:=zf call47 func47 rfl mixed
def lh(b:ae)(a:K):Q (ae×Int):=if a then O (([]:ae),6) else if Y ((b.length:Int)>40000)then O (([]:ae),7) else O (b,0)
def Be{b:ae}{a:K}:OG 47 [.bptr 0 0] [] [.cells [.str b,.bool a] []] (lh b a) (λr=>.tuple [.str r.1,.i6 r.2]) [] (λr=>[.cells [.str b,.bool a] []]):=qBA.g 1<|ts<|tF tE<|ts<|bz (nD underlying9 b)<|tF tE<|ts<|tE
end Go.Proofs.YtibglelmlnfojaaGreatDoor
