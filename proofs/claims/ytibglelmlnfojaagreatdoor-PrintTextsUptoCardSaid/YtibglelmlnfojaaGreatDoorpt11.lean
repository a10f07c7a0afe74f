/- PROVED: a part of the proof. Conditions: none. -/
import Derived.Test.YtibglelmlnfojaaGreatDoorpt10
set_option linter.unusedSimpArgs false
set_option linter.unusedVariables false
noncomputable section
namespace Go.Proofs.YtibglelmlnfojaaGreatDoor
open Go Go.Proofs.Tryz
set_option linter.unusedVariables false
set_option maxRecDepth 100000
abbrev gH:=(af->af->Option Bool)
abbrev mr(R:gH):Prop:=∀(a:af) (a2:af),OV 131 [.agg (ai a),.agg (ai a2)] (R a a2) (λr=>.bool r) []
noncomputable def qiO:Code:=f136.body.getD .skip
def qmy:List Nat:=[15]
theorem qkf:ZF Pg qmy 136 f136 qiO:=zf call136 func136 rfl mixed
section
variable(s1:waA)(s2:waA)(t12:Int)(t13:Int)
def sI:aK:=aQ 26 [(0,sl cS s1),(1,sl cS s2),(12,.int .i64 t12),(13,.int .i64 t13)] [] []
def B6(o:Unit⊕(Unit)):Exit:=match o with
 |(.inl _)=>.ret
 |(.inr _)=>.exit 0
def B7(o:Unit⊕(Unit)):aK:=match o with
 |(.inl o)=>aQ 26 [(4,.bool false)] [] []
 |(.inr o)=>aQ 26 [] [] []
def gL:Option (Int⊕(Unit⊕(Unit))):=
 if decide (t13<t12)=true then
  (cX s1 t13).bind λx3=>
  (cX s2 t13).bind λx4=>
  if(!(x3==x4))=true then
   some (.inr (.inl ()))
  else
   some (.inl (dt (t13+1)))
 else
  some (.inr (.inr ()))
def xf:Option (Unit⊕(Unit)):=loop (λ(zz:Int)=>gL s1 s2 t12 zz) t13
theorem Jq:OL 0 (cA qiO 119) (gL s1 s2 t12 t13) (λ(zz:Int)=>sI s1 s2 t12 zz) B6 B7 (sI s1 s2 t12 t13):=qkf.l<|
 tF (tb λx3 bx3=>tb λx4 bx4=>VE [0,0,3,7,0,0,48,112,255]<|tv (d8.ia (k:=.i64) bx3)<|tv (eC XC (.str x3) [])<|tv (d8.ia (k:=.i64) bx4)<|tv (eC XC (.str x4) [])<|tF tE<|tE)<|tE
theorem Ai:OK 0 (.loop (cA qiO 119)) (xf s1 s2 t12 t13) B6 B7 (sI s1 s2 t12 t13):=AN λ_=>Jq _ _ _ _
end
def yI(s1:waA)(s2:waA):Option Bool:=
 if((s1.length:Int)!=(s2.length:Int))=true then
  some false
 else
  (xf s1 s2 (s1.length:Int) 0).bind λo6=>match o6 with
  |(.inl o6)=>
   some false
  |(.inr o6)=>
   some true
theorem QO{s1:waA}{s2:waA}:OV 136 [sl cS s1,sl cS s2] (yI s1 s2) (λr=>.bool r) []:=qkf.v<|
 bL (d8.ln s1)<|bL (d8.ln s2)<|tF tE<|bL (d8.ln s1)<|t2 (λo6 bo6=>bT (Ai s1 s2 (s1.length:Int) 0 _ bo6)<|tE) λo6 bo6=>bT (Ai s1 s2 (s1.length:Int) 0 _ bo6)<|tE
abbrev qG:=(aa->aa->Option Bool)
abbrev AW(R:qG):Prop:=∀(a:aa) (a2:aa),OV 128 [.agg (ac a),.agg (ac a2)] (R a a2) (λr=>.bool r) []
noncomputable def qiY:Code:=f191.body.getD .skip
def qnh:List Nat:=[17]
theorem qkt:ZF Pg qnh 191 f191 qiY:=zf call191 func191 rfl mixed
section
variable(R3:qG)(v:waC)(v2:waC)(t14:Int)(t15:Int)
def wW:aK:=aQ 30 [(0,sl ac v),(1,sl ac v2),(2,.func (.func 128) [] []),(14,.int .i64 t14),(15,.int .i64 t15)] [] []
def FM(o:Unit⊕(Unit)):Exit:=match o with
 |(.inl _)=>.ret
 |(.inr _)=>.exit 0
def FO(o:Unit⊕(Unit)):aK:=match o with
 |(.inl o)=>aQ 30 [(6,.bool false)] [] []
 |(.inr o)=>aQ 30 [] [] []
def lO:Option (Int⊕(Unit⊕(Unit))):=
 if decide (t15<t14)=true then
  (cX v t15).bind λx3=>
  (cX v2 t15).bind λx4=>
  (R3 x3 x4).bind λr5=>
  if(!r5)=true then
   some (.inr (.inl ()))
  else
   some (.inl (dt (t15+1)))
 else
  some (.inr (.inr ()))
def CD:Option (Unit⊕(Unit)):=loop (λ(zz:Int)=>lO R3 v v2 t14 zz) t15
theorem MQ(hR3:AW R3):OL 0 (cA qiY 119) (lO R3 v v2 t14 t15) (λ(zz:Int)=>wW v v2 t14 zz) FM FO (wW v v2 t14 t15):=qkt.l<|
 tF (tb λx3 bx3=>tb λx4 bx4=>tb λr5 br5=>VE [0,0,0,6,14,0,0,96,224,511,1023]<|tv (dT.ia (k:=.i64) bx3)<|tv (bu x3)<|tv (dT.ia (k:=.i64) bx4)<|tv (bu x4)<|bG (hR3 _ _ _ br5)<|tF tE<|tE)<|tE
theorem Dt(hR3:AW R3):OK 0 (.loop (cA qiY 119)) (CD R3 v v2 t14 t15) FM FO (wW v v2 t14 t15):=AN λ_=>MQ _ _ _ _ _ hR3
end
def EK(R3:qG)(a:waC)(a2:waC):Option Bool:=
 if((a.length:Int)!=(a2.length:Int))=true then
  some false
 else
  (CD R3 a a2 (a.length:Int) 0).bind λo7=>match o7 with
  |(.inl o7)=>
   some false
  |(.inr o7)=>
   some true
theorem UM(R3:qG)(hR3:AW R3){a:waC}{a2:waC}:OV 191 [sl ac a,sl ac a2,.func (.func 128) [] []] (EK R3 a a2) (λr=>.bool r) []:=qkt.v<|
 bL (dT.ln a)<|bL (dT.ln a2)<|tF tE<|bL (dT.ln a)<|t2 (λo7 bo7=>bT (Dt R3 a a2 (a.length:Int) 0 hR3 _ bo7)<|tE) λo7 bo7=>bT (Dt R3 a a2 (a.length:Int) 0 hR3 _ bo7)<|tE
noncomputable def qpq:Code:=f128.body.getD .skip
def qmv:List Nat:=[]
theorem qoq:ZF Pg qmv 128 f128 qpq:=zf call128 func128 rfl mixed
def BT(R3:qG)(a:aa)(a2:aa):Option Bool:=
 if (a.Op == a2.Op) = true then
  if(a.Name==a2.Name)=true then
   if(a.N==a2.N)=true then
    (EK R3 a.Kids a2.Kids).bind λr7=>
    some r7
   else
    some false
  else
   some false
 else
  some false
theorem UL(R3:qG)(hR3:AW R3){a:aa}{a2:aa}:OV 128 [.agg (ac a),.agg (ac a2)] (BT R3 a a2) (λr=>.bool r) []:=qoq.v<|
 te (dQ a)<|te (dQ a2)<|have pp2:=λ{X Y Z} (r:PV _ X Y Z)=>tw (aD a)<|tw (aD a2)<|r;tf (λc1=>have pp4:=λ{X Y Z} (r:PV _ X Y Z)=>pp2<|tg 6 c1<|tw (bv a)<|tw (bv a2)<|r;tf (λc3=>have pp6:=λ{X Y Z} (r:PV _ X Y Z)=>pp4<|tg 13 c3<|tw (bh a)<|tw (bh a2)<|r;tf (λc5=>tb λr7 br7=>pp6<|tg 20 c5<|tw (aC a)<|tw (aC a2)<|bG (UM R3 hR3 _ br7)<|tE) λc5=>pp6<|tg 20 c5<|tE) λc3=>pp4<|tg 13 c3<|tE) λc1=>pp2<|tg 6 c1<|tE
def H1:((aa×aa)->Option Bool)->(aa×aa)->Option Bool:=λ(rec:(aa×aa)->Option Bool) (x:aa×aa)=>BT (λa a2=>rec (a,a2)) x.1 x.2
def Ds(a:aa)(a2:aa):Option Bool:=pA H1 (a,a2)
theorem EJ{a:aa}{a2:aa}:OV 128 [.agg (ac a),.agg (ac a2)] (Ds a a2) (λr=>.bool r) []:=Do λ_ h=>
 dN (F:=H1) (M:=λ(x:aa×aa) (r:Bool)=>CC Pg GE 128 [.agg (ac x.1),.agg (ac x.2)] (.bool r) []) (λrec hrec x r h=>UL _ (λa a2=>Do λr h=>hrec (a,a2) r h) _ h) h
noncomputable def qiZ:Code:=f192.body.getD .skip
def qni:List Nat:=[19]
theorem qku:ZF Pg qni 192 f192 qiZ:=zf call192 func192 rfl mixed
section
variable(s2:waC)(t15:waC)(t16:Int)(t17:Int)
def i7:aK:=aQ 32 [(1,sl ac s2),(2,.func (.func 128) [] []),(15,sl ac t15),(16,.int .i64 t16),(17,.int .i64 t17)] [] []
def tQ(o:Unit⊕(Unit)):Exit:=match o with
 |(.inl _)=>.ret
 |(.inr _)=>.exit 0
def mm(o:Unit⊕(Unit)):aK:=match o with
 |(.inl o)=>aQ 32 [(6,.bool false)] [] []
 |(.inr o)=>aQ 32 [] [] []
instance iS_slices_EqualFunc_L1:KS 0 (i7 s2 t15 t16 t17):=⟨rfl,(bD (aI (up (aZ bK s2)) (aI (aI vzz vzz) (aI (up (aZ bK t15)) (aI vzz (aI vzz vzz)))))),vzz⟩
instance iO_slices_EqualFunc_L1{o:Unit⊕(Unit)}:KS 0 (mm o):=match o with
 |(.inl o)=>⟨rfl,(bD (aI vzz vzz)),vzz⟩
 |(.inr o)=>⟨rfl,(bD vzz),vzz⟩
def eN:Option (Int⊕(Unit⊕(Unit))):=
 if decide (t17<t16)=true then
  (cX t15 t17).bind λx3=>
  (cX s2 t17).bind λx4=>
  (Ds x3 x4).bind λr5=>
  if(!r5)=true then
   some (.inr (.inl ()))
  else
   some (.inl (dt (t17+1)))
 else
  some (.inr (.inr ()))
def pk:Option (Unit⊕(Unit)):=loop (λ(zz:Int)=>eN s2 t15 t16 zz) t17
theorem DI:OL 0 (cA qiZ 119) (eN s2 t15 t16 t17) (λ(zz:Int)=>i7 s2 t15 t16 zz) tQ mm (i7 s2 t15 t16 t17):=qku.lx<|
 tF (tb λx3 bx3=>tb λx4 bx4=>tb λr5 br5=>tv (dT.ia (k:=.i64) bx3)<|tv (bu x3)<|tx M0<|tx (fT x3)<|tv (dT.ia (k:=.i64) bx4)<|tv (bu x4)<|tx M0<|tx (fT x4)<|tv (fS x3 [])<|tv (fS x4 [])<|bG (EJ _ br5)<|tF tE<|tE)<|tE
theorem sG:OK 0 (.loop (cA qiZ 119)) (pk s2 t15 t16 t17) tQ mm (i7 s2 t15 t16 t17):=AN λ_=>DI _ _ _ _
end
def oq(s1:waC)(s2:waC):Option Bool:=
 if((s1.length:Int)!=(s2.length:Int))=true then
  some false
 else
  (pk s2 s1 (s1.length:Int) 0).bind λo7=>match o7 with
  |(.inl o7)=>
   some false
  |(.inr o7)=>
   some true
theorem Jp{s1:waC}{s2:waC}:OV 192 [sl ac s1,sl ac s2,.func (.func 128) [] []] (oq s1 s2) (λr=>.bool r) []:=qku.v<|
 bL (dT.ln s1)<|bL (dT.ln s2)<|tF tE<|bL (dT.ln s1)<|t2 (λo7 bo7=>bT (sG s2 s1 (s1.length:Int) 0 _ bo7)<|tE) λo7 bo7=>bT (sG s2 s1 (s1.length:Int) 0 _ bo7)<|tE
noncomputable def qiN:Code:=f130.body.getD .skip
def qmw:List Nat:=[19]
theorem qke:ZF Pg qmw 130 f130 qiN:=zf call130 func130 rfl mixed
section
variable(R1:gH)(s2:waB)(t15:waB)(t16:Int)(t17:Int)
def eD:aK:=aQ 32 [(1,sl ai s2),(2,.func (.func 131) [] []),(15,sl ai t15),(16,.int .i64 t16),(17,.int .i64 t17)] [] []
def kJ(o:Unit⊕(Unit)):Exit:=match o with
 |(.inl _)=>.ret
 |(.inr _)=>.exit 0
def f0(o:Unit⊕(Unit)):aK:=match o with
 |(.inl o)=>aQ 32 [(6,.bool false)] [] []
 |(.inr o)=>aQ 32 [] [] []
instance iS_slices_EqualFunc_sameType_L1:KS 0 (eD s2 t15 t16 t17):=⟨rfl,(bD (aI (up (aZ cJ s2)) (aI (aI vzz vzz) (aI (up (aZ cJ t15)) (aI vzz (aI vzz vzz)))))),vzz⟩
instance iO_slices_EqualFunc_sameType_L1{o:Unit⊕(Unit)}:KS 0 (f0 o):=match o with
 |(.inl o)=>⟨rfl,(bD (aI vzz vzz)),vzz⟩
 |(.inr o)=>⟨rfl,(bD vzz),vzz⟩
def cR:Option (Int⊕(Unit⊕(Unit))):=
 if decide (t17<t16)=true then
  (cX t15 t17).bind λx3=>
  (cX s2 t17).bind λx4=>
  (R1 x3 x4).bind λr5=>
  if(!r5)=true then
   some (.inr (.inl ()))
  else
   some (.inl (dt (t17+1)))
 else
  some (.inr (.inr ()))
def gR:Option (Unit⊕(Unit)):=loop (λ(zz:Int)=>cR R1 s2 t15 t16 zz) t17
theorem sH(hR1:mr R1):OL 0 (cA qiN 119) (cR R1 s2 t15 t16 t17) (λ(zz:Int)=>eD s2 t15 t16 zz) kJ f0 (eD s2 t15 t16 t17):=qke.lx<|
 tF (tb λx3 bx3=>tb λx4 bx4=>tb λr5 br5=>tv (cu.ia (k:=.i64) bx3)<|tv (bo x3)<|tx K8<|tx (gJ x3)<|tv (cu.ia (k:=.i64) bx4)<|tv (bo x4)<|tx K8<|tx (gJ x4)<|tv (ed x3 [])<|tv (ed x4 [])<|bG (hR1 _ _ _ br5)<|tF tE<|tE)<|tE
theorem j1(hR1:mr R1):OK 0 (.loop (cA qiN 119)) (gR R1 s2 t15 t16 t17) kJ f0 (eD s2 t15 t16 t17):=AN λ_=>sH _ _ _ _ _ hR1
end
def fH(R1:gH)(s1:waB)(s2:waB):Option Bool:=
 if((s1.length:Int)!=(s2.length:Int))=true then
  some false
 else
  (gR R1 s2 s1 (s1.length:Int) 0).bind λo7=>match o7 with
  |(.inl o7)=>
   some false
  |(.inr o7)=>
   some true
theorem xe(R1:gH)(hR1:mr R1){s1:waB}{s2:waB}:OV 130 [sl ai s1,sl ai s2,.func (.func 131) [] []] (fH R1 s1 s2) (λr=>.bool r) []:=qke.v<|
 bL (cu.ln s1)<|bL (cu.ln s2)<|tF tE<|bL (cu.ln s1)<|t2 (λo7 bo7=>bT (j1 R1 s2 s1 (s1.length:Int) 0 hR1 _ bo7)<|tE) λo7 bo7=>bT (j1 R1 s2 s1 (s1.length:Int) 0 hR1 _ bo7)<|tE
noncomputable def qpr:Code:=f131.body.getD .skip
def qmx:List Nat:=[]
theorem qor:ZF Pg qmx 131 f131 qpr:=zf call131 func131 rfl mixed
def mQ(R1:gH)(a:af)(a2:af):Option Bool:=
 if (a.Op == a2.Op) = true then
  if (a.Name == a2.Name) = true then
   (yI a.Names a2.Names).bind λr5=>
   if r5=true then
    (Ds a.Pred a2.Pred).bind λr8=>
    if r8=true then
     (oq a.Preds a2.Preds).bind λr11=>
     if r11=true then
      (fH R1 a.Args a2.Args).bind λr14=>
      some r14
     else
      some false
    else
     some false
   else
    some false
  else
   some false
 else
  some false
theorem Jx(R1:gH)(hR1:mr R1){a:af}{a2:af}:OV 131 [.agg (ai a),.agg (ai a2)] (mQ R1 a a2) (λr=>.bool r) []:=qor.v<|
 te (dR a)<|te (dR a2)<|have pp2:=λ{X Y Z} (r:PV _ X Y Z)=>tw (az a)<|tw (az a2)<|r;tf (λc1=>have pp4:=λ{X Y Z} (r:PV _ X Y Z)=>pp2<|tg 6 c1<|tw (bP a)<|tw (bP a2)<|r;tf (λc3=>tb λr5 br5=>have pp7:=λ{X Y Z} (r:PV _ X Y Z)=>pp4<|tg 13 c3<|tw (aX a)<|tw (aX a2)<|bG (QO _ br5)<|r;tf (λc6=>tb λr8 br8=>have pp10:=λ{X Y Z} (r:PV _ X Y Z)=>pp7<|tg 20 c6<|tw (cj a)<|tw (cj a2)<|bG (EJ _ br8)<|r;tf (λc9=>tb λr11 br11=>have pp13:=λ{X Y Z} (r:PV _ X Y Z)=>pp10<|tg 27 c9<|tw (bm a)<|tw (bm a2)<|bG (Jp _ br11)<|r;tf (λc12=>tb λr14 br14=>pp13<|tg 34 c12<|tw (aM a)<|tw (aM a2)<|bG (xe R1 hR1 _ br14)<|tE) λc12=>pp13<|tg 34 c12<|tE) λc9=>pp10<|tg 27 c9<|tE) λc6=>pp7<|tg 20 c6<|tE) λc3=>pp4<|tg 13 c3<|tE) λc1=>pp2<|tg 6 c1<|tE
def sV:((af×af)->Option Bool)->(af×af)->Option Bool:=λ(rec:(af×af)->Option Bool) (x:af×af)=>mQ (λa a2=>rec (a,a2)) x.1 x.2
def xk(a:af)(a2:af):Option Bool:=pA sV (a,a2)
theorem Lp{a:af}{a2:af}:OV 131 [.agg (ai a),.agg (ai a2)] (xk a a2) (λr=>.bool r) []:=Do λ_ h=>
 dN (F:=sV) (M:=λ(x:af×af) (r:Bool)=>CC Pg GE 131 [.agg (ai x.1),.agg (ai x.2)] (.bool r) []) (λrec hrec x r h=>Jx _ (λa a2=>Do λr h=>hrec (a,a2) r h) _ h) h
abbrev pY:=(af->Int->Option Bool)
abbrev wG(R:pY):Prop:=∀(t:af) (levels:Int),OV 6 [.agg (ai t),.int .i64 levels] (R t levels) (λr=>.bool r) []
abbrev Bx:=(aa->Option Int)
abbrev Gx(R:Bx):Prop:=∀(p:aa),OV 21 [.agg (ac p)] (R p) (λr=>.int .i64 r) []
noncomputable def qpU:Code:=f21.body.getD .skip
def qrN:List Nat:=[18]
theorem qq0:ZF Pg qrN 21 f21 qpU:=zf call21 func21 rfl mixed
section
variable(R9:Bx)(t7:waC)(t8:Int)(n:Int)(t9:Int)
def rp:aK:=aQ 19 [(3,.int .i64 n),(7,sl ac t7),(8,.int .i64 t8),(9,.int .i64 t9)] [.dead] []
def ze(o:Int):aK:=aQ 19 [(3,.int .i64 o)] [.dead] []
instance iS_R07_Nodes_L1:KS 0 (rp t7 t8 n t9):=⟨rfl,(bD (aI vzz (aI (up (aZ bK t7)) (aI vzz (aI vzz vzz))))),(aI vzz vzz)⟩
instance iO_R07_Nodes_L1{o:Int}:KS 0 (ze o):=⟨rfl,(bD (aI vzz vzz)),(aI vzz vzz)⟩
def rq:Option ((Int×Int)⊕(Int)):=
 if decide (t9<t8)=true then
  (cX t7 t9).bind λx2=>
  (R9 x2).bind λr3=>
  some (.inl (dt (n+r3),dt (t9+1)))
 else
  some (.inr n)
def D5:Option Int:=loop (λ(zz:Int×Int)=>rq R9 t7 t8 zz.1 zz.2) (n,t9)
theorem ND(hR9:Gx R9):OL 0 (cA qpU 119) (rq R9 t7 t8 n t9) (λ(zz:Int×Int)=>rp t7 t8 zz.1 zz.2) (λ_=>.exit 0) ze (rp t7 t8 n t9):=qq0.lx<|
 tF (tb λx2 bx2=>tb λr3 br3=>tv (dT.ia (k:=.i64) bx2)<|tv (bu x2)<|tx M0<|tx (fT x2)<|tv (fS x2 [])<|bG (hR9 _ _ br3)<|tE)<|tE
theorem Qc(hR9:Gx R9):OJ 0 (.loop (cA qpU 119)) (D5 R9 t7 t8 n t9) (.exit 0) ze (rp t7 t8 n t9):=y1 λ_=>ND _ _ _ _ _ hR9
end
def Ba(R9:Bx)(p:aa):Option Int:=
 (D5 R9 p.Kids (p.Kids.length:Int) 1 0).bind λo4=>
 some o4
theorem T5(R9:Bx)(hR9:Gx R9){p:aa}:OV 21 [.agg (ac p)] (Ba R9 p) (λr=>.int .i64 r) []:=qq0.v<|
 tb λo4 bo4=>te (dQ p)<|tw (aC p)<|bL (dT.ln p.Kids)<|bT (Qc R9 p.Kids (p.Kids.length:Int) 1 0 hR9 _ bo4)<|tE
def Bb:(aa->Option Int)->(aa)->Option Int:=λ(rec:aa->Option Int) (x:aa)=>Ba (λp=>rec p) x
def qD(p:aa):Option Int:=pA Bb p
theorem D6{p:aa}:OV 21 [.agg (ac p)] (qD p) (λr=>.int .i64 r) []:=Do λ_ h=>
 dN (F:=Bb) (M:=λ(x:aa) (r:Int)=>CC Pg GE 21 [.agg (ac x)] (.int .i64 r) []) (λrec hrec x r h=>T5 _ (λp=>Do λr h=>hrec p r h) _ h) h
noncomputable def b6:Code:=Tryz.f6.body.getD .skip
def A6:List Nat:=[]
theorem Z6:ZF Pg A6 6 Tryz.f6 b6:=zf call6 func6 rfl mixed
section
variable(levels:Int)(t:af)
def n6:Option Bool:=
 if(levels==0)=true then
  some true
 else if decide ((t.Args.length:Int)>8)=true then
  some true
 else if decide ((t.Names.length:Int)>8)=true then
  some true
 else if decide ((t.Preds.length:Int)>8)=true then
  some true
 else
  (qD t.Pred).bind λr8=>
  some (decide (r8>100))
theorem Je:OJ 0 (cA b6 12) (n6 levels t) .normal (λo=>aQ 59 [(1,.int .i64 levels),(2,.eptr (ai t)),(34,.bool o)] [.dead] []) (aQ 59 [(1,.int .i64 levels),(2,.eptr (ai t))] [.dead] []):=Z6.j<|
 tf (λc1=>tg 3 c1<|tE) λc1=>have pp3:=λ{X Y Z} (r:PV _ X Y Z)=>tg 3 c1<|tw (aM t)<|bL (cu.ln t.Args)<|r;tf (λc2=>pp3<|tg 9 c2<|tE) λc2=>have pp5:=λ{X Y Z} (r:PV _ X Y Z)=>pp3<|tg 9 c2<|tw (aX t)<|bL (d8.ln t.Names)<|r;tf (λc4=>pp5<|tg 15 c4<|tE) λc4=>have pp7:=λ{X Y Z} (r:PV _ X Y Z)=>pp5<|tg 15 c4<|tw (bm t)<|bL (dT.ln t.Preds)<|r;tf (λc6=>pp7<|tg 21 c6<|tE) λc6=>tb λr8 br8=>pp7<|tg 21 c6<|tw (cj t)<|bG (D6 _ br8)<|tE
end
section
variable(levels:Int)(t:af)(t36:waC)(t37:Int)(t38:Int)
def lk:aK:=aQ 59 [(1,.int .i64 levels),(2,.eptr (ai t)),(36,sl ac t36),(37,.int .i64 t37),(38,.int .i64 t38)] [.dead] []
def zH(o:Unit⊕(Unit)):Exit:=match o with
 |(.inl _)=>.ret
 |(.inr _)=>.exit 0
def ql(o:Unit⊕(Unit)):aK:=match o with
 |(.inl o)=>aQ 59 [(4,.bool false)] [.dead] []
 |(.inr o)=>aQ 59 [(1,.int .i64 levels),(2,.eptr (ai t))] [.dead] []
instance iS_W22_smallType_L2:KS 0 (lk levels t t36 t37 t38):=⟨rfl,(bD (aI vzz (aI (eA (cJ t)) (aI (up (aZ bK t36)) (aI vzz (aI vzz vzz)))))),(aI vzz vzz)⟩
instance iO_W22_smallType_L2{o:Unit⊕(Unit)}:KS 0 (ql levels t o):=match o with
 |(.inl o)=>⟨rfl,(bD (aI vzz vzz)),(aI vzz vzz)⟩
 |(.inr o)=>⟨rfl,(bD (aI vzz (aI (eA (cJ t)) trivial))),(aI vzz vzz)⟩
def zG:Option (Int⊕(Unit⊕(Unit))):=
 if decide (t38<t37)=true then
  (cX t36 t38).bind λx12=>
  (qD x12).bind λr13=>
  if decide (r13>100)=true then
   some (.inr (.inl ()))
  else
   some (.inl (dt (t38+1)))
 else
  some (.inr (.inr ()))
def uc:Option (Unit⊕(Unit)):=loop (λ(zz:Int)=>zG t36 t37 zz) t38
theorem Hu:OL 0 (cA b6 119) (zG t36 t37 t38) (λ(zz:Int)=>lk levels t t36 t37 zz) zH (ql levels t) (lk levels t t36 t37 t38):=Z6.lx<|
 tF (tb λx12 bx12=>tb λr13 br13=>tv (dT.ia (k:=.i64) bx12)<|tv (bu x12)<|tx M0<|tx (fT x12)<|tv (fS x12 [])<|bG (D6 _ br13)<|tF tE<|tE)<|tE
theorem xt:OK 0 (.loop (cA b6 119)) (uc t36 t37 t38) zH (ql levels t) (lk levels t t36 t37 t38):=AN λ_=>Hu _ _ _ _ _
end
section
variable(R8:pY)(levels:Int)(t47:waB)(t48:Int)(t49:Int)
def ll:aK:=aQ 59 [(1,.int .i64 levels),(47,sl ai t47),(48,.int .i64 t48),(49,.int .i64 t49)] [.dead] []
def zJ(o:Unit⊕(Unit)):Exit:=match o with
 |(.inl _)=>.ret
 |(.inr _)=>.exit 2
def qm(o:Unit⊕(Unit)):aK:=match o with
 |(.inl o)=>aQ 59 [(4,.bool false)] [.dead] []
 |(.inr o)=>aQ 59 [] [.dead] []
instance iS_W22_smallType_L3:KS 0 (ll levels t47 t48 t49):=⟨rfl,(bD (aI vzz (aI (up (aZ cJ t47)) (aI vzz (aI vzz vzz))))),(aI vzz vzz)⟩
instance iO_W22_smallType_L3{o:Unit⊕(Unit)}:KS 0 (qm o):=match o with
 |(.inl o)=>⟨rfl,(bD (aI vzz vzz)),(aI vzz vzz)⟩
 |(.inr o)=>⟨rfl,(bD vzz),(aI vzz vzz)⟩
def zI:Option (Int⊕(Unit⊕(Unit))):=
 if decide (t49<t48)=true then
  (cX t47 t49).bind λx17=>
  (R8 x17 (dt (levels - 1))).bind λr18=>
  if(!r18)=true then
   some (.inr (.inl ()))
  else
   some (.inl (dt (t49+1)))
 else
  some (.inr (.inr ()))
def ue:Option (Unit⊕(Unit)):=loop (λ(zz:Int)=>zI R8 levels t47 t48 zz) t49
theorem Hv(hR8:wG R8):OL 0 (cA b6 247) (zI R8 levels t47 t48 t49) (λ(zz:Int)=>ll levels t47 t48 zz) zJ qm (ll levels t47 t48 t49):=Z6.lx<|
 tF (tb λx17 bx17=>tb λr18 br18=>tv (cu.ia (k:=.i64) bx17)<|tv (bo x17)<|tx K8<|tx (gJ x17)<|tv (ed x17 [])<|bG (hR8 _ _ _ br18)<|tF tE<|tE)<|tE
theorem xu(hR8:wG R8):OK 0 (.loop (cA b6 247)) (ue R8 levels t47 t48 t49) zJ qm (ll levels t47 t48 t49):=AN λ_=>Hv _ _ _ _ _ hR8
end
def pZ(R8:pY)(t:af)(levels:Int):Option Bool:=
 (n6 levels t).bind λo9=>
 if o9=true then
  some false
 else
  (uc t.Preds (t.Preds.length:Int) 0).bind λo15=>match o15 with
  |(.inl o15)=>
   some false
  | (.inr o15) =>
   (ue R8 levels t.Args (t.Args.length:Int) 0).bind λo20=>match o20 with
   |(.inl o20)=>
    some false
   |(.inr o20)=>
    some true
theorem LZ(R8:pY)(hR8:wG R8){t:af}{levels:Int}:OV 6 [.agg (ai t),.int .i64 levels] (pZ R8 t levels) (λr=>.bool r) []:=Z6.v<|
 tb λo9 bo9=>te (dR t)<|fc 1<|bT (Je levels t _ bo9)<|tF tE<|tw (bm t)<|bL (dT.ln t.Preds)<|t2 (λo15 bo15=>bT (xt levels t t.Preds (t.Preds.length:Int) 0 _ bo15)<|tE) λo15 bo15=>bT (xt levels t t.Preds (t.Preds.length:Int) 0 _ bo15)<|tw (aM t)<|bL (cu.ln t.Args)<|t2 (λo20 bo20=>bT (xu R8 levels t.Args (t.Args.length:Int) 0 hR8 _ bo20)<|tE) λo20 bo20=>bT (xu R8 levels t.Args (t.Args.length:Int) 0 hR8 _ bo20)<|tE
def wM:((af×Int)->Option Bool)->(af×Int)->Option Bool:=λ(rec:(af×Int)->Option Bool) (x:af×Int)=>pZ (λt levels=>rec (t,levels)) x.1 x.2
def pw(t:af)(levels:Int):Option Bool:=pA wM (t,levels)
theorem ey{t:af}{levels:Int}:OV 6 [.agg (ai t),.int .i64 levels] (pw t levels) (λr=>.bool r) []:=Do λ_ h=>
 dN (F:=wM) (M:=λ(x:af×Int) (r:Bool)=>CC Pg GE 6 [.agg (ai x.1),.int .i64 x.2] (.bool r) []) (λrec hrec x r h=>LZ _ (λt levels=>Do λr h=>hrec (t,levels) r h) _ h) h
abbrev BA:=(ag->Option Int)
abbrev GA(R:BA):Prop:=∀(e:ag),OV 25 [.agg (ah e)] (R e) (λr=>.int .i64 r) []
noncomputable def qqe:Code:=f62.body.getD .skip
def qsc:List Nat:=[16,25]
theorem qq5:ZF Pg qsc 62 f62 qqe:=zf call62 func62 rfl mixed
section
variable(e:ag)(out:waD)(i:Int)
def wK:aK:=aQ 26 [(1,.eptr (ah e)),(3,sl ah out),(4,.int .i64 i)] [.dead] [((3,0),36)]
def Fo(o:waD):aK:=aQ 26 [(3,sl ah o)] [.dead] [((3,0),36)]
def gM:Option ((waD×Int)⊕(waD)):=
 if decide (i<(e.Alts.length:Int))=true then
  (cX e.Alts i).bind λx3=>
  (app out ([x3.Body]:List ag)).bind λl4=>
  some (.inl (l4,dt (i+1)))
 else
  some (.inr out)
def pr:Option waD:=loop (λ(zz:waD×Int)=>gM e zz.1 zz.2) (out,i)
theorem LK:OL 0 (cA qqe 119) (gM e out i) (λ(zz:waD×Int)=>wK e zz.1 zz.2) (λ_=>.exit 0) Fo (wK e out i):=qq5.l<|
 tw (aB e)<|bL (gz.ln e.Alts)<|tF (tb λx3 bx3=>tb λl4 bl4=>tw (aB e)<|tv (gz.ia (k:=.i64) bx3)<|tw (KI x3)<|tv (dJ.mk' (v:=ta) lW ([x3.Body]:List ag) 1 (by kernel_rfl))<|tv (dJ.ap bl4)<|tE)<|tE
theorem NL:OJ 0 (.loop (cA qqe 119)) (pr e out i) (.exit 0) Fo (wK e out i):=y1 λ_=>LK _ _ _
end
def tY(e:ag):Option waD:=
 (app ([]:List ag) e.Kids).bind λl1=>
 (pr e l1 0).bind λo5=>
 some o5
theorem Cq{e:ag}:OV 62 [.agg (ah e)] (tY e) (λr=>sl ah r) [(0,36)]:=qq5.v<|
 tb λl1 bl1=>tb λo5 bo5=>te (bQ e)<|tv (dJ.mk' (v:=ta) lW ([]:List ag) 0 (by kernel_rfl))<|tw (aq e)<|tv (dJ.ap bl1)<|bT (NL e l1 0 _ bo5)<|tE
noncomputable def qp7:Code:=f25.body.getD .skip
def qrR:List Nat:=[21]
theorem qq1:ZF Pg qrR 25 f25 qp7:=zf call25 func25 rfl mixed
section
variable(R11:BA)(v:waD)(n:Int)(i:Int)
def zk:aK:=aQ 22 [(3,.int .i64 n),(4,sl ah v),(5,.int .i64 i)] [.dead] [((4,0),36)]
def G6(o:Int):aK:=aQ 22 [(3,.int .i64 o)] [.dead] []
def ir:Option ((Int×Int)⊕(Int)):=
 if decide (i<(v.length:Int))=true then
  (cX v i).bind λx3=>
  (R11 x3).bind λr4=>
  some (.inl (dt (n+r4),dt (i+1)))
 else
  some (.inr n)
def ya:Option Int:=loop (λ(zz:Int×Int)=>ir R11 v zz.1 zz.2) (n,i)
theorem NH(hR11:GA R11):OL 0 (cA qp7 247) (ir R11 v n i) (λ(zz:Int×Int)=>zk v zz.1 zz.2) (λ_=>.exit 0) G6 (zk v n i):=qq1.l<|
 bL (dJ.ln v)<|tF (tb λx3 bx3=>tb λr4 br4=>tv (dJ.ia (k:=.i64) bx3)<|tv (aF x3)<|bG (hR11 _ _ br4)<|tE)<|tE
theorem Ql(hR11:GA R11):OJ 0 (.loop (cA qp7 247)) (ya R11 v n i) (.exit 0) G6 (zk v n i):=y1 λ_=>NH _ _ _ _ hR11
end
def Bi(R11:BA)(e:ag):Option Int:=
 (tY e).bind λr1=>
 (ya R11 r1 1 0).bind λo5=>
 some o5
theorem T9(R11:BA)(hR11:GA R11){e:ag}:OV 25 [.agg (ah e)] (Bi R11 e) (λr=>.int .i64 r) []:=qq1.v<|
 tb λr1 br1=>tb λo5 bo5=>te (bQ e)<|tv (aF e)<|bG (Cq _ br1)<|bT (Ql R11 r1 1 0 hR11 _ bo5)<|tE
def G5:(ag->Option Int)->(ag)->Option Int:=λ(rec:ag->Option Int) (x:ag)=>Bi (λe=>rec e) x
def Iq(e:ag):Option Int:=pA G5 e
theorem LI{e:ag}:OV 25 [.agg (ah e)] (Iq e) (λr=>.int .i64 r) []:=Do λ_ h=>
 dN (F:=G5) (M:=λ(x:ag) (r:Int)=>CC Pg GE 25 [.agg (ah x)] (.int .i64 r) []) (λrec hrec x r h=>T9 _ (λe=>Do λr h=>hrec e r h) _ h) h
abbrev ku:=(ag->Option Bool)
abbrev kn(R:ku):Prop:=∀(e:ag),OV 26 [.agg (ah e)] (R e) (λr=>.bool r) []
noncomputable def qf5:Code:=f26.body.getD .skip
def qrS:List Nat:=[]
theorem qjX:ZF Pg qrS 26 f26 qf5:=zf call26 func26 rfl mixed
section
variable(e:ag)
def mA:Option Bool:=
 if decide ((e.Types.length:Int)>8)=true then
  some true
 else
  some (decide ((e.Params.length:Int)>8))
theorem Hw:OJ 0 (cA qf5 12) (mA e) .normal (λo=>aQ 67 [(1,.eptr (ah e)),(20,.bool o)] [.dead] []) (aQ 67 [(1,.eptr (ah e))] [.dead] []):=qjX.j<|
 have pp2:=λ{X Y Z} (r:PV _ X Y Z)=>tw (aw e)<|bL (cu.ln e.Types)<|r;tf (λc1=>pp2<|tg 5 c1<|tE) λc1=>pp2<|tg 5 c1<|tw (aS e)<|bL (pj.ln e.Params)<|tE
end
section
variable(e:ag)(t22:waB)(t23:Int)(t24:Int)
def j8:aK:=aQ 67 [(1,.eptr (ah e)),(22,sl ai t22),(23,.int .i64 t23),(24,.int .i64 t24)] [.dead] []
def xw(o:Unit⊕(Unit)):Exit:=match o with
 |(.inl _)=>.ret
 |(.inr _)=>.exit 0
def oT(o:Unit⊕(Unit)):aK:=match o with
 |(.inl o)=>aQ 67 [(2,.bool false)] [.dead] []
 |(.inr o)=>aQ 67 [(1,.eptr (ah e))] [.dead] []
instance iS_W22_smallTypes_L2:KS 0 (j8 e t22 t23 t24):=⟨rfl,(bD (aI (eA (dM e)) (aI (up (aZ cJ t22)) (aI vzz (aI vzz vzz))))),(aI vzz vzz)⟩
instance iO_W22_smallTypes_L2{o:Unit⊕(Unit)}:KS 0 (oT e o):=match o with
 |(.inl o)=>⟨rfl,(bD (aI vzz vzz)),(aI vzz vzz)⟩
 |(.inr o)=>⟨rfl,(bD (aI (eA (dM e)) trivial)),(aI vzz vzz)⟩
def xv:Option (Int⊕(Unit⊕(Unit))):=
 if decide (t24<t23)=true then
  (cX t22 t24).bind λx6=>
  (pw x6 4).bind λr7=>
  if(!r7)=true then
   some (.inr (.inl ()))
  else
   some (.inl (dt (t24+1)))
 else
  some (.inr (.inr ()))
def rH:Option (Unit⊕(Unit)):=loop (λ(zz:Int)=>xv t22 t23 zz) t24
theorem Gf:OL 0 (cA qf5 119) (xv t22 t23 t24) (λ(zz:Int)=>j8 e t22 t23 zz) xw (oT e) (j8 e t22 t23 t24):=qjX.lx<|
 tF (tb λx6 bx6=>tb λr7 br7=>tv (cu.ia (k:=.i64) bx6)<|tv (bo x6)<|tx K8<|tx (gJ x6)<|tv (ed x6 [])<|bG (ey _ br7)<|tF tE<|tE)<|tE
theorem vZ:OK 0 (.loop (cA qf5 119)) (rH t22 t23 t24) xw (oT e) (j8 e t22 t23 t24):=AN λ_=>Gf _ _ _ _
end
section
variable(e:ag)(t33:waF)(t34:Int)(t35:Int)
def j9:aK:=aQ 67 [(1,.eptr (ah e)),(33,sl bw t33),(34,.int .i64 t34),(35,.int .i64 t35)] [.dead] []
def xy(o:Unit⊕(Unit)):Exit:=match o with
 |(.inl _)=>.ret
 |(.inr _)=>.exit 2
def oU(o:Unit⊕(Unit)):aK:=match o with
 |(.inl o)=>aQ 67 [(2,.bool false)] [.dead] []
 |(.inr o)=>aQ 67 [(1,.eptr (ah e))] [.dead] []
instance iS_W22_smallTypes_L3:KS 0 (j9 e t33 t34 t35):=⟨rfl,(bD (aI (eA (dM e)) (aI (up (aZ qK t33)) (aI vzz (aI vzz vzz))))),(aI vzz vzz)⟩
instance iO_W22_smallTypes_L3{o:Unit⊕(Unit)}:KS 0 (oU e o):=match o with
 |(.inl o)=>⟨rfl,(bD (aI vzz vzz)),(aI vzz vzz)⟩
 |(.inr o)=>⟨rfl,(bD (aI (eA (dM e)) trivial)),(aI vzz vzz)⟩
def xx:Option (Int⊕(Unit⊕(Unit))):=
 if decide (t35<t34)=true then
  (cX t33 t35).bind λx11=>
  (pw x11.Type_ 4).bind λr12=>
  if(!r12)=true then
   some (.inr (.inl ()))
  else
   some (.inl (dt (t35+1)))
 else
  some (.inr (.inr ()))
def rI:Option (Unit⊕(Unit)):=loop (λ(zz:Int)=>xx t33 t34 zz) t35
theorem Gg:OL 0 (cA qf5 247) (xx t33 t34 t35) (λ(zz:Int)=>j9 e t33 t34 zz) xy (oU e) (j9 e t33 t34 t35):=qjX.lx<|
 tF (tb λx11 bx11=>tb λr12 br12=>tv (pj.ia (k:=.i64) bx11)<|tv (IJ x11)<|tx qbG<|tx (EF x11)<|tv (ed x11.Type_ [])<|bG (ey _ br12)<|tF tE<|tE)<|tE
theorem v6:OK 0 (.loop (cA qf5 247)) (rI t33 t34 t35) xy (oU e) (j9 e t33 t34 t35):=AN λ_=>Gg _ _ _ _
end
section
variable(R13:ku)(e:ag)(t45:waD)(t46:Int)(t47:Int)
def ka:aK:=aQ 67 [(1,.eptr (ah e)),(45,sl ah t45),(46,.int .i64 t46),(47,.int .i64 t47)] [.dead] []
def xC(o:Unit⊕(Unit)):Exit:=match o with
 |(.inl _)=>.ret
 |(.inr _)=>.exit 4
def oV(o:Unit⊕(Unit)):aK:=match o with
 |(.inl o)=>aQ 67 [(2,.bool false)] [.dead] []
 |(.inr o)=>aQ 67 [(1,.eptr (ah e))] [.dead] []
instance iS_W22_smallTypes_L4:KS 0 (ka e t45 t46 t47):=⟨rfl,(bD (aI (eA (dM e)) (aI (up (aZ dM t45)) (aI vzz (aI vzz vzz))))),(aI vzz vzz)⟩
instance iO_W22_smallTypes_L4{o:Unit⊕(Unit)}:KS 0 (oV e o):=match o with
 |(.inl o)=>⟨rfl,(bD (aI vzz vzz)),(aI vzz vzz)⟩
 |(.inr o)=>⟨rfl,(bD (aI (eA (dM e)) trivial)),(aI vzz vzz)⟩
def xz:Option (Int⊕(Unit⊕(Unit))):=
 if decide (t47<t46)=true then
  (cX t45 t47).bind λx16=>
  (R13 x16).bind λr17=>
  if(!r17)=true then
   some (.inr (.inl ()))
  else
   some (.inl (dt (t47+1)))
 else
  some (.inr (.inr ()))
def rJ:Option (Unit⊕(Unit)):=loop (λ(zz:Int)=>xz R13 t45 t46 zz) t47
theorem Gh(hR13:kn R13):OL 0 (cA qf5 503) (xz R13 t45 t46 t47) (λ(zz:Int)=>ka e t45 t46 zz) xC (oV e) (ka e t45 t46 t47):=qjX.lx<|
 tF (tb λx16 bx16=>tb λr17 br17=>tv (dJ.ia (k:=.i64) bx16)<|tv (aF x16)<|tx UO<|tx (y2 x16)<|tv (im x16 [])<|bG (hR13 _ _ br17)<|tF tE<|tE)<|tE
theorem v7(hR13:kn R13):OK 0 (.loop (cA qf5 503)) (rJ R13 t45 t46 t47) xC (oV e) (ka e t45 t46 t47):=AN λ_=>Gh _ _ _ _ _ hR13
end
section
variable(R13:ku)(t56:waE)(t57:Int)(t58:Int)
def kb:aK:=aQ 67 [(56,sl bE t56),(57,.int .i64 t57),(58,.int .i64 t58)] [.dead] []
def xE(o:Unit⊕(Unit)):Exit:=match o with
 |(.inl _)=>.ret
 |(.inr _)=>.exit 6
def oW(o:Unit⊕(Unit)):aK:=match o with
 |(.inl o)=>aQ 67 [(2,.bool false)] [.dead] []
 |(.inr o)=>aQ 67 [] [.dead] []
instance iS_W22_smallTypes_L5:KS 0 (kb t56 t57 t58):=⟨rfl,(bD (aI (up (aZ oc t56)) (aI vzz (aI vzz vzz)))),(aI vzz vzz)⟩
instance iO_W22_smallTypes_L5{o:Unit⊕(Unit)}:KS 0 (oW o):=match o with
 |(.inl o)=>⟨rfl,(bD (aI vzz vzz)),(aI vzz vzz)⟩
 |(.inr o)=>⟨rfl,(bD vzz),(aI vzz vzz)⟩
def xD:Option (Int⊕(Unit⊕(Unit))):=
 if decide (t58<t57)=true then
  (cX t56 t58).bind λx21=>
  (R13 x21.Body).bind λr22=>
  if(!r22)=true then
   some (.inr (.inl ()))
  else
   some (.inl (dt (t58+1)))
 else
  some (.inr (.inr ()))
def rK:Option (Unit⊕(Unit)):=loop (λ(zz:Int)=>xD R13 t56 t57 zz) t58
theorem Gi(hR13:kn R13):OL 0 (cA qf5 1015) (xD R13 t56 t57 t58) (λ(zz:Int)=>kb t56 t57 zz) xE oW (kb t56 t57 t58):=qjX.lx<|
 tF (tb λx21 bx21=>tb λr22 br22=>tv (gz.ia (k:=.i64) bx21)<|tv (yp x21)<|tx PF<|tx (wk x21)<|tv (im x21.Body [])<|bG (hR13 _ _ br22)<|tF tE<|tE)<|tE
theorem v8(hR13:kn R13):OK 0 (.loop (cA qf5 1015)) (rK R13 t56 t57 t58) xE oW (kb t56 t57 t58):=AN λ_=>Gi _ _ _ _ hR13
end
def n7(R13:ku)(e:ag):Option Bool:=
 (mA e).bind λo3=>
 if o3=true then
  some false
 else
  (rH e.Types (e.Types.length:Int) 0).bind λo9=>match o9 with
  |(.inl o9)=>
   some false
  | (.inr o9) =>
   (rI e.Params (e.Params.length:Int) 0).bind λo14=>match o14 with
   |(.inl o14)=>
    some false
   | (.inr o14) =>
    (rJ R13 e.Kids (e.Kids.length:Int) 0).bind λo19=>match o19 with
    |(.inl o19)=>
     some false
    | (.inr o19) =>
     (rK R13 e.Alts (e.Alts.length:Int) 0).bind λo24=>match o24 with
     |(.inl o24)=>
      some false
     |(.inr o24)=>
      some true
theorem Kp(R13:ku)(hR13:kn R13){e:ag}:OV 26 [.agg (ah e)] (n7 R13 e) (λr=>.bool r) []:=qjX.v<|
 tb λo3 bo3=>te (bQ e)<|fc 1<|bT (Hw e _ bo3)<|tF tE<|tw (aw e)<|bL (cu.ln e.Types)<|t2 (λo9 bo9=>bT (vZ e e.Types (e.Types.length:Int) 0 _ bo9)<|tE) λo9 bo9=>bT (vZ e e.Types (e.Types.length:Int) 0 _ bo9)<|tw (aS e)<|bL (pj.ln e.Params)<|t2 (λo14 bo14=>bT (v6 e e.Params (e.Params.length:Int) 0 _ bo14)<|tE) λo14 bo14=>bT (v6 e e.Params (e.Params.length:Int) 0 _ bo14)<|tw (aq e)<|bL (dJ.ln e.Kids)<|t2 (λo19 bo19=>bT (v7 R13 e e.Kids (e.Kids.length:Int) 0 hR13 _ bo19)<|tE) λo19 bo19=>bT (v7 R13 e e.Kids (e.Kids.length:Int) 0 hR13 _ bo19)<|tw (aB e)<|bL (gz.ln e.Alts)<|t2 (λo24 bo24=>bT (v8 R13 e.Alts (e.Alts.length:Int) 0 hR13 _ bo24)<|tE) λo24 bo24=>bT (v8 R13 e.Alts (e.Alts.length:Int) 0 hR13 _ bo24)<|tE
def uf:(ag->Option Bool)->(ag)->Option Bool:=λ(rec:ag->Option Bool) (x:ag)=>n7 (λe=>rec e) x
def zK(e:ag):Option Bool:=pA uf e
theorem L0{e:ag}:OV 26 [.agg (ah e)] (zK e) (λr=>.bool r) []:=Do λ_ h=>
 dN (F:=uf) (M:=λ(x:ag) (r:Bool)=>CC Pg GE 26 [.agg (ah x)] (.bool r) []) (λrec hrec x r h=>Kp _ (λe=>Do λr h=>hrec e r h) _ h) h
noncomputable def b9:Code:=Tryz.f9.body.getD .skip
def A9:List Nat:=[]
theorem Z9:ZF Pg A9 9 Tryz.f9 b9:=zf call9 func9 rfl mixed
def C3(e:ag):Option Bool:=
 (Iq e).bind λr1=>
 if decide (r1<=200)=true then
  (zK e).bind λr4=>
  some r4
 else
  some false
theorem n8{e:ag}:OV 9 [.agg (ah e)] (C3 e) (λr=>.bool r) []:=Z9.v<|
 tb λr1 br1=>te (bQ e)<|have pp3:=λ{X Y Z} (r:PV _ X Y Z)=>tv (aF e)<|bG (LI _ br1)<|r;tf (λc2=>tb λr4 br4=>pp3<|tg 4 c2<|tv (aF e)<|bG (L0 _ br4)<|tE) λc2=>pp3<|tg 4 c2<|tE
noncomputable def qtg:Code:=f30.body.getD .skip
def qrW:List Nat:=[]
theorem qsN:ZF Pg qrW 30 f30 qtg:=zf call30 func30 rfl mixed
def Hx(s:ae):Option ag:=
 some (⟨3,s,0,([]:List ag),([]:List cP),([]:List cK),([]:List af)⟩:ag)
theorem px{s:ae}:OV 30 [.str s] (Hx s) (λr=>.agg (ah r)) [(3,36),(4,114),(5,116),(6,30)]:=qsN.va<|
 tx UO<|QT (Wy 3 s) (Ws 3 s)<|ty (cp (⟨3,s,0,([]:List ag),([]:List cP),([]:List cK),([]:List af)⟩:ag))<|CR λq=>aI (OS (⟨3,s,0,([]:List ag),([]:List cP),([]:List cK),([]:List af)⟩:ag)) q.2
noncomputable def qth:Code:=f31.body.getD .skip
def qrX:List Nat:=[]
theorem qsO:ZF Pg qrX 31 f31 qth:=zf call31 func31 rfl mixed
def qaQ(k:Int):Option ag:=
 some (⟨1,([]:ae),k,([]:List ag),([]:List cP),([]:List cK),([]:List af)⟩:ag)
theorem Sa{k:Int}:OV 31 [.int .i64 k] (qaQ k) (λr=>.agg (ah r)) [(3,36),(4,114),(5,116),(6,30)]:=qsO.va<|
 tx UO<|QT (Wz 1 k) (Wt 1 k)<|ty (cp (⟨1,([]:ae),k,([]:List ag),([]:List cP),([]:List cK),([]:List af)⟩:ag))<|CR λq=>aI (OS (⟨1,([]:ae),k,([]:List ag),([]:List cP),([]:List cK),([]:List af)⟩:ag)) q.2
noncomputable def qtf:Code:=f29.body.getD .skip
def qrV:List Nat:=[]
theorem qsM:ZF Pg qrV 29 f29 qtf:=zf call29 func29 rfl mixed
def Et(a:Int)(a2:waD):Option ag:=
 some (⟨a,([]:ae),0,a2,([]:List cP),([]:List cK),([]:List af)⟩:ag)
theorem qH{a:Int}{a2:waD}:OV 29 [.int .i64 a,sl ah a2] (Et a a2) (λr=>.agg (ah r)) [(4,114),(5,116),(6,30)]:=qsM.va<|
 tx UO<|QT (WA a a2) (Wu a a2)<|ty (cp (⟨a,([]:ae),0,a2,([]:List cP),([]:List cK),([]:List af)⟩:ag))<|CR λq=>aI (OS (⟨a,([]:ae),0,a2,([]:List cP),([]:List cK),([]:List af)⟩:ag)) q.2
noncomputable def qtr:Code:=f72.body.getD .skip
def qsk:List Nat:=[12]
theorem qsY:ZF Pg qsk 72 f72 qtr:=zf call72 func72 rfl mixed
def fa(s:ae)(k0:(List Int))(k02:Bool):Option (Int×Unit×(List Int)):=
 (Ks k0 k02).bind λr1=>
 (qdY k0 s).bind λl2=>
 some ((s.length:Int),(),l2)
theorem uy{s:ae}{k0:(List Int)}{k02:Bool}:OG 72 [.bptr 0 0,.str s] [] [.cells [.nptr 0 76,sl (cI .u8) k0,.bool k02] [(1,5)]] (fa s k0 k02) (λr=>.tuple [.int .i64 r.1,.val .nilIface]) [] (λr=>[.cells [.nptr 0 76,sl (cI .u8) r.2.2,.bool k02] [(1,5)]]):=qsY.g 1<|
 tb λr1 br1=>tb λl2 bl2=>tc [0] (Uf br1)<|ti (.z [sl (cI .u8) l2]) (qgu qjG underlying9 (by kernel_rfl) (by kernel_rfl) (by kernel_rfl) bl2)<|bL (lR underlying9 s)<|tE
noncomputable def qqc:Code:=f33.body.getD .skip
def qrY:List Nat:=[]
theorem qq2:ZF Pg qrY 33 f33 qqc:=zf call33 func33 rfl mixed
section
variable(t6:waA)(t7:Int)(m2:Bool)(t8:Int)(m:(List Int))
def mi:aK:=aQ 18 [(0,.bptr 0 0),(6,sl cS t6),(7,.int .i64 t7),(8,.int .i64 t8)] [.cells [.nptr 0 76,sl (cI .u8) m,.bool m2] [(1,5)]] []
def tN(o:(List Int)):aK:=aQ 18 [] [.cells [.nptr 0 76,sl (cI .u8) o,.bool m2] [(1,5)]] []
def fN:Option ((Int×(List Int))⊕(((List Int)))):=
 if decide (t8<t7)=true then
  (cX t6 t8).bind λx2=>
  (fa x2 m m2).bind λr3=>
  some (.inl (dt (t8+1),r3.2.2))
 else
  some (.inr m)
def ph:Option (((List Int))):=loop (λ(zz:Int×(List Int))=>fN t6 t7 m2 zz.1 zz.2) (t8,m)
theorem DD:OL 1 (cA qqc 15) (fN t6 t7 m2 t8 m) (λ(zz:Int×(List Int))=>mi t6 t7 m2 zz.1 zz.2) (λ_=>.exit 0) (tN m2) (mi t6 t7 m2 t8 m):=qq2.l<|
 tF (tb λx2 bx2=>tb λr3 br3=>tv (d8.ia (k:=.i64) bx2)<|tv (eC XC (.str x2) [])<|tc [0] (uy _ br3)<|tE)<|tE
theorem E2:OJ 1 (.loop (cA qqc 15)) (ph t6 t7 m2 t8 m) (.exit 0) (tN m2) (mi t6 t7 m2 t8 m):=y1 λ_=>DD _ _ _ _ _
end
def al(a:waA)(k0:(List Int))(k02:Bool):Option ((List Int)):=
 (ph a (a.length:Int) k02 0 k0).bind λo4=>
 some o4
theorem ak{a:waA}{k0:(List Int)}{k02:Bool}:OG 33 [.bptr 0 0,sl cS a] [] [.cells [.nptr 0 76,sl (cI .u8) k0,.bool k02] [(1,5)]] (al a k0 k02) (λr=>.tuple []) [] (λr=>[.cells [.nptr 0 76,sl (cI .u8) r,.bool k02] [(1,5)]]):=qq2.g 1<|
 tb λo4 bo4=>bL (d8.ln a)<|bT (E2 a (a.length:Int) k02 0 k0 _ bo4)<|tE
def Ij(a:ag)(a2:ag):Option Bool:=none
theorem Ik{a:ag}{a2:ag}:OV 80 [.agg (ah a),.agg (ah a2)] (Ij a a2) (λr=>.bool r) []:=Do λr h=>by cases(show(none:Option _)=some r from h)
noncomputable def qiW:Code:=f177.body.getD .skip
def qm6:List Nat:=[23]
theorem qkq:ZF Pg qm6 177 f177 qiW:=zf call177 func177 rfl mixed
section
variable(s:ae)(i:Int)
def zV:aK:=aQ 24 [(0,.str s),(5,.int .i64 i)] [] []
def HT(o:(ae×ae)⊕(Unit)):Exit:=match o with
 |(.inl _)=>.ret
 |(.inr _)=>.exit 0
def HU(o:(ae×ae)⊕(Unit)):aK:=match o with
 |(.inl o)=>aQ 24 [(2,.str o.1),(3,.str o.2),(4,.bool true)] [] []
 |(.inr o)=>aQ 24 [(0,.str s)] [] []
def nx:Option (Int⊕((ae×ae)⊕(Unit))):=
 if decide (i<(s.length:Int))=true then
  (jC s i).bind λc2=>
  if(c2==46)=true then
   (OY s none (some i)).bind λs4=>
   (OY s (some (dt (i+1))) none).bind λs5=>
   some (.inr (.inl (s4,s5)))
  else
   some (.inl (dt (i+1)))
 else
  some (.inr (.inr ()))
def EA:Option ((ae×ae)⊕(Unit)):=loop (λ(zz:Int)=>nx s zz) i
theorem Oo:OL 0 (cA qiW 55) (nx s i) (λ(zz:Int)=>zV s zz) HT (HU s) (zV s i):=qkq.l<|
 bL (lR underlying9 s)<|tF (tb λc2 bc2=>tv (fF (k:=.i64) underlying9 bc2)<|tF (tb λs4 bs4=>tb λs5 bs5=>VE [0,0,3,0,0,16,56,7,255,511]<|tv (Nd underlying9 bs4)<|tv (Nd underlying9 bs5)<|tE)<|tE)<|tE
theorem FB:OK 0 (.loop (cA qiW 55)) (EA s i) HT (HU s) (zV s i):=AN λ_=>Oo _ _
end
def Dl(s:ae):Option (ae×ae×Bool):=
 (EA s 0).bind λo6=>match o6 with
 |(.inl o6)=>
  some (o6.1,o6.2,true)
 |(.inr o6)=>
  some (s,([]:ae),false)
theorem Mx{s:ae}:OV 177 [.str s] (Dl s) (λr=>.tuple [.str r.1,.str r.2.1,.bool r.2.2]) []:=qkq.v<|
 t2 (λo6 bo6=>bT (FB s 0 _ bo6)<|tE) λo6 bo6=>bT (FB s 0 _ bo6)<|tE
noncomputable def qpF:Code:=f180.body.getD .skip
def qm9:List Nat:=[]
theorem qoF:ZF Pg qm9 180 f180 qpF:=zf call180 func180 rfl mixed
def qP(s:ae):Option Bool:=
 if decide ((s.length:Int)>=1)=true then
  some (decide ((s.length:Int)<=24))
 else
  some false
theorem kF{s:ae}:OV 180 [.str s] (qP s) (λr=>.bool r) []:=qoF.v<|
 tf (λc1=>bL (lR underlying9 s)<|tg 4 c1<|bL (lR underlying9 s)<|tE) λc1=>bL (lR underlying9 s)<|tg 4 c1<|tE
noncomputable def qp0:Code:=f222.body.getD .skip
def qnK:List Nat:=[]
theorem qoZ:ZF Pg qnK 222 f222 qp0:=zf call222 func222 rfl mixed
def ny(c:Int):Option Bool:=
 if decide (97<=c)=true then
  some (decide (c<=122))
 else
  some false
theorem rY{c:Int}:OV 222 [.int .u8 c] (ny c) (λr=>.bool r) []:=qoZ.v<|
 tf (λc1=>tg 3 c1<|tE) λc1=>tg 3 c1<|tE
noncomputable def qi5:Code:=f223.body.getD .skip
def qnL:List Nat:=[]
theorem qkz:ZF Pg qnL 223 f223 qi5:=zf call223 func223 rfl mixed
section
variable(s:ae)(t6:Int)
def qq:aK:=aQ 13 [(0,.str s),(5,.agg (dO.map PVal.str)),(6,.int .i64 t6)] [] []
def zT(o:Unit⊕(Unit)):Exit:=match o with
 |(.inl _)=>.ret
 |(.inr _)=>.exit 0
def zU(o:Unit⊕(Unit)):aK:=match o with
 |(.inl o)=>aQ 13 [(2,.bool true)] [] []
 |(.inr o)=>aQ 13 [] [] []
def iC:Option (Int⊕(Unit⊕(Unit))):=
 if decide (t6<42)=true then
  (cX dO t6).bind λx2=>
  if(x2==s)=true then
   some (.inr (.inl ()))
  else
   some (.inl (dt (t6+1)))
 else
  some (.inr (.inr ()))
def uk:Option (Unit⊕(Unit)):=loop (λ(zz:Int)=>iC s zz) t6
theorem HS:OL 0 (cA qi5 55) (iC s t6) (λ(zz:Int)=>qq s zz) zT zU (qq s t6):=qkz.l<|
 tF (tb λx2 bx2=>tv (My (k:=.i64) bx2)<|tF tE<|tE)<|tE
theorem xK:OK 0 (.loop (cA qi5 55)) (uk s t6) zT zU (qq s t6):=AN λ_=>HS _ _
end
def u7(s:ae):Option Bool:=
 (uk s 0).bind λo4=>match o4 with
 |(.inl o4)=>
  some true
 |(.inr o4)=>
  some false
theorem On{s:ae}:OV 223 [.str s] (u7 s) (λr=>.bool r) []:=qkz.v<|
 tv Mz<|t2 (λo4 bo4=>bT (xK s 0 _ bo4)<|tE) λo4 bo4=>bT (xK s 0 _ bo4)<|tE
noncomputable def qp1:Code:=f224.body.getD .skip
def qnM:List Nat:=[]
theorem qo0:ZF Pg qnM 224 f224 qp1:=zf call224 func224 rfl mixed
def qO(c:Int):Option Bool:=
 if decide (48<=c)=true then
  some (decide (c<=57))
 else
  some false
theorem zX{c:Int}:OV 224 [.int .u8 c] (qO c) (λr=>.bool r) []:=qo0.v<|
 tf (λc1=>tg 3 c1<|tE) λc1=>tg 3 c1<|tE
end Go.Proofs.YtibglelmlnfojaaGreatDoor
