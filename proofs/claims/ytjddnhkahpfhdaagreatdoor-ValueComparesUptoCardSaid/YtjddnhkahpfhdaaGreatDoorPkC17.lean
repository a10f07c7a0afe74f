/- PROVED: a part of the proof. Conditions: none. -/
import Derived.Test.YtjddnhkahpfhdaaGreatDoorPkC16
import Derived.Test.YtjddnhkahpfhdaaGreatDoorPkC13
import Derived.Test.YtjddnhkahpfhdaaGreatDoorPkC9
set_option linter.unusedSimpArgs false
set_option linter.unusedVariables false
noncomputable section
namespace Go.Proofs.YtjddnhkahpfhdaaGreatDoor
open Go Go.Proofs.Tryz
set_option linter.unusedVariables false
set_option linter.defProp false
set_option maxRecDepth 100000
noncomputable def XM:Code:=f76.body.getD .skip
theorem Xw:ZF Pg [] 76 f76 XM:=zf call76 func76 rfl mixed
def lO(a:cD)(a2:cD):Option Bool:=
 if(a.Name==a2.Name)=true then
  (fJ cr a.Type_ a2.Type_).bind λr3=>
  some r3
 else
  some false
theorem AS{a:cD}{a2:cD}:OV 76 [.agg (aJ a),.agg (aJ a2)] (lO a a2) (λr=>.bool r) []:=Xw.v<|
 te (GL a)<|te (GL a2)<|have pp2:=λ{X Y Z} (r:PV _ X Y Z)=>tw (gQ a)<|tw (gQ a2)<|r;tf (λc1=>tb λr3 br3=>pp2<|tg 6 c1<|tw (gb a)<|tw (gb a2)<|bV (oF cr (λ_ _=>ie) _ br3)<|tE) λc1=>pp2<|tg 6 c1<|tE
noncomputable def VB:Code:=f75.body.getD .skip
theorem WK:ZF Pg [19] 75 f75 VB:=zf call75 func75 rfl mixed
section
variable(s2:(List cD))(t15:(List cD))(t16:Int)(t17:Int)
def db:az:=cc 32 [(1,sl aJ s2),(2,.func (.func 76) [] []),(15,sl aJ t15),(16,.int .i64 t16),(17,.int .i64 t17)] [] []
def ib(o:Unit⊕(Unit)):Exit:=match o with
 |(.inl _)=>.ret
 |(.inr _)=>.exit 0
def eK(o:Unit⊕(Unit)):az:=match o with
 |(.inl o)=>cc 32 [(6,.bool false)] [] []
 |(.inr o)=>cc 32 [] [] []
instance iS_slices_EqualFunc_Same_1_L1:KS 0 (db s2 t15 t16 t17):=ks 0 rfl
instance iO_slices_EqualFunc_Same_1_L1{o:Unit⊕(Unit)}:KS 0 (eK o):=match o with
 |(.inl o)=>ks 0 rfl
 |(.inr o)=>ks 0 rfl
def bX:Option (Int⊕(Unit⊕(Unit))):=
 if decide (t17<t16)=true then
  (dn t15 t17).bind λx3=>
  (dn s2 t17).bind λx4=>
  (lO x3 x4).bind λr5=>
  if(!r5)=true then
   some (.inr (.inl ()))
  else
   some (.inl (bw (t17+1)))
 else
  some (.inr (.inr ()))
def fj:Option (Unit⊕(Unit)):=loop (λ(zz:Int)=>bX s2 t15 t16 zz) t17
theorem lq:OL 0 (cA VB 119) (bX s2 t15 t16 t17) (λ(zz:Int)=>db s2 t15 t16 zz) ib eK (db s2 t15 t16 t17):=WK.lx<|
 tF (tb λx3 bx3=>tb λx4 bx4=>tb λr5 br5=>tv (En.ia (k:=.i64) bx3)<|tv (Gv x3)<|tx Uy<|tx (D3 x3)<|tv (En.ia (k:=.i64) bx4)<|tv (Gv x4)<|tx Uy<|tx (D3 x4)<|tv (DR x3 [])<|tv (DR x4 [])<|bV (AS _ br5)<|tF tE<|tE)<|tE
theorem gJ:OK 0 (.loop (cA VB 119)) (fj s2 t15 t16 t17) ib eK (db s2 t15 t16 t17):=Iy λ_=>lq _ _ _ _
end
def eE(s1:(List cD))(s2:(List cD)):Option Bool:=
 if((s1.length:Int)!=(s2.length:Int))=true then
  some false
 else
  (fj s2 s1 (s1.length:Int) 0).bind λo7=>match o7 with
  |(.inl o7)=>
   some false
  |(.inr o7)=>
   some true
theorem oB{s1:(List cD)}{s2:(List cD)}:OV 75 [sl aJ s1,sl aJ s2,.func (.func 76) [] []] (eE s1 s2) (λr=>.bool r) []:=WK.v<|
 cE (En.ln s1)<|cE (En.ln s2)<|tF tE<|cE (En.ln s1)<|t2 (λo7 bo7=>eo (gJ s2 s1 (s1.length:Int) 0 _ bo7)<|tE) λo7 bo7=>eo (gJ s2 s1 (s1.length:Int) 0 _ bo7)<|tE
noncomputable def XN:Code:=f78.body.getD .skip
theorem Xx:ZF Pg [] 78 f78 XN:=zf call78 func78 rfl mixed
def lP(R45:eR)(a:dR)(a2:dR):Option Bool:=
 if(a.Con==a2.Con)=true then
  (jq a.Names a2.Names).bind λr3=>
  if r3=true then
   (R45 a.Body a2.Body).bind λr6=>
   some r6
  else
   some false
 else
  some false
theorem AT(R45:eR)(hR45:jG R45){a:dR}{a2:dR}:OV 78 [.agg (bm a),.agg (bm a2)] (lP R45 a a2) (λr=>.bool r) []:=Xx.v<|
 te (Me a)<|te (Me a2)<|have pp2:=λ{X Y Z} (r:PV _ X Y Z)=>tw (lh a)<|tw (lh a2)<|r;tf (λc1=>tb λr3 br3=>have pp5:=λ{X Y Z} (r:PV _ X Y Z)=>pp2<|tg 6 c1<|tw (iO a)<|tw (iO a2)<|bV (mC _ br3)<|r;tf (λc4=>tb λr6 br6=>pp5<|tg 13 c4<|tw (iP a)<|tw (iP a2)<|bV (hR45 _ _ _ br6)<|tE) λc4=>pp5<|tg 13 c4<|tE) λc1=>pp2<|tg 6 c1<|tE
noncomputable def VC:Code:=f77.body.getD .skip
theorem WL:ZF Pg [19] 77 f77 VC:=zf call77 func77 rfl mixed
section
variable(R45:eR)(s2:(List dR))(t15:(List dR))(t16:Int)(t17:Int)
def dc:az:=cc 32 [(1,sl bm s2),(2,.func (.func 78) [] []),(15,sl bm t15),(16,.int .i64 t16),(17,.int .i64 t17)] [] []
def ic(o:Unit⊕(Unit)):Exit:=match o with
 |(.inl _)=>.ret
 |(.inr _)=>.exit 0
def eL(o:Unit⊕(Unit)):az:=match o with
 |(.inl o)=>cc 32 [(6,.bool false)] [] []
 |(.inr o)=>cc 32 [] [] []
instance iS_slices_EqualFunc_Same_2_L1:KS 0 (dc s2 t15 t16 t17):=ks 0 rfl
instance iO_slices_EqualFunc_Same_2_L1{o:Unit⊕(Unit)}:KS 0 (eL o):=match o with
 |(.inl o)=>ks 0 rfl
 |(.inr o)=>ks 0 rfl
def bY:Option (Int⊕(Unit⊕(Unit))):=
 if decide (t17<t16)=true then
  (dn t15 t17).bind λx3=>
  (dn s2 t17).bind λx4=>
  (lP R45 x3 x4).bind λr5=>
  if(!r5)=true then
   some (.inr (.inl ()))
  else
   some (.inl (bw (t17+1)))
 else
  some (.inr (.inr ()))
def fk:Option (Unit⊕(Unit)):=loop (λ(zz:Int)=>bY R45 s2 t15 t16 zz) t17
theorem lr(hR45:jG R45):OL 0 (cA VC 119) (bY R45 s2 t15 t16 t17) (λ(zz:Int)=>dc s2 t15 t16 zz) ic eL (dc s2 t15 t16 t17):=WL.lx<|
 tF (tb λx3 bx3=>tb λx4 bx4=>tb λr5 br5=>tv (Cm.ia (k:=.i64) bx3)<|tv (L2 x3)<|tx Uz<|tx (Ju x3)<|tv (Cm.ia (k:=.i64) bx4)<|tv (L2 x4)<|tx Uz<|tx (Ju x4)<|tv (Jh x3 [])<|tv (Jh x4 [])<|bV (AT R45 hR45 _ br5)<|tF tE<|tE)<|tE
theorem gK(hR45:jG R45):OK 0 (.loop (cA VC 119)) (fk R45 s2 t15 t16 t17) ic eL (dc s2 t15 t16 t17):=Iy λ_=>lr _ _ _ _ _ hR45
end
def eG(R45:eR)(s1:(List dR))(s2:(List dR)):Option Bool:=
 if((s1.length:Int)!=(s2.length:Int))=true then
  some false
 else
  (fk R45 s2 s1 (s1.length:Int) 0).bind λo7=>match o7 with
  |(.inl o7)=>
   some false
  |(.inr o7)=>
   some true
theorem oC(R45:eR)(hR45:jG R45){s1:(List dR)}{s2:(List dR)}:OV 77 [sl bm s1,sl bm s2,.func (.func 78) [] []] (eG R45 s1 s2) (λr=>.bool r) []:=WL.v<|
 cE (Cm.ln s1)<|cE (Cm.ln s2)<|tF tE<|cE (Cm.ln s1)<|t2 (λo7 bo7=>eo (gK R45 s2 s1 (s1.length:Int) 0 hR45 _ bo7)<|tE) λo7 bo7=>eo (gK R45 s2 s1 (s1.length:Int) 0 hR45 _ bo7)<|tE
noncomputable def XF:Code:=f51.body.getD .skip
theorem Xs:ZF Pg [] 51 f51 XF:=zf call51 func51 rfl mixed
def lQ (R44:bH) (R45:eR) (a:al) (a2:al):Option Bool :=
 if (a.Op == a2.Op) = true then
  if (a.Name == a2.Name) = true then
   if (a.N == a2.N) = true then
    (R44 a.Kids a2.Kids).bind λr7=>
    if r7=true then
     (cr a.Types a2.Types).bind λr10=>
     if r10=true then
      (eE a.Params a2.Params).bind λr13=>
      if r13=true then
       (eG R45 a.Alts a2.Alts).bind λr16=>
       some r16
      else
       some false
     else
      some false
    else
     some false
   else
    some false
  else
   some false
 else
  some false
theorem Cn(R44:bH)(hR44:dj R44)(R45:eR)(hR45:jG R45){a:al}{a2:al}:OV 51 [.agg (ak a),.agg (ak a2)] (lQ R44 R45 a a2) (λr=>.bool r) []:=Xs.v<|
 te (y0 a)<|te (y0 a2)<|have pp2:=λ{X Y Z} (r:PV _ X Y Z)=>tw (od a)<|tw (od a2)<|r;tf (λc1=>have pp4:=λ{X Y Z} (r:PV _ X Y Z)=>pp2<|tg 6 c1<|tw (iQ a)<|tw (iQ a2)<|r;tf (λc3=>have pp6:=λ{X Y Z} (r:PV _ X Y Z)=>pp4<|tg 13 c3<|tw (pA a)<|tw (pA a2)<|r;tf (λc5=>tb λr7 br7=>have pp9:=λ{X Y Z} (r:PV _ X Y Z)=>pp6<|tg 20 c5<|tw (eb a)<|tw (eb a2)<|bV (hR44 _ _ _ br7)<|r;tf (λc8=>tb λr10 br10=>have pp12:=λ{X Y Z} (r:PV _ X Y Z)=>pp9<|tg 27 c8<|tw (gP a)<|tw (gP a2)<|bV (ie _ br10)<|r;tf (λc11=>tb λr13 br13=>have pp15:=λ{X Y Z} (r:PV _ X Y Z)=>pp12<|tg 34 c11<|tw (cH a)<|tw (cH a2)<|bV (oB _ br13)<|r;tf (λc14=>tb λr16 br16=>pp15<|tg 41 c14<|tw (ct a)<|tw (ct a2)<|bV (oC R45 hR45 _ br16)<|tE) λc14=>pp15<|tg 41 c14<|tE) λc11=>pp12<|tg 34 c11<|tE) λc8=>pp9<|tg 27 c8<|tE) λc5=>pp6<|tg 20 c5<|tE) λc3=>pp4<|tg 13 c3<|tE) λc1=>pp2<|tg 6 c1<|tE
def qk(R44:bH):((al×al)->Option Bool)->(al×al)->Option Bool:=λ(rec:(al×al)->Option Bool) (x:al×al)=>lQ R44 (λa a2=>rec (a,a2)) x.1 x.2
def vq(R44:bH)(a:al)(a2:al):Option Bool:=oc (qk R44) (a,a2)
theorem Ew(R44:bH)(hR44:dj R44){a:al}{a2:al}:OV 51 [.agg (ak a),.agg (ak a2)] (vq R44 a a2) (λr=>.bool r) []:=pM λ_ h=>
 cV (F:=qk R44) (M:=λ(x:al×al) (r:Bool)=>CC Pg GE 51 [.agg (ak x.1),.agg (ak x.2)] (.bool r) []) (λrec hrec x r h=>Cn R44 hR44 _ (λa a2=>pM λr h=>hrec (a,a2) r h) _ h) h
noncomputable def Vx:Code:=f50.body.getD .skip
theorem WC:ZF Pg [19] 50 f50 Vx:=zf call50 func50 rfl mixed
section
variable(R44:bH)(s2:waG)(t15:waG)(t16:Int)(t17:Int)
def dH:az:=cc 32 [(1,sl ak s2),(2,.func (.func 51) [] []),(15,sl ak t15),(16,.int .i64 t16),(17,.int .i64 t17)] [] []
def i8(o:Unit⊕(Unit)):Exit:=match o with
 |(.inl _)=>.ret
 |(.inr _)=>.exit 0
def fl(o:Unit⊕(Unit)):az:=match o with
 |(.inl o)=>cc 32 [(6,.bool false)] [] []
 |(.inr o)=>cc 32 [] [] []
instance iS_slices_EqualFunc_Same_L1:KS 0 (dH s2 t15 t16 t17):=ks 0 rfl
instance iO_slices_EqualFunc_Same_L1{o:Unit⊕(Unit)}:KS 0 (fl o):=match o with
 |(.inl o)=>ks 0 rfl
 |(.inr o)=>ks 0 rfl
def co:Option (Int⊕(Unit⊕(Unit))):=
 if decide (t17<t16)=true then
  (dn t15 t17).bind λx3=>
  (dn s2 t17).bind λx4=>
  (vq R44 x3 x4).bind λr5=>
  if(!r5)=true then
   some (.inr (.inl ()))
  else
   some (.inl (bw (t17+1)))
 else
  some (.inr (.inr ()))
def fX:Option (Unit⊕(Unit)):=loop (λ(zz:Int)=>co R44 s2 t15 t16 zz) t17
theorem mz(hR44:dj R44):OL 0 (cA Vx 119) (co R44 s2 t15 t16 t17) (λ(zz:Int)=>dH s2 t15 t16 zz) i8 fl (dH s2 t15 t16 t17):=WC.lx<|
 tF (tb λx3 bx3=>tb λx4 bx4=>tb λr5 br5=>tv (zb.ia (k:=.i64) bx3)<|tv (uK x3)<|tx Uw<|tx (GN x3)<|tv (zb.ia (k:=.i64) bx4)<|tv (uK x4)<|tx Uw<|tx (GN x4)<|tv (Gy x3 [])<|tv (Gy x4 [])<|bV (Ew R44 hR44 _ br5)<|tF tE<|tE)<|tE
theorem iV(hR44:dj R44):OK 0 (.loop (cA Vx 119)) (fX R44 s2 t15 t16 t17) i8 fl (dH s2 t15 t16 t17):=Iy λ_=>mz _ _ _ _ _ hR44
end
def eH(R44:bH)(s1:waG)(s2:waG):Option Bool:=
 if((s1.length:Int)!=(s2.length:Int))=true then
  some false
 else
  (fX R44 s2 s1 (s1.length:Int) 0).bind λo7=>match o7 with
  |(.inl o7)=>
   some false
  |(.inr o7)=>
   some true
theorem oW(R44:bH)(hR44:dj R44){s1:waG}{s2:waG}:OV 50 [sl ak s1,sl ak s2,.func (.func 51) [] []] (eH R44 s1 s2) (λr=>.bool r) []:=WC.v<|
 cE (zb.ln s1)<|cE (zb.ln s2)<|tF tE<|cE (zb.ln s1)<|t2 (λo7 bo7=>eo (iV R44 s2 s1 (s1.length:Int) 0 hR44 _ bo7)<|tE) λo7 bo7=>eo (iV R44 s2 s1 (s1.length:Int) 0 hR44 _ bo7)<|tE
def gD:((waG×waG)->Option Bool)->(waG×waG)->Option Bool:=λ(rec:(waG×waG)->Option Bool) (x:waG×waG)=>eH (λs1 s2=>rec (s1,s2)) x.1 x.2
def iG(s1:waG)(s2:waG):Option Bool:=oc gD (s1,s2)
theorem qh{s1:waG}{s2:waG}:OV 50 [sl ak s1,sl ak s2,.func (.func 51) [] []] (iG s1 s2) (λr=>.bool r) []:=pM λ_ h=>
 cV (F:=gD) (M:=λ(x:waG×waG) (r:Bool)=>CC Pg GE 50 [sl ak x.1,sl ak x.2,.func (.func 51) [] []] (.bool r) []) (λrec hrec x r h=>oW _ (λs1 s2=>pM λr h=>hrec (s1,s2) r h) _ h) h
noncomputable def XG:Code:=f53.body.getD .skip
theorem Xt:ZF Pg [] 53 f53 XG:=zf call53 func53 rfl mixed
def nz(R41:dz)(a:aB)(a2:aB):Option Bool:=
 if(a.Name==a2.Name)=true then
  (R41 a.Value a2.Value).bind λr3=>
  some r3
 else
  some false
theorem Cr(R41:dz)(hR41:fL R41){a:aB}{a2:aB}:OV 53 [.agg (aP a),.agg (aP a2)] (nz R41 a a2) (λr=>.bool r) []:=Xt.v<|
 te (Js a)<|te (Js a2)<|have pp2:=λ{X Y Z} (r:PV _ X Y Z)=>tw (kc a)<|tw (kc a2)<|r;tf (λc1=>tb λr3 br3=>pp2<|tg 6 c1<|tw (jB a)<|tw (jB a2)<|bV (hR41 _ _ _ br3)<|tE) λc1=>pp2<|tg 6 c1<|tE
noncomputable def Vy:Code:=f52.body.getD .skip
theorem WD:ZF Pg [19] 52 f52 Vy:=zf call52 func52 rfl mixed
section
variable(R41:dz)(s2:waI)(t15:waI)(t16:Int)(t17:Int)
def eD:az:=cc 32 [(1,sl aP s2),(2,.func (.func 53) [] []),(15,sl aP t15),(16,.int .i64 t16),(17,.int .i64 t17)] [] []
def ky(o:Unit⊕(Unit)):Exit:=match o with
 |(.inl _)=>.ret
 |(.inr _)=>.exit 0
def gC(o:Unit⊕(Unit)):az:=match o with
 |(.inl o)=>cc 32 [(6,.bool false)] [] []
 |(.inr o)=>cc 32 [] [] []
instance iS_slices_EqualFunc_3_L1:KS 0 (eD s2 t15 t16 t17):=ks 0 rfl
instance iO_slices_EqualFunc_3_L1{o:Unit⊕(Unit)}:KS 0 (gC o):=match o with
 |(.inl o)=>ks 0 rfl
 |(.inr o)=>ks 0 rfl
def cG:Option (Int⊕(Unit⊕(Unit))):=
 if decide (t17<t16)=true then
  (dn t15 t17).bind λx3=>
  (dn s2 t17).bind λx4=>
  (nz R41 x3 x4).bind λr5=>
  if(!r5)=true then
   some (.inr (.inl ()))
  else
   some (.inl (bw (t17+1)))
 else
  some (.inr (.inr ()))
def iE:Option (Unit⊕(Unit)):=loop (λ(zz:Int)=>cG R41 s2 t15 t16 zz) t17
theorem oV(hR41:fL R41):OL 0 (cA Vy 119) (cG R41 s2 t15 t16 t17) (λ(zz:Int)=>eD s2 t15 t16 zz) ky gC (eD s2 t15 t16 t17):=WD.lx<|
 tF (tb λx3 bx3=>tb λx4 bx4=>tb λr5 br5=>tv (Il.ia (k:=.i64) bx3)<|tv (Jg x3)<|tx RX<|tx (GM x3)<|tv (Il.ia (k:=.i64) bx4)<|tv (Jg x4)<|tx RX<|tx (GM x4)<|tv (Gw x3 [])<|tv (Gw x4 [])<|bV (Cr R41 hR41 _ br5)<|tF tE<|tE)<|tE
theorem jS(hR41:fL R41):OK 0 (.loop (cA Vy 119)) (iE R41 s2 t15 t16 t17) ky gC (eD s2 t15 t16 t17):=Iy λ_=>oV _ _ _ _ _ hR41
end
def gY(R41:dz)(s1:waI)(s2:waI):Option Bool:=
 if((s1.length:Int)!=(s2.length:Int))=true then
  some false
 else
  (iE R41 s2 s1 (s1.length:Int) 0).bind λo7=>match o7 with
  |(.inl o7)=>
   some false
  |(.inr o7)=>
   some true
theorem tG(R41:dz)(hR41:fL R41){s1:waI}{s2:waI}:OV 52 [sl aP s1,sl aP s2,.func (.func 53) [] []] (gY R41 s1 s2) (λr=>.bool r) []:=WD.v<|
 cE (Il.ln s1)<|cE (Il.ln s2)<|tF tE<|cE (Il.ln s1)<|t2 (λo7 bo7=>eo (jS R41 s2 s1 (s1.length:Int) 0 hR41 _ bo7)<|tE) λo7 bo7=>eo (jS R41 s2 s1 (s1.length:Int) 0 hR41 _ bo7)<|tE
noncomputable def WQ:Code:=f18.body.getD .skip
theorem Ww:ZF Pg [] 18 f18 WQ:=zf call18 func18 rfl mixed
section
variable(v:aa)(v2:aa)
def qo:Option Bool:=
 if(v.Op !=v2.Op)=true then
  some true
 else if(v.N !=v2.N)=true then
  some true
 else if(!(v.Name==v2.Name))=true then
  some true
 else
  some ((v.Body.length:Int)!=(v2.Body.length:Int))
theorem A6:OU 0 (cA WQ 12) (qo v v2) .normal (λo=>[(32,.bool o)]) (cc 59 [(2,.eptr (ac v)),(3,.eptr (ac v2))] [.dead,.dead] []):=Ww.j<|
 have pp2:=λ{X Y Z} (r:PV _ X Y Z)=>tw (bA v)<|tw (bA v2)<|r;tf (λc1=>pp2<|tg 6 c1<|tE) λc1=>have pp4:=λ{X Y Z} (r:PV _ X Y Z)=>pp2<|tg 6 c1<|tw (aS v)<|tw (aS v2)<|r;tf (λc3=>pp4<|tg 13 c3<|tE) λc3=>have pp6:=λ{X Y Z} (r:PV _ X Y Z)=>pp4<|tg 13 c3<|tw (bJ v)<|tw (bJ v2)<|r;tf (λc5=>pp6<|tg 20 c5<|tE) λc5=>pp6<|tg 20 c5<|tw (cW v)<|cE (zb.ln v.Body)<|tw (cW v2)<|cE (zb.ln v2.Body)<|tE
end
def nB(R41:dz)(a:aa)(a2:aa):Option Bool:=
 (qo a a2).bind λo7=>
 if o7=true then
  some false
 else
  (jr R41 a.Kids a2.Kids).bind λr9=>
  if r9=true then
   (jq a.Params a2.Params).bind λr12=>
   if r12=true then
    (iG a.Body a2.Body).bind λr15=>
    if r15=true then
     (gY R41 a.Binds a2.Binds).bind λr18=>
     some r18
    else
     some false
   else
    some false
  else
   some false
theorem EE(R41:dz)(hR41:fL R41){a:aa}{a2:aa}:OV 18 [.agg (ac a),.agg (ac a2)] (nB R41 a a2) (λr=>.bool r) []:=Ww.v<|
 tb λo7 bo7=>te (dP a)<|te (dP a2)<|tH 1<|eo (A6 a a2 _ bo7)<|tF tE<|tb λr9 br9=>have pp11:=λ{X Y Z} (r:PV _ X Y Z)=>tw (bh a)<|tw (bh a2)<|bV (wq R41 hR41 _ br9)<|r;tf (λc10=>tb λr12 br12=>have pp14:=λ{X Y Z} (r:PV _ X Y Z)=>pp11<|tg 6 c10<|tw (gd a)<|tw (gd a2)<|bV (mC _ br12)<|r;tf (λc13=>tb λr15 br15=>have pp17:=λ{X Y Z} (r:PV _ X Y Z)=>pp14<|tg 13 c13<|tw (cW a)<|tw (cW a2)<|bV (qh _ br15)<|r;tf (λc16=>tb λr18 br18=>pp17<|tg 20 c16<|tw (dO a)<|tw (dO a2)<|bV (tG R41 hR41 _ br18)<|tE) λc16=>pp17<|tg 20 c16<|tE) λc13=>pp14<|tg 13 c13<|tE) λc10=>pp11<|tg 6 c10<|tE
def sA:((aa×aa)->Option Bool)->(aa×aa)->Option Bool:=λ(rec:(aa×aa)->Option Bool) (x:aa×aa)=>nB (λa a2=>rec (a,a2)) x.1 x.2
def sy(a:aa)(a2:aa):Option Bool:=oc sA (a,a2)
theorem eZ{a:aa}{a2:aa}:OV 18 [.agg (ac a),.agg (ac a2)] (sy a a2) (λr=>.bool r) []:=pM λ_ h=>
 cV (F:=sA) (M:=λ(x:aa×aa) (r:Bool)=>CC Pg GE 18 [.agg (ac x.1),.agg (ac x.2)] (.bool r) []) (λrec hrec x r h=>EE _ (λa a2=>pM λr h=>hrec (a,a2) r h) _ h) h
noncomputable def XA:Code:=f16.body.getD .skip
theorem Xo:ZF Pg [] 16 f16 XA:=zf call16 func16 rfl mixed
def ED(m:am)(v:aa)(t:ae):Option Bool:=
 (xY m v).bind λr1=>
 if r1.2=true then
  (sq r1.1 t).bind λr3=>
  some r3
 else
  some false
theorem FV{m:am}{v:aa}{t:ae}:OV 16 [.agg (aq m),.agg (ac v),.agg (af t)] (ED m v t) (λr=>.bool r) []:=Xo.v<|
 tb λr1 br1=>te (fU m)<|te (dP v)<|te (kH t)<|tv (eJ m)<|tv (aK v)<|bV (wX _ br1)<|tx AN<|tx (jn r1.1)<|tf (λc2=>tb λr3 br3=>tg 2 c2<|tv (fH r1.1 [])<|tv (fT t)<|bV (wR _ br3)<|tE) λc2=>tg 2 c2<|tE
noncomputable def Xy:Code:=f10.body.getD .skip
theorem Xm:ZF Pg [] 10 f10 Xy:=zf call10 func10 rfl mixed
def qy:Option Bool:=
 (xi 1).bind λr1=>
 (xW (⟨([(⟨([73,110,116,76,105,115,116]:ai),([]:List ai),([]:List ch),([(⟨([78,105,108]:ai),([]:List ai),([]:List ae)⟩:aO),(⟨([67,111,110,115]:ai),([([120]:ai),([114,101,115,116]:ai)]:List ai),([(⟨1,([]:ai),([]:List ae),([]:List ai),(⟨0,([]:ai),0,([]:List ah)⟩:ah),([]:List ah)⟩:ae),(⟨4,([73,110,116,76,105,115,116]:ai),([]:List ae),([]:List ai),(⟨0,([]:ai),0,([]:List ah)⟩:ah),([]:List ah)⟩:ae)]:List ae)⟩:aO)]:List aO)⟩:aM)]:List aM),([]:List di),([]:List bB),([]:List bP),([]:List eY),([]:List ga)⟩:am) (⟨4,([73,110,116,76,105,115,116]:ai),([]:List ae),([]:List ai),(⟨0,([]:ai),0,([]:List ah)⟩:ah),([]:List ah)⟩:ae) 3 100).bind λr2=>
 (xW (⟨([(⟨([73,110,116,76,105,115,116]:ai),([]:List ai),([]:List ch),([(⟨([78,105,108]:ai),([]:List ai),([]:List ae)⟩:aO),(⟨([67,111,110,115]:ai),([([120]:ai),([114,101,115,116]:ai)]:List ai),([(⟨1,([]:ai),([]:List ae),([]:List ai),(⟨0,([]:ai),0,([]:List ah)⟩:ah),([]:List ah)⟩:ae),(⟨4,([73,110,116,76,105,115,116]:ai),([]:List ae),([]:List ai),(⟨0,([]:ai),0,([]:List ah)⟩:ah),([]:List ah)⟩:ae)]:List ae)⟩:aO)]:List aO)⟩:aM)]:List aM),([]:List di),([]:List bB),([]:List bP),([]:List eY),([]:List ga)⟩:am) (⟨2,([]:ai),([]:List ae),([]:List ai),(⟨0,([]:ai),0,([]:List ah)⟩:ah),([]:List ah)⟩:ae) 7 100).bind λr3=>
 (xY (⟨([(⟨([73,110,116,76,105,115,116]:ai),([]:List ai),([]:List ch),([(⟨([78,105,108]:ai),([]:List ai),([]:List ae)⟩:aO),(⟨([67,111,110,115]:ai),([([120]:ai),([114,101,115,116]:ai)]:List ai),([(⟨1,([]:ai),([]:List ae),([]:List ai),(⟨0,([]:ai),0,([]:List ah)⟩:ah),([]:List ah)⟩:ae),(⟨4,([73,110,116,76,105,115,116]:ai),([]:List ae),([]:List ai),(⟨0,([]:ai),0,([]:List ah)⟩:ah),([]:List ah)⟩:ae)]:List ae)⟩:aO)]:List aO)⟩:aM)]:List aM),([]:List di),([]:List bB),([]:List bP),([]:List eY),([]:List ga)⟩:am) (⟨3,0,([67,111,110,115]:ai),([r1,(⟨3,0,([78,105,108]:ai),([]:List aa),([]:List ai),([]:List al),([]:List aB)⟩:aa)]:List aa),([]:List ai),([]:List al),([]:List aB)⟩:aa)).bind λr4=>
 (ly (⟨3,0,([67,111,110,115]:ai),([r1,(⟨3,0,([78,105,108]:ai),([]:List aa),([]:List ai),([]:List al),([]:List aB)⟩:aa)]:List aa),([]:List ai),([]:List al),([]:List aB)⟩:aa)).bind λr5=>
 if (r5 == 3) = true then
  (sB (⟨3,0,([67,111,110,115]:ai),([r1,(⟨3,0,([78,105,108]:ai),([]:List aa),([]:List ai),([]:List al),([]:List aB)⟩:aa)]:List aa),([]:List ai),([]:List al),([]:List aB)⟩:aa)).bind λr7=>
  if (r7 == ([67,111,110,115,32,40,49,44,32,78,105,108,41]:ai)) = true then
   if ((r2.length:Int) == 6) = true then
    (dn r2 0).bind λx10=>
    (sB x10).bind λr11=>
    if (r11 == ([78,105,108]:ai)) = true then
     (dn r2 1).bind λx13=>
     (sB x13).bind λr14=>
     if (r14 == ([67,111,110,115,32,40,45,50,44,32,78,105,108,41]:ai)) = true then
      (dn r2 4).bind λx16=>
      (sy x16 (⟨3,0,([67,111,110,115]:ai),([r1,(⟨3,0,([78,105,108]:ai),([]:List aa),([]:List ai),([]:List al),([]:List aB)⟩:aa)]:List aa),([]:List ai),([]:List al),([]:List aB)⟩:aa)).bind λr17=>
      if r17=true then
       if ((r3.length:Int) == 2) = true then
        (dn r3 0).bind λx20=>
        if (x20.N == 0) = true then
         (xi 1000000000001).bind λr22=>
         (kz (⟨([(⟨([73,110,116,76,105,115,116]:ai),([]:List ai),([]:List ch),([(⟨([78,105,108]:ai),([]:List ai),([]:List ae)⟩:aO),(⟨([67,111,110,115]:ai),([([120]:ai),([114,101,115,116]:ai)]:List ai),([(⟨1,([]:ai),([]:List ae),([]:List ai),(⟨0,([]:ai),0,([]:List ah)⟩:ah),([]:List ah)⟩:ae),(⟨4,([73,110,116,76,105,115,116]:ai),([]:List ae),([]:List ai),(⟨0,([]:ai),0,([]:List ah)⟩:ah),([]:List ah)⟩:ae)]:List ae)⟩:aO)]:List aO)⟩:aM)]:List aM),([]:List di),([]:List bB),([]:List bP),([]:List eY),([]:List ga)⟩:am) r22).bind λr23=>
         if (r23 == 2) = true then
          if(r4.1.Name==([73,110,116,76,105,115,116]:ai))=true then
           if r4.2=true then
            (ED (⟨([(⟨([73,110,116,76,105,115,116]:ai),([]:List ai),([]:List ch),([(⟨([78,105,108]:ai),([]:List ai),([]:List ae)⟩:aO),(⟨([67,111,110,115]:ai),([([120]:ai),([114,101,115,116]:ai)]:List ai),([(⟨1,([]:ai),([]:List ae),([]:List ai),(⟨0,([]:ai),0,([]:List ah)⟩:ah),([]:List ah)⟩:ae),(⟨4,([73,110,116,76,105,115,116]:ai),([]:List ae),([]:List ai),(⟨0,([]:ai),0,([]:List ah)⟩:ah),([]:List ah)⟩:ae)]:List ae)⟩:aO)]:List aO)⟩:aM)]:List aM),([]:List di),([]:List bB),([]:List bP),([]:List eY),([]:List ga)⟩:am) (⟨3,0,([67,111,110,115]:ai),([r1,(⟨3,0,([78,105,108]:ai),([]:List aa),([]:List ai),([]:List al),([]:List aB)⟩:aa)]:List aa),([]:List ai),([]:List al),([]:List aB)⟩:aa) (⟨4,([73,110,116,76,105,115,116]:ai),([]:List ae),([]:List ai),(⟨0,([]:ai),0,([]:List ah)⟩:ah),([]:List ah)⟩:ae)).bind λr27=>
            some r27
           else
            some false
          else
           some false
         else
          some false
        else
         some false
       else
        some false
      else
       some false
     else
      some false
    else
     some false
   else
    some false
  else
   some false
 else
  some false
theorem rB:OV 10 [] qy (λr=>.bool r) []:=Xm.v<|
 tb λr1 br1=>tb λr2 br2=>tb λr3 br3=>tb λr4 br4=>tb λr5 br5=>FM (rH 4 ([73,110,116,76,105,115,116]:ai)) (rG 4 ([73,110,116,76,105,115,116]:ai))<|tx AN<|ty (aV (⟨4,([73,110,116,76,105,115,116]:ai),([]:List ae),([]:List ai),(⟨0,([]:ai),0,([]:List ah)⟩:ah),([]:List ah)⟩:ae))<|FM (ME ([78,105,108]:ai)) (MD ([78,105,108]:ai))<|tv (Um [([120]:ai),([114,101,115,116]:ai)] 2 rfl)<|FM (nY 1) (nW 1)<|tv (fH (⟨4,([73,110,116,76,105,115,116]:ai),([]:List ae),([]:List ai),(⟨0,([]:ai),0,([]:List ah)⟩:ah),([]:List ah)⟩:ae) [])<|tv (fe.mk' (v:=pX) ll ([(⟨1,([]:ai),([]:List ae),([]:List ai),(⟨0,([]:ai),0,([]:List ah)⟩:ah),([]:List ah)⟩:ae),(⟨4,([73,110,116,76,105,115,116]:ai),([]:List ae),([]:List ai),(⟨0,([]:ai),0,([]:List ah)⟩:ah),([]:List ah)⟩:ae)]:List ae) 2 (by kernel_rfl))<|tv (E4 ([67,111,110,115]:ai) ([([120]:ai),([114,101,115,116]:ai)]:List ai) ([(⟨1,([]:ai),([]:List ae),([]:List ai),(⟨0,([]:ai),0,([]:List ah)⟩:ah),([]:List ah)⟩:ae),(⟨4,([73,110,116,76,105,115,116]:ai),([]:List ae),([]:List ai),(⟨0,([]:ai),0,([]:List ah)⟩:ah),([]:List ah)⟩:ae)]:List ae))<|tv (Im.mk' (v:=Qd) PB ([(⟨([78,105,108]:ai),([]:List ai),([]:List ae)⟩:aO),(⟨([67,111,110,115]:ai),([([120]:ai),([114,101,115,116]:ai)]:List ai),([(⟨1,([]:ai),([]:List ae),([]:List ai),(⟨0,([]:ai),0,([]:List ah)⟩:ah),([]:List ah)⟩:ae),(⟨4,([73,110,116,76,105,115,116]:ai),([]:List ae),([]:List ai),(⟨0,([]:ai),0,([]:List ah)⟩:ah),([]:List ah)⟩:ae)]:List ae)⟩:aO)]:List aO) 2 (by kernel_rfl))<|FM (Hh ([73,110,116,76,105,115,116]:ai) ([(⟨([78,105,108]:ai),([]:List ai),([]:List ae)⟩:aO),(⟨([67,111,110,115]:ai),([([120]:ai),([114,101,115,116]:ai)]:List ai),([(⟨1,([]:ai),([]:List ae),([]:List ai),(⟨0,([]:ai),0,([]:List ah)⟩:ah),([]:List ah)⟩:ae),(⟨4,([73,110,116,76,105,115,116]:ai),([]:List ae),([]:List ai),(⟨0,([]:ai),0,([]:List ah)⟩:ah),([]:List ah)⟩:ae)]:List ae)⟩:aO)]:List aO)) (Hf ([73,110,116,76,105,115,116]:ai) ([(⟨([78,105,108]:ai),([]:List ai),([]:List ae)⟩:aO),(⟨([67,111,110,115]:ai),([([120]:ai),([114,101,115,116]:ai)]:List ai),([(⟨1,([]:ai),([]:List ae),([]:List ai),(⟨0,([]:ai),0,([]:List ah)⟩:ah),([]:List ah)⟩:ae),(⟨4,([73,110,116,76,105,115,116]:ai),([]:List ae),([]:List ai),(⟨0,([]:ai),0,([]:List ah)⟩:ah),([]:List ah)⟩:ae)]:List ae)⟩:aO)]:List aO))<|tv (AQ.mk' (v:=Mu) Nq ([(⟨([73,110,116,76,105,115,116]:ai),([]:List ai),([]:List ch),([(⟨([78,105,108]:ai),([]:List ai),([]:List ae)⟩:aO),(⟨([67,111,110,115]:ai),([([120]:ai),([114,101,115,116]:ai)]:List ai),([(⟨1,([]:ai),([]:List ae),([]:List ai),(⟨0,([]:ai),0,([]:List ah)⟩:ah),([]:List ah)⟩:ae),(⟨4,([73,110,116,76,105,115,116]:ai),([]:List ae),([]:List ai),(⟨0,([]:ai),0,([]:List ah)⟩:ah),([]:List ah)⟩:ae)]:List ae)⟩:aO)]:List aO)⟩:aM)]:List aM) 1 (by kernel_rfl))<|FM (Hi ([(⟨([73,110,116,76,105,115,116]:ai),([]:List ai),([]:List ch),([(⟨([78,105,108]:ai),([]:List ai),([]:List ae)⟩:aO),(⟨([67,111,110,115]:ai),([([120]:ai),([114,101,115,116]:ai)]:List ai),([(⟨1,([]:ai),([]:List ae),([]:List ai),(⟨0,([]:ai),0,([]:List ah)⟩:ah),([]:List ah)⟩:ae),(⟨4,([73,110,116,76,105,115,116]:ai),([]:List ae),([]:List ai),(⟨0,([]:ai),0,([]:List ah)⟩:ah),([]:List ah)⟩:ae)]:List ae)⟩:aO)]:List aO)⟩:aM)]:List aM)) (Hg ([(⟨([73,110,116,76,105,115,116]:ai),([]:List ai),([]:List ch),([(⟨([78,105,108]:ai),([]:List ai),([]:List ae)⟩:aO),(⟨([67,111,110,115]:ai),([([120]:ai),([114,101,115,116]:ai)]:List ai),([(⟨1,([]:ai),([]:List ae),([]:List ai),(⟨0,([]:ai),0,([]:List ah)⟩:ah),([]:List ah)⟩:ae),(⟨4,([73,110,116,76,105,115,116]:ai),([]:List ae),([]:List ai),(⟨0,([]:ai),0,([]:List ah)⟩:ah),([]:List ah)⟩:ae)]:List ae)⟩:aO)]:List aO)⟩:aM)]:List aM))<|tx Wc<|ty (rN (⟨([(⟨([73,110,116,76,105,115,116]:ai),([]:List ai),([]:List ch),([(⟨([78,105,108]:ai),([]:List ai),([]:List ae)⟩:aO),(⟨([67,111,110,115]:ai),([([120]:ai),([114,101,115,116]:ai)]:List ai),([(⟨1,([]:ai),([]:List ae),([]:List ai),(⟨0,([]:ai),0,([]:List ah)⟩:ah),([]:List ah)⟩:ae),(⟨4,([73,110,116,76,105,115,116]:ai),([]:List ae),([]:List ai),(⟨0,([]:ai),0,([]:List ah)⟩:ah),([]:List ah)⟩:ae)]:List ae)⟩:aO)]:List aO)⟩:aM)]:List aM),([]:List di),([]:List bB),([]:List bP),([]:List eY),([]:List ga)⟩:am))<|bV (jJ _ br1)<|FM (E5 3 ([78,105,108]:ai)) (E3 3 ([78,105,108]:ai))<|tv (bz.mk' (v:=oJ) lm ([r1,(⟨3,0,([78,105,108]:ai),([]:List aa),([]:List ai),([]:List al),([]:List aB)⟩:aa)]:List aa) 2 (by kernel_rfl))<|FM (sH 3 ([67,111,110,115]:ai) ([r1,(⟨3,0,([78,105,108]:ai),([]:List aa),([]:List ai),([]:List al),([]:List aB)⟩:aa)]:List aa)) (Ck 3 ([67,111,110,115]:ai) ([r1,(⟨3,0,([78,105,108]:ai),([]:List aa),([]:List ai),([]:List al),([]:List aB)⟩:aa)]:List aa))<|tx wo<|ty (aZ (⟨3,0,([67,111,110,115]:ai),([r1,(⟨3,0,([78,105,108]:ai),([]:List aa),([]:List ai),([]:List al),([]:List aB)⟩:aa)]:List aa),([]:List ai),([]:List al),([]:List aB)⟩:aa))<|tv (gG (⟨([(⟨([73,110,116,76,105,115,116]:ai),([]:List ai),([]:List ch),([(⟨([78,105,108]:ai),([]:List ai),([]:List ae)⟩:aO),(⟨([67,111,110,115]:ai),([([120]:ai),([114,101,115,116]:ai)]:List ai),([(⟨1,([]:ai),([]:List ae),([]:List ai),(⟨0,([]:ai),0,([]:List ah)⟩:ah),([]:List ah)⟩:ae),(⟨4,([73,110,116,76,105,115,116]:ai),([]:List ae),([]:List ai),(⟨0,([]:ai),0,([]:List ah)⟩:ah),([]:List ah)⟩:ae)]:List ae)⟩:aO)]:List aO)⟩:aM)]:List aM),([]:List di),([]:List bB),([]:List bP),([]:List eY),([]:List ga)⟩:am) [])<|tv (fH (⟨4,([73,110,116,76,105,115,116]:ai),([]:List ae),([]:List ai),(⟨0,([]:ai),0,([]:List ah)⟩:ah),([]:List ah)⟩:ae) [])<|bV (wV _ br2)<|tv (gG (⟨([(⟨([73,110,116,76,105,115,116]:ai),([]:List ai),([]:List ch),([(⟨([78,105,108]:ai),([]:List ai),([]:List ae)⟩:aO),(⟨([67,111,110,115]:ai),([([120]:ai),([114,101,115,116]:ai)]:List ai),([(⟨1,([]:ai),([]:List ae),([]:List ai),(⟨0,([]:ai),0,([]:List ah)⟩:ah),([]:List ah)⟩:ae),(⟨4,([73,110,116,76,105,115,116]:ai),([]:List ae),([]:List ai),(⟨0,([]:ai),0,([]:List ah)⟩:ah),([]:List ah)⟩:ae)]:List ae)⟩:aO)]:List aO)⟩:aM)]:List aM),([]:List di),([]:List bB),([]:List bP),([]:List eY),([]:List ga)⟩:am) [])<|FM (nY 2) (nW 2)<|bV (wV _ br3)<|tv (gG (⟨([(⟨([73,110,116,76,105,115,116]:ai),([]:List ai),([]:List ch),([(⟨([78,105,108]:ai),([]:List ai),([]:List ae)⟩:aO),(⟨([67,111,110,115]:ai),([([120]:ai),([114,101,115,116]:ai)]:List ai),([(⟨1,([]:ai),([]:List ae),([]:List ai),(⟨0,([]:ai),0,([]:List ah)⟩:ah),([]:List ah)⟩:ae),(⟨4,([73,110,116,76,105,115,116]:ai),([]:List ae),([]:List ai),(⟨0,([]:ai),0,([]:List ah)⟩:ah),([]:List ah)⟩:ae)]:List ae)⟩:aO)]:List aO)⟩:aM)]:List aM),([]:List di),([]:List bB),([]:List bP),([]:List eY),([]:List ga)⟩:am) [])<|tv (aF (⟨3,0,([67,111,110,115]:ai),([r1,(⟨3,0,([78,105,108]:ai),([]:List aa),([]:List ai),([]:List al),([]:List aB)⟩:aa)]:List aa),([]:List ai),([]:List al),([]:List aB)⟩:aa) [])<|bV (wX _ br4)<|tx AN<|tx (jn r4.1)<|tf (λc6=>tb λr7 br7=>tf (λc8=>tf (λc9=>tb λx10 bx10=>tb λr11 br11=>tf (λc12=>tb λx13 bx13=>tb λr14 br14=>tf (λc15=>tb λx16 bx16=>tb λr17 br17=>tf (λc18=>tf (λc19=>tb λx20 bx20=>tf (λc21=>tb λr22 br22=>tb λr23 br23=>tf (λc24=>tf (λc25=>tf (λc26=>tb λr27 br27=>tK [0,1,3,7,15,31,63,127,255,511,1023,2047,4095,8191,16383,32767,65535,131071,262143,524287,1048575,2097151,4194303,8388607,16777215,33554431,67108863,134217727,268435455,536870911,1073741823,268435455,4294967295,8589934591,17179869183,34359738367,68719476735,137438953471,274877906943,549755813887,1099511627775,2199023255551,4398046511103,8796093022207,17592186044415,35184372088831,70368744177663,140737488355327,140737488355327,562949953421311,1125899906842623,2251799813685247,4503599627370495,9007199254740991,18014398509481983,36028797018963967,72057594037927935,144115188075855871,288230376151711743,576460752303423487,1152921504606846975,2305843009213693951,2305843009213693951,2305843009213693951,18446744073709551615,36893488147419103231,73786976294838206463]<|tv (aF (⟨3,0,([67,111,110,115]:ai),([r1,(⟨3,0,([78,105,108]:ai),([]:List aa),([]:List ai),([]:List al),([]:List aB)⟩:aa)]:List aa),([]:List ai),([]:List al),([]:List aB)⟩:aa) [])<|bV (cp _ br5)<|tg 4 c6<|tv (aF (⟨3,0,([67,111,110,115]:ai),([r1,(⟨3,0,([78,105,108]:ai),([]:List aa),([]:List ai),([]:List al),([]:List aB)⟩:aa)]:List aa),([]:List ai),([]:List al),([]:List aB)⟩:aa) [])<|bV (aQ _ br7)<|tg 9 c8<|cE (bz.ln r2)<|tg 14 c9<|tv (bz.ia (k:=.i64) bx10)<|tv (aK x10)<|bV (aQ _ br11)<|tg 21 c12<|tv (bz.ia (k:=.i64) bx13)<|tv (aK x13)<|bV (aQ _ br14)<|tg 28 c15<|tv (bz.ia (k:=.i64) bx16)<|tv (aK x16)<|tv (aF (⟨3,0,([67,111,110,115]:ai),([r1,(⟨3,0,([78,105,108]:ai),([]:List aa),([]:List ai),([]:List al),([]:List aB)⟩:aa)]:List aa),([]:List ai),([]:List al),([]:List aB)⟩:aa) [])<|bV (eZ _ br17)<|tg 35 c18<|cE (bz.ln r3)<|tg 40 c19<|tv (bz.ia (k:=.i64) bx20)<|tw (aS x20)<|tg 47 c21<|tv (gG (⟨([(⟨([73,110,116,76,105,115,116]:ai),([]:List ai),([]:List ch),([(⟨([78,105,108]:ai),([]:List ai),([]:List ae)⟩:aO),(⟨([67,111,110,115]:ai),([([120]:ai),([114,101,115,116]:ai)]:List ai),([(⟨1,([]:ai),([]:List ae),([]:List ai),(⟨0,([]:ai),0,([]:List ah)⟩:ah),([]:List ah)⟩:ae),(⟨4,([73,110,116,76,105,115,116]:ai),([]:List ae),([]:List ai),(⟨0,([]:ai),0,([]:List ah)⟩:ah),([]:List ah)⟩:ae)]:List ae)⟩:aO)]:List aO)⟩:aM)]:List aM),([]:List di),([]:List bB),([]:List bP),([]:List eY),([]:List ga)⟩:am) [])<|bV (jJ _ br22)<|bV (fp _ br23)<|tg 53 c24<|ts<|tg 58 c25<|tg 61 c26<|tv (gG (⟨([(⟨([73,110,116,76,105,115,116]:ai),([]:List ai),([]:List ch),([(⟨([78,105,108]:ai),([]:List ai),([]:List ae)⟩:aO),(⟨([67,111,110,115]:ai),([([120]:ai),([114,101,115,116]:ai)]:List ai),([(⟨1,([]:ai),([]:List ae),([]:List ai),(⟨0,([]:ai),0,([]:List ah)⟩:ah),([]:List ah)⟩:ae),(⟨4,([73,110,116,76,105,115,116]:ai),([]:List ae),([]:List ai),(⟨0,([]:ai),0,([]:List ah)⟩:ah),([]:List ah)⟩:ae)]:List ae)⟩:aO)]:List aO)⟩:aM)]:List aM),([]:List di),([]:List bB),([]:List bP),([]:List eY),([]:List ga)⟩:am) [])<|tv (aF (⟨3,0,([67,111,110,115]:ai),([r1,(⟨3,0,([78,105,108]:ai),([]:List aa),([]:List ai),([]:List al),([]:List aB)⟩:aa)]:List aa),([]:List ai),([]:List al),([]:List aB)⟩:aa) [])<|tv (fH (⟨4,([73,110,116,76,105,115,116]:ai),([]:List ae),([]:List ai),(⟨0,([]:ai),0,([]:List ah)⟩:ah),([]:List ah)⟩:ae) [])<|bV (FV _ br27)<|tE) λc26=>tK [0,1,3,7,15,31,63,127,255,511,1023,2047,4095,8191,16383,32767,65535,131071,262143,524287,1048575,2097151,4194303,8388607,16777215,33554431,67108863,134217727,268435455,536870911,1073741823,268435455,4294967295,8589934591,17179869183,34359738367,68719476735,137438953471,274877906943,549755813887,1099511627775,2199023255551,4398046511103,8796093022207,17592186044415,35184372088831,70368744177663,140737488355327,140737488355327,562949953421311,1125899906842623,2251799813685247,4503599627370495,9007199254740991,18014398509481983,36028797018963967,72057594037927935,144115188075855871,288230376151711743,576460752303423487,1152921504606846975,2305843009213693951,2305843009213693951,2305843009213693951,18446744073709551615,36893488147419103231,73786976294838206463]<|tv (aF (⟨3,0,([67,111,110,115]:ai),([r1,(⟨3,0,([78,105,108]:ai),([]:List aa),([]:List ai),([]:List al),([]:List aB)⟩:aa)]:List aa),([]:List ai),([]:List al),([]:List aB)⟩:aa) [])<|bV (cp _ br5)<|tg 4 c6<|tv (aF (⟨3,0,([67,111,110,115]:ai),([r1,(⟨3,0,([78,105,108]:ai),([]:List aa),([]:List ai),([]:List al),([]:List aB)⟩:aa)]:List aa),([]:List ai),([]:List al),([]:List aB)⟩:aa) [])<|bV (aQ _ br7)<|tg 9 c8<|cE (bz.ln r2)<|tg 14 c9<|tv (bz.ia (k:=.i64) bx10)<|tv (aK x10)<|bV (aQ _ br11)<|tg 21 c12<|tv (bz.ia (k:=.i64) bx13)<|tv (aK x13)<|bV (aQ _ br14)<|tg 28 c15<|tv (bz.ia (k:=.i64) bx16)<|tv (aK x16)<|tv (aF (⟨3,0,([67,111,110,115]:ai),([r1,(⟨3,0,([78,105,108]:ai),([]:List aa),([]:List ai),([]:List al),([]:List aB)⟩:aa)]:List aa),([]:List ai),([]:List al),([]:List aB)⟩:aa) [])<|bV (eZ _ br17)<|tg 35 c18<|cE (bz.ln r3)<|tg 40 c19<|tv (bz.ia (k:=.i64) bx20)<|tw (aS x20)<|tg 47 c21<|tv (gG (⟨([(⟨([73,110,116,76,105,115,116]:ai),([]:List ai),([]:List ch),([(⟨([78,105,108]:ai),([]:List ai),([]:List ae)⟩:aO),(⟨([67,111,110,115]:ai),([([120]:ai),([114,101,115,116]:ai)]:List ai),([(⟨1,([]:ai),([]:List ae),([]:List ai),(⟨0,([]:ai),0,([]:List ah)⟩:ah),([]:List ah)⟩:ae),(⟨4,([73,110,116,76,105,115,116]:ai),([]:List ae),([]:List ai),(⟨0,([]:ai),0,([]:List ah)⟩:ah),([]:List ah)⟩:ae)]:List ae)⟩:aO)]:List aO)⟩:aM)]:List aM),([]:List di),([]:List bB),([]:List bP),([]:List eY),([]:List ga)⟩:am) [])<|bV (jJ _ br22)<|bV (fp _ br23)<|tg 53 c24<|ts<|tg 58 c25<|tg 61 c26<|tE) λc25=>tK [0,1,3,7,15,31,63,127,255,511,1023,2047,4095,8191,16383,32767,65535,131071,262143,524287,1048575,2097151,4194303,8388607,16777215,33554431,67108863,134217727,268435455,536870911,1073741823,268435455,4294967295,8589934591,17179869183,34359738367,68719476735,137438953471,274877906943,549755813887,1099511627775,2199023255551,4398046511103,8796093022207,17592186044415,35184372088831,70368744177663,140737488355327,140737488355327,562949953421311,1125899906842623,2251799813685247,4503599627370495,9007199254740991,18014398509481983,36028797018963967,72057594037927935,144115188075855871,288230376151711743,576460752303423487,1152921504606846975,2305843009213693951,2305843009213693951,2305843009213693951,18446744073709551615,36893488147419103231,73786976294838206463]<|tv (aF (⟨3,0,([67,111,110,115]:ai),([r1,(⟨3,0,([78,105,108]:ai),([]:List aa),([]:List ai),([]:List al),([]:List aB)⟩:aa)]:List aa),([]:List ai),([]:List al),([]:List aB)⟩:aa) [])<|bV (cp _ br5)<|tg 4 c6<|tv (aF (⟨3,0,([67,111,110,115]:ai),([r1,(⟨3,0,([78,105,108]:ai),([]:List aa),([]:List ai),([]:List al),([]:List aB)⟩:aa)]:List aa),([]:List ai),([]:List al),([]:List aB)⟩:aa) [])<|bV (aQ _ br7)<|tg 9 c8<|cE (bz.ln r2)<|tg 14 c9<|tv (bz.ia (k:=.i64) bx10)<|tv (aK x10)<|bV (aQ _ br11)<|tg 21 c12<|tv (bz.ia (k:=.i64) bx13)<|tv (aK x13)<|bV (aQ _ br14)<|tg 28 c15<|tv (bz.ia (k:=.i64) bx16)<|tv (aK x16)<|tv (aF (⟨3,0,([67,111,110,115]:ai),([r1,(⟨3,0,([78,105,108]:ai),([]:List aa),([]:List ai),([]:List al),([]:List aB)⟩:aa)]:List aa),([]:List ai),([]:List al),([]:List aB)⟩:aa) [])<|bV (eZ _ br17)<|tg 35 c18<|cE (bz.ln r3)<|tg 40 c19<|tv (bz.ia (k:=.i64) bx20)<|tw (aS x20)<|tg 47 c21<|tv (gG (⟨([(⟨([73,110,116,76,105,115,116]:ai),([]:List ai),([]:List ch),([(⟨([78,105,108]:ai),([]:List ai),([]:List ae)⟩:aO),(⟨([67,111,110,115]:ai),([([120]:ai),([114,101,115,116]:ai)]:List ai),([(⟨1,([]:ai),([]:List ae),([]:List ai),(⟨0,([]:ai),0,([]:List ah)⟩:ah),([]:List ah)⟩:ae),(⟨4,([73,110,116,76,105,115,116]:ai),([]:List ae),([]:List ai),(⟨0,([]:ai),0,([]:List ah)⟩:ah),([]:List ah)⟩:ae)]:List ae)⟩:aO)]:List aO)⟩:aM)]:List aM),([]:List di),([]:List bB),([]:List bP),([]:List eY),([]:List ga)⟩:am) [])<|bV (jJ _ br22)<|bV (fp _ br23)<|tg 53 c24<|ts<|tg 58 c25<|tE) λc24=>tK [0,1,3,7,15,31,63,127,255,511,1023,2047,4095,8191,16383,32767,65535,131071,262143,524287,1048575,2097151,4194303,8388607,16777215,33554431,67108863,134217727,268435455,536870911,1073741823,268435455,4294967295,8589934591,17179869183,34359738367,68719476735,137438953471,274877906943,549755813887,1099511627775,2199023255551,4398046511103,8796093022207,17592186044415,35184372088831,70368744177663,140737488355327,140737488355327,562949953421311,1125899906842623,2251799813685247,4503599627370495,9007199254740991,18014398509481983,36028797018963967,72057594037927935,144115188075855871,288230376151711743,576460752303423487,1152921504606846975,2305843009213693951,2305843009213693951,2305843009213693951,18446744073709551615,36893488147419103231,73786976294838206463]<|tv (aF (⟨3,0,([67,111,110,115]:ai),([r1,(⟨3,0,([78,105,108]:ai),([]:List aa),([]:List ai),([]:List al),([]:List aB)⟩:aa)]:List aa),([]:List ai),([]:List al),([]:List aB)⟩:aa) [])<|bV (cp _ br5)<|tg 4 c6<|tv (aF (⟨3,0,([67,111,110,115]:ai),([r1,(⟨3,0,([78,105,108]:ai),([]:List aa),([]:List ai),([]:List al),([]:List aB)⟩:aa)]:List aa),([]:List ai),([]:List al),([]:List aB)⟩:aa) [])<|bV (aQ _ br7)<|tg 9 c8<|cE (bz.ln r2)<|tg 14 c9<|tv (bz.ia (k:=.i64) bx10)<|tv (aK x10)<|bV (aQ _ br11)<|tg 21 c12<|tv (bz.ia (k:=.i64) bx13)<|tv (aK x13)<|bV (aQ _ br14)<|tg 28 c15<|tv (bz.ia (k:=.i64) bx16)<|tv (aK x16)<|tv (aF (⟨3,0,([67,111,110,115]:ai),([r1,(⟨3,0,([78,105,108]:ai),([]:List aa),([]:List ai),([]:List al),([]:List aB)⟩:aa)]:List aa),([]:List ai),([]:List al),([]:List aB)⟩:aa) [])<|bV (eZ _ br17)<|tg 35 c18<|cE (bz.ln r3)<|tg 40 c19<|tv (bz.ia (k:=.i64) bx20)<|tw (aS x20)<|tg 47 c21<|tv (gG (⟨([(⟨([73,110,116,76,105,115,116]:ai),([]:List ai),([]:List ch),([(⟨([78,105,108]:ai),([]:List ai),([]:List ae)⟩:aO),(⟨([67,111,110,115]:ai),([([120]:ai),([114,101,115,116]:ai)]:List ai),([(⟨1,([]:ai),([]:List ae),([]:List ai),(⟨0,([]:ai),0,([]:List ah)⟩:ah),([]:List ah)⟩:ae),(⟨4,([73,110,116,76,105,115,116]:ai),([]:List ae),([]:List ai),(⟨0,([]:ai),0,([]:List ah)⟩:ah),([]:List ah)⟩:ae)]:List ae)⟩:aO)]:List aO)⟩:aM)]:List aM),([]:List di),([]:List bB),([]:List bP),([]:List eY),([]:List ga)⟩:am) [])<|bV (jJ _ br22)<|bV (fp _ br23)<|tg 53 c24<|tE) λc21=>tK [0,1,3,7,15,31,63,127,255,511,1023,2047,4095,8191,16383,32767,65535,131071,262143,524287,1048575,2097151,4194303,8388607,16777215,33554431,67108863,134217727,268435455,536870911,1073741823,268435455,4294967295,8589934591,17179869183,34359738367,68719476735,137438953471,274877906943,549755813887,1099511627775,2199023255551,4398046511103,8796093022207,17592186044415,35184372088831,70368744177663,140737488355327,140737488355327,562949953421311,1125899906842623,2251799813685247,4503599627370495,9007199254740991,18014398509481983,36028797018963967,72057594037927935,144115188075855871,288230376151711743,576460752303423487,1152921504606846975,2305843009213693951,2305843009213693951,2305843009213693951,18446744073709551615,36893488147419103231,73786976294838206463]<|tv (aF (⟨3,0,([67,111,110,115]:ai),([r1,(⟨3,0,([78,105,108]:ai),([]:List aa),([]:List ai),([]:List al),([]:List aB)⟩:aa)]:List aa),([]:List ai),([]:List al),([]:List aB)⟩:aa) [])<|bV (cp _ br5)<|tg 4 c6<|tv (aF (⟨3,0,([67,111,110,115]:ai),([r1,(⟨3,0,([78,105,108]:ai),([]:List aa),([]:List ai),([]:List al),([]:List aB)⟩:aa)]:List aa),([]:List ai),([]:List al),([]:List aB)⟩:aa) [])<|bV (aQ _ br7)<|tg 9 c8<|cE (bz.ln r2)<|tg 14 c9<|tv (bz.ia (k:=.i64) bx10)<|tv (aK x10)<|bV (aQ _ br11)<|tg 21 c12<|tv (bz.ia (k:=.i64) bx13)<|tv (aK x13)<|bV (aQ _ br14)<|tg 28 c15<|tv (bz.ia (k:=.i64) bx16)<|tv (aK x16)<|tv (aF (⟨3,0,([67,111,110,115]:ai),([r1,(⟨3,0,([78,105,108]:ai),([]:List aa),([]:List ai),([]:List al),([]:List aB)⟩:aa)]:List aa),([]:List ai),([]:List al),([]:List aB)⟩:aa) [])<|bV (eZ _ br17)<|tg 35 c18<|cE (bz.ln r3)<|tg 40 c19<|tv (bz.ia (k:=.i64) bx20)<|tw (aS x20)<|tg 47 c21<|tE) λc19=>tK [0,1,3,7,15,31,63,127,255,511,1023,2047,4095,8191,16383,32767,65535,131071,262143,524287,1048575,2097151,4194303,8388607,16777215,33554431,67108863,134217727,268435455,536870911,1073741823,268435455,4294967295,8589934591,17179869183,34359738367,68719476735,137438953471,274877906943,549755813887,1099511627775,2199023255551,4398046511103,8796093022207,17592186044415,35184372088831,70368744177663,140737488355327,140737488355327,562949953421311,1125899906842623,2251799813685247,4503599627370495,9007199254740991,18014398509481983,36028797018963967,72057594037927935,144115188075855871,288230376151711743,576460752303423487,1152921504606846975,2305843009213693951,2305843009213693951,2305843009213693951,18446744073709551615,36893488147419103231,73786976294838206463]<|tv (aF (⟨3,0,([67,111,110,115]:ai),([r1,(⟨3,0,([78,105,108]:ai),([]:List aa),([]:List ai),([]:List al),([]:List aB)⟩:aa)]:List aa),([]:List ai),([]:List al),([]:List aB)⟩:aa) [])<|bV (cp _ br5)<|tg 4 c6<|tv (aF (⟨3,0,([67,111,110,115]:ai),([r1,(⟨3,0,([78,105,108]:ai),([]:List aa),([]:List ai),([]:List al),([]:List aB)⟩:aa)]:List aa),([]:List ai),([]:List al),([]:List aB)⟩:aa) [])<|bV (aQ _ br7)<|tg 9 c8<|cE (bz.ln r2)<|tg 14 c9<|tv (bz.ia (k:=.i64) bx10)<|tv (aK x10)<|bV (aQ _ br11)<|tg 21 c12<|tv (bz.ia (k:=.i64) bx13)<|tv (aK x13)<|bV (aQ _ br14)<|tg 28 c15<|tv (bz.ia (k:=.i64) bx16)<|tv (aK x16)<|tv (aF (⟨3,0,([67,111,110,115]:ai),([r1,(⟨3,0,([78,105,108]:ai),([]:List aa),([]:List ai),([]:List al),([]:List aB)⟩:aa)]:List aa),([]:List ai),([]:List al),([]:List aB)⟩:aa) [])<|bV (eZ _ br17)<|tg 35 c18<|cE (bz.ln r3)<|tg 40 c19<|tE) λc18=>tK [0,1,3,7,15,31,63,127,255,511,1023,2047,4095,8191,16383,32767,65535,131071,262143,524287,1048575,2097151,4194303,8388607,16777215,33554431,67108863,134217727,268435455,536870911,1073741823,268435455,4294967295,8589934591,17179869183,34359738367,68719476735,137438953471,274877906943,549755813887,1099511627775,2199023255551,4398046511103,8796093022207,17592186044415,35184372088831,70368744177663,140737488355327,140737488355327,562949953421311,1125899906842623,2251799813685247,4503599627370495,9007199254740991,18014398509481983,36028797018963967,72057594037927935,144115188075855871,288230376151711743,576460752303423487,1152921504606846975,2305843009213693951,2305843009213693951,2305843009213693951,18446744073709551615,36893488147419103231,73786976294838206463]<|tv (aF (⟨3,0,([67,111,110,115]:ai),([r1,(⟨3,0,([78,105,108]:ai),([]:List aa),([]:List ai),([]:List al),([]:List aB)⟩:aa)]:List aa),([]:List ai),([]:List al),([]:List aB)⟩:aa) [])<|bV (cp _ br5)<|tg 4 c6<|tv (aF (⟨3,0,([67,111,110,115]:ai),([r1,(⟨3,0,([78,105,108]:ai),([]:List aa),([]:List ai),([]:List al),([]:List aB)⟩:aa)]:List aa),([]:List ai),([]:List al),([]:List aB)⟩:aa) [])<|bV (aQ _ br7)<|tg 9 c8<|cE (bz.ln r2)<|tg 14 c9<|tv (bz.ia (k:=.i64) bx10)<|tv (aK x10)<|bV (aQ _ br11)<|tg 21 c12<|tv (bz.ia (k:=.i64) bx13)<|tv (aK x13)<|bV (aQ _ br14)<|tg 28 c15<|tv (bz.ia (k:=.i64) bx16)<|tv (aK x16)<|tv (aF (⟨3,0,([67,111,110,115]:ai),([r1,(⟨3,0,([78,105,108]:ai),([]:List aa),([]:List ai),([]:List al),([]:List aB)⟩:aa)]:List aa),([]:List ai),([]:List al),([]:List aB)⟩:aa) [])<|bV (eZ _ br17)<|tg 35 c18<|tE) λc15=>tK [0,1,3,7,15,31,63,127,255,511,1023,2047,4095,8191,16383,32767,65535,131071,262143,524287,1048575,2097151,4194303,8388607,16777215,33554431,67108863,134217727,268435455,536870911,1073741823,268435455,4294967295,8589934591,17179869183,34359738367,68719476735,137438953471,274877906943,549755813887,1099511627775,2199023255551,4398046511103,8796093022207,17592186044415,35184372088831,70368744177663,140737488355327,140737488355327,562949953421311,1125899906842623,2251799813685247,4503599627370495,9007199254740991,18014398509481983,36028797018963967,72057594037927935,144115188075855871,288230376151711743,576460752303423487,1152921504606846975,2305843009213693951,2305843009213693951,2305843009213693951,18446744073709551615,36893488147419103231,73786976294838206463]<|tv (aF (⟨3,0,([67,111,110,115]:ai),([r1,(⟨3,0,([78,105,108]:ai),([]:List aa),([]:List ai),([]:List al),([]:List aB)⟩:aa)]:List aa),([]:List ai),([]:List al),([]:List aB)⟩:aa) [])<|bV (cp _ br5)<|tg 4 c6<|tv (aF (⟨3,0,([67,111,110,115]:ai),([r1,(⟨3,0,([78,105,108]:ai),([]:List aa),([]:List ai),([]:List al),([]:List aB)⟩:aa)]:List aa),([]:List ai),([]:List al),([]:List aB)⟩:aa) [])<|bV (aQ _ br7)<|tg 9 c8<|cE (bz.ln r2)<|tg 14 c9<|tv (bz.ia (k:=.i64) bx10)<|tv (aK x10)<|bV (aQ _ br11)<|tg 21 c12<|tv (bz.ia (k:=.i64) bx13)<|tv (aK x13)<|bV (aQ _ br14)<|tg 28 c15<|tE) λc12=>tK [0,1,3,7,15,31,63,127,255,511,1023,2047,4095,8191,16383,32767,65535,131071,262143,524287,1048575,2097151,4194303,8388607,16777215,33554431,67108863,134217727,268435455,536870911,1073741823,268435455,4294967295,8589934591,17179869183,34359738367,68719476735,137438953471,274877906943,549755813887,1099511627775,2199023255551,4398046511103,8796093022207,17592186044415,35184372088831,70368744177663,140737488355327,140737488355327,562949953421311,1125899906842623,2251799813685247,4503599627370495,9007199254740991,18014398509481983,36028797018963967,72057594037927935,144115188075855871,288230376151711743,576460752303423487,1152921504606846975,2305843009213693951,2305843009213693951,2305843009213693951,18446744073709551615,36893488147419103231,73786976294838206463]<|tv (aF (⟨3,0,([67,111,110,115]:ai),([r1,(⟨3,0,([78,105,108]:ai),([]:List aa),([]:List ai),([]:List al),([]:List aB)⟩:aa)]:List aa),([]:List ai),([]:List al),([]:List aB)⟩:aa) [])<|bV (cp _ br5)<|tg 4 c6<|tv (aF (⟨3,0,([67,111,110,115]:ai),([r1,(⟨3,0,([78,105,108]:ai),([]:List aa),([]:List ai),([]:List al),([]:List aB)⟩:aa)]:List aa),([]:List ai),([]:List al),([]:List aB)⟩:aa) [])<|bV (aQ _ br7)<|tg 9 c8<|cE (bz.ln r2)<|tg 14 c9<|tv (bz.ia (k:=.i64) bx10)<|tv (aK x10)<|bV (aQ _ br11)<|tg 21 c12<|tE) λc9=>tK [0,1,3,7,15,31,63,127,255,511,1023,2047,4095,8191,16383,32767,65535,131071,262143,524287,1048575,2097151,4194303,8388607,16777215,33554431,67108863,134217727,268435455,536870911,1073741823,268435455,4294967295,8589934591,17179869183,34359738367,68719476735,137438953471,274877906943,549755813887,1099511627775,2199023255551,4398046511103,8796093022207,17592186044415,35184372088831,70368744177663,140737488355327,140737488355327,562949953421311,1125899906842623,2251799813685247,4503599627370495,9007199254740991,18014398509481983,36028797018963967,72057594037927935,144115188075855871,288230376151711743,576460752303423487,1152921504606846975,2305843009213693951,2305843009213693951,2305843009213693951,18446744073709551615,36893488147419103231,73786976294838206463]<|tv (aF (⟨3,0,([67,111,110,115]:ai),([r1,(⟨3,0,([78,105,108]:ai),([]:List aa),([]:List ai),([]:List al),([]:List aB)⟩:aa)]:List aa),([]:List ai),([]:List al),([]:List aB)⟩:aa) [])<|bV (cp _ br5)<|tg 4 c6<|tv (aF (⟨3,0,([67,111,110,115]:ai),([r1,(⟨3,0,([78,105,108]:ai),([]:List aa),([]:List ai),([]:List al),([]:List aB)⟩:aa)]:List aa),([]:List ai),([]:List al),([]:List aB)⟩:aa) [])<|bV (aQ _ br7)<|tg 9 c8<|cE (bz.ln r2)<|tg 14 c9<|tE) λc8=>tK [0,1,3,7,15,31,63,127,255,511,1023,2047,4095,8191,16383,32767,65535,131071,262143,524287,1048575,2097151,4194303,8388607,16777215,33554431,67108863,134217727,268435455,536870911,1073741823,268435455,4294967295,8589934591,17179869183,34359738367,68719476735,137438953471,274877906943,549755813887,1099511627775,2199023255551,4398046511103,8796093022207,17592186044415,35184372088831,70368744177663,140737488355327,140737488355327,562949953421311,1125899906842623,2251799813685247,4503599627370495,9007199254740991,18014398509481983,36028797018963967,72057594037927935,144115188075855871,288230376151711743,576460752303423487,1152921504606846975,2305843009213693951,2305843009213693951,2305843009213693951,18446744073709551615,36893488147419103231,73786976294838206463]<|tv (aF (⟨3,0,([67,111,110,115]:ai),([r1,(⟨3,0,([78,105,108]:ai),([]:List aa),([]:List ai),([]:List al),([]:List aB)⟩:aa)]:List aa),([]:List ai),([]:List al),([]:List aB)⟩:aa) [])<|bV (cp _ br5)<|tg 4 c6<|tv (aF (⟨3,0,([67,111,110,115]:ai),([r1,(⟨3,0,([78,105,108]:ai),([]:List aa),([]:List ai),([]:List al),([]:List aB)⟩:aa)]:List aa),([]:List ai),([]:List al),([]:List aB)⟩:aa) [])<|bV (aQ _ br7)<|tg 9 c8<|tE) λc6=>tK [0,1,3,7,15,31,63,127,255,511,1023,2047,4095,8191,16383,32767,65535,131071,262143,524287,1048575,2097151,4194303,8388607,16777215,33554431,67108863,134217727,268435455,536870911,1073741823,268435455,4294967295,8589934591,17179869183,34359738367,68719476735,137438953471,274877906943,549755813887,1099511627775,2199023255551,4398046511103,8796093022207,17592186044415,35184372088831,70368744177663,140737488355327,140737488355327,562949953421311,1125899906842623,2251799813685247,4503599627370495,9007199254740991,18014398509481983,36028797018963967,72057594037927935,144115188075855871,288230376151711743,576460752303423487,1152921504606846975,2305843009213693951,2305843009213693951,2305843009213693951,18446744073709551615,36893488147419103231,73786976294838206463]<|tv (aF (⟨3,0,([67,111,110,115]:ai),([r1,(⟨3,0,([78,105,108]:ai),([]:List aa),([]:List ai),([]:List al),([]:List aB)⟩:aa)]:List aa),([]:List ai),([]:List al),([]:List aB)⟩:aa) [])<|bV (cp _ br5)<|tg 4 c6<|tE
noncomputable def b5:Code:=Tryz.f5.body.getD .skip
theorem Z5:ZF Pg [] 5 Tryz.f5 b5:=zf call5 func5 rfl mixed
section
variable(m:am)(v:J0)
def fN:Option Bool:=
 (vG m).bind λr1=>
 if(!r1)=true then
  some true
 else
  (nF v.A0).bind λr4=>
  if(!r4)=true then
   some true
  else
   (nF v.A1).bind λr7=>
   if(!r7)=true then
    some true
   else
    (nF v.A2).bind λr10=>
    some (!r10)
theorem qv:OU 0 (cA b5 12) (fN m v) .normal (λo=>[(28,.bool o)]) (cc 101 [(2,.eptr (aq m)),(3,.eptr (iK v))] [.dead,.dead] []):=Z5.j<|
 tb λr1 br1=>have pp3:=λ{X Y Z} (r:PV _ X Y Z)=>tv (eJ m)<|bV (G8 _ br1)<|r;tf (λc2=>pp3<|tg 4 c2<|tE) λc2=>tb λr4 br4=>have pp6:=λ{X Y Z} (r:PV _ X Y Z)=>pp3<|tg 4 c2<|tw (fb v)<|bV (rC _ br4)<|r;tf (λc5=>pp6<|tg 10 c5<|tE) λc5=>tb λr7 br7=>have pp9:=λ{X Y Z} (r:PV _ X Y Z)=>pp6<|tg 10 c5<|tw (fc v)<|bV (rC _ br7)<|r;tf (λc8=>pp9<|tg 16 c8<|tE) λc8=>tb λr10 br10=>pp9<|tg 16 c8<|tw (kF v)<|bV (rC _ br10)<|tE
end
section
variable(m:am)(v:J0)(v2:Int)(v3:Int)(c:Int)
def fO:Option Bool:=
 (ek v.A1 v.A0).bind λr17=>
 if(r17 !=(IntKind.i64.wrap (0 - v2)))=true then
  some true
 else if decide (v2<=0)=true then
  if decide (v3<=0)=true then
   if decide (c>0)=true then
    some true
   else if(v2==0)=true then
    if(v3==0)=true then
     some (c !=0)
    else
     some false
   else
    some false
  else if(v2==0)=true then
   if(v3==0)=true then
    some (c !=0)
   else
    some false
  else
   some false
 else if(v2==0)=true then
  if(v3==0)=true then
   some (c !=0)
  else
   some false
 else
  some false
theorem qw:OU 0 (cA b5 60) (fO v v2 v3 c) .normal (λo=>[(6,.undef),(7,.undef),(76,.bool o)]) (cc 101 [(2,.eptr (aq m)),(3,.eptr (iK v)),(5,.int .i64 v2),(6,.int .i64 v3),(7,.int .i64 c)] [.dead,.dead] []):=Z5.j<|
 tb λr17 br17=>have pp19:=λ{X Y Z} (r:PV _ X Y Z)=>tw (fc v)<|tw (fb v)<|bV (jw _ br17)<|r;tf (λc18=>pp19<|tg 9 c18<|tE) λc18=>have pp21:=λ{X Y Z} (r:PV _ X Y Z)=>pp19<|tg 9 c18<|r;tf (λc20=>have pp23:=λ{X Y Z} (r:PV _ X Y Z)=>pp21<|tg 12 c20<|r;tf (λc22=>have pp25:=λ{X Y Z} (r:PV _ X Y Z)=>pp23<|tg 16 c22<|r;tf (λc24=>pp25<|tg 21 c24<|tE) λc24=>have pp27:=λ{X Y Z} (r:PV _ X Y Z)=>pp25<|tg 21 c24<|r;tf (λc26=>have pp29:=λ{X Y Z} (r:PV _ X Y Z)=>pp27<|tg 24 c26<|r;tf (λc28=>pp29<|tg 28 c28<|tE) λc28=>pp29<|tg 28 c28<|tE) λc26=>pp27<|tg 24 c26<|tE) λc22=>have pp31:=λ{X Y Z} (r:PV _ X Y Z)=>pp23<|tg 16 c22<|r;tf (λc30=>have pp33:=λ{X Y Z} (r:PV _ X Y Z)=>pp31<|tg 24 c30<|r;tf (λc32=>pp33<|tg 28 c32<|tE) λc32=>pp33<|tg 28 c32<|tE) λc30=>pp31<|tg 24 c30<|tE) λc20=>have pp35:=λ{X Y Z} (r:PV _ X Y Z)=>pp21<|tg 12 c20<|r;tf (λc34=>have pp37:=λ{X Y Z} (r:PV _ X Y Z)=>pp35<|tg 24 c34<|r;tf (λc36=>pp37<|tg 28 c36<|tE) λc36=>pp37<|tg 28 c36<|tE) λc34=>pp35<|tg 24 c34<|tE
end
section
variable(m:am)(v:J0)(v2:Int)
def iZ:Option Bool:=
 (kz m v.A0).bind λr40=>
 if(r40 !=0)=true then
  some true
 else
  (kz m v.A1).bind λr43=>
  some (r43 !=0)
theorem qx:OU 0 (cA b5 124) (iZ m v) .normal (λo=>[(2,.undef),(88,.bool o)]) (cc 101 [(2,.eptr (aq m)),(3,.eptr (iK v)),(5,.int .i64 v2)] [.dead,.dead] []):=Z5.j<|
 tb λr40 br40=>have pp42:=λ{X Y Z} (r:PV _ X Y Z)=>tv (eJ m)<|tw (fb v)<|bV (fp _ br40)<|r;tf (λc41=>pp42<|tg 6 c41<|tE) λc41=>tb λr43 br43=>pp42<|tg 6 c41<|tv (eJ m)<|tw (fc v)<|bV (fp _ br43)<|tE
end
def kA(m:am)(a:J0):Option Bool:=
 (fN m a).bind λo11=>
 if o11=true then
  qy.bind λr13=>
  some r13
 else
  (ek a.A0 a.A1).bind λr14=>
  (ek a.A1 a.A2).bind λr15=>
  (ek a.A0 a.A2).bind λr16=>
  (fO a r14 r15 r16).bind λo38=>
  if o38=true then
   some false
  else
   (iZ m a).bind λo44=>
   if o44=true then
    qy.bind λr46=>
    some r46
   else
    (sy a.A0 a.A1).bind λr47=>
    if((r14==0)==r47)=true then
     qy.bind λr50=>
     some r50
    else
     some false
theorem ul{m:am}{a:J0}:OV 5 [.agg (aq m),.agg (iK a)] (kA m a) (λr=>.bool r) []:=Z5.v<|
 tb λo11 bo11=>te (fU m)<|te (SZ a)<|tH 1<|eo (qv m a _ bo11)<|tF (tb λr13 br13=>bV (rB _ br13)<|tE)<|tb λr14 br14=>tb λr15 br15=>tb λr16 br16=>tb λo38 bo38=>tK [0,1,0,4,15,0,32,0,128,511,0,1024,0,4096,16383,32767,65535,131071]<|tw (fb a)<|tw (fc a)<|bV (jw _ br14)<|tw (fc a)<|tw (kF a)<|bV (jw _ br15)<|tw (fb a)<|tw (kF a)<|bV (jw _ br16)<|tH 1<|eo (qw m a r14 r15 r16 _ bo38)<|tF tE<|tb λo44 bo44=>tH 1<|eo (qx m a r14 _ bo44)<|tF (tb λr46 br46=>bV (rB _ br46)<|tE)<|tb λr47 br47=>have pp49:=λ{X Y Z} (r:PV _ X Y Z)=>tw (fb a)<|tw (fc a)<|bV (eZ _ br47)<|r;tf (λc48=>tb λr50 br50=>pp49<|tg 9 c48<|bV (rB _ br50)<|tE) λc48=>pp49<|tg 9 c48<|tE
open Go
mutual
def nP:ah->Nat
 |⟨_,_,_,ks⟩=>nL ks+1
def nL:List ah->Nat
 |[]=>0
 |p::ps=>nP p+nL ps
end
theorem Jl(p:ah):nP p=nL p.Kids+1:=by obtain⟨o,n,k,ks⟩:=p;rw[nP];rfl
theorem Ph(p:ah):1<=nP p:=by rw[Jl];omega
theorem Pf:∀{l:List ah} {x:ah},x∈l->nP x<=nL l
 | y :: l,x,h => by
  rw[nL]
  rcases vat.1 h with rfl|h
  ·omega
  ·have:=Pf h;omega
theorem HW:∀(l:List ah),l.length<=nL l
 |[]=>by simp[nL]
 |p::l=>by rw[nL];have:=HW l;have:=Ph p;simp only[vaZ];omega
theorem OX{p x:ah}(h:x∈p.Kids):nP x<nP p:=by rw[Jl p];have:=Pf h;omega
theorem OY(p:ah):p.Kids.length<nP p:=by rw[Jl];have:=HW p.Kids;omega
theorem GF:∀(a b:List ah),nL (a++b)=nL a+nL b
 |[],b=>by simp[nL]
 |p::a,b=>by rw[vaS,nL,GF a b,nL];omega
mutual
theorem RU:∀(p:ah),nP p<=bU (aj p)
 |⟨o,n,k,ks⟩=>by
  have:=L8 ks
  rw[nP,bG]
  simp only[bU,pm,sl]
  show nL ks+1<=1+(n.length+1+(1+(aN (ks.map aj)+1+0)))
  omega
theorem L8:∀(l:List ah),nL l<=aN (l.map aj)
 |[]=>by simp[nL]
 |p::l=>by
  have:=RU p
  have:=L8 l
  rw[nL]
  simp only[vaM,aN]
  omega
end
mutual
def VT:ah->ah->Bool
 |⟨o,n,k,ks⟩,⟨o',n',k',ks'⟩=>(o==o')&&((n==n')&&((k==k')&&SE ks ks'))
def SE:List ah->List ah->Bool
 |[],[]=>true
 |x::xs,y::ys=>VT x y&&SE xs ys
 |_,_=>false
end
mutual
theorem LP:∀(a b:ah),VT a b=true↔a=b
 |⟨o,n,k,ks⟩,⟨o',n',k',ks'⟩=>by
  rw[VT]
  have:=LO ks ks'
  simp only[vae,vaY,this,ah.mk.injEq]
theorem LO:∀(a b:List ah),SE a b=true↔a=b
 |[],[]=>by simp[SE]
 |x::xs,y::ys=>by
  rw[SE]
  have h1:=LP x y
  have h2:=LO xs ys
  simp only[vae,h1,h2,vbM]
 |[],y::ys=>by simp[SE]
 |x::xs,[]=>by simp[SE]
end
instance:DecidableEq ah:=λa b=>decidable_of_iff _ (LP a b)
theorem vZ{a b:ah}:a=b↔a.Op=b.Op/\a.Name=b.Name/\a.N=b.N/\a.Kids=b.Kids:=by
 cases a;cases b
 simp only[ah.mk.injEq]
 rfl
theorem Mx{α:Type}[DecidableEq α]:∀{a b:List α},a.length=b.length->(a.zip b).any (λx=>decide (x.1≠x.2))= !decide (a=b)
 |[],[],_=>by simp
 |x::a,y::b,h=>by
  have ih:=Mx (a:=a) (b:=b) (by simpa using h)
  rw[List.zip_cons_cons,List.any_cons,ih]
  by_cases h1:x=y<;>by_cases h2:a=b<;>simp[h1,h2]
theorem Ji{α X:Type}[DecidableEq α]{a b:List α}(hl:a.length=b.length)(ha:a.length<9223372036854775808)(body:Int->Option (Int⊕X))(y e:X)
  (hin:∀(i:Nat) (h:i<a.length) (h':i<b.length),body i=some (if decide (a[i]=b[i])=true then .inl (bw ((i:Int)+1))else .inr y)) (hend:body a.length=some (.inr e)):loop body 0=some (if decide (a=b)=true then e else y):=by
 have hz:(a.zip b).length=a.length:=by simp[hl]
 have:=O8 (a.zip b) (by omega) body (λx=>decide (x.1≠x.2)) y e (λi h=>?_) (by rw[hz];exact hend) 0 (vaQ _)
 ·rw[vcH,Mx hl]at this
  rw[show((0:Nat):Int)=0 from rfl]at this
  rw[this]
  by_cases h:a=b<;>simp[h]
 ·have h1:i<a.length:=by omega
  have h2:i<b.length:=by omega
  rw[hin i h1 h2]
  have hzi:(a.zip b)[i]=(a[i],b[i]):=by simp
  rw[hzi]
  by_cases h:a[i]=b[i]<;>simp[h]
abbrev ee:Nat:=1073741824
theorem jC{n:Nat}(h:n<=ee):n<RH:=by have:=Sr;unfold ee at h;omega
theorem OE{R:ah->ah->Option Bool}{a b:List ah}(ha:a.length<=ee)(h:∀x∈a,∀y∈b,R x y=some (decide (x=y))):rZ R a b=some (decide (a=b)):=by
 unfold rZ
 by_cases hl:a.length=b.length
 ·rw[vaz (by simp[hl])]
  unfold qf
  rw[Ji hl (by unfold ee at ha;omega) (λzz=>hZ R a b (a.length:Int) zz) (.inl ()) (.inr ()) (λi h1 h2=>?_) ?_]
  ·by_cases he:a=b<;>simp[he]
  ·unfold hZ
   rw[vaz (by simp)]
  ·unfold hZ
   rw[vaA (by simp;omega),aU a i h1]
   simp only[vab]
   rw[aU b i h2]
   simp only[vab]
   rw[h _ (vay h1) _ (vay h2)]
   simp only[vab]
   by_cases he:a[i]=b[i]<;>simp[he]
 ·rw[vaA (by simp;omega)]
  rw[decide_eq_false (λhe=>hl (by rw[he]))]
theorem Mm(a b:ah)(ha:nP a<=ee):vU a b=some (decide (a=b)):=by
 refine nl (F:=uX) (λx=>nP x.1) (λx=>nP x.1<=ee) (λx=>decide (x.1=x.2)) (λR x hx ih=>?_) (a,b) ha (jC ha)
 obtain⟨u,v⟩:=x
 have hx:nP u<=ee:=hx
 show pO (λa a2=>R (a,a2)) u v=some (decide (u=v))
 unfold pO
 have hk:=OY u
 by_cases h1:u.Op=v.Op
 ·by_cases h2:u.Name=v.Name
  ·by_cases h3:u.N=v.N
   ·rw[vaA (by simpa using h1),vaA (by simpa using h2),vaA (by simpa using h3)]
    rw[OE (a:=u.Kids) (b:=v.Kids) (by omega) (λx hxa y hyb=>ih (x,y) (OX hxa) (vbF (vaF (OX hxa) hx)))]
    simp[vZ (a:=u) (b:=v),h1,h2,h3]
   ·rw[vaA (by simpa using h1),vaA (by simpa using h2),vaz (by simpa using h3)]
    simp[vZ (a:=u) (b:=v),h3]
  ·rw[vaA (by simpa using h1),vaz (by simpa using h2)]
   simp[vZ (a:=u) (b:=v),h2]
 ·rw[vaz (by simpa using h1)]
  simp[vZ (a:=u) (b:=v),h1]
theorem Q4(l:List ah)(i:Nat)(h:i<l.length):nL (l.take (i+1))=nL (l.take i)+nP l[i]:=by
 rw[vbo h,GF]
 simp[nL]
def tot{α:Type}(o:Option α)(Q:α->Prop):Prop:=∃a,o=some a/\Q a
section
variable{α β σ τ X Y:Type}
theorem aY{a:α}{Q:α->Prop}(h:Q a):tot (some a) Q:=⟨a,rfl,h⟩
theorem aE{o:Option α}{f:α->Option β}{R:α->Prop}{Q:β->Prop}(h:tot o R)(h':∀a,R a->tot (f a) Q):tot (o.bind f) Q:=by
 obtain⟨a,rfl,h⟩:=h
 exact h' a h
theorem tot.mono{o:Option α}{Q R:α->Prop}(h:tot o Q)(h':∀a,Q a->R a):tot o R:=by
 obtain⟨a,e,h⟩:=h
 exact⟨a,e,h' a h⟩
theorem wa{c:Prop}[Decidable c]{a b:Option α}{Q:α->Prop}(h1:c->tot a Q)(h2:¬c->tot b Q):tot (if c then a else b) Q:=by
 by_cases h:c
 ·rw[vaA h];exact h1 h
 ·rw[vaz h];exact h2 h
theorem oI{F:(X->Option Y)->X->Option Y}(μ:X->Nat)(P:X->Prop)(Q:X->Y->Prop)(h:∀(R:X->Option Y) x,P x->(∀y,μ y<μ x->P y->tot (R y) (Q y))->tot (F R x) (Q x))(x:X)(hx:P x)(hm:μ x<RH):tot (oc F x) (Q x):=by
 have key:∀n x,μ x<n->P x->tot (Ui F n x) (Q x):=by
  intro n
  induction n with
  |zero=>intro x hx;omega
  |succ n ih=>intro x hx hq;exact h _ x hq λy hy hqy=>ih y (by omega) hqy
 exact key _ x hm hx
end
set_option linter.unusedSimpArgs false
mutual
def yP:ae->Nat
 |⟨_,_,xs,ns,_,ps⟩=>eU xs+ns.length+ps.length+1
def eU:List ae->Nat
 |[]=>0
 |a::xs=>yP a+eU xs
end
theorem pK(t:ae):yP t=eU t.Args+t.Names.length+t.Preds.length+1:=by obtain⟨o,n,xs,ns,p,ps⟩:=t;rw[yP];rfl
theorem O0(t:ae):1<=yP t:=by rw[pK];omega
theorem Aq:∀{l:List ae} {x:ae},x∈l->yP x<=eU l
 | y :: l,x,h => by
  rw[eU]
  rcases vat.1 h with rfl|h
  ·omega
  ·have:=Aq h;omega
theorem Ap:∀(l:List ae),l.length<=eU l
 |[]=>by simp[eU]
 |p::l=>by rw[eU];have:=Ap l;have:=O0 p;simp only[vaZ];omega
theorem Si{t a:ae}(h:a∈t.Args):yP a<yP t:=by rw[pK t];have:=Aq h;omega
theorem Oi(t:ae):t.Args.length<yP t:=by rw[pK];have:=Ap t.Args;omega
theorem M8(t:ae):t.Names.length<yP t:=by rw[pK];omega
theorem Ny(t:ae):t.Preds.length<yP t:=by rw[pK];omega
mutual
def Hb(Q:ah->Prop):ae->Prop
 |⟨_,_,xs,_,p,ps⟩=>Q p/\(∀q∈ps,Q q)/\Bi Q xs
def Bi(Q:ah->Prop):List ae->Prop
 |[]=>True
 |a::xs=>Hb Q a/\Bi Q xs
end
theorem IH(Q:ah->Prop)(t:ae):Hb Q t↔Q t.Pred/\(∀q∈t.Preds,Q q)/\Bi Q t.Args:=by obtain⟨o,n,xs,ns,p,ps⟩:=t;rw[Hb];rfl
theorem Ga(Q:ah->Prop):∀(l:List ae),Bi Q l↔∀t∈l,Hb Q t
 |[]=>by simp[Bi]
 |a::l=>by rw[Bi,Ga Q l];simp
theorem Oe{Q:ah->Prop}{t a:ae}(h:Hb Q t)(ha:a∈t.Args):Hb Q a:=(Ga Q _).1 ((IH Q t).1 h).2.2 a ha
theorem RT(l:List ah):l.length<=aN (l.map aj):=by
 have:=HW l
 have:=L8 l
 omega
theorem Gu(l:List ai):l.length<=aN (l.map cS):=by
 have h:=Jx (l.map cS) (λx hx=>by
  obtain⟨s,_,rfl⟩:=vah.1 hx
  simp only[cS,bU,pm];omega)
 rwa[vbD]at h
theorem uU(t:ae):bU (af t)=1+(pm (.str t.Name)+(pm (sl af t.Args)+(pm (sl cS t.Names)+(1+(pm (.str t.Pred.Name)+(1+(pm (sl aj t.Pred.Kids)+(pm (sl aj t.Preds)+0)))))))):=by
 rw[aV];rfl
mutual
theorem LZ:∀(t:ae),yP t<=bU (af t)
 |⟨o,n,xs,ns,p,ps⟩=>by
  have h1:=DO xs
  have h2:=RT ps
  have h3:=Gu ns
  rw[yP,uU]
  show _<=1+(pm (.str n)+(pm (sl af xs)+(pm (sl cS ns)+(1+(pm (.str p.Name)+(1+(pm (sl aj p.Kids)+(pm (sl aj ps)+0))))))))
  simp only[pm,sl]
  omega
theorem DO:∀(l:List ae),eU l<=aN (l.map af)
 |[]=>by simp[eU]
 |a::l=>by
  have:=LZ a
  have:=DO l
  rw[eU]
  simp only[vaM,aN]
  omega
end
theorem Rl(t:ae):nP t.Pred<=bU (af t):=by
 have h:=L8 t.Pred.Kids
 rw[Jl,uU]
 simp only[pm,sl]
 omega
mutual
theorem Ly(B:Nat):∀(t:ae),bU (af t)<=B->Hb (λp=>nP p<=B) t
 |⟨o,n,xs,ns,p,ps⟩,h=>by
  have h0:=Rl ⟨o,n,xs,ns,p,ps⟩
  rw[uU]at h h0
  have h:1+(pm (.str n)+(pm (sl af xs)+(pm (sl cS ns)+(1+(pm (.str p.Name)+(1+(pm (sl aj p.Kids)+(pm (sl aj ps)+0))))))))<=B:=h
  have h0:nP p<=1+(pm (.str n)+(pm (sl af xs)+(pm (sl cS ns)+(1+(pm (.str p.Name)+(1+(pm (sl aj p.Kids)+(pm (sl aj ps)+0)))))))):=h0
  simp only[pm,sl]at h h0
  rw[Hb]
  refine⟨by omega,λq hq=>?_,IG B xs (by omega)⟩
  have h1:=RU q
  have h2:=qL (vah.2 ⟨q,hq,rfl⟩:aj q∈ps.map aj)
  omega
theorem IG(B:Nat):∀(l:List ae),aN (l.map af)<=B->Bi (λp=>nP p<=B) l
 |[],_=>trivial
 |a::xs,h=>by
  simp only[vaM,aN]at h
  rw[Bi]
  exact⟨Ly B a (by omega),IG B xs (by omega)⟩
end
mutual
def nE:al->Nat
 |⟨_,_,_,ks,ps,as1,ts⟩=>HU ks+Pb as1+ps.length+ts.length+1
def nA:dR->Nat
 |⟨_,ns,b⟩=>ns.length+nE b+1
def HU:List al->Nat
 |[]=>0
 |e::l=>nE e+HU l
def Pb:List dR->Nat
 |[]=>0
 |a::l=>nA a+Pb l
end
theorem Bu(e:al):nE e=HU e.Kids+Pb e.Alts+e.Params.length+e.Types.length+1:=by obtain⟨o,n,k,ks,ps,as1,ts⟩:=e;rw[nE];rfl
theorem Pd(a:dR):nA a=a.Names.length+nE a.Body+1:=by obtain⟨c,ns,b⟩:=a;rw[nA];rfl
theorem SP(e:al):1<=nE e:=by rw[Bu];omega
theorem L7:∀{l:List al} {x:al},x∈l->nE x<=HU l
 | y :: l,x,h => by
  rw[HU]
  rcases vat.1 h with rfl|h
  ·omega
  ·have:=L7 h;omega
theorem HT:∀{l:List dR} {x:dR},x∈l->nA x<=Pb l
 | y :: l,x,h => by
  rw[Pb]
  rcases vat.1 h with rfl|h
  ·omega
  ·have:=HT h;omega
theorem HV:∀(l:List al),l.length<=HU l
 |[]=>by simp[HU]
 |p::l=>by rw[HU];have:=HV l;have:=SP p;simp only[vaZ];omega
theorem L6:∀(l:List dR),l.length<=Pb l
 |[]=>by simp[Pb]
 |p::l=>by rw[Pb];have:=L6 l;have:=Pd p;simp only[vaZ];omega
theorem Lz{e:al}{x:dR}(h:x∈e.Alts):nE x.Body<nE e:=by rw[Bu e];have:=HT h;have:=Pd x;omega
theorem MX(e:al):e.Kids.length<nE e:=by rw[Bu];have:=HV e.Kids;omega
theorem MB(e:al):e.Alts.length<nE e:=by rw[Bu];have:=L6 e.Alts;omega
theorem Jo(e:al):e.Params.length<nE e:=by rw[Bu];omega
theorem Lr(e:al):e.Types.length<nE e:=by rw[Bu];omega
theorem MA{e:al}{x:dR}(h:x∈e.Alts):x.Names.length<nE e:=by rw[Bu];have:=HT h;have:=Pd x;omega
section
variable{α β σ τ X Y:Type}
theorem KN(l:List α)(hl:l.length<9223372036854775808)(mk:Int->τ)(body:τ->Option (τ⊕X))(f:α->Option X)(e:X)
  (hin:∀(i:Nat) (h:i<l.length),body (mk (i:Int))=some ((f l[i]).elim (.inl (mk (bw ((i:Int)+1)))) .inr)) (hend:body (mk l.length)=some (.inr e)):loop body (mk 0)=some ((l.findSome? f).elim e id):=by
 have key:∀k i,k+i=l.length->loop body (mk (i:Int))=some (((l.drop i).findSome? f).elim e id):=by
  intro k
  induction k with
  |zero=>
   intro i hi
   have:i=l.length:=by omega
   subst this
   rw[jl,hend,vbU]
   rfl
  | succ k ih =>
   intro i hi
   rw[jl,hin i (by omega),vaR (by omega),List.findSome?_cons]
   cases h:f l[i]with
   |none=>
    simp only[Option.elim]
    rw[bK (by omega) (by omega),show((i:Int)+1)=((i+1:Nat):Int) by omega]
    exact ih (i+1) (by omega)
   |some y=>rfl
 have:=key l.length 0 (by omega)
 rw[vcH]at this
 exact this
theorem KL(l:List α)(hl:l.length<9223372036854775808)(mk:Int->τ)(body:τ->Option (τ⊕X))(p:α->Bool)(y:Nat->X)(e:X)
  (hin:∀(i:Nat) (h:i<l.length),body (mk (i:Int))=some (if p l[i]=true then .inr (y i)else .inl (mk (bw ((i:Int)+1))))) (hend:body (mk l.length)=some (.inr e)):loop body (mk 0)=some ((l.findIdx? p).elim e y):=by
 have key:∀k i,k+i=l.length->loop body (mk (i:Int))=some (((l.drop i).findIdx? p).elim e (λj=>y (i+j))):=by
  intro k
  induction k with
  |zero=>
   intro i hi
   have:i=l.length:=by omega
   subst this
   rw[jl,hend,vbU]
   rfl
  | succ k ih =>
   intro i hi
   rw[jl,hin i (by omega),vaR (by omega),List.findIdx?_cons]
   by_cases h:p l[i]=true
   ·simp[h]
   ·simp only[h,if_false,vba]
    rw[bK (by omega) (by omega),show((i:Int)+1)=((i+1:Nat):Int) by omega,ih (i+1) (by omega)]
    cases(l.drop (i+1)).findIdx? p with
    |none=>rfl
    |some j=>simp only[vak,Option.elim];congr 2;omega
 have:=key l.length 0 (by omega)
 rw[vcH]at this
 simpa using this
end
noncomputable instance decT:DecidableEq ae:=λa b=>Classical.propDecidable _
noncomputable instance decE:DecidableEq al:=λa b=>Classical.propDecidable _
noncomputable instance decA:DecidableEq dR:=λa b=>Classical.propDecidable _
noncomputable instance decQ:DecidableEq cD:=λa b=>Classical.propDecidable _
theorem Of{a b:Bool}:(if a=true then some b else some false)=some (a&&b):=by cases a<;>rfl
theorem pu{α:Type}[DecidableEq α]{a b:List α}(ha:a.length<=ee)(body:Int->Option (Int⊕(Unit⊕Unit)))
  (hin:∀(i:Nat) (h1:i<a.length) (h2:i<b.length),body (i:Int)=some (if decide (a[i]=b[i])=true then .inl (bw ((i:Int)+1))else .inr (.inl ()))) (hend:body (a.length:Int)=some (.inr (.inr ()))) {k:Unit⊕Unit->Option Bool} (g1:k (.inl ())=some false) (g2:k (.inr ())=some true):
  (if((a.length:Int)!=(b.length:Int))=true then some false else(loop body 0).bind k)=some (decide (a=b)):=by
 by_cases hl:a.length=b.length
 ·rw[vaz (by simp[hl]),Ji hl (by unfold ee at ha;omega) body (.inl ()) (.inr ()) hin hend]
  by_cases he:a=b
  ·simp only[he,decide_true,if_true,vab];exact g2
  ·simp only[he,decide_false,vba,if_false,vab];exact g1
 ·rw[vaA (by simp;omega),decide_eq_false (λhe=>hl (by rw[he]))]
theorem AI{a b:List ai}(ha:a.length<=ee):jq a b=some (decide (a=b)):=by
 unfold jq mB
 refine pu ha _ (λi h1 h2=>?_) ?_ rfl rfl
 ·show eI a b (a.length:Int) (i:Int)=_
  unfold eI
  rw[vaA (by simpa using h1),aU a i h1]
  simp only[vab]
  rw[aU b i h2]
  simp only[vab]
  by_cases he:a[i]=b[i]<;>simp[he]
 ·show eI a b (a.length:Int) (a.length:Int)=_
  unfold eI
  rw[vaz (by simp)]
theorem No{a b:List ah}(ha:a.length<=ee)(h:∀x∈a,nP x<=ee):gX a b=some (decide (a=b)):=by
 unfold gX iD
 refine pu ha _ (λi h1 h2=>?_) ?_ rfl rfl
 ·show cF b a (a.length:Int) (i:Int)=_
  unfold cF
  rw[vaA (by simpa using h1),aU a i h1]
  simp only[vab]
  rw[aU b i h2]
  simp only[vab]
  rw[Mm _ _ (h _ (vay h1))]
  simp only[vab]
  by_cases he:a[i]=b[i]<;>simp[he]
 ·show cF b a (a.length:Int) (a.length:Int)=_
  unfold cF
  rw[vaz (by simp)]
theorem NO{a b:ae}:a=b↔a.Op=b.Op/\a.Name=b.Name/\a.Names=b.Names/\a.Pred=b.Pred/\a.Preds=b.Preds/\a.Args=b.Args:=by
 obtain⟨o,n,xs,ns,p,ps⟩:=a
 obtain⟨o',n',xs',ns',p',ps'⟩:=b
 constructor
 ·rintro h;cases h;exact⟨rfl,rfl,rfl,rfl,rfl,rfl⟩
 ·rintro⟨h1,h2,h3,h4,h5,h6⟩
  cases h1;cases h2;cases h3;cases h4;cases h5;cases h6;rfl
abbrev NZ(t:ae):Prop:=yP t<=ee/\Hb (λp=>nP p<=ee) t
theorem L9{t a:ae}(h:NZ t)(ha:a∈t.Args):NZ a:=⟨vav (vbF (Si ha)) h.1,Oe h.2 ha⟩
theorem GY{R:List ae->List ae->Option Bool}(u v:ae)(hu:NZ u)(h:R u.Args v.Args=some (decide (u.Args=v.Args))):fJ R u v=some (decide (u=v)):=by
 obtain⟨p1,p2,_⟩:=(IH _ u).1 hu.2
 have l1:=Oi u
 have l2:=M8 u
 have l3:=Ny u
 have l0:=hu.1
 unfold fJ
 rw[AI (by omega),Mm _ _ p1,No (by omega) p2,h]
 simp only[vab,Of,var]
 rw[vbY]
 simp[NO (a:=u) (b:=v)]
theorem GK(a b:List ae)(ha:eU a<=ee)(hk:∀x∈a,NZ x):cr a b=some (decide (a=b)):=by
 refine nl (F:=eQ) (λx=>eU x.1) (λx=>eU x.1<=ee/\∀t∈x.1,NZ t) (λx=>decide (x.1=x.2)) (λR x hx ih=>?_) (a,b) ⟨ha,hk⟩ (jC ha)
 obtain⟨u,v⟩:=x
 obtain⟨hu,hq⟩:eU u<=ee/\∀t∈u,NZ t:=hx
 have l0:=Ap u
 show du (λa a2=>R (a,a2)) u v=some (decide (u=v))
 unfold du eM
 refine pu (by omega) _ (λi h1 h2=>?_) ?_ rfl rfl
 ·show bQ (λa a2=>R (a,a2)) v u (u.length:Int) (i:Int)=_
  unfold bQ
  rw[vaA (by simpa using h1),aU u i h1]
  simp only[vab]
  rw[aU v i h2]
  simp only[vab]
  have hm:=vay h1
  have e1:=pK u[i]
  have e2:=Aq hm
  rw[GY _ _ (hq _ hm) (ih (u[i].Args,v[i].Args) (by show eU u[i].Args<eU u;omega) ⟨by show eU u[i].Args<=ee;omega,λt ht=>L9 (hq _ hm) ht⟩)]
  simp only[vab]
  by_cases he:u[i]=v[i]<;>simp[he]
 ·show bQ (λa a2=>R (a,a2)) v u (u.length:Int) (u.length:Int)=_
  unfold bQ
  rw[vaz (by simp)]
theorem Nz(a b:ae)(ha:NZ a):fJ cr a b=some (decide (a=b)):=GY a b ha (GK _ _ (by have:=pK a;have:=ha.1;omega) λx hx=>L9 ha hx)
mutual
def wT:ae->Nat
 |⟨_,_,xs,_,p,ps⟩=>nP p+nL ps+J4 xs
def J4:List ae->Nat
 |[]=>0
 |a::xs=>wT a+J4 xs
end
theorem UO(t:ae):wT t=nP t.Pred+nL t.Preds+J4 t.Args:=by obtain⟨o,n,xs,ns,p,ps⟩:=t;rw[wT];rfl
theorem Qf(l:List ae)(i:Nat)(h:i<l.length):J4 (l.take (i+1))=J4 (l.take i)+wT l[i]:=by
 have key:∀(a b:List ae),J4 (a++b)=J4 a+J4 b:=by
  intro a b
  induction a with
  |nil=>simp[J4]
  |cons x a ih=>rw[vaS,J4,J4,ih];omega
 rw[vbo h,key]
 simp[J4]
end Go.Proofs.YtjddnhkahpfhdaaGreatDoor
