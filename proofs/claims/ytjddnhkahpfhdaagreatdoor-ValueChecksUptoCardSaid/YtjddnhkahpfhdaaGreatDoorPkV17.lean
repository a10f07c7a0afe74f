/- PROVED: a part of the proof. Conditions: none. -/
import Derived.Test.YtjddnhkahpfhdaaGreatDoorPkV16
set_option linter.unusedSimpArgs false
set_option linter.unusedVariables false
noncomputable section
namespace Go.Proofs.YtjddnhkahpfhdaaGreatDoor
open Go Go.Proofs.Tryz
set_option linter.unusedVariables false
set_option linter.defProp false
set_option maxRecDepth 100000
noncomputable def Xw:Code:=f76.body.getD .skip
theorem W9:ZF Pg [] 76 f76 Xw:=zf call76 func76 rfl mixed
def xu(a:cV)(a2:cV):Option Bool:=
 if(a.Name==a2.Name)=true then
  (mw dM a.Type_ a2.Type_).bind λr3=>
  some r3
 else
  some false
theorem BC{a:cV}{a2:cV}:OV 76 [.agg (aQ a),.agg (aQ a2)] (xu a a2) (λr=>.bool r) []:=W9.v<|
 te (HD a)<|te (HD a2)<|have pp2:=λ{X Y Z} (r:PV _ X Y Z)=>tw (gC a)<|tw (gC a2)<|r;tf (λc1=>tb λr3 br3=>pp2<|tg 6 c1<|tw (fK a)<|tw (fK a2)<|bP (oK dM (λ_ _=>gN) _ br3)<|tE) λc1=>pp2<|tg 6 c1<|tE
noncomputable def U8:Code:=f75.body.getD .skip
theorem Wg:ZF Pg [19] 75 f75 U8:=zf call75 func75 rfl mixed
section
variable(s2:(List cV))(t15:(List cV))(t16:Int)(t17:Int)
def cZ:az:=bO 32 [(1,sl aQ s2),(2,.func (.func 76) [] []),(15,sl aQ t15),(16,.int .i64 t16),(17,.int .i64 t17)] [] []
def gJ(o:Unit⊕(Unit)):Exit:=match o with
 |(.inl _)=>.ret
 |(.inr _)=>.exit 0
def eD(o:Unit⊕(Unit)):az:=match o with
 |(.inl o)=>bO 32 [(6,.bool false)] [] []
 |(.inr o)=>bO 32 [] [] []
instance iS_slices_EqualFunc_Same_1_L1:KS 0 (cZ s2 t15 t16 t17):=ks 0 rfl
instance iO_slices_EqualFunc_Same_1_L1{o:Unit⊕(Unit)}:KS 0 (eD o):=match o with
 |(.inl o)=>ks 0 rfl
 |(.inr o)=>ks 0 rfl
def gI:Option (Int⊕(Unit⊕(Unit))):=
 if decide (t17<t16)=true then
  (cH t15 t17).bind λx3=>
  (cH s2 t17).bind λx4=>
  (xu x3 x4).bind λr5=>
  if(!r5)=true then
   some (.inr (.inl ()))
  else
   some (.inl (bw (t17+1)))
 else
  some (.inr (.inr ()))
def iE:Option (Unit⊕(Unit)):=loop (λ(zz:Int)=>gI s2 t15 t16 zz) t17
theorem la:OL 0 (cA U8 119) (gI s2 t15 t16 t17) (λ(zz:Int)=>cZ s2 t15 t16 zz) gJ eD (cZ s2 t15 t16 t17):=Wg.lx<|
 tF (tb λx3 bx3=>tb λx4 bx4=>tb λr5 br5=>tv (Fl.ia (k:=.i64) bx3)<|tv (Hv x3)<|tx TR<|tx (EZ x3)<|tv (Fl.ia (k:=.i64) bx4)<|tv (Hv x4)<|tx TR<|tx (EZ x4)<|tv (EK x3 [])<|tv (EK x4 [])<|bP (BC _ br5)<|tF tE<|tE)<|tE
theorem gp:OK 0 (.loop (cA U8 119)) (iE s2 t15 t16 t17) gJ eD (cZ s2 t15 t16 t17):=DF λ_=>la _ _ _ _
end
def j0(s1:(List cV))(s2:(List cV)):Option Bool:=
 if((s1.length:Int)!=(s2.length:Int))=true then
  some false
 else
  (iE s2 s1 (s1.length:Int) 0).bind λo7=>match o7 with
  |(.inl o7)=>
   some false
  |(.inr o7)=>
   some true
theorem oG{s1:(List cV)}{s2:(List cV)}:OV 75 [sl aQ s1,sl aQ s2,.func (.func 76) [] []] (j0 s1 s2) (λr=>.bool r) []:=Wg.v<|
 ck (Fl.ln s1)<|ck (Fl.ln s2)<|tF tE<|ck (Fl.ln s1)<|t2 (λo7 bo7=>dn (gp s2 s1 (s1.length:Int) 0 _ bo7)<|tE) λo7 bo7=>dn (gp s2 s1 (s1.length:Int) 0 _ bo7)<|tE
noncomputable def Xx:Code:=f78.body.getD .skip
theorem Xa:ZF Pg [] 78 f78 Xx:=zf call78 func78 rfl mixed
def xv(R45:eK)(a:fk)(a2:fk):Option Bool:=
 if(a.Con==a2.Con)=true then
  (nr a.Names a2.Names).bind λr3=>
  if r3=true then
   (R45 a.Body a2.Body).bind λr6=>
   some r6
  else
   some false
 else
  some false
theorem BD(R45:eK)(hR45:jj R45){a:fk}{a2:fk}:OV 78 [.agg (bq a),.agg (bq a2)] (xv R45 a a2) (λr=>.bool r) []:=Xa.v<|
 te (Mu a)<|te (Mu a2)<|have pp2:=λ{X Y Z} (r:PV _ X Y Z)=>tw (kU a)<|tw (kU a2)<|r;tf (λc1=>tb λr3 br3=>have pp5:=λ{X Y Z} (r:PV _ X Y Z)=>pp2<|tg 6 c1<|tw (ii a)<|tw (ii a2)<|bP (mr _ br3)<|r;tf (λc4=>tb λr6 br6=>pp5<|tg 13 c4<|tw (ij a)<|tw (ij a2)<|bP (hR45 _ _ _ br6)<|tE) λc4=>pp5<|tg 13 c4<|tE) λc1=>pp2<|tg 6 c1<|tE
noncomputable def U9:Code:=f77.body.getD .skip
theorem Wh:ZF Pg [19] 77 f77 U9:=zf call77 func77 rfl mixed
section
variable(R45:eK)(s2:(List fk))(t15:(List fk))(t16:Int)(t17:Int)
def da:az:=bO 32 [(1,sl bq s2),(2,.func (.func 78) [] []),(15,sl bq t15),(16,.int .i64 t16),(17,.int .i64 t17)] [] []
def gL(o:Unit⊕(Unit)):Exit:=match o with
 |(.inl _)=>.ret
 |(.inr _)=>.exit 0
def eE(o:Unit⊕(Unit)):az:=match o with
 |(.inl o)=>bO 32 [(6,.bool false)] [] []
 |(.inr o)=>bO 32 [] [] []
instance iS_slices_EqualFunc_Same_2_L1:KS 0 (da s2 t15 t16 t17):=ks 0 rfl
instance iO_slices_EqualFunc_Same_2_L1{o:Unit⊕(Unit)}:KS 0 (eE o):=match o with
 |(.inl o)=>ks 0 rfl
 |(.inr o)=>ks 0 rfl
def gK:Option (Int⊕(Unit⊕(Unit))):=
 if decide (t17<t16)=true then
  (cH t15 t17).bind λx3=>
  (cH s2 t17).bind λx4=>
  (xv R45 x3 x4).bind λr5=>
  if(!r5)=true then
   some (.inr (.inl ()))
  else
   some (.inl (bw (t17+1)))
 else
  some (.inr (.inr ()))
def iF:Option (Unit⊕(Unit)):=loop (λ(zz:Int)=>gK R45 s2 t15 t16 zz) t17
theorem lc(hR45:jj R45):OL 0 (cA U9 119) (gK R45 s2 t15 t16 t17) (λ(zz:Int)=>da s2 t15 t16 zz) gL eE (da s2 t15 t16 t17):=Wh.lx<|
 tF (tb λx3 bx3=>tb λx4 bx4=>tb λr5 br5=>tv (Di.ia (k:=.i64) bx3)<|tv (Ml x3)<|tx TS<|tx (J1 x3)<|tv (Di.ia (k:=.i64) bx4)<|tv (Ml x4)<|tx TS<|tx (J1 x4)<|tv (JT x3 [])<|tv (JT x4 [])<|bP (BD R45 hR45 _ br5)<|tF tE<|tE)<|tE
theorem gq(hR45:jj R45):OK 0 (.loop (cA U9 119)) (iF R45 s2 t15 t16 t17) gL eE (da s2 t15 t16 t17):=DF λ_=>lc _ _ _ _ _ hR45
end
def j1(R45:eK)(s1:(List fk))(s2:(List fk)):Option Bool:=
 if((s1.length:Int)!=(s2.length:Int))=true then
  some false
 else
  (iF R45 s2 s1 (s1.length:Int) 0).bind λo7=>match o7 with
  |(.inl o7)=>
   some false
  |(.inr o7)=>
   some true
theorem oI(R45:eK)(hR45:jj R45){s1:(List fk)}{s2:(List fk)}:OV 77 [sl bq s1,sl bq s2,.func (.func 78) [] []] (j1 R45 s1 s2) (λr=>.bool r) []:=Wh.v<|
 ck (Di.ln s1)<|ck (Di.ln s2)<|tF tE<|ck (Di.ln s1)<|t2 (λo7 bo7=>dn (gq R45 s2 s1 (s1.length:Int) 0 hR45 _ bo7)<|tE) λo7 bo7=>dn (gq R45 s2 s1 (s1.length:Int) 0 hR45 _ bo7)<|tE
noncomputable def Xp:Code:=f51.body.getD .skip
theorem W2:ZF Pg [] 51 f51 Xp:=zf call51 func51 rfl mixed
def xw (R44:bL) (R45:eK) (a:aq) (a2:aq):Option Bool :=
 if (a.Op == a2.Op) = true then
  if (a.Name == a2.Name) = true then
   if (a.N == a2.N) = true then
    (R44 a.Kids a2.Kids).bind λr7=>
    if r7=true then
     (dM a.Types a2.Types).bind λr10=>
     if r10=true then
      (j0 a.Params a2.Params).bind λr13=>
      if r13=true then
       (j1 R45 a.Alts a2.Alts).bind λr16=>
       some r16
      else
       some false
     else
      some false
    else
     some false
   else
    some false
  else
   some false
 else
  some false
theorem Dk(R44:bL)(hR44:dh R44)(R45:eK)(hR45:jj R45){a:aq}{a2:aq}:OV 51 [.agg (ak a),.agg (ak a2)] (xw R44 R45 a a2) (λr=>.bool r) []:=W2.v<|
 te (zO a)<|te (zO a2)<|have pp2:=λ{X Y Z} (r:PV _ X Y Z)=>tw (oe a)<|tw (oe a2)<|r;tf (λc1=>have pp4:=λ{X Y Z} (r:PV _ X Y Z)=>pp2<|tg 6 c1<|tw (ik a)<|tw (ik a2)<|r;tf (λc3=>have pp6:=λ{X Y Z} (r:PV _ X Y Z)=>pp4<|tg 13 c3<|tw (pI a)<|tw (pI a2)<|r;tf (λc5=>tb λr7 br7=>have pp9:=λ{X Y Z} (r:PV _ X Y Z)=>pp6<|tg 20 c5<|tw (dV a)<|tw (dV a2)<|bP (hR44 _ _ _ br7)<|r;tf (λc8=>tb λr10 br10=>have pp12:=λ{X Y Z} (r:PV _ X Y Z)=>pp9<|tg 27 c8<|tw (gB a)<|tw (gB a2)<|bP (gN _ br10)<|r;tf (λc11=>tb λr13 br13=>have pp15:=λ{X Y Z} (r:PV _ X Y Z)=>pp12<|tg 34 c11<|tw (cE a)<|tw (cE a2)<|bP (oG _ br13)<|r;tf (λc14=>tb λr16 br16=>pp15<|tg 41 c14<|tw (cm a)<|tw (cm a2)<|bP (oI R45 hR45 _ br16)<|tE) λc14=>pp15<|tg 41 c14<|tE) λc11=>pp12<|tg 34 c11<|tE) λc8=>pp9<|tg 27 c8<|tE) λc5=>pp6<|tg 20 c5<|tE) λc3=>pp4<|tg 13 c3<|tE) λc1=>pp2<|tg 6 c1<|tE
def xx(R44:bL):((aq×aq)->Option Bool)->(aq×aq)->Option Bool:=λ(rec:(aq×aq)->Option Bool) (x:aq×aq)=>xw R44 (λa a2=>rec (a,a2)) x.1 x.2
def Cw(R44:bL)(a:aq)(a2:aq):Option Bool:=kT (xx R44) (a,a2)
theorem Fv(R44:bL)(hR44:dh R44){a:aq}{a2:aq}:OV 51 [.agg (ak a),.agg (ak a2)] (Cw R44 a a2) (λr=>.bool r) []:=mP λ_ h=>
 ct (F:=xx R44) (M:=λ(x:aq×aq) (r:Bool)=>CC Pg GE 51 [.agg (ak x.1),.agg (ak x.2)] (.bool r) []) (λrec hrec x r h=>Dk R44 hR44 _ (λa a2=>mP λr h=>hrec (a,a2) r h) _ h) h
noncomputable def U2:Code:=f50.body.getD .skip
theorem V9:ZF Pg [19] 50 f50 U2:=zf call50 func50 rfl mixed
section
variable(R44:bL)(s2:waG)(t15:waG)(t16:Int)(t17:Int)
def dE:az:=bO 32 [(1,sl ak s2),(2,.func (.func 51) [] []),(15,sl ak t15),(16,.int .i64 t16),(17,.int .i64 t17)] [] []
def iI(o:Unit⊕(Unit)):Exit:=match o with
 |(.inl _)=>.ret
 |(.inr _)=>.exit 0
def fb(o:Unit⊕(Unit)):az:=match o with
 |(.inl o)=>bO 32 [(6,.bool false)] [] []
 |(.inr o)=>bO 32 [] [] []
instance iS_slices_EqualFunc_Same_L1:KS 0 (dE s2 t15 t16 t17):=ks 0 rfl
instance iO_slices_EqualFunc_Same_L1{o:Unit⊕(Unit)}:KS 0 (fb o):=match o with
 |(.inl o)=>ks 0 rfl
 |(.inr o)=>ks 0 rfl
def iG:Option (Int⊕(Unit⊕(Unit))):=
 if decide (t17<t16)=true then
  (cH t15 t17).bind λx3=>
  (cH s2 t17).bind λx4=>
  (Cw R44 x3 x4).bind λr5=>
  if(!r5)=true then
   some (.inr (.inl ()))
  else
   some (.inl (bw (t17+1)))
 else
  some (.inr (.inr ()))
def jv:Option (Unit⊕(Unit)):=loop (λ(zz:Int)=>iG R44 s2 t15 t16 zz) t17
theorem mq(hR44:dh R44):OL 0 (cA U2 119) (iG R44 s2 t15 t16 t17) (λ(zz:Int)=>dE s2 t15 t16 zz) iI fb (dE s2 t15 t16 t17):=V9.lx<|
 tF (tb λx3 bx3=>tb λx4 bx4=>tb λr5 br5=>tv (yF.ia (k:=.i64) bx3)<|tv (uZ x3)<|tx TP<|tx (HF x3)<|tv (yF.ia (k:=.i64) bx4)<|tv (uZ x4)<|tx TP<|tx (HF x4)<|tv (Hy x3 [])<|tv (Hy x4 [])<|bP (Fv R44 hR44 _ br5)<|tF tE<|tE)<|tE
theorem ip(hR44:dh R44):OK 0 (.loop (cA U2 119)) (jv R44 s2 t15 t16 t17) iI fb (dE s2 t15 t16 t17):=DF λ_=>mq _ _ _ _ _ hR44
end
def j2(R44:bL)(s1:waG)(s2:waG):Option Bool:=
 if((s1.length:Int)!=(s2.length:Int))=true then
  some false
 else
  (jv R44 s2 s1 (s1.length:Int) 0).bind λo7=>match o7 with
  |(.inl o7)=>
   some false
  |(.inr o7)=>
   some true
theorem pe(R44:bL)(hR44:dh R44){s1:waG}{s2:waG}:OV 50 [sl ak s1,sl ak s2,.func (.func 51) [] []] (j2 R44 s1 s2) (λr=>.bool r) []:=V9.v<|
 ck (yF.ln s1)<|ck (yF.ln s2)<|tF tE<|ck (yF.ln s1)<|t2 (λo7 bo7=>dn (ip R44 s2 s1 (s1.length:Int) 0 hR44 _ bo7)<|tE) λo7 bo7=>dn (ip R44 s2 s1 (s1.length:Int) 0 hR44 _ bo7)<|tE
def j3:((waG×waG)->Option Bool)->(waG×waG)->Option Bool:=λ(rec:(waG×waG)->Option Bool) (x:waG×waG)=>j2 (λs1 s2=>rec (s1,s2)) x.1 x.2
def kK(s1:waG)(s2:waG):Option Bool:=kT j3 (s1,s2)
theorem qk{s1:waG}{s2:waG}:OV 50 [sl ak s1,sl ak s2,.func (.func 51) [] []] (kK s1 s2) (λr=>.bool r) []:=mP λ_ h=>
 ct (F:=j3) (M:=λ(x:waG×waG) (r:Bool)=>CC Pg GE 50 [sl ak x.1,sl ak x.2,.func (.func 51) [] []] (.bool r) []) (λrec hrec x r h=>pe _ (λs1 s2=>mP λr h=>hrec (s1,s2) r h) _ h) h
noncomputable def Xq:Code:=f53.body.getD .skip
theorem W3:ZF Pg [] 53 f53 Xq:=zf call53 func53 rfl mixed
def Aq(R41:dw)(a:aD)(a2:aD):Option Bool:=
 if(a.Name==a2.Name)=true then
  (R41 a.Value a2.Value).bind λr3=>
  some r3
 else
  some false
theorem Do(R41:dw)(hR41:fx R41){a:aD}{a2:aD}:OV 53 [.agg (aW a),.agg (aW a2)] (Aq R41 a a2) (λr=>.bool r) []:=W3.v<|
 te (J0 a)<|te (J0 a2)<|have pp2:=λ{X Y Z} (r:PV _ X Y Z)=>tw (jJ a)<|tw (jJ a2)<|r;tf (λc1=>tb λr3 br3=>pp2<|tg 6 c1<|tw (jf a)<|tw (jf a2)<|bP (hR41 _ _ _ br3)<|tE) λc1=>pp2<|tg 6 c1<|tE
noncomputable def U3:Code:=f52.body.getD .skip
theorem Wa:ZF Pg [19] 52 f52 U3:=zf call52 func52 rfl mixed
section
variable(R41:dw)(s2:waI)(t15:waI)(t16:Int)(t17:Int)
def eA:az:=bO 32 [(1,sl aW s2),(2,.func (.func 53) [] []),(15,sl aW t15),(16,.int .i64 t16),(17,.int .i64 t17)] [] []
def jZ(o:Unit⊕(Unit)):Exit:=match o with
 |(.inl _)=>.ret
 |(.inr _)=>.exit 0
def gd(o:Unit⊕(Unit)):az:=match o with
 |(.inl o)=>bO 32 [(6,.bool false)] [] []
 |(.inr o)=>bO 32 [] [] []
instance iS_slices_EqualFunc_3_L1:KS 0 (eA s2 t15 t16 t17):=ks 0 rfl
instance iO_slices_EqualFunc_3_L1{o:Unit⊕(Unit)}:KS 0 (gd o):=match o with
 |(.inl o)=>ks 0 rfl
 |(.inr o)=>ks 0 rfl
def jY:Option (Int⊕(Unit⊕(Unit))):=
 if decide (t17<t16)=true then
  (cH t15 t17).bind λx3=>
  (cH s2 t17).bind λx4=>
  (Aq R41 x3 x4).bind λr5=>
  if(!r5)=true then
   some (.inr (.inl ()))
  else
   some (.inl (bw (t17+1)))
 else
  some (.inr (.inr ()))
def kH:Option (Unit⊕(Unit)):=loop (λ(zz:Int)=>jY R41 s2 t15 t16 zz) t17
theorem pd(hR41:fx R41):OL 0 (cA U3 119) (jY R41 s2 t15 t16 t17) (λ(zz:Int)=>eA s2 t15 t16 zz) jZ gd (eA s2 t15 t16 t17):=Wa.lx<|
 tF (tb λx3 bx3=>tb λx4 bx4=>tb λr5 br5=>tv (GR.ia (k:=.i64) bx3)<|tv (JS x3)<|tx Ry<|tx (HE x3)<|tv (GR.ia (k:=.i64) bx4)<|tv (JS x4)<|tx Ry<|tx (HE x4)<|tv (Hw x3 [])<|tv (Hw x4 [])<|bP (Do R41 hR41 _ br5)<|tF tE<|tE)<|tE
theorem jt(hR41:fx R41):OK 0 (.loop (cA U3 119)) (kH R41 s2 t15 t16 t17) jZ gd (eA s2 t15 t16 t17):=DF λ_=>pd _ _ _ _ _ hR41
end
def oF(R41:dw)(s1:waI)(s2:waI):Option Bool:=
 if((s1.length:Int)!=(s2.length:Int))=true then
  some false
 else
  (kH R41 s2 s1 (s1.length:Int) 0).bind λo7=>match o7 with
  |(.inl o7)=>
   some false
  |(.inr o7)=>
   some true
theorem tN(R41:dw)(hR41:fx R41){s1:waI}{s2:waI}:OV 52 [sl aW s1,sl aW s2,.func (.func 53) [] []] (oF R41 s1 s2) (λr=>.bool r) []:=Wa.v<|
 ck (GR.ln s1)<|ck (GR.ln s2)<|tF tE<|ck (GR.ln s1)<|t2 (λo7 bo7=>dn (jt R41 s2 s1 (s1.length:Int) 0 hR41 _ bo7)<|tE) λo7 bo7=>dn (jt R41 s2 s1 (s1.length:Int) 0 hR41 _ bo7)<|tE
noncomputable def Wj:Code:=f18.body.getD .skip
theorem V1:ZF Pg [] 18 f18 Wj:=zf call18 func18 rfl mixed
section
variable(v:aa)(v2:aa)
def xG:Option Bool:=
 if(v.Op !=v2.Op)=true then
  some true
 else if(v.N !=v2.N)=true then
  some true
 else if(!(v.Name==v2.Name))=true then
  some true
 else
  some ((v.Body.length:Int)!=(v2.Body.length:Int))
theorem BM:OU 0 (cA Wj 12) (xG v v2) .normal (λo=>[(32,.bool o)]) (bO 59 [(2,.eptr (ac v)),(3,.eptr (ac v2))] [.dead,.dead] []):=V1.j<|
 have pp2:=λ{X Y Z} (r:PV _ X Y Z)=>tw (aJ v)<|tw (aJ v2)<|r;tf (λc1=>pp2<|tg 6 c1<|tE) λc1=>have pp4:=λ{X Y Z} (r:PV _ X Y Z)=>pp2<|tg 6 c1<|tw (aC v)<|tw (aC v2)<|r;tf (λc3=>pp4<|tg 13 c3<|tE) λc3=>have pp6:=λ{X Y Z} (r:PV _ X Y Z)=>pp4<|tg 13 c3<|tw (bH v)<|tw (bH v2)<|r;tf (λc5=>pp6<|tg 20 c5<|tE) λc5=>pp6<|tg 20 c5<|tw (cy v)<|ck (yF.ln v.Body)<|tw (cy v2)<|ck (yF.ln v2.Body)<|tE
end
def Ar(R41:dw)(a:aa)(a2:aa):Option Bool:=
 (xG a a2).bind λo7=>
 if o7=true then
  some false
 else
  (qM R41 a.Kids a2.Kids).bind λr9=>
  if r9=true then
   (nr a.Params a2.Params).bind λr12=>
   if r12=true then
    (kK a.Body a2.Body).bind λr15=>
    if r15=true then
     (oF R41 a.Binds a2.Binds).bind λr18=>
     some r18
    else
     some false
   else
    some false
  else
   some false
theorem FE(R41:dw)(hR41:fx R41){a:aa}{a2:aa}:OV 18 [.agg (ac a),.agg (ac a2)] (Ar R41 a a2) (λr=>.bool r) []:=V1.v<|
 tb λo7 bo7=>te (cD a)<|te (cD a2)<|qT 1<|dn (BM a a2 _ bo7)<|tF tE<|tb λr9 br9=>have pp11:=λ{X Y Z} (r:PV _ X Y Z)=>tw (aU a)<|tw (aU a2)<|bP (wI R41 hR41 _ br9)<|r;tf (λc10=>tb λr12 br12=>have pp14:=λ{X Y Z} (r:PV _ X Y Z)=>pp11<|tg 6 c10<|tw (eI a)<|tw (eI a2)<|bP (mr _ br12)<|r;tf (λc13=>tb λr15 br15=>have pp17:=λ{X Y Z} (r:PV _ X Y Z)=>pp14<|tg 13 c13<|tw (cy a)<|tw (cy a2)<|bP (qk _ br15)<|r;tf (λc16=>tb λr18 br18=>pp17<|tg 20 c16<|tw (cU a)<|tw (cU a2)<|bP (tN R41 hR41 _ br18)<|tE) λc16=>pp17<|tg 20 c16<|tE) λc13=>pp14<|tg 13 c13<|tE) λc10=>pp11<|tg 6 c10<|tE
def As:((aa×aa)->Option Bool)->(aa×aa)->Option Bool:=λ(rec:(aa×aa)->Option Bool) (x:aa×aa)=>Ar (λa a2=>rec (a,a2)) x.1 x.2
def FD(a:aa)(a2:aa):Option Bool:=kT As (a,a2)
theorem fH{a:aa}{a2:aa}:OV 18 [.agg (ac a),.agg (ac a2)] (FD a a2) (λr=>.bool r) []:=mP λ_ h=>
 ct (F:=As) (M:=λ(x:aa×aa) (r:Bool)=>CC Pg GE 18 [.agg (ac x.1),.agg (ac x.2)] (.bool r) []) (λrec hrec x r h=>FE _ (λa a2=>mP λr h=>hrec (a,a2) r h) _ h) h
noncomputable def Xh:Code:=f16.body.getD .skip
theorem WU:ZF Pg [] 16 f16 Xh:=zf call16 func16 rfl mixed
def oU(m:al)(v:aa)(t:ae):Option Bool:=
 (lj m v).bind λr1=>
 if r1.2=true then
  (sy r1.1 t).bind λr3=>
  some r3
 else
  some false
theorem qr{m:al}{v:aa}{t:ae}:OV 16 [.agg (am m),.agg (ac v),.agg (af t)] (oU m v t) (λr=>.bool r) []:=WU.v<|
 tb λr1 br1=>te (de m)<|te (cD v)<|te (eZ t)<|tv (bh m)<|tv (aB v)<|bP (qt _ br1)<|tx tK<|tx (fu r1.1)<|tf (λc2=>tb λr3 br3=>tg 2 c2<|tv (cx r1.1 [])<|tv (cw t)<|bP (xC _ br3)<|tE) λc2=>tg 2 c2<|tE
noncomputable def Xe:Code:=f10.body.getD .skip
theorem WR:ZF Pg [] 10 f10 Xe:=zf call10 func10 rfl mixed
def vX:Option Bool:=
 (xZ 1).bind λr1=>
 (yP (⟨([(⟨([73,110,116,76,105,115,116]:ai),([]:List ai),([]:List bC),([(⟨([78,105,108]:ai),([]:List ai),([]:List ae)⟩:aH),(⟨([67,111,110,115]:ai),([([120]:ai),([114,101,115,116]:ai)]:List ai),([(⟨1,([]:ai),([]:List ae),([]:List ai),(⟨0,([]:ai),0,([]:List ag)⟩:ag),([]:List ag)⟩:ae),(⟨4,([73,110,116,76,105,115,116]:ai),([]:List ae),([]:List ai),(⟨0,([]:ai),0,([]:List ag)⟩:ag),([]:List ag)⟩:ae)]:List ae)⟩:aH)]:List aH)⟩:aN)]:List aN),([]:List dg),([]:List bD),([]:List bT),([]:List eP),([]:List fJ)⟩:al) (⟨4,([73,110,116,76,105,115,116]:ai),([]:List ae),([]:List ai),(⟨0,([]:ai),0,([]:List ag)⟩:ag),([]:List ag)⟩:ae) 3 100).bind λr2=>
 (yP (⟨([(⟨([73,110,116,76,105,115,116]:ai),([]:List ai),([]:List bC),([(⟨([78,105,108]:ai),([]:List ai),([]:List ae)⟩:aH),(⟨([67,111,110,115]:ai),([([120]:ai),([114,101,115,116]:ai)]:List ai),([(⟨1,([]:ai),([]:List ae),([]:List ai),(⟨0,([]:ai),0,([]:List ag)⟩:ag),([]:List ag)⟩:ae),(⟨4,([73,110,116,76,105,115,116]:ai),([]:List ae),([]:List ai),(⟨0,([]:ai),0,([]:List ag)⟩:ag),([]:List ag)⟩:ae)]:List ae)⟩:aH)]:List aH)⟩:aN)]:List aN),([]:List dg),([]:List bD),([]:List bT),([]:List eP),([]:List fJ)⟩:al) (⟨2,([]:ai),([]:List ae),([]:List ai),(⟨0,([]:ai),0,([]:List ag)⟩:ag),([]:List ag)⟩:ae) 7 100).bind λr3=>
 (lj (⟨([(⟨([73,110,116,76,105,115,116]:ai),([]:List ai),([]:List bC),([(⟨([78,105,108]:ai),([]:List ai),([]:List ae)⟩:aH),(⟨([67,111,110,115]:ai),([([120]:ai),([114,101,115,116]:ai)]:List ai),([(⟨1,([]:ai),([]:List ae),([]:List ai),(⟨0,([]:ai),0,([]:List ag)⟩:ag),([]:List ag)⟩:ae),(⟨4,([73,110,116,76,105,115,116]:ai),([]:List ae),([]:List ai),(⟨0,([]:ai),0,([]:List ag)⟩:ag),([]:List ag)⟩:ae)]:List ae)⟩:aH)]:List aH)⟩:aN)]:List aN),([]:List dg),([]:List bD),([]:List bT),([]:List eP),([]:List fJ)⟩:al) (⟨3,0,([67,111,110,115]:ai),([r1,(⟨3,0,([78,105,108]:ai),([]:List aa),([]:List ai),([]:List aq),([]:List aD)⟩:aa)]:List aa),([]:List ai),([]:List aq),([]:List aD)⟩:aa)).bind λr4=>
 (oV (⟨3,0,([67,111,110,115]:ai),([r1,(⟨3,0,([78,105,108]:ai),([]:List aa),([]:List ai),([]:List aq),([]:List aD)⟩:aa)]:List aa),([]:List ai),([]:List aq),([]:List aD)⟩:aa)).bind λr5=>
 if (r5 == 3) = true then
  (sE (⟨3,0,([67,111,110,115]:ai),([r1,(⟨3,0,([78,105,108]:ai),([]:List aa),([]:List ai),([]:List aq),([]:List aD)⟩:aa)]:List aa),([]:List ai),([]:List aq),([]:List aD)⟩:aa)).bind λr7=>
  if (r7 == ([67,111,110,115,32,40,49,44,32,78,105,108,41]:ai)) = true then
   if ((r2.length:Int) == 6) = true then
    (cH r2 0).bind λx10=>
    (sE x10).bind λr11=>
    if (r11 == ([78,105,108]:ai)) = true then
     (cH r2 1).bind λx13=>
     (sE x13).bind λr14=>
     if (r14 == ([67,111,110,115,32,40,45,50,44,32,78,105,108,41]:ai)) = true then
      (cH r2 4).bind λx16=>
      (FD x16 (⟨3,0,([67,111,110,115]:ai),([r1,(⟨3,0,([78,105,108]:ai),([]:List aa),([]:List ai),([]:List aq),([]:List aD)⟩:aa)]:List aa),([]:List ai),([]:List aq),([]:List aD)⟩:aa)).bind λr17=>
      if r17=true then
       if ((r3.length:Int) == 2) = true then
        (cH r3 0).bind λx20=>
        if (x20.N == 0) = true then
         (xZ 1000000000001).bind λr22=>
         (ma (⟨([(⟨([73,110,116,76,105,115,116]:ai),([]:List ai),([]:List bC),([(⟨([78,105,108]:ai),([]:List ai),([]:List ae)⟩:aH),(⟨([67,111,110,115]:ai),([([120]:ai),([114,101,115,116]:ai)]:List ai),([(⟨1,([]:ai),([]:List ae),([]:List ai),(⟨0,([]:ai),0,([]:List ag)⟩:ag),([]:List ag)⟩:ae),(⟨4,([73,110,116,76,105,115,116]:ai),([]:List ae),([]:List ai),(⟨0,([]:ai),0,([]:List ag)⟩:ag),([]:List ag)⟩:ae)]:List ae)⟩:aH)]:List aH)⟩:aN)]:List aN),([]:List dg),([]:List bD),([]:List bT),([]:List eP),([]:List fJ)⟩:al) r22).bind λr23=>
         if (r23 == 2) = true then
          if(r4.1.Name==([73,110,116,76,105,115,116]:ai))=true then
           if r4.2=true then
            (oU (⟨([(⟨([73,110,116,76,105,115,116]:ai),([]:List ai),([]:List bC),([(⟨([78,105,108]:ai),([]:List ai),([]:List ae)⟩:aH),(⟨([67,111,110,115]:ai),([([120]:ai),([114,101,115,116]:ai)]:List ai),([(⟨1,([]:ai),([]:List ae),([]:List ai),(⟨0,([]:ai),0,([]:List ag)⟩:ag),([]:List ag)⟩:ae),(⟨4,([73,110,116,76,105,115,116]:ai),([]:List ae),([]:List ai),(⟨0,([]:ai),0,([]:List ag)⟩:ag),([]:List ag)⟩:ae)]:List ae)⟩:aH)]:List aH)⟩:aN)]:List aN),([]:List dg),([]:List bD),([]:List bT),([]:List eP),([]:List fJ)⟩:al) (⟨3,0,([67,111,110,115]:ai),([r1,(⟨3,0,([78,105,108]:ai),([]:List aa),([]:List ai),([]:List aq),([]:List aD)⟩:aa)]:List aa),([]:List ai),([]:List aq),([]:List aD)⟩:aa) (⟨4,([73,110,116,76,105,115,116]:ai),([]:List ae),([]:List ai),(⟨0,([]:ai),0,([]:List ag)⟩:ag),([]:List ag)⟩:ae)).bind λr27=>
            some r27
           else
            some false
          else
           some false
         else
          some false
        else
         some false
       else
        some false
      else
       some false
     else
      some false
    else
     some false
   else
    some false
  else
   some false
 else
  some false
theorem zo:OV 10 [] vX (λr=>.bool r) []:=WR.v<|
 tb λr1 br1=>tb λr2 br2=>tb λr3 br3=>tb λr4 br4=>tb λr5 br5=>AD (nh 4 ([73,110,116,76,105,115,116]:ai)) (ng 4 ([73,110,116,76,105,115,116]:ai))<|tx tK<|ty (aR (⟨4,([73,110,116,76,105,115,116]:ai),([]:List ae),([]:List ai),(⟨0,([]:ai),0,([]:List ag)⟩:ag),([]:List ag)⟩:ae))<|AD (MP ([78,105,108]:ai)) (MO ([78,105,108]:ai))<|tv (TH [([120]:ai),([114,101,115,116]:ai)] 2 rfl)<|AD (iy 1) (iw 1)<|tv (cx (⟨4,([73,110,116,76,105,115,116]:ai),([]:List ae),([]:List ai),(⟨0,([]:ai),0,([]:List ag)⟩:ag),([]:List ag)⟩:ae) [])<|tv (dl.mk' (v:=nz) jR ([(⟨1,([]:ai),([]:List ae),([]:List ai),(⟨0,([]:ai),0,([]:List ag)⟩:ag),([]:List ag)⟩:ae),(⟨4,([73,110,116,76,105,115,116]:ai),([]:List ae),([]:List ai),(⟨0,([]:ai),0,([]:List ag)⟩:ag),([]:List ag)⟩:ae)]:List ae) 2 (by kernel_rfl))<|tv (Gg ([67,111,110,115]:ai) ([([120]:ai),([114,101,115,116]:ai)]:List ai) ([(⟨1,([]:ai),([]:List ae),([]:List ai),(⟨0,([]:ai),0,([]:List ag)⟩:ag),([]:List ag)⟩:ae),(⟨4,([73,110,116,76,105,115,116]:ai),([]:List ae),([]:List ai),(⟨0,([]:ai),0,([]:List ag)⟩:ag),([]:List ag)⟩:ae)]:List ae))<|tv (Dj.mk' (v:=PX) Pl ([(⟨([78,105,108]:ai),([]:List ai),([]:List ae)⟩:aH),(⟨([67,111,110,115]:ai),([([120]:ai),([114,101,115,116]:ai)]:List ai),([(⟨1,([]:ai),([]:List ae),([]:List ai),(⟨0,([]:ai),0,([]:List ag)⟩:ag),([]:List ag)⟩:ae),(⟨4,([73,110,116,76,105,115,116]:ai),([]:List ae),([]:List ai),(⟨0,([]:ai),0,([]:List ag)⟩:ag),([]:List ag)⟩:ae)]:List ae)⟩:aH)]:List aH) 2 (by kernel_rfl))<|AD (Ib ([73,110,116,76,105,115,116]:ai) ([(⟨([78,105,108]:ai),([]:List ai),([]:List ae)⟩:aH),(⟨([67,111,110,115]:ai),([([120]:ai),([114,101,115,116]:ai)]:List ai),([(⟨1,([]:ai),([]:List ae),([]:List ai),(⟨0,([]:ai),0,([]:List ag)⟩:ag),([]:List ag)⟩:ae),(⟨4,([73,110,116,76,105,115,116]:ai),([]:List ae),([]:List ai),(⟨0,([]:ai),0,([]:List ag)⟩:ag),([]:List ag)⟩:ae)]:List ae)⟩:aH)]:List aH)) (H9 ([73,110,116,76,105,115,116]:ai) ([(⟨([78,105,108]:ai),([]:List ai),([]:List ae)⟩:aH),(⟨([67,111,110,115]:ai),([([120]:ai),([114,101,115,116]:ai)]:List ai),([(⟨1,([]:ai),([]:List ae),([]:List ai),(⟨0,([]:ai),0,([]:List ag)⟩:ag),([]:List ag)⟩:ae),(⟨4,([73,110,116,76,105,115,116]:ai),([]:List ae),([]:List ai),(⟨0,([]:ai),0,([]:List ag)⟩:ag),([]:List ag)⟩:ae)]:List ae)⟩:aH)]:List aH))<|tv (vI.mk' (v:=MI) Nv ([(⟨([73,110,116,76,105,115,116]:ai),([]:List ai),([]:List bC),([(⟨([78,105,108]:ai),([]:List ai),([]:List ae)⟩:aH),(⟨([67,111,110,115]:ai),([([120]:ai),([114,101,115,116]:ai)]:List ai),([(⟨1,([]:ai),([]:List ae),([]:List ai),(⟨0,([]:ai),0,([]:List ag)⟩:ag),([]:List ag)⟩:ae),(⟨4,([73,110,116,76,105,115,116]:ai),([]:List ae),([]:List ai),(⟨0,([]:ai),0,([]:List ag)⟩:ag),([]:List ag)⟩:ae)]:List ae)⟩:aH)]:List aH)⟩:aN)]:List aN) 1 (by kernel_rfl))<|AD (Ic ([(⟨([73,110,116,76,105,115,116]:ai),([]:List ai),([]:List bC),([(⟨([78,105,108]:ai),([]:List ai),([]:List ae)⟩:aH),(⟨([67,111,110,115]:ai),([([120]:ai),([114,101,115,116]:ai)]:List ai),([(⟨1,([]:ai),([]:List ae),([]:List ai),(⟨0,([]:ai),0,([]:List ag)⟩:ag),([]:List ag)⟩:ae),(⟨4,([73,110,116,76,105,115,116]:ai),([]:List ae),([]:List ai),(⟨0,([]:ai),0,([]:List ag)⟩:ag),([]:List ag)⟩:ae)]:List ae)⟩:aH)]:List aH)⟩:aN)]:List aN)) (Ia ([(⟨([73,110,116,76,105,115,116]:ai),([]:List ai),([]:List bC),([(⟨([78,105,108]:ai),([]:List ai),([]:List ae)⟩:aH),(⟨([67,111,110,115]:ai),([([120]:ai),([114,101,115,116]:ai)]:List ai),([(⟨1,([]:ai),([]:List ae),([]:List ai),(⟨0,([]:ai),0,([]:List ag)⟩:ag),([]:List ag)⟩:ae),(⟨4,([73,110,116,76,105,115,116]:ai),([]:List ae),([]:List ai),(⟨0,([]:ai),0,([]:List ag)⟩:ag),([]:List ag)⟩:ae)]:List ae)⟩:aH)]:List aH)⟩:aN)]:List aN))<|tx VH<|ty (rT (⟨([(⟨([73,110,116,76,105,115,116]:ai),([]:List ai),([]:List bC),([(⟨([78,105,108]:ai),([]:List ai),([]:List ae)⟩:aH),(⟨([67,111,110,115]:ai),([([120]:ai),([114,101,115,116]:ai)]:List ai),([(⟨1,([]:ai),([]:List ae),([]:List ai),(⟨0,([]:ai),0,([]:List ag)⟩:ag),([]:List ag)⟩:ae),(⟨4,([73,110,116,76,105,115,116]:ai),([]:List ae),([]:List ai),(⟨0,([]:ai),0,([]:List ag)⟩:ag),([]:List ag)⟩:ae)]:List ae)⟩:aH)]:List aH)⟩:aN)]:List aN),([]:List dg),([]:List bD),([]:List bT),([]:List eP),([]:List fJ)⟩:al))<|bP (jm _ br1)<|AD (Gh 3 ([78,105,108]:ai)) (Gf 3 ([78,105,108]:ai))<|tv (bE.mk' (v:=oN) kZ ([r1,(⟨3,0,([78,105,108]:ai),([]:List aa),([]:List ai),([]:List aq),([]:List aD)⟩:aa)]:List aa) 2 (by kernel_rfl))<|AD (sM 3 ([67,111,110,115]:ai) ([r1,(⟨3,0,([78,105,108]:ai),([]:List aa),([]:List ai),([]:List aq),([]:List aD)⟩:aa)]:List aa)) (Dg 3 ([67,111,110,115]:ai) ([r1,(⟨3,0,([78,105,108]:ai),([]:List aa),([]:List ai),([]:List aq),([]:List aD)⟩:aa)]:List aa))<|tx zX<|ty (bz (⟨3,0,([67,111,110,115]:ai),([r1,(⟨3,0,([78,105,108]:ai),([]:List aa),([]:List ai),([]:List aq),([]:List aD)⟩:aa)]:List aa),([]:List ai),([]:List aq),([]:List aD)⟩:aa))<|tv (gj (⟨([(⟨([73,110,116,76,105,115,116]:ai),([]:List ai),([]:List bC),([(⟨([78,105,108]:ai),([]:List ai),([]:List ae)⟩:aH),(⟨([67,111,110,115]:ai),([([120]:ai),([114,101,115,116]:ai)]:List ai),([(⟨1,([]:ai),([]:List ae),([]:List ai),(⟨0,([]:ai),0,([]:List ag)⟩:ag),([]:List ag)⟩:ae),(⟨4,([73,110,116,76,105,115,116]:ai),([]:List ae),([]:List ai),(⟨0,([]:ai),0,([]:List ag)⟩:ag),([]:List ag)⟩:ae)]:List ae)⟩:aH)]:List aH)⟩:aN)]:List aN),([]:List dg),([]:List bD),([]:List bT),([]:List eP),([]:List fJ)⟩:al) [])<|tv (cx (⟨4,([73,110,116,76,105,115,116]:ai),([]:List ae),([]:List ai),(⟨0,([]:ai),0,([]:List ag)⟩:ag),([]:List ag)⟩:ae) [])<|bP (xF _ br2)<|tv (gj (⟨([(⟨([73,110,116,76,105,115,116]:ai),([]:List ai),([]:List bC),([(⟨([78,105,108]:ai),([]:List ai),([]:List ae)⟩:aH),(⟨([67,111,110,115]:ai),([([120]:ai),([114,101,115,116]:ai)]:List ai),([(⟨1,([]:ai),([]:List ae),([]:List ai),(⟨0,([]:ai),0,([]:List ag)⟩:ag),([]:List ag)⟩:ae),(⟨4,([73,110,116,76,105,115,116]:ai),([]:List ae),([]:List ai),(⟨0,([]:ai),0,([]:List ag)⟩:ag),([]:List ag)⟩:ae)]:List ae)⟩:aH)]:List aH)⟩:aN)]:List aN),([]:List dg),([]:List bD),([]:List bT),([]:List eP),([]:List fJ)⟩:al) [])<|AD (iy 2) (iw 2)<|bP (xF _ br3)<|tv (gj (⟨([(⟨([73,110,116,76,105,115,116]:ai),([]:List ai),([]:List bC),([(⟨([78,105,108]:ai),([]:List ai),([]:List ae)⟩:aH),(⟨([67,111,110,115]:ai),([([120]:ai),([114,101,115,116]:ai)]:List ai),([(⟨1,([]:ai),([]:List ae),([]:List ai),(⟨0,([]:ai),0,([]:List ag)⟩:ag),([]:List ag)⟩:ae),(⟨4,([73,110,116,76,105,115,116]:ai),([]:List ae),([]:List ai),(⟨0,([]:ai),0,([]:List ag)⟩:ag),([]:List ag)⟩:ae)]:List ae)⟩:aH)]:List aH)⟩:aN)]:List aN),([]:List dg),([]:List bD),([]:List bT),([]:List eP),([]:List fJ)⟩:al) [])<|tv (aM (⟨3,0,([67,111,110,115]:ai),([r1,(⟨3,0,([78,105,108]:ai),([]:List aa),([]:List ai),([]:List aq),([]:List aD)⟩:aa)]:List aa),([]:List ai),([]:List aq),([]:List aD)⟩:aa) [])<|bP (qt _ br4)<|tx tK<|tx (fu r4.1)<|tf (λc6=>tb λr7 br7=>tf (λc8=>tf (λc9=>tb λx10 bx10=>tb λr11 br11=>tf (λc12=>tb λx13 bx13=>tb λr14 br14=>tf (λc15=>tb λx16 bx16=>tb λr17 br17=>tf (λc18=>tf (λc19=>tb λx20 bx20=>tf (λc21=>tb λr22 br22=>tb λr23 br23=>tf (λc24=>tf (λc25=>tf (λc26=>tb λr27 br27=>oY [0,1,3,7,15,31,63,127,255,511,1023,2047,4095,8191,16383,32767,65535,131071,262143,524287,1048575,2097151,4194303,8388607,16777215,33554431,67108863,134217727,268435455,536870911,1073741823,268435455,4294967295,8589934591,17179869183,34359738367,68719476735,137438953471,274877906943,549755813887,1099511627775,2199023255551,4398046511103,8796093022207,17592186044415,35184372088831,70368744177663,140737488355327,140737488355327,562949953421311,1125899906842623,2251799813685247,4503599627370495,9007199254740991,18014398509481983,36028797018963967,72057594037927935,144115188075855871,288230376151711743,576460752303423487,1152921504606846975,2305843009213693951,2305843009213693951,2305843009213693951,18446744073709551615,36893488147419103231,73786976294838206463]<|tv (aM (⟨3,0,([67,111,110,115]:ai),([r1,(⟨3,0,([78,105,108]:ai),([]:List aa),([]:List ai),([]:List aq),([]:List aD)⟩:aa)]:List aa),([]:List ai),([]:List aq),([]:List aD)⟩:aa) [])<|bP (cN _ br5)<|tg 4 c6<|tv (aM (⟨3,0,([67,111,110,115]:ai),([r1,(⟨3,0,([78,105,108]:ai),([]:List aa),([]:List ai),([]:List aq),([]:List aD)⟩:aa)]:List aa),([]:List ai),([]:List aq),([]:List aD)⟩:aa) [])<|bP (aS _ br7)<|tg 9 c8<|ck (bE.ln r2)<|tg 14 c9<|tv (bE.ia (k:=.i64) bx10)<|tv (aB x10)<|bP (aS _ br11)<|tg 21 c12<|tv (bE.ia (k:=.i64) bx13)<|tv (aB x13)<|bP (aS _ br14)<|tg 28 c15<|tv (bE.ia (k:=.i64) bx16)<|tv (aB x16)<|tv (aM (⟨3,0,([67,111,110,115]:ai),([r1,(⟨3,0,([78,105,108]:ai),([]:List aa),([]:List ai),([]:List aq),([]:List aD)⟩:aa)]:List aa),([]:List ai),([]:List aq),([]:List aD)⟩:aa) [])<|bP (fH _ br17)<|tg 35 c18<|ck (bE.ln r3)<|tg 40 c19<|tv (bE.ia (k:=.i64) bx20)<|tw (aC x20)<|tg 47 c21<|tv (gj (⟨([(⟨([73,110,116,76,105,115,116]:ai),([]:List ai),([]:List bC),([(⟨([78,105,108]:ai),([]:List ai),([]:List ae)⟩:aH),(⟨([67,111,110,115]:ai),([([120]:ai),([114,101,115,116]:ai)]:List ai),([(⟨1,([]:ai),([]:List ae),([]:List ai),(⟨0,([]:ai),0,([]:List ag)⟩:ag),([]:List ag)⟩:ae),(⟨4,([73,110,116,76,105,115,116]:ai),([]:List ae),([]:List ai),(⟨0,([]:ai),0,([]:List ag)⟩:ag),([]:List ag)⟩:ae)]:List ae)⟩:aH)]:List aH)⟩:aN)]:List aN),([]:List dg),([]:List bD),([]:List bT),([]:List eP),([]:List fJ)⟩:al) [])<|bP (jm _ br22)<|bP (cX _ br23)<|tg 53 c24<|ts<|tg 58 c25<|tg 61 c26<|tv (gj (⟨([(⟨([73,110,116,76,105,115,116]:ai),([]:List ai),([]:List bC),([(⟨([78,105,108]:ai),([]:List ai),([]:List ae)⟩:aH),(⟨([67,111,110,115]:ai),([([120]:ai),([114,101,115,116]:ai)]:List ai),([(⟨1,([]:ai),([]:List ae),([]:List ai),(⟨0,([]:ai),0,([]:List ag)⟩:ag),([]:List ag)⟩:ae),(⟨4,([73,110,116,76,105,115,116]:ai),([]:List ae),([]:List ai),(⟨0,([]:ai),0,([]:List ag)⟩:ag),([]:List ag)⟩:ae)]:List ae)⟩:aH)]:List aH)⟩:aN)]:List aN),([]:List dg),([]:List bD),([]:List bT),([]:List eP),([]:List fJ)⟩:al) [])<|tv (aM (⟨3,0,([67,111,110,115]:ai),([r1,(⟨3,0,([78,105,108]:ai),([]:List aa),([]:List ai),([]:List aq),([]:List aD)⟩:aa)]:List aa),([]:List ai),([]:List aq),([]:List aD)⟩:aa) [])<|tv (cx (⟨4,([73,110,116,76,105,115,116]:ai),([]:List ae),([]:List ai),(⟨0,([]:ai),0,([]:List ag)⟩:ag),([]:List ag)⟩:ae) [])<|bP (qr _ br27)<|tE) λc26=>oY [0,1,3,7,15,31,63,127,255,511,1023,2047,4095,8191,16383,32767,65535,131071,262143,524287,1048575,2097151,4194303,8388607,16777215,33554431,67108863,134217727,268435455,536870911,1073741823,268435455,4294967295,8589934591,17179869183,34359738367,68719476735,137438953471,274877906943,549755813887,1099511627775,2199023255551,4398046511103,8796093022207,17592186044415,35184372088831,70368744177663,140737488355327,140737488355327,562949953421311,1125899906842623,2251799813685247,4503599627370495,9007199254740991,18014398509481983,36028797018963967,72057594037927935,144115188075855871,288230376151711743,576460752303423487,1152921504606846975,2305843009213693951,2305843009213693951,2305843009213693951,18446744073709551615,36893488147419103231,73786976294838206463]<|tv (aM (⟨3,0,([67,111,110,115]:ai),([r1,(⟨3,0,([78,105,108]:ai),([]:List aa),([]:List ai),([]:List aq),([]:List aD)⟩:aa)]:List aa),([]:List ai),([]:List aq),([]:List aD)⟩:aa) [])<|bP (cN _ br5)<|tg 4 c6<|tv (aM (⟨3,0,([67,111,110,115]:ai),([r1,(⟨3,0,([78,105,108]:ai),([]:List aa),([]:List ai),([]:List aq),([]:List aD)⟩:aa)]:List aa),([]:List ai),([]:List aq),([]:List aD)⟩:aa) [])<|bP (aS _ br7)<|tg 9 c8<|ck (bE.ln r2)<|tg 14 c9<|tv (bE.ia (k:=.i64) bx10)<|tv (aB x10)<|bP (aS _ br11)<|tg 21 c12<|tv (bE.ia (k:=.i64) bx13)<|tv (aB x13)<|bP (aS _ br14)<|tg 28 c15<|tv (bE.ia (k:=.i64) bx16)<|tv (aB x16)<|tv (aM (⟨3,0,([67,111,110,115]:ai),([r1,(⟨3,0,([78,105,108]:ai),([]:List aa),([]:List ai),([]:List aq),([]:List aD)⟩:aa)]:List aa),([]:List ai),([]:List aq),([]:List aD)⟩:aa) [])<|bP (fH _ br17)<|tg 35 c18<|ck (bE.ln r3)<|tg 40 c19<|tv (bE.ia (k:=.i64) bx20)<|tw (aC x20)<|tg 47 c21<|tv (gj (⟨([(⟨([73,110,116,76,105,115,116]:ai),([]:List ai),([]:List bC),([(⟨([78,105,108]:ai),([]:List ai),([]:List ae)⟩:aH),(⟨([67,111,110,115]:ai),([([120]:ai),([114,101,115,116]:ai)]:List ai),([(⟨1,([]:ai),([]:List ae),([]:List ai),(⟨0,([]:ai),0,([]:List ag)⟩:ag),([]:List ag)⟩:ae),(⟨4,([73,110,116,76,105,115,116]:ai),([]:List ae),([]:List ai),(⟨0,([]:ai),0,([]:List ag)⟩:ag),([]:List ag)⟩:ae)]:List ae)⟩:aH)]:List aH)⟩:aN)]:List aN),([]:List dg),([]:List bD),([]:List bT),([]:List eP),([]:List fJ)⟩:al) [])<|bP (jm _ br22)<|bP (cX _ br23)<|tg 53 c24<|ts<|tg 58 c25<|tg 61 c26<|tE) λc25=>oY [0,1,3,7,15,31,63,127,255,511,1023,2047,4095,8191,16383,32767,65535,131071,262143,524287,1048575,2097151,4194303,8388607,16777215,33554431,67108863,134217727,268435455,536870911,1073741823,268435455,4294967295,8589934591,17179869183,34359738367,68719476735,137438953471,274877906943,549755813887,1099511627775,2199023255551,4398046511103,8796093022207,17592186044415,35184372088831,70368744177663,140737488355327,140737488355327,562949953421311,1125899906842623,2251799813685247,4503599627370495,9007199254740991,18014398509481983,36028797018963967,72057594037927935,144115188075855871,288230376151711743,576460752303423487,1152921504606846975,2305843009213693951,2305843009213693951,2305843009213693951,18446744073709551615,36893488147419103231,73786976294838206463]<|tv (aM (⟨3,0,([67,111,110,115]:ai),([r1,(⟨3,0,([78,105,108]:ai),([]:List aa),([]:List ai),([]:List aq),([]:List aD)⟩:aa)]:List aa),([]:List ai),([]:List aq),([]:List aD)⟩:aa) [])<|bP (cN _ br5)<|tg 4 c6<|tv (aM (⟨3,0,([67,111,110,115]:ai),([r1,(⟨3,0,([78,105,108]:ai),([]:List aa),([]:List ai),([]:List aq),([]:List aD)⟩:aa)]:List aa),([]:List ai),([]:List aq),([]:List aD)⟩:aa) [])<|bP (aS _ br7)<|tg 9 c8<|ck (bE.ln r2)<|tg 14 c9<|tv (bE.ia (k:=.i64) bx10)<|tv (aB x10)<|bP (aS _ br11)<|tg 21 c12<|tv (bE.ia (k:=.i64) bx13)<|tv (aB x13)<|bP (aS _ br14)<|tg 28 c15<|tv (bE.ia (k:=.i64) bx16)<|tv (aB x16)<|tv (aM (⟨3,0,([67,111,110,115]:ai),([r1,(⟨3,0,([78,105,108]:ai),([]:List aa),([]:List ai),([]:List aq),([]:List aD)⟩:aa)]:List aa),([]:List ai),([]:List aq),([]:List aD)⟩:aa) [])<|bP (fH _ br17)<|tg 35 c18<|ck (bE.ln r3)<|tg 40 c19<|tv (bE.ia (k:=.i64) bx20)<|tw (aC x20)<|tg 47 c21<|tv (gj (⟨([(⟨([73,110,116,76,105,115,116]:ai),([]:List ai),([]:List bC),([(⟨([78,105,108]:ai),([]:List ai),([]:List ae)⟩:aH),(⟨([67,111,110,115]:ai),([([120]:ai),([114,101,115,116]:ai)]:List ai),([(⟨1,([]:ai),([]:List ae),([]:List ai),(⟨0,([]:ai),0,([]:List ag)⟩:ag),([]:List ag)⟩:ae),(⟨4,([73,110,116,76,105,115,116]:ai),([]:List ae),([]:List ai),(⟨0,([]:ai),0,([]:List ag)⟩:ag),([]:List ag)⟩:ae)]:List ae)⟩:aH)]:List aH)⟩:aN)]:List aN),([]:List dg),([]:List bD),([]:List bT),([]:List eP),([]:List fJ)⟩:al) [])<|bP (jm _ br22)<|bP (cX _ br23)<|tg 53 c24<|ts<|tg 58 c25<|tE) λc24=>oY [0,1,3,7,15,31,63,127,255,511,1023,2047,4095,8191,16383,32767,65535,131071,262143,524287,1048575,2097151,4194303,8388607,16777215,33554431,67108863,134217727,268435455,536870911,1073741823,268435455,4294967295,8589934591,17179869183,34359738367,68719476735,137438953471,274877906943,549755813887,1099511627775,2199023255551,4398046511103,8796093022207,17592186044415,35184372088831,70368744177663,140737488355327,140737488355327,562949953421311,1125899906842623,2251799813685247,4503599627370495,9007199254740991,18014398509481983,36028797018963967,72057594037927935,144115188075855871,288230376151711743,576460752303423487,1152921504606846975,2305843009213693951,2305843009213693951,2305843009213693951,18446744073709551615,36893488147419103231,73786976294838206463]<|tv (aM (⟨3,0,([67,111,110,115]:ai),([r1,(⟨3,0,([78,105,108]:ai),([]:List aa),([]:List ai),([]:List aq),([]:List aD)⟩:aa)]:List aa),([]:List ai),([]:List aq),([]:List aD)⟩:aa) [])<|bP (cN _ br5)<|tg 4 c6<|tv (aM (⟨3,0,([67,111,110,115]:ai),([r1,(⟨3,0,([78,105,108]:ai),([]:List aa),([]:List ai),([]:List aq),([]:List aD)⟩:aa)]:List aa),([]:List ai),([]:List aq),([]:List aD)⟩:aa) [])<|bP (aS _ br7)<|tg 9 c8<|ck (bE.ln r2)<|tg 14 c9<|tv (bE.ia (k:=.i64) bx10)<|tv (aB x10)<|bP (aS _ br11)<|tg 21 c12<|tv (bE.ia (k:=.i64) bx13)<|tv (aB x13)<|bP (aS _ br14)<|tg 28 c15<|tv (bE.ia (k:=.i64) bx16)<|tv (aB x16)<|tv (aM (⟨3,0,([67,111,110,115]:ai),([r1,(⟨3,0,([78,105,108]:ai),([]:List aa),([]:List ai),([]:List aq),([]:List aD)⟩:aa)]:List aa),([]:List ai),([]:List aq),([]:List aD)⟩:aa) [])<|bP (fH _ br17)<|tg 35 c18<|ck (bE.ln r3)<|tg 40 c19<|tv (bE.ia (k:=.i64) bx20)<|tw (aC x20)<|tg 47 c21<|tv (gj (⟨([(⟨([73,110,116,76,105,115,116]:ai),([]:List ai),([]:List bC),([(⟨([78,105,108]:ai),([]:List ai),([]:List ae)⟩:aH),(⟨([67,111,110,115]:ai),([([120]:ai),([114,101,115,116]:ai)]:List ai),([(⟨1,([]:ai),([]:List ae),([]:List ai),(⟨0,([]:ai),0,([]:List ag)⟩:ag),([]:List ag)⟩:ae),(⟨4,([73,110,116,76,105,115,116]:ai),([]:List ae),([]:List ai),(⟨0,([]:ai),0,([]:List ag)⟩:ag),([]:List ag)⟩:ae)]:List ae)⟩:aH)]:List aH)⟩:aN)]:List aN),([]:List dg),([]:List bD),([]:List bT),([]:List eP),([]:List fJ)⟩:al) [])<|bP (jm _ br22)<|bP (cX _ br23)<|tg 53 c24<|tE) λc21=>oY [0,1,3,7,15,31,63,127,255,511,1023,2047,4095,8191,16383,32767,65535,131071,262143,524287,1048575,2097151,4194303,8388607,16777215,33554431,67108863,134217727,268435455,536870911,1073741823,268435455,4294967295,8589934591,17179869183,34359738367,68719476735,137438953471,274877906943,549755813887,1099511627775,2199023255551,4398046511103,8796093022207,17592186044415,35184372088831,70368744177663,140737488355327,140737488355327,562949953421311,1125899906842623,2251799813685247,4503599627370495,9007199254740991,18014398509481983,36028797018963967,72057594037927935,144115188075855871,288230376151711743,576460752303423487,1152921504606846975,2305843009213693951,2305843009213693951,2305843009213693951,18446744073709551615,36893488147419103231,73786976294838206463]<|tv (aM (⟨3,0,([67,111,110,115]:ai),([r1,(⟨3,0,([78,105,108]:ai),([]:List aa),([]:List ai),([]:List aq),([]:List aD)⟩:aa)]:List aa),([]:List ai),([]:List aq),([]:List aD)⟩:aa) [])<|bP (cN _ br5)<|tg 4 c6<|tv (aM (⟨3,0,([67,111,110,115]:ai),([r1,(⟨3,0,([78,105,108]:ai),([]:List aa),([]:List ai),([]:List aq),([]:List aD)⟩:aa)]:List aa),([]:List ai),([]:List aq),([]:List aD)⟩:aa) [])<|bP (aS _ br7)<|tg 9 c8<|ck (bE.ln r2)<|tg 14 c9<|tv (bE.ia (k:=.i64) bx10)<|tv (aB x10)<|bP (aS _ br11)<|tg 21 c12<|tv (bE.ia (k:=.i64) bx13)<|tv (aB x13)<|bP (aS _ br14)<|tg 28 c15<|tv (bE.ia (k:=.i64) bx16)<|tv (aB x16)<|tv (aM (⟨3,0,([67,111,110,115]:ai),([r1,(⟨3,0,([78,105,108]:ai),([]:List aa),([]:List ai),([]:List aq),([]:List aD)⟩:aa)]:List aa),([]:List ai),([]:List aq),([]:List aD)⟩:aa) [])<|bP (fH _ br17)<|tg 35 c18<|ck (bE.ln r3)<|tg 40 c19<|tv (bE.ia (k:=.i64) bx20)<|tw (aC x20)<|tg 47 c21<|tE) λc19=>oY [0,1,3,7,15,31,63,127,255,511,1023,2047,4095,8191,16383,32767,65535,131071,262143,524287,1048575,2097151,4194303,8388607,16777215,33554431,67108863,134217727,268435455,536870911,1073741823,268435455,4294967295,8589934591,17179869183,34359738367,68719476735,137438953471,274877906943,549755813887,1099511627775,2199023255551,4398046511103,8796093022207,17592186044415,35184372088831,70368744177663,140737488355327,140737488355327,562949953421311,1125899906842623,2251799813685247,4503599627370495,9007199254740991,18014398509481983,36028797018963967,72057594037927935,144115188075855871,288230376151711743,576460752303423487,1152921504606846975,2305843009213693951,2305843009213693951,2305843009213693951,18446744073709551615,36893488147419103231,73786976294838206463]<|tv (aM (⟨3,0,([67,111,110,115]:ai),([r1,(⟨3,0,([78,105,108]:ai),([]:List aa),([]:List ai),([]:List aq),([]:List aD)⟩:aa)]:List aa),([]:List ai),([]:List aq),([]:List aD)⟩:aa) [])<|bP (cN _ br5)<|tg 4 c6<|tv (aM (⟨3,0,([67,111,110,115]:ai),([r1,(⟨3,0,([78,105,108]:ai),([]:List aa),([]:List ai),([]:List aq),([]:List aD)⟩:aa)]:List aa),([]:List ai),([]:List aq),([]:List aD)⟩:aa) [])<|bP (aS _ br7)<|tg 9 c8<|ck (bE.ln r2)<|tg 14 c9<|tv (bE.ia (k:=.i64) bx10)<|tv (aB x10)<|bP (aS _ br11)<|tg 21 c12<|tv (bE.ia (k:=.i64) bx13)<|tv (aB x13)<|bP (aS _ br14)<|tg 28 c15<|tv (bE.ia (k:=.i64) bx16)<|tv (aB x16)<|tv (aM (⟨3,0,([67,111,110,115]:ai),([r1,(⟨3,0,([78,105,108]:ai),([]:List aa),([]:List ai),([]:List aq),([]:List aD)⟩:aa)]:List aa),([]:List ai),([]:List aq),([]:List aD)⟩:aa) [])<|bP (fH _ br17)<|tg 35 c18<|ck (bE.ln r3)<|tg 40 c19<|tE) λc18=>oY [0,1,3,7,15,31,63,127,255,511,1023,2047,4095,8191,16383,32767,65535,131071,262143,524287,1048575,2097151,4194303,8388607,16777215,33554431,67108863,134217727,268435455,536870911,1073741823,268435455,4294967295,8589934591,17179869183,34359738367,68719476735,137438953471,274877906943,549755813887,1099511627775,2199023255551,4398046511103,8796093022207,17592186044415,35184372088831,70368744177663,140737488355327,140737488355327,562949953421311,1125899906842623,2251799813685247,4503599627370495,9007199254740991,18014398509481983,36028797018963967,72057594037927935,144115188075855871,288230376151711743,576460752303423487,1152921504606846975,2305843009213693951,2305843009213693951,2305843009213693951,18446744073709551615,36893488147419103231,73786976294838206463]<|tv (aM (⟨3,0,([67,111,110,115]:ai),([r1,(⟨3,0,([78,105,108]:ai),([]:List aa),([]:List ai),([]:List aq),([]:List aD)⟩:aa)]:List aa),([]:List ai),([]:List aq),([]:List aD)⟩:aa) [])<|bP (cN _ br5)<|tg 4 c6<|tv (aM (⟨3,0,([67,111,110,115]:ai),([r1,(⟨3,0,([78,105,108]:ai),([]:List aa),([]:List ai),([]:List aq),([]:List aD)⟩:aa)]:List aa),([]:List ai),([]:List aq),([]:List aD)⟩:aa) [])<|bP (aS _ br7)<|tg 9 c8<|ck (bE.ln r2)<|tg 14 c9<|tv (bE.ia (k:=.i64) bx10)<|tv (aB x10)<|bP (aS _ br11)<|tg 21 c12<|tv (bE.ia (k:=.i64) bx13)<|tv (aB x13)<|bP (aS _ br14)<|tg 28 c15<|tv (bE.ia (k:=.i64) bx16)<|tv (aB x16)<|tv (aM (⟨3,0,([67,111,110,115]:ai),([r1,(⟨3,0,([78,105,108]:ai),([]:List aa),([]:List ai),([]:List aq),([]:List aD)⟩:aa)]:List aa),([]:List ai),([]:List aq),([]:List aD)⟩:aa) [])<|bP (fH _ br17)<|tg 35 c18<|tE) λc15=>oY [0,1,3,7,15,31,63,127,255,511,1023,2047,4095,8191,16383,32767,65535,131071,262143,524287,1048575,2097151,4194303,8388607,16777215,33554431,67108863,134217727,268435455,536870911,1073741823,268435455,4294967295,8589934591,17179869183,34359738367,68719476735,137438953471,274877906943,549755813887,1099511627775,2199023255551,4398046511103,8796093022207,17592186044415,35184372088831,70368744177663,140737488355327,140737488355327,562949953421311,1125899906842623,2251799813685247,4503599627370495,9007199254740991,18014398509481983,36028797018963967,72057594037927935,144115188075855871,288230376151711743,576460752303423487,1152921504606846975,2305843009213693951,2305843009213693951,2305843009213693951,18446744073709551615,36893488147419103231,73786976294838206463]<|tv (aM (⟨3,0,([67,111,110,115]:ai),([r1,(⟨3,0,([78,105,108]:ai),([]:List aa),([]:List ai),([]:List aq),([]:List aD)⟩:aa)]:List aa),([]:List ai),([]:List aq),([]:List aD)⟩:aa) [])<|bP (cN _ br5)<|tg 4 c6<|tv (aM (⟨3,0,([67,111,110,115]:ai),([r1,(⟨3,0,([78,105,108]:ai),([]:List aa),([]:List ai),([]:List aq),([]:List aD)⟩:aa)]:List aa),([]:List ai),([]:List aq),([]:List aD)⟩:aa) [])<|bP (aS _ br7)<|tg 9 c8<|ck (bE.ln r2)<|tg 14 c9<|tv (bE.ia (k:=.i64) bx10)<|tv (aB x10)<|bP (aS _ br11)<|tg 21 c12<|tv (bE.ia (k:=.i64) bx13)<|tv (aB x13)<|bP (aS _ br14)<|tg 28 c15<|tE) λc12=>oY [0,1,3,7,15,31,63,127,255,511,1023,2047,4095,8191,16383,32767,65535,131071,262143,524287,1048575,2097151,4194303,8388607,16777215,33554431,67108863,134217727,268435455,536870911,1073741823,268435455,4294967295,8589934591,17179869183,34359738367,68719476735,137438953471,274877906943,549755813887,1099511627775,2199023255551,4398046511103,8796093022207,17592186044415,35184372088831,70368744177663,140737488355327,140737488355327,562949953421311,1125899906842623,2251799813685247,4503599627370495,9007199254740991,18014398509481983,36028797018963967,72057594037927935,144115188075855871,288230376151711743,576460752303423487,1152921504606846975,2305843009213693951,2305843009213693951,2305843009213693951,18446744073709551615,36893488147419103231,73786976294838206463]<|tv (aM (⟨3,0,([67,111,110,115]:ai),([r1,(⟨3,0,([78,105,108]:ai),([]:List aa),([]:List ai),([]:List aq),([]:List aD)⟩:aa)]:List aa),([]:List ai),([]:List aq),([]:List aD)⟩:aa) [])<|bP (cN _ br5)<|tg 4 c6<|tv (aM (⟨3,0,([67,111,110,115]:ai),([r1,(⟨3,0,([78,105,108]:ai),([]:List aa),([]:List ai),([]:List aq),([]:List aD)⟩:aa)]:List aa),([]:List ai),([]:List aq),([]:List aD)⟩:aa) [])<|bP (aS _ br7)<|tg 9 c8<|ck (bE.ln r2)<|tg 14 c9<|tv (bE.ia (k:=.i64) bx10)<|tv (aB x10)<|bP (aS _ br11)<|tg 21 c12<|tE) λc9=>oY [0,1,3,7,15,31,63,127,255,511,1023,2047,4095,8191,16383,32767,65535,131071,262143,524287,1048575,2097151,4194303,8388607,16777215,33554431,67108863,134217727,268435455,536870911,1073741823,268435455,4294967295,8589934591,17179869183,34359738367,68719476735,137438953471,274877906943,549755813887,1099511627775,2199023255551,4398046511103,8796093022207,17592186044415,35184372088831,70368744177663,140737488355327,140737488355327,562949953421311,1125899906842623,2251799813685247,4503599627370495,9007199254740991,18014398509481983,36028797018963967,72057594037927935,144115188075855871,288230376151711743,576460752303423487,1152921504606846975,2305843009213693951,2305843009213693951,2305843009213693951,18446744073709551615,36893488147419103231,73786976294838206463]<|tv (aM (⟨3,0,([67,111,110,115]:ai),([r1,(⟨3,0,([78,105,108]:ai),([]:List aa),([]:List ai),([]:List aq),([]:List aD)⟩:aa)]:List aa),([]:List ai),([]:List aq),([]:List aD)⟩:aa) [])<|bP (cN _ br5)<|tg 4 c6<|tv (aM (⟨3,0,([67,111,110,115]:ai),([r1,(⟨3,0,([78,105,108]:ai),([]:List aa),([]:List ai),([]:List aq),([]:List aD)⟩:aa)]:List aa),([]:List ai),([]:List aq),([]:List aD)⟩:aa) [])<|bP (aS _ br7)<|tg 9 c8<|ck (bE.ln r2)<|tg 14 c9<|tE) λc8=>oY [0,1,3,7,15,31,63,127,255,511,1023,2047,4095,8191,16383,32767,65535,131071,262143,524287,1048575,2097151,4194303,8388607,16777215,33554431,67108863,134217727,268435455,536870911,1073741823,268435455,4294967295,8589934591,17179869183,34359738367,68719476735,137438953471,274877906943,549755813887,1099511627775,2199023255551,4398046511103,8796093022207,17592186044415,35184372088831,70368744177663,140737488355327,140737488355327,562949953421311,1125899906842623,2251799813685247,4503599627370495,9007199254740991,18014398509481983,36028797018963967,72057594037927935,144115188075855871,288230376151711743,576460752303423487,1152921504606846975,2305843009213693951,2305843009213693951,2305843009213693951,18446744073709551615,36893488147419103231,73786976294838206463]<|tv (aM (⟨3,0,([67,111,110,115]:ai),([r1,(⟨3,0,([78,105,108]:ai),([]:List aa),([]:List ai),([]:List aq),([]:List aD)⟩:aa)]:List aa),([]:List ai),([]:List aq),([]:List aD)⟩:aa) [])<|bP (cN _ br5)<|tg 4 c6<|tv (aM (⟨3,0,([67,111,110,115]:ai),([r1,(⟨3,0,([78,105,108]:ai),([]:List aa),([]:List ai),([]:List aq),([]:List aD)⟩:aa)]:List aa),([]:List ai),([]:List aq),([]:List aD)⟩:aa) [])<|bP (aS _ br7)<|tg 9 c8<|tE) λc6=>oY [0,1,3,7,15,31,63,127,255,511,1023,2047,4095,8191,16383,32767,65535,131071,262143,524287,1048575,2097151,4194303,8388607,16777215,33554431,67108863,134217727,268435455,536870911,1073741823,268435455,4294967295,8589934591,17179869183,34359738367,68719476735,137438953471,274877906943,549755813887,1099511627775,2199023255551,4398046511103,8796093022207,17592186044415,35184372088831,70368744177663,140737488355327,140737488355327,562949953421311,1125899906842623,2251799813685247,4503599627370495,9007199254740991,18014398509481983,36028797018963967,72057594037927935,144115188075855871,288230376151711743,576460752303423487,1152921504606846975,2305843009213693951,2305843009213693951,2305843009213693951,18446744073709551615,36893488147419103231,73786976294838206463]<|tv (aM (⟨3,0,([67,111,110,115]:ai),([r1,(⟨3,0,([78,105,108]:ai),([]:List aa),([]:List ai),([]:List aq),([]:List aD)⟩:aa)]:List aa),([]:List ai),([]:List aq),([]:List aD)⟩:aa) [])<|bP (cN _ br5)<|tg 4 c6<|tE
abbrev pB:=(al->aa->Option Int)
abbrev tT(R:pB):Prop:=∀(m:al) (v:aa),OV 14 [.agg (am m),.agg (ac v)] (R m v) (λr=>.int .i64 r) []
noncomputable def Wl:Code:=f40.body.getD .skip
theorem V4:ZF Pg [] 40 f40 Wl:=zf call40 func40 rfl mixed
section
variable(v:aa)
def rI:Option Bool:=
 if decide ((v.Params.length:Int)>0)=true then
  some true
 else if decide ((v.Body.length:Int)>0)=true then
  some true
 else
  some (decide ((v.Binds.length:Int)>0))
theorem De:OU 0 (cA Wl 12) (rI v) .normal (λo=>[(18,.bool o)]) (bO 34 [(1,.eptr (ac v))] [.dead] []):=V4.j<|
 have pp2:=λ{X Y Z} (r:PV _ X Y Z)=>tw (eI v)<|ck (lY.ln v.Params)<|r;tf (λc1=>pp2<|tg 5 c1<|tE) λc1=>have pp4:=λ{X Y Z} (r:PV _ X Y Z)=>pp2<|tg 5 c1<|tw (cy v)<|ck (yF.ln v.Body)<|r;tf (λc3=>pp4<|tg 11 c3<|tE) λc3=>pp4<|tg 11 c3<|tw (cU v)<|ck (GR.ln v.Binds)<|tE
end
def A2(v:aa):Option Bool:=
 (rI v).bind λo5=>
 if o5=true then
  some true
 else if(v.Op==3)=true then
  some (v.N !=0)
 else if(!(v.Name==([]:ai)))=true then
  some true
 else
  some (decide ((v.Kids.length:Int)>0))
theorem H4{v:aa}:OV 40 [.agg (ac v)] (A2 v) (λr=>.bool r) []:=V4.v<|
 tb λo5 bo5=>te (cD v)<|qT 1<|dn (De v _ bo5)<|tF tE<|tw (aJ v)<|tF (tw (aC v)<|tE)<|have pp9:=λ{X Y Z} (r:PV _ X Y Z)=>tw (bH v)<|r;tf (λc8=>pp9<|tg 4 c8<|tE) λc8=>pp9<|tg 4 c8<|tw (aU v)<|ck (bE.ln v.Kids)<|tE
noncomputable def Xo:Code:=f41.body.getD .skip
theorem W1:ZF Pg [] 41 f41 Xo:=zf call41 func41 rfl mixed
def DJ(n:Int):Option Bool:=
 if decide (n>=(-1000000000000))=true then
  some (decide (n<=1000000000000))
 else
  some false
theorem G5{n:Int}:OV 41 [.int .i64 n] (DJ n) (λr=>.bool r) []:=W1.v<|
 tf (λc1=>tg 3 c1<|tE) λc1=>tg 3 c1<|tE
noncomputable def Ta:Code:=f42.body.getD .skip
theorem UK:ZF Pg [44] 42 f42 Ta:=zf call42 func42 rfl mixed
section
variable(name:ai)(m:al)(i:Int)(k:Int)(m2:ai)(m3:waA)(m4:waD)(m5:waE)
def rB:az:=bO 46 [(1,.str name),(2,.eptr (am m)),(4,.bptr 1 0),(7,.int .i64 i),(8,.int .i64 k)] [.dead,.cells [.str m2,sl cS m3,sl bG m4,sl aF m5] [(1,9),(2,223),(3,76)]] []
def y4(o:(Int×ai×waA×waD×waE)⊕(ai×waA×waD×waE)):Exit:=match o with
 |(.inl _)=>.ret
 |(.inr _)=>.exit 2
def y5(o:(Int×ai×waA×waD×waE)⊕(ai×waA×waD×waE)):az:=match o with
 |(.inl o)=>bO 46 [(4,.bptr 1 0),(5,.int .i64 o.1),(6,.bool true)] [.dead,.cells [.str o.2.1,sl cS o.2.2.1,sl bG o.2.2.2.1,sl aF o.2.2.2.2] []] []
 |(.inr o)=>bO 46 [(1,.str name),(2,.eptr (am m)),(4,.bptr 1 0),(7,.int .i64 i)] [.dead,.cells [.str o.1,sl cS o.2.1,sl bG o.2.2.1,sl aF o.2.2.2] [(1,9),(2,223),(3,76)]] []
def gu:Option ((Int×ai×waA×waD×waE)⊕((Int×ai×waA×waD×waE)⊕(ai×waA×waD×waE))):=
 (cH m.Datas i).bind λx2=>
 if decide (k<(x2.Cons.length:Int))=true then
  (cH m.Datas i).bind λx4=>
  (cH x4.Cons k).bind λx5=>
  if(x5.Name==name)=true then
   (cH m.Datas i).bind λx7=>
   some (.inr (.inl (k,x7.Name,x7.Vars,x7.Preds,x7.Cons)))
  else
   some (.inl (bw (k+1),m2,m3,m4,m5))
 else
  some (.inr (.inr (m2,m3,m4,m5)))
def xQ:Option ((Int×ai×waA×waD×waE)⊕(ai×waA×waD×waE)):=loop (λ(zz:Int×ai×waA×waD×waE)=>gu name m i zz.1 zz.2.1 zz.2.2.1 zz.2.2.2.1 zz.2.2.2.2) (k,m2,m3,m4,m5)
theorem DT:OL 0 (cA Ta 3567) (gu name m i k m2 m3 m4 m5) (λ(zz:Int×ai×waA×waD×waE)=>rB name m i zz.1 zz.2.1 zz.2.2.1 zz.2.2.2.1 zz.2.2.2.2) y4 (y5 name m i) (rB name m i k m2 m3 m4 m5):=UK.l<|
 tb λx2 bx2=>tw (bj m)<|tv (vI.ia (k:=.i64) bx2)<|tw (eY x2)<|ck (Dj.ln x2.Cons)<|tF (tb λx4 bx4=>tb λx5 bx5=>tw (bj m)<|tv (vI.ia (k:=.i64) bx4)<|tw (eY x4)<|tv (Dj.ia (k:=.i64) bx5)<|tw (Bd x5)<|tF (tb λx7 bx7=>tw (bj m)<|tv (vI.ia (k:=.i64) bx7)<|tv (zI x7)<|tx (eS x7)<|tE)<|tE)<|tE
theorem wS:OK 0 (.loop (cA Ta 3567)) (xQ name m i k m2 m3 m4 m5) y4 (y5 name m i) (rB name m i k m2 m3 m4 m5):=DF λ_=>DT _ _ _ _ _ _ _ _
end
section
variable(name:ai)(m:al)(i:Int)(m2:ai)(m3:waA)(m4:waD)(m5:waE)
def rA:az:=bO 46 [(1,.str name),(2,.eptr (am m)),(4,.bptr 1 0),(7,.int .i64 i)] [.dead,.cells [.str m2,sl cS m3,sl bG m4,sl aF m5] [(1,9),(2,223),(3,76)]] []
def y2(o:(Int×ai×waA×waD×waE)⊕(ai×waA×waD×waE)):Exit:=match o with
 |(.inl _)=>.ret
 |(.inr _)=>.exit 0
def y3(o:(Int×ai×waA×waD×waE)⊕(ai×waA×waD×waE)):az:=match o with
 |(.inl o)=>bO 46 [(4,.bptr 1 0),(5,.int .i64 o.1),(6,.bool true)] [.dead,.cells [.str o.2.1,sl cS o.2.2.1,sl bG o.2.2.2.1,sl aF o.2.2.2.2] []] []
 |(.inr o)=>bO 46 [(4,.bptr 1 0)] [.dead,.cells [.str o.1,sl cS o.2.1,sl bG o.2.2.1,sl aF o.2.2.2] [(1,9),(2,223),(3,76)]] []
def gr:Option ((Int×ai×waA×waD×waE)⊕((Int×ai×waA×waD×waE)⊕(ai×waA×waD×waE))):=
 if decide (i<(m.Datas.length:Int))=true then
  (xQ name m i 0 m2 m3 m4 m5).bind λo8=>match o8 with
  |(.inl o8)=>
   some (.inr (.inl (o8.1,o8.2.1,o8.2.2.1,o8.2.2.2.1,o8.2.2.2.2)))
  |(.inr o8)=>
   some (.inl (bw (i+1),o8.1,o8.2.1,o8.2.2.1,o8.2.2.2))
 else
  some (.inr (.inr (m2,m3,m4,m5)))
def xP:Option ((Int×ai×waA×waD×waE)⊕(ai×waA×waD×waE)):=loop (λ(zz:Int×ai×waA×waD×waE)=>gr name m zz.1 zz.2.1 zz.2.2.1 zz.2.2.2.1 zz.2.2.2.2) (i,m2,m3,m4,m5)
theorem DS:OL 0 (cA Ta 55) (gr name m i m2 m3 m4 m5) (λ(zz:Int×ai×waA×waD×waE)=>rA name m zz.1 zz.2.1 zz.2.2.1 zz.2.2.2.1 zz.2.2.2.2) y2 y3 (rA name m i m2 m3 m4 m5):=UK.l<|
 tw (bj m)<|ck (vI.ln m.Datas)<|tF (t2 (λo8 bo8=>dn (wS name m i 0 m2 m3 m4 m5 _ bo8)<|tE) λo8 bo8=>dn (wS name m i 0 m2 m3 m4 m5 _ bo8)<|tE)<|tE
theorem wR:OK 0 (.loop (cA Ta 55)) (xP name m i m2 m3 m4 m5) y2 y3 (rA name m i m2 m3 m4 m5):=DF λ_=>DS _ _ _ _ _ _ _
end
def vS(m:al)(name:ai):Option (aN×Int×Bool):=
 (xP name m 0 ([]:ai) ([]:List ai) ([]:List bC) ([]:List aH)).bind λo9=>match o9 with
 |(.inl o9)=>
  some ((⟨o9.2.1,o9.2.2.1,o9.2.2.2.1,o9.2.2.2.2⟩:aN),o9.1,true)
 |(.inr o9)=>
  some ((⟨([]:ai),([]:List ai),([]:List bC),([]:List aH)⟩:aN),0,false)
theorem DU{m:al}{name:ai}:OV 42 [.agg (am m),.str name] (vS m name) (λr=>.tuple [.agg (ax r.1),.int .i64 r.2.1,.bool r.2.2]) []:=UK.v<|
 te (de m)<|tx By<|t2 (λo9 bo9=>dn (wR name m 0 ([]:ai) ([]:List ai) ([]:List bC) ([]:List aH) _ bo9)<|GT λq=>aI (vbj PVal.tuple (eL (nG (⟨o9.2.1,o9.2.2.1,o9.2.2.2.1,o9.2.2.2.2⟩:aN)) (eL (rP (.int .i64 o9.1)) (eL (rP (.bool true)) (rfl:([]:List PVal)=[]))))) q.2) λo9 bo9=>dn (wR name m 0 ([]:ai) ([]:List ai) ([]:List bC) ([]:List aH) _ bo9)<|AD (yd) (yc)<|ty (jp (⟨([]:ai),([]:List ai),([]:List bC),([]:List aH)⟩:aN))<|GT λq=>aI (vbj PVal.tuple (eL (nG (⟨([]:ai),([]:List ai),([]:List bC),([]:List aH)⟩:aN)) (eL (rP (.int .i64 0)) (eL (rP (.bool false)) (rfl:([]:List PVal)=[]))))) q.2
noncomputable def Xm:Code:=f37.body.getD .skip
theorem WZ:ZF Pg [] 37 f37 Xm:=zf call37 func37 rfl mixed
def nY(m:al)(v:aa):Option ae:=
 if(v.Op==1)=true then
  some (⟨1,([]:ai),([]:List ae),([]:List ai),(⟨0,([]:ai),0,([]:List ag)⟩:ag),([]:List ag)⟩:ae)
 else if(v.Op==2)=true then
  some (⟨2,([]:ai),([]:List ae),([]:List ai),(⟨0,([]:ai),0,([]:List ag)⟩:ag),([]:List ag)⟩:ae)
 else if(v.Op==4)=true then
  some (⟨3,([]:ai),([]:List ae),([]:List ai),(⟨0,([]:ai),0,([]:List ag)⟩:ag),([]:List ag)⟩:ae)
 else
  (vS m v.Name).bind λr4=>
  some (⟨4,r4.1.Name,([]:List ae),([]:List ai),(⟨0,([]:ai),0,([]:List ag)⟩:ag),([]:List ag)⟩:ae)
theorem xe{m:al}{v:aa}:OV 37 [.agg (am m),.agg (ac v)] (nY m v) (λr=>.agg (af r)) [(2,44),(3,9),(7,42),(8,42)]:=WZ.va<|
 te (de m)<|te (cD v)<|tx tK<|tw (aJ v)<|tF (AD (iy 1) (iw 1)<|ty (aR (⟨1,([]:ai),([]:List ae),([]:List ai),(⟨0,([]:ai),0,([]:List ag)⟩:ag),([]:List ag)⟩:ae))<|GT λq=>aI (eT (⟨1,([]:ai),([]:List ae),([]:List ai),(⟨0,([]:ai),0,([]:List ag)⟩:ag),([]:List ag)⟩:ae)) q.2)<|tF (AD (iy 2) (iw 2)<|ty (aR (⟨2,([]:ai),([]:List ae),([]:List ai),(⟨0,([]:ai),0,([]:List ag)⟩:ag),([]:List ag)⟩:ae))<|GT λq=>aI (eT (⟨2,([]:ai),([]:List ae),([]:List ai),(⟨0,([]:ai),0,([]:List ag)⟩:ag),([]:List ag)⟩:ae)) q.2)<|tF (AD (iy 3) (iw 3)<|ty (aR (⟨3,([]:ai),([]:List ae),([]:List ai),(⟨0,([]:ai),0,([]:List ag)⟩:ag),([]:List ag)⟩:ae))<|GT λq=>aI (eT (⟨3,([]:ai),([]:List ae),([]:List ai),(⟨0,([]:ai),0,([]:List ag)⟩:ag),([]:List ag)⟩:ae)) q.2)<|tb λr4 br4=>tv (bh m)<|tw (bH v)<|bP (DU _ br4)<|tx By<|tx (eS r4.1)<|ts<|AD (nh 4 r4.1.Name) (ng 4 r4.1.Name)<|ty (aR (⟨4,r4.1.Name,([]:List ae),([]:List ai),(⟨0,([]:ai),0,([]:List ag)⟩:ag),([]:List ag)⟩:ae))<|GT λq=>aI (eT (⟨4,r4.1.Name,([]:List ae),([]:List ai),(⟨0,([]:ai),0,([]:List ag)⟩:ag),([]:List ag)⟩:ae)) q.2
abbrev rK:=(ae->ae->Option Bool)
abbrev xK(R:rK):Prop:=∀(a:ae) (a2:ae),OV 43 [.agg (af a),.agg (af a2)] (R a a2) (λr=>.bool r) []
end Go.Proofs.YtjddnhkahpfhdaaGreatDoor
