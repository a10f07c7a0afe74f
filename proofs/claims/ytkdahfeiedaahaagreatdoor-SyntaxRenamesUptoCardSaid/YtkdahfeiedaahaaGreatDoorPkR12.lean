/- PROVED: a part of the proof. Conditions: none. -/
import Derived.Test.YtkdahfeiedaahaaGreatDoorPkR10
import Derived.Test.YtkdahfeiedaahaaGreatDoorPkR11
set_option linter.unusedSimpArgs false
set_option linter.unusedVariables false
noncomputable section
namespace Go.Proofs.YtkdahfeiedaahaaGreatDoor
open Go Go.Proofs.Tryz
set_option linter.unusedVariables false
set_option linter.defProp false
set_option maxRecDepth 100000
abbrev fS:=(al->al->Option Bool)
abbrev kq(R:fS):Prop:=∀(a:al) (a2:al),OV 72 [.agg (ah a),.agg (ah a2)] (R a a2) (λr=>.bool r) []
noncomputable def qdE:Code:=f77.body.getD .skip
theorem qer:ZF Pg [15] 77 f77 qdE:=zf call77 func77 rfl mixed
section
variable(s1:waA)(s2:waA)(t12:Int)(t13:Int)
def n8:aB:=aO 26 [(0,sl cS s1),(1,sl cS s2),(12,.int .i64 t12),(13,.int .i64 t13)] [] []
def uX(o:Unit⊕(Unit)):Exit:=match o with
 |(.inl _)=>.ret
 |(.inr _)=>.exit 0
def uY(o:Unit⊕(Unit)):aB:=match o with
 |(.inl o)=>aO 26 [(4,.bool false)] [] []
 |(.inr o)=>aO 26 [] [] []
def uW:Option (Int⊕(Unit⊕(Unit))):=
 if decide (t13<t12)=true then
  (ey s1 t13).bind λx3=>
  (ey s2 t13).bind λx4=>
  if(!(x3==x4))=true then
   some (.inr (.inl ()))
  else
   some (.inl (dp (t13+1)))
 else
  some (.inr (.inr ()))
def y7:Option (Unit⊕(Unit)):=loop (λ(zz:Int)=>uW s1 s2 t12 zz) t13
theorem Cc:OL 0 (cA qdE 119) (uW s1 s2 t12 t13) (λ(zz:Int)=>n8 s1 s2 t12 zz) uX uY (n8 s1 s2 t12 t13):=qer.l<|
 tF (tb λx3 bx3=>tb λx4 bx4=>Be [0,0,3,7,0,0,48,112,255]<|tv (b8.ia (k:=.i64) bx3)<|tv (cw BZ (.str x3) [])<|tv (b8.ia (k:=.i64) bx4)<|tv (cw BZ (.str x4) [])<|tF tE<|tE)<|tE
theorem tu:OK 0 (.loop (cA qdE 119)) (y7 s1 s2 t12 t13) uX uY (n8 s1 s2 t12 t13):=C9 λ_=>Cc _ _ _ _
end
def FY(s1:waA)(s2:waA):Option Bool:=
 if((s1.length:Int)!=(s2.length:Int))=true then
  some false
 else
  (y7 s1 s2 (s1.length:Int) 0).bind λo6=>match o6 with
  |(.inl o6)=>
   some false
  |(.inr o6)=>
   some true
theorem Jy{s1:waA}{s2:waA}:OV 77 [sl cS s1,sl cS s2] (FY s1 s2) (λr=>.bool r) []:=qer.v<|
 ct (b8.ln s1)<|ct (b8.ln s2)<|tF tE<|ct (b8.ln s1)<|t2 (λo6 bo6=>cD (tu s1 s2 (s1.length:Int) 0 _ bo6)<|tE) λo6 bo6=>cD (tu s1 s2 (s1.length:Int) 0 _ bo6)<|tE
abbrev mT:=(aw->aw->Option Bool)
abbrev uh(R:mT):Prop:=∀(a:aw) (a2:aw),OV 123 [.agg (av a),.agg (av a2)] (R a a2) (λr=>.bool r) []
noncomputable def qab:Code:=f152.body.getD .skip
theorem qbl:ZF Pg [17] 152 f152 qab:=zf call152 func152 rfl mixed
section
variable(R3:mT)(v:waF)(v2:waF)(t14:Int)(t15:Int)
def qq:aB:=aO 30 [(0,sl av v),(1,sl av v2),(2,.func (.func 123) [] []),(14,.int .i64 t14),(15,.int .i64 t15)] [] []
def y5(o:Unit⊕(Unit)):Exit:=match o with
 |(.inl _)=>.ret
 |(.inr _)=>.exit 0
def y6(o:Unit⊕(Unit)):aB:=match o with
 |(.inl o)=>aO 30 [(6,.bool false)] [] []
 |(.inr o)=>aO 30 [] [] []
def y4:Option (Int⊕(Unit⊕(Unit))):=
 if decide (t15<t14)=true then
  (ey v t15).bind λx3=>
  (ey v2 t15).bind λx4=>
  (R3 x3 x4).bind λr5=>
  if(!r5)=true then
   some (.inr (.inl ()))
  else
   some (.inl (dp (t15+1)))
 else
  some (.inr (.inr ()))
def Da:Option (Unit⊕(Unit)):=loop (λ(zz:Int)=>y4 R3 v v2 t14 zz) t15
theorem FM(hR3:uh R3):OL 0 (cA qab 119) (y4 R3 v v2 t14 t15) (λ(zz:Int)=>qq v v2 t14 zz) y5 y6 (qq v v2 t14 t15):=qbl.l<|
 tF (tb λx3 bx3=>tb λx4 bx4=>tb λr5 br5=>Be [0,0,0,6,14,0,0,96,224,511,1023]<|tv (ni.ia (k:=.i64) bx3)<|tv (nK x3)<|tv (ni.ia (k:=.i64) bx4)<|tv (nK x4)<|bM (hR3 _ _ _ br5)<|tF tE<|tE)<|tE
theorem wW(hR3:uh R3):OK 0 (.loop (cA qab 119)) (Da R3 v v2 t14 t15) y5 y6 (qq v v2 t14 t15):=C9 λ_=>FM _ _ _ _ _ hR3
end
def L5(R3:mT)(a:waF)(a2:waF):Option Bool:=
 if((a.length:Int)!=(a2.length:Int))=true then
  some false
 else
  (Da R3 a a2 (a.length:Int) 0).bind λo7=>match o7 with
  |(.inl o7)=>
   some false
  |(.inr o7)=>
   some true
theorem No(R3:mT)(hR3:uh R3){a:waF}{a2:waF}:OV 152 [sl av a,sl av a2,.func (.func 123) [] []] (L5 R3 a a2) (λr=>.bool r) []:=qbl.v<|
 ct (ni.ln a)<|ct (ni.ln a2)<|tF tE<|ct (ni.ln a)<|t2 (λo7 bo7=>cD (wW R3 a a2 (a.length:Int) 0 hR3 _ bo7)<|tE) λo7 bo7=>cD (wW R3 a a2 (a.length:Int) 0 hR3 _ bo7)<|tE
noncomputable def qdo:Code:=f123.body.getD .skip
theorem qcU:ZF Pg [] 123 f123 qdo:=zf call123 func123 rfl mixed
def Iy(R3:mT)(a:aw)(a2:aw):Option Bool:=
 if (a.Op == a2.Op) = true then
  if(a.Name==a2.Name)=true then
   if(a.N==a2.N)=true then
    (L5 R3 a.Kids a2.Kids).bind λr7=>
    some r7
   else
    some false
  else
   some false
 else
  some false
theorem Nn(R3:mT)(hR3:uh R3){a:aw}{a2:aw}:OV 123 [.agg (av a),.agg (av a2)] (Iy R3 a a2) (λr=>.bool r) []:=qcU.v<|
 te (FE a)<|te (FE a2)<|have pp2:=λ{X Y Z} (r:PV _ X Y Z)=>tw (jJ a)<|tw (jJ a2)<|r;tf (λc1=>have pp4:=λ{X Y Z} (r:PV _ X Y Z)=>pp2<|tg 6 c1<|tw (g8 a)<|tw (g8 a2)<|r;tf (λc3=>have pp6:=λ{X Y Z} (r:PV _ X Y Z)=>pp4<|tg 13 c3<|tw (kv a)<|tw (kv a2)<|r;tf (λc5=>tb λr7 br7=>pp6<|tg 20 c5<|tw (dH a)<|tw (dH a2)<|bM (No R3 hR3 _ br7)<|tE) λc5=>pp6<|tg 20 c5<|tE) λc3=>pp4<|tg 13 c3<|tE) λc1=>pp2<|tg 6 c1<|tE
def Iz:((aw×aw)->Option Bool)->(aw×aw)->Option Bool:=λ(rec:(aw×aw)->Option Bool) (x:aw×aw)=>Iy (λa a2=>rec (a,a2)) x.1 x.2
def HL(a:aw)(a2:aw):Option Bool:=pl Iz (a,a2)
theorem FL{a:aw}{a2:aw}:OV 123 [.agg (av a),.agg (av a2)] (HL a a2) (λr=>.bool r) []:=BN λ_ h=>
 dY (F:=Iz) (M:=λ(x:aw×aw) (r:Bool)=>CC Pg GE 123 [.agg (av x.1),.agg (av x.2)] (.bool r) []) (λrec hrec x r h=>Nn _ (λa a2=>BN λr h=>hrec (a,a2) r h) _ h) h
noncomputable def Z8:Code:=f124.body.getD .skip
theorem qbg:ZF Pg [19] 124 f124 Z8:=zf call124 func124 rfl mixed
section
variable(s2:waF)(t15:waF)(t16:Int)(t17:Int)
def gR:aB:=aO 32 [(1,sl av s2),(2,.func (.func 123) [] []),(15,sl av t15),(16,.int .i64 t16),(17,.int .i64 t17)] [] []
def oV(o:Unit⊕(Unit)):Exit:=match o with
 |(.inl _)=>.ret
 |(.inr _)=>.exit 0
def km(o:Unit⊕(Unit)):aB:=match o with
 |(.inl o)=>aO 32 [(6,.bool false)] [] []
 |(.inr o)=>aO 32 [] [] []
instance iS_slices_EqualFunc_L1:KS 0 (gR s2 t15 t16 t17):=ks 0 rfl
instance iO_slices_EqualFunc_L1{o:Unit⊕(Unit)}:KS 0 (km o):=match o with
 |(.inl o)=>ks 0 rfl
 |(.inr o)=>ks 0 rfl
def oU:Option (Int⊕(Unit⊕(Unit))):=
 if decide (t17<t16)=true then
  (ey t15 t17).bind λx3=>
  (ey s2 t17).bind λx4=>
  (HL x3 x4).bind λr5=>
  if(!r5)=true then
   some (.inr (.inl ()))
  else
   some (.inl (dp (t17+1)))
 else
  some (.inr (.inr ()))
def qO:Option (Unit⊕(Unit)):=loop (λ(zz:Int)=>oU s2 t15 t16 zz) t17
theorem wZ:OL 0 (cA Z8 119) (oU s2 t15 t16 t17) (λ(zz:Int)=>gR s2 t15 t16 zz) oV km (gR s2 t15 t16 t17):=qbg.lx<|
 tF (tb λx3 bx3=>tb λx4 bx4=>tb λr5 br5=>tv (ni.ia (k:=.i64) bx3)<|tv (nK x3)<|tx YQ<|tx (BS x3)<|tv (ni.ia (k:=.i64) bx4)<|tv (nK x4)<|tx YQ<|tx (BS x4)<|tv (wF x3 [])<|tv (wF x4 [])<|bM (FL _ br5)<|tF tE<|tE)<|tE
theorem nZ:OK 0 (.loop (cA Z8 119)) (qO s2 t15 t16 t17) oV km (gR s2 t15 t16 t17):=C9 λ_=>wZ _ _ _ _
end
def wY(s1:waF)(s2:waF):Option Bool:=
 if((s1.length:Int)!=(s2.length:Int))=true then
  some false
 else
  (qO s2 s1 (s1.length:Int) 0).bind λo7=>match o7 with
  |(.inl o7)=>
   some false
  |(.inr o7)=>
   some true
theorem Cb{s1:waF}{s2:waF}:OV 124 [sl av s1,sl av s2,.func (.func 123) [] []] (wY s1 s2) (λr=>.bool r) []:=qbg.v<|
 ct (ni.ln s1)<|ct (ni.ln s2)<|tF tE<|ct (ni.ln s1)<|t2 (λo7 bo7=>cD (nZ s2 s1 (s1.length:Int) 0 _ bo7)<|tE) λo7 bo7=>cD (nZ s2 s1 (s1.length:Int) 0 _ bo7)<|tE
noncomputable def qdD:Code:=f71.body.getD .skip
theorem qeq:ZF Pg [19] 71 f71 qdD:=zf call71 func71 rfl mixed
section
variable(R1:fS)(s2:waB)(t15:waB)(t16:Int)(t17:Int)
def dS:aB:=aO 32 [(1,sl ah s2),(2,.func (.func 72) [] []),(15,sl ah t15),(16,.int .i64 t16),(17,.int .i64 t17)] [] []
def i6(o:Unit⊕(Unit)):Exit:=match o with
 |(.inl _)=>.ret
 |(.inr _)=>.exit 0
def fo(o:Unit⊕(Unit)):aB:=match o with
 |(.inl o)=>aO 32 [(6,.bool false)] [] []
 |(.inr o)=>aO 32 [] [] []
instance iS_slices_EqualFunc_sameType_L1:KS 0 (dS s2 t15 t16 t17):=ks 0 rfl
instance iO_slices_EqualFunc_sameType_L1{o:Unit⊕(Unit)}:KS 0 (fo o):=match o with
 |(.inl o)=>ks 0 rfl
 |(.inr o)=>ks 0 rfl
def iZ:Option (Int⊕(Unit⊕(Unit))):=
 if decide (t17<t16)=true then
  (ey t15 t17).bind λx3=>
  (ey s2 t17).bind λx4=>
  (R1 x3 x4).bind λr5=>
  if(!r5)=true then
   some (.inr (.inl ()))
  else
   some (.inl (dp (t17+1)))
 else
  some (.inr (.inr ()))
def jY:Option (Unit⊕(Unit)):=loop (λ(zz:Int)=>iZ R1 s2 t15 t16 zz) t17
theorem n7(hR1:kq R1):OL 0 (cA qdD 119) (iZ R1 s2 t15 t16 t17) (λ(zz:Int)=>dS s2 t15 t16 zz) i6 fo (dS s2 t15 t16 t17):=qeq.lx<|
 tF (tb λx3 bx3=>tb λx4 bx4=>tb λr5 br5=>tv (dZ.ia (k:=.i64) bx3)<|tv (jT x3)<|tx SP<|tx (po x3)<|tv (dZ.ia (k:=.i64) bx4)<|tv (jT x4)<|tx SP<|tx (po x4)<|tv (iT x3 [])<|tv (iT x4 [])<|bM (hR1 _ _ _ br5)<|tF tE<|tE)<|tE
theorem iE(hR1:kq R1):OK 0 (.loop (cA qdD 119)) (jY R1 s2 t15 t16 t17) i6 fo (dS s2 t15 t16 t17):=C9 λ_=>n7 _ _ _ _ _ hR1
end
def lC(R1:fS)(s1:waB)(s2:waB):Option Bool:=
 if((s1.length:Int)!=(s2.length:Int))=true then
  some false
 else
  (jY R1 s2 s1 (s1.length:Int) 0).bind λo7=>match o7 with
  |(.inl o7)=>
   some false
  |(.inr o7)=>
   some true
theorem qr(R1:fS)(hR1:kq R1){s1:waB}{s2:waB}:OV 71 [sl ah s1,sl ah s2,.func (.func 72) [] []] (lC R1 s1 s2) (λr=>.bool r) []:=qeq.v<|
 ct (dZ.ln s1)<|ct (dZ.ln s2)<|tF tE<|ct (dZ.ln s1)<|t2 (λo7 bo7=>cD (iE R1 s2 s1 (s1.length:Int) 0 hR1 _ bo7)<|tE) λo7 bo7=>cD (iE R1 s2 s1 (s1.length:Int) 0 hR1 _ bo7)<|tE
noncomputable def qfv:Code:=f72.body.getD .skip
theorem qe7:ZF Pg [] 72 f72 qfv:=zf call72 func72 rfl mixed
def vA(R1:fS)(a:al)(a2:al):Option Bool:=
 if (a.Op == a2.Op) = true then
  if (a.Name == a2.Name) = true then
   (FY a.Names a2.Names).bind λr5=>
   if r5=true then
    (HL a.Pred a2.Pred).bind λr8=>
    if r8=true then
     (wY a.Preds a2.Preds).bind λr11=>
     if r11=true then
      (lC R1 a.Args a2.Args).bind λr14=>
      some r14
     else
      some false
    else
     some false
   else
    some false
  else
   some false
 else
  some false
theorem Cl(R1:fS)(hR1:kq R1){a:al}{a2:al}:OV 72 [.agg (ah a),.agg (ah a2)] (vA R1 a a2) (λr=>.bool r) []:=qe7.v<|
 te (nR a)<|te (nR a2)<|have pp2:=λ{X Y Z} (r:PV _ X Y Z)=>tw (bG a)<|tw (bG a2)<|r;tf (λc1=>have pp4:=λ{X Y Z} (r:PV _ X Y Z)=>pp2<|tg 6 c1<|tw (dB a)<|tw (dB a2)<|r;tf (λc3=>tb λr5 br5=>have pp7:=λ{X Y Z} (r:PV _ X Y Z)=>pp4<|tg 13 c3<|tw (cG a)<|tw (cG a2)<|bM (Jy _ br5)<|r;tf (λc6=>tb λr8 br8=>have pp10:=λ{X Y Z} (r:PV _ X Y Z)=>pp7<|tg 20 c6<|tw (gC a)<|tw (gC a2)<|bM (FL _ br8)<|r;tf (λc9=>tb λr11 br11=>have pp13:=λ{X Y Z} (r:PV _ X Y Z)=>pp10<|tg 27 c9<|tw (dI a)<|tw (dI a2)<|bM (Cb _ br11)<|r;tf (λc12=>tb λr14 br14=>pp13<|tg 34 c12<|tw (cb a)<|tw (cb a2)<|bM (qr R1 hR1 _ br14)<|tE) λc12=>pp13<|tg 34 c12<|tE) λc9=>pp10<|tg 27 c9<|tE) λc6=>pp7<|tg 20 c6<|tE) λc3=>pp4<|tg 13 c3<|tE) λc1=>pp2<|tg 6 c1<|tE
def vB:((al×al)->Option Bool)->(al×al)->Option Bool:=λ(rec:(al×al)->Option Bool) (x:al×al)=>vA (λa a2=>rec (a,a2)) x.1 x.2
def zd(a:al)(a2:al):Option Bool:=pl vB (a,a2)
theorem Ef{a:al}{a2:al}:OV 72 [.agg (ah a),.agg (ah a2)] (zd a a2) (λr=>.bool r) []:=BN λ_ h=>
 dY (F:=vB) (M:=λ(x:al×al) (r:Bool)=>CC Pg GE 72 [.agg (ah x.1),.agg (ah x.2)] (.bool r) []) (λrec hrec x r h=>Cl _ (λa a2=>BN λr h=>hrec (a,a2) r h) _ h) h
noncomputable def O6:Code:=f114.body.getD .skip
theorem MW:ZF Pg [19,36,45] 114 f114 O6:=zf call114 func114 rfl mixed
section
variable(i:Int)(e:ag)(out:waA)
def xU:Option Bool:=
 if(e.Op==7)=true then
  some (decide (i>0))
 else
  some false
theorem Jl:OU 0 (cA O6 28) (xU i e) .normal (λo=>[(1,.undef),(18,.bool o)]) (aO 46 [(1,.int .i64 i),(3,.eptr (ae e)),(7,sl cS out)] [.dead] [((7,0),9)]):=MW.j<|
 have pp3:=λ{X Y Z} (r:PV _ X Y Z)=>tw (aU e)<|r;tf (λc2=>pp3<|tg 4 c2<|tE) λc2=>pp3<|tg 4 c2<|tE
end
section
variable(i:Int)(e:ag)(out:waA)
def xT:Option waA:=
 (xU i e).bind λo4=>
 if o4=true then
  (app out ([e.Name]:List ai)).bind λl6=>
  some l6
 else
  some out
theorem Jk:OU 0 (cA O6 14) (xT i e out) .normal (λo=>[(1,.undef),(7,sl cS o)]) (aO 46 [(1,.int .i64 i),(3,.eptr (ae e)),(7,sl cS out)] [.dead] [((7,0),9)]):=MW.j<|
 tb λo4 bo4=>jo 0<|cD (Jl i e out _ bo4)<|tF (tb λl6 bl6=>tw (bV e)<|tv (gD [e.Name] 1 rfl)<|tv (b8.ap bl6)<|tE)<|tE
end
section
variable(e:ag)(out:waA)(k:Int)
def nz:Option Bool:=
 if decide (k<(e.Params.length:Int))=true then
  some (e.Op==6)
 else
  some false
theorem Jm:OU 0 (cA O6 988) (nz e k) .normal (λo=>[(33,.bool o)]) (aO 46 [(3,.eptr (ae e)),(7,sl cS out),(8,.int .i64 k)] [.dead] [((7,0),9)]):=MW.j<|
 have pp9:=λ{X Y Z} (r:PV _ X Y Z)=>tw (aM e)<|ct (er.ln e.Params)<|r;tf (λc8=>pp9<|tg 6 c8<|tw (aU e)<|tE) λc8=>pp9<|tg 6 c8<|tE
end
section
variable(e:ag)(out:waA)(k:Int)
def Ab:aB:=aO 46 [(3,.eptr (ae e)),(7,sl cS out),(8,.int .i64 k)] [.dead] [((7,0),9)]
def KM(o:waA):aB:=aO 46 [(7,sl cS o)] [.dead] [((7,0),9)]
def eI:Option ((waA×Int)⊕(waA)):=
 (nz e k).bind λo10=>
 if o10=true then
  (ey e.Params k).bind λx12=>
  (app out ([x12.Name]:List ai)).bind λl13=>
  some (.inl (l13,dp (k+1)))
 else
  some (.inr out)
def xV:Option waA:=loop (λ(zz:waA×Int)=>eI e zz.1 zz.2) (out,k)
theorem G4:OL 0 (cA O6 247) (eI e out k) (λ(zz:waA×Int)=>Ab e zz.1 zz.2) (λ_=>.exit 0) KM (Ab e out k):=MW.l<|
 tb λo10 bo10=>jo 1<|cD (Jm e out k _ bo10)<|tF (tb λx12 bx12=>tb λl13 bl13=>tw (aM e)<|tv (er.ia (k:=.i64) bx12)<|tw (dG x12)<|tv (gD [x12.Name] 1 rfl)<|tv (b8.ap bl13)<|tE)<|tE
def Jn:=rE (s:=(out,k)) λzz=>G4 e zz.1 zz.2
end
def wn(e:ag)(i:Int)(bound:waA):Option waA:=
 (app ([]:List ai) bound).bind λl1=>
 (xT i e l1).bind λo7=>
 (xV e o7 0).bind λo14=>
 some o14
theorem OI{e:ag}{i:Int}{bound:waA}:OV 114 [.agg (ae e),.int .i64 i,sl cS bound] (wn e i bound) (λr=>sl cS r) [(0,9)]:=MW.v<|
 tb λl1 bl1=>tb λo7 bo7=>tb λo14 bo14=>te (cm e)<|tv (gD [] 0 rfl)<|tv (b8.ap bl1)<|jo 0<|cD (Jk i e l1 _ bo7)<|cD (Jn e o7 0 _ bo14)<|tE
abbrev sD:=(ag->Int->Option Int)
abbrev rY(R:sD):Prop:=∀(e:ag) (most:Int),OV 46 [.agg (ae e),.int .i64 most] (R e most) (λr=>.int .i64 r) []
abbrev uz:=(waB->Int->Option Int)
abbrev zq(R:uz):Prop:=∀(a:waB) (most:Int),OV 95 [sl ah a,.int .i64 most] (R a most) (λr=>.int .i64 r) []
abbrev uy:=(waF->Int->Option Int)
abbrev zo(R:uy):Prop:=∀(a:waF) (most:Int),OV 132 [sl av a,.int .i64 most] (R a most) (λr=>.int .i64 r) []
noncomputable def qaa:Code:=f132.body.getD .skip
theorem ZC:ZF Pg [39] 132 f132 qaa:=zf call132 func132 rfl mixed
section
variable(v:waF)(most:Int)(n:Int)(i:Int)
def rf:Option Bool:=
 if decide (i<(v.length:Int))=true then
  some (decide (n<=most))
 else
  some false
theorem Jd:OU 0 (cA qaa 476) (rf v most n i) .normal (λo=>[(15,.bool o)]) (aO 40 [(0,sl av v),(1,.int .i64 most),(5,.int .i64 n),(6,.int .i64 i)] [] []):=ZC.j<|
 tf (λc1=>ct (ni.ln v)<|tg 5 c1<|tE) λc1=>ct (ni.ln v)<|tg 5 c1<|tE
end
section
variable(R12:uy)(v:waF)(most:Int)(n:Int)(i:Int)
def zU:aB:=aO 40 [(0,sl av v),(1,.int .i64 most),(5,.int .i64 n),(6,.int .i64 i)] [] []
def Kz(o:Int):aB:=aO 40 [(5,.int .i64 o)] [] []
def iN:Option ((Int×Int)⊕(Int)):=
 (rf v most n i).bind λo2=>
 if o2=true then
  (ey v i).bind λx4=>
  (qu .i64 (x4.Name.length:Int) 50).bind λq5=>
  (ey v i).bind λx6=>
  (R12 x6.Kids (dp (most - (dp ((dp (n+1))+q5))))).bind λr7=>
  some (.inl (dp ((dp ((dp (n+1))+q5))+r7),dp (i+1)))
 else
  some (.inr n)
def EA:Option Int:=loop (λ(zz:Int×Int)=>iN R12 v most zz.1 zz.2) (n,i)
theorem GO(hR12:zo R12):OL 0 (cA qaa 119) (iN R12 v most n i) (λ(zz:Int×Int)=>zU v most zz.1 zz.2) (λ_=>.exit 0) Kz (zU v most n i):=ZC.l<|
 tb λo2 bo2=>jo 1<|cD (Jd v most n i _ bo2)<|tF (tb λx4 bx4=>tb λq5 bq5=>tb λx6 bx6=>tb λr7 br7=>tv (ni.ia (k:=.i64) bx4)<|tw (g8 x4)<|ct (qQ underlying9 x4.Name)<|tv (KZ (P:=Pg) (t:=3) bq5)<|tv (ni.ia (k:=.i64) bx6)<|tw (dH x6)<|bM (hR12 _ _ _ br7)<|tE)<|tE
def Je(hR12:zo R12):=rE (s:=(n,i)) λzz=>GO R12 v most zz.1 zz.2 hR12
end
def ut(R12:uy)(a:waF)(most:Int):Option Int:=
 (EA R12 a most 0 0).bind λo8=>
 some o8
theorem MR(R12:uy)(hR12:zo R12){a:waF}{most:Int}:OV 132 [sl av a,.int .i64 most] (ut R12 a most) (λr=>.int .i64 r) []:=ZC.v<|
 tb λo8 bo8=>cD (Je R12 a most 0 0 hR12 _ bo8)<|tE
def zT:((waF×Int)->Option Int)->(waF×Int)->Option Int:=λ(rec:(waF×Int)->Option Int) (x:waF×Int)=>ut (λa most=>rec (a,most)) x.1 x.2
def GN(a:waF)(most:Int):Option Int:=pl zT (a,most)
theorem OH{a:waF}{most:Int}:OV 132 [sl av a,.int .i64 most] (GN a most) (λr=>.int .i64 r) []:=BN λ_ h=>
 dY (F:=zT) (M:=λ(x:waF×Int) (r:Int)=>CC Pg GE 132 [sl av x.1,.int .i64 x.2] (.int .i64 r) []) (λrec hrec x r h=>MR _ (λa most=>BN λr h=>hrec (a,most) r h) _ h) h
noncomputable def qdG:Code:=f95.body.getD .skip
theorem qdf:ZF Pg [61] 95 f95 qdG:=zf call95 func95 rfl mixed
section
variable(v:waB)(most:Int)(n:Int)(i:Int)
def rh:Option Bool:=
 if decide (i<(v.length:Int))=true then
  some (decide (n<=most))
 else
  some false
theorem Ji:OU 0 (cA qdG 476) (rh v most n i) .normal (λo=>[(15,.bool o)]) (aO 62 [(0,sl ah v),(1,.int .i64 most),(5,.int .i64 n),(6,.int .i64 i)] [] []):=qdf.j<|
 tf (λc1=>ct (dZ.ln v)<|tg 5 c1<|tE) λc1=>ct (dZ.ln v)<|tg 5 c1<|tE
end
section
variable(R11:uz)(v:waB)(most:Int)(n:Int)(i:Int)
def zZ:aB:=aO 62 [(0,sl ah v),(1,.int .i64 most),(5,.int .i64 n),(6,.int .i64 i)] [] []
def KI(o:Int):aB:=aO 62 [(5,.int .i64 o)] [] []
def iO:Option ((Int×Int)⊕(Int)):=
 (rh v most n i).bind λo2=>
 if o2=true then
  (ey v i).bind λx4=>
  (qu .i64 (x4.Name.length:Int) 50).bind λq5=>
  (ey v i).bind λx6=>
  (ey v i).bind λx7=>
  (ey v i).bind λx8=>
  (app ([x7.Pred]:List aw) x8.Preds).bind λl9=>
  (GN l9 most).bind λr10=>
  (ey v i).bind λx11=>
  (R11 x11.Args (dp (most - (dp ((dp ((dp ((dp (n+1))+q5))+(x6.Names.length:Int)))+r10))))).bind λr12=>
  some (.inl (dp ((dp ((dp ((dp ((dp (n+1))+q5))+(x6.Names.length:Int)))+r10))+r12),dp (i+1)))
 else
  some (.inr n)
def EO:Option Int:=loop (λ(zz:Int×Int)=>iO R11 v most zz.1 zz.2) (n,i)
theorem G2(hR11:zq R11):OL 0 (cA qdG 119) (iO R11 v most n i) (λ(zz:Int×Int)=>zZ v most zz.1 zz.2) (λ_=>.exit 0) KI (zZ v most n i):=qdf.l<|
 tb λo2 bo2=>jo 1<|cD (Ji v most n i _ bo2)<|tF (tb λx4 bx4=>tb λq5 bq5=>tb λx6 bx6=>tb λx7 bx7=>tb λx8 bx8=>tb λl9 bl9=>tb λr10 br10=>tb λx11 bx11=>tb λr12 br12=>Be [0,1,0,0,12,28,60,124,252,511,0,0,3072,7168,15360,31744,65535,0,0,393216,917504,1966080,4063232,0,0,25165824,58720256,125829120,268304384,0,1073610752,2147483647,4294967295]<|tv (dZ.ia (k:=.i64) bx4)<|tw (dB x4)<|ct (qQ underlying9 x4.Name)<|tv (KZ (P:=Pg) (t:=3) bq5)<|tv (dZ.ia (k:=.i64) bx6)<|tw (cG x6)<|ct (b8.ln x6.Names)<|tv (dZ.ia (k:=.i64) bx7)<|tw (gC x7)<|tv (ni.mk' (v:=P9) N3 ([x7.Pred]:List aw) 1 (by kernel_rfl))<|tv (dZ.ia (k:=.i64) bx8)<|tw (dI x8)<|tv (ni.ap bl9)<|bM (OH _ br10)<|tv (dZ.ia (k:=.i64) bx11)<|tw (cb x11)<|bM (hR11 _ _ _ br12)<|tE)<|tE
def Jj(hR11:zq R11):=rE (s:=(n,i)) λzz=>G2 R11 v most zz.1 zz.2 hR11
end
def uw(R11:uz)(a:waB)(most:Int):Option Int:=
 (EO R11 a most 0 0).bind λo13=>
 some o13
theorem MU(R11:uz)(hR11:zq R11){a:waB}{most:Int}:OV 95 [sl ah a,.int .i64 most] (uw R11 a most) (λr=>.int .i64 r) []:=qdf.v<|
 tb λo13 bo13=>cD (Jj R11 a most 0 0 hR11 _ bo13)<|tE
def zY:((waB×Int)->Option Int)->(waB×Int)->Option Int:=λ(rec:(waB×Int)->Option Int) (x:waB×Int)=>uw (λa most=>rec (a,most)) x.1 x.2
def Bn(a:waB)(most:Int):Option Int:=pl zY (a,most)
theorem EP{a:waB}{most:Int}:OV 95 [sl ah a,.int .i64 most] (Bn a most) (λr=>.int .i64 r) []:=BN λ_ h=>
 dY (F:=zY) (M:=λ(x:waB×Int) (r:Int)=>CC Pg GE 95 [sl ah x.1,.int .i64 x.2] (.int .i64 r) []) (λrec hrec x r h=>MU _ (λa most=>BN λr h=>hrec (a,most) r h) _ h) h
noncomputable def qdH:Code:=f96.body.getD .skip
theorem qdg:ZF Pg [27] 96 f96 qdH:=zf call96 func96 rfl mixed
section
variable(v:waA)(most:Int)(n:Int)(i:Int)
def ra:Option Bool:=
 if decide (i<(v.length:Int))=true then
  some (decide (n<=most))
 else
  some false
theorem Jb:OU 0 (cA qdH 476) (ra v most n i) .normal (λo=>[(15,.bool o)]) (aO 28 [(0,sl cS v),(1,.int .i64 most),(5,.int .i64 n),(6,.int .i64 i)] [] []):=qdg.j<|
 tf (λc1=>ct (b8.ln v)<|tg 5 c1<|tE) λc1=>ct (b8.ln v)<|tg 5 c1<|tE
end
section
variable(v:waA)(most:Int)(n:Int)(i:Int)
def zS:aB:=aO 28 [(0,sl cS v),(1,.int .i64 most),(5,.int .i64 n),(6,.int .i64 i)] [] []
def Ky(o:Int):aB:=aO 28 [(5,.int .i64 o)] [] []
def iM:Option ((Int×Int)⊕(Int)):=
 (ra v most n i).bind λo2=>
 if o2=true then
  (ey v i).bind λx4=>
  (qu .i64 (x4.length:Int) 50).bind λq5=>
  some (.inl (dp ((dp (n+1))+q5),dp (i+1)))
 else
  some (.inr n)
def Ez:Option Int:=loop (λ(zz:Int×Int)=>iM v most zz.1 zz.2) (n,i)
theorem GM:OL 0 (cA qdH 119) (iM v most n i) (λ(zz:Int×Int)=>zS v most zz.1 zz.2) (λ_=>.exit 0) Ky (zS v most n i):=qdg.l<|
 tb λo2 bo2=>jo 1<|cD (Jb v most n i _ bo2)<|tF (tb λx4 bx4=>tb λq5 bq5=>tv (b8.ia (k:=.i64) bx4)<|tv (cw BZ (.str x4) [])<|ct (qQ underlying9 x4)<|tv (KZ (P:=Pg) (t:=3) bq5)<|tE)<|tE
def Jc:=rE (s:=(n,i)) λzz=>GM v most zz.1 zz.2
end
def Bm(a:waA)(most:Int):Option Int:=
 (Ez a most 0 0).bind λo6=>
 some o6
theorem OF{a:waA}{most:Int}:OV 96 [sl cS a,.int .i64 most] (Bm a most) (λr=>.int .i64 r) []:=qdg.v<|
 tb λo6 bo6=>cD (Jc a most 0 0 _ bo6)<|tE
noncomputable def qah:Code:=f46.body.getD .skip
theorem ZH:ZF Pg [119] 46 f46 qah:=zf call46 func46 rfl mixed
section
variable(most:Int)(e:ag)(n:Int)(i:Int)
def uj:Option Bool:=
 if decide (i<(e.Params.length:Int))=true then
  some (decide (n<=most))
 else
  some false
theorem Kf:OU 0 (cA qah 476) (uj most e n i) .normal (λo=>[(28,.bool o)]) (aO 120 [(1,.int .i64 most),(2,.eptr (ae e)),(5,.int .i64 n),(6,.int .i64 i)] [.dead] []):=ZH.j<|
 have pp4:=λ{X Y Z} (r:PV _ X Y Z)=>tw (aM e)<|ct (er.ln e.Params)<|r;tf (λc3=>pp4<|tg 6 c3<|tE) λc3=>pp4<|tg 6 c3<|tE
end
section
variable(most:Int)(e:ag)(n:Int)(i:Int)
def Cv:aB:=aO 120 [(1,.int .i64 most),(2,.eptr (ae e)),(5,.int .i64 n),(6,.int .i64 i)] [.dead] []
def MB(o:Int):aB:=aO 120 [(1,.int .i64 most),(2,.eptr (ae e)),(5,.int .i64 o)] [.dead] []
def j9:Option ((Int×Int)⊕(Int)):=
 (uj most e n i).bind λo5=>
 if o5=true then
  (ey e.Params i).bind λx7=>
  (qu .i64 (x7.Name.length:Int) 50).bind λq8=>
  (ey e.Params i).bind λx9=>
  (Bn ([x9.Type_]:List al) most).bind λr10=>
  some (.inl (dp ((dp ((dp (n+1))+q8))+r10),dp (i+1)))
 else
  some (.inr n)
def H1:Option Int:=loop (λ(zz:Int×Int)=>j9 most e zz.1 zz.2) (n,i)
theorem IR:OL 0 (cA qah 119) (j9 most e n i) (λ(zz:Int×Int)=>Cv most e zz.1 zz.2) (λ_=>.exit 0) (MB most e) (Cv most e n i):=ZH.l<|
 tb λo5 bo5=>jo 1<|cD (Kf most e n i _ bo5)<|tF (tb λx7 bx7=>tb λq8 bq8=>tb λx9 bx9=>tb λr10 br10=>Be [0,1,0,4,0,28,60,124,252,508,1023,0,2048,0,14336,30720,63488,129024,0,522240,1048575,2097151]<|tw (aM e)<|tv (er.ia (k:=.i64) bx7)<|tw (dG x7)<|ct (qQ underlying9 x7.Name)<|tv (KZ (P:=Pg) (t:=3) bq8)<|tw (aM e)<|tv (er.ia (k:=.i64) bx9)<|tw (lM x9)<|tv (dZ.mk' (v:=Qa) N4 ([x9.Type_]:List al) 1 (by kernel_rfl))<|bM (EP _ br10)<|tE)<|tE
def Ki:=rE (s:=(n,i)) λzz=>IR most e zz.1 zz.2
end
section
variable(most:Int)(e:ag)(n:Int)(i:Int)
def uk:Option Bool:=
 if decide (i<(e.Kids.length:Int))=true then
  some (decide (n<=most))
 else
  some false
theorem Kg:OU 0 (cA qah 988) (uk most e n i) .normal (λo=>[(61,.bool o)]) (aO 120 [(1,.int .i64 most),(2,.eptr (ae e)),(5,.int .i64 n),(7,.int .i64 i)] [.dead] []):=ZH.j<|
 have pp13:=λ{X Y Z} (r:PV _ X Y Z)=>tw (aR e)<|ct (cR.ln e.Kids)<|r;tf (λc12=>pp13<|tg 6 c12<|tE) λc12=>pp13<|tg 6 c12<|tE
end
section
variable(R10:sD)(most:Int)(e:ag)(n:Int)(i:Int)
def Cw:aB:=aO 120 [(1,.int .i64 most),(2,.eptr (ae e)),(5,.int .i64 n),(7,.int .i64 i)] [.dead] []
def MC(o:Int):aB:=aO 120 [(1,.int .i64 most),(2,.eptr (ae e)),(5,.int .i64 o)] [.dead] []
def ka:Option ((Int×Int)⊕(Int)):=
 (uk most e n i).bind λo14=>
 if o14=true then
  (ey e.Kids i).bind λx16=>
  (R10 x16 (dp (most - n))).bind λr17=>
  some (.inl (dp (n+r17),dp (i+1)))
 else
  some (.inr n)
def H3:Option Int:=loop (λ(zz:Int×Int)=>ka R10 most e zz.1 zz.2) (n,i)
theorem IS(hR10:rY R10):OL 0 (cA qah 247) (ka R10 most e n i) (λ(zz:Int×Int)=>Cw most e zz.1 zz.2) (λ_=>.exit 2) (MC most e) (Cw most e n i):=ZH.l<|
 tb λo14 bo14=>jo 1<|cD (Kg most e n i _ bo14)<|tF (tb λx16 bx16=>tb λr17 br17=>tw (aR e)<|tv (cR.ia (k:=.i64) bx16)<|tv (aX x16)<|bM (hR10 _ _ _ br17)<|tE)<|tE
def Kj(hR10:rY R10):=rE (s:=(n,i)) λzz=>IS R10 most e zz.1 zz.2 hR10
end
section
variable(most:Int)(e:ag)(n:Int)(i:Int)
def ul:Option Bool:=
 if decide (i<(e.Alts.length:Int))=true then
  some (decide (n<=most))
 else
  some false
theorem Kh:OU 0 (cA qah 2012) (ul most e n i) .normal (λo=>[(84,.bool o)]) (aO 120 [(1,.int .i64 most),(2,.eptr (ae e)),(5,.int .i64 n),(8,.int .i64 i)] [.dead] []):=ZH.j<|
 have pp20:=λ{X Y Z} (r:PV _ X Y Z)=>tw (ay e)<|ct (dc.ln e.Alts)<|r;tf (λc19=>pp20<|tg 6 c19<|tE) λc19=>pp20<|tg 6 c19<|tE
end
section
variable(R10:sD)(most:Int)(e:ag)(n:Int)(i:Int)
def Cx:aB:=aO 120 [(1,.int .i64 most),(2,.eptr (ae e)),(5,.int .i64 n),(8,.int .i64 i)] [.dead] []
def MD(o:Int):aB:=aO 120 [(5,.int .i64 o)] [.dead] []
def kb:Option ((Int×Int)⊕(Int)):=
 (ul most e n i).bind λo21=>
 if o21=true then
  (ey e.Alts i).bind λx23=>
  (qu .i64 (x23.Con.length:Int) 50).bind λq24=>
  (ey e.Alts i).bind λx25=>
  (Bm x25.Names most).bind λr26=>
  (ey e.Alts i).bind λx27=>
  (R10 x27.Body (dp (most - (dp ((dp ((dp (n+1))+q24))+r26))))).bind λr28=>
  some (.inl (dp ((dp ((dp ((dp (n+1))+q24))+r26))+r28),dp (i+1)))
 else
  some (.inr n)
def H4:Option Int:=loop (λ(zz:Int×Int)=>kb R10 most e zz.1 zz.2) (n,i)
theorem IT(hR10:rY R10):OL 0 (cA qah 503) (kb R10 most e n i) (λ(zz:Int×Int)=>Cx most e zz.1 zz.2) (λ_=>.exit 4) MD (Cx most e n i):=ZH.l<|
 tb λo21 bo21=>jo 1<|cD (Kh most e n i _ bo21)<|tF (tb λx23 bx23=>tb λq24 bq24=>tb λx25 bx25=>tb λr26 br26=>tb λx27 bx27=>tb λr28 br28=>Be [0,1,0,4,0,28,60,124,252,508,1023,0,2048,0,14336,30720,63488,0,260096,524287,1048575]<|tw (ay e)<|tv (dc.ia (k:=.i64) bx23)<|tw (lm x23)<|ct (qQ underlying9 x23.Con)<|tv (KZ (P:=Pg) (t:=3) bq24)<|tw (ay e)<|tv (dc.ia (k:=.i64) bx25)<|tw (eK x25)<|bM (OF _ br26)<|tw (ay e)<|tv (dc.ia (k:=.i64) bx27)<|tw (fT x27)<|bM (hR10 _ _ _ br28)<|tE)<|tE
def Kk(hR10:rY R10):=rE (s:=(n,i)) λzz=>IT R10 most e zz.1 zz.2 hR10
end
def xy(R10:sD)(e:ag)(most:Int):Option Int:=
 (qu .i64 (e.Name.length:Int) 50).bind λq1=>
 (Bn e.Types most).bind λr2=>
 (H1 most e (dp ((dp (1+q1))+r2)) 0).bind λo11=>
 (H3 R10 most e o11 0).bind λo18=>
 (H4 R10 most e o18 0).bind λo29=>
 some o29
theorem Ov(R10:sD)(hR10:rY R10){e:ag}{most:Int}:OV 46 [.agg (ae e),.int .i64 most] (xy R10 e most) (λr=>.int .i64 r) []:=ZH.v<|
 tb λq1 bq1=>tb λr2 br2=>tb λo11 bo11=>tb λo18 bo18=>tb λo29 bo29=>te (cm e)<|Be [0,1,3,7,15,0,32,0,224,511,1023]<|tw (bV e)<|ct (qQ underlying9 e.Name)<|tv (KZ (P:=Pg) (t:=3) bq1)<|tw (aC e)<|bM (EP _ br2)<|cD (Ki most e (dp ((dp (1+q1))+r2)) 0 _ bo11)<|cD (Kj R10 most e o11 0 hR10 _ bo18)<|cD (Kk R10 most e o18 0 hR10 _ bo29)<|tE
def Dt:((ag×Int)->Option Int)->(ag×Int)->Option Int:=λ(rec:(ag×Int)->Option Int) (x:ag×Int)=>xy (λe most=>rec (e,most)) x.1 x.2
def Ke(e:ag)(most:Int):Option Int:=pl Dt (e,most)
theorem Qe{e:ag}{most:Int}:OV 46 [.agg (ae e),.int .i64 most] (Ke e most) (λr=>.int .i64 r) []:=BN λ_ h=>
 dY (F:=Dt) (M:=λ(x:ag×Int) (r:Int)=>CC Pg GE 46 [.agg (ae x.1),.int .i64 x.2] (.int .i64 r) []) (λrec hrec x r h=>Ov _ (λe most=>BN λr h=>hrec (e,most) r h) _ h) h
noncomputable def qfc:Code:=f10.body.getD .skip
theorem qeO:ZF Pg [] 10 f10 qfc:=zf call10 func10 rfl mixed
def Br(e:ag):Option Bool:=
 (Ke e 600).bind λr1=>
 some (decide (r1<=600))
theorem OO{e:ag}:OV 10 [.agg (ae e)] (Br e) (λr=>.bool r) []:=qeO.v<|
 tb λr1 br1=>te (cm e)<|tv (aX e)<|bM (Qe _ br1)<|tE
noncomputable def qfn:Code:=f48.body.getD .skip
theorem qeZ:ZF Pg [] 48 f48 qfn:=zf call48 func48 rfl mixed
def fB(s:ai):Option ag:=
 some (⟨3,s,0,([]:List ag),([]:List am),([]:List az),([]:List al)⟩:ag)
theorem bL{s:ai}:OV 48 [.str s] (fB s) (λr=>.agg (ae r)) [(3,28),(4,85),(5,89),(6,60)]:=qeZ.va<|
 tx rH<|Vf (rl 3 s) (rj 3 s)<|ty (bz (⟨3,s,0,([]:List ag),([]:List am),([]:List az),([]:List al)⟩:ag))<|Ei λq=>aI (iX (⟨3,s,0,([]:List ag),([]:List am),([]:List az),([]:List al)⟩:ag)) q.2
noncomputable def qfm:Code:=f47.body.getD .skip
theorem qeY:ZF Pg [] 47 f47 qfm:=zf call47 func47 rfl mixed
def Bq(s:ai)(a:ag)(a2:ag):Option ag:=
 some (⟨7,s,0,([a,a2]:List ag),([]:List am),([]:List az),([]:List al)⟩:ag)
theorem ej{s:ai}{a:ag}{a2:ag}:OV 47 [.str s,.agg (ae a),.agg (ae a2)] (Bq s a a2) (λr=>.agg (ae r)) [(4,85),(5,89),(6,60)]:=qeY.va<|
 te (cm a)<|te (cm a2)<|tx rH<|tv (aX a)<|tv (aX a2)<|tv (cR.mk' (v:=ly) dR ([a,a2]:List ag) 2 (by kernel_rfl))<|Vf (Aj 7 s ([a,a2]:List ag)) (Ah 7 s ([a,a2]:List ag))<|ty (bz (⟨7,s,0,([a,a2]:List ag),([]:List am),([]:List az),([]:List al)⟩:ag))<|Ei λq=>aI (iX (⟨7,s,0,([a,a2]:List ag),([]:List am),([]:List az),([]:List al)⟩:ag)) q.2
noncomputable def qex:Code:=f81.body.getD .skip
theorem qes:ZF Pg [] 81 f81 qex:=zf call81 func81 rfl mixed
section
variable(t6:waA)(t7:Int)(t8:Int)(m1:(List (ai×Bool)))
def qT:aB:=aO 18 [(0,.bptr 0 0),(6,sl cS t6),(7,.int .i64 t7),(8,.int .i64 t8)] [.cells [.mapr 1] [],.map (df PVal.bool m1)] []
def Cm(o:(List (ai×Bool))):aB:=aO 18 [] [.cells [.mapr 1] [],.map (df PVal.bool o)] []
def d7:Option ((Int×(List (ai×Bool)))⊕(((List (ai×Bool))))):=
 if decide (t8<t7)=true then
  (ey t6 t8).bind λx2=>
  some (.inl (dp (t8+1),rz m1 x2 true))
 else
  some (.inr m1)
def oB:Option (((List (ai×Bool)))):=loop (λ(zz:Int×(List (ai×Bool)))=>d7 t6 t7 zz.1 zz.2) (t8,m1)
theorem zm:OL 2 (cA qex 15) (d7 t6 t7 t8 m1) (λ(zz:Int×(List (ai×Bool)))=>qT t6 t7 zz.1 zz.2) (λ_=>.exit 0) Cm (qT t6 t7 t8 m1):=qes.l<|
 tF (tb λx2 bx2=>tv (b8.ia (k:=.i64) bx2)<|tv (cw BZ (.str x2) [])<|ts<|qec (SB (f:=PVal.bool) underlying124 underlying9 m1 x2 true)<|tE)<|tE
def Bd:=rE (s:=(t8,m1)) λzz=>zm t6 t7 zz.1 zz.2
end
def fM(a:waA)(k1:(List (ai×Bool))):Option ((List (ai×Bool))):=
 (oB a (a.length:Int) 0 k1).bind λo3=>
 some o3
theorem ib{a:waA}{k1:(List (ai×Bool))}:OG 81 [.bptr 0 0,sl cS a] [] [.cells [.mapr 1] [],.map (df PVal.bool k1)] (fM a k1) (λr=>.tuple []) [] (λr=>[.cells [.mapr 1] [],.map (df PVal.bool r)]):=qes.g 2<|
 tb λo3 bo3=>ct (b8.ln a)<|cD (Bd a (a.length:Int) 0 k1 _ bo3)<|tE
noncomputable def qfw:Code:=f78.body.getD .skip
theorem qe8:ZF Pg [10] 78 f78 qfw:=zf call78 func78 rfl mixed
def mn(a:waA):Option ((List (ai×Bool))):=
 (fM a ([]:List (ai×Bool))).bind λr1=>
 some r1
theorem xc{a:waA}:ON 78 [sl cS a] (mn a) (λr=>.bptr 1 0) [] (λr=>[.map (df PVal.bool r),.cells [.mapr 0] []]):=qe8.n 2<|
 tb λr1 br1=>tv (show dh Pg 126 [(0,.mapr 0)]=some (.agg [.mapr 0]) by kernel_rfl)<|T9 (Zl [.mapr 0]) rfl<|tc [1,0] (ib _ br1)<|tE
abbrev dy:=(ag->waA->(List (ai×Bool))->Option ((List (ai×Bool))))
abbrev dv(R:dy):Prop:=∀(e:ag) (hidden:waA) (k2:(List (ai×Bool))),OG 79 [.agg (ae e),sl cS hidden,.func (.func 80) [] [.bptr 0 0]] [] [.cells [.bptr 1 0] [],.cells [.mapr 2] [],.map (df PVal.bool k2)] (R e hidden k2) (λr=>.tuple []) [] (λr=>[.cells [.bptr 1 0] [],.cells [.mapr 2] [],.map (df PVal.bool r)])
noncomputable def qdi:Code:=f100.body.getD .skip
theorem qcP:ZF Pg [] 100 f100 qdi:=zf call100 func100 rfl mixed
def eX(e:ag):Option Bool:=
 if(e.Op==3)=true then
  some true
 else
  some (e.Op==5)
theorem jQ{e:ag}:OV 100 [.agg (ae e)] (eX e) (λr=>.bool r) []:=qcP.v<|
 te (cm e)<|have pp2:=λ{X Y Z} (r:PV _ X Y Z)=>tw (aU e)<|r;tf (λc1=>pp2<|tg 4 c1<|tE) λc1=>pp2<|tg 4 c1<|tw (aU e)<|tE
noncomputable def Z9:Code:=f131.body.getD .skip
theorem qbi:ZF Pg [10,17] 131 f131 Z9:=zf call131 func131 rfl mixed
section
variable(s:waA)(v:ai)(t7:Int)(t8:Int)
def od:aB:=aO 19 [(0,sl cS s),(1,.str v),(7,.int .i64 t7),(8,.int .i64 t8)] [] []
def uZ(o:Int⊕(Unit)):Exit:=match o with
 |(.inl _)=>.ret
 |(.inr _)=>.exit 0
def u5(o:Int⊕(Unit)):aB:=match o with
 |(.inl o)=>aO 19 [(4,.int .i64 o)] [] []
 |(.inr o)=>aO 19 [] [] []
def hX:Option (Int⊕(Int⊕(Unit))):=
 if decide (t8<t7)=true then
  (ey s t8).bind λx2=>
  if(v==x2)=true then
   some (.inr (.inl t8))
  else
   some (.inl (dp (t8+1)))
 else
  some (.inr (.inr ()))
def qv:Option (Int⊕(Unit)):=loop (λ(zz:Int)=>hX s v t7 zz) t8
theorem Cd:OL 0 (cA Z9 55) (hX s v t7 t8) (λ(zz:Int)=>od s v t7 zz) uZ u5 (od s v t7 t8):=qbi.l<|
 tF (tb λx2 bx2=>tv (b8.ia (k:=.i64) bx2)<|tv (cw BZ (.str x2) [])<|tF tE<|tE)<|tE
theorem tA:OK 0 (.loop (cA Z9 55)) (qv s v t7 t8) uZ u5 (od s v t7 t8):=C9 λ_=>Cd _ _ _ _
end
def yr(s:waA)(v:ai):Option Int:=
 (qv s v (s.length:Int) 0).bind λo4=>match o4 with
 |(.inl o4)=>
  some o4
 |(.inr o4)=>
  some (-1)
theorem Jz{s:waA}{v:ai}:OV 131 [sl cS s,.str v] (yr s v) (λr=>.int .i64 r) []:=qbi.v<|
 ct (b8.ln s)<|t2 (λo4 bo4=>cD (tA s v (s.length:Int) 0 _ bo4)<|tE) λo4 bo4=>cD (tA s v (s.length:Int) 0 _ bo4)<|tE
noncomputable def qfz:Code:=f94.body.getD .skip
theorem qfb:ZF Pg [] 94 f94 qfz:=zf call94 func94 rfl mixed
def sU(a:waA)(s:ai):Option Int:=
 (yr a s).bind λr1=>
 some r1
theorem Ng{a:waA}{s:ai}:OV 94 [sl cS a,.str s] (sU a s) (λr=>.int .i64 r) []:=qfb.v<|
 tb λr1 br1=>bM (Jz _ br1)<|tE
noncomputable def qfx:Code:=f80.body.getD .skip
theorem qe9:ZF Pg [] 80 f80 qfx:=zf call80 func80 rfl mixed
def pM(a:ag)(k2:(List (ai×Bool))):Option ((List (ai×Bool))):=
 (fM ([a.Name]:List ai) k2).bind λr1=>
 some r1
theorem HP{a:ag}{k2:(List (ai×Bool))}:OG 80 [.agg (ae a),.bptr 0 0] [] [.cells [.bptr 1 0] [],.cells [.mapr 2] [],.map (df PVal.bool k2)] (pM a k2) (λr=>.tuple []) [] (λr=>[.cells [.bptr 1 0] [],.cells [.mapr 2] [],.map (df PVal.bool r)]):=qe9.g 3<|
 tb λr1 br1=>te (cm a)<|ts<|tw (bV a)<|tv (gD [a.Name] 1 rfl)<|tc [1,2] (ib _ br1)<|tE
noncomputable def qbF:Code:=f101.body.getD .skip
theorem qbb:ZF Pg [12,18] 101 f101 qbF:=zf call101 func101 rfl mixed
section
variable(t6:waC)(t7:Int)(out:waA)(t8:Int)
def oq:aB:=aO 19 [(3,sl cS out),(6,sl aj t6),(7,.int .i64 t7),(8,.int .i64 t8)] [] [((3,0),9)]
def vj(o:waA):aB:=aO 19 [(3,sl cS o)] [] [((3,0),9)]
instance iS_syntax_bound_L1:KS 0 (oq t6 t7 out t8):=ks 0 rfl
instance iO_syntax_bound_L1{o:waA}:KS 0 (vj o):=ks 0 rfl
def eM:Option ((waA×Int)⊕(waA)):=
 if decide (t8<t7)=true then
  (ey t6 t8).bind λx2=>
  (app out ([x2.Name]:List ai)).bind λl3=>
  some (.inl (l3,dp (t8+1)))
 else
  some (.inr out)
def qx:Option waA:=loop (λ(zz:waA×Int)=>eM t6 t7 zz.1 zz.2) (out,t8)
theorem Cg:OL 0 (cA qbF 119) (eM t6 t7 out t8) (λ(zz:waA×Int)=>oq t6 t7 zz.1 zz.2) (λ_=>.exit 0) vj (oq t6 t7 out t8):=qbb.lx<|
 tF (tb λx2 bx2=>tb λl3 bl3=>tv (er.ia (k:=.i64) bx2)<|tv (BF x2)<|tx U1<|tx (kU x2)<|ts<|tv (gD [x2.Name] 1 rfl)<|tv (b8.ap bl3)<|tE)<|tE
def D8:=rE (s:=(out,t8)) λzz=>Cg t6 t7 zz.1 zz.2
end
def jL(a:waC):Option waA:=
 (qx a (a.length:Int) ([]:List ai) 0).bind λo4=>
 some o4
theorem mE{a:waC}:OV 101 [sl aj a] (jL a) (λr=>sl cS r) [(0,9)]:=qbb.v<|
 tb λo4 bo4=>ct (er.ln a)<|cD (D8 a (a.length:Int) ([]:List ai) 0 _ bo4)<|tE
noncomputable def qbH:Code:=f126.body.getD .skip
theorem qbh:ZF Pg [] 126 f126 qbH:=zf call126 func126 rfl mixed
section
variable(kid:Int)(e:ag)
def px:Option Bool:=
 if(e.Op==7)=true then
  some (decide (kid>0))
 else
  some false
theorem Cj:OU 0 (cA qbH 26) (px kid e) .normal (λo=>[(1,.undef),(5,.bool o)]) (aO 23 [(1,.int .i64 kid),(2,.eptr (ae e))] [.dead] []):=qbh.j<|
 have pp2:=λ{X Y Z} (r:PV _ X Y Z)=>tw (aU e)<|r;tf (λc1=>pp2<|tg 4 c1<|tE) λc1=>pp2<|tg 4 c1<|tE
end
def pN(e:ag)(kid:Int):Option waA:=
 (px kid e).bind λo3=>
 if o3=true then
  some ([e.Name]:List ai)
 else if(e.Op==6)=true then
  (jL e.Params).bind λr6=>
  some r6
 else
  some ([]:List ai)
theorem HR{e:ag}{kid:Int}:OV 126 [.agg (ae e),.int .i64 kid] (pN e kid) (λr=>sl cS r) [(0,9)]:=qbh.v<|
 tb λo3 bo3=>te (cm e)<|jo 1<|cD (Cj kid e _ bo3)<|tF (tw (bV e)<|tv (gD [e.Name] 1 rfl)<|tE)<|tw (aU e)<|tF (tb λr6 br6=>tw (aM e)<|bM (mE _ br6)<|tE)<|tE
noncomputable def qbM:Code:=f79.body.getD .skip
theorem qbt:ZF Pg [27] 79 f79 qbM:=zf call79 func79 rfl mixed
section
variable(hidden:waA)(e:ag)(m2:(List (ai×Bool)))
def f7:Option Bool:=
 (eX e).bind λr1=>
 if r1=true then
  (sU hidden e.Name).bind λr4=>
  some (decide (r4<0))
 else
  some false
theorem oN:OU 3 (cA qbM 12) (f7 hidden e) .normal (λo=>[(18,.bool o)]) (aO 57 [(1,sl cS hidden),(2,.func (.func 80) [] [.bptr 0 0]),(3,.eptr (ae e))] [.cells [.bptr 1 0] [],.cells [.mapr 2] [],.map (df PVal.bool m2),.dead] []):=qbt.j<|
 tb λr1 br1=>have pp3:=λ{X Y Z} (r:PV _ X Y Z)=>tv (aX e)<|bM (jQ _ br1)<|r;tf (λc2=>tb λr4 br4=>pp3<|tg 3 c2<|tw (bV e)<|bM (Ng _ br4)<|tE) λc2=>pp3<|tg 3 c2<|tE
end
section
variable(hidden:waA)(e:ag)(m2:(List (ai×Bool)))
def f6:Option (((List (ai×Bool)))):=
 (f7 hidden e).bind λo5=>
 if o5=true then
  (pM e m2).bind λr7=>
  some r7
 else
  some m2
theorem oM:OJ 3 (cA qbM 6) (f6 hidden e m2) .normal (λo=>aO 57 [(1,sl cS hidden),(2,.func (.func 80) [] [.bptr 0 0]),(3,.eptr (ae e))] [.cells [.bptr 1 0] [],.cells [.mapr 2] [],.map (df PVal.bool o),.dead] []) (aO 57 [(1,sl cS hidden),(2,.func (.func 80) [] [.bptr 0 0]),(3,.eptr (ae e))] [.cells [.bptr 1 0] [],.cells [.mapr 2] [],.map (df PVal.bool m2),.dead] []):=qbt.j<|
 tb λo5 bo5=>jo 0<|cD (oN hidden e m2 _ bo5)<|tF (tb λr7 br7=>tv (aX e)<|tc [0,1,2] (HP _ br7)<|tE)<|tE
end
section
variable(R21:dy)(hidden:waA)(e:ag)(t23:waE)(t24:Int)(t25:Int)(m2:(List (ai×Bool)))
def fw:aB:=aO 57 [(1,sl cS hidden),(2,.func (.func 80) [] [.bptr 0 0]),(3,.eptr (ae e)),(23,sl ae t23),(24,.int .i64 t24),(25,.int .i64 t25)] [.cells [.bptr 1 0] [],.cells [.mapr 2] [],.map (df PVal.bool m2),.dead] []
def jj(o:(List (ai×Bool))):aB:=aO 57 [(1,sl cS hidden),(2,.func (.func 80) [] [.bptr 0 0]),(3,.eptr (ae e))] [.cells [.bptr 1 0] [],.cells [.mapr 2] [],.map (df PVal.bool o),.dead] []
instance iS_syntax_occurrences_Free_1_L3:KS 3 (fw hidden e t23 t24 t25 m2):=ks 4 rfl
instance iO_syntax_occurrences_Free_1_L3{o:((List (ai×Bool)))}:KS 3 (jj hidden e o):=ks 4 rfl
def cc:Option ((Int×(List (ai×Bool)))⊕(((List (ai×Bool))))):=
 if decide (t25<t24)=true then
  (ey t23 t25).bind λx10=>
  (pj hidden).bind λr11=>
  (pN e t25).bind λr12=>
  (app r11 r12).bind λl13=>
  (R21 x10 l13 m2).bind λr14=>
  some (.inl (dp (t25+1),r14))
 else
  some (.inr m2)
def f8:Option (((List (ai×Bool)))):=loop (λ(zz:Int×(List (ai×Bool)))=>cc R21 hidden e t23 t24 zz.1 zz.2) (t25,m2)
theorem oz(hR21:dv R21):OL 3 (cA qbM 119) (cc R21 hidden e t23 t24 t25 m2) (λ(zz:Int×(List (ai×Bool)))=>fw hidden e t23 t24 zz.1 zz.2) (λ_=>.exit 0) (jj hidden e) (fw hidden e t23 t24 t25 m2):=qbt.lx<|
 tF (tb λx10 bx10=>tb λr11 br11=>tb λr12 br12=>tb λl13 bl13=>tb λr14 br14=>tv (cR.ia (k:=.i64) bx10)<|tv (aX x10)<|tx rH<|tx (dn x10)<|tk<|RL (.dx [0,0,2,0,0,30,62,0] [] [] [])<|tv (aK x10 [])<|bM (Am br11)<|tv (aX e)<|bM (HR _ br12)<|tv (b8.ap bl13)<|tc [0,1,2] (hR21 _ _ _ _ br14)<|tE)<|tE
def oO(hR21:dv R21):=rE (s:=(t25,m2)) λzz=>oz R21 hidden e t23 t24 zz.1 zz.2 hR21
end
section
variable(R21:dy)(hidden:waA)(t41:waD)(t42:Int)(t43:Int)(m2:(List (ai×Bool)))
def fx:aB:=aO 57 [(1,sl cS hidden),(2,.func (.func 80) [] [.bptr 0 0]),(41,sl au t41),(42,.int .i64 t42),(43,.int .i64 t43)] [.cells [.bptr 1 0] [],.cells [.mapr 2] [],.map (df PVal.bool m2),.dead] []
def jk(o:(List (ai×Bool))):aB:=aO 57 [] [.cells [.bptr 1 0] [],.cells [.mapr 2] [],.map (df PVal.bool o),.dead] []
instance iS_syntax_occurrences_Free_1_L4:KS 3 (fx hidden t41 t42 t43 m2):=ks 4 rfl
instance iO_syntax_occurrences_Free_1_L4{o:((List (ai×Bool)))}:KS 3 (jk o):=ks 4 rfl
def cd:Option ((Int×(List (ai×Bool)))⊕(((List (ai×Bool))))):=
 if decide (t43<t42)=true then
  (ey t41 t43).bind λx17=>
  (pj hidden).bind λr18=>
  (app r18 x17.Names).bind λl19=>
  (R21 x17.Body l19 m2).bind λr20=>
  some (.inl (dp (t43+1),r20))
 else
  some (.inr m2)
def f9:Option (((List (ai×Bool)))):=loop (λ(zz:Int×(List (ai×Bool)))=>cd R21 hidden t41 t42 zz.1 zz.2) (t43,m2)
theorem oA(hR21:dv R21):OL 3 (cA qbM 127) (cd R21 hidden t41 t42 t43 m2) (λ(zz:Int×(List (ai×Bool)))=>fx hidden t41 t42 zz.1 zz.2) (λ_=>.exit 2) jk (fx hidden t41 t42 t43 m2):=qbt.lx<|
 tF (tb λx17 bx17=>tb λr18 br18=>tb λl19 bl19=>tb λr20 br20=>tv (dc.ia (k:=.i64) bx17)<|tv (lp x17)<|tx Jv<|tx (hU x17)<|tk<|RL (.dx [0,1,0,4,0,16,60,0] [] [] [])<|tv (aK x17.Body [])<|bM (Am br18)<|ts<|tv (b8.ap bl19)<|tc [0,1,2] (hR21 _ _ _ _ br20)<|tE)<|tE
def oP(hR21:dv R21):=rE (s:=(t43,m2)) λzz=>oA R21 hidden t41 t42 zz.1 zz.2 hR21
end
def ez(R21:dy)(e:ag)(hidden:waA)(k2:(List (ai×Bool))):Option ((List (ai×Bool))):=
 (f6 hidden e k2).bind λo8=>
 (f8 R21 hidden e e.Kids (e.Kids.length:Int) 0 o8).bind λo15=>
 (f9 R21 hidden e.Alts (e.Alts.length:Int) 0 o15).bind λo21=>
 some o21
theorem qb(R21:dy)(hR21:dv R21){e:ag}{hidden:waA}{k2:(List (ai×Bool))}:OG 79 [.agg (ae e),sl cS hidden,.func (.func 80) [] [.bptr 0 0]] [] [.cells [.bptr 1 0] [],.cells [.mapr 2] [],.map (df PVal.bool k2)] (ez R21 e hidden k2) (λr=>.tuple []) [] (λr=>[.cells [.bptr 1 0] [],.cells [.mapr 2] [],.map (df PVal.bool r)]):=qbt.g 3<|
 tb λo8 bo8=>tb λo15 bo15=>tb λo21 bo21=>te (cm e)<|jo 0<|cD (oM hidden e k2 _ bo8)<|tw (aR e)<|ct (cR.ln e.Kids)<|cD (oO R21 hidden e e.Kids (e.Kids.length:Int) 0 o8 hR21 _ bo15)<|tw (ay e)<|ct (dc.ln e.Alts)<|cD (oP R21 hidden e.Alts (e.Alts.length:Int) 0 o15 hR21 _ bo21)<|tE
def gk:((ag×waA×(List (ai×Bool)))->Option ((List (ai×Bool))))->(ag×waA×(List (ai×Bool)))->Option ((List (ai×Bool))):=λ(rec:(ag×waA×(List (ai×Bool)))->Option ((List (ai×Bool)))) (x:ag×waA×(List (ai×Bool)))=>ez (λe hidden k2=>rec (e,hidden,k2)) x.1 x.2.1 x.2.2
def gW(e:ag)(hidden:waA)(k2:(List (ai×Bool))):Option ((List (ai×Bool))):=pl gk (e,hidden,k2)
theorem qA{e:ag}{hidden:waA}{k2:(List (ai×Bool))}:OG 79 [.agg (ae e),sl cS hidden,.func (.func 80) [] [.bptr 0 0]] [] [.cells [.bptr 1 0] [],.cells [.mapr 2] [],.map (df PVal.bool k2)] (gW e hidden k2) (λr=>.tuple []) [] (λr=>[.cells [.bptr 1 0] [],.cells [.mapr 2] [],.map (df PVal.bool r)]):=XI λ_ h=>
 dY (F:=gk) (M:=λ(x:ag×waA×(List (ai×Bool))) (r:(List (ai×Bool)))=>C Pg GE 79 [.agg (ae x.1),sl cS x.2.1,.func (.func 80) [] [.bptr 0 0]] [] [.cells [.bptr 1 0] [],.cells [.mapr 2] [],.map (df PVal.bool x.2.2)] (.tuple []) [] [.cells [.bptr 1 0] [],.cells [.mapr 2] [],.map (df PVal.bool r)]) (λrec hrec x r h=>qb _ (λe hidden k2=>XI λr h=>hrec (e,hidden,k2) r h) _ h) h
noncomputable def qfk:Code:=f24.body.getD .skip
theorem qeW:ZF Pg [] 24 f24 qfk:=zf call24 func24 rfl mixed
def qa(e:ag):Option waA:=
 (mn ([]:List ai)).bind λr1=>
 (gW e ([]:List ai) r1).bind λr2=>
 (tt r2).bind λr3=>
 some r3
theorem fI{e:ag}:OV 24 [.agg (ae e)] (qa e) (λr=>sl cS r) [(0,9)]:=qeW.v<|
 tb λr1 br1=>tb λr2 br2=>tb λr3 br3=>te (cm e)<|ti (.cn ⟨[2,3],[],[],[],[],[.map (df PVal.bool r1),.cells [.mapr 2] []],[.map (df PVal.bool r1),.cells [.mapr 0] []],.bptr 3 0,.bptr 1 0,[]⟩) (xc _ br1)<|tq (aI (aH uB ([]:List ai)) trivial)<|tq (aI (aI (rM (df PVal.bool r1)) (qcB (n:=0) PVal.bool (λx=>trivial) r1)) (aI (aI (rW []) (aI (xM [2,3] 0 2 rfl) trivial)) trivial))<|tq (xB [2,3] 1 3 0 rfl)<|tx qck<|ts<|tv (aX e)<|tc [1,3,2] (qA _ br2)<|ts<|tc [3,2] (Dc br3)<|tE
abbrev aW:=(ag->(List af)->waA->Option (ag×waA))
abbrev bJ(R:aW):Prop:=∀(e:ag) (scope:(List af)) (k0:waA),OG 56 [.agg [.func (.func 62) [] [.bptr 0 0],.func (.func 61) [] []],.agg (ae e),sl ak scope] [] [.cells [sl cS k0] [(0,9)]] (R e scope k0) (λr=>.agg (ae r.1)) [(3,28),(4,85),(5,89),(6,60)] (λr=>[.cells [sl cS r.2] [(0,9)]])
abbrev dE:=(waB->Option waB)
abbrev fQ(R:dE):Prop:=∀(a:waB),OV 102 [sl ah a,.func (.func 103) [] []] (R a) (λr=>sl ah r) [(0,60)]
abbrev fl:=(aw->Option aw)
abbrev jD(R:fl):Prop:=∀(p:aw),OV 135 [.agg (av p)] (R p) (λr=>.agg (av r)) [(3,58)]
noncomputable def qbI:Code:=f136.body.getD .skip
theorem qbj:ZF Pg [14,21] 136 f136 qbI:=zf call136 func136 rfl mixed
section
variable(R31:fl)(t8:waF)(t9:Int)(out:waF)(t10:Int)
def gH:aB:=aO 22 [(1,.func (.func 135) [] []),(5,sl av out),(8,sl av t8),(9,.int .i64 t9),(10,.int .i64 t10)] [] [((5,0),58)]
def kY(o:waF):aB:=aO 22 [(5,sl av o)] [] [((5,0),58)]
instance iS_syntax_each_clonePred_L1:KS 0 (gH t8 t9 out t10):=ks 0 rfl
instance iO_syntax_each_clonePred_L1{o:waF}:KS 0 (kY o):=ks 0 rfl
def gI:Option ((waF×Int)⊕(waF)):=
 if decide (t10<t9)=true then
  (ey t8 t10).bind λx2=>
  (R31 x2).bind λr3=>
  (app out ([r3]:List aw)).bind λl4=>
  some (.inl (l4,dp (t10+1)))
 else
  some (.inr out)
def mj:Option waF:=loop (λ(zz:waF×Int)=>gI R31 t8 t9 zz.1 zz.2) (out,t10)
theorem qy(hR31:jD R31):OL 0 (cA qbI 119) (gI R31 t8 t9 out t10) (λ(zz:waF×Int)=>gH t8 t9 zz.1 zz.2) (λ_=>.exit 0) kY (gH t8 t9 out t10):=qbj.lx<|
 tF (tb λx2 bx2=>tb λr3 br3=>tb λl4 bl4=>tv (ni.ia (k:=.i64) bx2)<|tv (nK x2)<|tx YQ<|tx (BS x2)<|tv (wF x2 [])<|bM (hR31 _ _ br3)<|tv (ni.mk' (v:=P9) N3 ([r3]:List aw) 1 (by kernel_rfl))<|tv (ni.ap bl4)<|tE)<|tE
def rK(hR31:jD R31):=rE (s:=(out,t10)) λzz=>qy R31 t8 t9 zz.1 zz.2 hR31
end
def ff(R31:fl)(a:waF):Option waF:=
 (mj R31 a (a.length:Int) ([]:List aw) 0).bind λo5=>
 some o5
theorem ml(R31:fl)(hR31:jD R31){a:waF}:OV 136 [sl av a,.func (.func 135) [] []] (ff R31 a) (λr=>sl av r) [(0,58)]:=qbj.v<|
 tb λo5 bo5=>ct (ni.ln a)<|cD (rK R31 a (a.length:Int) ([]:List aw) 0 hR31 _ bo5)<|tE
noncomputable def qdp:Code:=f135.body.getD .skip
theorem qcV:ZF Pg [] 135 f135 qdp:=zf call135 func135 rfl mixed
def jM(R31:fl)(p:aw):Option aw:=
 (ff R31 p.Kids).bind λr1=>
 some (⟨p.Op,p.Name,p.N,r1⟩:aw)
theorem AY(R31:fl)(hR31:jD R31){p:aw}:OV 135 [.agg (av p)] (jM R31 p) (λr=>.agg (av r)) [(3,58)]:=qcV.va<|
 tb λr1 br1=>T9 (BS p) rfl<|tx YQ<|ts<|bM (ml R31 hR31 _ br1)<|tz (wF (⟨p.Op,p.Name,p.N,r1⟩:aw) [])<|ty (dX (⟨p.Op,p.Name,p.N,r1⟩:aw))<|Ei λq=>aI (U3 (⟨p.Op,p.Name,p.N,r1⟩:aw)) q.2
def mP:(aw->Option aw)->(aw)->Option aw:=λ(rec:aw->Option aw) (x:aw)=>jM (λp=>rec p) x
def je(p:aw):Option aw:=pl mP p
theorem qR{p:aw}:OV 135 [.agg (av p)] (je p) (λr=>.agg (av r)) [(3,58)]:=BN λ_ h=>
 dY (F:=mP) (M:=λ(x:aw) (r:aw)=>CC Pg GE 135 [.agg (av x)] (.agg (av r)) [(3,58)]) (λrec hrec x r h=>AY _ (λp=>BN λr h=>hrec p r h) _ h) h
noncomputable def qdj:Code:=f103.body.getD .skip
theorem qcQ:ZF Pg [] 103 f103 qdj:=zf call103 func103 rfl mixed
def dT(R29:dE)(t:al):Option al:=
 (R29 t.Args).bind λr1=>
 (pj t.Names).bind λr2=>
 (je t.Pred).bind λr3=>
 (ff je t.Preds).bind λr4=>
 some (⟨t.Op,t.Name,r1,r2,r3,r4⟩:al)
theorem lQ(R29:dE)(hR29:fQ R29){t:al}:OV 103 [.agg (ah t)] (dT R29 t) (λr=>.agg (ah r)) [(2,60),(3,9),(7,58),(8,58)]:=qcQ.va<|
 tb λr1 br1=>tb λr2 br2=>tb λr3 br3=>tb λr4 br4=>T9 (po t) rfl<|tx SP<|ts<|bM (hR29 _ _ br1)<|ts<|bM (Am br2)<|tv (wF t.Pred [sl av t.Preds])<|bM (qR _ br3)<|ty (dX r3)<|ts<|bM (ml je (λ_=>qR) _ br4)<|tz (iT (⟨t.Op,t.Name,r1,r2,r3,r4⟩:al) [])<|ty (dl (⟨t.Op,t.Name,r1,r2,r3,r4⟩:al))<|Ei λq=>aI (U4 (⟨t.Op,t.Name,r1,r2,r3,r4⟩:al)) q.2
noncomputable def qbG:Code:=f102.body.getD .skip
theorem qbc:ZF Pg [14,21] 102 f102 qbG:=zf call102 func102 rfl mixed
section
variable(R29:dE)(t8:waB)(t9:Int)(out:waB)(t10:Int)
def gJ:aB:=aO 22 [(1,.func (.func 103) [] []),(5,sl ah out),(8,sl ah t8),(9,.int .i64 t9),(10,.int .i64 t10)] [] [((5,0),60)]
def kZ(o:waB):aB:=aO 22 [(5,sl ah o)] [] [((5,0),60)]
instance iS_syntax_each_cloneType_L1:KS 0 (gJ t8 t9 out t10):=ks 0 rfl
instance iO_syntax_each_cloneType_L1{o:waB}:KS 0 (kZ o):=ks 0 rfl
def gK:Option ((waB×Int)⊕(waB)):=
 if decide (t10<t9)=true then
  (ey t8 t10).bind λx2=>
  (dT R29 x2).bind λr3=>
  (app out ([r3]:List al)).bind λl4=>
  some (.inl (l4,dp (t10+1)))
 else
  some (.inr out)
def mm:Option waB:=loop (λ(zz:waB×Int)=>gK R29 t8 t9 zz.1 zz.2) (out,t10)
theorem qz(hR29:fQ R29):OL 0 (cA qbG 119) (gK R29 t8 t9 out t10) (λ(zz:waB×Int)=>gJ t8 t9 zz.1 zz.2) (λ_=>.exit 0) kZ (gJ t8 t9 out t10):=qbc.lx<|
 tF (tb λx2 bx2=>tb λr3 br3=>tb λl4 bl4=>tv (dZ.ia (k:=.i64) bx2)<|tv (jT x2)<|tx SP<|tx (po x2)<|tv (iT x2 [])<|bM (lQ R29 hR29 _ br3)<|tv (dZ.mk' (v:=Qa) N4 ([r3]:List al) 1 (by kernel_rfl))<|tv (dZ.ap bl4)<|tE)<|tE
def rL(hR29:fQ R29):=rE (s:=(out,t10)) λzz=>qz R29 t8 t9 zz.1 zz.2 hR29
end
def fX(R29:dE)(a:waB):Option waB:=
 (mm R29 a (a.length:Int) ([]:List al) 0).bind λo5=>
 some o5
theorem ue(R29:dE)(hR29:fQ R29){a:waB}:OV 102 [sl ah a,.func (.func 103) [] []] (fX R29 a) (λr=>sl ah r) [(0,60)]:=qbc.v<|
 tb λo5 bo5=>ct (dZ.ln a)<|cD (rL R29 a (a.length:Int) ([]:List al) 0 hR29 _ bo5)<|tE
def jh:(waB->Option waB)->(waB)->Option waB:=λ(rec:waB->Option waB) (x:waB)=>fX (λa=>rec a) x
def cr(a:waB):Option waB:=pl jh a
theorem fC{a:waB}:OV 102 [sl ah a,.func (.func 103) [] []] (cr a) (λr=>sl ah r) [(0,60)]:=BN λ_ h=>
 dY (F:=jh) (M:=λ(x:waB) (r:waB)=>CC Pg GE 102 [sl ah x,.func (.func 103) [] []] (sl ah r) [(0,60)]) (λrec hrec x r h=>ue _ (λa=>BN λr h=>hrec a r h) _ h) h
noncomputable def qfr:Code:=f61.body.getD .skip
theorem qe3:ZF Pg [3] 61 f61 qfr:=zf call61 func61 rfl mixed
def IG(s:ai):Option ai:=
 some s
theorem Mi{s:ai}:OV 61 [.str s] (IG s) (λr=>.str r) []:=qe3.v<|
 tE
noncomputable def qdC:Code:=f52.body.getD .skip
theorem qdd:ZF Pg [24,35] 52 f52 qdC:=zf call52 func52 rfl mixed
section
variable(base:ai)(t11:waA)(t12:Int)(t13:Int)(m0:(List (ai×Bool)))
def wK:aB:=aO 36 [(1,.str base),(5,.mapr 0),(11,sl cS t11),(12,.int .i64 t12),(13,.int .i64 t13)] [.map (df PVal.bool m0)] []
def Hr(o:(List (ai×Bool))):aB:=aO 36 [(1,.str base),(5,.mapr 0)] [.map (df PVal.bool o)] []
def iU:Option ((Int×(List (ai×Bool)))⊕(((List (ai×Bool))))):=
 if decide (t13<t12)=true then
  (ey t11 t13).bind λx2=>
  some (.inl (dp (t13+1),rz m0 x2 true))
 else
  some (.inr m0)
def sV:Option (((List (ai×Bool)))):=loop (λ(zz:Int×(List (ai×Bool)))=>iU t11 t12 zz.1 zz.2) (t13,m0)
theorem DT:OL 0 (cA qdC 119) (iU t11 t12 t13 m0) (λ(zz:Int×(List (ai×Bool)))=>wK base t11 t12 zz.1 zz.2) (λ_=>.exit 0) (Hr base) (wK base t11 t12 t13 m0):=qdd.l<|
 tF (tb λx2 bx2=>tv (b8.ia (k:=.i64) bx2)<|tv (cw BZ (.str x2) [])<|qec (SB (f:=PVal.bool) underlying124 underlying9 m0 x2 true)<|tE)<|tE
def Fm:=rE (s:=(t13,m0)) λzz=>DT base t11 t12 zz.1 zz.2
end
section
variable(base:ai)(m0:(List (ai×Bool)))(n:Int)
def wL:aB:=aO 36 [(1,.str base),(5,.mapr 0),(8,.int .i64 n)] [.map (df PVal.bool m0)] []
def Ht(o:ai):aB:=aO 36 [(4,.str o)] [.map (df PVal.bool m0)] []
def gv:Option (Int⊕(ai)):=
 (TD n).bind λr5=>
 (qax base r5).bind λs6=>
 if(!((yh m0 s6).getD false))=true then
  some (.inr s6)
 else
  some (.inl (dp (n+1)))
def nM:Option ai:=loop (λ(zz:Int)=>gv base m0 zz) n
theorem DU:OL 0 (cA qdC 255) (gv base m0 n) (λ(zz:Int)=>wL base m0 zz) (λ_=>.ret) (Ht m0) (wL base m0 n):=qdd.l<|
 tb λr5 br5=>tb λs6 bs6=>bM (Yt br5)<|tv (P7 (P:=Pg) (t:=9) bs6)<|tv (SA (f:=PVal.bool) underlying124 underlying9 qef m0 s6)<|tF tE<|tE
def Fo:=rE (s:=n) λzz=>DU base m0 zz
end
def pZ(used:waA)(base:ai):Option ai:=
 (sV used (used.length:Int) 0 ([]:List (ai×Bool))).bind λo3=>
 if(!((yh o3 base).getD false))=true then
  some base
 else
  (nM base o3 1).bind λo8=>
  some o8
theorem Ax{used:waA}{base:ai}:OV 52 [sl cS used,.str base] (pZ used base) (λr=>.str r) []:=qdd.v<|
 tb λo3 bo3=>ct (b8.ln used)<|cD (Fm base used (used.length:Int) 0 ([]:List (ai×Bool)) _ bo3)<|tv (SA (f:=PVal.bool) underlying124 underlying9 qef o3 base)<|tF tE<|tb λo8 bo8=>cD (Fo base o3 1 _ bo8)<|tE
noncomputable def qfs:Code:=f62.body.getD .skip
theorem qe4:ZF Pg [10,14] 62 f62 qfs:=zf call62 func62 rfl mixed
def j0(s:ai)(a:(List af))(k0:waA):Option (ai×waA):=
 (pZ k0 s).bind λr1=>
 (app k0 ([r1]:List ai)).bind λl2=>
 some (r1,l2)
theorem tB{s:ai}{a:(List af)}{k0:waA}:OG 62 [.str s,sl ak a,.bptr 0 0] [] [.cells [sl cS k0] [(0,9)]] (j0 s a k0) (λr=>.str r.1) [] (λr=>[.cells [sl cS r.2] [(0,9)]]):=qe4.g 1<|
 tb λr1 br1=>tb λl2 bl2=>ts<|bM (Ax _ br1)<|tv (gD [r1] 1 rfl)<|tv (b8.ap bl2)<|tE
noncomputable def qdk:Code:=f105.body.getD .skip
theorem qbd:ZF Pg [12,18] 105 f105 qdk:=zf call105 func105 rfl mixed
def cz(s:ai)(a:(List af))(k1:waA)(k2:(List af)):Option (ai×waA×(List af)):=
 (j0 s a k1).bind λr1=>
 (app k2 ([(⟨s,r1.1⟩:af)]:List af)).bind λl2=>
 some (r1.1,r1.2,l2)
theorem fJ{s:ai}{a:(List af)}{k1:waA}{k2:(List af)}:OG 105 [.str s,.bptr 0 0,.eptr ((cL ak) a),.bptr 2 0] [] [.cells [.func (.func 62) [] [.bptr 1 0],.func (.func 61) [] []] [],.cells [sl cS k1] [(0,9)],.cells [sl ak k2] [(0,137)]] (cz s a k1 k2) (λr=>.str r.1) [] (λr=>[.cells [.func (.func 62) [] [.bptr 1 0],.func (.func 61) [] []] [],.cells [sl cS r.2.1] [(0,9)],.cells [sl ak r.2.2] [(0,137)]]):=qbd.g 3<|
 tb λr1 br1=>tb λl2 bl2=>ts<|tv (cw Jx (sl ak a) [])<|tc [1] (tB _ br1)<|tv (jH s r1.1)<|tv (Mb.mk' (v:=mA) mD ([(⟨s,r1.1⟩:af)]:List af) 1 (by kernel_rfl))<|tv (Mb.ap bl2)<|tE
noncomputable def Z0:Code:=f108.body.getD .skip
theorem XM:ZF Pg [] 108 f108 Z0:=zf call108 func108 rfl mixed
section
variable(t1:Bool)(v:(List af))(m:waA)(m2:(List af))(m3:ai)(m4:Int)(m5:ai)(m6:waB)(m7:waA)(m8:Int)(m9:ai)(m10:Int)(m11:waF)(m12:waF)(m13:waB)(m14:waF)
def cu:Option ((waA×(List af)×ai)):=
 if t1=true then
  (cz m3 v m m2).bind λr2=>
  some (r2.2.1,r2.2.2,r2.1)
 else
  some (m,m2,m3)
theorem fK:OJ 4 (cA Z0 6) (cu t1 v m m2 m3) .normal (λo=>aO 17 [(3,.bptr 4 0),(4,.bptr 5 0)] [.cells [.func (.func 105) [] [.bptr 1 0,.eptr ((cL ak) v),.bptr 3 0]] [],.cells [.func (.func 62) [] [.bptr 2 0],.func (.func 61) [] []] [],.cells [sl cS o.1] [(0,9)],.cells [sl ak o.2.1] [(0,137)],.cells [.str o.2.2,.int .i64 m4,.str m5,sl ah m6,sl cS m7,.int .i64 m8,.str m9,.int .i64 m10,sl av m11,sl av m12] [],.cells [.str ([]:ai),.int .i64 0,.str ([]:ai),sl ah m13,sl cS ([]:List ai),.int .i64 0,.str ([]:ai),.int .i64 0,sl av m14,sl av m14] [(3,60),(4,9),(8,58),(9,58)]] []) (aO 17 [(1,.eptr (cB t1)),(2,.bptr 0 0),(3,.bptr 4 0),(4,.bptr 5 0)] [.cells [.func (.func 105) [] [.bptr 1 0,.eptr ((cL ak) v),.bptr 3 0]] [],.cells [.func (.func 62) [] [.bptr 2 0],.func (.func 61) [] []] [],.cells [sl cS m] [(0,9)],.cells [sl ak m2] [(0,137)],.cells [.str m3,.int .i64 m4,.str m5,sl ah m6,sl cS m7,.int .i64 m8,.str m9,.int .i64 m10,sl av m11,sl av m12] [],.cells [.str ([]:ai),.int .i64 0,.str ([]:ai),sl ah m13,sl cS ([]:List ai),.int .i64 0,.str ([]:ai),.int .i64 0,sl av m14,sl av m14] [(3,60),(4,9),(8,58),(9,58)]] []):=XM.j<|
 tv (cw qeK (.bool t1) [])<|tF (tb λr2 br2=>ts<|ts<|tc [1,2,3] (fJ _ br2)<|ts<|tE)<|tE
end
def bX(p:am)(a:Bool)(c:(List af))(k2:waA)(k3:(List af)):Option (am×waA×(List af)):=
 (cu a c k2 k3 p.Name).bind λo3=>
 (dT cr p.Type_).bind λr4=>
 some ((⟨o3.2.2,r4⟩:am),o3.1,o3.2.1)
theorem gd{p:am}{a:Bool}{c:(List af)}{k2:waA}{k3:(List af)}:OG 108 [.agg (aj p),.eptr (cB a),.bptr 0 0] [] [.cells [.func (.func 105) [] [.bptr 1 0,.eptr ((cL ak) c),.bptr 3 0]] [],.cells [.func (.func 62) [] [.bptr 2 0],.func (.func 61) [] []] [],.cells [sl cS k2] [(0,9)],.cells [sl ak k3] [(0,137)]] (bX p a c k2 k3) (λr=>.agg (aj r.1)) [] (λr=>[.cells [.func (.func 105) [] [.bptr 1 0,.eptr ((cL ak) c),.bptr 3 0]] [],.cells [.func (.func 62) [] [.bptr 2 0],.func (.func 61) [] []] [],.cells [sl cS r.2.1] [(0,9)],.cells [sl ak r.2.2] [(0,137)]]):=XM.g 4<|
 tb λo3 bo3=>tb λr4 br4=>T9 (kU p) rfl<|tx U1<|jo 0<|cD (fK a c k2 k3 p.Name p.Type_.Op p.Type_.Name p.Type_.Args p.Type_.Names p.Type_.Pred.Op p.Type_.Pred.Name p.Type_.Pred.N p.Type_.Pred.Kids p.Type_.Preds ([]:List al) ([]:List aw) _ bo3)<|Be [0,1,0,4,12,31,63]<|ts<|tv (iT p.Type_ [])<|bM (lQ cr (λ_=>fC) _ br4)<|tv (CL o3.2.2 r4)<|tx (kU (⟨o3.2.2,r4⟩:am))<|Ei λq=>aI (L9 (⟨o3.2.2,r4⟩:am)) q.2
noncomputable def ZZ:Code:=f107.body.getD .skip
theorem XL:ZF Pg [14,21] 107 f107 ZZ:=zf call107 func107 rfl mixed
section
variable(v:Bool)(t8:waC)(t9:Int)(v2:(List af))(out:waC)(t10:Int)(m:waA)(m2:(List af))
def b7:aB:=aO 22 [(1,.func (.func 108) [] [.eptr (cB v),.bptr 0 0]),(5,sl aj out),(8,sl aj t8),(9,.int .i64 t9),(10,.int .i64 t10)] [.cells [.func (.func 105) [] [.bptr 1 0,.eptr ((cL ak) v2),.bptr 3 0]] [],.cells [.func (.func 62) [] [.bptr 2 0],.func (.func 61) [] []] [],.cells [sl cS m] [(0,9)],.cells [sl ak m2] [(0,137)]] [((5,0),85)]
def cV(o:waC×waA×(List af)):aB:=aO 22 [(5,sl aj o.1)] [.cells [.func (.func 105) [] [.bptr 1 0,.eptr ((cL ak) v2),.bptr 3 0]] [],.cells [.func (.func 62) [] [.bptr 2 0],.func (.func 61) [] []] [],.cells [sl cS o.2.1] [(0,9)],.cells [sl ak o.2.2] [(0,137)]] [((5,0),85)]
instance iS_syntax_each_naming_apply_2_naming_apply_1_Rename_1_same_L1:KS 4 (b7 v t8 t9 v2 out t10 m m2):=ks 4 rfl
instance iO_syntax_each_naming_apply_2_naming_apply_1_Rename_1_same_L1{o:(waC×waA×(List af))}:KS 4 (cV v2 o):=ks 4 rfl
def aJ:Option ((waC×Int×waA×(List af))⊕((waC×waA×(List af)))):=
 if decide (t10<t9)=true then
  (ey t8 t10).bind λx2=>
  (bX x2 v v2 m m2).bind λr3=>
  (app out ([r3.1]:List am)).bind λl4=>
  some (.inl (l4,dp (t10+1),r3.2.1,r3.2.2))
 else
  some (.inr (out,m,m2))
def db:Option ((waC×waA×(List af))):=loop (λ(zz:waC×Int×waA×(List af))=>aJ v t8 t9 v2 zz.1 zz.2.1 zz.2.2.1 zz.2.2.2) (out,t10,m,m2)
theorem eN:OL 4 (cA ZZ 119) (aJ v t8 t9 v2 out t10 m m2) (λ(zz:waC×Int×waA×(List af))=>b7 v t8 t9 v2 zz.1 zz.2.1 zz.2.2.1 zz.2.2.2) (λ_=>.exit 0) (cV v2) (b7 v t8 t9 v2 out t10 m m2):=XL.lx<|
 tF (tb λx2 bx2=>tb λr3 br3=>tb λl4 bl4=>tv (er.ia (k:=.i64) bx2)<|tv (BF x2)<|tx U1<|tx (kU x2)<|tv (Ly x2 [])<|tc [0,1,2,3] (gd _ br3)<|tv (er.mk' (v:=xr) th ([r3.1]:List am) 1 (by kernel_rfl))<|tv (er.ap bl4)<|tE)<|tE
def eT:=rE (s:=(out,t10,m,m2)) λzz=>eN v t8 t9 v2 zz.1 zz.2.1 zz.2.2.1 zz.2.2.2
end
def bI(a:waC)(c:Bool)(c2:(List af))(k2:waA)(k3:(List af)):Option (waC×waA×(List af)):=
 (db c a (a.length:Int) c2 ([]:List am) 0 k2 k3).bind λo5=>
 some (o5.1,o5.2.1,o5.2.2)
theorem fq{a:waC}{c:Bool}{c2:(List af)}{k2:waA}{k3:(List af)}:OG 107 [sl aj a,.func (.func 108) [] [.eptr (cB c),.bptr 0 0]] [] [.cells [.func (.func 105) [] [.bptr 1 0,.eptr ((cL ak) c2),.bptr 3 0]] [],.cells [.func (.func 62) [] [.bptr 2 0],.func (.func 61) [] []] [],.cells [sl cS k2] [(0,9)],.cells [sl ak k3] [(0,137)]] (bI a c c2 k2 k3) (λr=>sl aj r.1) [(0,85)] (λr=>[.cells [.func (.func 105) [] [.bptr 1 0,.eptr ((cL ak) c2),.bptr 3 0]] [],.cells [.func (.func 62) [] [.bptr 2 0],.func (.func 61) [] []] [],.cells [sl cS r.2.1] [(0,9)],.cells [sl ak r.2.2] [(0,137)]]):=XL.g 4<|
 tb λo5 bo5=>ct (er.ln a)<|cD (eT c a (a.length:Int) c2 ([]:List am) 0 k2 k3 _ bo5)<|tE
noncomputable def Z2:Code:=f110.body.getD .skip
theorem XO:ZF Pg [24,28] 110 f110 Z2:=zf call110 func110 rfl mixed
section
variable(t1:(List af))(v:az)(t13:waA)(t14:Int)(m2:waE)(m3:waC)(m4:waD)(m5:waB)(v2:(List af))(v3:waA)(t15:Int)(m:waA)
def fh:aB:=aO 44 [(1,.eptr ((cL ak) t1)),(2,.bptr 0 0),(3,.eptr (au v)),(4,.bptr 3 0),(5,sl ak v2),(6,sl cS v3),(13,sl cS t13),(14,.int .i64 t14),(15,.int .i64 t15)] [.cells [.func (.func 62) [] [.bptr 1 0],.func (.func 61) [] []] [],.cells [sl cS m] [(0,9)],.dead,.cells [.str ([]:ai),sl cS ([]:List ai),.int .i64 0,.str ([]:ai),.int .i64 0,sl ae m2,sl aj m3,sl au m4,sl ah m5] [(1,9),(5,28),(6,85),(7,89),(8,60)]] [((6,0),9),((5,0),137)]
def kn(o:(List af)×waA×waA):aB:=aO 44 [(2,.bptr 0 0),(3,.eptr (au v)),(4,.bptr 3 0),(5,sl ak o.1),(6,sl cS o.2.1)] [.cells [.func (.func 62) [] [.bptr 1 0],.func (.func 61) [] []] [],.cells [sl cS o.2.2] [(0,9)],.dead,.cells [.str ([]:ai),sl cS ([]:List ai),.int .i64 0,.str ([]:ai),.int .i64 0,sl ae m2,sl aj m3,sl au m4,sl ah m5] [(1,9),(5,28),(6,85),(7,89),(8,60)]] [((6,0),9),((5,0),137)]
def bg:Option (((List af)×waA×Int×waA)⊕(((List af)×waA×waA))):=
 if decide (t15<t14)=true then
  (ey t13 t15).bind λx3=>
  (j0 x3 t1 m).bind λr4=>
  (app v3 ([r4.1]:List ai)).bind λl5=>
  (app v2 ([(⟨x3,r4.1⟩:af)]:List af)).bind λl6=>
  some (.inl (l6,l5,dp (t15+1),r4.2))
 else
  some (.inr (v2,v3,m))
def dL:Option (((List af)×waA×waA)):=loop (λ(zz:(List af)×waA×Int×waA)=>bg t1 t13 t14 zz.1 zz.2.1 zz.2.2.1 zz.2.2.2) (v2,v3,t15,m)
theorem jN:OL 2 (cA Z2 247) (bg t1 t13 t14 v2 v3 t15 m) (λ(zz:(List af)×waA×Int×waA)=>fh t1 v t13 t14 m2 m3 m4 m5 zz.1 zz.2.1 zz.2.2.1 zz.2.2.2) (λ_=>.exit 0) (kn v m2 m3 m4 m5) (fh t1 v t13 t14 m2 m3 m4 m5 v2 v3 t15 m):=XO.l<|
 tF (tb λx3 bx3=>tb λr4 br4=>tb λl5 bl5=>tb λl6 bl6=>tv (b8.ia (k:=.i64) bx3)<|tv (cw BZ (.str x3) [])<|ts<|tv (cw Jx (sl ak t1) [])<|tc [1] (tB _ br4)<|tv (gD [r4.1] 1 rfl)<|tv (b8.ap bl5)<|tv (jH x3 r4.1)<|tv (Mb.mk' (v:=mA) mD ([(⟨x3,r4.1⟩:af)]:List af) 1 (by kernel_rfl))<|tv (Mb.ap bl6)<|tE)<|tE
def j3:=rE (s:=(v2,v3,t15,m)) λzz=>jN t1 v t13 t14 m2 m3 m4 m5 zz.1 zz.2.1 zz.2.2.1 zz.2.2.2
end
def cC(R28:aW)(a:az)(a2:(List af))(k1:waA):Option (az×waA):=
 (pj a2).bind λr1=>
 (dL a2 a.Names (a.Names.length:Int) r1 ([]:List ai) 0 k1).bind λo7=>
 (R28 a.Body o7.1 o7.2.2).bind λr8=>
 some ((⟨a.Con,o7.2.1,r8.1⟩:az),r8.2)
theorem lb(R28:aW)(hR28:bJ R28){a:az}{a2:(List af)}{k1:waA}:OG 110 [.agg (au a),.eptr ((cL ak) a2),.bptr 0 0] [] [.cells [.func (.func 62) [] [.bptr 1 0],.func (.func 61) [] []] [],.cells [sl cS k1] [(0,9)]] (cC R28 a a2 k1) (λr=>.agg (au r.1)) [] (λr=>[.cells [.func (.func 62) [] [.bptr 1 0],.func (.func 61) [] []] [],.cells [sl cS r.2] [(0,9)]]):=XO.g 2<|
 tb λr1 br1=>tb λo7 bo7=>tb λr8 br8=>te (PQ a)<|tx Jv<|tv (cw Jx (sl ak a2) [])<|bM (uC br1)<|tw (eK a)<|ct (b8.ln a.Names)<|cD (j3 a2 a a.Names (a.Names.length:Int) ([]:List ag) ([]:List am) ([]:List az) ([]:List al) r1 ([]:List ai) 0 k1 _ bo7)<|RL (.dx [0,1,0,0,0,16,0,120,255,511] [] [] [11,293,337])<|tw (lm a)<|tv (show aY Pg 95 [.func (.func 62) [] [.bptr 1 0],.func (.func 61) [] []]=some (.agg [.func (.func 62) [] [.bptr 1 0],.func (.func 61) [] []]) by kernel_rfl)<|tw (fT a)<|tc [1] (hR28 _ _ _ _ br8)<|tv (CK a.Con o7.2.1 r8.1)<|tx (hU (⟨a.Con,o7.2.1,r8.1⟩:az))<|Ei λq=>aI (Rt (⟨a.Con,o7.2.1,r8.1⟩:az)) q.2
noncomputable def Z1:Code:=f109.body.getD .skip
theorem XN:ZF Pg [14,21] 109 f109 Z1:=zf call109 func109 rfl mixed
section
variable(R28:aW)(v:(List af))(t8:waD)(t9:Int)(out:waD)(t10:Int)(m:waA)
def cX:aB:=aO 22 [(1,.func (.func 110) [] [.eptr ((cL ak) v),.bptr 0 0]),(5,sl au out),(8,sl au t8),(9,.int .i64 t9),(10,.int .i64 t10)] [.cells [.func (.func 62) [] [.bptr 1 0],.func (.func 61) [] []] [],.cells [sl cS m] [(0,9)]] [((5,0),89)]
def eh(o:waD×waA):aB:=aO 22 [(5,sl au o.1)] [.cells [.func (.func 62) [] [.bptr 1 0],.func (.func 61) [] []] [],.cells [sl cS o.2] [(0,9)]] [((5,0),89)]
instance iS_syntax_each_naming_apply_3_Rename_1_same_L1:KS 2 (cX v t8 t9 out t10 m):=ks 2 rfl
instance iO_syntax_each_naming_apply_3_Rename_1_same_L1{o:(waD×waA)}:KS 2 (eh o):=ks 2 rfl
def aT:Option ((waD×Int×waA)⊕((waD×waA))):=
 if decide (t10<t9)=true then
  (ey t8 t10).bind λx2=>
  (cC R28 x2 v m).bind λr3=>
  (app out ([r3.1]:List az)).bind λl4=>
  some (.inl (l4,dp (t10+1),r3.2))
 else
  some (.inr (out,m))
def eE:Option ((waD×waA)):=loop (λ(zz:waD×Int×waA)=>aT R28 v t8 t9 zz.1 zz.2.1 zz.2.2) (out,t10,m)
theorem hZ(hR28:bJ R28):OL 2 (cA Z1 119) (aT R28 v t8 t9 out t10 m) (λ(zz:waD×Int×waA)=>cX v t8 t9 zz.1 zz.2.1 zz.2.2) (λ_=>.exit 0) eh (cX v t8 t9 out t10 m):=XN.lx<|
 tF (tb λx2 bx2=>tb λr3 br3=>tb λl4 bl4=>tv (dc.ia (k:=.i64) bx2)<|tv (lp x2)<|tx Jv<|tx (hU x2)<|tv (QY x2 [])<|tc [0,1] (lb R28 hR28 _ br3)<|tv (dc.mk' (v:=S2) Rc ([r3.1]:List az) 1 (by kernel_rfl))<|tv (dc.ap bl4)<|tE)<|tE
def iw(hR28:bJ R28):=rE (s:=(out,t10,m)) λzz=>hZ R28 v t8 t9 zz.1 zz.2.1 zz.2.2 hR28
end
def ca(R28:aW)(a:waD)(c:(List af))(k1:waA):Option (waD×waA):=
 (eE R28 c a (a.length:Int) ([]:List az) 0 k1).bind λo5=>
 some (o5.1,o5.2)
theorem jq(R28:aW)(hR28:bJ R28){a:waD}{c:(List af)}{k1:waA}:OG 109 [sl au a,.func (.func 110) [] [.eptr ((cL ak) c),.bptr 0 0]] [] [.cells [.func (.func 62) [] [.bptr 1 0],.func (.func 61) [] []] [],.cells [sl cS k1] [(0,9)]] (ca R28 a c k1) (λr=>sl au r.1) [(0,89)] (λr=>[.cells [.func (.func 62) [] [.bptr 1 0],.func (.func 61) [] []] [],.cells [sl cS r.2] [(0,9)]]):=XN.g 2<|
 tb λo5 bo5=>ct (dc.ln a)<|cD (iw R28 c a (a.length:Int) ([]:List az) 0 k1 hR28 _ bo5)<|tE
end Go.Proofs.YtkdahfeiedaahaaGreatDoor
