/- PROVED: a part of the proof. Conditions: none. -/
import Derived.Test.YtankopenjcbeeaaGreatDoords12
import Derived.Test.YtankopenjcbeeaaGreatDoords11
set_option linter.unusedSimpArgs false
set_option linter.unusedVariables false
noncomputable section
namespace Go.Proofs.YtankopenjcbeeaaGreatDoor
open Go Go.Proofs.Tryz
set_option linter.unusedVariables false
set_option maxRecDepth 100000
noncomputable def qa2:Code:=f145.body.getD .skip
def Yo:List Nat:=[]
theorem Z3:ZF Pg Yo 145 f145 qa2:=zf call145 func145 rfl mixed
def DS(R15:dB)(a:ca)(a2:ca):Option Bool:=
 if(a.Con==a2.Con)=true then
  (zx a.Names a2.Names).bind λr3=>
  if r3=true then
   (R15 a.Body a2.Body).bind λr6=>
   some r6
  else
   some false
 else
  some false
theorem HW(R15:dB)(hR15:fo R15){a:ca}{a2:ca}:OV 145 [.agg (aN a),.agg (aN a2)] (DS R15 a a2) (λr=>.bool r) []:=Z3.v<|
 te (Na a)<|te (Na a2)<|have pp2:=λ{X Y Z} (r:PV _ X Y Z)=>tw (vH a)<|tw (vH a2)<|r;tf (λc1=>tb λr3 br3=>have pp5:=λ{X Y Z} (r:PV _ X Y Z)=>pp2<|tg 6 c1<|tw (lX a)<|tw (lX a2)<|ck (Ai _ br3)<|r;tf (λc4=>tb λr6 br6=>pp5<|tg 13 c4<|tw (s9 a)<|tw (s9 a2)<|ck (hR15 _ _ _ br6)<|tE) λc4=>pp5<|tg 13 c4<|tE) λc1=>pp2<|tg 6 c1<|tE
noncomputable def US:Code:=f144.body.getD .skip
def Yn:List Nat:=[19]
theorem Wm:ZF Pg Yn 144 f144 US:=zf call144 func144 rfl mixed
section
variable(R15:dB)(s2:waD)(t15:waD)(t16:Int)(t17:Int)
def dH:ay:=aM 32 [(1,sl aN s2),(2,.func (.func 145) [] []),(15,sl aN t15),(16,.int .i64 t16),(17,.int .i64 t17)] [] []
def iH(o:Unit⊕(Unit)):Exit:=match o with
 |(.inl _)=>.ret
 |(.inr _)=>.exit 0
def fc(o:Unit⊕(Unit)):ay:=match o with
 |(.inl o)=>aM 32 [(6,.bool false)] [] []
 |(.inr o)=>aM 32 [] [] []
instance iS_slices_EqualFunc_Same_2_L1:KS 0 (dH s2 t15 t16 t17):=⟨rfl,(bk (aI (up (ak dy s2)) (aI (aI vzz vzz) (aI (up (ak dy t15)) (aI vzz (aI vzz vzz)))))),vzz⟩
instance iO_slices_EqualFunc_Same_2_L1{o:Unit⊕(Unit)}:KS 0 (fc o):=match o with
 |(.inl o)=>⟨rfl,(bk (aI vzz vzz)),vzz⟩
 |(.inr o)=>⟨rfl,(bk vzz),vzz⟩
def iG:Option (Int⊕(Unit⊕(Unit))):=
 if decide (t17<t16)=true then
  (dw t15 t17).bind λx3=>
  (dw s2 t17).bind λx4=>
  (DS R15 x3 x4).bind λr5=>
  if(!r5)=true then
   some (.inr (.inl ()))
  else
   some (.inl (fh (t17+1)))
 else
  some (.inr (.inr ()))
def j8:Option (Unit⊕(Unit)):=loop (λ(zz:Int)=>iG R15 s2 t15 t16 zz) t17
theorem pu(hR15:fo R15):OL 0 (cA US 119) (iG R15 s2 t15 t16 t17) (λ(zz:Int)=>dH s2 t15 t16 zz) iH fc (dH s2 t15 t16 t17):=Wm.lx<|
 tF (tb λx3 bx3=>tb λx4 bx4=>tb λr5 br5=>tv (gp.ia (k:=.i64) bx3)<|tv (mX x3)<|tx DN<|tx (kY x3)<|tv (gp.ia (k:=.i64) bx4)<|tv (mX x4)<|tx DN<|tx (kY x4)<|tv (N1 x3 [])<|tv (N1 x4 [])<|ck (HW R15 hR15 _ br5)<|tF tE<|tE)<|tE
theorem ib(hR15:fo R15):OK 0 (.loop (cA US 119)) (j8 R15 s2 t15 t16 t17) iH fc (dH s2 t15 t16 t17):=HK λ_=>pu _ _ _ _ _ hR15
end
def mC(R15:dB)(s1:waD)(s2:waD):Option Bool:=
 if((s1.length:Int)!=(s2.length:Int))=true then
  some false
 else
  (j8 R15 s2 s1 (s1.length:Int) 0).bind λo7=>match o7 with
  |(.inl o7)=>
   some false
  |(.inr o7)=>
   some true
theorem tX(R15:dB)(hR15:fo R15){s1:waD}{s2:waD}:OV 144 [sl aN s1,sl aN s2,.func (.func 145) [] []] (mC R15 s1 s2) (λr=>.bool r) []:=Wm.v<|
 cb (gp.ln s1)<|cb (gp.ln s2)<|tF tE<|cb (gp.ln s1)<|t2 (λo7 bo7=>cu (ib R15 s2 s1 (s1.length:Int) 0 hR15 _ bo7)<|tE) λo7 bo7=>cu (ib R15 s2 s1 (s1.length:Int) 0 hR15 _ bo7)<|tE
noncomputable def qaS:Code:=f104.body.getD .skip
def X8:List Nat:=[]
theorem ZU:ZF Pg X8 104 f104 qaS:=zf call104 func104 rfl mixed
def DT (R15:dB) (a:am) (a2:am):Option Bool :=
 if (a.Op == a2.Op) = true then
  if (a.Name == a2.Name) = true then
   if (a.N == a2.N) = true then
    (oO R15 a.Kids a2.Kids).bind λr7=>
    if r7=true then
     (cV a.Types a2.Types).bind λr10=>
     if r10=true then
      (mA a.Params a2.Params).bind λr13=>
      if r13=true then
       (mC R15 a.Alts a2.Alts).bind λr16=>
       some r16
      else
       some false
     else
      some false
    else
     some false
   else
    some false
  else
   some false
 else
  some false
theorem I9(R15:dB)(hR15:fo R15){a:am}{a2:am}:OV 104 [.agg (aj a),.agg (aj a2)] (DT R15 a a2) (λr=>.bool r) []:=ZU.v<|
 te (cO a)<|te (cO a2)<|have pp2:=λ{X Y Z} (r:PV _ X Y Z)=>tw (bu a)<|tw (bu a2)<|r;tf (λc1=>have pp4:=λ{X Y Z} (r:PV _ X Y Z)=>pp2<|tg 6 c1<|tw (bM a)<|tw (bM a2)<|r;tf (λc3=>have pp6:=λ{X Y Z} (r:PV _ X Y Z)=>pp4<|tg 13 c3<|tw (cq a)<|tw (cq a2)<|r;tf (λc5=>tb λr7 br7=>have pp9:=λ{X Y Z} (r:PV _ X Y Z)=>pp6<|tg 20 c5<|tw (az a)<|tw (az a2)<|ck (xc R15 hR15 _ br7)<|r;tf (λc8=>tb λr10 br10=>have pp12:=λ{X Y Z} (r:PV _ X Y Z)=>pp9<|tg 27 c8<|tw (av a)<|tw (av a2)<|ck (fe _ br10)<|r;tf (λc11=>tb λr13 br13=>have pp15:=λ{X Y Z} (r:PV _ X Y Z)=>pp12<|tg 34 c11<|tw (aW a)<|tw (aW a2)<|ck (tW _ br13)<|r;tf (λc14=>tb λr16 br16=>pp15<|tg 41 c14<|tw (aE a)<|tw (aE a2)<|ck (tX R15 hR15 _ br16)<|tE) λc14=>pp15<|tg 41 c14<|tE) λc11=>pp12<|tg 34 c11<|tE) λc8=>pp9<|tg 27 c8<|tE) λc5=>pp6<|tg 20 c5<|tE) λc3=>pp4<|tg 13 c3<|tE) λc1=>pp2<|tg 6 c1<|tE
def DU:((am×am)->Option Bool)->(am×am)->Option Bool:=λ(rec:(am×am)->Option Bool) (x:am×am)=>DT (λa a2=>rec (a,a2)) x.1 x.2
def B9(a:am)(a2:am):Option Bool:=Bq DU (a,a2)
theorem Ca{a:am}{a2:am}:OV 104 [.agg (aj a),.agg (aj a2)] (B9 a a2) (λr=>.bool r) []:=N5 λ_ h=>
 fg (F:=DU) (M:=λ(x:am×am) (r:Bool)=>CC Pg GE 104 [.agg (aj x.1),.agg (aj x.2)] (.bool r) []) (λrec hrec x r h=>I9 _ (λa a2=>N5 λr h=>hrec (a,a2) r h) _ h) h
noncomputable def UX:Code:=f188.body.getD .skip
def YM:List Nat:=[23]
theorem Wv:ZF Pg YM 188 f188 UX:=zf call188 func188 rfl mixed
section
variable(s:ac)(i:Int)
def tn:ay:=aM 24 [(0,.str s),(5,.int .i64 i)] [] []
def BA(o:(ac×ac)⊕(Unit)):Exit:=match o with
 |(.inl _)=>.ret
 |(.inr _)=>.exit 0
def BB(o:(ac×ac)⊕(Unit)):ay:=match o with
 |(.inl o)=>aM 24 [(2,.str o.1),(3,.str o.2),(4,.bool true)] [] []
 |(.inr o)=>aM 24 [(0,.str s)] [] []
def Bz:Option (Int⊕((ac×ac)⊕(Unit))):=
 if decide (i<(s.length:Int))=true then
  (uD s i).bind λc2=>
  if(c2==46)=true then
   (RF s none (some i)).bind λs4=>
   (RF s (some (fh (i+1))) none).bind λs5=>
   some (.inr (.inl (s4,s5)))
  else
   some (.inl (fh (i+1)))
 else
  some (.inr (.inr ()))
def FK:Option ((ac×ac)⊕(Unit)):=loop (λ(zz:Int)=>Bz s zz) i
theorem HB:OL 0 (cA UX 55) (Bz s i) (λ(zz:Int)=>tn s zz) BA (BB s) (tn s i):=Wv.l<|
 cb (wr underlying9 s)<|tF (tb λc2 bc2=>tv (nx (k:=.i64) underlying9 bc2)<|tF (tb λs4 bs4=>tb λs5 bs5=>S2 [0,0,3,0,0,16,56,7,255,511]<|tv (Ur underlying9 bs4)<|tv (Ur underlying9 bs5)<|tE)<|tE)<|tE
theorem zS:OK 0 (.loop (cA UX 55)) (FK s i) BA (BB s) (tn s i):=HK λ_=>HB _ _
end
def HA(s:ac):Option (ac×ac×Bool):=
 (FK s 0).bind λo6=>match o6 with
 |(.inl o6)=>
  some (o6.1,o6.2,true)
 |(.inr o6)=>
  some (s,([]:ac),false)
theorem FL{s:ac}:OV 188 [.str s] (HA s) (λr=>.tuple [.str r.1,.str r.2.1,.bool r.2.2]) []:=Wv.v<|
 t2 (λo6 bo6=>cu (zS s 0 _ bo6)<|tE) λo6 bo6=>cu (zS s 0 _ bo6)<|tE
noncomputable def qbg:Code:=f191.body.getD .skip
def YP:List Nat:=[]
theorem qai:ZF Pg YP 191 f191 qbg:=zf call191 func191 rfl mixed
def vV(s:ac):Option Bool:=
 if decide ((s.length:Int)>=1)=true then
  some (decide ((s.length:Int)<=24))
 else
  some false
theorem gN{s:ac}:OV 191 [.str s] (vV s) (λr=>.bool r) []:=qai.v<|
 tf (λc1=>cb (wr underlying9 s)<|tg 4 c1<|cb (wr underlying9 s)<|tE) λc1=>cb (wr underlying9 s)<|tg 4 c1<|tE
noncomputable def qbr:Code:=f232.body.getD .skip
def Za:List Nat:=[]
theorem qar:ZF Pg Za 232 f232 qbr:=zf call232 func232 rfl mixed
def pV(c:Int):Option Bool:=
 if decide (97<=c)=true then
  some (decide (c<=122))
 else
  some false
theorem mZ{c:Int}:OV 232 [.int .u8 c] (pV c) (λr=>.bool r) []:=qar.v<|
 tf (λc1=>tg 3 c1<|tE) λc1=>tg 3 c1<|tE
noncomputable def U1:Code:=f233.body.getD .skip
def Zb:List Nat:=[]
theorem Wz:ZF Pg Zb 233 f233 U1:=zf call233 func233 rfl mixed
section
variable(s:ac)(t6:Int)
def mb:ay:=aM 13 [(0,.str s),(5,.agg (fx.map PVal.str)),(6,.int .i64 t6)] [] []
def th(o:Unit⊕(Unit)):Exit:=match o with
 |(.inl _)=>.ret
 |(.inr _)=>.exit 0
def tj(o:Unit⊕(Unit)):ay:=match o with
 |(.inl o)=>aM 13 [(2,.bool true)] [] []
 |(.inr o)=>aM 13 [] [] []
def td:Option (Int⊕(Unit⊕(Unit))):=
 if decide (t6<42)=true then
  (dw fx t6).bind λx2=>
  if(x2==s)=true then
   some (.inr (.inl ()))
  else
   some (.inl (fh (t6+1)))
 else
  some (.inr (.inr ()))
def xv:Option (Unit⊕(Unit)):=loop (λ(zz:Int)=>td s zz) t6
theorem Bx:OL 0 (cA U1 55) (td s t6) (λ(zz:Int)=>mb s zz) th tj (mb s t6):=Wz.l<|
 tF (tb λx2 bx2=>tv (FM (k:=.i64) bx2)<|tF tE<|tE)<|tE
theorem rm:OK 0 (.loop (cA U1 55)) (xv s t6) th tj (mb s t6):=HK λ_=>Bx _ _
end
def Dx(s:ac):Option Bool:=
 (xv s 0).bind λo4=>match o4 with
 |(.inl o4)=>
  some true
 |(.inr o4)=>
  some false
theorem Hz{s:ac}:OV 233 [.str s] (Dx s) (λr=>.bool r) []:=Wz.v<|
 tv FO<|t2 (λo4 bo4=>cu (rm s 0 _ bo4)<|tE) λo4 bo4=>cu (rm s 0 _ bo4)<|tE
noncomputable def qbs:Code:=f234.body.getD .skip
def Zc:List Nat:=[]
theorem qas:ZF Pg Zc 234 f234 qbs:=zf call234 func234 rfl mixed
def vU(c:Int):Option Bool:=
 if decide (48<=c)=true then
  some (decide (c<=57))
 else
  some false
theorem tp{c:Int}:OV 234 [.int .u8 c] (vU c) (λr=>.bool r) []:=qas.v<|
 tf (λc1=>tg 3 c1<|tE) λc1=>tg 3 c1<|tE
noncomputable def RU:Code:=f189.body.getD .skip
def YN:List Nat:=[]
theorem S6:ZF Pg YN 189 f189 RU:=zf call189 func189 rfl mixed
section
variable(s:ac)
def Dy:Option Bool:=
 (vV s).bind λr1=>
 if(!r1)=true then
  some true
 else
  (uD s 0).bind λc3=>
  (pV c3).bind λr4=>
  if(!r4)=true then
   some true
  else
   (Dx s).bind λr7=>
   some r7
theorem HC:OJ 0 (cA RU 12) (Dy s) .normal (λo=>aM 41 [(0,.str s),(16,.bool o)] [] []) (aM 41 [(0,.str s)] [] []):=S6.j<|
 tb λr1 br1=>tf (λc2=>ck (gN _ br1)<|tg 4 c2<|tE) λc2=>tb λc3 bc3=>tb λr4 br4=>have pp6:=λ{X Y Z} (r:PV _ X Y Z)=>ck (gN _ br1)<|tg 4 c2<|tv (nx (k:=.i64) underlying9 bc3)<|ck (mZ _ br4)<|r;tf (λc5=>pp6<|tg 10 c5<|tE) λc5=>tb λr7 br7=>pp6<|tg 10 c5<|ck (Hz _ br7)<|tE
end
section
variable(s:ac)(i:Int)
def Dz:Option Bool:=
 (uD s i).bind λc11=>
 (pV c11).bind λr12=>
 if(!r12)=true then
  (uD s i).bind λc15=>
  (vU c15).bind λr16=>
  if(!r16)=true then
   (uD s i).bind λc19=>
   some (c19 !=95)
  else
   some false
 else
  some false
theorem HD:OJ 0 (cA RU 1914) (Dz s i) .normal (λo=>aM 41 [(0,.str s),(3,.int .i64 i),(40,.bool o)] [] []) (aM 41 [(0,.str s),(3,.int .i64 i)] [] []):=S6.j<|
 tb λc11 bc11=>tb λr12 br12=>have pp14:=λ{X Y Z} (r:PV _ X Y Z)=>tv (nx (k:=.i64) underlying9 bc11)<|ck (mZ _ br12)<|r;tf (λc13=>tb λc15 bc15=>tb λr16 br16=>have pp18:=λ{X Y Z} (r:PV _ X Y Z)=>pp14<|tg 6 c13<|tv (nx (k:=.i64) underlying9 bc15)<|ck (tp _ br16)<|r;tf (λc17=>tb λc19 bc19=>pp18<|tg 13 c17<|tv (nx (k:=.i64) underlying9 bc19)<|tE) λc17=>pp18<|tg 13 c17<|tE) λc13=>pp14<|tg 6 c13<|tE
end
section
variable(s:ac)(i:Int)
def qr:ay:=aM 41 [(0,.str s),(3,.int .i64 i)] [] []
def zU(o:Unit⊕(Unit)):Exit:=match o with
 |(.inl _)=>.ret
 |(.inr _)=>.exit 0
def zV(o:Unit⊕(Unit)):ay:=match o with
 |(.inl o)=>aM 41 [(2,.bool false)] [] []
 |(.inr o)=>aM 41 [] [] []
def zT:Option (Int⊕(Unit⊕(Unit))):=
 if decide (i<(s.length:Int))=true then
  (Dz s i).bind λo20=>
  if o20=true then
   some (.inr (.inl ()))
  else
   some (.inl (fh (i+1)))
 else
  some (.inr (.inr ()))
def DA:Option (Unit⊕(Unit)):=loop (λ(zz:Int)=>zT s zz) i
theorem FP:OL 0 (cA RU 119) (zT s i) (λ(zz:Int)=>qr s zz) zU zV (qr s i):=S6.l<|
 cb (wr underlying9 s)<|tF (tb λo20 bo20=>gz 1<|cu (HD s i _ bo20)<|tF tE<|tE)<|tE
theorem xx:OK 0 (.loop (cA RU 119)) (DA s i) zU zV (qr s i):=HK λ_=>FP _ _
end
def J8(s:ac):Option Bool:=
 (Dy s).bind λo8=>
 if o8=true then
  some false
 else
  (DA s 1).bind λo22=>match o22 with
  |(.inl o22)=>
   some false
  |(.inr o22)=>
   some true
theorem DB{s:ac}:OV 189 [.str s] (J8 s) (λr=>.bool r) []:=S6.v<|
 tb λo8 bo8=>gz 2<|cu (HC s _ bo8)<|tF tE<|t2 (λo22 bo22=>cu (xx s 1 _ bo22)<|tE) λo22 bo22=>cu (xx s 1 _ bo22)<|tE
noncomputable def qbt:Code:=f235.body.getD .skip
def Zd:List Nat:=[]
theorem qat:ZF Pg Zd 235 f235 qbt:=zf call235 func235 rfl mixed
def wJ(c:Int):Option Bool:=
 if decide (65<=c)=true then
  some (decide (c<=90))
 else
  some false
theorem xw{c:Int}:OV 235 [.int .u8 c] (wJ c) (λr=>.bool r) []:=qat.v<|
 tf (λc1=>tg 3 c1<|tE) λc1=>tg 3 c1<|tE
noncomputable def Tg:Code:=f192.body.getD .skip
def YQ:List Nat:=[]
theorem UH:ZF Pg YQ 192 f192 Tg:=zf call192 func192 rfl mixed
section
variable(s:ac)(i:Int)
def nZ:Option Bool:=
 (uD s i).bind λc2=>
 (pV c2).bind λr3=>
 if(!r3)=true then
  (uD s i).bind λc6=>
  (wJ c6).bind λr7=>
  if(!r7)=true then
   (uD s i).bind λc10=>
   (vU c10).bind λr11=>
   some (!r11)
  else
   some false
 else
  some false
theorem wI:OJ 0 (cA Tg 890) (nZ s i) .normal (λo=>aM 29 [(0,.str s),(3,.int .i64 i),(28,.bool o)] [] []) (aM 29 [(0,.str s),(3,.int .i64 i)] [] []):=UH.j<|
 tb λc2 bc2=>tb λr3 br3=>have pp5:=λ{X Y Z} (r:PV _ X Y Z)=>tv (nx (k:=.i64) underlying9 bc2)<|ck (mZ _ br3)<|r;tf (λc4=>tb λc6 bc6=>tb λr7 br7=>have pp9:=λ{X Y Z} (r:PV _ X Y Z)=>pp5<|tg 6 c4<|tv (nx (k:=.i64) underlying9 bc6)<|ck (xw _ br7)<|r;tf (λc8=>tb λc10 bc10=>tb λr11 br11=>pp9<|tg 13 c8<|tv (nx (k:=.i64) underlying9 bc10)<|ck (tp _ br11)<|tE) λc8=>pp9<|tg 13 c8<|tE) λc4=>pp5<|tg 6 c4<|tE
end
section
variable(s:ac)(i:Int)
def gM:ay:=aM 29 [(0,.str s),(3,.int .i64 i)] [] []
def mo(o:Unit⊕(Unit)):Exit:=match o with
 |(.inl _)=>.ret
 |(.inr _)=>.exit 0
def mq(o:Unit⊕(Unit)):ay:=match o with
 |(.inl o)=>aM 29 [(2,.bool false)] [] []
 |(.inr o)=>aM 29 [] [] []
def mn:Option (Int⊕(Unit⊕(Unit))):=
 if decide (i<(s.length:Int))=true then
  (nZ s i).bind λo12=>
  if o12=true then
   some (.inr (.inl ()))
  else
   some (.inl (fh (i+1)))
 else
  some (.inr (.inr ()))
def n7:Option (Unit⊕(Unit)):=loop (λ(zz:Int)=>mn s zz) i
theorem uE:OL 0 (cA Tg 55) (mn s i) (λ(zz:Int)=>gM s zz) mo mq (gM s i):=UH.l<|
 cb (wr underlying9 s)<|tF (tb λo12 bo12=>gz 1<|cu (wI s i _ bo12)<|tF tE<|tE)<|tE
theorem kW:OK 0 (.loop (cA Tg 55)) (n7 s i) mo mq (gM s i):=HK λ_=>uE _ _
end
def mc(s:ac):Option Bool:=
 (n7 s 0).bind λo14=>match o14 with
 |(.inl o14)=>
  some false
 |(.inr o14)=>
  some true
theorem n8{s:ac}:OV 192 [.str s] (mc s) (λr=>.bool r) []:=UH.v<|
 t2 (λo14 bo14=>cu (kW s 0 _ bo14)<|tE) λo14 bo14=>cu (kW s 0 _ bo14)<|tE
noncomputable def WT:Code:=f190.body.getD .skip
def YO:List Nat:=[]
theorem Ww:ZF Pg YO 190 f190 WT:=zf call190 func190 rfl mixed
section
variable(s:ac)
def BC:Option Bool:=
 (vV s).bind λr1=>
 if(!r1)=true then
  some true
 else
  (uD s 0).bind λc3=>
  (wJ c3).bind λr4=>
  if(!r4)=true then
   some true
  else
   (mc s).bind λr7=>
   some (!r7)
theorem FQ:OJ 0 (cA WT 12) (BC s) .normal (λo=>aM 31 [(0,.str s),(16,.bool o)] [] []) (aM 31 [(0,.str s)] [] []):=Ww.j<|
 tb λr1 br1=>tf (λc2=>ck (gN _ br1)<|tg 4 c2<|tE) λc2=>tb λc3 bc3=>tb λr4 br4=>have pp6:=λ{X Y Z} (r:PV _ X Y Z)=>ck (gN _ br1)<|tg 4 c2<|tv (nx (k:=.i64) underlying9 bc3)<|ck (xw _ br4)<|r;tf (λc5=>pp6<|tg 10 c5<|tE) λc5=>tb λr7 br7=>pp6<|tg 10 c5<|ck (n8 _ br7)<|tE
end
def Ij(s:ac):Option Bool:=
 (BC s).bind λo8=>
 if o8=true then
  some false
 else if(!(s==([73,110,116]:ac)))=true then
  if(!(s==([66,111,111,108]:ac)))=true then
   if(!(s==([67,101,108,108]:ac)))=true then
    some (!(s==([70,117,110]:ac)))
   else
    some false
  else
   some false
 else
  some false
theorem J9{s:ac}:OV 190 [.str s] (Ij s) (λr=>.bool r) []:=Ww.v<|
 tb λo8 bo8=>gz 2<|cu (FQ s _ bo8)<|tF tE<|tf (λc10=>tf (λc11=>have pp13:=λ{X Y Z} (r:PV _ X Y Z)=>tg 3 c10<|tg 7 c11<|r;tf (λc12=>pp13<|tg 11 c12<|tE) λc12=>pp13<|tg 11 c12<|tE) λc11=>tg 3 c10<|tg 7 c11<|tE) λc10=>tg 3 c10<|tE
noncomputable def Th:Code:=f193.body.getD .skip
def YR:List Nat:=[]
theorem UI:ZF Pg YR 193 f193 Th:=zf call193 func193 rfl mixed
section
variable(s:ac)(i:Int)
def DC:Option Bool:=
 (uD s i).bind λc2=>
 (pV c2).bind λr3=>
 if (!r3) = true then
  if(i==0)=true then
   some true
  else
   (uD s i).bind λc8=>
   (vU c8).bind λr9=>
   if(!r9)=true then
    (uD s i).bind λc12=>
    some (c12 !=95)
   else
    some false
 else
  some false
theorem HE:OJ 0 (cA Th 890) (DC s i) .normal (λo=>aM 32 [(0,.str s),(3,.int .i64 i),(31,.bool o)] [] []) (aM 32 [(0,.str s),(3,.int .i64 i)] [] []):=UI.j<|
 tb λc2 bc2=>tb λr3 br3=>have pp5:=λ{X Y Z} (r:PV _ X Y Z)=>tv (nx (k:=.i64) underlying9 bc2)<|ck (mZ _ br3)<|r;tf (λc4=>have pp7:=λ{X Y Z} (r:PV _ X Y Z)=>pp5<|tg 6 c4<|r;tf (λc6=>pp7<|tg 9 c6<|tE) λc6=>tb λc8 bc8=>tb λr9 br9=>have pp11:=λ{X Y Z} (r:PV _ X Y Z)=>pp7<|tg 9 c6<|tv (nx (k:=.i64) underlying9 bc8)<|ck (tp _ br9)<|r;tf (λc10=>tb λc12 bc12=>pp11<|tg 15 c10<|tv (nx (k:=.i64) underlying9 bc12)<|tE) λc10=>pp11<|tg 15 c10<|tE) λc4=>pp5<|tg 6 c4<|tE
end
section
variable(s:ac)(i:Int)
def qt:ay:=aM 32 [(0,.str s),(3,.int .i64 i)] [] []
def zX(o:Unit⊕(Unit)):Exit:=match o with
 |(.inl _)=>.ret
 |(.inr _)=>.exit 0
def zY(o:Unit⊕(Unit)):ay:=match o with
 |(.inl o)=>aM 32 [(2,.bool false)] [] []
 |(.inr o)=>aM 32 [] [] []
def zW:Option (Int⊕(Unit⊕(Unit))):=
 if decide (i<(s.length:Int))=true then
  (DC s i).bind λo13=>
  if o13=true then
   some (.inr (.inl ()))
  else
   some (.inl (fh (i+1)))
 else
  some (.inr (.inr ()))
def DD:Option (Unit⊕(Unit)):=loop (λ(zz:Int)=>zW s zz) i
theorem FT:OL 0 (cA Th 55) (zW s i) (λ(zz:Int)=>qt s zz) zX zY (qt s i):=UI.l<|
 cb (wr underlying9 s)<|tF (tb λo13 bo13=>gz 1<|cu (HE s i _ bo13)<|tF tE<|tE)<|tE
theorem xy:OK 0 (.loop (cA Th 55)) (DD s i) zX zY (qt s i):=HK λ_=>FT _ _
end
def Ka(s:ac):Option Bool:=
 (DD s 0).bind λo15=>match o15 with
 |(.inl o15)=>
  some false
 |(.inr o15)=>
  some true
theorem Lr{s:ac}:OV 193 [.str s] (Ka s) (λr=>.bool r) []:=UI.v<|
 t2 (λo15 bo15=>cu (xy s 0 _ bo15)<|tE) λo15 bo15=>cu (xy s 0 _ bo15)<|tE
noncomputable def RT:Code:=f147.body.getD .skip
def Yq:List Nat:=[]
theorem S5:ZF Pg Yq 147 f147 RT:=zf call147 func147 rfl mixed
section
variable(first:ac)(rest:ac)(more:Bool)
def Du:Option Bool:=
 (J8 first).bind λr3=>
 if (!r3) = true then
  (Ij first).bind λr5=>
  if(!r5)=true then
   if(!(first==([118]:ac)))=true then
    some true
   else
    some (!more)
  else
   some false
 else
  some false
theorem Hx:OJ 0 (cA RT 60) (Du first more) .normal (λo=>aM 52 [(4,.str rest),(5,.bool more),(31,.bool o)] [] []) (aM 52 [(3,.str first),(4,.str rest),(5,.bool more)] [] []):=S5.j<|
 tb λr3 br3=>tf (λc4=>tb λr5 br5=>have pp7:=λ{X Y Z} (r:PV _ X Y Z)=>ck (DB _ br3)<|tg 4 c4<|ck (J9 _ br5)<|r;tf (λc6=>have pp9:=λ{X Y Z} (r:PV _ X Y Z)=>pp7<|tg 9 c6<|r;tf (λc8=>pp9<|tg 12 c8<|tE) λc8=>pp9<|tg 12 c8<|tE) λc6=>pp7<|tg 9 c6<|tE) λc4=>ck (DB _ br3)<|tg 4 c4<|tE
end
section
variable(rest:ac)(more:Bool)(part:ac)
def Dv:Option Bool:=
 (vV part).bind λr14=>
 if(!r14)=true then
  some true
 else
  (mc part).bind λr16=>
  if(!r16)=true then
   (Ka part).bind λr19=>
   some (!r19)
  else
   some false
theorem Hy:OJ 0 (cA RT 8062) (Dv part) .normal (λo=>aM 52 [(4,.str rest),(5,.bool more),(51,.bool o)] [] []) (aM 52 [(4,.str rest),(5,.bool more),(6,.str part)] [] []):=S5.j<|
 tb λr14 br14=>tf (λc15=>ck (gN _ br14)<|tg 4 c15<|tE) λc15=>tb λr16 br16=>have pp18:=λ{X Y Z} (r:PV _ X Y Z)=>ck (gN _ br14)<|tg 4 c15<|ck (n8 _ br16)<|r;tf (λc17=>tb λr19 br19=>pp18<|tg 8 c17<|ck (Lr _ br19)<|tE) λc17=>pp18<|tg 8 c17<|tE
end
section
variable(rest:ac)(more:Bool)
def qq:ay:=aM 52 [(4,.str rest),(5,.bool more)] [] []
def zQ(o:Unit⊕(Unit)):Exit:=match o with
 |(.inl _)=>.ret
 |(.inr _)=>.exit 0
def zR(o:Unit⊕(Unit)):ay:=match o with
 |(.inl o)=>aM 52 [(2,.int .i64 3)] [] []
 |(.inr o)=>aM 52 [] [] []
def zP:Option ((ac×Bool)⊕(Unit⊕(Unit))):=
 if more=true then
  (HA rest).bind λr13=>
  (Dv r13.1).bind λo20=>
  if o20=true then
   some (.inr (.inl ()))
  else
   some (.inl (r13.2.1,r13.2.2))
 else
  some (.inr (.inr ()))
def Dw:Option (Unit⊕(Unit)):=loop (λ(zz:ac×Bool)=>zP zz.1 zz.2) (rest,more)
theorem FI:OL 0 (cA RT 251) (zP rest more) (λ(zz:ac×Bool)=>qq zz.1 zz.2) zQ zR (qq rest more):=S5.l<|
 tF (tb λr13 br13=>tb λo20 bo20=>ck (FL _ br13)<|gz 0<|cu (Hy r13.2.1 r13.2.2 r13.1 _ bo20)<|tF tE<|tE)<|tE
theorem xu:OK 0 (.loop (cA RT 251)) (Dw rest more) zQ zR (qq rest more):=HK λ_=>FI _ _
end
def lZ(s:ac):Option Int:=
 if decide ((s.length:Int)>120)=true then
  some 3
 else
  (HA s).bind λr2=>
  (Du r2.1 r2.2.2).bind λo10=>
  if o10=true then
   some 3
  else
   (Dw r2.2.1 r2.2.2).bind λo22=>match o22 with
   |(.inl o22)=>
    some 3
   |(.inr o22)=>
    some 0
theorem fq{s:ac}:OV 147 [.str s] (lZ s) (λr=>.int .i64 r) []:=S5.v<|
 cb (wr underlying9 s)<|tF tE<|tb λr2 br2=>tb λo10 bo10=>ck (FL _ br2)<|gz 1<|cu (Hx r2.1 r2.2.1 r2.2.2 _ bo10)<|tF tE<|t2 (λo22 bo22=>cu (xu r2.2.1 r2.2.2 _ bo22)<|tE) λo22 bo22=>cu (xu r2.2.1 r2.2.2 _ bo22)<|tE
noncomputable def qa3:Code:=f148.body.getD .skip
def Yr:List Nat:=[]
theorem Z5:ZF Pg Yr 148 f148 qa3:=zf call148 func148 rfl mixed
def wM(s:ac):Option Bool:=
 (uD s 0).bind λc1=>
 if decide (c1>=65)=true then
  (uD s 0).bind λc3=>
  some (decide (c3<=90))
 else
  some false
theorem xG{s:ac}:OV 148 [.str s] (wM s) (λr=>.bool r) []:=Z5.v<|
 tb λc1 bc1=>tf (λc2=>tb λc3 bc3=>tv (nx (k:=.i64) underlying9 bc1)<|tg 4 c2<|tv (nx (k:=.i64) underlying9 bc3)<|tE) λc2=>tv (nx (k:=.i64) underlying9 bc1)<|tg 4 c2<|tE
noncomputable def WM:Code:=f105.body.getD .skip
def X9:List Nat:=[]
theorem Wh:ZF Pg X9 105 f105 WM:=zf call105 func105 rfl mixed
section
variable(s:ac)(m:(List Int))(m2:Bool)
def p7:Option Bool:=
 (lZ s).bind λr1=>
 if(r1 !=0)=true then
  some true
 else
  (wM s).bind λr3=>
  some r3
theorem xL:OJ 1 (cA WM 4) (p7 s) .normal (λo=>aM 18 [(0,.bptr 0 0),(1,.str s),(10,.bool o)] [.cells [.nptr 0 132,sl (cI .u8) m,.bool m2] [(1,5)]] []) (aM 18 [(0,.bptr 0 0),(1,.str s)] [.cells [.nptr 0 132,sl (cI .u8) m,.bool m2] [(1,5)]] []):=Wh.j<|
 tb λr1 br1=>tf (λc2=>ck (fq _ br1)<|tg 4 c2<|tE) λc2=>tb λr3 br3=>ck (fq _ br1)<|tg 4 c2<|ck (xG _ br3)<|tE
end
def bY(s:ac)(k0:(List Int))(k02:Bool):Option (Bool×(List Int)):=
 (p7 s).bind λo4=>
 if o4=true then
  some (true,k0)
 else
  (af ([s]:List ac) k0 k02).bind λr6=>
  some (k02,r6)
theorem bI{s:ac}{k0:(List Int)}{k02:Bool}:OG 105 [.bptr 0 0,.str s] [] [.cells [.nptr 0 132,sl (cI .u8) k0,.bool k02] [(1,5)]] (bY s k0 k02) (λr=>.tuple []) [] (λr=>[.cells [.nptr 0 132,sl (cI .u8) r.2,.bool r.1] [(1,5)]]):=Wh.g 1<|
 tb λo4 bo4=>gz 1<|cu (xL s k0 k02 _ bo4)<|tF (ts<|tE)<|tb λr6 br6=>tv (bK [s] 1 rfl)<|tc [0] (ae _ br6)<|tE
noncomputable def qa4:Code:=f150.body.getD .skip
def Yt:List Nat:=[]
theorem Z6:ZF Pg Yt 150 f150 qa4:=zf call150 func150 rfl mixed
def p8(i:Int)(a:waA)(k1:(List Int))(k12:Bool):Option ((List Int)×Bool):=
 (dw a i).bind λx1=>
 (bY x1 k1 k12).bind λr2=>
 some (r2.2,r2.1)
theorem xO{i:Int}{a:waA}{k1:(List Int)}{k12:Bool}:OG 150 [.int .i64 i,.bptr 0 0,.eptr ((cL cS) a)] [] [.cells [.bptr 1 0] [],.cells [.nptr 1 132,sl (cI .u8) k1,.bool k12] [(1,5)]] (p8 i a k1 k12) (λr=>.tuple []) [] (λr=>[.cells [.bptr 1 0] [],.cells [.nptr 1 132,sl (cI .u8) r.1,.bool r.2] [(1,5)]]):=Z6.g 2<|
 tb λx1 bx1=>tb λr2 br2=>tk<|Av (.dx [0,0,0,6,14] [] [] [])<|ts<|tv (cH VH (sl cS a) [])<|tv (cz.ia (k:=.i64) bx1)<|tv (cH Iw (.str x1) [])<|tc [1] (bI _ br2)<|tE
noncomputable def nQ:Code:=f149.body.getD .skip
def Ys:List Nat:=[10]
theorem oV:ZF Pg Ys 149 f149 nQ:=zf call149 func149 rfl mixed
section
variable(v:waA)(i:Int)(t7:Int)(m:(List Int))(m2:Bool)
def ng:Option (((List Int))):=
 if decide (i>0)=true then
  (af ([ee]:List ac) m m2).bind λr3=>
  some r3
 else
  some m
theorem uH:OJ 2 (cA nQ 1014) (ng i m m2) .normal (λo=>aM 20 [(0,.bptr 0 0),(2,.func (.func 150) [] [.bptr 1 0,.eptr ((cL cS) v)]),(6,.int .i64 i),(7,.int .i64 t7),(8,.int .i64 i)] [.cells [.nptr 0 132,sl (cI .u8) o,.bool m2] [(1,5)],.cells [.bptr 0 0] []] []) (aM 20 [(0,.bptr 0 0),(2,.func (.func 150) [] [.bptr 1 0,.eptr ((cL cS) v)]),(6,.int .i64 i),(7,.int .i64 t7),(8,.int .i64 i)] [.cells [.nptr 0 132,sl (cI .u8) m,.bool m2] [(1,5)],.cells [.bptr 0 0] []] []):=oV.j<|
 tF (tb λr3 br3=>tv (bK [ee] 1 rfl)<|tc [0] (ae _ br3)<|tE)<|tE
end
section
variable(v:waA)(t7:Int)(t8:Int)(m:(List Int))(m2:Bool)
def gm:ay:=aM 20 [(0,.bptr 0 0),(2,.func (.func 150) [] [.bptr 1 0,.eptr ((cL cS) v)]),(7,.int .i64 t7),(8,.int .i64 t8)] [.cells [.nptr 0 132,sl (cI .u8) m,.bool m2] [(1,5)],.cells [.bptr 0 0] []] []
def ly(o:(List Int)×Bool):ay:=aM 20 [] [.cells [.nptr 0 132,sl (cI .u8) o.1,.bool o.2] [(1,5)],.cells [.bptr 0 0] []] []
def lw:Option ((Int×(List Int)×Bool)⊕(((List Int)×Bool))):=
 if decide (t8<t7)=true then
  (ng t8 m m2).bind λo4=>
  (p8 t8 v o4 m2).bind λr5=>
  some (.inl (fh (t8+1),r5.1,r5.2))
 else
  some (.inr (m,m2))
def nh:Option (((List Int)×Bool)):=loop (λ(zz:Int×(List Int)×Bool)=>lw v t7 zz.1 zz.2.1 zz.2.2) (t8,m,m2)
theorem tI:OL 2 (cA nQ 15) (lw v t7 t8 m m2) (λ(zz:Int×(List Int)×Bool)=>gm v t7 zz.1 zz.2.1 zz.2.2) (λ_=>.exit 0) ly (gm v t7 t8 m m2):=oV.l<|
 tF (tb λo4 bo4=>tb λr5 br5=>gz 2<|cu (uH v t8 t7 m m2 _ bo4)<|tc [1,0] (xO _ br5)<|tE)<|tE
theorem uI:OJ 2 (.loop (cA nQ 15)) (nh v t7 t8 m m2) (.exit 0) ly (gm v t7 t8 m m2):=sQ λ_=>tI _ _ _ _ _
end
def rp(n:Int)(c:waA)(k0:(List Int))(k02:Bool):Option ((List Int)×Bool):=
 (nh c n 0 k0 k02).bind λo6=>
 some (o6.1,o6.2)
theorem y8{n:Int}{c:waA}{k0:(List Int)}{k02:Bool}:OG 149 [.bptr 0 0,.int .i64 n,.func (.func 150) [] [.bptr 1 0,.eptr ((cL cS) c)]] [] [.cells [.nptr 0 132,sl (cI .u8) k0,.bool k02] [(1,5)],.cells [.bptr 0 0] []] (rp n c k0 k02) (λr=>.tuple []) [] (λr=>[.cells [.nptr 0 132,sl (cI .u8) r.1,.bool r.2] [(1,5)],.cells [.bptr 0 0] []]):=oV.g 2<|
 tb λo6 bo6=>cu (uI c n 0 k0 k02 _ bo6)<|tE
noncomputable def qaT:Code:=f106.body.getD .skip
def Ya:List Nat:=[]
theorem ZV:ZF Pg Ya 106 f106 qaT:=zf call106 func106 rfl mixed
def mf(a:waA)(k0:(List Int))(k02:Bool):Option ((List Int)×Bool):=
 if((a.length:Int)==0)=true then
  some (k0,k02)
 else
  (af ([G2]:List ac) k0 k02).bind λr2=>
  (rp (a.length:Int) a r2 k02).bind λr3=>
  (af ([mE]:List ac) r3.1 r3.2).bind λr4=>
  some (r4,r3.2)
theorem oB{a:waA}{k0:(List Int)}{k02:Bool}:OG 106 [.bptr 0 0,sl cS a] [] [.cells [.nptr 0 132,sl (cI .u8) k0,.bool k02] [(1,5)]] (mf a k0 k02) (λr=>.tuple []) [] (λr=>[.cells [.nptr 0 132,sl (cI .u8) r.1,.bool r.2] [(1,5)]]):=ZV.g 1<|
 TV (rfl:bO (.bptr 0 0)=some [.bptr 0 0]) rfl<|te (X3 cS a)<|tv (cH VH (sl cS a) [])<|cb (cz.ln a)<|tF tE<|tb λr2 br2=>tb λr3 br3=>tb λr4 br4=>ts<|tv (bK [G2] 1 rfl)<|tc [0] (ae _ br2)<|ts<|tv (cH VH (sl cS a) [])<|cb (cz.ln a)<|tc [0,1] (y8 _ br3)<|ts<|tv (bK [mE] 1 rfl)<|tc [0] (ae _ br4)<|tE
def tL(a:waH)(k0:(List Int))(k02:Bool):Option ((List Int)×Bool):=none
theorem AP{a:waH}{k0:(List Int)}{k02:Bool}:OG 151 [.bptr 0 0,sl bv a] [] [.cells [.nptr 0 132,sl (cI .u8) k0,.bool k02] [(1,5)]] (tL a k0 k02) (λr=>.tuple []) [] (λr=>[.cells [.nptr 0 132,sl (cI .u8) r.1,.bool r.2] [(1,5)]]):=N4 λr h=>by cases(show(none:Option _)=some r from h)
noncomputable def WO:Code:=f153.body.getD .skip
def Yv:List Nat:=[]
theorem Wo:ZF Pg Yv 153 f153 WO:=zf call153 func153 rfl mixed
section
variable(s:ac)(m:(List Int))(m2:Bool)
def qa:Option Bool:=
 if (!(s == SW)) = true then
  if(!(s==PH))=true then
   if(!(s==PI))=true then
    (lZ s).bind λr5=>
    some (r5 !=0)
   else
    some false
  else
   some false
 else
  some false
theorem xV:OJ 1 (cA WO 4) (qa s) .normal (λo=>aM 26 [(0,.bptr 0 0),(1,.str s),(18,.bool o)] [.cells [.nptr 0 132,sl (cI .u8) m,.bool m2] [(1,5)]] []) (aM 26 [(0,.bptr 0 0),(1,.str s)] [.cells [.nptr 0 132,sl (cI .u8) m,.bool m2] [(1,5)]] []):=Wo.j<|
 tf (λc1=>tf (λc2=>have pp4:=λ{X Y Z} (r:PV _ X Y Z)=>tg 3 c1<|tg 7 c2<|r;tf (λc3=>tb λr5 br5=>pp4<|tg 11 c3<|ck (fq _ br5)<|tE) λc3=>pp4<|tg 11 c3<|tE) λc2=>tg 3 c1<|tg 7 c2<|tE) λc1=>tg 3 c1<|tE
end
def ni(s:ac)(k0:(List Int))(k02:Bool):Option (Bool×(List Int)):=
 (qa s).bind λo6=>
 if o6=true then
  some (true,k0)
 else
  (af ([s]:List ac) k0 k02).bind λr8=>
  some (k02,r8)
theorem qb{s:ac}{k0:(List Int)}{k02:Bool}:OG 153 [.bptr 0 0,.str s] [] [.cells [.nptr 0 132,sl (cI .u8) k0,.bool k02] [(1,5)]] (ni s k0 k02) (λr=>.tuple []) [] (λr=>[.cells [.nptr 0 132,sl (cI .u8) r.2,.bool r.1] [(1,5)]]):=Wo.g 1<|
 tb λo6 bo6=>gz 1<|cu (xV s k0 k02 _ bo6)<|tF (ts<|tE)<|tb λr8 br8=>tv (bK [s] 1 rfl)<|tc [0] (ae _ br8)<|tE
noncomputable def qa5:Code:=f152.body.getD .skip
def Yu:List Nat:=[]
theorem Z7:ZF Pg Yu 152 f152 qa5:=zf call152 func152 rfl mixed
def tO(i:Int)(a:fQ)(k1:(List Int))(k12:Bool):Option ((List Int)×Bool):=
 (dw a.Abs i).bind λx1=>
 (bY x1.Name k1 k12).bind λr2=>
 (af ([dA]:List ac) r2.2 r2.1).bind λr3=>
 (dw a.Abs i).bind λx4=>
 (ni x4.Sort_ r3 r2.1).bind λr5=>
 some (r5.2,r5.1)
theorem AR{i:Int}{a:fQ}{k1:(List Int)}{k12:Bool}:OG 152 [.int .i64 i,.bptr 0 0,.eptr (bZ a)] [] [.cells [.bptr 1 0] [],.cells [.nptr 1 132,sl (cI .u8) k1,.bool k12] [(1,5)]] (tO i a k1 k12) (λr=>.tuple []) [] (λr=>[.cells [.bptr 1 0] [],.cells [.nptr 1 132,sl (cI .u8) r.1,.bool r.2] [(1,5)]]):=Z7.g 2<|
 tb λx1 bx1=>tb λr2 br2=>tb λr3 br3=>tb λx4 bx4=>tb λr5 br5=>tk<|Av (.dx [0,0,2,0,14,30,62] [] [] [])<|ts<|tw (ji a)<|tv (TS.ia (k:=.i64) bx1)<|tw (Fy x1)<|tc [1] (bI _ br2)<|ts<|tv (bK [dA] 1 rfl)<|tc [1] (ae _ br3)<|tk<|Av (.dx [0,0,2,0,14,30,62] [] [] [])<|ts<|tw (ji a)<|tv (TS.ia (k:=.i64) bx4)<|tw (C0 x4)<|tc [1] (qb _ br5)<|tE
section
variable(v:fQ)(i:Int)(t7:Int)(m:(List Int))(m2:Bool)
def la:Option (((List Int))):=
 if decide (i>0)=true then
  (af ([ee]:List ac) m m2).bind λr3=>
  some r3
 else
  some m
theorem sj:OJ 2 (cA nQ 1014) (la i m m2) .normal (λo=>aM 20 [(0,.bptr 0 0),(2,.func (.func 152) [] [.bptr 1 0,.eptr (bZ v)]),(6,.int .i64 i),(7,.int .i64 t7),(8,.int .i64 i)] [.cells [.nptr 0 132,sl (cI .u8) o,.bool m2] [(1,5)],.cells [.bptr 0 0] []] []) (aM 20 [(0,.bptr 0 0),(2,.func (.func 152) [] [.bptr 1 0,.eptr (bZ v)]),(6,.int .i64 i),(7,.int .i64 t7),(8,.int .i64 i)] [.cells [.nptr 0 132,sl (cI .u8) m,.bool m2] [(1,5)],.cells [.bptr 0 0] []] []):=oV.j<|
 tF (tb λr3 br3=>tv (bK [ee] 1 rfl)<|tc [0] (ae _ br3)<|tE)<|tE
end
section
variable(v:fQ)(t7:Int)(t8:Int)(m:(List Int))(m2:Bool)
def fC:ay:=aM 20 [(0,.bptr 0 0),(2,.func (.func 152) [] [.bptr 1 0,.eptr (bZ v)]),(7,.int .i64 t7),(8,.int .i64 t8)] [.cells [.nptr 0 132,sl (cI .u8) m,.bool m2] [(1,5)],.cells [.bptr 0 0] []] []
def jR(o:(List Int)×Bool):ay:=aM 20 [] [.cells [.nptr 0 132,sl (cI .u8) o.1,.bool o.2] [(1,5)],.cells [.bptr 0 0] []] []
def jQ:Option ((Int×(List Int)×Bool)⊕(((List Int)×Bool))):=
 if decide (t8<t7)=true then
  (la t8 m m2).bind λo4=>
  (tO t8 v o4 m2).bind λr5=>
  some (.inl (fh (t8+1),r5.1,r5.2))
 else
  some (.inr (m,m2))
def lb:Option (((List Int)×Bool)):=loop (λ(zz:Int×(List Int)×Bool)=>jQ v t7 zz.1 zz.2.1 zz.2.2) (t8,m,m2)
theorem qA:OL 2 (cA nQ 15) (jQ v t7 t8 m m2) (λ(zz:Int×(List Int)×Bool)=>fC v t7 zz.1 zz.2.1 zz.2.2) (λ_=>.exit 0) jR (fC v t7 t8 m m2):=oV.l<|
 tF (tb λo4 bo4=>tb λr5 br5=>gz 2<|cu (sj v t8 t7 m m2 _ bo4)<|tc [1,0] (AR _ br5)<|tE)<|tE
theorem sk:OJ 2 (.loop (cA nQ 15)) (lb v t7 t8 m m2) (.exit 0) jR (fC v t7 t8 m m2):=sQ λ_=>qA _ _ _ _ _
end
def og(n:Int)(c:fQ)(k0:(List Int))(k02:Bool):Option ((List Int)×Bool):=
 (lb c n 0 k0 k02).bind λo6=>
 some (o6.1,o6.2)
theorem wQ{n:Int}{c:fQ}{k0:(List Int)}{k02:Bool}:OG 149 [.bptr 0 0,.int .i64 n,.func (.func 152) [] [.bptr 1 0,.eptr (bZ c)]] [] [.cells [.nptr 0 132,sl (cI .u8) k0,.bool k02] [(1,5)],.cells [.bptr 0 0] []] (og n c k0 k02) (λr=>.tuple []) [] (λr=>[.cells [.nptr 0 132,sl (cI .u8) r.1,.bool r.2] [(1,5)],.cells [.bptr 0 0] []]):=oV.g 2<|
 tb λo6 bo6=>cu (sk c n 0 k0 k02 _ bo6)<|tE
noncomputable def UY:Code:=f195.body.getD .skip
def YS:List Nat:=[]
theorem UJ:ZF Pg YS 195 f195 UY:=zf call195 func195 rfl mixed
section
variable(i:Int)(t1:Bool)(t2:wbA)(m:(List Int))(m2:Bool)
def nk:Option Bool:=
 if t1=true then
  (dw t2 i).bind λx2=>
  some (x2.Name==qcM)
 else
  some false
theorem uK:OJ 2 (cA UY 4) (nk i t1 t2) .normal (λo=>aM 34 [(0,.int .i64 i),(2,.eptr ((cL cW) t2)),(3,.bptr 0 0),(13,.bool o)] [.cells [.bptr 1 0] [],.cells [.nptr 1 132,sl (cI .u8) m,.bool m2] [(1,5)]] []) (aM 34 [(0,.int .i64 i),(1,.eptr (cB t1)),(2,.eptr ((cL cW) t2)),(3,.bptr 0 0)] [.cells [.bptr 1 0] [],.cells [.nptr 1 132,sl (cI .u8) m,.bool m2] [(1,5)]] []):=UJ.j<|
 tf (λc1=>tb λx2 bx2=>tv (cH qdr (.bool t1) [])<|tg 2 c1<|tv (cH Qk (sl cW t2) [])<|tv (Oj.ia (k:=.i64) bx2)<|tw (vM x2)<|tE) λc1=>tv (cH qdr (.bool t1) [])<|tg 2 c1<|tE
end
section
variable(i:Int)(t1:Bool)(t2:wbA)(m:(List Int))(m2:Bool)
def nj:Option (((List Int)×Bool)):=
 (nk i t1 t2).bind λo3=>
 if o3=true then
  (af ([qcM]:List ac) m m2).bind λr5=>
  some (r5,m2)
 else
  (dw t2 i).bind λx6=>
  (bY x6.Name m m2).bind λr7=>
  some (r7.2,r7.1)
theorem uJ:OJ 2 (cA UY 2) (nj i t1 t2 m m2) .normal (λo=>aM 34 [(0,.int .i64 i),(2,.eptr ((cL cW) t2)),(3,.bptr 0 0)] [.cells [.bptr 1 0] [],.cells [.nptr 1 132,sl (cI .u8) o.1,.bool o.2] [(1,5)]] []) (aM 34 [(0,.int .i64 i),(1,.eptr (cB t1)),(2,.eptr ((cL cW) t2)),(3,.bptr 0 0)] [.cells [.bptr 1 0] [],.cells [.nptr 1 132,sl (cI .u8) m,.bool m2] [(1,5)]] []):=UJ.j<|
 tb λo3 bo3=>gz 0<|cu (uK i t1 t2 m m2 _ bo3)<|tF (tb λr5 br5=>ts<|tv (bK [qcM] 1 rfl)<|tc [1] (ae _ br5)<|tE)<|tb λx6 bx6=>tb λr7 br7=>tk<|Av (.dx [0,0,0,6,14,30] [] [] [])<|ts<|tv (cH Qk (sl cW t2) [])<|tv (Oj.ia (k:=.i64) bx6)<|tw (vM x6)<|tc [1] (bI _ br7)<|tE
end
def rJ(i:Int)(a:Bool)(a2:wbA)(k1:(List Int))(k12:Bool):Option ((List Int)×Bool):=
 (nj i a a2 k1 k12).bind λo8=>
 (af ([dA]:List ac) o8.1 o8.2).bind λr9=>
 (dw a2 i).bind λx10=>
 (ni x10.Sort_ r9 o8.2).bind λr11=>
 some (r11.2,r11.1)
theorem zq{i:Int}{a:Bool}{a2:wbA}{k1:(List Int)}{k12:Bool}:OG 195 [.int .i64 i,.eptr (cB a),.eptr ((cL cW) a2),.bptr 0 0] [] [.cells [.bptr 1 0] [],.cells [.nptr 1 132,sl (cI .u8) k1,.bool k12] [(1,5)]] (rJ i a a2 k1 k12) (λr=>.tuple []) [] (λr=>[.cells [.bptr 1 0] [],.cells [.nptr 1 132,sl (cI .u8) r.1,.bool r.2] [(1,5)]]):=UJ.g 2<|
 tb λo8 bo8=>tb λr9 br9=>tb λx10 bx10=>tb λr11 br11=>gz 0<|cu (uJ i a a2 k1 k12 _ bo8)<|ts<|tv (bK [dA] 1 rfl)<|tc [1] (ae _ br9)<|tk<|Av (.dx [0,0,0,6,14,30] [] [] [])<|ts<|tv (cH Qk (sl cW a2) [])<|tv (Oj.ia (k:=.i64) bx10)<|tw (C1 x10)<|tc [1] (qb _ br11)<|tE
section
variable(v:Bool)(v2:wbA)(i:Int)(t7:Int)(m:(List Int))(m2:Bool)
def lc:Option (((List Int))):=
 if decide (i>0)=true then
  (af ([ee]:List ac) m m2).bind λr3=>
  some r3
 else
  some m
theorem sm:OJ 2 (cA nQ 1014) (lc i m m2) .normal (λo=>aM 20 [(0,.bptr 0 0),(2,.func (.func 195) [] [.eptr (cB v),.eptr ((cL cW) v2),.bptr 1 0]),(6,.int .i64 i),(7,.int .i64 t7),(8,.int .i64 i)] [.cells [.nptr 0 132,sl (cI .u8) o,.bool m2] [(1,5)],.cells [.bptr 0 0] []] []) (aM 20 [(0,.bptr 0 0),(2,.func (.func 195) [] [.eptr (cB v),.eptr ((cL cW) v2),.bptr 1 0]),(6,.int .i64 i),(7,.int .i64 t7),(8,.int .i64 i)] [.cells [.nptr 0 132,sl (cI .u8) m,.bool m2] [(1,5)],.cells [.bptr 0 0] []] []):=oV.j<|
 tF (tb λr3 br3=>tv (bK [ee] 1 rfl)<|tc [0] (ae _ br3)<|tE)<|tE
end
section
variable(v:Bool)(v2:wbA)(t7:Int)(t8:Int)(m:(List Int))(m2:Bool)
def fD:ay:=aM 20 [(0,.bptr 0 0),(2,.func (.func 195) [] [.eptr (cB v),.eptr ((cL cW) v2),.bptr 1 0]),(7,.int .i64 t7),(8,.int .i64 t8)] [.cells [.nptr 0 132,sl (cI .u8) m,.bool m2] [(1,5)],.cells [.bptr 0 0] []] []
def jT(o:(List Int)×Bool):ay:=aM 20 [] [.cells [.nptr 0 132,sl (cI .u8) o.1,.bool o.2] [(1,5)],.cells [.bptr 0 0] []] []
def jS:Option ((Int×(List Int)×Bool)⊕(((List Int)×Bool))):=
 if decide (t8<t7)=true then
  (lc t8 m m2).bind λo4=>
  (rJ t8 v v2 o4 m2).bind λr5=>
  some (.inl (fh (t8+1),r5.1,r5.2))
 else
  some (.inr (m,m2))
def lh:Option (((List Int)×Bool)):=loop (λ(zz:Int×(List Int)×Bool)=>jS v v2 t7 zz.1 zz.2.1 zz.2.2) (t8,m,m2)
theorem qB:OL 2 (cA nQ 15) (jS v v2 t7 t8 m m2) (λ(zz:Int×(List Int)×Bool)=>fD v v2 t7 zz.1 zz.2.1 zz.2.2) (λ_=>.exit 0) jT (fD v v2 t7 t8 m m2):=oV.l<|
 tF (tb λo4 bo4=>tb λr5 br5=>gz 2<|cu (sm v v2 t8 t7 m m2 _ bo4)<|tc [1,0] (zq _ br5)<|tE)<|tE
theorem sn:OJ 2 (.loop (cA nQ 15)) (lh v v2 t7 t8 m m2) (.exit 0) jT (fD v v2 t7 t8 m m2):=sQ λ_=>qB _ _ _ _ _ _
end
def oh(n:Int)(c:Bool)(c2:wbA)(k0:(List Int))(k02:Bool):Option ((List Int)×Bool):=
 (lh c c2 n 0 k0 k02).bind λo6=>
 some (o6.1,o6.2)
theorem wR{n:Int}{c:Bool}{c2:wbA}{k0:(List Int)}{k02:Bool}:OG 149 [.bptr 0 0,.int .i64 n,.func (.func 195) [] [.eptr (cB c),.eptr ((cL cW) c2),.bptr 1 0]] [] [.cells [.nptr 0 132,sl (cI .u8) k0,.bool k02] [(1,5)],.cells [.bptr 0 0] []] (oh n c c2 k0 k02) (λr=>.tuple []) [] (λr=>[.cells [.nptr 0 132,sl (cI .u8) r.1,.bool r.2] [(1,5)],.cells [.bptr 0 0] []]):=oV.g 2<|
 tb λo6 bo6=>cu (sn c c2 n 0 k0 k02 _ bo6)<|tE
noncomputable def qa6:Code:=f154.body.getD .skip
def Yw:List Nat:=[]
theorem Z8:ZF Pg Yw 154 f154 qa6:=zf call154 func154 rfl mixed
def wd(a:wbA)(free:Bool)(k0:(List Int))(k02:Bool):Option ((List Int)×Bool):=
 (oh (a.length:Int) free a k0 k02).bind λr1=>
 some (r1.1,r1.2)
theorem BW{a:wbA}{free:Bool}{k0:(List Int)}{k02:Bool}:OG 154 [.bptr 0 0,sl cW a,.bool free] [] [.cells [.nptr 0 132,sl (cI .u8) k0,.bool k02] [(1,5)]] (wd a free k0 k02) (λr=>.tuple []) [] (λr=>[.cells [.nptr 0 132,sl (cI .u8) r.1,.bool r.2] [(1,5)]]):=Z8.g 1<|
 tb λr1 br1=>TV (rfl:bO (.bptr 0 0)=some [.bptr 0 0]) rfl<|te (X3 cW a)<|te (qe1 free)<|ts<|tv (cH Qk (sl cW a) [])<|cb (Oj.ln a)<|tc [0,1] (wR _ br1)<|tE
noncomputable def qbe:Code:=f180.body.getD .skip
def YI:List Nat:=[]
theorem qag:ZF Pg YI 180 f180 qbe:=zf call180 func180 rfl mixed
def pn(p:ag):Option Bool:=
 (CK p (⟨0,([]:ac),0,([]:List ag)⟩:ag)).bind λr1=>
 some r1
theorem lz{p:ag}:OV 180 [.agg (aa p)] (pn p) (λr=>.bool r) []:=qag.v<|
 tb λr1 br1=>te (fy p)<|tv (co p)<|Mf (OT) (OR)<|ck (yY _ br1)<|tE
abbrev rU:=(ag->Option Int)
abbrev yB(R:rU):Prop:=∀(p:ag),OV 302 [.agg (aa p)] (R p) (λr=>.int .i64 r) []
noncomputable def U5:Code:=f302.body.getD .skip
def ZH:List Nat:=[18]
theorem WE:ZF Pg ZH 302 f302 U5:=zf call302 func302 rfl mixed
section
variable(R58:rU)(t7:waB)(t8:Int)(n:Int)(t9:Int)
def lR:ay:=aM 19 [(3,.int .i64 n),(7,sl aa t7),(8,.int .i64 t8),(9,.int .i64 t9)] [.dead] []
def qv(o:Int):ay:=aM 19 [(3,.int .i64 o)] [.dead] []
instance iS_pred_Nodes_L1:KS 0 (lR t7 t8 n t9):=⟨rfl,(bk (aI vzz (aI (up (ak aJ t7)) (aI vzz (aI vzz vzz))))),(aI vzz vzz)⟩
instance iO_pred_Nodes_L1{o:Int}:KS 0 (qv o):=⟨rfl,(bk (aI vzz vzz)),(aI vzz vzz)⟩
def Aa:Option ((Int×Int)⊕(Int)):=
 if decide (t9<t8)=true then
  (dw t7 t9).bind λx2=>
  (R58 x2).bind λr3=>
  some (.inl (fh (n+r3),fh (t9+1)))
 else
  some (.inr n)
def DG:Option Int:=loop (λ(zz:Int×Int)=>Aa R58 t7 t8 zz.1 zz.2) (n,t9)
theorem Gd(hR58:yB R58):OL 0 (cA U5 119) (Aa R58 t7 t8 n t9) (λ(zz:Int×Int)=>lR t7 t8 zz.1 zz.2) (λ_=>.exit 0) qv (lR t7 t8 n t9):=WE.lx<|
 tF (tb λx2 bx2=>tb λr3 br3=>tv (fl.ia (k:=.i64) bx2)<|tv (co x2)<|tx PA<|tx (mt x2)<|tv (iS x2 [])<|ck (hR58 _ _ br3)<|tE)<|tE
theorem HP(hR58:yB R58):OJ 0 (.loop (cA U5 119)) (DG R58 t7 t8 n t9) (.exit 0) qv (lR t7 t8 n t9):=sQ λ_=>Gd _ _ _ _ _ hR58
end
def Gb(R58:rU)(p:ag):Option Int:=
 (DG R58 p.Kids (p.Kids.length:Int) 1 0).bind λo4=>
 some o4
theorem Kr(R58:rU)(hR58:yB R58){p:ag}:OV 302 [.agg (aa p)] (Gb R58 p) (λr=>.int .i64 r) []:=WE.v<|
 tb λo4 bo4=>te (fy p)<|tw (aL p)<|cb (fl.ln p.Kids)<|cu (HP R58 p.Kids (p.Kids.length:Int) 1 0 hR58 _ bo4)<|tE
def Gc:(ag->Option Int)->(ag)->Option Int:=λ(rec:ag->Option Int) (x:ag)=>Gb (λp=>rec p) x
def yX(p:ag):Option Int:=Bq Gc p
theorem DH{p:ag}:OV 302 [.agg (aa p)] (yX p) (λr=>.int .i64 r) []:=N5 λ_ h=>
 fg (F:=Gc) (M:=λ(x:ag) (r:Int)=>CC Pg GE 302 [.agg (aa x)] (.int .i64 r) []) (λrec hrec x r h=>Kr _ (λp=>N5 λr h=>hrec p r h) _ h) h
abbrev rT:=(ag->Option Int)
abbrev yA(R:rT):Prop:=∀(p:ag),OV 303 [.agg (aa p)] (R p) (λr=>.int .i64 r) []
noncomputable def U6:Code:=f303.body.getD .skip
def ZI:List Nat:=[]
theorem WF:ZF Pg ZI 303 f303 U6:=zf call303 func303 rfl mixed
section
variable(R59:rT)(t7:waB)(t8:Int)(n:Int)(t9:Int)
def lQ:ay:=aM 20 [(3,.int .i64 n),(7,sl aa t7),(8,.int .i64 t8),(9,.int .i64 t9)] [.dead] []
def qu(o:Int):ay:=aM 20 [(3,.int .i64 o)] [.dead] []
instance iS_pred_Depth_L1:KS 0 (lQ t7 t8 n t9):=⟨rfl,(bk (aI vzz (aI (up (ak aJ t7)) (aI vzz (aI vzz vzz))))),(aI vzz vzz)⟩
instance iO_pred_Depth_L1{o:Int}:KS 0 (qu o):=⟨rfl,(bk (aI vzz vzz)),(aI vzz vzz)⟩
def z8:Option ((Int×Int)⊕(Int)):=
 if decide (t9<t8)=true then
  (dw t7 t9).bind λx2=>
  (R59 x2).bind λr3=>
  some (.inl ((if r3>n then r3 else n),fh (t9+1)))
 else
  some (.inr n)
def DE:Option Int:=loop (λ(zz:Int×Int)=>z8 R59 t7 t8 zz.1 zz.2) (n,t9)
theorem Ga(hR59:yA R59):OL 0 (cA U6 119) (z8 R59 t7 t8 n t9) (λ(zz:Int×Int)=>lQ t7 t8 zz.1 zz.2) (λ_=>.exit 0) qu (lQ t7 t8 n t9):=WF.lx<|
 tF (tb λx2 bx2=>tb λr3 br3=>tv (fl.ia (k:=.i64) bx2)<|tv (co x2)<|tx PA<|tx (mt x2)<|tv (iS x2 [])<|ck (hR59 _ _ br3)<|tE)<|tE
theorem HO(hR59:yA R59):OJ 0 (.loop (cA U6 119)) (DE R59 t7 t8 n t9) (.exit 0) qu (lQ t7 t8 n t9):=sQ λ_=>Ga _ _ _ _ _ hR59
end
def F8(R59:rT)(p:ag):Option Int:=
 (DE R59 p.Kids (p.Kids.length:Int) 0 0).bind λo4=>
 some (fh (o4+1))
theorem Kq(R59:rT)(hR59:yA R59){p:ag}:OV 303 [.agg (aa p)] (F8 R59 p) (λr=>.int .i64 r) []:=WF.v<|
 tb λo4 bo4=>te (fy p)<|tw (aL p)<|cb (fl.ln p.Kids)<|cu (HO R59 p.Kids (p.Kids.length:Int) 0 0 hR59 _ bo4)<|tE
def F9:(ag->Option Int)->(ag)->Option Int:=λ(rec:ag->Option Int) (x:ag)=>F8 (λp=>rec p) x
def yW(p:ag):Option Int:=Bq F9 p
theorem DF{p:ag}:OV 303 [.agg (aa p)] (yW p) (λr=>.int .i64 r) []:=N5 λ_ h=>
 fg (F:=F9) (M:=λ(x:ag) (r:Int)=>CC Pg GE 303 [.agg (aa x)] (.int .i64 r) []) (λrec hrec x r h=>Kq _ (λp=>N5 λr h=>hrec p r h) _ h) h
noncomputable def Tj:Code:=f319.body.getD .skip
def ZN:List Nat:=[]
theorem Ta:ZF Pg ZN 319 f319 Tj:=zf call319 func319 rfl mixed
section
variable(t4:Int)
def Gf:Option Bool:=
 if(t4==1)=true then
  some (t4==1)
 else if(t4==2)=true then
  some (t4==2)
 else
  some (t4==3)
theorem IS:OJ 0 (cA Tj 54) (Gf t4) .normal (λo=>aM 15 [(4,.int .i64 t4),(5,.bool o)] [] []) (aM 15 [(4,.int .i64 t4)] [] []):=Ta.j<|
 tF tE<|tF tE<|tE
end
section
variable(t4:Int)
def Gg:Option Bool:=
 if(t4==4)=true then
  some (t4==4)
 else
  some (t4==5)
theorem IT:OJ 0 (cA Tj 222) (Gg t4) .normal (λo=>aM 15 [(4,.int .i64 t4),(9,.bool o)] [] []) (aM 15 [(4,.int .i64 t4)] [] []):=Ta.j<|
 tF tE<|tE
end
section
variable(t4:Int)
def Gh:Option Bool:=
 if(t4==9)=true then
  some (t4==9)
 else
  some (t4==14)
theorem IU:OJ 0 (cA Tj 894) (Gh t4) .normal (λo=>aM 15 [(12,.bool o)] [] []) (aM 15 [(4,.int .i64 t4)] [] []):=Ta.j<|
 tF tE<|tE
end
def Ma(op:Int):Option (Int×Int):=
 (Gf op).bind λo3=>
 if o3=true then
  some (0,0)
 else
  (Gg op).bind λo6=>
  if o6=true then
   some (1,24)
  else
   (Gh op).bind λo9=>
   if o9=true then
    some (1,1)
   else
    some (2,2)
theorem Ni{op:Int}:OV 319 [.int .i64 op] (Ma op) (λr=>.tuple [.int .i64 r.1,.int .i64 r.2]) []:=Ta.v<|
 tb λo3 bo3=>gz 3<|cu (IS op _ bo3)<|tF tE<|tb λo6 bo6=>gz 0<|cu (IT op _ bo6)<|tF tE<|tb λo9 bo9=>gz 0<|cu (IU op _ bo9)<|tF tE<|tE
noncomputable def qbP:Code:=f320.body.getD .skip
def ZO:List Nat:=[]
theorem qaO:ZF Pg ZO 320 f320 qbP:=zf call320 func320 rfl mixed
def EG(op:Int):Option Bool:=
 if(op==3)=true then
  some true
 else if(op==4)=true then
  some true
 else
  some (op==5)
theorem DJ{op:Int}:OV 320 [.int .i64 op] (EG op) (λr=>.bool r) []:=qaO.v<|
 tf (λc1=>tg 3 c1<|tE) λc1=>tf (λc2=>tg 3 c1<|tg 7 c2<|tE) λc2=>tg 3 c1<|tg 7 c2<|tE
noncomputable def qbx:Code:=f241.body.getD .skip
def Zj:List Nat:=[]
theorem qax:ZF Pg Zj 241 f241 qbx:=zf call241 func241 rfl mixed
def Pk(n:Int):Option Bool:=
 if decide (n>=(-1000000000000))=true then
  some (decide (n<=1000000000000))
 else
  some false
theorem L5{n:Int}:OV 241 [.int .i64 n] (Pk n) (λr=>.bool r) []:=qax.v<|
 tf (λc1=>tg 3 c1<|tE) λc1=>tg 3 c1<|tE
noncomputable def K8:Code:=f305.body.getD .skip
def ZJ:List Nat:=[]
theorem K4:ZF Pg ZJ 305 f305 K8:=zf call305 func305 rfl mixed
section
variable(p:ag)
def Gi:Option Bool:=
 if decide (p.Op<1)=true then
  some true
 else
  some (decide (p.Op>18))
theorem IV:OJ 0 (cA K8 12) (Gi p) .normal (λo=>aM 130 [(1,.eptr (aa p)),(14,.bool o)] [.dead] []) (aM 130 [(1,.eptr (aa p))] [.dead] []):=K4.j<|
 have pp2:=λ{X Y Z} (r:PV _ X Y Z)=>tw (aK p)<|r;tf (λc1=>pp2<|tg 4 c1<|tE) λc1=>pp2<|tg 4 c1<|tw (aK p)<|tE
end
section
variable(p:ag)(least:Int)(most:Int)
def Gj:Option Bool:=
 (EG p.Op).bind λr6=>
 if (!r6) = true then
  if(!(p.Name==([]:ac)))=true then
   some true
  else if(p.Op !=1)=true then
   if(p.Op !=2)=true then
    if(p.N !=0)=true then
     some true
    else if decide ((p.Kids.length:Int)<least)=true then
     some true
    else
     some (decide ((p.Kids.length:Int)>most))
   else if decide ((p.Kids.length:Int)<least)=true then
    some true
   else
    some (decide ((p.Kids.length:Int)>most))
  else if decide ((p.Kids.length:Int)<least)=true then
   some true
  else
   some (decide ((p.Kids.length:Int)>most))
 else if(p.Op !=1)=true then
  if(p.Op !=2)=true then
   if(p.N !=0)=true then
    some true
   else if decide ((p.Kids.length:Int)<least)=true then
    some true
   else
    some (decide ((p.Kids.length:Int)>most))
  else if decide ((p.Kids.length:Int)<least)=true then
   some true
  else
   some (decide ((p.Kids.length:Int)>most))
 else if decide ((p.Kids.length:Int)<least)=true then
  some true
 else
  some (decide ((p.Kids.length:Int)>most))
theorem IW:OJ 0 (cA K8 60) (Gj p least most) .normal (λo=>aM 130 [(1,.eptr (aa p)),(58,.bool o)] [.dead] []) (aM 130 [(1,.eptr (aa p)),(3,.int .i64 least),(4,.int .i64 most)] [.dead] []):=K4.j<|
 tb λr6 br6=>have pp8:=λ{X Y Z} (r:PV _ X Y Z)=>tw (aK p)<|ck (DJ _ br6)<|r;tf (λc7=>have pp10:=λ{X Y Z} (r:PV _ X Y Z)=>pp8<|tg 5 c7<|tw (cQ p)<|r;tf (λc9=>pp10<|tg 10 c9<|tE) λc9=>have pp12:=λ{X Y Z} (r:PV _ X Y Z)=>pp10<|tg 10 c9<|tw (aK p)<|r;tf (λc11=>have pp14:=λ{X Y Z} (r:PV _ X Y Z)=>pp12<|tg 14 c11<|tw (aK p)<|r;tf (λc13=>have pp16:=λ{X Y Z} (r:PV _ X Y Z)=>pp14<|tg 19 c13<|tw (bU p)<|r;tf (λc15=>pp16<|tg 25 c15<|tE) λc15=>have pp18:=λ{X Y Z} (r:PV _ X Y Z)=>pp16<|tg 25 c15<|tw (aL p)<|cb (fl.ln p.Kids)<|r;tf (λc17=>pp18<|tg 32 c17<|tE) λc17=>pp18<|tg 32 c17<|tw (aL p)<|cb (fl.ln p.Kids)<|tE) λc13=>have pp20:=λ{X Y Z} (r:PV _ X Y Z)=>pp14<|tg 19 c13<|tw (aL p)<|cb (fl.ln p.Kids)<|r;tf (λc19=>pp20<|tg 32 c19<|tE) λc19=>pp20<|tg 32 c19<|tw (aL p)<|cb (fl.ln p.Kids)<|tE) λc11=>have pp22:=λ{X Y Z} (r:PV _ X Y Z)=>pp12<|tg 14 c11<|tw (aL p)<|cb (fl.ln p.Kids)<|r;tf (λc21=>pp22<|tg 32 c21<|tE) λc21=>pp22<|tg 32 c21<|tw (aL p)<|cb (fl.ln p.Kids)<|tE) λc7=>have pp24:=λ{X Y Z} (r:PV _ X Y Z)=>pp8<|tg 5 c7<|tw (aK p)<|r;tf (λc23=>have pp26:=λ{X Y Z} (r:PV _ X Y Z)=>pp24<|tg 14 c23<|tw (aK p)<|r;tf (λc25=>have pp28:=λ{X Y Z} (r:PV _ X Y Z)=>pp26<|tg 19 c25<|tw (bU p)<|r;tf (λc27=>pp28<|tg 25 c27<|tE) λc27=>have pp30:=λ{X Y Z} (r:PV _ X Y Z)=>pp28<|tg 25 c27<|tw (aL p)<|cb (fl.ln p.Kids)<|r;tf (λc29=>pp30<|tg 32 c29<|tE) λc29=>pp30<|tg 32 c29<|tw (aL p)<|cb (fl.ln p.Kids)<|tE) λc25=>have pp32:=λ{X Y Z} (r:PV _ X Y Z)=>pp26<|tg 19 c25<|tw (aL p)<|cb (fl.ln p.Kids)<|r;tf (λc31=>pp32<|tg 32 c31<|tE) λc31=>pp32<|tg 32 c31<|tw (aL p)<|cb (fl.ln p.Kids)<|tE) λc23=>have pp34:=λ{X Y Z} (r:PV _ X Y Z)=>pp24<|tg 14 c23<|tw (aL p)<|cb (fl.ln p.Kids)<|r;tf (λc33=>pp34<|tg 32 c33<|tE) λc33=>pp34<|tg 32 c33<|tw (aL p)<|cb (fl.ln p.Kids)<|tE
end
section
variable(p:ag)
def Gk:Option Bool:=
 if (p.Op == 1) = true then
  (Pk p.N).bind λr39=>
  if(!r39)=true then
   some true
  else if(p.Op==2)=true then
   if(p.N !=0)=true then
    some (p.N !=1)
   else
    some false
  else
   some false
 else if(p.Op==2)=true then
  if(p.N !=0)=true then
   some (p.N !=1)
  else
   some false
 else
  some false
theorem IX:OJ 0 (cA K8 124) (Gk p) .normal (λo=>aM 130 [(1,.eptr (aa p)),(82,.bool o)] [.dead] []) (aM 130 [(1,.eptr (aa p))] [.dead] []):=K4.j<|
 have pp38:=λ{X Y Z} (r:PV _ X Y Z)=>tw (aK p)<|r;tf (λc37=>tb λr39 br39=>have pp41:=λ{X Y Z} (r:PV _ X Y Z)=>pp38<|tg 4 c37<|tw (bU p)<|ck (L5 _ br39)<|r;tf (λc40=>pp41<|tg 10 c40<|tE) λc40=>have pp43:=λ{X Y Z} (r:PV _ X Y Z)=>pp41<|tg 10 c40<|tw (aK p)<|r;tf (λc42=>have pp45:=λ{X Y Z} (r:PV _ X Y Z)=>pp43<|tg 14 c42<|tw (bU p)<|r;tf (λc44=>pp45<|tg 19 c44<|tw (bU p)<|tE) λc44=>pp45<|tg 19 c44<|tE) λc42=>pp43<|tg 14 c42<|tE) λc37=>have pp47:=λ{X Y Z} (r:PV _ X Y Z)=>pp38<|tg 4 c37<|tw (aK p)<|r;tf (λc46=>have pp49:=λ{X Y Z} (r:PV _ X Y Z)=>pp47<|tg 14 c46<|tw (bU p)<|r;tf (λc48=>pp49<|tg 19 c48<|tw (bU p)<|tE) λc48=>pp49<|tg 19 c48<|tE) λc46=>pp47<|tg 14 c46<|tE
end
section
variable(p:ag)
def Gm:Option Bool:=
 (EG p.Op).bind λr52=>
 if r52=true then
  (lZ p.Name).bind λr55=>
  some (r55 !=0)
 else
  some false
theorem IY:OJ 0 (cA K8 252) (Gm p) .normal (λo=>aM 130 [(1,.eptr (aa p)),(91,.bool o)] [.dead] []) (aM 130 [(1,.eptr (aa p))] [.dead] []):=K4.j<|
 tb λr52 br52=>have pp54:=λ{X Y Z} (r:PV _ X Y Z)=>tw (aK p)<|ck (DJ _ br52)<|r;tf (λc53=>tb λr55 br55=>pp54<|tg 4 c53<|tw (cQ p)<|ck (fq _ br55)<|tE) λc53=>pp54<|tg 4 c53<|tE
end
section
variable(p:ag)
def Gn:Option Bool:=
 if(p.Op==3)=true then
  some (p.Name==([118]:ac))
 else
  some false
theorem IZ:OJ 0 (cA K8 1012) (Gn p) .normal (λo=>aM 130 [(1,.eptr (aa p)),(5,.bool o)] [.dead] []) (aM 130 [(1,.eptr (aa p))] [.dead] []):=K4.j<|
 have pp59:=λ{X Y Z} (r:PV _ X Y Z)=>tw (aK p)<|r;tf (λc58=>pp59<|tg 4 c58<|tw (cQ p)<|tE) λc58=>pp59<|tg 4 c58<|tE
end
section
variable(p:ag)(v:Bool)
def Gp:Option Bool:=
 if(p.Op==4)=true then
  if(p.Name==([116,97,103]:ac))=true then
   some true
  else
   some (p.Name==([118,97,108]:ac))
 else
  some false
theorem I0:OJ 0 (cA K8 2026) (Gp p) .normal (λo=>aM 130 [(1,.eptr (aa p)),(5,.bool v),(6,.bool o)] [.dead] []) (aM 130 [(1,.eptr (aa p)),(5,.bool v)] [.dead] []):=K4.j<|
 have pp62:=λ{X Y Z} (r:PV _ X Y Z)=>tw (aK p)<|r;tf (λc61=>have pp64:=λ{X Y Z} (r:PV _ X Y Z)=>pp62<|tg 4 c61<|tw (cQ p)<|r;tf (λc63=>pp64<|tg 8 c63<|tE) λc63=>pp64<|tg 8 c63<|tw (cQ p)<|tE) λc61=>pp62<|tg 4 c61<|tE
end
section
variable(p:ag)(v:Bool)(symbol:Bool)
def Gq:Option Bool:=
 if(!v)=true then
  some (!symbol)
 else
  some false
theorem I1:OJ 0 (cA K8 4054) (Gq v symbol) .normal (λo=>aM 130 [(1,.eptr (aa p)),(118,.bool o)] [.dead] []) (aM 130 [(1,.eptr (aa p)),(5,.bool v),(6,.bool symbol)] [.dead] []):=K4.j<|
 tf (λc66=>tg 3 c66<|tE) λc66=>tg 3 c66<|tE
end
section
variable(p:ag)
def Kt(o:Unit⊕(Unit)):Exit:=match o with
 |(.inl _)=>.ret
 |(.inr _)=>.normal
def Ku(o:Unit⊕(Unit)):ay:=match o with
 |(.inl o)=>aM 130 [(2,.int .i64 3)] [.dead] []
 |(.inr o)=>aM 130 [(1,.eptr (aa p))] [.dead] []
def Gl:Option (Unit⊕(Unit)):=
 (Gm p).bind λo56=>
 if o56=true then
  (Gn p).bind λo60=>
  (Gp p).bind λo65=>
  (Gq o60 o65).bind λo67=>
  if o67=true then
   some (.inl ())
  else
   some (.inr ())
 else
  some (.inr ())
theorem Ae:OK 0 (cA K8 126) (Gl p) Kt (Ku p) (aM 130 [(1,.eptr (aa p))] [.dead] []):=K4.k<|
 tb λo56 bo56=>gz 0<|cu (IY p _ bo56)<|tF (tb λo60 bo60=>tb λo65 bo65=>tb λo67 bo67=>gz 0<|cu (IZ p _ bo60)<|gz 0<|cu (I0 p o60 _ bo65)<|gz 0<|cu (I1 p o60 o65 _ bo67)<|tF tE<|tE)<|tE
end
section
variable(p:ag)
def Gr:Option Bool:=
 if(p.Op==8)=true then
  (dw p.Kids 0).bind λx72=>
  some (x72.Op !=1)
 else
  some false
theorem I2:OJ 0 (cA K8 508) (Gr p) .normal (λo=>aM 130 [(129,.bool o)] [.dead] []) (aM 130 [(1,.eptr (aa p))] [.dead] []):=K4.j<|
 have pp71:=λ{X Y Z} (r:PV _ X Y Z)=>tw (aK p)<|r;tf (λc70=>tb λx72 bx72=>pp71<|tg 4 c70<|tw (aL p)<|tv (fl.ia (k:=.i64) bx72)<|tw (aK x72)<|tE) λc70=>pp71<|tg 4 c70<|tE
end
def Mb(p:ag):Option Int:=
 (Gi p).bind λo3=>
 if o3=true then
  some 1
 else
  (Ma p.Op).bind λr5=>
  (Gj p r5.1 r5.2).bind λo35=>
  if o35=true then
   some 1
  else
   (Gk p).bind λo50=>
   if o50=true then
    some 2
   else
    (Gl p).bind λo69=>match o69 with
    |(.inl o69)=>
     some 3
    | (.inr o69) =>
     (Gr p).bind λo73=>
     if o73=true then
      some 6
     else
      some 0
theorem Gs{p:ag}:OV 305 [.agg (aa p)] (Mb p) (λr=>.int .i64 r) []:=K4.v<|
 tb λo3 bo3=>te (fy p)<|gz 1<|cu (IV p _ bo3)<|tF tE<|tb λr5 br5=>tb λo35 bo35=>tw (aK p)<|ck (Ni _ br5)<|gz 1<|cu (IW p r5.1 r5.2 _ bo35)<|tF tE<|tb λo50 bo50=>gz 1<|cu (IX p _ bo50)<|tF tE<|t2 (λo69 bo69=>gz 0<|cu (Ae p _ bo69)<|tE) λo69 bo69=>tb λo73 bo73=>gz 0<|cu (Ae p _ bo69)<|gz 1<|cu (I2 p _ bo73)<|tF tE<|tE
abbrev qeP:Nat:=270
noncomputable def Tk:Code:=f270.body.getD .skip
abbrev qdm:Code:=aC Tk [false]
abbrev qcb:Code:=aC Tk [true,false]
abbrev qcc:Code:=aC Tk [true,true,false]
abbrev qdn:Code:=aC Tk [true,true,true,false,false]
abbrev S1:Code:=aC Tk [true,true,true,false,true,false]
abbrev Vx:Code:=aC Tk [true,true,true,true,false]
theorem Va:Tk=.seq qdm (.seq qcb (.seq qcc (.seq (.seq qdn (.block 0 (.rangeFunc (.tmp 12) #[13] (XG S1) (XH S1)))) (.seq Vx .ret)))):=by kernel_rfl
def Ct(s:Int)(x:ag):Option (Bool×Int):=(Mb x).bind λe=>if(e !=0)=true then some (false,e)else some (true,s)
def EF(p:ag):Option Int:=
 (yX p).bind λn=>if decide (n>400)=true then some 7 else
 (yW p).bind λd=>if decide (d>40)=true then some 8 else
 (PD Ct p 0).bind λq=>if q.1=true then some 0 else some q.2
abbrev Tl(s:Int):List ax:=[.dead,.cells [.int .i64 s] []]
abbrev OD(s:Int):ay:=aM 19 [(2,.bptr 1 0)] (Tl s) []
abbrev KM(p:ag):ay:=aM 19 [(1,.eptr (aa p)),(2,.bptr 1 0)] (Tl 0) []
theorem qeV(p:ag):cC Pg GE 0 qdm (EX .normal (KM p)) (aM 19 [(0,.agg (aa p))] [] []):=by
 have z:=se (fy p)<|sx (show dZ Pg 91=some [.int .i64 0] by kernel_rfl)<|eF .normal (KM p)
 exact dX (A:=[]) mixed z (by kernel_rfl)
theorem qce(p:ag){n:Int}(h:yX p=some n)(c:decide (n>400)=true):cC Pg GE 0 qcb (EX .ret (OD 7)) (KM p):=by
 have z:=sv (co p)<|RE (DH _ h)<|sg 0 c<|ss<|eF .ret (OD 7)
 exact dX (A:=[]) mixed z (by kernel_rfl)
theorem qcf(p:ag){n:Int}(h:yX p=some n)(c:decide (n>400)=false):cC Pg GE 0 qcb (EX .normal (KM p)) (KM p):=by
 have z:=sv (co p)<|RE (DH _ h)<|sg 0 c<|eF .normal (KM p)
 exact dX (A:=[]) mixed z (by kernel_rfl)
theorem qcg(p:ag){n:Int}(h:yW p=some n)(c:decide (n>40)=true):cC Pg GE 0 qcc (EX .ret (OD 8)) (KM p):=by
 have z:=sv (co p)<|RE (DF _ h)<|sg 0 c<|ss<|eF .ret (OD 8)
 exact dX (A:=[]) mixed z (by kernel_rfl)
theorem qch(p:ag){n:Int}(h:yW p=some n)(c:decide (n>40)=false):cC Pg GE 0 qcc (EX .normal (KM p)) (KM p):=by
 have z:=sv (co p)<|RE (DF _ h)<|sg 0 c<|eF .normal (KM p)
 exact dX (A:=[]) mixed z (by kernel_rfl)
abbrev TT(p:ag):ay:=aM 19 [(2,.bptr 1 0),(12,.func (.func fW) [] [.eptr (aa p)])] (Tl 0) []
theorem qeW(p:ag):cC Pg GE 0 qdn (EX .normal (TT p)) (KM p):=by
 have z:=sv (co p)<|RE (QB p)<|eF .normal (TT p)
 exact dX (A:=[]) mixed z (by kernel_rfl)
abbrev VJ(s:Int)(x:ag):ay:=aM 19 [(2,.bptr 1 0),(3,.bptr 2 0)] (Tl s++[.cells (Nu x) []]) []
theorem qeX(s:Int)(x:ag):cC Pg GE 2 (XG S1) (EX .normal (VJ s x)) (aM 19 [(2,.bptr 1 0),(13,.agg (aa x))] (Tl s) []):=by
 have z:=sx PA<|sx (mt x)<|eF .normal (VJ s x)
 exact dX (A:=[]) mixed z (by kernel_rfl)
abbrev VK(r:Int):ay:=aM 19 [(2,.bptr 1 0)] (Tl r++[.dead]) []
theorem qeY(s:Int)(x:ag){r:Bool×Int}(h:Ct s x=some r):cC Pg GE 2 (XH S1) (EX (if r.1=true then .normal else .ret) (VK r.2)) (VJ s x):=by
 unfold Ct at h
 obtain⟨e,be,h⟩:=KZ h
 rcases OB h with⟨c1,h⟩|⟨c1,h⟩
 ·cases h
  have z:=sv (iS x [])<|RE (Gs _ be)<|sg 0 c1<|ss<|eF .ret (VK e)
  exact dX (A:=[]) mixed z (by kernel_rfl)
 ·cases h
  have z:=sv (iS x [])<|RE (Gs _ be)<|sg 0 c1<|eF .normal (VK s)
  exact dX (A:=[]) mixed z (by kernel_rfl)
theorem qcd(s:Int):cC Pg GE 2 (.seq Vx .ret) (EX .ret (OD 0)) (OD s):=by
 have z:=ss<|eF .ret (OD 0)
 exact dX (A:=[]) mixed z (by kernel_rfl)
theorem Xq(s:Int):cC Pg GE 2 .ret (EX .ret (OD s)) (OD s):=by
 have z:=eF .ret (OD s)
 exact dX (A:=[]) mixed z (by kernel_rfl)
abbrev zu(fn:FuncId)(a:Array Value)(D:Nat)(b:Bool):Loop:={state:=if b then .ready else .done,pending:=if b then none else some .ret,fn:=fn,tmps:=a,params:=#[13],assign:=XG S1,body:=XH S1,defers:=D}
def JC(Γe:aP)(we:World)(bs:bg)(a:Array Value)(fn:FuncId)(l D:Nat)(b:Bool)(s:Int)(Γ:aP)(w:World):Prop:=
 ∃ow,SR Pg (oW GE Γe we) Γ bs ow w a (OD s)/\¬aR bs ow l/\¬aR bs ow D/\w.heap[l]? =some (.loop (zu fn a D b))/\w.heap[D]? =some (.deferred (some []))
theorem Wb{Γe:aP}{we:World}{bs:bg}{a:Array Value}{fn:FuncId}{l D:Nat}(hl:we.heap.size<=l)(hD:we.heap.size<=D)(hne:D≠l)(hb:bs.length=2):Yd Pg GE l aa Ct (JC Γe we bs a fn l D) where
 base:=λb s Γ w ⟨ow,h,_⟩=>h.base
 side:=λb s Γ w ⟨ow,h,hTl,hTD,hhl,hhD⟩ Γ' bs' ow' w' a' st' h'=>
  ⟨ow,h.aside h',hTl,hTD,(h'.step.keep l (cM hhl) id).1.trans hhl,(h'.step.keep D (cM hhD) id).1.trans hhD⟩
 yield:=λs Γ w x v n r ⟨ow,h,hTl,hTD,hhl,hhD⟩ hv hr=>by
  have hS4:=qeY s x hr
  refine⟨_,_,_,_,run_yield hhl rfl,?_⟩
  have hz:(((#[13]:Array Tmp).zip #[v]).foldl (λtmps (t,a)=>tmps.setIfInBounds t a) a)=a.setIfInBounds 13 v:=by simp
  show RoundIn Fence.wide n Pg l fn (((#[13]:Array Tmp).zip #[v]).foldl (λtmps (t,a)=>tmps.setIfInBounds t a) a) (XG S1) (XH S1) w _
  rw[hz]
  have h7:SR Pg (oW GE Γe we) Γ bs ow w (a.setIfInBounds 13 v) (aM 19 [(2,.bptr 1 0),(13,.agg (aa x))] (Tl s) []):=h.set (d:=13) (p:=.agg (aa x)) (hv.mono (.refl _ _) (λi b hi=>by simp at hi))
  refine roundIn_of_wpIn vzz (wpIn_mono (cC.on (qeX s x) (by decide) h7 (by rw[hb];decide) (some l) [] n) ?_)
  rintro e ⟨a1,ds1⟩ w1 ⟨rfl,Γ1,bs1,ow1,st1,h1,⟨rfl,rfl⟩,hbs1,hle1,hsz1,hk1⟩
  obtain⟨k1,t1⟩:=hk1 l (cM hhl) hTl
  obtain⟨k1D,t1D⟩:=hk1 D (cM hhD) hTD
  have hl1:=k1.trans hhl
  refine⟨_,run_beginRound hl1 rfl,?_⟩
  obtain⟨h1',hle1'⟩:=h1.putOther (l:=l) (o:=.loop {zu fn a D true with state:=.busy}) t1 (.inr hl) (λc t fr e=>by rw[hl1]at e;cases e)
  have hb1:2<=bs1.length:=by have:=h1.bl;rw[this];exact vaB rfl
  obtain⟨bq,s'⟩:=r
  refine wpIn_mono (cC.on hS4 (by decide) h1' hb1 (some l) [] n) ?_
  rintro e ⟨a2,ds2⟩ w2 ⟨rfl,Γ2,bs2,ow2,st2,h2,⟨rfl,rfl⟩,hbs2,hle2,hsz2,hk2⟩
  have hl1':(w1.putObj l (.loop {zu fn a D true with state:=.busy})).heap[l]? =some (.loop {zu fn a D true with state:=.busy}):=World.putObj_heap_same (cM hl1)
  have hD1':(w1.putObj l (.loop {zu fn a D true with state:=.busy})).heap[D]? =some (.deferred (some [])):=(World.putObj_heap_other hne).trans (k1D.trans hhD)
  obtain⟨k2,t2⟩:=hk2 l (cM hl1') t1
  obtain⟨k2D,t2D⟩:=hk2 D (cM hD1') t1D
  have hl2:=k2.trans hl1'
  cases bq with
  |true=>
   refine⟨_,_,run_endRound none hl2,?_⟩
   obtain⟨h3,hle3⟩:=h2.putOther (l:=l) (o:=.loop {{zu fn a D true with state:=.busy}with state:=if(none:Option Code).isNone then .ready else .done,pending:=none}) t2 (.inr hl) (λc t fr e=>by rw[hl2]at e;cases e)
   have hle:Γ.Le w Γ2 (w2.putObj l (.loop {{zu fn a D true with state:=.busy}with state:=if(none:Option Code).isNone then .ready else .done,pending:=none})):=((hle1.trans hle1').trans hle2).trans hle3
   obtain⟨ow3,h4,hT4⟩:=h.back rfl h3 hle (H':=Tl s') (λi hi=>(hbs2 i (by omega)).trans (hbs1 i (by omega))) ⟨vzz,⟨rfl,aI vzz vzz,λx hx=>hx⟩,vzz⟩ hb.symm
   exact⟨Γ2,rfl,hle,ow3,h4,λhx=>t2 (hT4 l hx),λhx=>t2D (hT4 D hx),World.putObj_heap_same (cM hl2),(World.putObj_heap_other hne).trans (k2D.trans hD1')⟩
  |false=>
   refine⟨_,_,run_endRound (some .ret) hl2,?_⟩
   obtain⟨h3,hle3⟩:=h2.putOther (l:=l) (o:=.loop {{zu fn a D true with state:=.busy}with state:=if(some Code.ret:Option Code).isNone then .ready else .done,pending:=some .ret}) t2 (.inr hl) (λc t fr e=>by rw[hl2]at e;cases e)
   have hle:Γ.Le w Γ2 (w2.putObj l (.loop {{zu fn a D true with state:=.busy}with state:=if(some Code.ret:Option Code).isNone then .ready else .done,pending:=some .ret})):=((hle1.trans hle1').trans hle2).trans hle3
   obtain⟨ow3,h4,hT4⟩:=h.back rfl h3 hle (H':=Tl s') (λi hi=>(hbs2 i (by omega)).trans (hbs1 i (by omega))) ⟨vzz,⟨rfl,aI vzz vzz,λx hx=>hx⟩,vzz⟩ hb.symm
   exact⟨Γ2,rfl,hle,ow3,h4,λhx=>t2 (hT4 l hx),λhx=>t2D (hT4 D hx),World.putObj_heap_same (cM hl2),(World.putObj_heap_other hne).trans (k2D.trans hD1')⟩
theorem Lw{p:ag}{r:Int}(h:EF p=some r):CC Pg GE qeP [.agg (aa p)] (.int .i64 r) []:=by
 refine⟨aI (aJ p) trivial,call270,λΓ bs ow w vs hS=>(callsIn_wide (n:=0)).1 (callsIn_of_wp_marks func270 (c:=Tk) rfl vzz ?_)⟩
 obtain rfl:bs=[]:=vag hS.bl
 obtain⟨v,rfl⟩:∃v,vs=#[v]:=vbz.1 hS.sz
 have hB:qk GE Γ w:=hS.base
 have hE:mj GE 0 (oW GE Γ w):=hB.good
 have hvr:VR Γ [] w (.agg (aa p)) v:=hS.tm 0 _ _ rfl rfl
 have h0:SR Pg (oW GE Γ w) Γ [] (λ_=>none) w (#[v]++Array.replicate 18 undef) (aM 19 [(0,.agg (aa p))] [] []):=by
  refine hB.fresh (a:=#[v]++Array.replicate 18 undef) 0 (tmps:=[.agg (aa p)]++List.replicate 18 .undef) (by simp) λt q u hq hu=>?_
  by_cases ht:t<1
  ·rw[vac (by simpa using ht)]at hq
   rw[vaH (by simpa using ht)]at hu
   match t,ht with
   |0,_=>simp at hq hu;subst hq;subst hu;exact hvr
  ·rw[vae (by show 1<=t;omega),vaE]at hq
   split at hq<;>cases hq
   exact .undef u
 have key:∀R:Ending->World->Prop,(∀{Γ6:aP} {bs6:bg} {ow6:Nat->Option fR} {a6:Array Value} {w6:World},SR Pg (oW GE Γ w) Γ6 bs6 ow6 w6 a6 (OD r)->LeavesInM Fence.wide 0 Pg f270 a6 R [] .returning w6)->
   Tk.wpIn Fence.wide 0 Pg (bodyPostM Fence.wide 0 Pg f270 R) ⟨#[v]++Array.replicate 18 undef,[]⟩ w:=λR hfin=>by
  unfold EF at h
  obtain⟨n1,b1,h⟩:=KZ h
  rw[Va]
  refine wpIn_seq (wpIn_mono (cC.wideE (qeV p) hE h0 0 []) ?_)
  rintro e ⟨a1,ds1⟩ w1 ⟨rfl,Γ1,bs1,ow1,st1,h1,rfl,rfl⟩
  rcases OB h with⟨c1,h⟩|⟨c1,h⟩
  ·cases h
   refine wpIn_seq (wpIn_mono (cC.wideE (qce p b1 c1) hE h1 0 []) ?_)
   rintro e ⟨a2,ds2⟩ w2 ⟨rfl,Γ2,bs2,ow2,st2,h2,rfl,rfl⟩
   exact hfin h2
  refine wpIn_seq (wpIn_mono (cC.wideE (qcf p b1 c1) hE h1 0 []) ?_)
  rintro e ⟨a2,ds2⟩ w2 ⟨rfl,Γ2,bs2,ow2,st2,h2,rfl,rfl⟩
  obtain⟨n2,b2,h⟩:=KZ h
  rcases OB h with⟨c2,h⟩|⟨c2,h⟩
  ·cases h
   refine wpIn_seq (wpIn_mono (cC.wideE (qcg p b2 c2) hE h2 0 []) ?_)
   rintro e ⟨a3,ds3⟩ w3 ⟨rfl,Γ3,bs3,ow3,st3,h3,rfl,rfl⟩
   exact hfin h3
  refine wpIn_seq (wpIn_mono (cC.wideE (qch p b2 c2) hE h2 0 []) ?_)
  rintro e ⟨a22,ds22⟩ w22 ⟨rfl,Γ22,bs22,ow22,st22,h22,rfl,rfl⟩
  obtain⟨q,hq,h⟩:=KZ h
  refine wpIn_seq (wpIn_seq (wpIn_mono (cC.wideE (qeW p) hE h22 0 []) ?_))
  rintro e ⟨a3,ds3⟩ w3 ⟨rfl,Γ3,bs3,ow3,st3,h3,rfl,rfl⟩
  have h6:=h3.opv [] (.tmp 12)
  have e6:opv (oW GE Γ w).GE (TT p).tmps (.tmp 12)=.func (.func fW) [] [.eptr (aa p)]:=rfl
  rw[e6]at h6
  have hbl:bs3.length=2:=h3.bl
  refine wpIn_block (wpIn_rangeFunc λfn _=>?_)
  obtain⟨g1,l1⟩:=h3.allocO (.deferred (some []))
  obtain⟨g2,l2⟩:=g1.allocO (.loop (zu fn a3 w3.heap.size true))
  have gF:=g2.forgetT (tm:=(OD 0).tmps) rfl
  have hsz3:w.heap.size<=w3.heap.size:=h3.step.size
  have htl:∀b,w3.heap.size<=b->¬aR bs3 ow3 b:=λb hb hx=>by
   rcases hx with⟨i,hi⟩|hx
   ·have hil:i<(TT p).boxes.length:=by rw[<-h3.bl];exact ah hi
    have:=(h3.bx i b _ hi (vaa hil)).2.1
    omega
   ·cases hL:ow3 b with
    |none=>exact hx hL
    |some L=>have:=(h3.on b L hL).1;omega
  generalize hvf:(Act.mk a3 []).eval (.tmp 12)=vf at h6
  cases h6 with
  |func _ _ _ fs cs hl1 hl2 hf hc=>
  obtain rfl:fs=#[]:=vaX hl1
  obtain⟨cv,rfl⟩:∃v,cs=#[v]:=vbz.1 hl2
  have hcv:VR Γ3 bs3 w3 (.eptr (aa p)) cv:=hc 0 _ _ rfl rfl
  have hJ:JC Γ w bs3 a3 fn (w3.heap.size+1) w3.heap.size true 0 Γ3 ((w3.alloc (.deferred (some []))).alloc (.loop (zu fn a3 w3.heap.size true))):=by
   refine⟨ow3,gF,htl _ (by omega),htl _ (vaj _),?_,?_⟩
   ·have:=World.alloc_heap_new (w3.alloc (.deferred (some []))) (.loop (zu fn a3 w3.heap.size true))
    rwa[World.size_alloc]at this
   ·rw[alloc_old _ _ (by rw[World.size_alloc];omega)]
    exact World.alloc_heap_new w3 _
  have hY:=Wb (Γe:=Γ) (we:=w) (bs:=bs3) (a:=a3) (fn:=fn) (l:=w3.heap.size+1) (D:=w3.heap.size) (by omega) hsz3 (by omega) hbl
  refine⟨_,_,_,{target:=.fn (.func fW) #[cv],args:=#[.func (.yield (w3.heap.size+1)) #[] #[]]},(w3.alloc (.deferred (some []))).alloc (.loop (zu fn a3 w3.heap.size true)),fW,#[.func (.yield (w3.heap.size+1)) #[] #[],cv],(w3.alloc (.deferred (some []))).alloc (.loop (zu fn a3 w3.heap.size true)),run_enterLoop_outer fn a3 #[13] (XG S1) (XH S1),?_,λ_ _=>trivial,?_,λhx=>by simp[Fence.wide]at hx,?_⟩
  ·have hvf':(Act.mk a3 []).eval (.tmp 12)=.func (.func fW) #[] #[cv]:=hvf
   simp only[resolve,hvf',Deferred.ofValue]
   simp[Act.eval]
   rfl
  ·simp[invoke,call317]
  ·refine(Vh hY p (n:=0 - 1) hq hJ (((hcv.mono l1 (.refl _)).mono l2 (.refl _)).clo (show eP 0 (aa p)from aJ p))).mono ?_
   rintro e w4 ⟨⟨u,rfl⟩,Γ4,hle4,ow4,h4,tl4,tD4,hl4,hD4⟩
   refine⟨_,_,run_endLoop hl4 (by cases q.1<;>simp),?_⟩
   obtain⟨h5,hle5⟩:=h4.putOther (l:=w3.heap.size+1) (o:=.loop {zu fn a3 w3.heap.size q.1 with state:=.exhausted}) tl4 (.inr (show w.heap.size<=_ by omega)) (λc t fr e=>by rw[hl4]at e;cases e)
   have hD5:(w4.putObj (w3.heap.size+1) (.loop {zu fn a3 w3.heap.size q.1 with state:=.exhausted})).heap[w3.heap.size]? =some (.deferred (some [])):=(World.putObj_heap_other (by omega)).trans hD4
   generalize w4.putObj (w3.heap.size+1) (.loop {zu fn a3 w3.heap.size q.1 with state:=.exhausted})=w5 at h5 hle5 hD5
   have last:∀c:Code,cC Pg GE 2 c (EX .ret (OD r)) (OD q.2)->∀Q:Exit->Act->World->Prop,(∀a w,bodyPostM Fence.wide 0 Pg f270 R .ret a w->Q .ret a w)->c.wpIn Fence.wide 0 Pg Q ⟨a3,[{target:=.collected w3.heap.size,args:=#[]}]⟩ w5:=λc hc Q hQ=>by
    refine wpIn_mono (wpIn_wide.2 (cC.on hc (by decide) h5 (by rw[hbl];decide) none [{target:=.collected w3.heap.size,args:=#[]}])) ?_
    rintro e ⟨a6,ds6⟩ w6 ⟨rfl,Γ6,bs6,ow6,st6,h6,⟨rfl,rfl⟩,hbs6,hle6,hsz6,hk6⟩
    obtain⟨k6,t6⟩:=hk6 _ (cM hD5) tD4
    have hD6:=k6.trans hD5
    obtain⟨h7,hle7⟩:=h6.putOther (l:=w3.heap.size) (o:=.deferred none) t6 (.inr hsz3) (λc t fr e=>by rw[hD6]at e;cases e)
    exact hQ _ _ ⟨by simp,.inl ⟨w3.heap.size,_,rfl,run_takeDeferred hD6,hfin h7⟩⟩
   rcases OB h with⟨c3,h⟩|⟨c3,h⟩
   ·cases h
    have e3:(zu fn a3 w3.heap.size q.1).pending=none:=by show(if q.1=true then none else some Code.ret)=none;rw[c3];rfl
    rw[e3]
    exact last (.seq Vx .ret) (qcd q.2) _ (λ_ _ hx=>hx)
   ·cases h
    have e3:(zu fn a3 w3.heap.size q.1).pending=some .ret:=by show(if q.1=true then none else some Code.ret)=some .ret;rw[c3];rfl
    rw[e3]
    exact last .ret (Xq q.2) _ (λ_ _ hx=>hx)
 refine key _ λ{Γ6 bs6 ow6 a6 w6} h7=>?_
 have hS7:SR Pg ⟨GE,Γ,w,aR [] ow⟩ Γ6 bs6 ow6 w6 a6 (OD r):={h7 with
  bn:=λi b hb=>(h7.bn i b hb).elim False.elim .inr
  on:=λb L hL=>⟨(h7.on b L hL).1,(h7.on b L hL).2.elim False.elim .inr⟩
  gx:=hS.gx
  step:={h7.step with keep:=λb hb _=>h7.step.keep b hb (λhx=>hx)}}
 obtain⟨vr,e1,e2,e3⟩:=j5 hS7 (fn:=f270) (r:=.int .i64 r) (by kernel_rfl)
 refine⟨vr,e1,vr,Γ6,s8 (cJ f270.results.toList) [] ow6,rfl,?_⟩
 have hf:=hS7.finish (H':=[]) (src:=cJ f270.results.toList) (ro:=[]) e2 vzz vzz (λx hx=>by cases hx) (λx hx=>by cases hx)
 simpa using hf
end Go.Proofs.YtankopenjcbeeaaGreatDoor
