/- PROVED: a part of the proof. Conditions: none. -/
import Derived.Test.YtibglelmlnfojaaGreatDoorpt15
set_option linter.unusedSimpArgs false
set_option linter.unusedVariables false
noncomputable section
namespace Go.Proofs.YtibglelmlnfojaaGreatDoor
open Go Go.Proofs.Tryz
set_option linter.unusedVariables false
set_option maxRecDepth 100000
noncomputable def qpP:Code:=f204.body.getD .skip
def qnt:List Nat:=[]
theorem qoP:ZF Pg qnt 204 f204 qpP:=zf call204 func204 rfl mixed
def qB(s:ae):Option Bool:=
 D3.bind λr1=>
 (GM r1 s).bind λr2=>
 some (decide (r2>=0))
theorem Ru{s:ae}:OV 204 [.str s] (qB s) (λr=>.bool r) []:=qoP.v<|
 tb λr1 br1=>tb λr2 br2=>bG (P8 _ br1)<|bG (Pe _ br2)<|tE
noncomputable def qpQ:Code:=f205.body.getD .skip
def qnu:List Nat:=[]
theorem qoQ:ZF Pg qnu 205 f205 qpQ:=zf call205 func205 rfl mixed
def nT(c:Int):Option Bool:=
 if decide (c>=48)=true then
  some (decide (c<=57))
 else
  some false
theorem xX{c:Int}:OV 205 [.int .u8 c] (nT c) (λr=>.bool r) []:=qoQ.v<|
 tf (λc1=>tg 3 c1<|tE) λc1=>tg 3 c1<|tE
noncomputable def qd5:Code:=f152.body.getD .skip
def qmI:List Nat:=[26]
theorem qgd:ZF Pg qmI 152 f152 qd5:=zf call152 func152 rfl mixed
section
variable(s:ae)
def rh:Option Bool:=
 if decide ((s.length:Int)<1)=true then
  some true
 else if decide ((s.length:Int)>24)=true then
  some true
 else
  (jC s 0).bind λc4=>
  (ko c4).bind λr5=>
  if(!r5)=true then
   some true
  else
   (qB s).bind λr8=>
   some r8
theorem PW:OJ 0 (cA qd5 12) (rh s) .normal (λo=>aQ 46 [(0,.str s),(21,.bool o)] [] []) (aQ 46 [(0,.str s)] [] []):=qgd.j<|
 tf (λc1=>bL (lR underlying9 s)<|tg 4 c1<|tE) λc1=>have pp3:=λ{X Y Z} (r:PV _ X Y Z)=>bL (lR underlying9 s)<|tg 4 c1<|bL (lR underlying9 s)<|r;tf (λc2=>pp3<|tg 9 c2<|tE) λc2=>tb λc4 bc4=>tb λr5 br5=>have pp7:=λ{X Y Z} (r:PV _ X Y Z)=>pp3<|tg 9 c2<|tv (fF (k:=.i64) underlying9 bc4)<|bG (nV _ br5)<|r;tf (λc6=>pp7<|tg 15 c6<|tE) λc6=>tb λr8 br8=>pp7<|tg 15 c6<|bG (Ru _ br8)<|tE
end
section
variable(s:ae)(i:Int)(t23:Int)
def kZ:Option Bool:=
 (jC s i).bind λc12=>
 (ko c12).bind λr13=>
 if(!r13)=true then
  (jC s i).bind λc16=>
  (nT c16).bind λr17=>
  if(!r17)=true then
   (jC s i).bind λc20=>
   some (c20 !=95)
  else
   some false
 else
  some false
theorem PY:OJ 0 (cA qd5 7670) (kZ s i) .normal (λo=>aQ 46 [(0,.str s),(23,.int .i64 t23),(24,.int .i64 i),(44,.bool o)] [] []) (aQ 46 [(0,.str s),(3,.int .i64 i),(23,.int .i64 t23),(24,.int .i64 i)] [] []):=qgd.j<|
 tb λc12 bc12=>tb λr13 br13=>have pp15:=λ{X Y Z} (r:PV _ X Y Z)=>tv (fF (k:=.i64) underlying9 bc12)<|bG (nV _ br13)<|r;tf (λc14=>tb λc16 bc16=>tb λr17 br17=>have pp19:=λ{X Y Z} (r:PV _ X Y Z)=>pp15<|tg 6 c14<|tv (fF (k:=.i64) underlying9 bc16)<|bG (xX _ br17)<|r;tf (λc18=>tb λc20 bc20=>pp19<|tg 13 c18<|tv (fF (k:=.i64) underlying9 bc20)<|tE) λc18=>pp19<|tg 13 c18<|tE) λc14=>pp15<|tg 6 c14<|tE
end
section
variable(s:ae)(t23:Int)(t24:Int)
def y7:aK:=aQ 46 [(0,.str s),(23,.int .i64 t23),(24,.int .i64 t24)] [] []
def GJ(o:Unit⊕(Unit)):Exit:=match o with
 |(.inl _)=>.ret
 |(.inr _)=>.exit 0
def GK(o:Unit⊕(Unit)):aK:=match o with
 |(.inl o)=>aQ 46 [(2,.int .i64 3)] [] []
 |(.inr o)=>aQ 46 [] [] []
def mT:Option (Int⊕(Unit⊕(Unit))):=
 if decide (t24<t23)=true then
  (kZ s t24).bind λo21=>
  if o21=true then
   some (.inr (.inl ()))
  else
   some (.inl (dt (t24+1)))
 else
  some (.inr (.inr ()))
def ri:Option (Unit⊕(Unit)):=loop (λ(zz:Int)=>mT s t23 zz) t24
theorem Nz:OL 0 (cA qd5 119) (mT s t23 t24) (λ(zz:Int)=>y7 s t23 zz) GJ GK (y7 s t23 t24):=qgd.l<|
 tF (tb λo21 bo21=>fc 2<|bT (PY s t24 t23 _ bo21)<|tF tE<|tE)<|tE
theorem Fl:OK 0 (.loop (cA qd5 119)) (ri s t23 t24) GJ GK (y7 s t23 t24):=AN λ_=>Nz _ _ _
end
def yP(s:ae):Option Int:=
 (rh s).bind λo9=>
 if o9=true then
  some 3
 else
  (ri s (s.length:Int) 0).bind λo23=>match o23 with
  |(.inl o23)=>
   some 3
  |(.inr o23)=>
   some 0
theorem V0{s:ae}:OV 152 [.str s] (yP s) (λr=>.int .i64 r) []:=qgd.v<|
 tb λo9 bo9=>fc 2<|bT (PW s _ bo9)<|tF tE<|bL (lR underlying9 s)<|t2 (λo23 bo23=>bT (Fl s (s.length:Int) 0 _ bo23)<|tE) λo23 bo23=>bT (Fl s (s.length:Int) 0 _ bo23)<|tE
noncomputable def qpR:Code:=f206.body.getD .skip
def qnv:List Nat:=[]
theorem qoR:ZF Pg qnv 206 f206 qpR:=zf call206 func206 rfl mixed
def kQ(c:Int):Option Bool:=
 if decide (c>=65)=true then
  some (decide (c<=90))
 else
  some false
theorem zb{c:Int}:OV 206 [.int .u8 c] (kQ c) (λr=>.bool r) []:=qoR.v<|
 tf (λc1=>tg 3 c1<|tE) λc1=>tg 3 c1<|tE
noncomputable def qd6:Code:=f153.body.getD .skip
def qmJ:List Nat:=[38]
theorem qge:ZF Pg qmJ 153 f153 qd6:=zf call153 func153 rfl mixed
section
variable(s:ae)
def rl:Option Bool:=
 if decide ((s.length:Int)<1)=true then
  some true
 else if decide ((s.length:Int)>24)=true then
  some true
 else
  (jC s 0).bind λc4=>
  (kQ c4).bind λr5=>
  if(!r5)=true then
   some true
  else if(s==([73,110,116]:ae))=true then
   some true
  else if(s==([66,111,111,108]:ae))=true then
   some true
  else if(s==([67,101,108,108]:ae))=true then
   some true
  else
   some (s==([70,117,110]:ae))
theorem P3:OJ 0 (cA qd6 12) (rl s) .normal (λo=>aQ 59 [(0,.str s),(33,.bool o)] [] []) (aQ 59 [(0,.str s)] [] []):=qge.j<|
 tf (λc1=>bL (lR underlying9 s)<|tg 4 c1<|tE) λc1=>have pp3:=λ{X Y Z} (r:PV _ X Y Z)=>bL (lR underlying9 s)<|tg 4 c1<|bL (lR underlying9 s)<|r;tf (λc2=>pp3<|tg 9 c2<|tE) λc2=>tb λc4 bc4=>tb λr5 br5=>have pp7:=λ{X Y Z} (r:PV _ X Y Z)=>pp3<|tg 9 c2<|tv (fF (k:=.i64) underlying9 bc4)<|bG (zb _ br5)<|r;tf (λc6=>pp7<|tg 15 c6<|tE) λc6=>have pp9:=λ{X Y Z} (r:PV _ X Y Z)=>pp7<|tg 15 c6<|r;tf (λc8=>pp9<|tg 19 c8<|tE) λc8=>have pp11:=λ{X Y Z} (r:PV _ X Y Z)=>pp9<|tg 19 c8<|r;tf (λc10=>pp11<|tg 23 c10<|tE) λc10=>have pp13:=λ{X Y Z} (r:PV _ X Y Z)=>pp11<|tg 23 c10<|r;tf (λc12=>pp13<|tg 27 c12<|tE) λc12=>pp13<|tg 27 c12<|tE
end
section
variable(s:ae)(i:Int)(t35:Int)
def lb:Option Bool:=
 (jC s i).bind λc17=>
 (ko c17).bind λr18=>
 if(!r18)=true then
  (jC s i).bind λc21=>
  (kQ c21).bind λr22=>
  if(!r22)=true then
   (jC s i).bind λc25=>
   (nT c25).bind λr26=>
   some (!r26)
  else
   some false
 else
  some false
theorem P5:OJ 0 (cA qd6 7670) (lb s i) .normal (λo=>aQ 59 [(0,.str s),(35,.int .i64 t35),(36,.int .i64 i),(57,.bool o)] [] []) (aQ 59 [(0,.str s),(3,.int .i64 i),(35,.int .i64 t35),(36,.int .i64 i)] [] []):=qge.j<|
 tb λc17 bc17=>tb λr18 br18=>have pp20:=λ{X Y Z} (r:PV _ X Y Z)=>tv (fF (k:=.i64) underlying9 bc17)<|bG (nV _ br18)<|r;tf (λc19=>tb λc21 bc21=>tb λr22 br22=>have pp24:=λ{X Y Z} (r:PV _ X Y Z)=>pp20<|tg 6 c19<|tv (fF (k:=.i64) underlying9 bc21)<|bG (zb _ br22)<|r;tf (λc23=>tb λc25 bc25=>tb λr26 br26=>pp24<|tg 13 c23<|tv (fF (k:=.i64) underlying9 bc25)<|bG (xX _ br26)<|tE) λc23=>pp24<|tg 13 c23<|tE) λc19=>pp20<|tg 6 c19<|tE
end
section
variable(s:ae)(t35:Int)(t36:Int)
def y9:aK:=aQ 59 [(0,.str s),(35,.int .i64 t35),(36,.int .i64 t36)] [] []
def GQ(o:Unit⊕(Unit)):Exit:=match o with
 |(.inl _)=>.ret
 |(.inr _)=>.exit 0
def GR(o:Unit⊕(Unit)):aK:=match o with
 |(.inl o)=>aQ 59 [(2,.int .i64 3)] [] []
 |(.inr o)=>aQ 59 [] [] []
def mV:Option (Int⊕(Unit⊕(Unit))):=
 if decide (t36<t35)=true then
  (lb s t36).bind λo27=>
  if o27=true then
   some (.inr (.inl ()))
  else
   some (.inl (dt (t36+1)))
 else
  some (.inr (.inr ()))
def rm:Option (Unit⊕(Unit)):=loop (λ(zz:Int)=>mV s t35 zz) t36
theorem NA:OL 0 (cA qd6 119) (mV s t35 t36) (λ(zz:Int)=>y9 s t35 zz) GQ GR (y9 s t35 t36):=qge.l<|
 tF (tb λo27 bo27=>fc 2<|bT (P5 s t36 t35 _ bo27)<|tF tE<|tE)<|tE
theorem Fm:OK 0 (.loop (cA qd6 119)) (rm s t35 t36) GQ GR (y9 s t35 t36):=AN λ_=>NA _ _ _
end
def yQ(s:ae):Option Int:=
 (rl s).bind λo14=>
 if o14=true then
  some 3
 else
  (rm s (s.length:Int) 0).bind λo29=>match o29 with
  |(.inl o29)=>
   some 3
  |(.inr o29)=>
   some 0
theorem V2{s:ae}:OV 153 [.str s] (yQ s) (λr=>.int .i64 r) []:=qge.v<|
 tb λo14 bo14=>fc 2<|bT (P3 s _ bo14)<|tF tE<|bL (lR underlying9 s)<|t2 (λo29 bo29=>bT (Fm s (s.length:Int) 0 _ bo29)<|tE) λo29 bo29=>bT (Fm s (s.length:Int) 0 _ bo29)<|tE
noncomputable def qd7:Code:=f154.body.getD .skip
def qmK:List Nat:=[21]
theorem qgf:ZF Pg qmK 154 f154 qd7:=zf call154 func154 rfl mixed
section
variable(p:ae)
def A2:Option Bool:=
 if decide ((p.length:Int)<1)=true then
  some true
 else
  some (decide ((p.length:Int)>24))
theorem Rv:OJ 0 (cA qd7 12) (A2 p) .normal (λo=>aQ 65 [(0,.str p),(13,.bool o)] [] []) (aQ 65 [(0,.str p)] [] []):=qgf.j<|
 tf (λc1=>bL (lR underlying9 p)<|tg 4 c1<|tE) λc1=>bL (lR underlying9 p)<|tg 4 c1<|bL (lR underlying9 p)<|tE
end
section
variable(p:ae)(plain:Bool)(word:Bool)(i:Int)(t18:Int)
def qC:Option Bool:=
 if plain=true then
  (jC p i).bind λc8=>
  (ko c8).bind λr9=>
  if r9=true then
   some true
  else
   (jC p i).bind λc12=>
   (kQ c12).bind λr13=>
   if r13=true then
    some true
   else
    (jC p i).bind λc16=>
    (nT c16).bind λr17=>
    some r17
 else
  some false
theorem Rx:OJ 0 (cA qd7 32246) (qC p plain i) .normal (λo=>aQ 65 [(0,.str p),(3,.bool o),(4,.bool word),(5,.int .i64 i),(18,.int .i64 t18),(19,.int .i64 i)] [] []) (aQ 65 [(0,.str p),(3,.bool plain),(4,.bool word),(5,.int .i64 i),(18,.int .i64 t18),(19,.int .i64 i)] [] []):=qgf.j<|
 tf (λc7=>tb λc8 bc8=>tb λr9 br9=>have pp11:=λ{X Y Z} (r:PV _ X Y Z)=>tg 2 c7<|tv (fF (k:=.i64) underlying9 bc8)<|bG (nV _ br9)<|r;tf (λc10=>pp11<|tg 7 c10<|tE) λc10=>tb λc12 bc12=>tb λr13 br13=>have pp15:=λ{X Y Z} (r:PV _ X Y Z)=>pp11<|tg 7 c10<|tv (fF (k:=.i64) underlying9 bc12)<|bG (zb _ br13)<|r;tf (λc14=>pp15<|tg 13 c14<|tE) λc14=>tb λc16 bc16=>tb λr17 br17=>pp15<|tg 13 c14<|tv (fF (k:=.i64) underlying9 bc16)<|bG (xX _ br17)<|tE) λc7=>tg 2 c7<|tE
end
section
variable(p:ae)(t18:Int)(plain:Bool)(word:Bool)(t19:Int)
def Ck:aK:=aQ 65 [(0,.str p),(3,.bool plain),(4,.bool word),(18,.int .i64 t18),(19,.int .i64 t19)] [] []
def JK(o:Bool×Bool):aK:=aQ 65 [(3,.bool o.1),(4,.bool o.2)] [] []
def gg:Option ((Bool×Bool×Int)⊕((Bool×Bool))):=
 if decide (t19<t18)=true then
  (qC p plain t19).bind λo18=>
  if word=true then
   (jC p t19).bind λc20=>
   (ko c20).bind λr21=>
   if r21=true then
    some (.inl (o18,true,dt (t19+1)))
   else
    (jC p t19).bind λc24=>
    (nT c24).bind λr25=>
    if r25=true then
     some (.inl (o18,true,dt (t19+1)))
    else
     (jC p t19).bind λc28=>
     some (.inl (o18,c28==95,dt (t19+1)))
  else
   some (.inl (o18,false,dt (t19+1)))
 else
  some (.inr (plain,word))
def vJ:Option ((Bool×Bool)):=loop (λ(zz:Bool×Bool×Int)=>gg p t18 zz.1 zz.2.1 zz.2.2) (plain,word,t19)
theorem P9:OL 0 (cA qd7 503) (gg p t18 plain word t19) (λ(zz:Bool×Bool×Int)=>Ck p t18 zz.1 zz.2.1 zz.2.2) (λ_=>.exit 0) JK (Ck p t18 plain word t19):=qgf.l<|
 tF (tb λo18 bo18=>fc 2<|bT (Rx p plain word t19 t18 _ bo18)<|tf (λc19=>tb λc20 bc20=>tb λr21 br21=>have pp23:=λ{X Y Z} (r:PV _ X Y Z)=>tg 2 c19<|tv (fF (k:=.i64) underlying9 bc20)<|bG (nV _ br21)<|r;tf (λc22=>pp23<|tg 7 c22<|tE) λc22=>tb λc24 bc24=>tb λr25 br25=>have pp27:=λ{X Y Z} (r:PV _ X Y Z)=>pp23<|tg 7 c22<|tv (fF (k:=.i64) underlying9 bc24)<|bG (xX _ br25)<|r;tf (λc26=>pp27<|tg 13 c26<|tE) λc26=>tb λc28 bc28=>pp27<|tg 13 c26<|tv (fF (k:=.i64) underlying9 bc28)<|tE) λc19=>tg 2 c19<|tE)<|tE
theorem Rz:OJ 0 (.loop (cA qd7 503)) (vJ p t18 plain word t19) (.exit 0) JK (Ck p t18 plain word t19):=y1 λ_=>P9 _ _ _ _ _
end
def CV(p:ae):Option Bool:=
 (A2 p).bind λo2=>
 if o2=true then
  some false
 else
  (jC p 0).bind λc4=>
  (ko c4).bind λr5=>
  (vJ p (p.length:Int) true r5 0).bind λo29=>
  if o29.1=true then
   some true
  else
   some o29.2
theorem XX{p:ae}:OV 154 [.str p] (CV p) (λr=>.bool r) []:=qgf.v<|
 tb λo2 bo2=>fc 2<|bT (Rv p _ bo2)<|tF tE<|tb λc4 bc4=>tb λr5 br5=>tb λo29 bo29=>tv (fF (k:=.i64) underlying9 bc4)<|bG (nV _ br5)<|bL (lR underlying9 p)<|bT (Rz p (p.length:Int) true r5 0 _ bo29)<|tf (λc30=>tg 2 c30<|tE) λc30=>tg 2 c30<|tE
noncomputable def qgw:Code:=f100.body.getD .skip
def ql7:List Nat:=[]
theorem qiv:ZF Pg ql7 100 f100 qgw:=zf call100 func100 rfl mixed
section
variable(v:waA)
def qA:Option Bool:=
 (cX v 0).bind λx3=>
 (yP x3).bind λr4=>
 if (r4 != 0) = true then
  (cX v 0).bind λx7=>
  (yQ x7).bind λr8=>
  if(r8 !=0)=true then
   (cX v 0).bind λx11=>
   if(!(x11==([118]:ae)))=true then
    some true
   else
    some ((v.length:Int)==1)
  else
   some false
 else
  some false
theorem Rr:OJ 0 (cA qgw 60) (qA v) .normal (λo=>aQ 45 [(3,sl cS v),(33,.bool o)] [] [((3,0),9)]) (aQ 45 [(3,sl cS v)] [] [((3,0),9)]):=qiv.j<|
 tb λx3 bx3=>tb λr4 br4=>have pp6:=λ{X Y Z} (r:PV _ X Y Z)=>tv (d8.ia (k:=.i64) bx3)<|tv (eC XC (.str x3) [])<|bG (V0 _ br4)<|r;tf (λc5=>tb λx7 bx7=>tb λr8 br8=>have pp10:=λ{X Y Z} (r:PV _ X Y Z)=>pp6<|tg 6 c5<|tv (d8.ia (k:=.i64) bx7)<|tv (eC XC (.str x7) [])<|bG (V2 _ br8)<|r;tf (λc9=>tb λx11 bx11=>have pp13:=λ{X Y Z} (r:PV _ X Y Z)=>pp10<|tg 13 c9<|tv (d8.ia (k:=.i64) bx11)<|tv (eC XC (.str x11) [])<|r;tf (λc12=>pp13<|tg 18 c12<|tE) λc12=>pp13<|tg 18 c12<|bL (d8.ln v)<|tE) λc9=>pp10<|tg 13 c9<|tE) λc5=>pp6<|tg 6 c5<|tE
end
section
variable(t35:waA)(t36:Int)(t37:Int)
def Ci:aK:=aQ 45 [(35,sl cS t35),(36,.int .i64 t36),(37,.int .i64 t37)] [] []
def JG(o:Unit⊕(Unit)):Exit:=match o with
 |(.inl _)=>.ret
 |(.inr _)=>.exit 0
def JH(o:Unit⊕(Unit)):aK:=match o with
 |(.inl o)=>aQ 45 [(2,.int .i64 3)] [] []
 |(.inr o)=>aQ 45 [] [] []
def po:Option (Int⊕(Unit⊕(Unit))):=
 if decide (t37<t36)=true then
  (cX t35 t37).bind λx18=>
  (CV x18).bind λr19=>
  if(!r19)=true then
   some (.inr (.inl ()))
  else
   some (.inl (dt (t37+1)))
 else
  some (.inr (.inr ()))
def AZ:Option (Unit⊕(Unit)):=loop (λ(zz:Int)=>po t35 t36 zz) t37
theorem P0:OL 0 (cA qgw 503) (po t35 t36 t37) (λ(zz:Int)=>Ci t35 t36 zz) JG JH (Ci t35 t36 t37):=qiv.l<|
 tF (tb λx18 bx18=>tb λr19 br19=>tv (d8.ia (k:=.i64) bx18)<|tv (eC XC (.str x18) [])<|bG (XX _ br19)<|tF tE<|tE)<|tE
theorem GL:OK 0 (.loop (cA qgw 503)) (AZ t35 t36 t37) JG JH (Ci t35 t36 t37):=AN λ_=>P0 _ _ _
end
def io(s:ae):Option Int:=
 if decide ((s.length:Int)>120)=true then
  some 3
 else
  (yR s).bind λr2=>
  (qA r2).bind λo14=>
  if o14=true then
   some 3
  else
   (OY r2 (some 1) none).bind λl16=>
   (AZ l16 (l16.length:Int) 0).bind λo21=>match o21 with
   |(.inl o21)=>
    some 3
   |(.inr o21)=>
    some 0
theorem gq{s:ae}:OV 100 [.str s] (io s) (λr=>.int .i64 r) []:=qiv.v<|
 bL (lR underlying9 s)<|tF tE<|tb λr2 br2=>tb λo14 bo14=>bG (V4 _ br2)<|fc 1<|bT (Rr r2 _ bo14)<|tF tE<|tb λl16 bl16=>tv (d8.sc bl16)<|bL (d8.ln l16)<|t2 (λo21 bo21=>bT (GL l16 (l16.length:Int) 0 _ bo21)<|tE) λo21 bo21=>bT (GL l16 (l16.length:Int) 0 _ bo21)<|tE
noncomputable def Ye:Code:=f218.body.getD .skip
def qnG:List Nat:=[]
theorem qdU:ZF Pg qnG 218 f218 Ye:=zf call218 func218 rfl mixed
section
variable(e:ag)(v:aj)
def Ed:Option Bool:=
 if v.name=true then
  (io e.Name).bind λr3=>
  some (r3 !=0)
 else
  some false
theorem Qp:OJ 0 (cA Ye 12) (Ed e v) .normal (λo=>aQ 68 [(2,.eptr (ah e)),(15,.bool o)] [.dead,.dead] []) (aQ 68 [(2,.eptr (ah e)),(3,.eptr (au v))] [.dead,.dead] []):=qdU.j<|
 have pp2:=λ{X Y Z} (r:PV _ X Y Z)=>tw (qV v)<|r;tf (λc1=>tb λr3 br3=>pp2<|tg 3 c1<|tw (ch e)<|bG (gq _ br3)<|tE) λc1=>pp2<|tg 3 c1<|tE
end
section
variable(e:ag)(i:Int)
def zu:aK:=aQ 68 [(2,.eptr (ah e)),(5,.int .i64 i)] [.dead,.dead] []
def Ha(o:Unit⊕(Unit)):Exit:=match o with
 |(.inl _)=>.ret
 |(.inr _)=>.exit 0
def Hb(o:Unit⊕(Unit)):aK:=match o with
 |(.inl o)=>aQ 68 [(4,.bool false)] [.dead,.dead] []
 |(.inr o)=>aQ 68 [(2,.eptr (ah e))] [.dead,.dead] []
def mZ:Option (Int⊕(Unit⊕(Unit))):=
 if decide (i<(e.Params.length:Int))=true then
  (cX e.Params i).bind λx7=>
  (io x7.Name).bind λr8=>
  if(r8 !=0)=true then
   some (.inr (.inl ()))
  else
   some (.inl (dt (i+1)))
 else
  some (.inr (.inr ()))
def yc:Option (Unit⊕(Unit)):=loop (λ(zz:Int)=>mZ e zz) i
theorem NP:OL 0 (cA Ye 119) (mZ e i) (λ(zz:Int)=>zu e zz) Ha (Hb e) (zu e i):=qdU.l<|
 tw (aS e)<|bL (pj.ln e.Params)<|tF (tb λx7 bx7=>tb λr8 br8=>tw (aS e)<|tv (pj.ia (k:=.i64) bx7)<|tw (o0 x7)<|bG (gq _ br8)<|tF tE<|tE)<|tE
theorem Fr:OK 0 (.loop (cA Ye 119)) (yc e i) Ha (Hb e) (zu e i):=AN λ_=>NP _ _
end
section
variable(e:ag)(i:Int)(k:Int)
def zw:aK:=aQ 68 [(2,.eptr (ah e)),(6,.int .i64 i),(7,.int .i64 k)] [.dead,.dead] []
def Hf(o:Unit⊕(Unit)):Exit:=match o with
 |(.inl _)=>.ret
 |(.inr _)=>.exit 4
def Hg(o:Unit⊕(Unit)):aK:=match o with
 |(.inl o)=>aQ 68 [(4,.bool false)] [.dead,.dead] []
 |(.inr o)=>aQ 68 [(2,.eptr (ah e)),(6,.int .i64 i)] [.dead,.dead] []
def nc:Option (Int⊕(Unit⊕(Unit))):=
 (cX e.Alts i).bind λx15=>
 if decide (k<(x15.Names.length:Int))=true then
  (cX e.Alts i).bind λx17=>
  (cX x17.Names k).bind λx18=>
  (io x18).bind λr19=>
  if(r19 !=0)=true then
   some (.inr (.inl ()))
  else
   some (.inl (dt (k+1)))
 else
  some (.inr (.inr ()))
def ye:Option (Unit⊕(Unit)):=loop (λ(zz:Int)=>nc e i zz) k
theorem NR:OL 0 (cA Ye 31711) (nc e i k) (λ(zz:Int)=>zw e i zz) Hf (Hg e i) (zw e i k):=qdU.l<|
 tb λx15 bx15=>tw (aB e)<|tv (gz.ia (k:=.i64) bx15)<|tw (iB x15)<|bL (d8.ln x15.Names)<|tF (tb λx17 bx17=>tb λx18 bx18=>tb λr19 br19=>tw (aB e)<|tv (gz.ia (k:=.i64) bx17)<|tw (iB x17)<|tv (d8.ia (k:=.i64) bx18)<|tv (eC XC (.str x18) [])<|bG (gq _ br19)<|tF tE<|tE)<|tE
theorem Ft:OK 0 (.loop (cA Ye 31711)) (ye e i k) Hf (Hg e i) (zw e i k):=AN λ_=>NR _ _ _
end
section
variable(e:ag)(i:Int)
def zv:aK:=aQ 68 [(2,.eptr (ah e)),(6,.int .i64 i)] [.dead,.dead] []
def Hd(o:Unit⊕(Unit)):Exit:=match o with
 |(.inl _)=>.ret
 |(.inr _)=>.exit 2
def He(o:Unit⊕(Unit)):aK:=match o with
 |(.inl o)=>aQ 68 [(4,.bool false)] [.dead,.dead] []
 |(.inr o)=>aQ 68 [] [.dead,.dead] []
def na:Option (Int⊕(Unit⊕(Unit))):=
 if decide (i<(e.Alts.length:Int))=true then
  (cX e.Alts i).bind λx12=>
  (io x12.Con).bind λr13=>
  if(r13 !=0)=true then
   some (.inr (.inl ()))
  else
   (ye e i 0).bind λo21=>match o21 with
   |(.inl o21)=>
    some (.inr (.inl ()))
   |(.inr o21)=>
    some (.inl (dt (i+1)))
 else
  some (.inr (.inr ()))
def yd:Option (Unit⊕(Unit)):=loop (λ(zz:Int)=>na e zz) i
theorem NQ:OL 0 (cA Ye 247) (na e i) (λ(zz:Int)=>zv e zz) Hd He (zv e i):=qdU.l<|
 tw (aB e)<|bL (gz.ln e.Alts)<|tF (tb λx12 bx12=>tb λr13 br13=>tw (aB e)<|tv (gz.ia (k:=.i64) bx12)<|tw (BH x12)<|bG (gq _ br13)<|tF tE<|t2 (λo21 bo21=>bT (Ft e i 0 _ bo21)<|tE) λo21 bo21=>bT (Ft e i 0 _ bo21)<|tE)<|tE
theorem Fs:OK 0 (.loop (cA Ye 247)) (yd e i) Hd He (zv e i):=AN λ_=>NQ _ _
end
def Ir(e:ag)(a:aj):Option Bool:=
 (Ed e a).bind λo4=>
 if o4=true then
  some false
 else
  (yc e 0).bind λo10=>match o10 with
  |(.inl o10)=>
   some false
  | (.inr o10) =>
   (yd e 0).bind λo22=>match o22 with
   |(.inl o22)=>
    some false
   |(.inr o22)=>
    some true
theorem Wg{e:ag}{a:aj}:OV 218 [.agg (ah e),.agg (au a)] (Ir e a) (λr=>.bool r) []:=qdU.v<|
 tb λo4 bo4=>te (bQ e)<|te (qQ a)<|fc 1<|bT (Qp e a _ bo4)<|tF tE<|t2 (λo10 bo10=>bT (Fr e 0 _ bo10)<|tE) λo10 bo10=>bT (Fr e 0 _ bo10)<|t2 (λo22 bo22=>bT (Fs e 0 _ bo22)<|tE) λo22 bo22=>bT (Fs e 0 _ bo22)<|tE
noncomputable def qjc:Code:=f243.body.getD .skip
def qnZ:List Nat:=[8]
theorem qkG:ZF Pg qnZ 243 f243 qjc:=zf call243 func243 rfl mixed
section
variable(v:waA)(t5:Int)(t6:Int)
def rj:aK:=aQ 18 [(0,sl cS v),(5,.int .i64 t5),(6,.int .i64 t6)] [] []
def A0(o:Unit⊕(Unit)):Exit:=match o with
 |(.inl _)=>.ret
 |(.inr _)=>.exit 0
def A1(o:Unit⊕(Unit)):aK:=match o with
 |(.inl o)=>aQ 18 [(2,.bool false)] [] []
 |(.inr o)=>aQ 18 [] [] []
def ms:Option (Int⊕(Unit⊕(Unit))):=
 if decide (t6<t5)=true then
  (cX v t6).bind λx2=>
  (GM v x2).bind λr3=>
  if(r3 !=t6)=true then
   some (.inr (.inl ()))
  else
   some (.inl (dt (t6+1)))
 else
  some (.inr (.inr ()))
def wH:Option (Unit⊕(Unit)):=loop (λ(zz:Int)=>ms v t5 zz) t6
theorem I2:OL 0 (cA qjc 55) (ms v t5 t6) (λ(zz:Int)=>rj v t5 zz) A0 A1 (rj v t5 t6):=qkG.l<|
 tF (tb λx2 bx2=>tb λr3 br3=>tv (d8.ia (k:=.i64) bx2)<|tv (eC XC (.str x2) [])<|bG (Pe _ br3)<|tF tE<|tE)<|tE
theorem y8:OK 0 (.loop (cA qjc 55)) (wH v t5 t6) A0 A1 (rj v t5 t6):=AN λ_=>I2 _ _ _
end
def la(a:waA):Option Bool:=
 (wH a (a.length:Int) 0).bind λo5=>match o5 with
 |(.inl o5)=>
  some false
 |(.inr o5)=>
  some true
theorem pU{a:waA}:OV 243 [sl cS a] (la a) (λr=>.bool r) []:=qkG.v<|
 bL (d8.ln a)<|t2 (λo5 bo5=>bT (y8 a (a.length:Int) 0 _ bo5)<|tE) λo5 bo5=>bT (y8 a (a.length:Int) 0 _ bo5)<|tE
noncomputable def qeb:Code:=f219.body.getD .skip
def qnH:List Nat:=[14,30]
theorem qiG:ZF Pg qnH 219 f219 qeb:=zf call219 func219 rfl mixed
section
variable(e:ag)(params:waA)(i:Int)
def ry:aK:=aQ 53 [(1,.eptr (ah e)),(3,sl cS params),(4,sl cS ([]:List ae)),(5,.int .i64 i)] [.dead] [((4,0),9),((3,0),9)]
def Bl(o:waA):aK:=aQ 53 [(1,.eptr (ah e)),(3,sl cS o),(4,sl cS ([]:List ae))] [.dead] [((4,0),9),((3,0),9)]
def fg:Option ((waA×Int)⊕(waA)):=
 if decide (i<(e.Params.length:Int))=true then
  (cX e.Params i).bind λx2=>
  (app params ([x2.Name]:List ae)).bind λl3=>
  some (.inl (l3,dt (i+1)))
 else
  some (.inr params)
def pV:Option waA:=loop (λ(zz:waA×Int)=>fg e zz.1 zz.2) (params,i)
theorem I4:OL 0 (cA qeb 119) (fg e params i) (λ(zz:waA×Int)=>ry e zz.1 zz.2) (λ_=>.exit 0) (Bl e) (ry e params i):=qiG.l<|
 tw (aS e)<|bL (pj.ln e.Params)<|tF (tb λx2 bx2=>tb λl3 bl3=>tw (aS e)<|tv (pj.ia (k:=.i64) bx2)<|tw (o0 x2)<|tv (bJ [x2.Name] 1 rfl)<|tv (d8.ap bl3)<|tE)<|tE
theorem Kj:OJ 0 (.loop (cA qeb 119)) (pV e params i) (.exit 0) (Bl e) (ry e params i):=y1 λ_=>I4 _ _ _
end
section
variable(e:ag)(params:waA)(cons:waA)(i:Int)
def rz:aK:=aQ 53 [(1,.eptr (ah e)),(3,sl cS params),(4,sl cS cons),(6,.int .i64 i)] [.dead] [((4,0),9),((3,0),9)]
def Bm(o:Unit⊕(waA)):Exit:=match o with
 |(.inl _)=>.ret
 |(.inr _)=>.exit 2
def Bn(o:Unit⊕(waA)):aK:=match o with
 |(.inl o)=>aQ 53 [(2,.bool false)] [.dead] []
 |(.inr o)=>aQ 53 [(3,sl cS params),(4,sl cS o)] [.dead] [((4,0),9),((3,0),9)]
def gD:Option ((waA×Int)⊕(Unit⊕(waA))):=
 if decide (i<(e.Alts.length:Int))=true then
  (cX e.Alts i).bind λx6=>
  (app cons ([x6.Con]:List ae)).bind λl7=>
  (cX e.Alts i).bind λx8=>
  (la x8.Names).bind λr9=>
  if(!r9)=true then
   some (.inr (.inl ()))
  else
   some (.inl (l7,dt (i+1)))
 else
  some (.inr (.inr cons))
def gN:Option (Unit⊕(waA)):=loop (λ(zz:waA×Int)=>gD e zz.1 zz.2) (cons,i)
theorem I5:OL 0 (cA qeb 247) (gD e cons i) (λ(zz:waA×Int)=>rz e params zz.1 zz.2) Bm (Bn params) (rz e params cons i):=qiG.l<|
 tw (aB e)<|bL (gz.ln e.Alts)<|tF (tb λx6 bx6=>tb λl7 bl7=>tb λx8 bx8=>tb λr9 br9=>tw (aB e)<|tv (gz.ia (k:=.i64) bx6)<|tw (BH x6)<|tv (bJ [x6.Con] 1 rfl)<|tv (d8.ap bl7)<|tw (aB e)<|tv (gz.ia (k:=.i64) bx8)<|tw (iB x8)<|bG (pU _ br9)<|tF tE<|tE)<|tE
theorem zt:OK 0 (.loop (cA qeb 247)) (gN e cons i) Bm (Bn params) (rz e params cons i):=AN λ_=>I5 _ _ _ _
end
def yb(e:ag):Option Bool:=
 (pV e ([]:List ae) 0).bind λo4=>
 (gN e ([]:List ae) 0).bind λo11=>match o11 with
 |(.inl o11)=>
  some false
 | (.inr o11) =>
  (la o4).bind λr12=>
  if r12=true then
   (la o11).bind λr14=>
   some r14
  else
   some false
theorem Qn{e:ag}:OV 219 [.agg (ah e)] (yb e) (λr=>.bool r) []:=qiG.v<|
 tb λo4 bo4=>te (bQ e)<|bT (Kj e ([]:List ae) 0 _ bo4)<|t2 (λo11 bo11=>bT (zt e o4 ([]:List ae) 0 _ bo11)<|tE) λo11 bo11=>tb λr12 br12=>bT (zt e o4 ([]:List ae) 0 _ bo11)<|tf (λc13=>tb λr14 br14=>bG (pU _ br12)<|tg 3 c13<|bG (pU _ br14)<|tE) λc13=>bG (pU _ br12)<|tg 3 c13<|tE
abbrev By:=(af->Option Int)
abbrev Gy(R:By):Prop:=∀(t:af),OV 97 [.agg (ai t)] (R t) (λr=>.int .i64 r) []
noncomputable def qqi:Code:=f97.body.getD .skip
def qsy:List Nat:=[]
theorem qrd:ZF Pg qsy 97 f97 qqi:=zf call97 func97 rfl mixed
section
variable(R165:By)(t7:waB)(t8:Int)(n:Int)(t9:Int)
def rt:aK:=aQ 20 [(3,.int .i64 n),(7,sl ai t7),(8,.int .i64 t8),(9,.int .i64 t9)] [.dead] []
def zh(o:Int):aK:=aQ 20 [(3,.int .i64 o)] [.dead] []
instance iS_R19_Depth_L1:KS 0 (rt t7 t8 n t9):=⟨rfl,(bD (aI vzz (aI (up (aZ cJ t7)) (aI vzz (aI vzz vzz))))),(aI vzz vzz)⟩
instance iO_R19_Depth_L1{o:Int}:KS 0 (zh o):=⟨rfl,(bD (aI vzz vzz)),(aI vzz vzz)⟩
def ip:Option ((Int×Int)⊕(Int)):=
 if decide (t9<t8)=true then
  (cX t7 t9).bind λx2=>
  (R165 x2).bind λr3=>
  some (.inl ((if r3>n then r3 else n),dt (t9+1)))
 else
  some (.inr n)
def rr:Option Int:=loop (λ(zz:Int×Int)=>ip R165 t7 t8 zz.1 zz.2) (n,t9)
theorem NE(hR165:Gy R165):OL 0 (cA qqi 119) (ip R165 t7 t8 n t9) (λ(zz:Int×Int)=>rt t7 t8 zz.1 zz.2) (λ_=>.exit 0) zh (rt t7 t8 n t9):=qrd.lx<|
 tF (tb λx2 bx2=>tb λr3 br3=>tv (cu.ia (k:=.i64) bx2)<|tv (bo x2)<|tx K8<|tx (gJ x2)<|tv (ed x2 [])<|bG (hR165 _ _ br3)<|tE)<|tE
theorem Qi(hR165:Gy R165):OJ 0 (.loop (cA qqi 119)) (rr R165 t7 t8 n t9) (.exit 0) zh (rt t7 t8 n t9):=y1 λ_=>NE _ _ _ _ _ hR165
end
def qE(R165:By)(t:af):Option Int:=
 (rr R165 t.Args (t.Args.length:Int) 0 0).bind λo4=>
 some (dt (o4+1))
theorem T7(R165:By)(hR165:Gy R165){t:af}:OV 97 [.agg (ai t)] (qE R165 t) (λr=>.int .i64 r) []:=qrd.v<|
 tb λo4 bo4=>te (dR t)<|tw (aM t)<|bL (cu.ln t.Args)<|bT (Qi R165 t.Args (t.Args.length:Int) 0 0 hR165 _ bo4)<|tE
def vT:(af->Option Int)->(af)->Option Int:=λ(rec:af->Option Int) (x:af)=>qE (λt=>rec t) x
def yU(t:af):Option Int:=pA vT t
theorem Wb{t:af}:OV 97 [.agg (ai t)] (yU t) (λr=>.int .i64 r) []:=Do λ_ h=>
 dN (F:=vT) (M:=λ(x:af) (r:Int)=>CC Pg GE 97 [.agg (ai x)] (.int .i64 r) []) (λrec hrec x r h=>T7 _ (λt=>Do λr h=>hrec t r h) _ h) h
abbrev Er:=(af->Option Int)
abbrev Kd(R:Er):Prop:=∀(t:af),OV 98 [.agg (ai t)] (R t) (λr=>.int .i64 r) []
noncomputable def qpK:Code:=f195.body.getD .skip
def qnk:List Nat:=[]
theorem qoK:ZF Pg qnk 195 f195 qpK:=zf call195 func195 rfl mixed
def vU(s:ae)(capital:Bool):Option Bool:=
 (io s).bind λr1=>
 if(r1==0)=true then
  (jC s 0).bind λc3=>
  if decide (c3>=65)=true then
   (jC s 0).bind λc6=>
   some ((decide (c6<=90))==capital)
  else
   some (false==capital)
 else
  some false
theorem G1{s:ae}{capital:Bool}:OV 195 [.str s,.bool capital] (vU s capital) (λr=>.bool r) []:=qoK.v<|
 tb λr1 br1=>tf (λc2=>tb λc3 bc3=>have pp5:=λ{X Y Z} (r:PV _ X Y Z)=>bG (gq _ br1)<|tg 4 c2<|tv (fF (k:=.i64) underlying9 bc3)<|r;tf (λc4=>tb λc6 bc6=>pp5<|tg 8 c4<|tv (fF (k:=.i64) underlying9 bc6)<|tE) λc4=>pp5<|tg 8 c4<|tE) λc2=>bG (gq _ br1)<|tg 4 c2<|tE
noncomputable def qd4:Code:=f148.body.getD .skip
def qmE:List Nat:=[]
theorem qdS:ZF Pg qmE 148 f148 qd4:=zf call148 func148 rfl mixed
section
variable(t:af)
def jp:Option Bool:=
 if decide (t.Op<1)=true then
  some true
 else if decide (t.Op>6)=true then
  some true
 else if(!(t.Name==([]:ae)))=true then
  if (t.Op != 4) = true then
   if(t.Op !=5)=true then
    some true
   else if decide ((t.Args.length:Int)>0)=true then
    if(t.Op !=4)=true then
     if(t.Op !=6)=true then
      some true
     else if decide ((t.Names.length:Int)>0)=true then
      some (t.Op !=6)
     else
      some false
    else if decide ((t.Names.length:Int)>0)=true then
     some (t.Op !=6)
    else
     some false
   else if decide ((t.Names.length:Int)>0)=true then
    some (t.Op !=6)
   else
    some false
  else if decide ((t.Args.length:Int)>0)=true then
   if(t.Op !=4)=true then
    if(t.Op !=6)=true then
     some true
    else if decide ((t.Names.length:Int)>0)=true then
     some (t.Op !=6)
    else
     some false
   else if decide ((t.Names.length:Int)>0)=true then
    some (t.Op !=6)
   else
    some false
  else if decide ((t.Names.length:Int)>0)=true then
   some (t.Op !=6)
  else
   some false
 else if decide ((t.Args.length:Int)>0)=true then
  if(t.Op !=4)=true then
   if(t.Op !=6)=true then
    some true
   else if decide ((t.Names.length:Int)>0)=true then
    some (t.Op !=6)
   else
    some false
  else if decide ((t.Names.length:Int)>0)=true then
   some (t.Op !=6)
  else
   some false
 else if decide ((t.Names.length:Int)>0)=true then
  some (t.Op !=6)
 else
  some false
theorem RP:OJ 0 (cA qd4 12) (jp t) .normal (λo=>aQ 113 [(1,.eptr (ai t)),(52,.bool o)] [.dead] []) (aQ 113 [(1,.eptr (ai t))] [.dead] []):=qdS.j<|
 have pp2:=λ{X Y Z} (r:PV _ X Y Z)=>tw (az t)<|r;tf (λc1=>pp2<|tg 4 c1<|tE) λc1=>have pp4:=λ{X Y Z} (r:PV _ X Y Z)=>pp2<|tg 4 c1<|tw (az t)<|r;tf (λc3=>pp4<|tg 9 c3<|tE) λc3=>have pp6:=λ{X Y Z} (r:PV _ X Y Z)=>pp4<|tg 9 c3<|tw (bP t)<|r;tf (λc5=>have pp8:=λ{X Y Z} (r:PV _ X Y Z)=>pp6<|tg 13 c5<|tw (az t)<|r;tf (λc7=>have pp10:=λ{X Y Z} (r:PV _ X Y Z)=>pp8<|tg 18 c7<|tw (az t)<|r;tf (λc9=>pp10<|tg 24 c9<|tE) λc9=>have pp12:=λ{X Y Z} (r:PV _ X Y Z)=>pp10<|tg 24 c9<|tw (aM t)<|bL (cu.ln t.Args)<|r;tf (λc11=>have pp14:=λ{X Y Z} (r:PV _ X Y Z)=>pp12<|tg 29 c11<|tw (az t)<|r;tf (λc13=>have pp16:=λ{X Y Z} (r:PV _ X Y Z)=>pp14<|tg 34 c13<|tw (az t)<|r;tf (λc15=>pp16<|tg 40 c15<|tE) λc15=>have pp18:=λ{X Y Z} (r:PV _ X Y Z)=>pp16<|tg 40 c15<|tw (aX t)<|bL (d8.ln t.Names)<|r;tf (λc17=>pp18<|tg 45 c17<|tw (az t)<|tE) λc17=>pp18<|tg 45 c17<|tE) λc13=>have pp20:=λ{X Y Z} (r:PV _ X Y Z)=>pp14<|tg 34 c13<|tw (aX t)<|bL (d8.ln t.Names)<|r;tf (λc19=>pp20<|tg 45 c19<|tw (az t)<|tE) λc19=>pp20<|tg 45 c19<|tE) λc11=>have pp22:=λ{X Y Z} (r:PV _ X Y Z)=>pp12<|tg 29 c11<|tw (aX t)<|bL (d8.ln t.Names)<|r;tf (λc21=>pp22<|tg 45 c21<|tw (az t)<|tE) λc21=>pp22<|tg 45 c21<|tE) λc7=>have pp24:=λ{X Y Z} (r:PV _ X Y Z)=>pp8<|tg 18 c7<|tw (aM t)<|bL (cu.ln t.Args)<|r;tf (λc23=>have pp26:=λ{X Y Z} (r:PV _ X Y Z)=>pp24<|tg 29 c23<|tw (az t)<|r;tf (λc25=>have pp28:=λ{X Y Z} (r:PV _ X Y Z)=>pp26<|tg 34 c25<|tw (az t)<|r;tf (λc27=>pp28<|tg 40 c27<|tE) λc27=>have pp30:=λ{X Y Z} (r:PV _ X Y Z)=>pp28<|tg 40 c27<|tw (aX t)<|bL (d8.ln t.Names)<|r;tf (λc29=>pp30<|tg 45 c29<|tw (az t)<|tE) λc29=>pp30<|tg 45 c29<|tE) λc25=>have pp32:=λ{X Y Z} (r:PV _ X Y Z)=>pp26<|tg 34 c25<|tw (aX t)<|bL (d8.ln t.Names)<|r;tf (λc31=>pp32<|tg 45 c31<|tw (az t)<|tE) λc31=>pp32<|tg 45 c31<|tE) λc23=>have pp34:=λ{X Y Z} (r:PV _ X Y Z)=>pp24<|tg 29 c23<|tw (aX t)<|bL (d8.ln t.Names)<|r;tf (λc33=>pp34<|tg 45 c33<|tw (az t)<|tE) λc33=>pp34<|tg 45 c33<|tE) λc5=>have pp36:=λ{X Y Z} (r:PV _ X Y Z)=>pp6<|tg 13 c5<|tw (aM t)<|bL (cu.ln t.Args)<|r;tf (λc35=>have pp38:=λ{X Y Z} (r:PV _ X Y Z)=>pp36<|tg 29 c35<|tw (az t)<|r;tf (λc37=>have pp40:=λ{X Y Z} (r:PV _ X Y Z)=>pp38<|tg 34 c37<|tw (az t)<|r;tf (λc39=>pp40<|tg 40 c39<|tE) λc39=>have pp42:=λ{X Y Z} (r:PV _ X Y Z)=>pp40<|tg 40 c39<|tw (aX t)<|bL (d8.ln t.Names)<|r;tf (λc41=>pp42<|tg 45 c41<|tw (az t)<|tE) λc41=>pp42<|tg 45 c41<|tE) λc37=>have pp44:=λ{X Y Z} (r:PV _ X Y Z)=>pp38<|tg 34 c37<|tw (aX t)<|bL (d8.ln t.Names)<|r;tf (λc43=>pp44<|tg 45 c43<|tw (az t)<|tE) λc43=>pp44<|tg 45 c43<|tE) λc35=>have pp46:=λ{X Y Z} (r:PV _ X Y Z)=>pp36<|tg 29 c35<|tw (aX t)<|bL (d8.ln t.Names)<|r;tf (λc45=>pp46<|tg 45 c45<|tw (az t)<|tE) λc45=>pp46<|tg 45 c45<|tE
end
section
variable(t:af)
def kR:Option Bool:=
 if(t.Op==4)=true then
  some (decide ((t.Args.length:Int)>6))
 else
  some false
theorem RQ:OJ 0 (cA qd4 28) (kR t) .normal (λo=>aQ 113 [(1,.eptr (ai t)),(61,.bool o)] [.dead] []) (aQ 113 [(1,.eptr (ai t))] [.dead] []):=qdS.j<|
 have pp50:=λ{X Y Z} (r:PV _ X Y Z)=>tw (az t)<|r;tf (λc49=>pp50<|tg 4 c49<|tw (aM t)<|bL (cu.ln t.Args)<|tE) λc49=>pp50<|tg 4 c49<|tE
end
section
variable(t:af)
def jq:Option Bool:=
 if(t.Op==6)=true then
  if decide ((t.Args.length:Int)<2)=true then
   some true
  else if decide ((t.Args.length:Int)>7)=true then
   some true
  else if decide ((t.Names.length:Int)>0)=true then
   some ((t.Names.length:Int)!=(dt ((t.Args.length:Int) - 1)))
  else
   some false
 else
  some false
theorem RR:OJ 0 (cA qd4 60) (jq t) .normal (λo=>aQ 113 [(1,.eptr (ai t)),(92,.bool o)] [.dead] []) (aQ 113 [(1,.eptr (ai t))] [.dead] []):=qdS.j<|
 have pp54:=λ{X Y Z} (r:PV _ X Y Z)=>tw (az t)<|r;tf (λc53=>have pp56:=λ{X Y Z} (r:PV _ X Y Z)=>pp54<|tg 4 c53<|tw (aM t)<|bL (cu.ln t.Args)<|r;tf (λc55=>pp56<|tg 9 c55<|tE) λc55=>have pp58:=λ{X Y Z} (r:PV _ X Y Z)=>pp56<|tg 9 c55<|tw (aM t)<|bL (cu.ln t.Args)<|r;tf (λc57=>pp58<|tg 15 c57<|tE) λc57=>have pp60:=λ{X Y Z} (r:PV _ X Y Z)=>pp58<|tg 15 c57<|tw (aX t)<|bL (d8.ln t.Names)<|r;tf (λc59=>pp60<|tg 20 c59<|tw (aX t)<|bL (d8.ln t.Names)<|tw (aM t)<|bL (cu.ln t.Args)<|tE) λc59=>pp60<|tg 20 c59<|tE) λc53=>pp54<|tg 4 c53<|tE
end
section
variable(t:af)
def kS:Option Bool:=
 if(t.Op==4)=true then
  (vU t.Name true).bind λr65=>
  if(!r65)=true then
   some true
  else if(t.Op==5)=true then
   (vU t.Name false).bind λr70=>
   some (!r70)
  else
   some false
 else if(t.Op==5)=true then
  (vU t.Name false).bind λr73=>
  some (!r73)
 else
  some false
theorem RT:OJ 0 (cA qd4 124) (kS t) .normal (λo=>aQ 113 [(112,.bool o)] [.dead] []) (aQ 113 [(1,.eptr (ai t))] [.dead] []):=qdS.j<|
 have pp64:=λ{X Y Z} (r:PV _ X Y Z)=>tw (az t)<|r;tf (λc63=>tb λr65 br65=>have pp67:=λ{X Y Z} (r:PV _ X Y Z)=>pp64<|tg 4 c63<|tw (bP t)<|bG (G1 _ br65)<|r;tf (λc66=>pp67<|tg 10 c66<|tE) λc66=>have pp69:=λ{X Y Z} (r:PV _ X Y Z)=>pp67<|tg 10 c66<|tw (az t)<|r;tf (λc68=>tb λr70 br70=>pp69<|tg 14 c68<|tw (bP t)<|bG (G1 _ br70)<|tE) λc68=>pp69<|tg 14 c68<|tE) λc63=>have pp72:=λ{X Y Z} (r:PV _ X Y Z)=>pp64<|tg 4 c63<|tw (az t)<|r;tf (λc71=>tb λr73 br73=>pp72<|tg 14 c71<|tw (bP t)<|bG (G1 _ br73)<|tE) λc71=>pp72<|tg 14 c71<|tE
end
def ru(t:af):Option Int:=
 (jp t).bind λo47=>
 if o47=true then
  some 1
 else
  (kR t).bind λo51=>
  if o51=true then
   some 13
  else
   (jq t).bind λo61=>
   if o61=true then
    some 13
   else
    (kS t).bind λo74=>
    if o74=true then
     some 3
    else
     some 0
theorem X5{t:af}:OV 148 [.agg (ai t)] (ru t) (λr=>.int .i64 r) []:=qdS.v<|
 tb λo47 bo47=>te (dR t)<|fc 1<|bT (RP t _ bo47)<|tF tE<|tb λo51 bo51=>fc 1<|bT (RQ t _ bo51)<|tF tE<|tb λo61 bo61=>fc 1<|bT (RR t _ bo61)<|tF tE<|tb λo74 bo74=>fc 1<|bT (RT t _ bo74)<|tF tE<|tE
noncomputable def qqj:Code:=f98.body.getD .skip
def qsz:List Nat:=[11,23]
theorem qre:ZF Pg qsz 98 f98 qqj:=zf call98 func98 rfl mixed
section
variable(R166:Er)(t13:waB)(t14:Int)(t15:Int)
def uO:aK:=aQ 25 [(13,sl ai t13),(14,.int .i64 t14),(15,.int .i64 t15)] [.dead] []
def JQ(o:Int⊕(Unit)):Exit:=match o with
 |(.inl _)=>.ret
 |(.inr _)=>.exit 0
def Cp(o:Int⊕(Unit)):aK:=match o with
 |(.inl o)=>aQ 25 [(2,.int .i64 o)] [.dead] []
 |(.inr o)=>aQ 25 [] [.dead] []
instance iS_R19_form_L1:KS 0 (uO t13 t14 t15):=⟨rfl,(bD (aI (up (aZ cJ t13)) (aI vzz (aI vzz vzz)))),(aI vzz vzz)⟩
instance iO_R19_form_L1{o:Int⊕(Unit)}:KS 0 (Cp o):=match o with
 |(.inl o)=>⟨rfl,(bD (aI vzz vzz)),(aI vzz vzz)⟩
 |(.inr o)=>⟨rfl,(bD vzz),(aI vzz vzz)⟩
def uP:Option (Int⊕(Int⊕(Unit))):=
 if decide (t15<t14)=true then
  (cX t13 t15).bind λx4=>
  (R166 x4).bind λr5=>
  if(r5 !=0)=true then
   some (.inr (.inl r5))
  else
   some (.inl (dt (t15+1)))
 else
  some (.inr (.inr ()))
def mY:Option (Int⊕(Unit)):=loop (λ(zz:Int)=>uP R166 t13 t14 zz) t15
theorem Qj(hR166:Kd R166):OL 0 (cA qqj 119) (uP R166 t13 t14 t15) (λ(zz:Int)=>uO t13 t14 zz) JQ Cp (uO t13 t14 t15):=qre.lx<|
 tF (tb λx4 bx4=>tb λr5 br5=>tv (cu.ia (k:=.i64) bx4)<|tv (bo x4)<|tx K8<|tx (gJ x4)<|tv (ed x4 [])<|bG (hR166 _ _ br5)<|tF tE<|tE)<|tE
theorem G2(hR166:Kd R166):OK 0 (.loop (cA qqj 119)) (mY R166 t13 t14 t15) JQ Cp (uO t13 t14 t15):=AN λ_=>Qj _ _ _ _ hR166
end
def jM(R166:Er)(t:af):Option Int:=
 (ru t).bind λr1=>
 if(r1 !=0)=true then
  some r1
 else
  (mY R166 t.Args (t.Args.length:Int) 0).bind λo7=>match o7 with
  |(.inl o7)=>
   some o7
  |(.inr o7)=>
   some 0
theorem Wc(R166:Er)(hR166:Kd R166){t:af}:OV 98 [.agg (ai t)] (jM R166 t) (λr=>.int .i64 r) []:=qre.v<|
 tb λr1 br1=>te (dR t)<|tv (bo t)<|bG (X5 _ br1)<|tF tE<|tw (aM t)<|bL (cu.ln t.Args)<|t2 (λo7 bo7=>bT (G2 R166 t.Args (t.Args.length:Int) 0 hR166 _ bo7)<|tE) λo7 bo7=>bT (G2 R166 t.Args (t.Args.length:Int) 0 hR166 _ bo7)<|tE
def tU:(af->Option Int)->(af)->Option Int:=λ(rec:af->Option Int) (x:af)=>jM (λt=>rec t) x
def zi(t:af):Option Int:=pA tU t
theorem X4{t:af}:OV 98 [.agg (ai t)] (zi t) (λr=>.int .i64 r) []:=Do λ_ h=>
 dN (F:=tU) (M:=λ(x:af) (r:Int)=>CC Pg GE 98 [.agg (ai x)] (.int .i64 r) []) (λrec hrec x r h=>Wc _ (λt=>Do λr h=>hrec t r h) _ h) h
noncomputable def qtl:Code:=f56.body.getD .skip
def qr6:List Nat:=[]
theorem qsS:ZF Pg qr6 56 f56 qtl:=zf call56 func56 rfl mixed
def jk(t:af):Option Int:=
 (yU t).bind λr1=>
 if decide (r1>40)=true then
  some 8
 else
  (zi t).bind λr3=>
  some r3
theorem Ea{t:af}:OV 56 [.agg (ai t)] (jk t) (λr=>.int .i64 r) []:=qsS.v<|
 tb λr1 br1=>te (dR t)<|tv (bo t)<|bG (Wb _ br1)<|tF tE<|tb λr3 br3=>tv (bo t)<|bG (X4 _ br3)<|tE
abbrev kr:=(af->af->Option Bool)
abbrev rb(R:kr):Prop:=∀(a:af) (a2:af),OV 193 [.agg (ai a),.agg (ai a2)] (R a a2) (λr=>.bool r) []
noncomputable def qiQ:Code:=f143.body.getD .skip
def qmA:List Nat:=[]
theorem qkh:ZF Pg qmA 143 f143 qiQ:=zf call143 func143 rfl mixed
section
variable(v:waA)(v2:waA)(i:Int)
def qi:aK:=aQ 26 [(0,sl cS v),(1,sl cS v2),(5,.int .i64 i)] [] []
def zl(o:Unit⊕(Unit)):Exit:=match o with
 |(.inl _)=>.ret
 |(.inr _)=>.exit 0
def zm(o:Unit⊕(Unit)):aK:=match o with
 |(.inl o)=>aQ 26 [(4,.bool false)] [] []
 |(.inr o)=>aQ 26 [] [] []
def fQ:Option (Int⊕(Unit⊕(Unit))):=
 if decide (i<(v.length:Int))=true then
  (cX v i).bind λx3=>
  (cX v2 i).bind λx4=>
  if(!(x3==x4))=true then
   some (.inr (.inl ()))
  else
   some (.inl (dt (i+1)))
 else
  some (.inr (.inr ()))
def tV:Option (Unit⊕(Unit)):=loop (λ(zz:Int)=>fQ v v2 zz) i
theorem G7:OL 0 (cA qiQ 119) (fQ v v2 i) (λ(zz:Int)=>qi v v2 zz) zl zm (qi v v2 i):=qkh.l<|
 bL (d8.ln v)<|tF (tb λx3 bx3=>tb λx4 bx4=>VE [0,0,3,7,0,0,48,112,255]<|tv (d8.ia (k:=.i64) bx3)<|tv (eC XC (.str x3) [])<|tv (d8.ia (k:=.i64) bx4)<|tv (eC XC (.str x4) [])<|tF tE<|tE)<|tE
theorem xo:OK 0 (.loop (cA qiQ 119)) (tV v v2 i) zl zm (qi v v2 i):=AN λ_=>G7 _ _ _
end
def uQ(a:waA)(a2:waA):Option Bool:=
 if((a.length:Int)!=(a2.length:Int))=true then
  some false
 else
  (tV a a2 0).bind λo6=>match o6 with
  |(.inl o6)=>
   some false
  |(.inr o6)=>
   some true
theorem NI{a:waA}{a2:waA}:OV 143 [sl cS a,sl cS a2] (uQ a a2) (λr=>.bool r) []:=qkh.v<|
 bL (d8.ln a)<|bL (d8.ln a2)<|tF tE<|t2 (λo6 bo6=>bT (xo a a2 0 _ bo6)<|tE) λo6 bo6=>bT (xo a a2 0 _ bo6)<|tE
abbrev Eo:=(aa->aa->Option Bool)
abbrev Kb(R:Eo):Prop:=∀(a:aa) (a2:aa),OV 49 [.agg (ac a),.agg (ac a2)] (R a a2) (λr=>.bool r) []
end Go.Proofs.YtibglelmlnfojaaGreatDoor
