/- PROVED: a part of the proof. Conditions: none. -/
import Derived.Test.YtibglelmlnfojaaGreatDoorpt16
set_option linter.unusedSimpArgs false
set_option linter.unusedVariables false
noncomputable section
namespace Go.Proofs.YtibglelmlnfojaaGreatDoor
open Go Go.Proofs.Tryz
set_option linter.unusedVariables false
set_option maxRecDepth 100000
noncomputable def ql0:Code:=f49.body.getD .skip
def qr2:List Nat:=[39]
theorem qpa:ZF Pg qr2 49 f49 ql0:=zf call49 func49 rfl mixed
section
variable(v:aa)(v2:aa)
def GV:Option Bool:=
 if(v.Op !=v2.Op)=true then
  some true
 else if(!(v.Name==v2.Name))=true then
  some true
 else if(v.N !=v2.N)=true then
  some true
 else
  some ((v.Kids.length:Int)!=(v2.Kids.length:Int))
theorem RA:OJ 0 (cA ql0 12) (GV v v2) .normal (λo=>aQ 53 [(2,.eptr (ac v)),(3,.eptr (ac v2)),(33,.bool o)] [.dead,.dead] []) (aQ 53 [(2,.eptr (ac v)),(3,.eptr (ac v2))] [.dead,.dead] []):=qpa.j<|
 have pp2:=λ{X Y Z} (r:PV _ X Y Z)=>tw (aD v)<|tw (aD v2)<|r;tf (λc1=>pp2<|tg 6 c1<|tE) λc1=>have pp4:=λ{X Y Z} (r:PV _ X Y Z)=>pp2<|tg 6 c1<|tw (bv v)<|tw (bv v2)<|r;tf (λc3=>pp4<|tg 13 c3<|tE) λc3=>have pp6:=λ{X Y Z} (r:PV _ X Y Z)=>pp4<|tg 13 c3<|tw (bh v)<|tw (bh v2)<|r;tf (λc5=>pp6<|tg 20 c5<|tE) λc5=>pp6<|tg 20 c5<|tw (aC v)<|bL (dT.ln v.Kids)<|tw (aC v2)<|bL (dT.ln v2.Kids)<|tE
end
section
variable(R172:Eo)(v:aa)(v2:aa)(t36:Int)(t37:Int)
def Cm:aK:=aQ 53 [(2,.eptr (ac v)),(3,.eptr (ac v2)),(36,.int .i64 t36),(37,.int .i64 t37)] [.dead,.dead] []
def JL(o:Unit⊕(Unit)):Exit:=match o with
 |(.inl _)=>.ret
 |(.inr _)=>.exit 0
def JM(o:Unit⊕(Unit)):aK:=match o with
 |(.inl o)=>aQ 53 [(4,.bool false)] [.dead,.dead] []
 |(.inr o)=>aQ 53 [] [.dead,.dead] []
def uL:Option (Int⊕(Unit⊕(Unit))):=
 if decide (t37<t36)=true then
  (cX v.Kids t37).bind λx10=>
  (cX v2.Kids t37).bind λx11=>
  (R172 x10 x11).bind λr12=>
  if(!r12)=true then
   some (.inr (.inl ()))
  else
   some (.inl (dt (t37+1)))
 else
  some (.inr (.inr ()))
def GW:Option (Unit⊕(Unit)):=loop (λ(zz:Int)=>uL R172 v v2 t36 zz) t37
theorem Qd(hR172:Kb R172):OL 0 (cA ql0 119) (uL R172 v v2 t36 t37) (λ(zz:Int)=>Cm v v2 t36 zz) JL JM (Cm v v2 t36 t37):=qpa.l<|
 tF (tb λx10 bx10=>tb λx11 bx11=>tb λr12 br12=>VE [0,1,0,7,15,0,32,0,224,480,1023,2047]<|tw (aC v)<|tv (dT.ia (k:=.i64) bx10)<|tv (bu x10)<|tw (aC v2)<|tv (dT.ia (k:=.i64) bx11)<|tv (bu x11)<|bG (hR172 _ _ _ br12)<|tF tE<|tE)<|tE
theorem GX(hR172:Kb R172):OK 0 (.loop (cA ql0 119)) (GW R172 v v2 t36 t37) JL JM (Cm v v2 t36 t37):=AN λ_=>Qd _ _ _ _ _ hR172
end
def D7(R172:Eo)(a:aa)(a2:aa):Option Bool:=
 (GV a a2).bind λo7=>
 if o7=true then
  some false
 else
  (GW R172 a a2 (a.Kids.length:Int) 0).bind λo14=>match o14 with
  |(.inl o14)=>
   some false
  |(.inr o14)=>
   some true
theorem V7(R172:Eo)(hR172:Kb R172){a:aa}{a2:aa}:OV 49 [.agg (ac a),.agg (ac a2)] (D7 R172 a a2) (λr=>.bool r) []:=qpa.v<|
 tb λo7 bo7=>te (dQ a)<|te (dQ a2)<|fc 1<|bT (RA a a2 _ bo7)<|tF tE<|tw (aC a)<|bL (dT.ln a.Kids)<|t2 (λo14 bo14=>bT (GX R172 a a2 (a.Kids.length:Int) 0 hR172 _ bo14)<|tE) λo14 bo14=>bT (GX R172 a a2 (a.Kids.length:Int) 0 hR172 _ bo14)<|tE
def Kg:((aa×aa)->Option Bool)->(aa×aa)->Option Bool:=λ(rec:(aa×aa)->Option Bool) (x:aa×aa)=>D7 (λa a2=>rec (a,a2)) x.1 x.2
def GU(a:aa)(a2:aa):Option Bool:=pA Kg (a,a2)
theorem GY{a:aa}{a2:aa}:OV 49 [.agg (ac a),.agg (ac a2)] (GU a a2) (λr=>.bool r) []:=Do λ_ h=>
 dN (F:=Kg) (M:=λ(x:aa×aa) (r:Bool)=>CC Pg GE 49 [.agg (ac x.1),.agg (ac x.2)] (.bool r) []) (λrec hrec x r h=>V7 _ (λa a2=>Do λr h=>hrec (a,a2) r h) _ h) h
noncomputable def qiP:Code:=f142.body.getD .skip
def qmz:List Nat:=[]
theorem qkg:ZF Pg qmz 142 f142 qiP:=zf call142 func142 rfl mixed
section
variable(R170:kr)(v:waB)(v2:waB)(i:Int)
def qj:aK:=aQ 27 [(0,sl ai v),(1,sl ai v2),(5,.int .i64 i)] [] []
def zp(o:Unit⊕(Unit)):Exit:=match o with
 |(.inl _)=>.ret
 |(.inr _)=>.exit 0
def zq(o:Unit⊕(Unit)):aK:=match o with
 |(.inl o)=>aQ 27 [(4,.bool false)] [] []
 |(.inr o)=>aQ 27 [] [] []
def fR:Option (Int⊕(Unit⊕(Unit))):=
 if decide (i<(v.length:Int))=true then
  (cX v i).bind λx3=>
  (cX v2 i).bind λx4=>
  (R170 x3 x4).bind λr5=>
  if(!r5)=true then
   some (.inr (.inl ()))
  else
   some (.inl (dt (i+1)))
 else
  some (.inr (.inr ()))
def tX:Option (Unit⊕(Unit)):=loop (λ(zz:Int)=>fR R170 v v2 zz) i
theorem G8(hR170:rb R170):OL 0 (cA qiP 119) (fR R170 v v2 i) (λ(zz:Int)=>qj v v2 zz) zp zq (qj v v2 i):=qkg.l<|
 bL (cu.ln v)<|tF (tb λx3 bx3=>tb λx4 bx4=>tb λr5 br5=>VE [0,0,3,7,0,0,48,112,255,511]<|tv (cu.ia (k:=.i64) bx3)<|tv (bo x3)<|tv (cu.ia (k:=.i64) bx4)<|tv (bo x4)<|bG (hR170 _ _ _ br5)<|tF tE<|tE)<|tE
theorem xp(hR170:rb R170):OK 0 (.loop (cA qiP 119)) (tX R170 v v2 i) zp zq (qj v v2 i):=AN λ_=>G8 _ _ _ _ hR170
end
def uR(R170:kr)(a:waB)(a2:waB):Option Bool:=
 if((a.length:Int)!=(a2.length:Int))=true then
  some false
 else
  (tX R170 a a2 0).bind λo7=>match o7 with
  |(.inl o7)=>
   some false
  |(.inr o7)=>
   some true
theorem NK(R170:kr)(hR170:rb R170){a:waB}{a2:waB}:OV 142 [sl ai a,sl ai a2] (uR R170 a a2) (λr=>.bool r) []:=qkg.v<|
 bL (cu.ln a)<|bL (cu.ln a2)<|tF tE<|t2 (λo7 bo7=>bT (xp R170 a a2 0 hR170 _ bo7)<|tE) λo7 bo7=>bT (xp R170 a a2 0 hR170 _ bo7)<|tE
noncomputable def qgD:Code:=f193.body.getD .skip
def qnj:List Nat:=[]
theorem qiD:ZF Pg qnj 193 f193 qgD:=zf call193 func193 rfl mixed
section
variable(v:af)(v2:af)
def wI:Option Bool:=
 if(v.Op !=v2.Op)=true then
  some true
 else if(!(v.Name==v2.Name))=true then
  some true
 else
  (uQ v.Names v2.Names).bind λr5=>
  if(!r5)=true then
   some true
  else
   (GU v.Pred v2.Pred).bind λr8=>
   if(!r8)=true then
    some true
   else
    some ((v.Preds.length:Int)!=(v2.Preds.length:Int))
theorem Ki:OJ 0 (cA qgD 12) (wI v v2) .normal (λo=>aQ 67 [(2,.eptr (ai v)),(3,.eptr (ai v2)),(42,.bool o)] [.dead,.dead] []) (aQ 67 [(2,.eptr (ai v)),(3,.eptr (ai v2))] [.dead,.dead] []):=qiD.j<|
 have pp2:=λ{X Y Z} (r:PV _ X Y Z)=>tw (az v)<|tw (az v2)<|r;tf (λc1=>pp2<|tg 6 c1<|tE) λc1=>have pp4:=λ{X Y Z} (r:PV _ X Y Z)=>pp2<|tg 6 c1<|tw (bP v)<|tw (bP v2)<|r;tf (λc3=>pp4<|tg 13 c3<|tE) λc3=>tb λr5 br5=>have pp7:=λ{X Y Z} (r:PV _ X Y Z)=>pp4<|tg 13 c3<|tw (aX v)<|tw (aX v2)<|bG (NI _ br5)<|r;tf (λc6=>pp7<|tg 21 c6<|tE) λc6=>tb λr8 br8=>have pp10:=λ{X Y Z} (r:PV _ X Y Z)=>pp7<|tg 21 c6<|tw (cj v)<|tw (cj v2)<|bG (GY _ br8)<|r;tf (λc9=>pp10<|tg 29 c9<|tE) λc9=>pp10<|tg 29 c9<|tw (bm v)<|bL (dT.ln v.Preds)<|tw (bm v2)<|bL (dT.ln v2.Preds)<|tE
end
section
variable(v:af)(v2:af)(i:Int)
def rx:aK:=aQ 67 [(2,.eptr (ai v)),(3,.eptr (ai v2)),(5,.int .i64 i)] [.dead,.dead] []
def Bj(o:Unit⊕(Unit)):Exit:=match o with
 |(.inl _)=>.ret
 |(.inr _)=>.exit 0
def Bk(o:Unit⊕(Unit)):aK:=match o with
 |(.inl o)=>aQ 67 [(4,.bool false)] [.dead,.dead] []
 |(.inr o)=>aQ 67 [(2,.eptr (ai v)),(3,.eptr (ai v2))] [.dead,.dead] []
def ff:Option (Int⊕(Unit⊕(Unit))):=
 if decide (i<(v.Preds.length:Int))=true then
  (cX v.Preds i).bind λx14=>
  (cX v2.Preds i).bind λx15=>
  (GU x14 x15).bind λr16=>
  if(!r16)=true then
   some (.inr (.inl ()))
  else
   some (.inl (dt (i+1)))
 else
  some (.inr (.inr ()))
def wJ:Option (Unit⊕(Unit)):=loop (λ(zz:Int)=>ff v v2 zz) i
theorem I3:OL 0 (cA qgD 119) (ff v v2 i) (λ(zz:Int)=>rx v v2 zz) Bj (Bk v v2) (rx v v2 i):=qiD.l<|
 tw (bm v)<|bL (dT.ln v.Preds)<|tF (tb λx14 bx14=>tb λx15 bx15=>tb λr16 br16=>VE [0,1,0,7,15,0,32,0,224,480,1023,2047]<|tw (bm v)<|tv (dT.ia (k:=.i64) bx14)<|tv (bu x14)<|tw (bm v2)<|tv (dT.ia (k:=.i64) bx15)<|tv (bu x15)<|bG (GY _ br16)<|tF tE<|tE)<|tE
theorem zo:OK 0 (.loop (cA qgD 119)) (wJ v v2 i) Bj (Bk v v2) (rx v v2 i):=AN λ_=>I3 _ _ _
end
def rv(R170:kr)(a:af)(a2:af):Option Bool:=
 (wI a a2).bind λo11=>
 if o11=true then
  some false
 else
  (wJ a a2 0).bind λo18=>match o18 with
  |(.inl o18)=>
   some false
  |(.inr o18)=>
   (uR R170 a.Args a2.Args).bind λr19=>
   some r19
theorem NJ(R170:kr)(hR170:rb R170){a:af}{a2:af}:OV 193 [.agg (ai a),.agg (ai a2)] (rv R170 a a2) (λr=>.bool r) []:=qiD.v<|
 tb λo11 bo11=>te (dR a)<|te (dR a2)<|fc 1<|bT (Ki a a2 _ bo11)<|tF tE<|t2 (λo18 bo18=>bT (zo a a2 0 _ bo18)<|tE) λo18 bo18=>tb λr19 br19=>bT (zo a a2 0 _ bo18)<|tw (aM a)<|tw (aM a2)<|bG (NK R170 hR170 _ br19)<|tE
def zn:((af×af)->Option Bool)->(af×af)->Option Bool:=λ(rec:(af×af)->Option Bool) (x:af×af)=>rv (λa a2=>rec (a,a2)) x.1 x.2
def Eb(a:af)(a2:af):Option Bool:=pA zn (a,a2)
theorem Qm{a:af}{a2:af}:OV 193 [.agg (ai a),.agg (ai a2)] (Eb a a2) (λr=>.bool r) []:=Do λ_ h=>
 dN (F:=zn) (M:=λ(x:af×af) (r:Bool)=>CC Pg GE 193 [.agg (ai x.1),.agg (ai x.2)] (.bool r) []) (λrec hrec x r h=>NJ _ (λa a2=>Do λr h=>hrec (a,a2) r h) _ h) h
noncomputable def qpZ:Code:=f221.body.getD .skip
def qnJ:List Nat:=[]
theorem qoY:ZF Pg qnJ 221 f221 qpZ:=zf call221 func221 rfl mixed
def G9(t:af):Option Bool:=
 (Eb t (⟨0,([]:ae),([]:List af),([]:List ae),(⟨0,([]:ae),0,([]:List aa)⟩:aa),([]:List aa)⟩:af)).bind λr1=>
 some r1
theorem Ph{t:af}:OV 221 [.agg (ai t)] (G9 t) (λr=>.bool r) []:=qoY.v<|
 tb λr1 br1=>te (dR t)<|tv (bo t)<|QT (Sl) (Si)<|bG (Qm _ br1)<|tE
noncomputable def qb9:Code:=f220.body.getD .skip
def qnI:List Nat:=[22,46]
theorem qgm:ZF Pg qnI 220 f220 qb9:=zf call220 func220 rfl mixed
section
variable(e:ag)(i:Int)
def zx:aK:=aQ 47 [(1,.eptr (ah e)),(3,.int .i64 i)] [.dead] []
def Hh(o:Int⊕(Unit)):Exit:=match o with
 |(.inl _)=>.ret
 |(.inr _)=>.exit 0
def Hi(o:Int⊕(Unit)):aK:=match o with
 |(.inl o)=>aQ 47 [(2,.int .i64 o)] [.dead] []
 |(.inr o)=>aQ 47 [(1,.eptr (ah e))] [.dead] []
def nd:Option (Int⊕(Int⊕(Unit))):=
 if decide (i<(e.Types.length:Int))=true then
  (cX e.Types i).bind λx2=>
  (jk x2).bind λr3=>
  if(r3 !=0)=true then
   some (.inr (.inl r3))
  else
   some (.inl (dt (i+1)))
 else
  some (.inr (.inr ()))
def rA:Option (Int⊕(Unit)):=loop (λ(zz:Int)=>nd e zz) i
theorem NS:OL 0 (cA qb9 55) (nd e i) (λ(zz:Int)=>zx e zz) Hh (Hi e) (zx e i):=qgm.l<|
 tw (aw e)<|bL (cu.ln e.Types)<|tF (tb λx2 bx2=>tb λr3 br3=>tw (aw e)<|tv (cu.ia (k:=.i64) bx2)<|tv (bo x2)<|bG (Ea _ br3)<|tF tE<|tE)<|tE
theorem Fv:OK 0 (.loop (cA qb9 55)) (rA e i) Hh (Hi e) (zx e i):=AN λ_=>NS _ _
end
section
variable(e:ag)(i:Int)
def R0(o:Unit⊕(Int)):Exit:=match o with
 |(.inl _)=>.normal
 |(.inr _)=>.ret
def R2(o:Unit⊕(Int)):aK:=match o with
 |(.inl o)=>aQ 47 [(1,.eptr (ah e)),(5,.int .i64 i)] [.dead] []
 |(.inr o)=>aQ 47 [(2,.int .i64 o)] [.dead] []
def yf:Option (Unit⊕(Int)):=
 (cX e.Params i).bind λx7=>
 (G9 x7.Type_).bind λr8=>
 if r8=true then
  some (.inl ())
 else
  (cX e.Params i).bind λx10=>
  (jk x10.Type_).bind λr11=>
  if(r11 !=0)=true then
   some (.inr r11)
  else
   some (.inl ())
theorem Fu:OK 0 (cA qb9 478) (yf e i) R0 (R2 e i) (aQ 47 [(1,.eptr (ah e)),(5,.int .i64 i)] [.dead] []):=qgm.k<|
 tb λx7 bx7=>tb λr8 br8=>tw (aS e)<|tv (pj.ia (k:=.i64) bx7)<|tw (jz x7)<|bG (Ph _ br8)<|tF tE<|tb λx10 bx10=>tb λr11 br11=>tw (aS e)<|tv (pj.ia (k:=.i64) bx10)<|tw (jz x10)<|bG (Ea _ br11)<|tF tE<|tE
end
section
variable(e:ag)(i:Int)
def zy:aK:=aQ 47 [(1,.eptr (ah e)),(5,.int .i64 i)] [.dead] []
def Hj(o:Int⊕(Unit)):Exit:=match o with
 |(.inl _)=>.ret
 |(.inr _)=>.exit 2
def Hk(o:Int⊕(Unit)):aK:=match o with
 |(.inl o)=>aQ 47 [(2,.int .i64 o)] [.dead] []
 |(.inr o)=>aQ 47 [] [.dead] []
def gr:Option (Int⊕(Int⊕(Unit))):=
 if decide (i<(e.Params.length:Int))=true then
  (yf e i).bind λo13=>match o13 with
  |(.inl o13)=>
   some (.inl (dt (i+1)))
  |(.inr o13)=>
   some (.inr (.inl o13))
 else
  some (.inr (.inr ()))
def rB:Option (Int⊕(Unit)):=loop (λ(zz:Int)=>gr e zz) i
theorem NT:OL 0 (cA qb9 119) (gr e i) (λ(zz:Int)=>zy e zz) Hj Hk (zy e i):=qgm.l<|
 tw (aS e)<|bL (pj.ln e.Params)<|tF (t2 (λo13 bo13=>fc 0<|bT (Fu e i _ bo13)<|tE) λo13 bo13=>fc 0<|bT (Fu e i _ bo13)<|tE)<|tE
theorem Fw:OK 0 (.loop (cA qb9 119)) (rB e i) Hj Hk (zy e i):=AN λ_=>NT _ _
end
def CY(e:ag):Option Int:=
 (rA e 0).bind λo5=>match o5 with
 |(.inl o5)=>
  some o5
 | (.inr o5) =>
  (rB e 0).bind λo14=>match o14 with
  |(.inl o14)=>
   some o14
  |(.inr o14)=>
   some 0
theorem Wh{e:ag}:OV 220 [.agg (ah e)] (CY e) (λr=>.int .i64 r) []:=qgm.v<|
 te (bQ e)<|t2 (λo5 bo5=>bT (Fv e 0 _ bo5)<|tE) λo5 bo5=>bT (Fv e 0 _ bo5)<|t2 (λo14 bo14=>bT (Fw e 0 _ bo14)<|tE) λo14 bo14=>bT (Fw e 0 _ bo14)<|tE
noncomputable def qgz:Code:=f167.body.getD .skip
def qmW:List Nat:=[]
theorem qgi:ZF Pg qmW 167 f167 qgz:=zf call167 func167 rfl mixed
section
variable(e:ag)(m:Bool)(m2:Bool)(m3:Int)(m4:Int)(m5:Bool)(m6:Bool)(m7:Bool)(m8:Bool)(m9:Bool)
def vX:Option Bool:=
 if(!m9)=true then
  some true
 else if(!m)=true then
  if(e.N !=0)=true then
   some true
  else if(!m2)=true then
   if(!(e.Name==([]:ae)))=true then
    some true
   else if(m4==0)=true then
    some (decide ((e.Kids.length:Int)>0))
   else
    some false
  else if(m4==0)=true then
   some (decide ((e.Kids.length:Int)>0))
  else
   some false
 else if(!m2)=true then
  if(!(e.Name==([]:ae)))=true then
   some true
  else if(m4==0)=true then
   some (decide ((e.Kids.length:Int)>0))
  else
   some false
 else if(m4==0)=true then
  some (decide ((e.Kids.length:Int)>0))
 else
  some false
theorem RX:OJ 0 (cA qgz 58) (vX e m m2 m4 m9) .normal (λo=>aQ 115 [(1,.eptr (ah e)),(3,.bptr 1 0),(7,.bool o)] [.dead,.cells [.bool m,.bool m2,.int .i64 m3,.int .i64 m4,.bool m5,.bool m6,.bool m7,.bool m8,.bool m9] []] []) (aQ 115 [(1,.eptr (ah e)),(3,.bptr 1 0)] [.dead,.cells [.bool m,.bool m2,.int .i64 m3,.int .i64 m4,.bool m5,.bool m6,.bool m7,.bool m8,.bool m9] []] []):=qgi.j<|
 tf (λc2=>ts<|tg 4 c2<|tE) λc2=>have pp4:=λ{X Y Z} (r:PV _ X Y Z)=>ts<|tg 4 c2<|ts<|r;tf (λc3=>have pp6:=λ{X Y Z} (r:PV _ X Y Z)=>pp4<|tg 8 c3<|tw (bF e)<|r;tf (λc5=>pp6<|tg 14 c5<|tE) λc5=>have pp8:=λ{X Y Z} (r:PV _ X Y Z)=>pp6<|tg 14 c5<|ts<|r;tf (λc7=>have pp10:=λ{X Y Z} (r:PV _ X Y Z)=>pp8<|tg 18 c7<|tw (ch e)<|r;tf (λc9=>pp10<|tg 24 c9<|tE) λc9=>have pp12:=λ{X Y Z} (r:PV _ X Y Z)=>pp10<|tg 24 c9<|ts<|r;tf (λc11=>pp12<|tg 28 c11<|tw (aq e)<|bL (dJ.ln e.Kids)<|tE) λc11=>pp12<|tg 28 c11<|tE) λc7=>have pp14:=λ{X Y Z} (r:PV _ X Y Z)=>pp8<|tg 18 c7<|ts<|r;tf (λc13=>pp14<|tg 28 c13<|tw (aq e)<|bL (dJ.ln e.Kids)<|tE) λc13=>pp14<|tg 28 c13<|tE) λc3=>have pp16:=λ{X Y Z} (r:PV _ X Y Z)=>pp4<|tg 8 c3<|ts<|r;tf (λc15=>have pp18:=λ{X Y Z} (r:PV _ X Y Z)=>pp16<|tg 18 c15<|tw (ch e)<|r;tf (λc17=>pp18<|tg 24 c17<|tE) λc17=>have pp20:=λ{X Y Z} (r:PV _ X Y Z)=>pp18<|tg 24 c17<|ts<|r;tf (λc19=>pp20<|tg 28 c19<|tw (aq e)<|bL (dJ.ln e.Kids)<|tE) λc19=>pp20<|tg 28 c19<|tE) λc15=>have pp22:=λ{X Y Z} (r:PV _ X Y Z)=>pp16<|tg 18 c15<|ts<|r;tf (λc21=>pp22<|tg 28 c21<|tw (aq e)<|bL (dJ.ln e.Kids)<|tE) λc21=>pp22<|tg 28 c21<|tE
end
section
variable(e:ag)(m:Bool)(m2:Bool)(m3:Int)(m4:Int)(m5:Bool)(m6:Bool)(m7:Bool)(m8:Bool)(m9:Bool)
def Bo:Option Bool:=
 if (!m5) = true then
  if decide ((e.Params.length:Int)>0)=true then
   some true
  else if(!m6)=true then
   if decide ((e.Alts.length:Int)>0)=true then
    some true
   else if(!m7)=true then
    some (decide ((e.Types.length:Int)>0))
   else
    some false
  else if(!m7)=true then
   some (decide ((e.Types.length:Int)>0))
  else
   some false
 else if(!m6)=true then
  if decide ((e.Alts.length:Int)>0)=true then
   some true
  else if(!m7)=true then
   some (decide ((e.Types.length:Int)>0))
  else
   some false
 else if(!m7)=true then
  some (decide ((e.Types.length:Int)>0))
 else
  some false
theorem RY:OJ 0 (cA qgz 238) (Bo e m5 m6 m7) .normal (λo=>aQ 115 [(1,.eptr (ah e)),(3,.bptr 1 0),(42,.bool o)] [.dead,.cells [.bool m,.bool m2,.int .i64 m3,.int .i64 m4,.bool m5,.bool m6,.bool m7,.bool m8,.bool m9] []] []) (aQ 115 [(1,.eptr (ah e)),(3,.bptr 1 0)] [.dead,.cells [.bool m,.bool m2,.int .i64 m3,.int .i64 m4,.bool m5,.bool m6,.bool m7,.bool m8,.bool m9] []] []):=qgi.j<|
 tf (λc25=>have pp27:=λ{X Y Z} (r:PV _ X Y Z)=>ts<|tg 4 c25<|tw (aS e)<|bL (pj.ln e.Params)<|r;tf (λc26=>pp27<|tg 10 c26<|tE) λc26=>have pp29:=λ{X Y Z} (r:PV _ X Y Z)=>pp27<|tg 10 c26<|ts<|r;tf (λc28=>have pp31:=λ{X Y Z} (r:PV _ X Y Z)=>pp29<|tg 14 c28<|tw (aB e)<|bL (gz.ln e.Alts)<|r;tf (λc30=>pp31<|tg 21 c30<|tE) λc30=>have pp33:=λ{X Y Z} (r:PV _ X Y Z)=>pp31<|tg 21 c30<|ts<|r;tf (λc32=>pp33<|tg 25 c32<|tw (aw e)<|bL (cu.ln e.Types)<|tE) λc32=>pp33<|tg 25 c32<|tE) λc28=>have pp35:=λ{X Y Z} (r:PV _ X Y Z)=>pp29<|tg 14 c28<|ts<|r;tf (λc34=>pp35<|tg 25 c34<|tw (aw e)<|bL (cu.ln e.Types)<|tE) λc34=>pp35<|tg 25 c34<|tE) λc25=>have pp37:=λ{X Y Z} (r:PV _ X Y Z)=>ts<|tg 4 c25<|ts<|r;tf (λc36=>have pp39:=λ{X Y Z} (r:PV _ X Y Z)=>pp37<|tg 14 c36<|tw (aB e)<|bL (gz.ln e.Alts)<|r;tf (λc38=>pp39<|tg 21 c38<|tE) λc38=>have pp41:=λ{X Y Z} (r:PV _ X Y Z)=>pp39<|tg 21 c38<|ts<|r;tf (λc40=>pp41<|tg 25 c40<|tw (aw e)<|bL (cu.ln e.Types)<|tE) λc40=>pp41<|tg 25 c40<|tE) λc36=>have pp43:=λ{X Y Z} (r:PV _ X Y Z)=>pp37<|tg 14 c36<|ts<|r;tf (λc42=>pp43<|tg 25 c42<|tw (aw e)<|bL (cu.ln e.Types)<|tE) λc42=>pp43<|tg 25 c42<|tE
end
section
variable(e:ag)(m:Bool)(m2:Bool)(m3:Int)(m4:Int)(m5:Bool)(m6:Bool)(m7:Bool)(m8:Bool)(m9:Bool)
def vY:Option Bool:=
 if (e.Op == 1) = true then
  (D1 e.N).bind λr50=>
  if(!r50)=true then
   some true
  else if(e.Op==2)=true then
   if(e.N !=0)=true then
    some (e.N !=1)
   else
    some false
  else
   some false
 else if(e.Op==2)=true then
  if(e.N !=0)=true then
   some (e.N !=1)
  else
   some false
 else
  some false
theorem RZ:OJ 0 (cA qgz 3838) (vY e) .normal (λo=>aQ 115 [(1,.eptr (ah e)),(3,.bptr 1 0),(79,.bool o)] [.dead,.cells [.bool m,.bool m2,.int .i64 m3,.int .i64 m4,.bool m5,.bool m6,.bool m7,.bool m8,.bool m9] []] []) (aQ 115 [(1,.eptr (ah e)),(3,.bptr 1 0)] [.dead,.cells [.bool m,.bool m2,.int .i64 m3,.int .i64 m4,.bool m5,.bool m6,.bool m7,.bool m8,.bool m9] []] []):=qgi.j<|
 have pp49:=λ{X Y Z} (r:PV _ X Y Z)=>tw (bk e)<|r;tf (λc48=>tb λr50 br50=>have pp52:=λ{X Y Z} (r:PV _ X Y Z)=>pp49<|tg 4 c48<|tw (bF e)<|bG (UR _ br50)<|r;tf (λc51=>pp52<|tg 10 c51<|tE) λc51=>have pp54:=λ{X Y Z} (r:PV _ X Y Z)=>pp52<|tg 10 c51<|tw (bk e)<|r;tf (λc53=>have pp56:=λ{X Y Z} (r:PV _ X Y Z)=>pp54<|tg 14 c53<|tw (bF e)<|r;tf (λc55=>pp56<|tg 19 c55<|tw (bF e)<|tE) λc55=>pp56<|tg 19 c55<|tE) λc53=>pp54<|tg 14 c53<|tE) λc48=>have pp58:=λ{X Y Z} (r:PV _ X Y Z)=>pp49<|tg 4 c48<|tw (bk e)<|r;tf (λc57=>have pp60:=λ{X Y Z} (r:PV _ X Y Z)=>pp58<|tg 14 c57<|tw (bF e)<|r;tf (λc59=>pp60<|tg 19 c59<|tw (bF e)<|tE) λc59=>pp60<|tg 19 c59<|tE) λc57=>pp58<|tg 14 c57<|tE
end
def vW (e:ag):Option Int :=
 (zA e.Op).bind λr1=>
 (vX e r1.n r1.name r1.most r1.ok).bind λo23=>
 if o23=true then
  some 1
 else
  (Bo e r1.params r1.alts r1.types).bind λo44=>
  if o44=true then
   some 1
  else
   (zr e r1).bind λr46=>
   if(!r46)=true then
    some 13
   else
    (vY e).bind λo61=>
    if o61=true then
     some 2
    else
     (Ir e r1).bind λr63=>
     if(!r63)=true then
      some 3
     else
      (yb e).bind λr65=>
      if(!r65)=true then
       some 4
      else
       (CY e).bind λr67=>
       some r67
theorem X7{e:ag}:OV 167 [.agg (ah e)] (vW e) (λr=>.int .i64 r) []:=qgi.v<|
 tb λr1 br1=>tb λo23 bo23=>te (bQ e)<|tw (bk e)<|bG (X8 _ br1)<|tx qij<|tx (bC r1)<|fc 1<|bT (RX e r1.n r1.name r1.least r1.most r1.params r1.alts r1.types r1.exactly r1.ok _ bo23)<|tF tE<|tb λo44 bo44=>fc 0<|bT (RY e r1.n r1.name r1.least r1.most r1.params r1.alts r1.types r1.exactly r1.ok _ bo44)<|tF tE<|tb λr46 br46=>tv (aF e)<|tv (pB r1 [])<|bG (Ua _ br46)<|tF tE<|tb λo61 bo61=>fc 0<|bT (RZ e r1.n r1.name r1.least r1.most r1.params r1.alts r1.types r1.exactly r1.ok _ bo61)<|tF tE<|tb λr63 br63=>tv (aF e)<|tv (pB r1 [])<|bG (Wg _ br63)<|tF tE<|tb λr65 br65=>tv (aF e)<|bG (Qn _ br65)<|tF tE<|tb λr67 br67=>tv (aF e)<|bG (Wh _ br67)<|tE
noncomputable def qgx:Code:=f116.body.getD .skip
def qmm:List Nat:=[25]
theorem qix:ZF Pg qmm 116 f116 qgx:=zf call116 func116 rfl mixed
section
variable(v:Int)(v2:waD)(i:Int)
def vV:Option Bool:=
 if decide (i<(v2.length:Int))=true then
  some (v==0)
 else
  some false
theorem RV:OJ 0 (cA qgx 988) (vV v v2 i) .normal (λo=>aQ 26 [(3,.int .i64 v),(4,sl ah v2),(5,.int .i64 i),(17,.bool o)] [.dead] [((4,0),36)]) (aQ 26 [(3,.int .i64 v),(4,sl ah v2),(5,.int .i64 i)] [.dead] [((4,0),36)]):=qix.j<|
 tf (λc3=>bL (dJ.ln v2)<|tg 5 c3<|tE) λc3=>bL (dJ.ln v2)<|tg 5 c3<|tE
end
section
variable(R144:Es)(v2:waD)(v:Int)(i:Int)
def Ct:aK:=aQ 26 [(3,.int .i64 v),(4,sl ah v2),(5,.int .i64 i)] [.dead] [((4,0),36)]
def JR(o:Int):aK:=aQ 26 [(3,.int .i64 o)] [.dead] []
def ib:Option ((Int×Int)⊕(Int)):=
 (vV v v2 i).bind λo4=>
 if o4=true then
  (cX v2 i).bind λx6=>
  (R144 x6).bind λr7=>
  some (.inl (r7,dt (i+1)))
 else
  some (.inr v)
def qF:Option Int:=loop (λ(zz:Int×Int)=>ib R144 v2 zz.1 zz.2) (v,i)
theorem Qo(hR144:Ke R144):OL 0 (cA qgx 247) (ib R144 v2 v i) (λ(zz:Int×Int)=>Ct v2 zz.1 zz.2) (λ_=>.exit 0) JR (Ct v2 v i):=qix.l<|
 tb λo4 bo4=>fc 1<|bT (RV v v2 i _ bo4)<|tF (tb λx6 bx6=>tb λr7 br7=>tv (dJ.ia (k:=.i64) bx6)<|tv (aF x6)<|bG (hR144 _ _ br7)<|tE)<|tE
theorem RW(hR144:Ke R144):OJ 0 (.loop (cA qgx 247)) (qF R144 v2 v i) (.exit 0) JR (Ct v2 v i):=y1 λ_=>Qo _ _ _ _ hR144
end
def Ec(R144:Es)(e:ag):Option Int:=
 (vW e).bind λr1=>
 (tY e).bind λr2=>
 (qF R144 r2 r1 0).bind λo8=>
 some o8
theorem Wf(R144:Es)(hR144:Ke R144){e:ag}:OV 116 [.agg (ah e)] (Ec R144 e) (λr=>.int .i64 r) []:=qix.v<|
 tb λr1 br1=>tb λr2 br2=>tb λo8 bo8=>te (bQ e)<|tv (aF e)<|bG (X7 _ br1)<|tv (aF e)<|bG (Cq _ br2)<|bT (RW R144 r2 r1 0 hR144 _ bo8)<|tE
def Kk:(ag->Option Int)->(ag)->Option Int:=λ(rec:ag->Option Int) (x:ag)=>Ec (λe=>rec e) x
def RU(e:ag):Option Int:=pA Kk e
theorem X6{e:ag}:OV 116 [.agg (ah e)] (RU e) (λr=>.int .i64 r) []:=Do λ_ h=>
 dN (F:=Kk) (M:=λ(x:ag) (r:Int)=>CC Pg GE 116 [.agg (ah x)] (.int .i64 r) []) (λrec hrec x r h=>Wf _ (λe=>Do λr h=>hrec e r h) _ h) h
noncomputable def qtp:Code:=f65.body.getD .skip
def qsf:List Nat:=[]
theorem qsW:ZF Pg qsf 65 f65 qtp:=zf call65 func65 rfl mixed
def yV(e:ag):Option Int:=
 (Iq e).bind λr1=>
 if decide (r1>400)=true then
  some 7
 else
  (NF e).bind λr3=>
  if decide (r3>40)=true then
   some 8
  else
   (RU e).bind λr5=>
   some r5
theorem Wd{e:ag}:OV 65 [.agg (ah e)] (yV e) (λr=>.int .i64 r) []:=qsW.v<|
 tb λr1 br1=>te (bQ e)<|tv (aF e)<|bG (LI _ br1)<|tF tE<|tb λr3 br3=>tv (aF e)<|bG (We _ br3)<|tF tE<|tb λr5 br5=>tv (aF e)<|bG (X6 _ br5)<|tE
noncomputable def qtk:Code:=f55.body.getD .skip
def qr5:List Nat:=[]
theorem qsR:ZF Pg qr5 55 f55 qtk:=zf call55 func55 rfl mixed
def dl(ok:Bool)(k0:ae)(k02:Bool):Option Bool:=
 if(!ok)=true then
  some true
 else
  some k02
theorem dy{ok:Bool}{k0:ae}{k02:Bool}:OG 55 [.bptr 0 0,.bool ok] [] [.cells [.str k0,.bool k02] []] (dl ok k0 k02) (λr=>.tuple []) [] (λr=>[.cells [.str k0,.bool r] []]):=qsR.g 1<|
 tF (ts<|tE)<|tE
abbrev bp:=(ag->ae->Bool->Option (ae×Bool))
abbrev cq(R:bp):Prop:=∀(e:ag) (k0:ae) (k02:Bool),OG 66 [.bptr 0 0,.agg (ah e)] [] [.cells [.str k0,.bool k02] []] (R e k0 k02) (λr=>.tuple []) [] (λr=>[.cells [.str r.1,.bool r.2] []])
noncomputable def qpC:Code:=f168.body.getD .skip
def qmX:List Nat:=[]
theorem qoC:ZF Pg qmX 168 f168 qpC:=zf call168 func168 rfl mixed
def nj(e:ag):Option Bool:=
 if(e.Op==21)=true then
  if((e.Kids.length:Int)==1)=true then
   (cX e.Kids 0).bind λx5=>
   some (x5.Op==16)
  else
   some false
 else
  some false
theorem Ht{e:ag}:OV 168 [.agg (ah e)] (nj e) (λr=>.bool r) []:=qoC.v<|
 te (bQ e)<|have pp2:=λ{X Y Z} (r:PV _ X Y Z)=>tw (bk e)<|r;tf (λc1=>have pp4:=λ{X Y Z} (r:PV _ X Y Z)=>pp2<|tg 4 c1<|tw (aq e)<|bL (dJ.ln e.Kids)<|r;tf (λc3=>tb λx5 bx5=>pp4<|tg 10 c3<|tw (aq e)<|tv (dJ.ia (k:=.i64) bx5)<|tw (bk x5)<|tE) λc3=>pp4<|tg 10 c3<|tE) λc1=>pp2<|tg 4 c1<|tE
noncomputable def qd2:Code:=f117.body.getD .skip
def qmn:List Nat:=[]
theorem qdR:ZF Pg qmn 117 f117 qd2:=zf call117 func117 rfl mixed
section
variable(e:ag)(t4:Int)
def LS:Option Bool:=
 if(t4==7)=true then
  some (t4==7)
 else if(t4==8)=true then
  some (t4==8)
 else if(t4==9)=true then
  some (t4==9)
 else if(t4==6)=true then
  some (t4==6)
 else
  some (t4==25)
theorem Qq:OJ 0 (cA qd2 54) (LS t4) .normal (λo=>aQ 32 [(1,.eptr (ah e)),(4,.int .i64 t4),(5,.bool o)] [.dead] []) (aQ 32 [(1,.eptr (ah e)),(4,.int .i64 t4)] [.dead] []):=qdR.j<|
 tF tE<|tF tE<|tF tE<|tF tE<|tE
end
section
variable(t4:Int)
def LT:Option Bool:=
 if(t4==16)=true then
  some (t4==16)
 else if(t4==17)=true then
  some (t4==17)
 else
  some (t4==18)
theorem Qr:OJ 0 (cA qd2 14334) (LT t4) .normal (λo=>aQ 32 [(4,.int .i64 t4),(19,.bool o)] [.dead] []) (aQ 32 [(4,.int .i64 t4)] [.dead] []):=qdR.j<|
 tF tE<|tF tE<|tE
end
section
variable(t4:Int)
def LU:Option Bool:=
 if(t4==10)=true then
  some (t4==10)
 else
  some (t4==11)
theorem Qs:OJ 0 (cA qd2 57342) (LU t4) .normal (λo=>aQ 32 [(4,.int .i64 t4),(23,.bool o)] [.dead] []) (aQ 32 [(4,.int .i64 t4)] [.dead] []):=qdR.j<|
 tF tE<|tE
end
section
variable(t4:Int)
def LW:Option Bool:=
 if(t4==12)=true then
  some (t4==12)
 else if(t4==13)=true then
  some (t4==13)
 else
  some (t4==14)
theorem Qt:OJ 0 (cA qd2 229374) (LW t4) .normal (λo=>aQ 32 [(4,.int .i64 t4),(26,.bool o)] [.dead] []) (aQ 32 [(4,.int .i64 t4)] [.dead] []):=qdR.j<|
 tF tE<|tF tE<|tE
end
def Is(e:ag):Option Int:=
 (LS e.Op).bind λo5=>
 if o5=true then
  some 0
 else if(e.Op==20)=true then
  some 1
 else if(e.Op==19)=true then
  some 2
 else if(e.Op==21)=true then
  (nj e).bind λr10=>
  if r10=true then
   some 4
  else
   some 3
 else
  (LT e.Op).bind λo14=>
  if o14=true then
   some 4
  else
   (LU e.Op).bind λo17=>
   if o17=true then
    some 5
   else
    (LW e.Op).bind λo21=>
    if o21=true then
     some 6
    else if(e.Op==15)=true then
     some 7
    else
     some 8
theorem LX{e:ag}:OV 117 [.agg (ah e)] (Is e) (λr=>.int .i64 r) []:=qdR.v<|
 tb λo5 bo5=>te (bQ e)<|tw (bk e)<|fc 0<|bT (Qq e e.Op _ bo5)<|tF tE<|tF tE<|tF tE<|tF (tb λr10 br10=>tv (aF e)<|bG (Ht _ br10)<|tF tE<|tE)<|tb λo14 bo14=>fc 0<|bT (Qr e.Op _ bo14)<|tF tE<|tb λo17 bo17=>fc 0<|bT (Qs e.Op _ bo17)<|tF tE<|tb λo21 bo21=>fc 0<|bT (Qt e.Op _ bo21)<|tF tE<|tF tE<|tE
noncomputable def qqd:Code:=f41.body.getD .skip
def qr1:List Nat:=[]
theorem qq3:ZF Pg qr1 41 f41 qqd:=zf call41 func41 rfl mixed
section
variable(t6:waA)(t7:Int)(m2:Bool)(t8:Int)(m:ae)
def oR:aK:=aQ 21 [(0,.bptr 0 0),(6,sl cS t6),(7,.int .i64 t7),(8,.int .i64 t8)] [.cells [.str m,.bool m2] []] []
def xr(o:ae):aK:=aQ 21 [] [.cells [.str o,.bool m2] []] []
def gU:Option ((Int×ae)⊕(ae)):=
 if decide (t8<t7)=true then
  (cX t6 t8).bind λx2=>
  (Mc m x2).bind λs3=>
  some (.inl (dt (t8+1),s3))
 else
  some (.inr m)
def rG:Option ae:=loop (λ(zz:Int×ae)=>gU t6 t7 zz.1 zz.2) (t8,m)
theorem Ge:OL 1 (cA qqd 15) (gU t6 t7 t8 m) (λ(zz:Int×ae)=>oR t6 t7 m2 zz.1 zz.2) (λ_=>.exit 0) (xr m2) (oR t6 t7 m2 t8 m):=qq3.l<|
 tF (tb λx2 bx2=>tb λs3 bs3=>tv (d8.ia (k:=.i64) bx2)<|tv (eC XC (.str x2) [])<|ts<|tv (gC (P:=Pg) (t:=9) bs3)<|ts<|tE)<|tE
theorem Hq:OJ 1 (.loop (cA qqd 15)) (rG t6 t7 t8 m) (.exit 0) (xr m2) (oR t6 t7 m2 t8 m):=y1 λ_=>Ge _ _ _ _ _
end
def ay(a:waA)(k0:ae)(k02:Bool):Option ae:=
 (rG a (a.length:Int) 0 k0).bind λo4=>
 some o4
theorem ax{a:waA}{k0:ae}{k02:Bool}:OG 41 [.bptr 0 0,sl cS a] [] [.cells [.str k0,.bool k02] []] (ay a k0 k02) (λr=>.tuple []) [] (λr=>[.cells [.str r,.bool k02] []]):=qq3.g 1<|
 tb λo4 bo4=>bL (d8.ln a)<|bT (Hq a (a.length:Int) k02 0 k0 _ bo4)<|tE
noncomputable def qrf:Code:=f60.body.getD .skip
def qsa:List Nat:=[]
theorem qq4:ZF Pg qsa 60 f60 qrf:=zf call60 func60 rfl mixed
section
variable(s:ae)(capital:Bool)(m:ae)(m2:Bool)
def lj:Option Bool:=
 (io s).bind λr1=>
 if(r1==0)=true then
  (jC s 0).bind λc3=>
  if decide (c3>=65)=true then
   (jC s 0).bind λc6=>
   (dl ((decide (c6<=90))==capital) m m2).bind λr7=>
   some r7
  else
   (dl (false==capital) m m2).bind λr8=>
   some r8
 else
  (dl false m m2).bind λr9=>
  some r9
theorem Gd:OJ 1 (cA qrf 2) (lj s capital m m2) .normal (λo=>aQ 27 [(0,.bptr 0 0),(1,.str s)] [.cells [.str m,.bool o] []] []) (aQ 27 [(0,.bptr 0 0),(1,.str s),(2,.bool capital)] [.cells [.str m,.bool m2] []] []):=qq4.j<|
 tb λr1 br1=>tf (λc2=>tb λc3 bc3=>have pp5:=λ{X Y Z} (r:PV _ X Y Z)=>bG (gq _ br1)<|tg 5 c2<|tv (fF (k:=.i64) underlying9 bc3)<|r;tf (λc4=>tb λc6 bc6=>tb λr7 br7=>pp5<|tg 9 c4<|tv (fF (k:=.i64) underlying9 bc6)<|tc [0] (dy _ br7)<|tE) λc4=>tb λr8 br8=>pp5<|tg 9 c4<|tc [0] (dy _ br8)<|tE) λc2=>tb λr9 br9=>bG (gq _ br1)<|tg 5 c2<|tc [0] (dy _ br9)<|tE
end
def cT(s:ae)(capital:Bool)(k0:ae)(k02:Bool):Option (ae×Bool):=
 (lj s capital k0 k02).bind λo10=>
 (ay ([s]:List ae) k0 o10).bind λr11=>
 some (r11,o10)
theorem dw{s:ae}{capital:Bool}{k0:ae}{k02:Bool}:OG 60 [.bptr 0 0,.str s,.bool capital] [] [.cells [.str k0,.bool k02] []] (cT s capital k0 k02) (λr=>.tuple []) [] (λr=>[.cells [.str r.1,.bool r.2] []]):=qq4.g 1<|
 tb λo10 bo10=>tb λr11 br11=>fc 0<|bT (Gd s capital k0 k02 _ bo10)<|tv (bJ [s] 1 rfl)<|tc [0] (ax _ br11)<|tE
abbrev dK:=(af->ae->Bool->Option (Bool×ae))
abbrev eT(R:dK):Prop:=∀(t:af) (k0:ae) (k02:Bool),OG 24 [.bptr 0 0,.agg (ai t)] [] [.cells [.str k0,.bool k02] []] (R t k0 k02) (λr=>.tuple []) [] (λr=>[.cells [.str r.2,.bool r.1] []])
noncomputable def qtm:Code:=f57.body.getD .skip
def qr7:List Nat:=[]
theorem qsT:ZF Pg qr7 57 f57 qtm:=zf call57 func57 rfl mixed
def zE(p:aa):Option Bool:=
 (GU p (⟨0,([]:ae),0,([]:List aa)⟩:aa)).bind λr1=>
 some r1
theorem Bv{p:aa}:OV 57 [.agg (ac p)] (zE p) (λr=>.bool r) []:=qsT.v<|
 tb λr1 br1=>te (dQ p)<|tv (bu p)<|QT (Kx) (Ku)<|bG (GY _ br1)<|tE
noncomputable def qtv:Code:=f83.body.getD .skip
def qsq:List Nat:=[]
theorem qs2:ZF Pg qsq 83 f83 qtv:=zf call83 func83 rfl mixed
def eU(i:Int)(k0:ae)(k02:Bool):Option ae:=
 if decide (i>0)=true then
  (ay ([aU]:List ae) k0 k02).bind λr2=>
  some r2
 else
  some k0
theorem fq{i:Int}{k0:ae}{k02:Bool}:OG 83 [.bptr 0 0,.int .i64 i] [] [.cells [.str k0,.bool k02] []] (eU i k0 k02) (λr=>.tuple []) [] (λr=>[.cells [.str r,.bool k02] []]):=qs2.g 1<|
 tF (tb λr2 br2=>tv (bJ [aU] 1 rfl)<|tc [0] (ax _ br2)<|tE)<|tE
noncomputable def ql1:Code:=f58.body.getD .skip
def qr8:List Nat:=[19]
theorem qpb:ZF Pg qr8 58 f58 ql1:=zf call58 func58 rfl mixed
section
variable(t:af)(i:Int)(t15:waB)(t16:Int)(m:ae)(m2:Bool)(m3:Int)(m4:ae)(m5:waB)(m6:waA)(m7:Int)(m8:ae)(m9:Int)(m10:waC)(m11:waC)
def rC:Option ((ae×Bool)):=
 if decide ((t.Names.length:Int)>0)=true then
  (cX t.Names i).bind λx7=>
  (cT x7 false m m2).bind λr8=>
  (ay ([bX]:List ae) r8.1 r8.2).bind λr9=>
  some (r9,r8.2)
 else
  some (m,m2)
theorem Hm:OJ 1 (cA ql1 15342) (rC t i m m2) .normal (λo=>aQ 56 [(0,.bptr 0 0),(3,.eptr (ai t)),(5,.bptr 2 0),(15,sl ai t15),(16,.int .i64 t16),(17,.int .i64 i)] [.cells [.str o.1,.bool o.2] [],.dead,.cells [.int .i64 m3,.str m4,sl ai m5,sl cS m6,.int .i64 m7,.str m8,.int .i64 m9,sl ac m10,sl ac m11] []] []) (aQ 56 [(0,.bptr 0 0),(3,.eptr (ai t)),(4,.int .i64 i),(5,.bptr 2 0),(15,sl ai t15),(16,.int .i64 t16),(17,.int .i64 i)] [.cells [.str m,.bool m2] [],.dead,.cells [.int .i64 m3,.str m4,sl ai m5,sl cS m6,.int .i64 m7,.str m8,.int .i64 m9,sl ac m10,sl ac m11] []] []):=qpb.j<|
 tw (aX t)<|bL (d8.ln t.Names)<|tF (tb λx7 bx7=>tb λr8 br8=>tb λr9 br9=>tw (aX t)<|tv (d8.ia (k:=.i64) bx7)<|tv (eC XC (.str x7) [])<|tc [0] (dw _ br8)<|tv (bJ [bX] 1 rfl)<|tc [0] (ax _ br9)<|tE)<|tE
end
section
variable(R182:dK)(t:af)(t15:waB)(t16:Int)(t17:Int)(m:ae)(m2:Bool)
def j4:aK:=aQ 56 [(0,.bptr 0 0),(3,.eptr (ai t)),(15,sl ai t15),(16,.int .i64 t16),(17,.int .i64 t17)] [.cells [.str m,.bool m2] [],.dead] []
def oM(o:ae×Bool):aK:=aQ 56 [(0,.bptr 0 0),(3,.eptr (ai t))] [.cells [.str o.1,.bool o.2] [],.dead] []
instance iS_R22_Writer_fun_L1:KS 1 (j4 t t15 t16 t17 m m2):=⟨rfl,(bD (aI (cZ rfl) (aI (eA (cJ t)) (aI (up (aZ cJ t15)) (aI vzz (aI vzz vzz)))))),(aI (aI vzz (aI vzz vzz)) (aI vzz vzz))⟩
instance iO_R22_Writer_fun_L1{o:(ae×Bool)}:KS 1 (oM t o):=⟨rfl,(bD (aI (cZ rfl) (aI (eA (cJ t)) trivial))),(aI (aI vzz (aI vzz vzz)) (aI vzz vzz))⟩
def eG:Option ((Int×ae×Bool)⊕((ae×Bool))):=
 if decide (t17<t16)=true then
  (cX t15 t17).bind λx4=>
  (eU t17 m m2).bind λr5=>
  (rC t t17 r5 m2).bind λo10=>
  (R182 x4 o10.1 o10.2).bind λr11=>
  some (.inl (dt (t17+1),r11.2,r11.1))
 else
  some (.inr (m,m2))
def rD:Option ((ae×Bool)):=loop (λ(zz:Int×ae×Bool)=>eG R182 t t15 t16 zz.1 zz.2.1 zz.2.2) (t17,m,m2)
theorem Ga(hR182:eT R182):OL 1 (cA ql1 119) (eG R182 t t15 t16 t17 m m2) (λ(zz:Int×ae×Bool)=>j4 t t15 t16 zz.1 zz.2.1 zz.2.2) (λ_=>.exit 0) (oM t) (j4 t t15 t16 t17 m m2):=qpb.lx<|
 tF (tb λx4 bx4=>tb λr5 br5=>tb λo10 bo10=>tb λr11 br11=>tv (cu.ia (k:=.i64) bx4)<|tv (bo x4)<|tx K8<|tx (gJ x4)<|tc [0] (fq _ br5)<|fc 0<|bT (Hm t t17 t15 t16 r5 m2 x4.Op x4.Name x4.Args x4.Names x4.Pred.Op x4.Pred.Name x4.Pred.N x4.Pred.Kids x4.Preds _ bo10)<|tv (ed x4 [])<|tc [0] (hR182 _ _ _ _ br11)<|tE)<|tE
theorem Hn(hR182:eT R182):OJ 1 (.loop (cA ql1 119)) (rD R182 t t15 t16 t17 m m2) (.exit 0) (oM t) (j4 t t15 t16 t17 m m2):=y1 λ_=>Ga _ _ _ _ _ _ _ hR182
end
def nh(R182:dK)(t:af)(k0:ae)(k02:Bool):Option (ae×Bool):=
 (ay ([cE]:List ae) k0 k02).bind λr1=>
 (OY t.Args none (some (dt ((t.Args.length:Int) - 1)))).bind λl2=>
 (rD R182 t l2 (l2.length:Int) 0 r1 k02).bind λo12=>
 (ay ([cG]:List ae) o12.1 o12.2).bind λr13=>
 (cX t.Args (dt ((t.Args.length:Int) - 1))).bind λx14=>
 (R182 x14 r13 o12.2).bind λr15=>
 some (r15.2,r15.1)
theorem LN(R182:dK)(hR182:eT R182){t:af}{k0:ae}{k02:Bool}:OG 58 [.bptr 0 0,.agg (ai t)] [] [.cells [.str k0,.bool k02] []] (nh R182 t k0 k02) (λr=>.tuple []) [] (λr=>[.cells [.str r.1,.bool r.2] []]):=qpb.g 1<|
 tb λr1 br1=>tb λl2 bl2=>tb λo12 bo12=>tb λr13 br13=>tb λx14 bx14=>tb λr15 br15=>te (dR t)<|tv (bJ [cE] 1 rfl)<|tc [0] (ax _ br1)<|tw (aM t)<|tw (aM t)<|bL (cu.ln t.Args)<|tv (cu.sc bl2)<|bL (cu.ln l2)<|bT (Hn R182 t l2 (l2.length:Int) 0 r1 k02 hR182 _ bo12)<|tv (bJ [cG] 1 rfl)<|tc [0] (ax _ br13)<|tw (aM t)<|tw (aM t)<|bL (cu.ln t.Args)<|tv (cu.ia (k:=.i64) bx14)<|tv (bo x14)<|tc [0] (hR182 _ _ _ _ br15)<|tE
abbrev Bw:=(aa->Option Int)
abbrev Gw(R:Bw):Prop:=∀(p:aa),OV 196 [.agg (ac p)] (R p) (λr=>.int .i64 r) []
noncomputable def qi0:Code:=f196.body.getD .skip
def qnl:List Nat:=[]
theorem qkv:ZF Pg qnl 196 f196 qi0:=zf call196 func196 rfl mixed
section
variable(R189:Bw)(t7:waC)(t8:Int)(n:Int)(t9:Int)
def rn:aK:=aQ 20 [(3,.int .i64 n),(7,sl ac t7),(8,.int .i64 t8),(9,.int .i64 t9)] [.dead] []
def zd(o:Int):aK:=aQ 20 [(3,.int .i64 o)] [.dead] []
instance iS_R07_Depth_L1:KS 0 (rn t7 t8 n t9):=⟨rfl,(bD (aI vzz (aI (up (aZ bK t7)) (aI vzz (aI vzz vzz))))),(aI vzz vzz)⟩
instance iO_R07_Depth_L1{o:Int}:KS 0 (zd o):=⟨rfl,(bD (aI vzz vzz)),(aI vzz vzz)⟩
def GT:Option ((Int×Int)⊕(Int)):=
 if decide (t9<t8)=true then
  (cX t7 t9).bind λx2=>
  (R189 x2).bind λr3=>
  some (.inl ((if r3>n then r3 else n),dt (t9+1)))
 else
  some (.inr n)
def D4:Option Int:=loop (λ(zz:Int×Int)=>GT R189 t7 t8 zz.1 zz.2) (n,t9)
theorem NC(hR189:Gw R189):OL 0 (cA qi0 119) (GT R189 t7 t8 n t9) (λ(zz:Int×Int)=>rn t7 t8 zz.1 zz.2) (λ_=>.exit 0) zd (rn t7 t8 n t9):=qkv.lx<|
 tF (tb λx2 bx2=>tb λr3 br3=>tv (dT.ia (k:=.i64) bx2)<|tv (bu x2)<|tx M0<|tx (fT x2)<|tv (fS x2 [])<|bG (hR189 _ _ br3)<|tE)<|tE
theorem Qb(hR189:Gw R189):OJ 0 (.loop (cA qi0 119)) (D4 R189 t7 t8 n t9) (.exit 0) zd (rn t7 t8 n t9):=y1 λ_=>NC _ _ _ _ _ hR189
end
def A4(R189:Bw)(p:aa):Option Int:=
 (D4 R189 p.Kids (p.Kids.length:Int) 0 0).bind λo4=>
 some (dt (o4+1))
theorem T4(R189:Bw)(hR189:Gw R189){p:aa}:OV 196 [.agg (ac p)] (A4 R189 p) (λr=>.int .i64 r) []:=qkv.v<|
 tb λo4 bo4=>te (dQ p)<|tw (aC p)<|bL (dT.ln p.Kids)<|bT (Qb R189 p.Kids (p.Kids.length:Int) 0 0 hR189 _ bo4)<|tE
def A5:(aa->Option Int)->(aa)->Option Int:=λ(rec:aa->Option Int) (x:aa)=>A4 (λp=>rec p) x
def CW(p:aa):Option Int:=pA A5 p
theorem V6{p:aa}:OV 196 [.agg (ac p)] (CW p) (λr=>.int .i64 r) []:=Do λ_ h=>
 dN (F:=A5) (M:=λ(x:aa) (r:Int)=>CC Pg GE 196 [.agg (ac x)] (.int .i64 r) []) (λrec hrec x r h=>T4 _ (λp=>Do λr h=>hrec p r h) _ h) h
abbrev Ep:=(aa->Option Int)
abbrev Kc(R:Ep):Prop:=∀(p:aa),OV 197 [.agg (ac p)] (R p) (λr=>.int .i64 r) []
noncomputable def qp6:Code:=f249.body.getD .skip
def qn2:List Nat:=[]
theorem qo5:ZF Pg qn2 249 f249 qp6:=zf call249 func249 rfl mixed
def yS(op:Int):Option Bool:=
 if(op==3)=true then
  some true
 else if(op==4)=true then
  some true
 else
  some (op==5)
theorem V9{op:Int}:OV 249 [.int .i64 op] (yS op) (λr=>.bool r) []:=qo5.v<|
 tf (λc1=>tg 3 c1<|tE) λc1=>tf (λc2=>tg 3 c1<|tg 7 c2<|tE) λc2=>tg 3 c1<|tg 7 c2<|tE
noncomputable def qgI:Code:=f250.body.getD .skip
def qn3:List Nat:=[]
theorem qgp:ZF Pg qn3 250 f250 qgI:=zf call250 func250 rfl mixed
section
variable(n:Int)(t5:Int)
def vM:Option Bool:=
 if(t5==1)=true then
  some (t5==1)
 else if(t5==2)=true then
  some (t5==2)
 else
  some (t5==3)
theorem RC:OJ 0 (cA qgI 54) (vM t5) .normal (λo=>aQ 28 [(1,.int .i64 n),(5,.int .i64 t5),(6,.bool o)] [] []) (aQ 28 [(1,.int .i64 n),(5,.int .i64 t5)] [] []):=qgp.j<|
 tF tE<|tF tE<|tE
end
section
variable(n:Int)(t5:Int)
def vN:Option Bool:=
 if(t5==4)=true then
  some (t5==4)
 else
  some (t5==5)
theorem RD:OJ 0 (cA qgI 222) (vN t5) .normal (λo=>aQ 28 [(1,.int .i64 n),(5,.int .i64 t5),(12,.bool o)] [] []) (aQ 28 [(1,.int .i64 n),(5,.int .i64 t5)] [] []):=qgp.j<|
 tF tE<|tE
end
section
variable(n:Int)(t5:Int)
def vO:Option Bool:=
 if(t5==9)=true then
  some (t5==9)
 else
  some (t5==14)
theorem RE:OJ 0 (cA qgI 894) (vO t5) .normal (λo=>aQ 28 [(1,.int .i64 n),(21,.bool o)] [] []) (aQ 28 [(1,.int .i64 n),(5,.int .i64 t5)] [] []):=qgp.j<|
 tF tE<|tE
end
def mW(op:Int)(n:Int):Option Bool:=
 (vM op).bind λo3=>
 if o3=true then
  some (n==0)
 else
  (vN op).bind λo6=>
  if o6=true then
   if decide (n>=1)=true then
    some (decide (n<=24))
   else
    some false
  else
   (vO op).bind λo10=>
   if o10=true then
    some (n==1)
   else
    some (n==2)
theorem Bd{op:Int}{n:Int}:OV 250 [.int .i64 op,.int .i64 n] (mW op n) (λr=>.bool r) []:=qgp.v<|
 tb λo3 bo3=>fc 3<|bT (RC n op _ bo3)<|tF tE<|tb λo6 bo6=>fc 0<|bT (RD n op _ bo6)<|tF (tf (λc8=>tg 3 c8<|tE) λc8=>tg 3 c8<|tE)<|tb λo10 bo10=>fc 0<|bT (RE n op _ bo10)<|tF tE<|tE
noncomputable def qp8:Code:=f251.body.getD .skip
def qn4:List Nat:=[]
theorem qo6:ZF Pg qn4 251 f251 qp8:=zf call251 func251 rfl mixed
def qh(p:aa):Option Bool:=
 if(p.Op==3)=true then
  if(p.Name==([118]:ae))=true then
   some true
  else
   (io p.Name).bind λr4=>
   some (r4==0)
 else if(p.Op==4)=true then
  if(p.Name==([116,97,103]:ae))=true then
   some true
  else if(p.Name==([118,97,108]:ae))=true then
   some true
  else
   (io p.Name).bind λr10=>
   some (r10==0)
 else if(p.Op==5)=true then
  (io p.Name).bind λr12=>
  some (r12==0)
 else
  some true
theorem T6{p:aa}:OV 251 [.agg (ac p)] (qh p) (λr=>.bool r) []:=qo6.v<|
 te (dQ p)<|tw (aD p)<|tF (have pp3:=λ{X Y Z} (r:PV _ X Y Z)=>tw (bv p)<|r;tf (λc2=>pp3<|tg 4 c2<|tE) λc2=>tb λr4 br4=>pp3<|tg 4 c2<|tw (bv p)<|bG (gq _ br4)<|tE)<|tF (have pp7:=λ{X Y Z} (r:PV _ X Y Z)=>tw (bv p)<|r;tf (λc6=>pp7<|tg 4 c6<|tE) λc6=>have pp9:=λ{X Y Z} (r:PV _ X Y Z)=>pp7<|tg 4 c6<|tw (bv p)<|r;tf (λc8=>pp9<|tg 9 c8<|tE) λc8=>tb λr10 br10=>pp9<|tg 9 c8<|tw (bv p)<|bG (gq _ br10)<|tE)<|tF (tb λr12 br12=>tw (bv p)<|bG (gq _ br12)<|tE)<|tE
end Go.Proofs.YtibglelmlnfojaaGreatDoor
