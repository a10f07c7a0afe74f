/- PROVED: a part of the proof. Conditions: none. -/
import Derived.Test.YtibglelmlnfojaaGreatDoorpt11
set_option linter.unusedSimpArgs false
set_option linter.unusedVariables false
noncomputable section
namespace Go.Proofs.YtibglelmlnfojaaGreatDoor
open Go Go.Proofs.Tryz
set_option linter.unusedVariables false
set_option maxRecDepth 100000
noncomputable def qea:Code:=f178.body.getD .skip
def qm7:List Nat:=[]
theorem qgk:ZF Pg qm7 178 f178 qea:=zf call178 func178 rfl mixed
section
variable(s:ae)
def vb:Option Bool:=
 (qP s).bind λr1=>
 if(!r1)=true then
  some true
 else
  (jC s 0).bind λc3=>
  (ny c3).bind λr4=>
  if(!r4)=true then
   some true
  else
   (u7 s).bind λr7=>
   some r7
theorem Ot:OJ 0 (cA qea 12) (vb s) .normal (λo=>aQ 41 [(0,.str s),(16,.bool o)] [] []) (aQ 41 [(0,.str s)] [] []):=qgk.j<|
 tb λr1 br1=>tf (λc2=>bG (kF _ br1)<|tg 4 c2<|tE) λc2=>tb λc3 bc3=>tb λr4 br4=>have pp6:=λ{X Y Z} (r:PV _ X Y Z)=>bG (kF _ br1)<|tg 4 c2<|tv (fF (k:=.i64) underlying9 bc3)<|bG (rY _ br4)<|r;tf (λc5=>pp6<|tg 10 c5<|tE) λc5=>tb λr7 br7=>pp6<|tg 10 c5<|bG (On _ br7)<|tE
end
section
variable(s:ae)(i:Int)
def vd:Option Bool:=
 (jC s i).bind λc11=>
 (ny c11).bind λr12=>
 if(!r12)=true then
  (jC s i).bind λc15=>
  (qO c15).bind λr16=>
  if(!r16)=true then
   (jC s i).bind λc19=>
   some (c19 !=95)
  else
   some false
 else
  some false
theorem Ov:OJ 0 (cA qea 1914) (vd s i) .normal (λo=>aQ 41 [(0,.str s),(3,.int .i64 i),(40,.bool o)] [] []) (aQ 41 [(0,.str s),(3,.int .i64 i)] [] []):=qgk.j<|
 tb λc11 bc11=>tb λr12 br12=>have pp14:=λ{X Y Z} (r:PV _ X Y Z)=>tv (fF (k:=.i64) underlying9 bc11)<|bG (rY _ br12)<|r;tf (λc13=>tb λc15 bc15=>tb λr16 br16=>have pp18:=λ{X Y Z} (r:PV _ X Y Z)=>pp14<|tg 6 c13<|tv (fF (k:=.i64) underlying9 bc15)<|bG (zX _ br16)<|r;tf (λc17=>tb λc19 bc19=>pp18<|tg 13 c17<|tv (fF (k:=.i64) underlying9 bc19)<|tE) λc17=>pp18<|tg 13 c17<|tE) λc13=>pp14<|tg 6 c13<|tE
end
section
variable(s:ae)(i:Int)
def wR:aK:=aQ 41 [(0,.str s),(3,.int .i64 i)] [] []
def FC(o:Unit⊕(Unit)):Exit:=match o with
 |(.inl _)=>.ret
 |(.inr _)=>.exit 0
def FD(o:Unit⊕(Unit)):aK:=match o with
 |(.inl o)=>aQ 41 [(2,.bool false)] [] []
 |(.inr o)=>aQ 41 [] [] []
def p8:Option (Int⊕(Unit⊕(Unit))):=
 if decide (i<(s.length:Int))=true then
  (vd s i).bind λo20=>
  if o20=true then
   some (.inr (.inl ()))
  else
   some (.inl (dt (i+1)))
 else
  some (.inr (.inr ()))
def vg:Option (Unit⊕(Unit)):=loop (λ(zz:Int)=>p8 s zz) i
theorem MA:OL 0 (cA qea 119) (p8 s i) (λ(zz:Int)=>wR s zz) FC FD (wR s i):=qgk.l<|
 bL (lR underlying9 s)<|tF (tb λo20 bo20=>fc 1<|bT (Ov s i _ bo20)<|tF tE<|tE)<|tE
theorem Dm:OK 0 (.loop (cA qea 119)) (vg s i) FC FD (wR s i):=AN λ_=>MA _ _
end
def EB(s:ae):Option Bool:=
 (vb s).bind λo8=>
 if o8=true then
  some false
 else
  (vg s 1).bind λo22=>match o22 with
  |(.inl o22)=>
   some false
  |(.inr o22)=>
   some true
theorem J1{s:ae}:OV 178 [.str s] (EB s) (λr=>.bool r) []:=qgk.v<|
 tb λo8 bo8=>fc 2<|bT (Ot s _ bo8)<|tF tE<|t2 (λo22 bo22=>bT (Dm s 1 _ bo22)<|tE) λo22 bo22=>bT (Dm s 1 _ bo22)<|tE
noncomputable def qp2:Code:=f225.body.getD .skip
def qnN:List Nat:=[]
theorem qo1:ZF Pg qnN 225 f225 qp2:=zf call225 func225 rfl mixed
def pE(c:Int):Option Bool:=
 if decide (65<=c)=true then
  some (decide (c<=90))
 else
  some false
theorem Dk{c:Int}:OV 225 [.int .u8 c] (pE c) (λr=>.bool r) []:=qo1.v<|
 tf (λc1=>tg 3 c1<|tE) λc1=>tg 3 c1<|tE
noncomputable def qgB:Code:=f181.body.getD .skip
def qna:List Nat:=[]
theorem qiB:ZF Pg qna 181 f181 qgB:=zf call181 func181 rfl mixed
section
variable(s:ae)(i:Int)
def iU:Option Bool:=
 (jC s i).bind λc2=>
 (ny c2).bind λr3=>
 if(!r3)=true then
  (jC s i).bind λc6=>
  (pE c6).bind λr7=>
  if(!r7)=true then
   (jC s i).bind λc10=>
   (qO c10).bind λr11=>
   some (!r11)
  else
   some false
 else
  some false
theorem CA:OJ 0 (cA qgB 890) (iU s i) .normal (λo=>aQ 29 [(0,.str s),(3,.int .i64 i),(28,.bool o)] [] []) (aQ 29 [(0,.str s),(3,.int .i64 i)] [] []):=qiB.j<|
 tb λc2 bc2=>tb λr3 br3=>have pp5:=λ{X Y Z} (r:PV _ X Y Z)=>tv (fF (k:=.i64) underlying9 bc2)<|bG (rY _ br3)<|r;tf (λc4=>tb λc6 bc6=>tb λr7 br7=>have pp9:=λ{X Y Z} (r:PV _ X Y Z)=>pp5<|tg 6 c4<|tv (fF (k:=.i64) underlying9 bc6)<|bG (Dk _ br7)<|r;tf (λc8=>tb λc10 bc10=>tb λr11 br11=>pp9<|tg 13 c8<|tv (fF (k:=.i64) underlying9 bc10)<|bG (zX _ br11)<|tE) λc8=>pp9<|tg 13 c8<|tE) λc4=>pp5<|tg 6 c4<|tE
end
section
variable(s:ae)(i:Int)
def kD:aK:=aQ 29 [(0,.str s),(3,.int .i64 i)] [] []
def qM(o:Unit⊕(Unit)):Exit:=match o with
 |(.inl _)=>.ret
 |(.inr _)=>.exit 0
def qN(o:Unit⊕(Unit)):aK:=match o with
 |(.inl o)=>aQ 29 [(2,.bool false)] [] []
 |(.inr o)=>aQ 29 [] [] []
def eY:Option (Int⊕(Unit⊕(Unit))):=
 if decide (i<(s.length:Int))=true then
  (iU s i).bind λo12=>
  if o12=true then
   some (.inr (.inl ()))
  else
   some (.inl (dt (i+1)))
 else
  some (.inr (.inr ()))
def mc:Option (Unit⊕(Unit)):=loop (λ(zz:Int)=>eY s zz) i
theorem AM:OL 0 (cA qgB 55) (eY s i) (λ(zz:Int)=>kD s zz) qM qN (kD s i):=qiB.l<|
 bL (lR underlying9 s)<|tF (tb λo12 bo12=>fc 1<|bT (CA s i _ bo12)<|tF tE<|tE)<|tE
theorem pD:OK 0 (.loop (cA qgB 55)) (mc s i) qM qN (kD s i):=AN λ_=>AM _ _
end
def iD(s:ae):Option Bool:=
 (mc s 0).bind λo14=>match o14 with
 |(.inl o14)=>
  some false
 |(.inr o14)=>
  some true
theorem tH{s:ae}:OV 181 [.str s] (iD s) (λr=>.bool r) []:=qiB.v<|
 t2 (λo14 bo14=>bT (pD s 0 _ bo14)<|tE) λo14 bo14=>bT (pD s 0 _ bo14)<|tE
noncomputable def qkS:Code:=f179.body.getD .skip
def qm8:List Nat:=[]
theorem qkr:ZF Pg qm8 179 f179 qkS:=zf call179 func179 rfl mixed
section
variable(s:ae)
def rZ:Option Bool:=
 (qP s).bind λr1=>
 if(!r1)=true then
  some true
 else
  (jC s 0).bind λc3=>
  (pE c3).bind λr4=>
  if(!r4)=true then
   some true
  else
   (iD s).bind λr7=>
   some (!r7)
theorem MC:OJ 0 (cA qkS 12) (rZ s) .normal (λo=>aQ 31 [(0,.str s),(16,.bool o)] [] []) (aQ 31 [(0,.str s)] [] []):=qkr.j<|
 tb λr1 br1=>tf (λc2=>bG (kF _ br1)<|tg 4 c2<|tE) λc2=>tb λc3 bc3=>tb λr4 br4=>have pp6:=λ{X Y Z} (r:PV _ X Y Z)=>bG (kF _ br1)<|tg 4 c2<|tv (fF (k:=.i64) underlying9 bc3)<|bG (Dk _ br4)<|r;tf (λc5=>pp6<|tg 10 c5<|tE) λc5=>tb λr7 br7=>pp6<|tg 10 c5<|bG (tH _ br7)<|tE
end
def BQ(s:ae):Option Bool:=
 (rZ s).bind λo8=>
 if o8=true then
  some false
 else if(!(s==([73,110,116]:ae)))=true then
  if(!(s==([66,111,111,108]:ae)))=true then
   if(!(s==([67,101,108,108]:ae)))=true then
    some (!(s==([70,117,110]:ae)))
   else
    some false
  else
   some false
 else
  some false
theorem S3{s:ae}:OV 179 [.str s] (BQ s) (λr=>.bool r) []:=qkr.v<|
 tb λo8 bo8=>fc 2<|bT (MC s _ bo8)<|tF tE<|tf (λc10=>tf (λc11=>have pp13:=λ{X Y Z} (r:PV _ X Y Z)=>tg 3 c10<|tg 7 c11<|r;tf (λc12=>pp13<|tg 11 c12<|tE) λc12=>pp13<|tg 11 c12<|tE) λc11=>tg 3 c10<|tg 7 c11<|tE) λc10=>tg 3 c10<|tE
noncomputable def qgC:Code:=f182.body.getD .skip
def qnb:List Nat:=[]
theorem qiC:ZF Pg qnb 182 f182 qgC:=zf call182 func182 rfl mixed
section
variable(s:ae)(i:Int)
def vj:Option Bool:=
 (jC s i).bind λc2=>
 (ny c2).bind λr3=>
 if (!r3) = true then
  if(i==0)=true then
   some true
  else
   (jC s i).bind λc8=>
   (qO c8).bind λr9=>
   if(!r9)=true then
    (jC s i).bind λc12=>
    some (c12 !=95)
   else
    some false
 else
  some false
theorem Oy:OJ 0 (cA qgC 890) (vj s i) .normal (λo=>aQ 32 [(0,.str s),(3,.int .i64 i),(31,.bool o)] [] []) (aQ 32 [(0,.str s),(3,.int .i64 i)] [] []):=qiC.j<|
 tb λc2 bc2=>tb λr3 br3=>have pp5:=λ{X Y Z} (r:PV _ X Y Z)=>tv (fF (k:=.i64) underlying9 bc2)<|bG (rY _ br3)<|r;tf (λc4=>have pp7:=λ{X Y Z} (r:PV _ X Y Z)=>pp5<|tg 6 c4<|r;tf (λc6=>pp7<|tg 9 c6<|tE) λc6=>tb λc8 bc8=>tb λr9 br9=>have pp11:=λ{X Y Z} (r:PV _ X Y Z)=>pp7<|tg 9 c6<|tv (fF (k:=.i64) underlying9 bc8)<|bG (zX _ br9)<|r;tf (λc10=>tb λc12 bc12=>pp11<|tg 15 c10<|tv (fF (k:=.i64) underlying9 bc12)<|tE) λc10=>pp11<|tg 15 c10<|tE) λc4=>pp5<|tg 6 c4<|tE
end
section
variable(s:ae)(i:Int)
def wS:aK:=aQ 32 [(0,.str s),(3,.int .i64 i)] [] []
def FE(o:Unit⊕(Unit)):Exit:=match o with
 |(.inl _)=>.ret
 |(.inr _)=>.exit 0
def FF(o:Unit⊕(Unit)):aK:=match o with
 |(.inl o)=>aQ 32 [(2,.bool false)] [] []
 |(.inr o)=>aQ 32 [] [] []
def lN:Option (Int⊕(Unit⊕(Unit))):=
 if decide (i<(s.length:Int))=true then
  (vj s i).bind λo13=>
  if o13=true then
   some (.inr (.inl ()))
  else
   some (.inl (dt (i+1)))
 else
  some (.inr (.inr ()))
def CB:Option (Unit⊕(Unit)):=loop (λ(zz:Int)=>lN s zz) i
theorem MD:OL 0 (cA qgC 55) (lN s i) (λ(zz:Int)=>wS s zz) FE FF (wS s i):=qiC.l<|
 bL (lR underlying9 s)<|tF (tb λo13 bo13=>fc 1<|bT (Oy s i _ bo13)<|tF tE<|tE)<|tE
theorem Dn:OK 0 (.loop (cA qgC 55)) (CB s i) FE FF (wS s i):=AN λ_=>MD _ _
end
def EC(s:ae):Option Bool:=
 (CB s 0).bind λo15=>match o15 with
 |(.inl o15)=>
  some false
 |(.inr o15)=>
  some true
theorem UA{s:ae}:OV 182 [.str s] (EC s) (λr=>.bool r) []:=qiC.v<|
 t2 (λo15 bo15=>bT (Dn s 0 _ bo15)<|tE) λo15 bo15=>bT (Dn s 0 _ bo15)<|tE
noncomputable def qd3:Code:=f121.body.getD .skip
def qmr:List Nat:=[]
theorem qgc:ZF Pg qmr 121 f121 qd3:=zf call121 func121 rfl mixed
section
variable(first:ae)(rest:ae)(more:Bool)
def uZ:Option Bool:=
 (EB first).bind λr3=>
 if (!r3) = true then
  (BQ first).bind λr5=>
  if(!r5)=true then
   if(!(first==([118]:ae)))=true then
    some true
   else
    some (!more)
  else
   some false
 else
  some false
theorem Oi:OJ 0 (cA qd3 60) (uZ first more) .normal (λo=>aQ 52 [(4,.str rest),(5,.bool more),(31,.bool o)] [] []) (aQ 52 [(3,.str first),(4,.str rest),(5,.bool more)] [] []):=qgc.j<|
 tb λr3 br3=>tf (λc4=>tb λr5 br5=>have pp7:=λ{X Y Z} (r:PV _ X Y Z)=>bG (J1 _ br3)<|tg 4 c4<|bG (S3 _ br5)<|r;tf (λc6=>have pp9:=λ{X Y Z} (r:PV _ X Y Z)=>pp7<|tg 9 c6<|r;tf (λc8=>pp9<|tg 12 c8<|tE) λc8=>pp9<|tg 12 c8<|tE) λc6=>pp7<|tg 9 c6<|tE) λc4=>bG (J1 _ br3)<|tg 4 c4<|tE
end
section
variable(rest:ae)(more:Bool)(part:ae)
def u6:Option Bool:=
 (qP part).bind λr14=>
 if(!r14)=true then
  some true
 else
  (iD part).bind λr16=>
  if(!r16)=true then
   (EC part).bind λr19=>
   some (!r19)
  else
   some false
theorem Ok:OJ 0 (cA qd3 8062) (u6 part) .normal (λo=>aQ 52 [(4,.str rest),(5,.bool more),(51,.bool o)] [] []) (aQ 52 [(4,.str rest),(5,.bool more),(6,.str part)] [] []):=qgc.j<|
 tb λr14 br14=>tf (λc15=>bG (kF _ br14)<|tg 4 c15<|tE) λc15=>tb λr16 br16=>have pp18:=λ{X Y Z} (r:PV _ X Y Z)=>bG (kF _ br14)<|tg 4 c15<|bG (tH _ br16)<|r;tf (λc17=>tb λr19 br19=>pp18<|tg 8 c17<|bG (UA _ br19)<|tE) λc17=>pp18<|tg 8 c17<|tE
end
section
variable(rest:ae)(more:Bool)
def wQ:aK:=aQ 52 [(4,.str rest),(5,.bool more)] [] []
def Fy(o:Unit⊕(Unit)):Exit:=match o with
 |(.inl _)=>.ret
 |(.inr _)=>.exit 0
def FA(o:Unit⊕(Unit)):aK:=match o with
 |(.inl o)=>aQ 52 [(2,.int .i64 3)] [] []
 |(.inr o)=>aQ 52 [] [] []
def jm:Option ((ae×Bool)⊕(Unit⊕(Unit))):=
 if more=true then
  (Dl rest).bind λr13=>
  (u6 r13.1).bind λo20=>
  if o20=true then
   some (.inr (.inl ()))
  else
   some (.inl (r13.2.1,r13.2.2))
 else
  some (.inr (.inr ()))
def ie:Option (Unit⊕(Unit)):=loop (λ(zz:ae×Bool)=>jm zz.1 zz.2) (rest,more)
theorem Mu:OL 0 (cA qd3 251) (jm rest more) (λ(zz:ae×Bool)=>wQ zz.1 zz.2) Fy FA (wQ rest more):=qgc.l<|
 tF (tb λr13 br13=>tb λo20 bo20=>bG (Mx _ br13)<|fc 0<|bT (Ok r13.2.1 r13.2.2 r13.1 _ bo20)<|tF tE<|tE)<|tE
theorem Di:OK 0 (.loop (cA qd3 251)) (ie rest more) Fy FA (wQ rest more):=AN λ_=>Mu _ _
end
def nv(s:ae):Option Int:=
 if decide ((s.length:Int)>120)=true then
  some 3
 else
  (Dl s).bind λr2=>
  (uZ r2.1 r2.2.2).bind λo10=>
  if o10=true then
   some 3
  else
   (ie r2.2.1 r2.2.2).bind λo22=>match o22 with
   |(.inl o22)=>
    some 3
   |(.inr o22)=>
    some 0
theorem jO{s:ae}:OV 121 [.str s] (nv s) (λr=>.int .i64 r) []:=qgc.v<|
 bL (lR underlying9 s)<|tF tE<|tb λr2 br2=>tb λo10 bo10=>bG (Mx _ br2)<|fc 1<|bT (Oi r2.1 r2.2.1 r2.2.2 _ bo10)<|tF tE<|t2 (λo22 bo22=>bT (Di r2.2.1 r2.2.2 _ bo22)<|tE) λo22 bo22=>bT (Di r2.2.1 r2.2.2 _ bo22)<|tE
noncomputable def qpn:Code:=f122.body.getD .skip
def qms:List Nat:=[]
theorem qon:ZF Pg qms 122 f122 qpn:=zf call122 func122 rfl mixed
def pH(s:ae):Option Bool:=
 (jC s 0).bind λc1=>
 if decide (c1>=65)=true then
  (jC s 0).bind λc3=>
  some (decide (c3<=90))
 else
  some false
theorem Dv{s:ae}:OV 122 [.str s] (pH s) (λr=>.bool r) []:=qon.v<|
 tb λc1 bc1=>tf (λc2=>tb λc3 bc3=>tv (fF (k:=.i64) underlying9 bc1)<|tg 4 c2<|tv (fF (k:=.i64) underlying9 bc3)<|tE) λc2=>tv (fF (k:=.i64) underlying9 bc1)<|tg 4 c2<|tE
noncomputable def qrh:Code:=f68.body.getD .skip
def qsi:List Nat:=[]
theorem qq7:ZF Pg qsi 68 f68 qrh:=zf call68 func68 rfl mixed
section
variable(s:ae)(m:(List Int))(m2:Bool)
def jI:Option Bool:=
 (nv s).bind λr1=>
 if(r1 !=0)=true then
  some true
 else
  (pH s).bind λr3=>
  some r3
theorem DA:OJ 1 (cA qrh 4) (jI s) .normal (λo=>aQ 18 [(0,.bptr 0 0),(1,.str s),(10,.bool o)] [.cells [.nptr 0 76,sl (cI .u8) m,.bool m2] [(1,5)]] []) (aQ 18 [(0,.bptr 0 0),(1,.str s)] [.cells [.nptr 0 76,sl (cI .u8) m,.bool m2] [(1,5)]] []):=qq7.j<|
 tb λr1 br1=>tf (λc2=>bG (jO _ br1)<|tg 4 c2<|tE) λc2=>tb λr3 br3=>bG (jO _ br1)<|tg 4 c2<|bG (Dv _ br3)<|tE
end
def cU(s:ae)(k0:(List Int))(k02:Bool):Option (Bool×(List Int)):=
 (jI s).bind λo4=>
 if o4=true then
  some (true,k0)
 else
  (al ([s]:List ae) k0 k02).bind λr6=>
  some (k02,r6)
theorem dq{s:ae}{k0:(List Int)}{k02:Bool}:OG 68 [.bptr 0 0,.str s] [] [.cells [.nptr 0 76,sl (cI .u8) k0,.bool k02] [(1,5)]] (cU s k0 k02) (λr=>.tuple []) [] (λr=>[.cells [.nptr 0 76,sl (cI .u8) r.2,.bool r.1] [(1,5)]]):=qq7.g 1<|
 tb λo4 bo4=>fc 1<|bT (DA s k0 k02 _ bo4)<|tF (ts<|tE)<|tb λr6 br6=>tv (bJ [s] 1 rfl)<|tc [0] (ak _ br6)<|tE
noncomputable def qpo:Code:=f126.body.getD .skip
def qmt:List Nat:=[]
theorem qoo:ZF Pg qmt 126 f126 qpo:=zf call126 func126 rfl mixed
def nI(i:Int)(a:waA)(k1:(List Int))(k12:Bool):Option ((List Int)×Bool):=
 (cX a i).bind λx1=>
 (cU x1 k1 k12).bind λr2=>
 some (r2.2,r2.1)
theorem DB{i:Int}{a:waA}{k1:(List Int)}{k12:Bool}:OG 126 [.int .i64 i,.bptr 0 0,.eptr ((cL cS) a)] [] [.cells [.bptr 1 0] [],.cells [.nptr 1 76,sl (cI .u8) k1,.bool k12] [(1,5)]] (nI i a k1 k12) (λr=>.tuple []) [] (λr=>[.cells [.bptr 1 0] [],.cells [.nptr 1 76,sl (cI .u8) r.1,.bool r.2] [(1,5)]]):=qoo.g 2<|
 tb λx1 bx1=>tb λr2 br2=>tk<|O3 (.dx [0,0,0,6,14] [] [] [])<|ts<|tv (eC qjI (sl cS a) [])<|tv (d8.ia (k:=.i64) bx1)<|tv (eC XC (.str x1) [])<|tc [1] (dq _ br2)<|tE
noncomputable def Wp:Code:=f70.body.getD .skip
def qsj:List Nat:=[10]
theorem XP:ZF Pg qsj 70 f70 Wp:=zf call70 func70 rfl mixed
section
variable(v:waA)(i:Int)(t7:Int)(m:(List Int))(m2:Bool)
def sw:Option (((List Int))):=
 if decide (i>0)=true then
  (al ([aU]:List ae) m m2).bind λr3=>
  some r3
 else
  some m
theorem AQ:OJ 2 (cA Wp 1014) (sw i m m2) .normal (λo=>aQ 20 [(0,.bptr 0 0),(2,.func (.func 126) [] [.bptr 1 0,.eptr ((cL cS) v)]),(6,.int .i64 i),(7,.int .i64 t7),(8,.int .i64 i)] [.cells [.nptr 0 76,sl (cI .u8) o,.bool m2] [(1,5)],.cells [.bptr 0 0] []] []) (aQ 20 [(0,.bptr 0 0),(2,.func (.func 126) [] [.bptr 1 0,.eptr ((cL cS) v)]),(6,.int .i64 i),(7,.int .i64 t7),(8,.int .i64 i)] [.cells [.nptr 0 76,sl (cI .u8) m,.bool m2] [(1,5)],.cells [.bptr 0 0] []] []):=XP.j<|
 tF (tb λr3 br3=>tv (bJ [aU] 1 rfl)<|tc [0] (ak _ br3)<|tE)<|tE
end
section
variable(v:waA)(t7:Int)(t8:Int)(m:(List Int))(m2:Bool)
def jT:aK:=aQ 20 [(0,.bptr 0 0),(2,.func (.func 126) [] [.bptr 1 0,.eptr ((cL cS) v)]),(7,.int .i64 t7),(8,.int .i64 t8)] [.cells [.nptr 0 76,sl (cI .u8) m,.bool m2] [(1,5)],.cells [.bptr 0 0] []] []
def pM(o:(List Int)×Bool):aK:=aQ 20 [] [.cells [.nptr 0 76,sl (cI .u8) o.1,.bool o.2] [(1,5)],.cells [.bptr 0 0] []] []
def dB:Option ((Int×(List Int)×Bool)⊕(((List Int)×Bool))):=
 if decide (t8<t7)=true then
  (sw t8 m m2).bind λo4=>
  (nI t8 v o4 m2).bind λr5=>
  some (.inl (dt (t8+1),r5.1,r5.2))
 else
  some (.inr (m,m2))
def lz:Option (((List Int)×Bool)):=loop (λ(zz:Int×(List Int)×Bool)=>dB v t7 zz.1 zz.2.1 zz.2.2) (t8,m,m2)
theorem Ae:OL 2 (cA Wp 15) (dB v t7 t8 m m2) (λ(zz:Int×(List Int)×Bool)=>jT v t7 zz.1 zz.2.1 zz.2.2) (λ_=>.exit 0) pM (jT v t7 t8 m m2):=XP.l<|
 tF (tb λo4 bo4=>tb λr5 br5=>fc 2<|bT (AQ v t8 t7 m m2 _ bo4)<|tc [1,0] (DB _ br5)<|tE)<|tE
theorem AR:OJ 2 (.loop (cA Wp 15)) (lz v t7 t8 m m2) (.exit 0) pM (jT v t7 t8 m m2):=y1 λ_=>Ae _ _ _ _ _
end
def pf(n:Int)(c:waA)(k0:(List Int))(k02:Bool):Option ((List Int)×Bool):=
 (lz c n 0 k0 k02).bind λo6=>
 some (o6.1,o6.2)
theorem EY{n:Int}{c:waA}{k0:(List Int)}{k02:Bool}:OG 70 [.bptr 0 0,.int .i64 n,.func (.func 126) [] [.bptr 1 0,.eptr ((cL cS) c)]] [] [.cells [.nptr 0 76,sl (cI .u8) k0,.bool k02] [(1,5)],.cells [.bptr 0 0] []] (pf n c k0 k02) (λr=>.tuple []) [] (λr=>[.cells [.nptr 0 76,sl (cI .u8) r.1,.bool r.2] [(1,5)],.cells [.bptr 0 0] []]):=XP.g 2<|
 tb λo6 bo6=>bT (AR c n 0 k0 k02 _ bo6)<|tE
noncomputable def qts:Code:=f77.body.getD .skip
def qsm:List Nat:=[]
theorem qsZ:ZF Pg qsm 77 f77 qts:=zf call77 func77 rfl mixed
def iL(a:waA)(k0:(List Int))(k02:Bool):Option ((List Int)×Bool):=
 if((a.length:Int)==0)=true then
  some (k0,k02)
 else
  (al ([Nu]:List ae) k0 k02).bind λr2=>
  (pf (a.length:Int) a r2 k02).bind λr3=>
  (al ([dI]:List ae) r3.1 r3.2).bind λr4=>
  some (r4,r3.2)
theorem tM{a:waA}{k0:(List Int)}{k02:Bool}:OG 77 [.bptr 0 0,sl cS a] [] [.cells [.nptr 0 76,sl (cI .u8) k0,.bool k02] [(1,5)]] (iL a k0 k02) (λr=>.tuple []) [] (λr=>[.cells [.nptr 0 76,sl (cI .u8) r.1,.bool r.2] [(1,5)]]):=qsZ.g 1<|
 qhT (rfl:ca (.bptr 0 0)=some [.bptr 0 0]) rfl<|te (qqA cS a)<|tv (eC qjI (sl cS a) [])<|bL (d8.ln a)<|tF tE<|tb λr2 br2=>tb λr3 br3=>tb λr4 br4=>ts<|tv (bJ [Nu] 1 rfl)<|tc [0] (ak _ br2)<|ts<|tv (eC qjI (sl cS a) [])<|bL (d8.ln a)<|tc [0,1] (EY _ br3)<|ts<|tv (bJ [dI] 1 rfl)<|tc [0] (ak _ br4)<|tE
def DE(s:Nn)(k0:(List Int))(k02:Bool):Option ((List Int)×Bool):=none
theorem Jn{s:Nn}{k0:(List Int)}{k02:Bool}:OG 81 [.bptr 0 0,.agg (Kz s)] [] [.cells [.nptr 0 76,sl (cI .u8) k0,.bool k02] [(1,5)]] (DE s k0 k02) (λr=>.tuple []) [] (λr=>[.cells [.nptr 0 76,sl (cI .u8) r.1,.bool r.2] [(1,5)]]):=Vo λr h=>by cases(show(none:Option _)=some r from h)
abbrev fL:=(ag->Int->Option (Bool×Int))
abbrev fJ(R:fL):Prop:=∀(e:ag) (k0:Int),OG 104 [.agg (ah e),.func (.func 155) [] [.bptr 0 0]] [] [.cells [.int .i64 k0] []] (R e k0) (λr=>.bool r.1) [] (λr=>[.cells [.int .i64 r.2] []])
noncomputable def qpu:Code:=f155.body.getD .skip
def qmL:List Nat:=[]
theorem qou:ZF Pg qmL 155 f155 qpu:=zf call155 func155 rfl mixed
def iO(a:ag)(k0:Int):Option (Bool×Int):=
 some (true,dt (k0+1))
theorem Ng{a:ag}{k0:Int}:OG 155 [.agg (ah a),.bptr 0 0] [] [.cells [.int .i64 k0] []] (iO a k0) (λr=>.bool r.1) [] (λr=>[.cells [.int .i64 r.2] []]):=qou.g 1<|
 te (bQ a)<|ts<|ts<|tE
noncomputable def Wn:Code:=f104.body.getD .skip
def qmb:List Nat:=[]
theorem qb3:ZF Pg qmb 104 f104 Wn:=zf call104 func104 rfl mixed
section
variable(R91:fL)(e:ag)(t14:waD)(t15:Int)(t16:Int)(m:Int)
def gn:aK:=aQ 38 [(1,.func (.func 155) [] [.bptr 0 0]),(2,.eptr (ah e)),(14,sl ah t14),(15,.int .i64 t15),(16,.int .i64 t16)] [.cells [.int .i64 m] [],.dead] []
def pR(o:Int⊕(Int)):Exit:=match o with
 |(.inl _)=>.ret
 |(.inr _)=>.exit 0
def jZ(o:Int⊕(Int)):aK:=match o with
 |(.inl o)=>aQ 38 [(4,.bool false)] [.cells [.int .i64 o] [],.dead] []
 |(.inr o)=>aQ 38 [(1,.func (.func 155) [] [.bptr 0 0]),(2,.eptr (ah e))] [.cells [.int .i64 o] [],.dead] []
instance iS_syntax_walk_Nodes_1_L1:KS 1 (gn e t14 t15 t16 m):=⟨rfl,(bD (aI (aI vzz (aI (cZ rfl) trivial)) (aI (eA (dM e)) (aI (up (aZ dM t14)) (aI vzz (aI vzz vzz)))))),(aI (aI vzz vzz) (aI vzz vzz))⟩
instance iO_syntax_walk_Nodes_1_L1{o:Int⊕(Int)}:KS 1 (jZ e o):=match o with
 |(.inl o)=>⟨rfl,(bD (aI vzz vzz)),(aI (aI vzz vzz) (aI vzz vzz))⟩
 |(.inr o)=>⟨rfl,(bD (aI (aI vzz (aI (cZ rfl) trivial)) (aI (eA (dM e)) trivial))),(aI (aI vzz vzz) (aI vzz vzz))⟩
def dG:Option ((Int×Int)⊕(Int⊕(Int))):=
 if decide (t16<t15)=true then
  (cX t14 t16).bind λx4=>
  (R91 x4 m).bind λr5=>
  if(!r5.1)=true then
   some (.inr (.inl r5.2))
  else
   some (.inl (dt (t16+1),r5.2))
 else
  some (.inr (.inr m))
def sY:Option (Int⊕(Int)):=loop (λ(zz:Int×Int)=>dG R91 t14 t15 zz.1 zz.2) (t16,m)
theorem Aq(hR91:fJ R91):OL 1 (cA Wn 119) (dG R91 t14 t15 t16 m) (λ(zz:Int×Int)=>gn e t14 t15 zz.1 zz.2) pR (jZ e) (gn e t14 t15 t16 m):=qb3.lx<|
 tF (tb λx4 bx4=>tb λr5 br5=>tv (dJ.ia (k:=.i64) bx4)<|tv (aF x4)<|tx UO<|tx (y2 x4)<|tv (im x4 [])<|tc [0] (hR91 _ _ _ br5)<|tF tE<|tE)<|tE
theorem oK(hR91:fJ R91):OK 1 (.loop (cA Wn 119)) (sY R91 t14 t15 t16 m) pR (jZ e) (gn e t14 t15 t16 m):=AN λ_=>Aq _ _ _ _ _ _ hR91
end
section
variable(R91:fL)(t26:waE)(t27:Int)(t28:Int)(m:Int)
def gp:aK:=aQ 38 [(1,.func (.func 155) [] [.bptr 0 0]),(26,sl bE t26),(27,.int .i64 t27),(28,.int .i64 t28)] [.cells [.int .i64 m] [],.dead] []
def pS(o:Int⊕(Int)):Exit:=match o with
 |(.inl _)=>.ret
 |(.inr _)=>.exit 2
def j0(o:Int⊕(Int)):aK:=match o with
 |(.inl o)=>aQ 38 [(4,.bool false)] [.cells [.int .i64 o] [],.dead] []
 |(.inr o)=>aQ 38 [] [.cells [.int .i64 o] [],.dead] []
instance iS_syntax_walk_Nodes_1_L2:KS 1 (gp t26 t27 t28 m):=⟨rfl,(bD (aI (aI vzz (aI (cZ rfl) trivial)) (aI (up (aZ oc t26)) (aI vzz (aI vzz vzz))))),(aI (aI vzz vzz) (aI vzz vzz))⟩
instance iO_syntax_walk_Nodes_1_L2{o:Int⊕(Int)}:KS 1 (j0 o):=match o with
 |(.inl o)=>⟨rfl,(bD (aI vzz vzz)),(aI (aI vzz vzz) (aI vzz vzz))⟩
 |(.inr o)=>⟨rfl,(bD vzz),(aI (aI vzz vzz) (aI vzz vzz))⟩
def dH:Option ((Int×Int)⊕(Int⊕(Int))):=
 if decide (t28<t27)=true then
  (cX t26 t28).bind λx9=>
  (R91 x9.Body m).bind λr10=>
  if(!r10.1)=true then
   some (.inr (.inl r10.2))
  else
   some (.inl (dt (t28+1),r10.2))
 else
  some (.inr (.inr m))
def sZ:Option (Int⊕(Int)):=loop (λ(zz:Int×Int)=>dH R91 t26 t27 zz.1 zz.2) (t28,m)
theorem Ar(hR91:fJ R91):OL 1 (cA Wn 247) (dH R91 t26 t27 t28 m) (λ(zz:Int×Int)=>gp t26 t27 zz.1 zz.2) pS j0 (gp t26 t27 t28 m):=qb3.lx<|
 tF (tb λx9 bx9=>tb λr10 br10=>tv (gz.ia (k:=.i64) bx9)<|tv (yp x9)<|tx PF<|tx (wk x9)<|tv (im x9.Body [])<|tc [0] (hR91 _ _ _ br10)<|tF tE<|tE)<|tE
theorem oL(hR91:fJ R91):OK 1 (.loop (cA Wn 247)) (sZ R91 t26 t27 t28 m) pS j0 (gp t26 t27 t28 m):=AN λ_=>Ar _ _ _ _ _ hR91
end
def ja(R91:fL)(e:ag)(k0:Int):Option (Bool×Int):=
 (iO e k0).bind λr1=>
 if(!r1.1)=true then
  some (false,r1.2)
 else
  (sY R91 e.Kids (e.Kids.length:Int) 0 r1.2).bind λo7=>match o7 with
  |(.inl o7)=>
   some (false,o7)
  | (.inr o7) =>
   (sZ R91 e.Alts (e.Alts.length:Int) 0 o7).bind λo12=>match o12 with
   |(.inl o12)=>
    some (false,o12)
   |(.inr o12)=>
    some (true,o12)
theorem DM(R91:fL)(hR91:fJ R91){e:ag}{k0:Int}:OG 104 [.agg (ah e),.func (.func 155) [] [.bptr 0 0]] [] [.cells [.int .i64 k0] []] (ja R91 e k0) (λr=>.bool r.1) [] (λr=>[.cells [.int .i64 r.2] []]):=qb3.g 1<|
 tb λr1 br1=>te (bQ e)<|tv (aF e)<|tc [0] (Ng _ br1)<|tF tE<|tw (aq e)<|bL (dJ.ln e.Kids)<|t2 (λo7 bo7=>bT (oK R91 e e.Kids (e.Kids.length:Int) 0 r1.2 hR91 _ bo7)<|tE) λo7 bo7=>bT (oK R91 e e.Kids (e.Kids.length:Int) 0 r1.2 hR91 _ bo7)<|tw (aB e)<|bL (gz.ln e.Alts)<|t2 (λo12 bo12=>bT (oL R91 e.Alts (e.Alts.length:Int) 0 o7 hR91 _ bo12)<|tE) λo12 bo12=>bT (oL R91 e.Alts (e.Alts.length:Int) 0 o7 hR91 _ bo12)<|tE
def mo:((ag×Int)->Option (Bool×Int))->(ag×Int)->Option (Bool×Int):=λ(rec:(ag×Int)->Option (Bool×Int)) (x:ag×Int)=>ja (λe k0=>rec (e,k0)) x.1 x.2
def pl(e:ag)(k0:Int):Option (Bool×Int):=pA mo (e,k0)
theorem Fg{e:ag}{k0:Int}:OG 104 [.agg (ah e),.func (.func 155) [] [.bptr 0 0]] [] [.cells [.int .i64 k0] []] (pl e k0) (λr=>.bool r.1) [] (λr=>[.cells [.int .i64 r.2] []]):=Vo λ_ h=>
 dN (F:=mo) (M:=λ(x:ag×Int) (r:Bool×Int)=>C Pg GE 104 [.agg (ah x.1),.func (.func 155) [] [.bptr 0 0]] [] [.cells [.int .i64 x.2] []] (.bool r.1) [] [.cells [.int .i64 r.2] []]) (λrec hrec x r h=>DM _ (λe k0=>Vo λr h=>hrec (e,k0) r h) _ h) h
noncomputable def qpe:Code:=f102.body.getD .skip
def ql9:List Nat:=[]
theorem qoe:ZF Pg ql9 102 f102 qpe:=zf call102 func102 rfl mixed
def yL(e:ag):Option Int:=
 (pl e 0).bind λr1=>
 some r1.2
theorem QR{e:ag}:OV 102 [.agg (ah e)] (yL e) (λr=>.int .i64 r) []:=qoe.v<|
 tb λr1 br1=>te (bQ e)<|tx qtP<|ts<|tv (aF e)<|tc [1] (Fg _ br1)<|ts<|tE
abbrev nl:=(ag->Option Int)
abbrev mR(R:nl):Prop:=∀(e:ag),OV 103 [.agg (ah e)] (R e) (λr=>.int .i64 r) []
noncomputable def qdZ:Code:=f103.body.getD .skip
def qma:List Nat:=[]
theorem qiw:ZF Pg qma 103 f103 qdZ:=zf call103 func103 rfl mixed
section
variable(R93:nl)(e:ag)(t9:waD)(t10:Int)(n:Int)(t11:Int)
def mM:aK:=aQ 35 [(1,.eptr (ah e)),(3,.int .i64 n),(9,sl ah t9),(10,.int .i64 t10),(11,.int .i64 t11)] [.dead] []
def sL(o:Int):aK:=aQ 35 [(1,.eptr (ah e)),(3,.int .i64 o)] [.dead] []
instance iS_syntax_Depth_L1:KS 0 (mM e t9 t10 n t11):=⟨rfl,(bD (aI (eA (dM e)) (aI vzz (aI (up (aZ dM t9)) (aI vzz (aI vzz vzz)))))),(aI vzz vzz)⟩
instance iO_syntax_Depth_L1{o:Int}:KS 0 (sL e o):=⟨rfl,(bD (aI (eA (dM e)) (aI vzz vzz))),(aI vzz vzz)⟩
def fl:Option ((Int×Int)⊕(Int)):=
 if decide (t11<t10)=true then
  (cX t9 t11).bind λx2=>
  (R93 x2).bind λr3=>
  some (.inl ((if r3>n then r3 else n),dt (t11+1)))
 else
  some (.inr n)
def qb:Option Int:=loop (λ(zz:Int×Int)=>fl R93 t9 t10 zz.1 zz.2) (n,t11)
theorem Jr(hR93:mR R93):OL 0 (cA qdZ 119) (fl R93 t9 t10 n t11) (λ(zz:Int×Int)=>mM e t9 t10 zz.1 zz.2) (λ_=>.exit 0) (sL e) (mM e t9 t10 n t11):=qiw.lx<|
 tF (tb λx2 bx2=>tb λr3 br3=>tv (dJ.ia (k:=.i64) bx2)<|tv (aF x2)<|tx UO<|tx (y2 x2)<|tv (im x2 [])<|bG (hR93 _ _ br3)<|tE)<|tE
theorem Lg(hR93:mR R93):OJ 0 (.loop (cA qdZ 119)) (qb R93 t9 t10 n t11) (.exit 0) (sL e) (mM e t9 t10 n t11):=y1 λ_=>Jr _ _ _ _ _ _ hR93
end
section
variable(R93:nl)(t21:waE)(t22:Int)(n:Int)(t23:Int)
def mN:aK:=aQ 35 [(3,.int .i64 n),(21,sl bE t21),(22,.int .i64 t22),(23,.int .i64 t23)] [.dead] []
def sM(o:Int):aK:=aQ 35 [(3,.int .i64 o)] [.dead] []
instance iS_syntax_Depth_L2:KS 0 (mN t21 t22 n t23):=⟨rfl,(bD (aI vzz (aI (up (aZ oc t21)) (aI vzz (aI vzz vzz))))),(aI vzz vzz)⟩
instance iO_syntax_Depth_L2{o:Int}:KS 0 (sM o):=⟨rfl,(bD (aI vzz vzz)),(aI vzz vzz)⟩
def fm:Option ((Int×Int)⊕(Int)):=
 if decide (t23<t22)=true then
  (cX t21 t23).bind λx6=>
  (R93 x6.Body).bind λr7=>
  some (.inl ((if r7>n then r7 else n),dt (t23+1)))
 else
  some (.inr n)
def qc:Option Int:=loop (λ(zz:Int×Int)=>fm R93 t21 t22 zz.1 zz.2) (n,t23)
theorem Js(hR93:mR R93):OL 0 (cA qdZ 247) (fm R93 t21 t22 n t23) (λ(zz:Int×Int)=>mN t21 t22 zz.1 zz.2) (λ_=>.exit 2) sM (mN t21 t22 n t23):=qiw.lx<|
 tF (tb λx6 bx6=>tb λr7 br7=>tv (gz.ia (k:=.i64) bx6)<|tv (yp x6)<|tx PF<|tx (wk x6)<|tv (im x6.Body [])<|bG (hR93 _ _ br7)<|tE)<|tE
theorem Lh(hR93:mR R93):OJ 0 (.loop (cA qdZ 247)) (qc R93 t21 t22 n t23) (.exit 2) sM (mN t21 t22 n t23):=y1 λ_=>Js _ _ _ _ _ hR93
end
def sK(R93:nl)(e:ag):Option Int:=
 (qb R93 e.Kids (e.Kids.length:Int) 0 0).bind λo4=>
 (qc R93 e.Alts (e.Alts.length:Int) o4 0).bind λo8=>
 some (dt (o8+1))
theorem OZ(R93:nl)(hR93:mR R93){e:ag}:OV 103 [.agg (ah e)] (sK R93 e) (λr=>.int .i64 r) []:=qiw.v<|
 tb λo4 bo4=>tb λo8 bo8=>te (bQ e)<|tw (aq e)<|bL (dJ.ln e.Kids)<|bT (Lg R93 e e.Kids (e.Kids.length:Int) 0 0 hR93 _ bo4)<|tw (aB e)<|bL (gz.ln e.Alts)<|bT (Lh R93 e.Alts (e.Alts.length:Int) o4 0 hR93 _ bo8)<|tE
def Ak:(ag->Option Int)->(ag)->Option Int:=λ(rec:ag->Option Int) (x:ag)=>sK (λe=>rec e) x
def Fd(e:ag):Option Int:=pA Ak e
theorem QQ{e:ag}:OV 103 [.agg (ah e)] (Fd e) (λr=>.int .i64 r) []:=Do λ_ h=>
 dN (F:=Ak) (M:=λ(x:ag) (r:Int)=>CC Pg GE 103 [.agg (ah x)] (.int .i64 r) []) (λrec hrec x r h=>OZ _ (λe=>Do λr h=>hrec e r h) _ h) h
abbrev fK:=(ag->Int->Option (Bool×Int))
abbrev fI(R:fK):Prop:=∀(e:ag) (k0:Int),OG 104 [.agg (ah e),.func (.func 105) [] [.bptr 0 0]] [] [.cells [.int .i64 k0] []] (R e k0) (λr=>.bool r.1) [] (λr=>[.cells [.int .i64 r.2] []])
noncomputable def qgy:Code:=f156.body.getD .skip
def qmM:List Nat:=[]
theorem qgg:ZF Pg qmM 156 f156 qgy:=zf call156 func156 rfl mixed
section
variable(t4:Int)
def uE:Option Bool:=
 if(t4==1)=true then
  some (t4==1)
 else
  some (t4==2)
theorem Jy:OJ 0 (cA qgy 54) (uE t4) .normal (λo=>aQ 56 [(2,.bptr 0 0),(4,.int .i64 t4),(5,.bool o)] [.cells [.bool false,.bool false,.int .i64 0,.int .i64 0,.bool false,.bool false,.int .i64 0,.int .i64 0,.bool false] []] []) (aQ 56 [(2,.bptr 0 0),(4,.int .i64 t4)] [.cells [.bool false,.bool false,.int .i64 0,.int .i64 0,.bool false,.bool false,.int .i64 0,.int .i64 0,.bool false] []] []):=qgg.j<|
 tF tE<|tE
end
section
variable(t4:Int)
def uF:Option Bool:=
 if(t4==10)=true then
  some (t4==10)
 else if(t4==11)=true then
  some (t4==11)
 else if(t4==12)=true then
  some (t4==12)
 else if(t4==13)=true then
  some (t4==13)
 else if(t4==14)=true then
  some (t4==14)
 else if(t4==16)=true then
  some (t4==16)
 else if(t4==17)=true then
  some (t4==17)
 else if(t4==18)=true then
  some (t4==18)
 else if(t4==19)=true then
  some (t4==19)
 else if(t4==20)=true then
  some (t4==20)
 else
  some (t4==24)
theorem Jz:OJ 0 (cA qgy 3670014) (uF t4) .normal (λo=>aQ 56 [(2,.bptr 0 0),(4,.int .i64 t4),(30,.bool o)] [.cells [.bool false,.bool false,.int .i64 0,.int .i64 0,.bool false,.bool false,.int .i64 0,.int .i64 0,.bool false] []] []) (aQ 56 [(2,.bptr 0 0),(4,.int .i64 t4)] [.cells [.bool false,.bool false,.int .i64 0,.int .i64 0,.bool false,.bool false,.int .i64 0,.int .i64 0,.bool false] []] []):=qgg.j<|
 tF tE<|tF tE<|tF tE<|tF tE<|tF tE<|tF tE<|tF tE<|tF tE<|tF tE<|tF tE<|tE
end
section
variable(t4:Int)
def uG:Option Bool:=
 if(t4==15)=true then
  some (t4==15)
 else if(t4==21)=true then
  some (t4==21)
 else if(t4==22)=true then
  some (t4==22)
 else
  some (t4==23)
theorem JA:OJ 0 (cA qgy 14680062) (uG t4) .normal (λo=>aQ 56 [(2,.bptr 0 0),(4,.int .i64 t4),(43,.bool o)] [.cells [.bool false,.bool false,.int .i64 0,.int .i64 0,.bool false,.bool false,.int .i64 0,.int .i64 0,.bool false] []] []) (aQ 56 [(2,.bptr 0 0),(4,.int .i64 t4)] [.cells [.bool false,.bool false,.int .i64 0,.int .i64 0,.bool false,.bool false,.int .i64 0,.int .i64 0,.bool false] []] []):=qgg.j<|
 tF tE<|tF tE<|tF tE<|tE
end
def pO(op:Int):Option (aA×Bool):=
 (uE op).bind λo2=>
 if o2=true then
  some ((⟨true,false,0,0,false,false,0,0,false⟩:aA),true)
 else if(op==3)=true then
  some ((⟨false,true,0,0,false,false,0,0,false⟩:aA),true)
 else if(op==4)=true then
  some ((⟨false,true,0,6,false,false,0,1073741824,true⟩:aA),true)
 else if(op==5)=true then
  some ((⟨false,true,1,6,false,false,0,1073741824,true⟩:aA),true)
 else if(op==6)=true then
  some ((⟨false,false,1,1,true,false,0,0,false⟩:aA),true)
 else if(op==7)=true then
  some ((⟨false,true,2,2,false,false,0,1,true⟩:aA),true)
 else if(op==8)=true then
  some ((⟨false,false,3,3,false,false,0,0,false⟩:aA),true)
 else if(op==9)=true then
  some ((⟨false,false,1,1,false,true,0,0,false⟩:aA),true)
 else
  (uF op).bind λo21=>
  if o21=true then
   some ((⟨false,false,2,2,false,false,0,0,false⟩:aA),true)
  else
   (uG op).bind λo26=>
   if o26=true then
    some ((⟨false,false,1,1,false,false,0,0,false⟩:aA),true)
   else if(op==25)=true then
    some ((⟨false,true,2,7,false,false,0,0,false⟩:aA),true)
   else if(op==26)=true then
    some ((⟨false,false,1,1,false,false,1,1,true⟩:aA),true)
   else
    some ((⟨false,false,0,0,false,false,0,0,false⟩:aA),false)
theorem O1{op:Int}:OV 156 [.int .i64 op] (pO op) (λr=>.tuple [.agg (aL r.1),.bool r.2]) []:=qgg.v<|
 tb λo2 bo2=>tx qii<|fc 2<|bT (Jy op _ bo2)<|tF (tv (L8 true)<|tx (cF (⟨true,false,0,0,false,false,0,0,false⟩:aA))<|CR λq=>aI (vaW PVal.tuple (d5 (cQ (⟨true,false,0,0,false,false,0,0,false⟩:aA)) (d5 (rP (.bool true)) (rfl:([]:List PVal)=[])))) q.2)<|tF (tv (L9 true)<|tx (cF (⟨false,true,0,0,false,false,0,0,false⟩:aA))<|CR λq=>aI (vaW PVal.tuple (d5 (cQ (⟨false,true,0,0,false,false,0,0,false⟩:aA)) (d5 (rP (.bool true)) (rfl:([]:List PVal)=[])))) q.2)<|tF (tv (C4 true 6 true 1073741824)<|tx (cF (⟨false,true,0,6,false,false,0,1073741824,true⟩:aA))<|CR λq=>aI (vaW PVal.tuple (d5 (cQ (⟨false,true,0,6,false,false,0,1073741824,true⟩:aA)) (d5 (rP (.bool true)) (rfl:([]:List PVal)=[])))) q.2)<|tF (tv (oE true 1 6 true 1073741824)<|tx (cF (⟨false,true,1,6,false,false,0,1073741824,true⟩:aA))<|CR λq=>aI (vaW PVal.tuple (d5 (cQ (⟨false,true,1,6,false,false,0,1073741824,true⟩:aA)) (d5 (rP (.bool true)) (rfl:([]:List PVal)=[])))) q.2)<|tF (tv (Gk true 1 1)<|tx (cF (⟨false,false,1,1,true,false,0,0,false⟩:aA))<|CR λq=>aI (vaW PVal.tuple (d5 (cQ (⟨false,false,1,1,true,false,0,0,false⟩:aA)) (d5 (rP (.bool true)) (rfl:([]:List PVal)=[])))) q.2)<|tF (tv (oE true 2 2 true 1)<|tx (cF (⟨false,true,2,2,false,false,0,1,true⟩:aA))<|CR λq=>aI (vaW PVal.tuple (d5 (cQ (⟨false,true,2,2,false,false,0,1,true⟩:aA)) (d5 (rP (.bool true)) (rfl:([]:List PVal)=[])))) q.2)<|tF (tv (oX 3 3)<|tx (cF (⟨false,false,3,3,false,false,0,0,false⟩:aA))<|CR λq=>aI (vaW PVal.tuple (d5 (cQ (⟨false,false,3,3,false,false,0,0,false⟩:aA)) (d5 (rP (.bool true)) (rfl:([]:List PVal)=[])))) q.2)<|tF (tv (Gl true 1 1)<|tx (cF (⟨false,false,1,1,false,true,0,0,false⟩:aA))<|CR λq=>aI (vaW PVal.tuple (d5 (cQ (⟨false,false,1,1,false,true,0,0,false⟩:aA)) (d5 (rP (.bool true)) (rfl:([]:List PVal)=[])))) q.2)<|tb λo21 bo21=>fc 0<|bT (Jz op _ bo21)<|tF (tv (oX 2 2)<|tx (cF (⟨false,false,2,2,false,false,0,0,false⟩:aA))<|CR λq=>aI (vaW PVal.tuple (d5 (cQ (⟨false,false,2,2,false,false,0,0,false⟩:aA)) (d5 (rP (.bool true)) (rfl:([]:List PVal)=[])))) q.2)<|tb λo26 bo26=>fc 0<|bT (JA op _ bo26)<|tF (tv (oX 1 1)<|tx (cF (⟨false,false,1,1,false,false,0,0,false⟩:aA))<|CR λq=>aI (vaW PVal.tuple (d5 (cQ (⟨false,false,1,1,false,false,0,0,false⟩:aA)) (d5 (rP (.bool true)) (rfl:([]:List PVal)=[])))) q.2)<|tF (tv (Gj true 2 7)<|tx (cF (⟨false,true,2,7,false,false,0,0,false⟩:aA))<|CR λq=>aI (vaW PVal.tuple (d5 (cQ (⟨false,true,2,7,false,false,0,0,false⟩:aA)) (d5 (rP (.bool true)) (rfl:([]:List PVal)=[])))) q.2)<|tF (tv (AB 1 1 true 1 1)<|tx (cF (⟨false,false,1,1,false,false,1,1,true⟩:aA))<|CR λq=>aI (vaW PVal.tuple (d5 (cQ (⟨false,false,1,1,false,false,1,1,true⟩:aA)) (d5 (rP (.bool true)) (rfl:([]:List PVal)=[])))) q.2)<|tv (Ma)<|tx (cF (⟨false,false,0,0,false,false,0,0,false⟩:aA))<|CR λq=>aI (vaW PVal.tuple (d5 (cQ (⟨false,false,0,0,false,false,0,0,false⟩:aA)) (d5 (rP (.bool false)) (rfl:([]:List PVal)=[])))) q.2
noncomputable def qpT:Code:=f208.body.getD .skip
def qnx:List Nat:=[]
theorem qoT:ZF Pg qnx 208 f208 qpT:=zf call208 func208 rfl mixed
def xh(a:cK):Option Bool:=
 some (decide ((a.Names.length:Int)>6))
theorem Lj{a:cK}:OV 208 [.agg (bE a)] (xh a) (λr=>.bool r) []:=qoT.v<|
 te (qhj a)<|tw (iB a)<|bL (d8.ln a.Names)<|tE
noncomputable def qi9:Code:=f236.body.getD .skip
def qnW:List Nat:=[10,17]
theorem qkD:ZF Pg qnW 236 f236 qi9:=zf call236 func236 rfl mixed
section
variable(s:waE)(t7:Int)(t8:Int)
def ga:aK:=aQ 19 [(0,sl bE s),(1,.func (.func 208) [] []),(7,.int .i64 t7),(8,.int .i64 t8)] [] []
def kK(o:Int⊕(Unit)):Exit:=match o with
 |(.inl _)=>.ret
 |(.inr _)=>.exit 0
def kL(o:Int⊕(Unit)):aK:=match o with
 |(.inl o)=>aQ 19 [(4,.int .i64 o)] [] []
 |(.inr o)=>aQ 19 [] [] []
def dS:Option (Int⊕(Int⊕(Unit))):=
 if decide (t8<t7)=true then
  (cX s t8).bind λx2=>
  (xh x2).bind λr3=>
  if r3=true then
   some (.inr (.inl t8))
  else
   some (.inl (dt (t8+1)))
 else
  some (.inr (.inr ()))
def gS:Option (Int⊕(Unit)):=loop (λ(zz:Int)=>dS s t7 zz) t8
theorem sJ:OL 0 (cA qi9 55) (dS s t7 t8) (λ(zz:Int)=>ga s t7 zz) kK kL (ga s t7 t8):=qkD.l<|
 tF (tb λx2 bx2=>tb λr3 br3=>tv (gz.ia (k:=.i64) bx2)<|tv (yp x2)<|bG (Lj _ br3)<|tF tE<|tE)<|tE
theorem j2:OK 0 (.loop (cA qi9 55)) (gS s t7 t8) kK kL (ga s t7 t8):=AN λ_=>sJ _ _ _
end
def ji(s:waE):Option Int:=
 (gS s (s.length:Int) 0).bind λo5=>match o5 with
 |(.inl o5)=>
  some o5
 |(.inr o5)=>
  some (-1)
theorem xg{s:waE}:OV 236 [sl bE s,.func (.func 208) [] []] (ji s) (λr=>.int .i64 r) []:=qkD.v<|
 bL (gz.ln s)<|t2 (λo5 bo5=>bT (j2 s (s.length:Int) 0 _ bo5)<|tE) λo5 bo5=>bT (j2 s (s.length:Int) 0 _ bo5)<|tE
noncomputable def qpS:Code:=f207.body.getD .skip
def qnw:List Nat:=[]
theorem qoS:ZF Pg qnw 207 f207 qpS:=zf call207 func207 rfl mixed
def eQ(s:waE):Option Bool:=
 (ji s).bind λr1=>
 some (decide (r1>=0))
theorem tz{s:waE}:OV 207 [sl bE s,.func (.func 208) [] []] (eQ s) (λr=>.bool r) []:=qoS.v<|
 tb λr1 br1=>bG (xg _ br1)<|tE
noncomputable def qiS:Code:=f157.body.getD .skip
def qmN:List Nat:=[]
theorem qiz:ZF Pg qmN 157 f157 qiS:=zf call157 func157 rfl mixed
section
variable(e:ag)(s:aA)
def uz:Option Bool:=
 if decide ((e.Kids.length:Int)<s.least)=true then
  some true
 else if decide ((e.Kids.length:Int)>s.most)=true then
  some true
 else if decide ((e.Types.length:Int)<s.typesLeast)=true then
  some true
 else
  some (decide ((e.Types.length:Int)>s.typesMost))
theorem Ju:OJ 0 (cA qiS 12) (uz e s) .normal (λo=>aQ 69 [(2,.eptr (ah e)),(3,.eptr (aL s)),(34,.bool o)] [.dead,.dead] []) (aQ 69 [(2,.eptr (ah e)),(3,.eptr (aL s))] [.dead,.dead] []):=qiz.j<|
 have pp2:=λ{X Y Z} (r:PV _ X Y Z)=>tw (aq e)<|bL (dJ.ln e.Kids)<|tw (AG s)<|r;tf (λc1=>pp2<|tg 7 c1<|tE) λc1=>have pp4:=λ{X Y Z} (r:PV _ X Y Z)=>pp2<|tg 7 c1<|tw (aq e)<|bL (dJ.ln e.Kids)<|tw (AH s)<|r;tf (λc3=>pp4<|tg 15 c3<|tE) λc3=>have pp6:=λ{X Y Z} (r:PV _ X Y Z)=>pp4<|tg 15 c3<|tw (aw e)<|bL (cu.ln e.Types)<|tw (AJ s)<|r;tf (λc5=>pp6<|tg 23 c5<|tE) λc5=>pp6<|tg 23 c5<|tw (aw e)<|bL (cu.ln e.Types)<|tw (AK s)<|tE
end
section
variable(e:ag)(s:aA)
def uA:Option Bool:=
 if s.params=true then
  if decide ((e.Params.length:Int)<1)=true then
   some true
  else if decide ((e.Params.length:Int)>6)=true then
   some true
  else if s.alts=true then
   if decide ((e.Alts.length:Int)<1)=true then
    some true
   else
    some (decide ((e.Alts.length:Int)>8))
  else
   some false
 else if s.alts=true then
  if decide ((e.Alts.length:Int)<1)=true then
   some true
  else
   some (decide ((e.Alts.length:Int)>8))
 else
  some false
theorem Jv:OJ 0 (cA qiS 28) (uA e s) .normal (λo=>aQ 69 [(2,.eptr (ah e)),(64,.bool o)] [.dead,.dead] []) (aQ 69 [(2,.eptr (ah e)),(3,.eptr (aL s))] [.dead,.dead] []):=qiz.j<|
 have pp10:=λ{X Y Z} (r:PV _ X Y Z)=>tw (AI s)<|r;tf (λc9=>have pp12:=λ{X Y Z} (r:PV _ X Y Z)=>pp10<|tg 3 c9<|tw (aS e)<|bL (pj.ln e.Params)<|r;tf (λc11=>pp12<|tg 8 c11<|tE) λc11=>have pp14:=λ{X Y Z} (r:PV _ X Y Z)=>pp12<|tg 8 c11<|tw (aS e)<|bL (pj.ln e.Params)<|r;tf (λc13=>pp14<|tg 15 c13<|tE) λc13=>have pp16:=λ{X Y Z} (r:PV _ X Y Z)=>pp14<|tg 15 c13<|tw (oF s)<|r;tf (λc15=>have pp18:=λ{X Y Z} (r:PV _ X Y Z)=>pp16<|tg 18 c15<|tw (aB e)<|bL (gz.ln e.Alts)<|r;tf (λc17=>pp18<|tg 23 c17<|tE) λc17=>pp18<|tg 23 c17<|tw (aB e)<|bL (gz.ln e.Alts)<|tE) λc15=>pp16<|tg 18 c15<|tE) λc9=>have pp20:=λ{X Y Z} (r:PV _ X Y Z)=>pp10<|tg 3 c9<|tw (oF s)<|r;tf (λc19=>have pp22:=λ{X Y Z} (r:PV _ X Y Z)=>pp20<|tg 18 c19<|tw (aB e)<|bL (gz.ln e.Alts)<|r;tf (λc21=>pp22<|tg 23 c21<|tE) λc21=>pp22<|tg 23 c21<|tw (aB e)<|bL (gz.ln e.Alts)<|tE) λc19=>pp20<|tg 18 c19<|tE
end
def vC(e:ag)(s:aA):Option Bool:=
 (uz e s).bind λo7=>
 if o7=true then
  some false
 else
  (uA e s).bind λo23=>
  if o23=true then
   some false
  else
   (eQ e.Alts).bind λr25=>
   some (!r25)
theorem O0{e:ag}{s:aA}:OV 157 [.agg (ah e),.agg (aL s)] (vC e s) (λr=>.bool r) []:=qiz.v<|
 tb λo7 bo7=>te (bQ e)<|te (FI s)<|fc 1<|bT (Ju e s _ bo7)<|tF tE<|tb λo23 bo23=>fc 1<|bT (Jv e s _ bo23)<|tF tE<|tb λr25 br25=>tw (aB e)<|bG (tz _ br25)<|tE
noncomputable def qpv:Code:=f158.body.getD .skip
def qmO:List Nat:=[]
theorem qov:ZF Pg qmO 158 f158 qpv:=zf call158 func158 rfl mixed
def Tb(n:Int):Option Bool:=
 if decide (n>=(-1000000000000))=true then
  some (decide (n<=1000000000000))
 else
  some false
theorem Vn{n:Int}:OV 158 [.int .i64 n] (Tb n) (λr=>.bool r) []:=qov.v<|
 tf (λc1=>tg 3 c1<|tE) λc1=>tg 3 c1<|tE
noncomputable def qi3:Code:=f209.body.getD .skip
def qny:List Nat:=[12,18]
theorem qkx:ZF Pg qny 209 f209 qi3:=zf call209 func209 rfl mixed
section
variable(t6:waF)(t7:Int)(out:waA)(t8:Int)
def mO:aK:=aQ 19 [(3,sl cS out),(6,sl bw t6),(7,.int .i64 t7),(8,.int .i64 t8)] [] [((3,0),9)]
def sO(o:waA):aK:=aQ 19 [(3,sl cS o)] [] [((3,0),9)]
instance iS_syntax_bound_L1:KS 0 (mO t6 t7 out t8):=⟨rfl,(bD (aI (up (aZ Q0 out)) (aI (up (aZ qK t6)) (aI vzz (aI vzz vzz))))),vzz⟩
instance iO_syntax_bound_L1{o:waA}:KS 0 (sO o):=⟨rfl,(bD (aI (up (aZ Q0 o)) trivial)),vzz⟩
def fo:Option ((waA×Int)⊕(waA)):=
 if decide (t8<t7)=true then
  (cX t6 t8).bind λx2=>
  (app out ([x2.Name]:List ae)).bind λl3=>
  some (.inl (l3,dt (t8+1)))
 else
  some (.inr out)
def qd:Option waA:=loop (λ(zz:waA×Int)=>fo t6 t7 zz.1 zz.2) (out,t8)
theorem Jt:OL 0 (cA qi3 119) (fo t6 t7 out t8) (λ(zz:waA×Int)=>mO t6 t7 zz.1 zz.2) (λ_=>.exit 0) sO (mO t6 t7 out t8):=qkx.lx<|
 tF (tb λx2 bx2=>tb λl3 bl3=>tv (pj.ia (k:=.i64) bx2)<|tv (IJ x2)<|tx qbG<|tx (EF x2)<|ts<|tv (bJ [x2.Name] 1 rfl)<|tv (d8.ap bl3)<|tE)<|tE
theorem Li:OJ 0 (.loop (cA qi3 119)) (qd t6 t7 out t8) (.exit 0) sO (mO t6 t7 out t8):=y1 λ_=>Jt _ _ _ _
end
def sN(a:waF):Option waA:=
 (qd a (a.length:Int) ([]:List ae) 0).bind λo4=>
 some o4
theorem FY{a:waF}:OV 209 [sl bw a] (sN a) (λr=>sl cS r) [(0,9)]:=qkx.v<|
 tb λo4 bo4=>bL (pj.ln a)<|bT (Li a (a.length:Int) ([]:List ae) 0 _ bo4)<|tE
noncomputable def qja:Code:=f237.body.getD .skip
def qnX:List Nat:=[]
theorem qkE:ZF Pg qnX 237 f237 qja:=zf call237 func237 rfl mixed
section
variable(t7:waA)(t8:Int)(t9:Int)(m0:(List (ae×Bool)))
def pb:aK:=aQ 19 [(3,.mapr 0),(7,sl cS t7),(8,.int .i64 t8),(9,.int .i64 t9)] [.map (Mi PVal.bool m0)] []
def xI(o:((List (ae×Bool)))⊕((List (ae×Bool)))):Exit:=match o with
 |(.inl _)=>.ret
 |(.inr _)=>.exit 0
def xJ(o:((List (ae×Bool)))⊕((List (ae×Bool)))):aK:=match o with
 |(.inl o)=>aQ 19 [(2,.bool false)] [.map (Mi PVal.bool o)] []
 |(.inr o)=>aQ 19 [] [.map (Mi PVal.bool o)] []
def cm:Option ((Int×(List (ae×Bool)))⊕(((List (ae×Bool)))⊕((List (ae×Bool))))):=
 if decide (t9<t8)=true then
  (cX t7 t9).bind λx2=>
  if((HP m0 x2).getD false)=true then
   some (.inr (.inl m0))
  else
   some (.inl (dt (t9+1),Qy m0 x2 true))
 else
  some (.inr (.inr m0))
def rW:Option (((List (ae×Bool)))⊕((List (ae×Bool)))):=loop (λ(zz:Int×(List (ae×Bool)))=>cm t7 t8 zz.1 zz.2) (t9,m0)
theorem Gm:OL 0 (cA qja 119) (cm t7 t8 t9 m0) (λ(zz:Int×(List (ae×Bool)))=>pb t7 t8 zz.1 zz.2) xI xJ (pb t7 t8 t9 m0):=qkE.l<|
 tF (tb λx2 bx2=>tv (d8.ia (k:=.i64) bx2)<|tv (eC XC (.str x2) [])<|tv (qjs (f:=PVal.bool) underlying237 underlying9 qt6 m0 x2)<|tF tE<|qtT (qjt (f:=PVal.bool) underlying237 underlying9 m0 x2 true)<|tE)<|tE
theorem wj:OK 0 (.loop (cA qja 119)) (rW t7 t8 t9 m0) xI xJ (pb t7 t8 t9 m0):=AN λ_=>Gm _ _ _ _
end
def rV(a:waA):Option Bool:=
 (rW a (a.length:Int) 0 ([]:List (ae×Bool))).bind λo4=>match o4 with
 |(.inl o4)=>
  some false
 |(.inr o4)=>
  some true
theorem Mv{a:waA}:OV 237 [sl cS a] (rV a) (λr=>.bool r) []:=qkE.v<|
 bL (d8.ln a)<|t2 (λo4 bo4=>bT (wj a (a.length:Int) 0 ([]:List (ae×Bool)) _ bo4)<|tE) λo4 bo4=>bT (wj a (a.length:Int) 0 ([]:List (ae×Bool)) _ bo4)<|tE
noncomputable def qpV:Code:=f210.body.getD .skip
def qnz:List Nat:=[]
theorem qoU:ZF Pg qnz 210 f210 qpV:=zf call210 func210 rfl mixed
def oB(a:waA):Option Bool:=
 (rV a).bind λr1=>
 some (!r1)
theorem xl{a:waA}:OV 210 [sl cS a] (oB a) (λr=>.bool r) []:=qoU.v<|
 tb λr1 br1=>bG (Mv _ br1)<|tE
noncomputable def qi4:Code:=f211.body.getD .skip
def qnA:List Nat:=[12,18]
theorem qky:ZF Pg qnA 211 f211 qi4:=zf call211 func211 rfl mixed
section
variable(t6:waE)(t7:Int)(out:waA)(t8:Int)
def gj:aK:=aQ 19 [(3,sl cS out),(6,sl bE t6),(7,.int .i64 t7),(8,.int .i64 t8)] [] [((3,0),9)]
def jW(o:waA):aK:=aQ 19 [(3,sl cS o)] [] [((3,0),9)]
instance iS_syntax_constructors_L1:KS 0 (gj t6 t7 out t8):=⟨rfl,(bD (aI (up (aZ Q0 out)) (aI (up (aZ oc t6)) (aI vzz (aI vzz vzz))))),vzz⟩
instance iO_syntax_constructors_L1{o:waA}:KS 0 (jW o):=⟨rfl,(bD (aI (up (aZ Q0 o)) trivial)),vzz⟩
def dC:Option ((waA×Int)⊕(waA)):=
 if decide (t8<t7)=true then
  (cX t6 t8).bind λx2=>
  (app out ([x2.Con]:List ae)).bind λl3=>
  some (.inl (l3,dt (t8+1)))
 else
  some (.inr out)
def hO:Option waA:=loop (λ(zz:waA×Int)=>dC t6 t7 zz.1 zz.2) (out,t8)
theorem Al:OL 0 (cA qi4 119) (dC t6 t7 out t8) (λ(zz:waA×Int)=>gj t6 t7 zz.1 zz.2) (λ_=>.exit 0) jW (gj t6 t7 out t8):=qky.lx<|
 tF (tb λx2 bx2=>tb λl3 bl3=>tv (gz.ia (k:=.i64) bx2)<|tv (yp x2)<|tx PF<|tx (wk x2)<|ts<|tv (bJ [x2.Con] 1 rfl)<|tv (d8.ap bl3)<|tE)<|tE
theorem AT:OJ 0 (.loop (cA qi4 119)) (hO t6 t7 out t8) (.exit 0) jW (gj t6 t7 out t8):=y1 λ_=>Al _ _ _ _
end
def kl(a:waE):Option waA:=
 (hO a (a.length:Int) ([]:List ae) 0).bind λo4=>
 some o4
theorem Fe{a:waE}:OV 211 [sl bE a] (kl a) (λr=>sl cS r) [(0,9)]:=qky.v<|
 tb λo4 bo4=>bL (gz.ln a)<|bT (AT a (a.length:Int) ([]:List ae) 0 _ bo4)<|tE
noncomputable def qpX:Code:=f213.body.getD .skip
def qnC:List Nat:=[]
theorem qoW:ZF Pg qnC 213 f213 qpX:=zf call213 func213 rfl mixed
def Am(a:ae):Option Bool:=
 (nv a).bind λr1=>
 some (r1 !=0)
theorem Nh{a:ae}:OV 213 [.str a] (Am a) (λr=>.bool r) []:=qoW.v<|
 tb λr1 br1=>bG (jO _ br1)<|tE
noncomputable def qjb:Code:=f238.body.getD .skip
def qnY:List Nat:=[10,17]
theorem qkF:ZF Pg qnY 238 f238 qjb:=zf call238 func238 rfl mixed
section
variable(s:waA)(t7:Int)(t8:Int)
def gB:aK:=aQ 19 [(0,sl cS s),(1,.func (.func 213) [] []),(7,.int .i64 t7),(8,.int .i64 t8)] [] []
def kV(o:Int⊕(Unit)):Exit:=match o with
 |(.inl _)=>.ret
 |(.inr _)=>.exit 0
def kW(o:Int⊕(Unit)):aK:=match o with
 |(.inl o)=>aQ 19 [(4,.int .i64 o)] [] []
 |(.inr o)=>aQ 19 [] [] []
def dV:Option (Int⊕(Int⊕(Unit))):=
 if decide (t8<t7)=true then
  (cX s t8).bind λx2=>
  (Am x2).bind λr3=>
  if r3=true then
   some (.inr (.inl t8))
  else
   some (.inl (dt (t8+1)))
 else
  some (.inr (.inr ()))
def g9:Option (Int⊕(Unit)):=loop (λ(zz:Int)=>dV s t7 zz) t8
theorem tA:OL 0 (cA qjb 55) (dV s t7 t8) (λ(zz:Int)=>gB s t7 zz) kV kW (gB s t7 t8):=qkF.l<|
 tF (tb λx2 bx2=>tb λr3 br3=>tv (d8.ia (k:=.i64) bx2)<|tv (eC XC (.str x2) [])<|bG (Nh _ br3)<|tF tE<|tE)<|tE
theorem kM:OK 0 (.loop (cA qjb 55)) (g9 s t7 t8) kV kW (gB s t7 t8):=AN λ_=>tA _ _ _
end
def jU(s:waA):Option Int:=
 (g9 s (s.length:Int) 0).bind λo5=>match o5 with
 |(.inl o5)=>
  some o5
 |(.inr o5)=>
  some (-1)
theorem yJ{s:waA}:OV 238 [sl cS s,.func (.func 213) [] []] (jU s) (λr=>.int .i64 r) []:=qkF.v<|
 bL (d8.ln s)<|t2 (λo5 bo5=>bT (kM s (s.length:Int) 0 _ bo5)<|tE) λo5 bo5=>bT (kM s (s.length:Int) 0 _ bo5)<|tE
noncomputable def qpW:Code:=f212.body.getD .skip
def qnB:List Nat:=[]
theorem qoV:ZF Pg qnB 212 f212 qpW:=zf call212 func212 rfl mixed
def e9(s:waA):Option Bool:=
 (jU s).bind λr1=>
 some (decide (r1>=0))
theorem uw{s:waA}:OV 212 [sl cS s,.func (.func 213) [] []] (e9 s) (λr=>.bool r) []:=qoV.v<|
 tb λr1 br1=>bG (yJ _ br1)<|tE
noncomputable def qd8:Code:=f159.body.getD .skip
def qmP:List Nat:=[14,36]
theorem qgh:ZF Pg qmP 159 f159 qd8:=zf call159 func159 rfl mixed
section
variable(e:ag)(s:aA)(v:waA)
def xi:Option waA:=
 if s.name=true then
  (app v ([e.Name]:List ae)).bind λl3=>
  some l3
 else
  some v
theorem Lk:OJ 0 (cA qd8 14) (xi e s v) .normal (λo=>aQ 54 [(2,.eptr (ah e)),(5,sl cS o)] [.dead,.dead] [((5,0),9)]) (aQ 54 [(2,.eptr (ah e)),(3,.eptr (aL s)),(5,sl cS v)] [.dead,.dead] [((5,0),9)]):=qgh.j<|
 tw (AF s)<|tF (tb λl3 bl3=>tw (ch e)<|tv (bJ [e.Name] 1 rfl)<|tv (d8.ap bl3)<|tE)<|tE
end
section
variable(e:ag)(v:waA)
def xj:Option Bool:=
 (sN e.Params).bind λr5=>
 (oB r5).bind λr6=>
 if r6=true then
  some true
 else
  (kl e.Alts).bind λr9=>
  (oB r9).bind λr10=>
  some r10
theorem Ll:OJ 0 (cA qd8 30) (xj e) .normal (λo=>aQ 54 [(2,.eptr (ah e)),(5,sl cS v),(6,.bool o)] [.dead,.dead] [((5,0),9)]) (aQ 54 [(2,.eptr (ah e)),(5,sl cS v)] [.dead,.dead] [((5,0),9)]):=qgh.j<|
 tb λr5 br5=>tb λr6 br6=>have pp8:=λ{X Y Z} (r:PV _ X Y Z)=>tw (aS e)<|bG (FY _ br5)<|bG (xl _ br6)<|r;tf (λc7=>pp8<|tg 5 c7<|tE) λc7=>tb λr9 br9=>tb λr10 br10=>pp8<|tg 5 c7<|tw (aB e)<|bG (Fe _ br9)<|bG (xl _ br10)<|tE
end
section
variable(t30:waE)(t31:Int)(v:waA)(doubled:Bool)(t32:Int)
def mP:aK:=aQ 54 [(5,sl cS v),(6,.bool doubled),(30,sl bE t30),(31,.int .i64 t31),(32,.int .i64 t32)] [.dead,.dead] [((5,0),9)]
def sP(o:waA×Bool):aK:=aQ 54 [(5,sl cS o.1),(6,.bool o.2)] [.dead,.dead] [((5,0),9)]
instance iS_syntax_named_L3:KS 0 (mP t30 t31 v doubled t32):=⟨rfl,(bD (aI (up (aZ Q0 v)) (aI vzz (aI (up (aZ oc t30)) (aI vzz (aI vzz vzz)))))),(aI vzz (aI vzz vzz))⟩
instance iO_syntax_named_L3{o:(waA×Bool)}:KS 0 (sP o):=⟨rfl,(bD (aI (up (aZ Q0 o.1)) (aI vzz vzz))),(aI vzz (aI vzz vzz))⟩
def fp:Option ((waA×Bool×Int)⊕((waA×Bool))):=
 if decide (t32<t31)=true then
  (cX t30 t32).bind λx13=>
  (app v ([x13.Con]:List ae)).bind λl14=>
  (app l14 x13.Names).bind λl15=>
  if doubled=true then
   some (.inl (l15,true,dt (t32+1)))
  else
   (oB x13.Names).bind λr17=>
   some (.inl (l15,r17,dt (t32+1)))
 else
  some (.inr (v,doubled))
def qe:Option ((waA×Bool)):=loop (λ(zz:waA×Bool×Int)=>fp t30 t31 zz.1 zz.2.1 zz.2.2) (v,doubled,t32)
theorem Jw:OL 0 (cA qd8 503) (fp t30 t31 v doubled t32) (λ(zz:waA×Bool×Int)=>mP t30 t31 zz.1 zz.2.1 zz.2.2) (λ_=>.exit 0) sP (mP t30 t31 v doubled t32):=qgh.lx<|
 tF (tb λx13 bx13=>tb λl14 bl14=>tb λl15 bl15=>tv (gz.ia (k:=.i64) bx13)<|tv (yp x13)<|tx PF<|tx (wk x13)<|VE [0,0,2,6,15,0,32,127,255]<|ts<|tv (bJ [x13.Con] 1 rfl)<|tv (d8.ap bl14)<|ts<|tv (d8.ap bl15)<|tf (λc16=>tg 2 c16<|tE) λc16=>tb λr17 br17=>tg 2 c16<|ts<|bG (xl _ br17)<|tE)<|tE
theorem Lm:OJ 0 (.loop (cA qd8 503)) (qe t30 t31 v doubled t32) (.exit 0) sP (mP t30 t31 v doubled t32):=y1 λ_=>Jw _ _ _ _ _
end
def yM(e:ag)(s:aA):Option Int:=
 (sN e.Params).bind λr1=>
 (xi e s r1).bind λo4=>
 (xj e).bind λo11=>
 (qe e.Alts (e.Alts.length:Int) o4 o11 0).bind λo18=>
 (e9 o18.1).bind λr19=>
 if r19=true then
  some 3
 else if o18.2=true then
  some 4
 else
  some 0
theorem QS{e:ag}{s:aA}:OV 159 [.agg (ah e),.agg (aL s)] (yM e s) (λr=>.int .i64 r) []:=qgh.v<|
 tb λr1 br1=>tb λo4 bo4=>tb λo11 bo11=>tb λo18 bo18=>tb λr19 br19=>te (bQ e)<|te (FI s)<|tw (aS e)<|bG (FY _ br1)<|fc 0<|bT (Lk e s r1 _ bo4)<|fc 0<|bT (Ll e o4 _ bo11)<|tw (aB e)<|bL (gz.ln e.Alts)<|bT (Lm e.Alts (e.Alts.length:Int) o4 o11 0 _ bo18)<|bG (uw _ br19)<|tF tE<|tF tE<|tE
abbrev uU:=(af->Option Int)
abbrev Ce(R:uU):Prop:=∀(t:af),OV 92 [.agg (ai t)] (R t) (λr=>.int .i64 r) []
noncomputable def qqh:Code:=f92.body.getD .skip
def qst:List Nat:=[]
theorem qrc:ZF Pg qst 92 f92 qqh:=zf call92 func92 rfl mixed
section
variable(R75:uU)(t7:waB)(t8:Int)(n:Int)(t9:Int)
def oD:aK:=aQ 20 [(3,.int .i64 n),(7,sl ai t7),(8,.int .i64 t8),(9,.int .i64 t9)] [.dead] []
def uH(o:Int):aK:=aQ 20 [(3,.int .i64 o)] [.dead] []
instance iS_types_depth_L1:KS 0 (oD t7 t8 n t9):=⟨rfl,(bD (aI vzz (aI (up (aZ cJ t7)) (aI vzz (aI vzz vzz))))),(aI vzz vzz)⟩
instance iO_types_depth_L1{o:Int}:KS 0 (uH o):=⟨rfl,(bD (aI vzz vzz)),(aI vzz vzz)⟩
def DQ:Option ((Int×Int)⊕(Int)):=
 if decide (t9<t8)=true then
  (cX t7 t9).bind λx2=>
  (R75 x2).bind λr3=>
  some (.inl ((if r3>n then r3 else n),dt (t9+1)))
 else
  some (.inr n)
def Io:Option Int:=loop (λ(zz:Int×Int)=>DQ R75 t7 t8 zz.1 zz.2) (n,t9)
theorem Ls(hR75:Ce R75):OL 0 (cA qqh 119) (DQ R75 t7 t8 n t9) (λ(zz:Int×Int)=>oD t7 t8 zz.1 zz.2) (λ_=>.exit 0) uH (oD t7 t8 n t9):=qrc.lx<|
 tF (tb λx2 bx2=>tb λr3 br3=>tv (cu.ia (k:=.i64) bx2)<|tv (bo x2)<|tx K8<|tx (gJ x2)<|tv (ed x2 [])<|bG (hR75 _ _ br3)<|tE)<|tE
theorem Ns(hR75:Ce R75):OJ 0 (.loop (cA qqh 119)) (Io R75 t7 t8 n t9) (.exit 0) uH (oD t7 t8 n t9):=y1 λ_=>Ls _ _ _ _ _ hR75
end
def Ka(R75:uU)(t:af):Option Int:=
 (Io R75 t.Args (t.Args.length:Int) 0 0).bind λo4=>
 some (dt (o4+1))
theorem QU(R75:uU)(hR75:Ce R75){t:af}:OV 92 [.agg (ai t)] (Ka R75 t) (λr=>.int .i64 r) []:=qrc.v<|
 tb λo4 bo4=>te (dR t)<|tw (aM t)<|bL (cu.ln t.Args)<|bT (Ns R75 t.Args (t.Args.length:Int) 0 0 hR75 _ bo4)<|tE
def CS:(af->Option Int)->(af)->Option Int:=λ(rec:af->Option Int) (x:af)=>Ka (λt=>rec t) x
def Cd(t:af):Option Int:=pA CS t
theorem TW{t:af}:OV 92 [.agg (ai t)] (Cd t) (λr=>.int .i64 r) []:=Do λ_ h=>
 dN (F:=CS) (M:=λ(x:af) (r:Int)=>CC Pg GE 92 [.agg (ai x)] (.int .i64 r) []) (λrec hrec x r h=>QU _ (λt=>Do λr h=>hrec t r h) _ h) h
abbrev yi:=(af->Option Int)
abbrev D0(R:yi):Prop:=∀(t:af),OV 93 [.agg (ai t)] (R t) (λr=>.int .i64 r) []
noncomputable def qkO:Code:=f146.body.getD .skip
def qmC:List Nat:=[]
theorem qki:ZF Pg qmC 146 f146 qkO:=zf call146 func146 rfl mixed
section
variable(t:af)
def Ax:Option Bool:=
 if decide ((t.Args.length:Int)<2)=true then
  some true
 else if decide ((t.Args.length:Int)>7)=true then
  some true
 else if((t.Names.length:Int)!=0)=true then
  some ((t.Names.length:Int)!=(dt ((t.Args.length:Int) - 1)))
 else
  some false
theorem Nr:OJ 0 (cA qkO 892) (Ax t) .normal (λo=>aQ 39 [(38,.bool o)] [.dead] []) (aQ 39 [(1,.eptr (ai t))] [.dead] []):=qki.j<|
 have pp5:=λ{X Y Z} (r:PV _ X Y Z)=>tw (aM t)<|bL (cu.ln t.Args)<|r;tf (λc4=>pp5<|tg 5 c4<|tE) λc4=>have pp7:=λ{X Y Z} (r:PV _ X Y Z)=>pp5<|tg 5 c4<|tw (aM t)<|bL (cu.ln t.Args)<|r;tf (λc6=>pp7<|tg 11 c6<|tE) λc6=>have pp9:=λ{X Y Z} (r:PV _ X Y Z)=>pp7<|tg 11 c6<|tw (aX t)<|bL (d8.ln t.Names)<|r;tf (λc8=>pp9<|tg 16 c8<|tw (aX t)<|bL (d8.ln t.Names)<|tw (aM t)<|bL (cu.ln t.Args)<|tE) λc8=>pp9<|tg 16 c8<|tE
end
def Cc(t:af):Option Int:=
 if(t.Op==4)=true then
  if decide ((t.Args.length:Int)>6)=true then
   some 13
  else
   some 0
 else if(t.Op==6)=true then
  (Ax t).bind λo10=>
  if o10=true then
   some 13
  else
   some 0
 else
  some 0
theorem TV{t:af}:OV 146 [.agg (ai t)] (Cc t) (λr=>.int .i64 r) []:=qki.v<|
 te (dR t)<|tw (az t)<|tF (tw (aM t)<|bL (cu.ln t.Args)<|tF tE<|tE)<|tF (tb λo10 bo10=>fc 0<|bT (Nr t _ bo10)<|tF tE<|tE)<|tE
noncomputable def qhZ:Code:=f93.body.getD .skip
def qsu:List Nat:=[68,100]
theorem qiI:ZF Pg qsu 93 f93 qhZ:=zf call93 func93 rfl mixed
section
variable(t:af)
def vD:Option Bool:=
 if(t.Op==4)=true then
  some true
 else
  some (t.Op==5)
theorem O6:OJ 0 (cA qhZ 6) (vD t) .normal (λo=>aQ 102 [(1,.eptr (ai t)),(3,.bool o)] [.dead] []) (aQ 102 [(1,.eptr (ai t))] [.dead] []):=qiI.j<|
 have pp2:=λ{X Y Z} (r:PV _ X Y Z)=>tw (az t)<|r;tf (λc1=>pp2<|tg 4 c1<|tE) λc1=>pp2<|tg 4 c1<|tw (az t)<|tE
end
section
variable(t:af)(named:Bool)
def vF:Option Bool:=
 if(t.Op==4)=true then
  some true
 else
  some (t.Op==6)
theorem O7:OJ 0 (cA qhZ 14) (vF t) .normal (λo=>aQ 102 [(1,.eptr (ai t)),(3,.bool named),(4,.bool o)] [.dead] []) (aQ 102 [(1,.eptr (ai t)),(3,.bool named)] [.dead] []):=qiI.j<|
 have pp5:=λ{X Y Z} (r:PV _ X Y Z)=>tw (az t)<|r;tf (λc4=>pp5<|tg 4 c4<|tE) λc4=>pp5<|tg 4 c4<|tw (az t)<|tE
end
section
variable(t:af)(named:Bool)(compound:Bool)
def vG:Option Bool:=
 if decide (t.Op<1)=true then
  some true
 else if decide (t.Op>6)=true then
  some true
 else if(!(t.Name==([]:ae)))=true then
  if(!named)=true then
   some true
  else if decide ((t.Args.length:Int)>0)=true then
   if(!compound)=true then
    some true
   else if decide ((t.Names.length:Int)>0)=true then
    some (t.Op !=6)
   else
    some false
  else if decide ((t.Names.length:Int)>0)=true then
   some (t.Op !=6)
  else
   some false
 else if decide ((t.Args.length:Int)>0)=true then
  if(!compound)=true then
   some true
  else if decide ((t.Names.length:Int)>0)=true then
   some (t.Op !=6)
  else
   some false
 else if decide ((t.Names.length:Int)>0)=true then
  some (t.Op !=6)
 else
  some false
theorem O8:OJ 0 (cA qhZ 60) (vG t named compound) .normal (λo=>aQ 102 [(1,.eptr (ai t)),(3,.bool named),(63,.bool o)] [.dead] []) (aQ 102 [(1,.eptr (ai t)),(3,.bool named),(4,.bool compound)] [.dead] []):=qiI.j<|
 have pp8:=λ{X Y Z} (r:PV _ X Y Z)=>tw (az t)<|r;tf (λc7=>pp8<|tg 4 c7<|tE) λc7=>have pp10:=λ{X Y Z} (r:PV _ X Y Z)=>pp8<|tg 4 c7<|tw (az t)<|r;tf (λc9=>pp10<|tg 9 c9<|tE) λc9=>have pp12:=λ{X Y Z} (r:PV _ X Y Z)=>pp10<|tg 9 c9<|tw (bP t)<|r;tf (λc11=>have pp14:=λ{X Y Z} (r:PV _ X Y Z)=>pp12<|tg 13 c11<|r;tf (λc13=>pp14<|tg 18 c13<|tE) λc13=>have pp16:=λ{X Y Z} (r:PV _ X Y Z)=>pp14<|tg 18 c13<|tw (aM t)<|bL (cu.ln t.Args)<|r;tf (λc15=>have pp18:=λ{X Y Z} (r:PV _ X Y Z)=>pp16<|tg 23 c15<|r;tf (λc17=>pp18<|tg 28 c17<|tE) λc17=>have pp20:=λ{X Y Z} (r:PV _ X Y Z)=>pp18<|tg 28 c17<|tw (aX t)<|bL (d8.ln t.Names)<|r;tf (λc19=>pp20<|tg 33 c19<|tw (az t)<|tE) λc19=>pp20<|tg 33 c19<|tE) λc15=>have pp22:=λ{X Y Z} (r:PV _ X Y Z)=>pp16<|tg 23 c15<|tw (aX t)<|bL (d8.ln t.Names)<|r;tf (λc21=>pp22<|tg 33 c21<|tw (az t)<|tE) λc21=>pp22<|tg 33 c21<|tE) λc11=>have pp24:=λ{X Y Z} (r:PV _ X Y Z)=>pp12<|tg 13 c11<|tw (aM t)<|bL (cu.ln t.Args)<|r;tf (λc23=>have pp26:=λ{X Y Z} (r:PV _ X Y Z)=>pp24<|tg 23 c23<|r;tf (λc25=>pp26<|tg 28 c25<|tE) λc25=>have pp28:=λ{X Y Z} (r:PV _ X Y Z)=>pp26<|tg 28 c25<|tw (aX t)<|bL (d8.ln t.Names)<|r;tf (λc27=>pp28<|tg 33 c27<|tw (az t)<|tE) λc27=>pp28<|tg 33 c27<|tE) λc23=>have pp30:=λ{X Y Z} (r:PV _ X Y Z)=>pp24<|tg 23 c23<|tw (aX t)<|bL (d8.ln t.Names)<|r;tf (λc29=>pp30<|tg 33 c29<|tw (az t)<|tE) λc29=>pp30<|tg 33 c29<|tE
end
section
variable(t:af)
def vI:Option Bool:=
 (jC t.Name 0).bind λc38=>
 if decide (c38>=65)=true then
  (jC t.Name 0).bind λc41=>
  some (decide (c41<=90))
 else
  some false
theorem O9:OJ 0 (cA qhZ 2026) (vI t) .normal (λo=>aQ 102 [(1,.eptr (ai t)),(6,.bool o)] [.dead] []) (aQ 102 [(1,.eptr (ai t))] [.dead] []):=qiI.j<|
 tb λc38 bc38=>have pp40:=λ{X Y Z} (r:PV _ X Y Z)=>tw (bP t)<|tv (fF (k:=.i64) underlying9 bc38)<|r;tf (λc39=>tb λc41 bc41=>pp40<|tg 5 c39<|tw (bP t)<|tv (fF (k:=.i64) underlying9 bc41)<|tE) λc39=>pp40<|tg 5 c39<|tE
end
section
variable(t:af)(named:Bool)
def QV(o:Unit⊕(Unit)):Exit:=match o with
 |(.inl _)=>.ret
 |(.inr _)=>.normal
def QW(o:Unit⊕(Unit)):aK:=match o with
 |(.inl o)=>aQ 102 [(2,.int .i64 3)] [.dead] []
 |(.inr o)=>aQ 102 [(1,.eptr (ai t))] [.dead] []
def vH:Option (Unit⊕(Unit)):=
 if named=true then
  (nv t.Name).bind λr36=>
  if(r36 !=0)=true then
   some (.inl ())
  else
   (vI t).bind λo42=>
   if(!(o42==(t.Op==4)))=true then
    some (.inl ())
   else
    some (.inr ())
 else
  some (.inr ())
theorem DR:OK 0 (cA qhZ 126) (vH t named) QV (QW t) (aQ 102 [(1,.eptr (ai t)),(3,.bool named)] [.dead] []):=qiI.k<|
 tF (tb λr36 br36=>tw (bP t)<|bG (jO _ br36)<|tF tE<|tb λo42 bo42=>fc 0<|bT (O9 t _ bo42)<|tw (az t)<|tF tE<|tE)<|tE
end
section
variable(R76:yi)(t90:waB)(t91:Int)(t92:Int)
def qf:aK:=aQ 102 [(90,sl ai t90),(91,.int .i64 t91),(92,.int .i64 t92)] [.dead] []
def F2(o:Int⊕(Unit)):Exit:=match o with
 |(.inl _)=>.ret
 |(.inr _)=>.exit 0
def xn(o:Int⊕(Unit)):aK:=match o with
 |(.inl o)=>aQ 102 [(2,.int .i64 o)] [.dead] []
 |(.inr o)=>aQ 102 [] [.dead] []
instance iS_types_form_L6:KS 0 (qf t90 t91 t92):=⟨rfl,(bD (aI (up (aZ cJ t90)) (aI vzz (aI vzz vzz)))),(aI vzz vzz)⟩
instance iO_types_form_L6{o:Int⊕(Unit)}:KS 0 (xn o):=match o with
 |(.inl o)=>⟨rfl,(bD (aI vzz vzz)),(aI vzz vzz)⟩
 |(.inr o)=>⟨rfl,(bD vzz),(aI vzz vzz)⟩
def F0:Option (Int⊕(Int⊕(Unit))):=
 if decide (t92<t91)=true then
  (cX t90 t92).bind λx46=>
  (R76 x46).bind λr47=>
  if(r47 !=0)=true then
   some (.inr (.inl r47))
  else
   some (.inl (dt (t92+1)))
 else
  some (.inr (.inr ()))
def CT:Option (Int⊕(Unit)):=loop (λ(zz:Int)=>F0 R76 t90 t91 zz) t92
theorem Nt(hR76:D0 R76):OL 0 (cA qhZ 2039) (F0 R76 t90 t91 t92) (λ(zz:Int)=>qf t90 t91 zz) F2 xn (qf t90 t91 t92):=qiI.lx<|
 tF (tb λx46 bx46=>tb λr47 br47=>tv (cu.ia (k:=.i64) bx46)<|tv (bo x46)<|tx K8<|tx (gJ x46)<|tv (ed x46 [])<|bG (hR76 _ _ br47)<|tF tE<|tE)<|tE
theorem DS(hR76:D0 R76):OK 0 (.loop (cA qhZ 2039)) (CT R76 t90 t91 t92) F2 xn (qf t90 t91 t92):=AN λ_=>Nt _ _ _ _ hR76
end
def yN(R76:yi)(t:af):Option Int:=
 (vD t).bind λo3=>
 (vF t).bind λo6=>
 (vG t o3 o6).bind λo31=>
 if o31=true then
  some 1
 else
  (Cc t).bind λr33=>
  if(r33 !=0)=true then
   some r33
  else
   (vH t o3).bind λo44=>match o44 with
   |(.inl o44)=>
    some 3
   | (.inr o44) =>
    (CT R76 t.Args (t.Args.length:Int) 0).bind λo49=>match o49 with
    |(.inl o49)=>
     some o49
    |(.inr o49)=>
     some 0
theorem TX(R76:yi)(hR76:D0 R76){t:af}:OV 93 [.agg (ai t)] (yN R76 t) (λr=>.int .i64 r) []:=qiI.v<|
 tb λo3 bo3=>tb λo6 bo6=>tb λo31 bo31=>te (dR t)<|fc 0<|bT (O6 t _ bo3)<|fc 0<|bT (O7 t o3 _ bo6)<|fc 1<|bT (O8 t o3 o6 _ bo31)<|tF tE<|tb λr33 br33=>tv (bo t)<|bG (TV _ br33)<|tF tE<|t2 (λo44 bo44=>fc 0<|bT (DR t o3 _ bo44)<|tE) λo44 bo44=>fc 0<|bT (DR t o3 _ bo44)<|tw (aM t)<|bL (cu.ln t.Args)<|t2 (λo49 bo49=>bT (DS R76 t.Args (t.Args.length:Int) 0 hR76 _ bo49)<|tE) λo49 bo49=>bT (DS R76 t.Args (t.Args.length:Int) 0 hR76 _ bo49)<|tE
def Fi:(af->Option Int)->(af)->Option Int:=λ(rec:af->Option Int) (x:af)=>yN (λt=>rec t) x
def Fh(t:af):Option Int:=pA Fi t
theorem UP{t:af}:OV 93 [.agg (ai t)] (Fh t) (λr=>.int .i64 r) []:=Do λ_ h=>
 dN (F:=Fi) (M:=λ(x:af) (r:Int)=>CC Pg GE 93 [.agg (ai x)] (.int .i64 r) []) (λrec hrec x r h=>TX _ (λt=>Do λr h=>hrec t r h) _ h) h
noncomputable def qtj:Code:=f52.body.getD .skip
def qr3:List Nat:=[]
theorem qsQ:ZF Pg qr3 52 f52 qtj:=zf call52 func52 rfl mixed
def nO(t:af):Option Int:=
 (Cd t).bind λr1=>
 if decide (r1>40)=true then
  some 8
 else
  (Fh t).bind λr3=>
  some r3
theorem Aw{t:af}:OV 52 [.agg (ai t)] (nO t) (λr=>.int .i64 r) []:=qsQ.v<|
 tb λr1 br1=>te (dR t)<|tv (bo t)<|bG (TW _ br1)<|tF tE<|tb λr3 br3=>tv (bo t)<|bG (UP _ br3)<|tE
noncomputable def qpw:Code:=f160.body.getD .skip
def qmQ:List Nat:=[]
theorem qow:ZF Pg qmQ 160 f160 qpw:=zf call160 func160 rfl mixed
def Ca(t:af):Option Bool:=
 (xk t (⟨0,([]:ae),([]:List af),([]:List ae),(⟨0,([]:ae),0,([]:List aa)⟩:aa),([]:List aa)⟩:af)).bind λr1=>
 some r1
theorem TQ{t:af}:OV 160 [.agg (ai t)] (Ca t) (λr=>.bool r) []:=qow.v<|
 tb λr1 br1=>te (dR t)<|tv (bo t)<|QT (Sl) (Si)<|bG (Lp _ br1)<|tE
end Go.Proofs.YtibglelmlnfojaaGreatDoor
