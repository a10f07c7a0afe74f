/- PROVED: a part of the proof. Conditions: none. -/
import Derived.Test.YtibglelmlnfojaaGreatDoorpa11
set_option linter.unusedSimpArgs false
set_option linter.unusedVariables false
noncomputable section
namespace Go.Proofs.YtibglelmlnfojaaGreatDoor
open Go Go.Proofs.Tryz
set_option linter.unusedVariables false
set_option maxRecDepth 100000
noncomputable def YM:Code:=f178.body.getD .skip
def qgZ:List Nat:=[]
theorem qbb:ZF Pg qgZ 178 f178 YM:=zf call178 func178 rfl mixed
section
variable(s:ah)
def sq:Option Bool:=
 (pb s).bind λr1=>
 if(!r1)=true then
  some true
 else
  (jF s 0).bind λc3=>
  (lS c3).bind λr4=>
  if(!r4)=true then
   some true
  else
   (sn s).bind λr7=>
   some r7
theorem J5:OJ 0 (cA YM 12) (sq s) .normal (λo=>aZ 41 [(0,.str s),(16,.bool o)] [] []) (aZ 41 [(0,.str s)] [] []):=qbb.j<|
 tb λr1 br1=>tf (λc2=>cJ (jI _ br1)<|tg 4 c2<|tE) λc2=>tb λc3 bc3=>tb λr4 br4=>have pp6:=λ{X Y Z} (r:PV _ X Y Z)=>cJ (jI _ br1)<|tg 4 c2<|tv (tL (k:=.i64) underlying9 bc3)<|cJ (p8 _ br4)<|r;tf (λc5=>pp6<|tg 10 c5<|tE) λc5=>tb λr7 br7=>pp6<|tg 10 c5<|cJ (J1 _ br7)<|tE
end
section
variable(s:ah)(i:Int)
def su:Option Bool:=
 (jF s i).bind λc11=>
 (lS c11).bind λr12=>
 if(!r12)=true then
  (jF s i).bind λc15=>
  (o0 c15).bind λr16=>
  if(!r16)=true then
   (jF s i).bind λc19=>
   some (c19 !=95)
  else
   some false
 else
  some false
theorem J7:OJ 0 (cA YM 1914) (su s i) .normal (λo=>aZ 41 [(0,.str s),(3,.int .i64 i),(40,.bool o)] [] []) (aZ 41 [(0,.str s),(3,.int .i64 i)] [] []):=qbb.j<|
 tb λc11 bc11=>tb λr12 br12=>have pp14:=λ{X Y Z} (r:PV _ X Y Z)=>tv (tL (k:=.i64) underlying9 bc11)<|cJ (p8 _ br12)<|r;tf (λc13=>tb λc15 bc15=>tb λr16 br16=>have pp18:=λ{X Y Z} (r:PV _ X Y Z)=>pp14<|tg 6 c13<|tv (tL (k:=.i64) underlying9 bc15)<|cJ (xd _ br16)<|r;tf (λc17=>tb λc19 bc19=>pp18<|tg 13 c17<|tv (tL (k:=.i64) underlying9 bc19)<|tE) λc17=>pp18<|tg 13 c17<|tE) λc13=>pp14<|tg 6 c13<|tE
end
section
variable(s:ah)(i:Int)
def ug:aF:=aZ 41 [(0,.str s),(3,.int .i64 i)] [] []
def CE(o:Unit⊕(Unit)):Exit:=match o with
 |(.inl _)=>.ret
 |(.inr _)=>.exit 0
def CF(o:Unit⊕(Unit)):aF:=match o with
 |(.inl o)=>aZ 41 [(2,.bool false)] [] []
 |(.inr o)=>aZ 41 [] [] []
def od:Option (Int⊕(Unit⊕(Unit))):=
 if decide (i<(s.length:Int))=true then
  (su s i).bind λo20=>
  if o20=true then
   some (.inr (.inl ()))
  else
   some (.inl (dU (i+1)))
 else
  some (.inr (.inr ()))
def sw:Option (Unit⊕(Unit)):=loop (λ(zz:Int)=>od s zz) i
theorem IA:OL 0 (cA YM 119) (od s i) (λ(zz:Int)=>ug s zz) CE CF (ug s i):=qbb.l<|
 cq (Jd underlying9 s)<|tF (tb λo20 bo20=>lB 1<|dm (J7 s i _ bo20)<|tF tE<|tE)<|tE
theorem Av:OK 0 (.loop (cA YM 119)) (sw s i) CE CF (ug s i):=FA λ_=>IA _ _
end
def BG(s:ah):Option Bool:=
 (sq s).bind λo8=>
 if o8=true then
  some false
 else
  (sw s 1).bind λo22=>match o22 with
  |(.inl o22)=>
   some false
  |(.inr o22)=>
   some true
theorem Gm{s:ah}:OV 178 [.str s] (BG s) (λr=>.bool r) []:=qbb.v<|
 tb λo8 bo8=>lB 2<|dm (J5 s _ bo8)<|tF tE<|t2 (λo22 bo22=>dm (Av s 1 _ bo22)<|tE) λo22 bo22=>dm (Av s 1 _ bo22)<|tE
noncomputable def qiK:Code:=f225.body.getD .skip
def qhl:List Nat:=[]
theorem qh8:ZF Pg qhl 225 f225 qiK:=zf call225 func225 rfl mixed
def nx(c:Int):Option Bool:=
 if decide (65<=c)=true then
  some (decide (c<=90))
 else
  some false
theorem At{c:Int}:OV 225 [.int .u8 c] (nx c) (λr=>.bool r) []:=qh8.v<|
 tf (λc1=>tg 3 c1<|tE) λc1=>tg 3 c1<|tE
noncomputable def qbj:Code:=f181.body.getD .skip
def qg2:List Nat:=[]
theorem qdx:ZF Pg qg2 181 f181 qbj:=zf call181 func181 rfl mixed
section
variable(s:ah)(i:Int)
def gW:Option Bool:=
 (jF s i).bind λc2=>
 (lS c2).bind λr3=>
 if(!r3)=true then
  (jF s i).bind λc6=>
  (nx c6).bind λr7=>
  if(!r7)=true then
   (jF s i).bind λc10=>
   (o0 c10).bind λr11=>
   some (!r11)
  else
   some false
 else
  some false
theorem zF:OJ 0 (cA qbj 890) (gW s i) .normal (λo=>aZ 29 [(0,.str s),(3,.int .i64 i),(28,.bool o)] [] []) (aZ 29 [(0,.str s),(3,.int .i64 i)] [] []):=qdx.j<|
 tb λc2 bc2=>tb λr3 br3=>have pp5:=λ{X Y Z} (r:PV _ X Y Z)=>tv (tL (k:=.i64) underlying9 bc2)<|cJ (p8 _ br3)<|r;tf (λc4=>tb λc6 bc6=>tb λr7 br7=>have pp9:=λ{X Y Z} (r:PV _ X Y Z)=>pp5<|tg 6 c4<|tv (tL (k:=.i64) underlying9 bc6)<|cJ (At _ br7)<|r;tf (λc8=>tb λc10 bc10=>tb λr11 br11=>pp9<|tg 13 c8<|tv (tL (k:=.i64) underlying9 bc10)<|cJ (xd _ br11)<|tE) λc8=>pp9<|tg 13 c8<|tE) λc4=>pp5<|tg 6 c4<|tE
end
section
variable(s:ah)(i:Int)
def jH:aF:=aZ 29 [(0,.str s),(3,.int .i64 i)] [] []
def oY(o:Unit⊕(Unit)):Exit:=match o with
 |(.inl _)=>.ret
 |(.inr _)=>.exit 0
def oZ(o:Unit⊕(Unit)):aF:=match o with
 |(.inl o)=>aZ 29 [(2,.bool false)] [] []
 |(.inr o)=>aZ 29 [] [] []
def er:Option (Int⊕(Unit⊕(Unit))):=
 if decide (i<(s.length:Int))=true then
  (gW s i).bind λo12=>
  if o12=true then
   some (.inr (.inl ()))
  else
   some (.inl (dU (i+1)))
 else
  some (.inr (.inr ()))
def kI:Option (Unit⊕(Unit)):=loop (λ(zz:Int)=>er s zz) i
theorem yd:OL 0 (cA qbj 55) (er s i) (λ(zz:Int)=>jH s zz) oY oZ (jH s i):=qdx.l<|
 cq (Jd underlying9 s)<|tF (tb λo12 bo12=>lB 1<|dm (zF s i _ bo12)<|tF tE<|tE)<|tE
theorem nv:OK 0 (.loop (cA qbj 55)) (kI s i) oY oZ (jH s i):=FA λ_=>yd _ _
end
def gG(s:ah):Option Bool:=
 (kI s 0).bind λo14=>match o14 with
 |(.inl o14)=>
  some false
 |(.inr o14)=>
  some true
theorem qV{s:ah}:OV 181 [.str s] (gG s) (λr=>.bool r) []:=qdx.v<|
 t2 (λo14 bo14=>dm (nv s 0 _ bo14)<|tE) λo14 bo14=>dm (nv s 0 _ bo14)<|tE
noncomputable def qfn:Code:=f179.body.getD .skip
def qg0:List Nat:=[]
theorem qe4:ZF Pg qg0 179 f179 qfn:=zf call179 func179 rfl mixed
section
variable(s:ah)
def p9:Option Bool:=
 (pb s).bind λr1=>
 if(!r1)=true then
  some true
 else
  (jF s 0).bind λc3=>
  (nx c3).bind λr4=>
  if(!r4)=true then
   some true
  else
   (gG s).bind λr7=>
   some (!r7)
theorem IC:OJ 0 (cA qfn 12) (p9 s) .normal (λo=>aZ 31 [(0,.str s),(16,.bool o)] [] []) (aZ 31 [(0,.str s)] [] []):=qe4.j<|
 tb λr1 br1=>tf (λc2=>cJ (jI _ br1)<|tg 4 c2<|tE) λc2=>tb λc3 bc3=>tb λr4 br4=>have pp6:=λ{X Y Z} (r:PV _ X Y Z)=>cJ (jI _ br1)<|tg 4 c2<|tv (tL (k:=.i64) underlying9 bc3)<|cJ (At _ br4)<|r;tf (λc5=>pp6<|tg 10 c5<|tE) λc5=>tb λr7 br7=>pp6<|tg 10 c5<|cJ (qV _ br7)<|tE
end
def y1(s:ah):Option Bool:=
 (p9 s).bind λo8=>
 if o8=true then
  some false
 else if(!(s==([73,110,116]:ah)))=true then
  if(!(s==([66,111,111,108]:ah)))=true then
   if(!(s==([67,101,108,108]:ah)))=true then
    some (!(s==([70,117,110]:ah)))
   else
    some false
  else
   some false
 else
  some false
theorem NA{s:ah}:OV 179 [.str s] (y1 s) (λr=>.bool r) []:=qe4.v<|
 tb λo8 bo8=>lB 2<|dm (IC s _ bo8)<|tF tE<|tf (λc10=>tf (λc11=>have pp13:=λ{X Y Z} (r:PV _ X Y Z)=>tg 3 c10<|tg 7 c11<|r;tf (λc12=>pp13<|tg 11 c12<|tE) λc12=>pp13<|tg 11 c12<|tE) λc11=>tg 3 c10<|tg 7 c11<|tE) λc10=>tg 3 c10<|tE
noncomputable def qbk:Code:=f182.body.getD .skip
def qg3:List Nat:=[]
theorem qdy:ZF Pg qg3 182 f182 qbk:=zf call182 func182 rfl mixed
section
variable(s:ah)(i:Int)
def sy:Option Bool:=
 (jF s i).bind λc2=>
 (lS c2).bind λr3=>
 if (!r3) = true then
  if(i==0)=true then
   some true
  else
   (jF s i).bind λc8=>
   (o0 c8).bind λr9=>
   if(!r9)=true then
    (jF s i).bind λc12=>
    some (c12 !=95)
   else
    some false
 else
  some false
theorem Ka:OJ 0 (cA qbk 890) (sy s i) .normal (λo=>aZ 32 [(0,.str s),(3,.int .i64 i),(31,.bool o)] [] []) (aZ 32 [(0,.str s),(3,.int .i64 i)] [] []):=qdy.j<|
 tb λc2 bc2=>tb λr3 br3=>have pp5:=λ{X Y Z} (r:PV _ X Y Z)=>tv (tL (k:=.i64) underlying9 bc2)<|cJ (p8 _ br3)<|r;tf (λc4=>have pp7:=λ{X Y Z} (r:PV _ X Y Z)=>pp5<|tg 6 c4<|r;tf (λc6=>pp7<|tg 9 c6<|tE) λc6=>tb λc8 bc8=>tb λr9 br9=>have pp11:=λ{X Y Z} (r:PV _ X Y Z)=>pp7<|tg 9 c6<|tv (tL (k:=.i64) underlying9 bc8)<|cJ (xd _ br9)<|r;tf (λc10=>tb λc12 bc12=>pp11<|tg 15 c10<|tv (tL (k:=.i64) underlying9 bc12)<|tE) λc10=>pp11<|tg 15 c10<|tE) λc4=>pp5<|tg 6 c4<|tE
end
section
variable(s:ah)(i:Int)
def uh:aF:=aZ 32 [(0,.str s),(3,.int .i64 i)] [] []
def CG(o:Unit⊕(Unit)):Exit:=match o with
 |(.inl _)=>.ret
 |(.inr _)=>.exit 0
def CH(o:Unit⊕(Unit)):aF:=match o with
 |(.inl o)=>aZ 32 [(2,.bool false)] [] []
 |(.inr o)=>aZ 32 [] [] []
def ko:Option (Int⊕(Unit⊕(Unit))):=
 if decide (i<(s.length:Int))=true then
  (sy s i).bind λo13=>
  if o13=true then
   some (.inr (.inl ()))
  else
   some (.inl (dU (i+1)))
 else
  some (.inr (.inr ()))
def zG:Option (Unit⊕(Unit)):=loop (λ(zz:Int)=>ko s zz) i
theorem ID:OL 0 (cA qbk 55) (ko s i) (λ(zz:Int)=>uh s zz) CG CH (uh s i):=qdy.l<|
 cq (Jd underlying9 s)<|tF (tb λo13 bo13=>lB 1<|dm (Ka s i _ bo13)<|tF tE<|tE)<|tE
theorem Aw:OK 0 (.loop (cA qbk 55)) (zG s i) CG CH (uh s i):=FA λ_=>ID _ _
end
def BH(s:ah):Option Bool:=
 (zG s 0).bind λo15=>match o15 with
 |(.inl o15)=>
  some false
 |(.inr o15)=>
  some true
theorem O9{s:ah}:OV 182 [.str s] (BH s) (λr=>.bool r) []:=qdy.v<|
 t2 (λo15 bo15=>dm (Aw s 0 _ bo15)<|tE) λo15 bo15=>dm (Aw s 0 _ bo15)<|tE
noncomputable def YK:Code:=f121.body.getD .skip
def qgC:List Nat:=[]
theorem qa8:ZF Pg qgC 121 f121 YK:=zf call121 func121 rfl mixed
section
variable(first:ah)(rest:ah)(more:Bool)
def sk:Option Bool:=
 (BG first).bind λr3=>
 if (!r3) = true then
  (y1 first).bind λr5=>
  if(!r5)=true then
   if(!(first==([118]:ah)))=true then
    some true
   else
    some (!more)
  else
   some false
 else
  some false
theorem JW:OJ 0 (cA YK 60) (sk first more) .normal (λo=>aZ 52 [(4,.str rest),(5,.bool more),(31,.bool o)] [] []) (aZ 52 [(3,.str first),(4,.str rest),(5,.bool more)] [] []):=qa8.j<|
 tb λr3 br3=>tf (λc4=>tb λr5 br5=>have pp7:=λ{X Y Z} (r:PV _ X Y Z)=>cJ (Gm _ br3)<|tg 4 c4<|cJ (NA _ br5)<|r;tf (λc6=>have pp9:=λ{X Y Z} (r:PV _ X Y Z)=>pp7<|tg 9 c6<|r;tf (λc8=>pp9<|tg 12 c8<|tE) λc8=>pp9<|tg 12 c8<|tE) λc6=>pp7<|tg 9 c6<|tE) λc4=>cJ (Gm _ br3)<|tg 4 c4<|tE
end
section
variable(rest:ah)(more:Bool)(part:ah)
def sm:Option Bool:=
 (pb part).bind λr14=>
 if(!r14)=true then
  some true
 else
  (gG part).bind λr16=>
  if(!r16)=true then
   (BH part).bind λr19=>
   some (!r19)
  else
   some false
theorem JY:OJ 0 (cA YK 8062) (sm part) .normal (λo=>aZ 52 [(4,.str rest),(5,.bool more),(51,.bool o)] [] []) (aZ 52 [(4,.str rest),(5,.bool more),(6,.str part)] [] []):=qa8.j<|
 tb λr14 br14=>tf (λc15=>cJ (jI _ br14)<|tg 4 c15<|tE) λc15=>tb λr16 br16=>have pp18:=λ{X Y Z} (r:PV _ X Y Z)=>cJ (jI _ br14)<|tg 4 c15<|cJ (qV _ br16)<|r;tf (λc17=>tb λr19 br19=>pp18<|tg 8 c17<|cJ (O9 _ br19)<|tE) λc17=>pp18<|tg 8 c17<|tE
end
section
variable(rest:ah)(more:Bool)
def uf:aF:=aZ 52 [(4,.str rest),(5,.bool more)] [] []
def CA(o:Unit⊕(Unit)):Exit:=match o with
 |(.inl _)=>.ret
 |(.inr _)=>.exit 0
def CB(o:Unit⊕(Unit)):aF:=match o with
 |(.inl o)=>aZ 52 [(2,.int .i64 3)] [] []
 |(.inr o)=>aZ 52 [] [] []
def il:Option ((ah×Bool)⊕(Unit⊕(Unit))):=
 if more=true then
  (Au rest).bind λr13=>
  (sm r13.1).bind λo20=>
  if o20=true then
   some (.inr (.inl ()))
  else
   some (.inl (r13.2.1,r13.2.2))
 else
  some (.inr (.inr ()))
def gq:Option (Unit⊕(Unit)):=loop (λ(zz:ah×Bool)=>il zz.1 zz.2) (rest,more)
theorem Iu:OL 0 (cA YK 251) (il rest more) (λ(zz:ah×Bool)=>uf zz.1 zz.2) CA CB (uf rest more):=qa8.l<|
 tF (tb λr13 br13=>tb λo20 bo20=>cJ (Ix _ br13)<|lB 0<|dm (JY r13.2.1 r13.2.2 r13.1 _ bo20)<|tF tE<|tE)<|tE
theorem Ar:OK 0 (.loop (cA YK 251)) (gq rest more) CA CB (uf rest more):=FA λ_=>Iu _ _
end
def lQ(s:ah):Option Int:=
 if decide ((s.length:Int)>120)=true then
  some 3
 else
  (Au s).bind λr2=>
  (sk r2.1 r2.2.2).bind λo10=>
  if o10=true then
   some 3
  else
   (gq r2.2.1 r2.2.2).bind λo22=>match o22 with
   |(.inl o22)=>
    some 3
   |(.inr o22)=>
    some 0
theorem iL{s:ah}:OV 121 [.str s] (lQ s) (λr=>.int .i64 r) []:=qa8.v<|
 cq (Jd underlying9 s)<|tF tE<|tb λr2 br2=>tb λo10 bo10=>cJ (Ix _ br2)<|lB 1<|dm (JW r2.1 r2.2.1 r2.2.2 _ bo10)<|tF tE<|t2 (λo22 bo22=>dm (Ar r2.2.1 r2.2.2 _ bo22)<|tE) λo22 bo22=>dm (Ar r2.2.1 r2.2.2 _ bo22)<|tE
noncomputable def qij:Code:=f122.body.getD .skip
def qgD:List Nat:=[]
theorem qhH:ZF Pg qgD 122 f122 qij:=zf call122 func122 rfl mixed
def nz(s:ah):Option Bool:=
 (jF s 0).bind λc1=>
 if decide (c1>=65)=true then
  (jF s 0).bind λc3=>
  some (decide (c3<=90))
 else
  some false
theorem AE{s:ah}:OV 122 [.str s] (nz s) (λr=>.bool r) []:=qhH.v<|
 tb λc1 bc1=>tf (λc2=>tb λc3 bc3=>tv (tL (k:=.i64) underlying9 bc1)<|tg 4 c2<|tv (tL (k:=.i64) underlying9 bc3)<|tE) λc2=>tv (tL (k:=.i64) underlying9 bc1)<|tg 4 c2<|tE
noncomputable def qjK:Code:=f68.body.getD .skip
def qkz:List Nat:=[]
theorem qjF:ZF Pg qkz 68 f68 qjK:=zf call68 func68 rfl mixed
section
variable(s:ah)(m:(List Int))(m2:Bool)
def iC:Option Bool:=
 (lQ s).bind λr1=>
 if(r1 !=0)=true then
  some true
 else
  (nz s).bind λr3=>
  some r3
theorem AJ:OJ 1 (cA qjK 4) (iC s) .normal (λo=>aZ 18 [(0,.bptr 0 0),(1,.str s),(10,.bool o)] [.cells [.nptr 0 76,sl (cI .u8) m,.bool m2] [(1,5)]] []) (aZ 18 [(0,.bptr 0 0),(1,.str s)] [.cells [.nptr 0 76,sl (cI .u8) m,.bool m2] [(1,5)]] []):=qjF.j<|
 tb λr1 br1=>tf (λc2=>cJ (iL _ br1)<|tg 4 c2<|tE) λc2=>tb λr3 br3=>cJ (iL _ br1)<|tg 4 c2<|cJ (AE _ br3)<|tE
end
def cz(s:ah)(k0:(List Int))(k02:Bool):Option (Bool×(List Int)):=
 (iC s).bind λo4=>
 if o4=true then
  some (true,k0)
 else
  (ak ([s]:List ah) k0 k02).bind λr6=>
  some (k02,r6)
theorem cV{s:ah}{k0:(List Int)}{k02:Bool}:OG 68 [.bptr 0 0,.str s] [] [.cells [.nptr 0 76,sl (cI .u8) k0,.bool k02] [(1,5)]] (cz s k0 k02) (λr=>.tuple []) [] (λr=>[.cells [.nptr 0 76,sl (cI .u8) r.2,.bool r.1] [(1,5)]]):=qjF.g 1<|
 tb λo4 bo4=>lB 1<|dm (AJ s k0 k02 _ bo4)<|tF (ts<|tE)<|tb λr6 br6=>tv (cU [s] 1 rfl)<|tc [0] (ai _ br6)<|tE
noncomputable def qik:Code:=f126.body.getD .skip
def qgE:List Nat:=[]
theorem qhI:ZF Pg qgE 126 f126 qik:=zf call126 func126 rfl mixed
def l9(i:Int)(a:waA)(k1:(List Int))(k12:Bool):Option ((List Int)×Bool):=
 (dh a i).bind λx1=>
 (cz x1 k1 k12).bind λr2=>
 some (r2.2,r2.1)
theorem AK{i:Int}{a:waA}{k1:(List Int)}{k12:Bool}:OG 126 [.int .i64 i,.bptr 0 0,.eptr ((cL cS) a)] [] [.cells [.bptr 1 0] [],.cells [.nptr 1 76,sl (cI .u8) k1,.bool k12] [(1,5)]] (l9 i a k1 k12) (λr=>.tuple []) [] (λr=>[.cells [.bptr 1 0] [],.cells [.nptr 1 76,sl (cI .u8) r.1,.bool r.2] [(1,5)]]):=qhI.g 2<|
 tb λx1 bx1=>tb λr2 br2=>tk<|Kz (.dx [0,0,0,6,14] [] [] [])<|ts<|tv (kb qev (sl cS a) [])<|tv (kQ.ia (k:=.i64) bx1)<|tv (kb qct (.str x1) [])<|tc [1] (cV _ br2)<|tE
noncomputable def QH:Code:=f70.body.getD .skip
def qkA:List Nat:=[10]
theorem Sm:ZF Pg qkA 70 f70 QH:=zf call70 func70 rfl mixed
section
variable(v:waA)(i:Int)(t7:Int)(m:(List Int))(m2:Bool)
def ql:Option (((List Int))):=
 if decide (i>0)=true then
  (ak ([ax]:List ah) m m2).bind λr3=>
  some r3
 else
  some m
theorem yg:OJ 2 (cA QH 1014) (ql i m m2) .normal (λo=>aZ 20 [(0,.bptr 0 0),(2,.func (.func 126) [] [.bptr 1 0,.eptr ((cL cS) v)]),(6,.int .i64 i),(7,.int .i64 t7),(8,.int .i64 i)] [.cells [.nptr 0 76,sl (cI .u8) o,.bool m2] [(1,5)],.cells [.bptr 0 0] []] []) (aZ 20 [(0,.bptr 0 0),(2,.func (.func 126) [] [.bptr 1 0,.eptr ((cL cS) v)]),(6,.int .i64 i),(7,.int .i64 t7),(8,.int .i64 i)] [.cells [.nptr 0 76,sl (cI .u8) m,.bool m2] [(1,5)],.cells [.bptr 0 0] []] []):=Sm.j<|
 tF (tb λr3 br3=>tv (cU [ax] 1 rfl)<|tc [0] (ai _ br3)<|tE)<|tE
end
section
variable(v:waA)(t7:Int)(t8:Int)(m:(List Int))(m2:Bool)
def iR:aF:=aZ 20 [(0,.bptr 0 0),(2,.func (.func 126) [] [.bptr 1 0,.eptr ((cL cS) v)]),(7,.int .i64 t7),(8,.int .i64 t8)] [.cells [.nptr 0 76,sl (cI .u8) m,.bool m2] [(1,5)],.cells [.bptr 0 0] []] []
def nG(o:(List Int)×Bool):aF:=aZ 20 [] [.cells [.nptr 0 76,sl (cI .u8) o.1,.bool o.2] [(1,5)],.cells [.bptr 0 0] []] []
def da:Option ((Int×(List Int)×Bool)⊕(((List Int)×Bool))):=
 if decide (t8<t7)=true then
  (ql t8 m m2).bind λo4=>
  (l9 t8 v o4 m2).bind λr5=>
  some (.inl (dU (t8+1),r5.1,r5.2))
 else
  some (.inr (m,m2))
def kh:Option (((List Int)×Bool)):=loop (λ(zz:Int×(List Int)×Bool)=>da v t7 zz.1 zz.2.1 zz.2.2) (t8,m,m2)
theorem xn:OL 2 (cA QH 15) (da v t7 t8 m m2) (λ(zz:Int×(List Int)×Bool)=>iR v t7 zz.1 zz.2.1 zz.2.2) (λ_=>.exit 0) nG (iR v t7 t8 m m2):=Sm.l<|
 tF (tb λo4 bo4=>tb λr5 br5=>lB 2<|dm (yg v t8 t7 m m2 _ bo4)<|tc [1,0] (AK _ br5)<|tE)<|tE
theorem yh:OJ 2 (.loop (cA QH 15)) (kh v t7 t8 m m2) (.exit 0) nG (iR v t7 t8 m m2):=Ke λ_=>xn _ _ _ _ _
end
def na(n:Int)(c:waA)(k0:(List Int))(k02:Bool):Option ((List Int)×Bool):=
 (kh c n 0 k0 k02).bind λo6=>
 some (o6.1,o6.2)
theorem B5{n:Int}{c:waA}{k0:(List Int)}{k02:Bool}:OG 70 [.bptr 0 0,.int .i64 n,.func (.func 126) [] [.bptr 1 0,.eptr ((cL cS) c)]] [] [.cells [.nptr 0 76,sl (cI .u8) k0,.bool k02] [(1,5)],.cells [.bptr 0 0] []] (na n c k0 k02) (λr=>.tuple []) [] (λr=>[.cells [.nptr 0 76,sl (cI .u8) r.1,.bool r.2] [(1,5)],.cells [.bptr 0 0] []]):=Sm.g 2<|
 tb λo6 bo6=>dm (yh c n 0 k0 k02 _ bo6)<|tE
noncomputable def qlp:Code:=f77.body.getD .skip
def qkD:List Nat:=[]
theorem qk4:ZF Pg qkD 77 f77 qlp:=zf call77 func77 rfl mixed
def gN(a:waA)(k0:(List Int))(k02:Bool):Option ((List Int)×Bool):=
 if((a.length:Int)==0)=true then
  some (k0,k02)
 else
  (ak ([iF]:List ah) k0 k02).bind λr2=>
  (na (a.length:Int) a r2 k02).bind λr3=>
  (ak ([bA]:List ah) r3.1 r3.2).bind λr4=>
  some (r4,r3.2)
theorem qZ{a:waA}{k0:(List Int)}{k02:Bool}:OG 77 [.bptr 0 0,sl cS a] [] [.cells [.nptr 0 76,sl (cI .u8) k0,.bool k02] [(1,5)]] (gN a k0 k02) (λr=>.tuple []) [] (λr=>[.cells [.nptr 0 76,sl (cI .u8) r.1,.bool r.2] [(1,5)]]):=qk4.g 1<|
 qeP (rfl:bZ (.bptr 0 0)=some [.bptr 0 0]) rfl<|te (qjb cS a)<|tv (kb qev (sl cS a) [])<|cq (kQ.ln a)<|tF tE<|tb λr2 br2=>tb λr3 br3=>tb λr4 br4=>ts<|tv (cU [iF] 1 rfl)<|tc [0] (ai _ br2)<|ts<|tv (kb qev (sl cS a) [])<|cq (kQ.ln a)<|tc [0,1] (B5 _ br3)<|ts<|tv (cU [bA] 1 rfl)<|tc [0] (ai _ br4)<|tE
def AN(s:Jm)(k0:(List Int))(k02:Bool):Option ((List Int)×Bool):=none
theorem FK{s:Jm}{k0:(List Int)}{k02:Bool}:OG 81 [.bptr 0 0,.agg (GM s)] [] [.cells [.nptr 0 76,sl (cI .u8) k0,.bool k02] [(1,5)]] (AN s k0 k02) (λr=>.tuple []) [] (λr=>[.cells [.nptr 0 76,sl (cI .u8) r.1,.bool r.2] [(1,5)]]):=Ug λr h=>by cases(show(none:Option _)=some r from h)
abbrev e9:=(af->Int->Option (Bool×Int))
abbrev e7(R:e9):Prop:=∀(e:af) (k0:Int),OG 104 [.agg (ag e),.func (.func 155) [] [.bptr 0 0]] [] [.cells [.int .i64 k0] []] (R e k0) (λr=>.bool r.1) [] (λr=>[.cells [.int .i64 r.2] []])
noncomputable def qip:Code:=f155.body.getD .skip
def qgN:List Nat:=[]
theorem qhN:ZF Pg qgN 155 f155 qip:=zf call155 func155 rfl mixed
def gQ(a:af)(k0:Int):Option (Bool×Int):=
 some (true,dU (k0+1))
theorem Jf{a:af}{k0:Int}:OG 155 [.agg (ag a),.bptr 0 0] [] [.cells [.int .i64 k0] []] (gQ a k0) (λr=>.bool r.1) [] (λr=>[.cells [.int .i64 r.2] []]):=qhN.g 1<|
 te (dq a)<|ts<|ts<|tE
noncomputable def QF:Code:=f104.body.getD .skip
def qgs:List Nat:=[]
theorem WN:ZF Pg qgs 104 f104 QF:=zf call104 func104 rfl mixed
section
variable(R91:e9)(e:af)(t14:waC)(t15:Int)(t16:Int)(m:Int)
def fC:aF:=aZ 38 [(1,.func (.func 155) [] [.bptr 0 0]),(2,.eptr (ag e)),(14,sl ag t14),(15,.int .i64 t15),(16,.int .i64 t16)] [.cells [.int .i64 m] [],.dead] []
def nN(o:Int⊕(Int)):Exit:=match o with
 |(.inl _)=>.ret
 |(.inr _)=>.exit 0
def iX(o:Int⊕(Int)):aF:=match o with
 |(.inl o)=>aZ 38 [(4,.bool false)] [.cells [.int .i64 o] [],.dead] []
 |(.inr o)=>aZ 38 [(1,.func (.func 155) [] [.bptr 0 0]),(2,.eptr (ag e))] [.cells [.int .i64 o] [],.dead] []
instance iS_syntax_walk_Nodes_1_L1:KS 1 (fC e t14 t15 t16 m):=⟨rfl,(bE (aI (aI vzz (aI (dQ rfl) trivial)) (aI (eX (dN e)) (aI (up (aU dN t14)) (aI vzz (aI vzz vzz)))))),(aI (aI vzz vzz) (aI vzz vzz))⟩
instance iO_syntax_walk_Nodes_1_L1{o:Int⊕(Int)}:KS 1 (iX e o):=match o with
 |(.inl o)=>⟨rfl,(bE (aI vzz vzz)),(aI (aI vzz vzz) (aI vzz vzz))⟩
 |(.inr o)=>⟨rfl,(bE (aI (aI vzz (aI (dQ rfl) trivial)) (aI (eX (dN e)) trivial))),(aI (aI vzz vzz) (aI vzz vzz))⟩
def df:Option ((Int×Int)⊕(Int⊕(Int))):=
 if decide (t16<t15)=true then
  (dh t14 t16).bind λx4=>
  (R91 x4 m).bind λr5=>
  if(!r5.1)=true then
   some (.inr (.inl r5.2))
  else
   some (.inl (dU (t16+1),r5.2))
 else
  some (.inr (.inr m))
def qO:Option (Int⊕(Int)):=loop (λ(zz:Int×Int)=>df R91 t14 t15 zz.1 zz.2) (t16,m)
theorem xG(hR91:e7 R91):OL 1 (cA QF 119) (df R91 t14 t15 t16 m) (λ(zz:Int×Int)=>fC e t14 t15 zz.1 zz.2) nN (iX e) (fC e t14 t15 t16 m):=WN.lx<|
 tF (tb λx4 bx4=>tb λr5 br5=>tv (fj.ia (k:=.i64) bx4)<|tv (bh x4)<|tx RO<|tx (Ay x4)<|tv (jG x4 [])<|tc [0] (hR91 _ _ _ br5)<|tF tE<|tE)<|tE
theorem mN(hR91:e7 R91):OK 1 (.loop (cA QF 119)) (qO R91 t14 t15 t16 m) nN (iX e) (fC e t14 t15 t16 m):=FA λ_=>xG _ _ _ _ _ _ hR91
end
section
variable(R91:e9)(t26:waE)(t27:Int)(t28:Int)(m:Int)
def fD:aF:=aZ 38 [(1,.func (.func 155) [] [.bptr 0 0]),(26,sl bw t26),(27,.int .i64 t27),(28,.int .i64 t28)] [.cells [.int .i64 m] [],.dead] []
def nO(o:Int⊕(Int)):Exit:=match o with
 |(.inl _)=>.ret
 |(.inr _)=>.exit 2
def iY(o:Int⊕(Int)):aF:=match o with
 |(.inl o)=>aZ 38 [(4,.bool false)] [.cells [.int .i64 o] [],.dead] []
 |(.inr o)=>aZ 38 [] [.cells [.int .i64 o] [],.dead] []
instance iS_syntax_walk_Nodes_1_L2:KS 1 (fD t26 t27 t28 m):=⟨rfl,(bE (aI (aI vzz (aI (dQ rfl) trivial)) (aI (up (aU n7 t26)) (aI vzz (aI vzz vzz))))),(aI (aI vzz vzz) (aI vzz vzz))⟩
instance iO_syntax_walk_Nodes_1_L2{o:Int⊕(Int)}:KS 1 (iY o):=match o with
 |(.inl o)=>⟨rfl,(bE (aI vzz vzz)),(aI (aI vzz vzz) (aI vzz vzz))⟩
 |(.inr o)=>⟨rfl,(bE vzz),(aI (aI vzz vzz) (aI vzz vzz))⟩
def dg:Option ((Int×Int)⊕(Int⊕(Int))):=
 if decide (t28<t27)=true then
  (dh t26 t28).bind λx9=>
  (R91 x9.Body m).bind λr10=>
  if(!r10.1)=true then
   some (.inr (.inl r10.2))
  else
   some (.inl (dU (t28+1),r10.2))
 else
  some (.inr (.inr m))
def qP:Option (Int⊕(Int)):=loop (λ(zz:Int×Int)=>dg R91 t26 t27 zz.1 zz.2) (t28,m)
theorem xH(hR91:e7 R91):OL 1 (cA QF 247) (dg R91 t26 t27 t28 m) (λ(zz:Int×Int)=>fD t26 t27 zz.1 zz.2) nO iY (fD t26 t27 t28 m):=WN.lx<|
 tF (tb λx9 bx9=>tb λr10 br10=>tv (fJ.ia (k:=.i64) bx9)<|tv (y0 x9)<|tx N6<|tx (xg x9)<|tv (jG x9.Body [])<|tc [0] (hR91 _ _ _ br10)<|tF tE<|tE)<|tE
theorem mO(hR91:e7 R91):OK 1 (.loop (cA QF 247)) (qP R91 t26 t27 t28 m) nO iY (fD t26 t27 t28 m):=FA λ_=>xH _ _ _ _ _ hR91
end
def ib(R91:e9)(e:af)(k0:Int):Option (Bool×Int):=
 (gQ e k0).bind λr1=>
 if(!r1.1)=true then
  some (false,r1.2)
 else
  (qO R91 e.Kids (e.Kids.length:Int) 0 r1.2).bind λo7=>match o7 with
  |(.inl o7)=>
   some (false,o7)
  | (.inr o7) =>
   (qP R91 e.Alts (e.Alts.length:Int) 0 o7).bind λo12=>match o12 with
   |(.inl o12)=>
    some (false,o12)
   |(.inr o12)=>
    some (true,o12)
theorem AZ(R91:e9)(hR91:e7 R91){e:af}{k0:Int}:OG 104 [.agg (ag e),.func (.func 155) [] [.bptr 0 0]] [] [.cells [.int .i64 k0] []] (ib R91 e k0) (λr=>.bool r.1) [] (λr=>[.cells [.int .i64 r.2] []]):=WN.g 1<|
 tb λr1 br1=>te (dq e)<|tv (bh e)<|tc [0] (Jf _ br1)<|tF tE<|tw (az e)<|cq (fj.ln e.Kids)<|t2 (λo7 bo7=>dm (mN R91 e e.Kids (e.Kids.length:Int) 0 r1.2 hR91 _ bo7)<|tE) λo7 bo7=>dm (mN R91 e e.Kids (e.Kids.length:Int) 0 r1.2 hR91 _ bo7)<|tw (av e)<|cq (fJ.ln e.Alts)<|t2 (λo12 bo12=>dm (mO R91 e.Alts (e.Alts.length:Int) 0 o7 hR91 _ bo12)<|tE) λo12 bo12=>dm (mO R91 e.Alts (e.Alts.length:Int) 0 o7 hR91 _ bo12)<|tE
def kT:((af×Int)->Option (Bool×Int))->(af×Int)->Option (Bool×Int):=λ(rec:(af×Int)->Option (Bool×Int)) (x:af×Int)=>ib (λe k0=>rec (e,k0)) x.1 x.2
def ng(e:af)(k0:Int):Option (Bool×Int):=oE kT (e,k0)
theorem Cp{e:af}{k0:Int}:OG 104 [.agg (ag e),.func (.func 155) [] [.bptr 0 0]] [] [.cells [.int .i64 k0] []] (ng e k0) (λr=>.bool r.1) [] (λr=>[.cells [.int .i64 r.2] []]):=Ug λ_ h=>
 eE (F:=kT) (M:=λ(x:af×Int) (r:Bool×Int)=>C Pg GE 104 [.agg (ag x.1),.func (.func 155) [] [.bptr 0 0]] [] [.cells [.int .i64 x.2] []] (.bool r.1) [] [.cells [.int .i64 r.2] []]) (λrec hrec x r h=>AZ _ (λe k0=>Ug λr h=>hrec (e,k0) r h) _ h) h
noncomputable def qic:Code:=f102.body.getD .skip
def qgq:List Nat:=[]
theorem qhA:ZF Pg qgq 102 f102 qic:=zf call102 func102 rfl mixed
def wa(e:af):Option Int:=
 (ng e 0).bind λr1=>
 some r1.2
theorem L6{e:af}:OV 102 [.agg (ag e)] (wa e) (λr=>.int .i64 r) []:=qhA.v<|
 tb λr1 br1=>te (dq e)<|tx qlL<|ts<|tv (bh e)<|tc [1] (Cp _ br1)<|ts<|tE
abbrev lK:=(af->Option Int)
abbrev lC(R:lK):Prop:=∀(e:af),OV 103 [.agg (ag e)] (R e) (λr=>.int .i64 r) []
noncomputable def YH:Code:=f103.body.getD .skip
def qgr:List Nat:=[]
theorem qdu:ZF Pg qgr 103 f103 YH:=zf call103 func103 rfl mixed
section
variable(R93:lK)(e:af)(t9:waC)(t10:Int)(n:Int)(t11:Int)
def lu:aF:=aZ 35 [(1,.eptr (ag e)),(3,.int .i64 n),(9,sl ag t9),(10,.int .i64 t10),(11,.int .i64 t11)] [.dead] []
def qB(o:Int):aF:=aZ 35 [(1,.eptr (ag e)),(3,.int .i64 o)] [.dead] []
instance iS_syntax_Depth_L1:KS 0 (lu e t9 t10 n t11):=⟨rfl,(bE (aI (eX (dN e)) (aI vzz (aI (up (aU dN t9)) (aI vzz (aI vzz vzz)))))),(aI vzz vzz)⟩
instance iO_syntax_Depth_L1{o:Int}:KS 0 (qB e o):=⟨rfl,(bE (aI (eX (dN e)) (aI vzz vzz))),(aI vzz vzz)⟩
def eM:Option ((Int×Int)⊕(Int)):=
 if decide (t11<t10)=true then
  (dh t9 t11).bind λx2=>
  (R93 x2).bind λr3=>
  some (.inl ((if r3>n then r3 else n),dU (t11+1)))
 else
  some (.inr n)
def oh:Option Int:=loop (λ(zz:Int×Int)=>eM R93 t9 t10 zz.1 zz.2) (n,t11)
theorem FQ(hR93:lC R93):OL 0 (cA YH 119) (eM R93 t9 t10 n t11) (λ(zz:Int×Int)=>lu e t9 t10 zz.1 zz.2) (λ_=>.exit 0) (qB e) (lu e t9 t10 n t11):=qdu.lx<|
 tF (tb λx2 bx2=>tb λr3 br3=>tv (fj.ia (k:=.i64) bx2)<|tv (bh x2)<|tx RO<|tx (Ay x2)<|tv (jG x2 [])<|cJ (hR93 _ _ br3)<|tE)<|tE
theorem Hn(hR93:lC R93):OJ 0 (.loop (cA YH 119)) (oh R93 t9 t10 n t11) (.exit 0) (qB e) (lu e t9 t10 n t11):=Ke λ_=>FQ _ _ _ _ _ _ hR93
end
section
variable(R93:lK)(t21:waE)(t22:Int)(n:Int)(t23:Int)
def lw:aF:=aZ 35 [(3,.int .i64 n),(21,sl bw t21),(22,.int .i64 t22),(23,.int .i64 t23)] [.dead] []
def qC(o:Int):aF:=aZ 35 [(3,.int .i64 o)] [.dead] []
instance iS_syntax_Depth_L2:KS 0 (lw t21 t22 n t23):=⟨rfl,(bE (aI vzz (aI (up (aU n7 t21)) (aI vzz (aI vzz vzz))))),(aI vzz vzz)⟩
instance iO_syntax_Depth_L2{o:Int}:KS 0 (qC o):=⟨rfl,(bE (aI vzz vzz)),(aI vzz vzz)⟩
def eO:Option ((Int×Int)⊕(Int)):=
 if decide (t23<t22)=true then
  (dh t21 t23).bind λx6=>
  (R93 x6.Body).bind λr7=>
  some (.inl ((if r7>n then r7 else n),dU (t23+1)))
 else
  some (.inr n)
def ol:Option Int:=loop (λ(zz:Int×Int)=>eO R93 t21 t22 zz.1 zz.2) (n,t23)
theorem FT(hR93:lC R93):OL 0 (cA YH 247) (eO R93 t21 t22 n t23) (λ(zz:Int×Int)=>lw t21 t22 zz.1 zz.2) (λ_=>.exit 2) qC (lw t21 t22 n t23):=qdu.lx<|
 tF (tb λx6 bx6=>tb λr7 br7=>tv (fJ.ia (k:=.i64) bx6)<|tv (y0 x6)<|tx N6<|tx (xg x6)<|tv (jG x6.Body [])<|cJ (hR93 _ _ br7)<|tE)<|tE
theorem Ho(hR93:lC R93):OJ 0 (.loop (cA YH 247)) (ol R93 t21 t22 n t23) (.exit 2) qC (lw t21 t22 n t23):=Ke λ_=>FT _ _ _ _ _ hR93
end
def qA(R93:lK)(e:af):Option Int:=
 (oh R93 e.Kids (e.Kids.length:Int) 0 0).bind λo4=>
 (ol R93 e.Alts (e.Alts.length:Int) o4 0).bind λo8=>
 some (dU (o8+1))
theorem Kv(R93:lK)(hR93:lC R93){e:af}:OV 103 [.agg (ag e)] (qA R93 e) (λr=>.int .i64 r) []:=qdu.v<|
 tb λo4 bo4=>tb λo8 bo8=>te (dq e)<|tw (az e)<|cq (fj.ln e.Kids)<|dm (Hn R93 e e.Kids (e.Kids.length:Int) 0 0 hR93 _ bo4)<|tw (av e)<|cq (fJ.ln e.Alts)<|dm (Ho R93 e.Alts (e.Alts.length:Int) o4 0 hR93 _ bo8)<|tE
def xx:(af->Option Int)->(af)->Option Int:=λ(rec:af->Option Int) (x:af)=>qA (λe=>rec e) x
def Cm(e:af):Option Int:=oE xx e
theorem L5{e:af}:OV 103 [.agg (ag e)] (Cm e) (λr=>.int .i64 r) []:=IJ λ_ h=>
 eE (F:=xx) (M:=λ(x:af) (r:Int)=>CC Pg GE 103 [.agg (ag x)] (.int .i64 r) []) (λrec hrec x r h=>Kv _ (λe=>IJ λr h=>hrec e r h) _ h) h
abbrev e8:=(af->Int->Option (Bool×Int))
abbrev eZ(R:e8):Prop:=∀(e:af) (k0:Int),OG 104 [.agg (ag e),.func (.func 105) [] [.bptr 0 0]] [] [.cells [.int .i64 k0] []] (R e k0) (λr=>.bool r.1) [] (λr=>[.cells [.int .i64 r.2] []])
noncomputable def qbi:Code:=f156.body.getD .skip
def qgO:List Nat:=[]
theorem qa9:ZF Pg qgO 156 f156 qbi:=zf call156 func156 rfl mixed
section
variable(t4:Int)
def rR:Option Bool:=
 if(t4==1)=true then
  some (t4==1)
 else
  some (t4==2)
theorem F0:OJ 0 (cA qbi 54) (rR t4) .normal (λo=>aZ 56 [(2,.bptr 0 0),(4,.int .i64 t4),(5,.bool o)] [.cells [.bool false,.bool false,.int .i64 0,.int .i64 0,.bool false,.bool false,.int .i64 0,.int .i64 0,.bool false] []] []) (aZ 56 [(2,.bptr 0 0),(4,.int .i64 t4)] [.cells [.bool false,.bool false,.int .i64 0,.int .i64 0,.bool false,.bool false,.int .i64 0,.int .i64 0,.bool false] []] []):=qa9.j<|
 tF tE<|tE
end
section
variable(t4:Int)
def rS:Option Bool:=
 if(t4==10)=true then
  some (t4==10)
 else if(t4==11)=true then
  some (t4==11)
 else if(t4==12)=true then
  some (t4==12)
 else if(t4==13)=true then
  some (t4==13)
 else if(t4==14)=true then
  some (t4==14)
 else if(t4==16)=true then
  some (t4==16)
 else if(t4==17)=true then
  some (t4==17)
 else if(t4==18)=true then
  some (t4==18)
 else if(t4==19)=true then
  some (t4==19)
 else if(t4==20)=true then
  some (t4==20)
 else
  some (t4==24)
theorem F2:OJ 0 (cA qbi 3670014) (rS t4) .normal (λo=>aZ 56 [(2,.bptr 0 0),(4,.int .i64 t4),(30,.bool o)] [.cells [.bool false,.bool false,.int .i64 0,.int .i64 0,.bool false,.bool false,.int .i64 0,.int .i64 0,.bool false] []] []) (aZ 56 [(2,.bptr 0 0),(4,.int .i64 t4)] [.cells [.bool false,.bool false,.int .i64 0,.int .i64 0,.bool false,.bool false,.int .i64 0,.int .i64 0,.bool false] []] []):=qa9.j<|
 tF tE<|tF tE<|tF tE<|tF tE<|tF tE<|tF tE<|tF tE<|tF tE<|tF tE<|tF tE<|tE
end
section
variable(t4:Int)
def rT:Option Bool:=
 if(t4==15)=true then
  some (t4==15)
 else if(t4==21)=true then
  some (t4==21)
 else if(t4==22)=true then
  some (t4==22)
 else
  some (t4==23)
theorem F7:OJ 0 (cA qbi 14680062) (rT t4) .normal (λo=>aZ 56 [(2,.bptr 0 0),(4,.int .i64 t4),(43,.bool o)] [.cells [.bool false,.bool false,.int .i64 0,.int .i64 0,.bool false,.bool false,.int .i64 0,.int .i64 0,.bool false] []] []) (aZ 56 [(2,.bptr 0 0),(4,.int .i64 t4)] [.cells [.bool false,.bool false,.int .i64 0,.int .i64 0,.bool false,.bool false,.int .i64 0,.int .i64 0,.bool false] []] []):=qa9.j<|
 tF tE<|tF tE<|tF tE<|tE
end
def nJ(op:Int):Option (au×Bool):=
 (rR op).bind λo2=>
 if o2=true then
  some ((⟨true,false,0,0,false,false,0,0,false⟩:au),true)
 else if(op==3)=true then
  some ((⟨false,true,0,0,false,false,0,0,false⟩:au),true)
 else if(op==4)=true then
  some ((⟨false,true,0,6,false,false,0,1073741824,true⟩:au),true)
 else if(op==5)=true then
  some ((⟨false,true,1,6,false,false,0,1073741824,true⟩:au),true)
 else if(op==6)=true then
  some ((⟨false,false,1,1,true,false,0,0,false⟩:au),true)
 else if(op==7)=true then
  some ((⟨false,true,2,2,false,false,0,1,true⟩:au),true)
 else if(op==8)=true then
  some ((⟨false,false,3,3,false,false,0,0,false⟩:au),true)
 else if(op==9)=true then
  some ((⟨false,false,1,1,false,true,0,0,false⟩:au),true)
 else
  (rS op).bind λo21=>
  if o21=true then
   some ((⟨false,false,2,2,false,false,0,0,false⟩:au),true)
  else
   (rT op).bind λo26=>
   if o26=true then
    some ((⟨false,false,1,1,false,false,0,0,false⟩:au),true)
   else if(op==25)=true then
    some ((⟨false,true,2,7,false,false,0,0,false⟩:au),true)
   else if(op==26)=true then
    some ((⟨false,false,1,1,false,false,1,1,true⟩:au),true)
   else
    some ((⟨false,false,0,0,false,false,0,0,false⟩:au),false)
theorem Kx{op:Int}:OV 156 [.int .i64 op] (nJ op) (λr=>.tuple [.agg (aC r.1),.bool r.2]) []:=qa9.v<|
 tb λo2 bo2=>tx qc9<|lB 2<|dm (F0 op _ bo2)<|tF (tv (H1 true)<|tx (ch (⟨true,false,0,0,false,false,0,0,false⟩:au))<|Jn λq=>aI (va6 PVal.tuple (dI (ct (⟨true,false,0,0,false,false,0,0,false⟩:au)) (dI (rP (.bool true)) (rfl:([]:List PVal)=[])))) q.2)<|tF (tv (H3 true)<|tx (ch (⟨false,true,0,0,false,false,0,0,false⟩:au))<|Jn λq=>aI (va6 PVal.tuple (dI (ct (⟨false,true,0,0,false,false,0,0,false⟩:au)) (dI (rP (.bool true)) (rfl:([]:List PVal)=[])))) q.2)<|tF (tv (Af true 6 true 1073741824)<|tx (ch (⟨false,true,0,6,false,false,0,1073741824,true⟩:au))<|Jn λq=>aI (va6 PVal.tuple (dI (ct (⟨false,true,0,6,false,false,0,1073741824,true⟩:au)) (dI (rP (.bool true)) (rfl:([]:List PVal)=[])))) q.2)<|tF (tv (mH true 1 6 true 1073741824)<|tx (ch (⟨false,true,1,6,false,false,0,1073741824,true⟩:au))<|Jn λq=>aI (va6 PVal.tuple (dI (ct (⟨false,true,1,6,false,false,0,1073741824,true⟩:au)) (dI (rP (.bool true)) (rfl:([]:List PVal)=[])))) q.2)<|tF (tv (C6 true 1 1)<|tx (ch (⟨false,false,1,1,true,false,0,0,false⟩:au))<|Jn λq=>aI (va6 PVal.tuple (dI (ct (⟨false,false,1,1,true,false,0,0,false⟩:au)) (dI (rP (.bool true)) (rfl:([]:List PVal)=[])))) q.2)<|tF (tv (mH true 2 2 true 1)<|tx (ch (⟨false,true,2,2,false,false,0,1,true⟩:au))<|Jn λq=>aI (va6 PVal.tuple (dI (ct (⟨false,true,2,2,false,false,0,1,true⟩:au)) (dI (rP (.bool true)) (rfl:([]:List PVal)=[])))) q.2)<|tF (tv (mT 3 3)<|tx (ch (⟨false,false,3,3,false,false,0,0,false⟩:au))<|Jn λq=>aI (va6 PVal.tuple (dI (ct (⟨false,false,3,3,false,false,0,0,false⟩:au)) (dI (rP (.bool true)) (rfl:([]:List PVal)=[])))) q.2)<|tF (tv (C7 true 1 1)<|tx (ch (⟨false,false,1,1,false,true,0,0,false⟩:au))<|Jn λq=>aI (va6 PVal.tuple (dI (ct (⟨false,false,1,1,false,true,0,0,false⟩:au)) (dI (rP (.bool true)) (rfl:([]:List PVal)=[])))) q.2)<|tb λo21 bo21=>lB 0<|dm (F2 op _ bo21)<|tF (tv (mT 2 2)<|tx (ch (⟨false,false,2,2,false,false,0,0,false⟩:au))<|Jn λq=>aI (va6 PVal.tuple (dI (ct (⟨false,false,2,2,false,false,0,0,false⟩:au)) (dI (rP (.bool true)) (rfl:([]:List PVal)=[])))) q.2)<|tb λo26 bo26=>lB 0<|dm (F7 op _ bo26)<|tF (tv (mT 1 1)<|tx (ch (⟨false,false,1,1,false,false,0,0,false⟩:au))<|Jn λq=>aI (va6 PVal.tuple (dI (ct (⟨false,false,1,1,false,false,0,0,false⟩:au)) (dI (rP (.bool true)) (rfl:([]:List PVal)=[])))) q.2)<|tF (tv (C5 true 2 7)<|tx (ch (⟨false,true,2,7,false,false,0,0,false⟩:au))<|Jn λq=>aI (va6 PVal.tuple (dI (ct (⟨false,true,2,7,false,false,0,0,false⟩:au)) (dI (rP (.bool true)) (rfl:([]:List PVal)=[])))) q.2)<|tF (tv (xS 1 1 true 1 1)<|tx (ch (⟨false,false,1,1,false,false,1,1,true⟩:au))<|Jn λq=>aI (va6 PVal.tuple (dI (ct (⟨false,false,1,1,false,false,1,1,true⟩:au)) (dI (rP (.bool true)) (rfl:([]:List PVal)=[])))) q.2)<|tv (H4)<|tx (ch (⟨false,false,0,0,false,false,0,0,false⟩:au))<|Jn λq=>aI (va6 PVal.tuple (dI (ct (⟨false,false,0,0,false,false,0,0,false⟩:au)) (dI (rP (.bool false)) (rfl:([]:List PVal)=[])))) q.2
noncomputable def qiD:Code:=f208.body.getD .skip
def qhc:List Nat:=[]
theorem qh2:ZF Pg qhc 208 f208 qiD:=zf call208 func208 rfl mixed
def uA(a:cf):Option Bool:=
 some (decide ((a.Names.length:Int)>6))
theorem Hq{a:cf}:OV 208 [.agg (bw a)] (uA a) (λr=>.bool r) []:=qh2.v<|
 te (qcb a)<|tw (gD a)<|cq (kQ.ln a.Names)<|tE
noncomputable def qdQ:Code:=f236.body.getD .skip
def qhp:List Nat:=[10,17]
theorem qfd:ZF Pg qhp 236 f236 qdQ:=zf call236 func236 rfl mixed
section
variable(s:waE)(t7:Int)(t8:Int)
def fp:aF:=aZ 19 [(0,sl bw s),(1,.func (.func 208) [] []),(7,.int .i64 t7),(8,.int .i64 t8)] [] []
def jP(o:Int⊕(Unit)):Exit:=match o with
 |(.inl _)=>.ret
 |(.inr _)=>.exit 0
def jQ(o:Int⊕(Unit)):aF:=match o with
 |(.inl o)=>aZ 19 [(4,.int .i64 o)] [] []
 |(.inr o)=>aZ 19 [] [] []
def dl:Option (Int⊕(Int⊕(Unit))):=
 if decide (t8<t7)=true then
  (dh s t8).bind λx2=>
  (uA x2).bind λr3=>
  if r3=true then
   some (.inr (.inl t8))
  else
   some (.inl (dU (t8+1)))
 else
  some (.inr (.inr ()))
def f0:Option (Int⊕(Unit)):=loop (λ(zz:Int)=>dl s t7 zz) t8
theorem qx:OL 0 (cA qdQ 55) (dl s t7 t8) (λ(zz:Int)=>fp s t7 zz) jP jQ (fp s t7 t8):=qfd.l<|
 tF (tb λx2 bx2=>tb λr3 br3=>tv (fJ.ia (k:=.i64) bx2)<|tv (y0 x2)<|cJ (Hq _ br3)<|tF tE<|tE)<|tE
theorem i7:OK 0 (.loop (cA qdQ 55)) (f0 s t7 t8) jP jQ (fp s t7 t8):=FA λ_=>qx _ _ _
end
def ie(s:waE):Option Int:=
 (f0 s (s.length:Int) 0).bind λo5=>match o5 with
 |(.inl o5)=>
  some o5
 |(.inr o5)=>
  some (-1)
theorem uz{s:waE}:OV 236 [sl bw s,.func (.func 208) [] []] (ie s) (λr=>.int .i64 r) []:=qfd.v<|
 cq (fJ.ln s)<|t2 (λo5 bo5=>dm (i7 s (s.length:Int) 0 _ bo5)<|tE) λo5 bo5=>dm (i7 s (s.length:Int) 0 _ bo5)<|tE
noncomputable def qiC:Code:=f207.body.getD .skip
def qhb:List Nat:=[]
theorem qh1:ZF Pg qhb 207 f207 qiC:=zf call207 func207 rfl mixed
def ej(s:waE):Option Bool:=
 (ie s).bind λr1=>
 some (decide (r1>=0))
theorem qR{s:waE}:OV 207 [sl bw s,.func (.func 208) [] []] (ej s) (λr=>.bool r) []:=qh1.v<|
 tb λr1 br1=>cJ (uz _ br1)<|tE
noncomputable def qdG:Code:=f157.body.getD .skip
def qgP:List Nat:=[]
theorem qdw:ZF Pg qgP 157 f157 qdG:=zf call157 func157 rfl mixed
section
variable(e:af)(s:au)
def rL:Option Bool:=
 if decide ((e.Kids.length:Int)<s.least)=true then
  some true
 else if decide ((e.Kids.length:Int)>s.most)=true then
  some true
 else if decide ((e.Types.length:Int)<s.typesLeast)=true then
  some true
 else
  some (decide ((e.Types.length:Int)>s.typesMost))
theorem FV:OJ 0 (cA qdG 12) (rL e s) .normal (λo=>aZ 69 [(2,.eptr (ag e)),(3,.eptr (aC s)),(34,.bool o)] [.dead,.dead] []) (aZ 69 [(2,.eptr (ag e)),(3,.eptr (aC s))] [.dead,.dead] []):=qdw.j<|
 have pp2:=λ{X Y Z} (r:PV _ X Y Z)=>tw (az e)<|cq (fj.ln e.Kids)<|tw (xX s)<|r;tf (λc1=>pp2<|tg 7 c1<|tE) λc1=>have pp4:=λ{X Y Z} (r:PV _ X Y Z)=>pp2<|tg 7 c1<|tw (az e)<|cq (fj.ln e.Kids)<|tw (xY s)<|r;tf (λc3=>pp4<|tg 15 c3<|tE) λc3=>have pp6:=λ{X Y Z} (r:PV _ X Y Z)=>pp4<|tg 15 c3<|tw (aw e)<|cq (dy.ln e.Types)<|tw (ya s)<|r;tf (λc5=>pp6<|tg 23 c5<|tE) λc5=>pp6<|tg 23 c5<|tw (aw e)<|cq (dy.ln e.Types)<|tw (yb s)<|tE
end
section
variable(e:af)(s:au)
def rM:Option Bool:=
 if s.params=true then
  if decide ((e.Params.length:Int)<1)=true then
   some true
  else if decide ((e.Params.length:Int)>6)=true then
   some true
  else if s.alts=true then
   if decide ((e.Alts.length:Int)<1)=true then
    some true
   else
    some (decide ((e.Alts.length:Int)>8))
  else
   some false
 else if s.alts=true then
  if decide ((e.Alts.length:Int)<1)=true then
   some true
  else
   some (decide ((e.Alts.length:Int)>8))
 else
  some false
theorem FW:OJ 0 (cA qdG 28) (rM e s) .normal (λo=>aZ 69 [(2,.eptr (ag e)),(64,.bool o)] [.dead,.dead] []) (aZ 69 [(2,.eptr (ag e)),(3,.eptr (aC s))] [.dead,.dead] []):=qdw.j<|
 have pp10:=λ{X Y Z} (r:PV _ X Y Z)=>tw (xZ s)<|r;tf (λc9=>have pp12:=λ{X Y Z} (r:PV _ X Y Z)=>pp10<|tg 3 c9<|tw (aL e)<|cq (pl.ln e.Params)<|r;tf (λc11=>pp12<|tg 8 c11<|tE) λc11=>have pp14:=λ{X Y Z} (r:PV _ X Y Z)=>pp12<|tg 8 c11<|tw (aL e)<|cq (pl.ln e.Params)<|r;tf (λc13=>pp14<|tg 15 c13<|tE) λc13=>have pp16:=λ{X Y Z} (r:PV _ X Y Z)=>pp14<|tg 15 c13<|tw (mI s)<|r;tf (λc15=>have pp18:=λ{X Y Z} (r:PV _ X Y Z)=>pp16<|tg 18 c15<|tw (av e)<|cq (fJ.ln e.Alts)<|r;tf (λc17=>pp18<|tg 23 c17<|tE) λc17=>pp18<|tg 23 c17<|tw (av e)<|cq (fJ.ln e.Alts)<|tE) λc15=>pp16<|tg 18 c15<|tE) λc9=>have pp20:=λ{X Y Z} (r:PV _ X Y Z)=>pp10<|tg 3 c9<|tw (mI s)<|r;tf (λc19=>have pp22:=λ{X Y Z} (r:PV _ X Y Z)=>pp20<|tg 18 c19<|tw (av e)<|cq (fJ.ln e.Alts)<|r;tf (λc21=>pp22<|tg 23 c21<|tE) λc21=>pp22<|tg 23 c21<|tw (av e)<|cq (fJ.ln e.Alts)<|tE) λc19=>pp20<|tg 18 c19<|tE
end
def sH(e:af)(s:au):Option Bool:=
 (rL e s).bind λo7=>
 if o7=true then
  some false
 else
  (rM e s).bind λo23=>
  if o23=true then
   some false
  else
   (ej e.Alts).bind λr25=>
   some (!r25)
theorem Kw{e:af}{s:au}:OV 157 [.agg (ag e),.agg (aC s)] (sH e s) (λr=>.bool r) []:=qdw.v<|
 tb λo7 bo7=>te (dq e)<|te (CJ s)<|lB 1<|dm (FV e s _ bo7)<|tF tE<|tb λo23 bo23=>lB 1<|dm (FW e s _ bo23)<|tF tE<|tb λr25 br25=>tw (av e)<|cJ (qR _ br25)<|tE
noncomputable def qiq:Code:=f158.body.getD .skip
def qgQ:List Nat:=[]
theorem qhO:ZF Pg qgQ 158 f158 qiq:=zf call158 func158 rfl mixed
def NJ(n:Int):Option Bool:=
 if decide (n>=(-1000000000000))=true then
  some (decide (n<=1000000000000))
 else
  some false
theorem P1{n:Int}:OV 158 [.int .i64 n] (NJ n) (λr=>.bool r) []:=qhO.v<|
 tf (λc1=>tg 3 c1<|tE) λc1=>tg 3 c1<|tE
noncomputable def qdL:Code:=f209.body.getD .skip
def qhd:List Nat:=[12,18]
theorem qe8:ZF Pg qhd 209 f209 qdL:=zf call209 func209 rfl mixed
section
variable(t6:(List cc))(t7:Int)(out:waA)(t8:Int)
def ly:aF:=aZ 19 [(3,sl cS out),(6,sl bj t6),(7,.int .i64 t7),(8,.int .i64 t8)] [] [((3,0),9)]
def qE(o:waA):aF:=aZ 19 [(3,sl cS o)] [] [((3,0),9)]
instance iS_syntax_bound_L1:KS 0 (ly t6 t7 out t8):=⟨rfl,(bE (aI (up (aU Mf out)) (aI (up (aU rt t6)) (aI vzz (aI vzz vzz))))),vzz⟩
instance iO_syntax_bound_L1{o:waA}:KS 0 (qE o):=⟨rfl,(bE (aI (up (aU Mf o)) trivial)),vzz⟩
def eP:Option ((waA×Int)⊕(waA)):=
 if decide (t8<t7)=true then
  (dh t6 t8).bind λx2=>
  (app out ([x2.Name]:List ah)).bind λl3=>
  some (.inl (l3,dU (t8+1)))
 else
  some (.inr out)
def om:Option waA:=loop (λ(zz:waA×Int)=>eP t6 t7 zz.1 zz.2) (out,t8)
theorem FU:OL 0 (cA qdL 119) (eP t6 t7 out t8) (λ(zz:waA×Int)=>ly t6 t7 zz.1 zz.2) (λ_=>.exit 0) qE (ly t6 t7 out t8):=qe8.lx<|
 tF (tb λx2 bx2=>tb λl3 bl3=>tv (pl.ia (k:=.i64) bx2)<|tv (JS x2)<|tx qar<|tx (G3 x2)<|ts<|tv (cU [x2.Name] 1 rfl)<|tv (kQ.ap bl3)<|tE)<|tE
theorem Hp:OJ 0 (.loop (cA qdL 119)) (om t6 t7 out t8) (.exit 0) qE (ly t6 t7 out t8):=Ke λ_=>FU _ _ _ _
end
def qD(a:(List cc)):Option waA:=
 (om a (a.length:Int) ([]:List ah) 0).bind λo4=>
 some o4
theorem CX{a:(List cc)}:OV 209 [sl bj a] (qD a) (λr=>sl cS r) [(0,9)]:=qe8.v<|
 tb λo4 bo4=>cq (pl.ln a)<|dm (Hp a (a.length:Int) ([]:List ah) 0 _ bo4)<|tE
noncomputable def qdR:Code:=f237.body.getD .skip
def qhq:List Nat:=[]
theorem qfe:ZF Pg qhq 237 f237 qdR:=zf call237 func237 rfl mixed
section
variable(t7:waA)(t8:Int)(t9:Int)(m0:(List (ah×Bool)))
def mX:aF:=aZ 19 [(3,.mapr 0),(7,sl cS t7),(8,.int .i64 t8),(9,.int .i64 t9)] [.map (Ia PVal.bool m0)] []
def uU(o:((List (ah×Bool)))⊕((List (ah×Bool)))):Exit:=match o with
 |(.inl _)=>.ret
 |(.inr _)=>.exit 0
def uV(o:((List (ah×Bool)))⊕((List (ah×Bool)))):aF:=match o with
 |(.inl o)=>aZ 19 [(2,.bool false)] [.map (Ia PVal.bool o)] []
 |(.inr o)=>aZ 19 [] [.map (Ia PVal.bool o)] []
def bP:Option ((Int×(List (ah×Bool)))⊕(((List (ah×Bool)))⊕((List (ah×Bool))))):=
 if decide (t9<t8)=true then
  (dh t7 t9).bind λx2=>
  if((D7 m0 x2).getD false)=true then
   some (.inr (.inl m0))
  else
   some (.inl (dU (t9+1),LE m0 x2 true))
 else
  some (.inr (.inr m0))
def p5:Option (((List (ah×Bool)))⊕((List (ah×Bool)))):=loop (λ(zz:Int×(List (ah×Bool)))=>bP t7 t8 zz.1 zz.2) (t9,m0)
theorem C8:OL 0 (cA qdR 119) (bP t7 t8 t9 m0) (λ(zz:Int×(List (ah×Bool)))=>mX t7 t8 zz.1 zz.2) uU uV (mX t7 t8 t9 m0):=qfe.l<|
 tF (tb λx2 bx2=>tv (kQ.ia (k:=.i64) bx2)<|tv (kb qct (.str x2) [])<|tv (qd9 (f:=PVal.bool) underlying237 underlying9 ql0 m0 x2)<|tF tE<|qlO (qea (f:=PVal.bool) underlying237 underlying9 m0 x2 true)<|tE)<|tE
theorem tn:OK 0 (.loop (cA qdR 119)) (p5 t7 t8 t9 m0) uU uV (mX t7 t8 t9 m0):=FA λ_=>C8 _ _ _ _
end
def pZ(a:waA):Option Bool:=
 (p5 a (a.length:Int) 0 ([]:List (ah×Bool))).bind λo4=>match o4 with
 |(.inl o4)=>
  some false
 |(.inr o4)=>
  some true
theorem Iv{a:waA}:OV 237 [sl cS a] (pZ a) (λr=>.bool r) []:=qfe.v<|
 cq (kQ.ln a)<|t2 (λo4 bo4=>dm (tn a (a.length:Int) 0 ([]:List (ah×Bool)) _ bo4)<|tE) λo4 bo4=>dm (tn a (a.length:Int) 0 ([]:List (ah×Bool)) _ bo4)<|tE
noncomputable def qiF:Code:=f210.body.getD .skip
def qhe:List Nat:=[]
theorem qh3:ZF Pg qhe 210 f210 qiF:=zf call210 func210 rfl mixed
def mE(a:waA):Option Bool:=
 (pZ a).bind λr1=>
 some (!r1)
theorem uE{a:waA}:OV 210 [sl cS a] (mE a) (λr=>.bool r) []:=qh3.v<|
 tb λr1 br1=>cJ (Iv _ br1)<|tE
noncomputable def qdM:Code:=f211.body.getD .skip
def qhf:List Nat:=[12,18]
theorem qe9:ZF Pg qhf 211 f211 qdM:=zf call211 func211 rfl mixed
section
variable(t6:waE)(t7:Int)(out:waA)(t8:Int)
def fx:aF:=aZ 19 [(3,sl cS out),(6,sl bw t6),(7,.int .i64 t7),(8,.int .i64 t8)] [] [((3,0),9)]
def iU(o:waA):aF:=aZ 19 [(3,sl cS o)] [] [((3,0),9)]
instance iS_syntax_constructors_L1:KS 0 (fx t6 t7 out t8):=⟨rfl,(bE (aI (up (aU Mf out)) (aI (up (aU n7 t6)) (aI vzz (aI vzz vzz))))),vzz⟩
instance iO_syntax_constructors_L1{o:waA}:KS 0 (iU o):=⟨rfl,(bE (aI (up (aU Mf o)) trivial)),vzz⟩
def db:Option ((waA×Int)⊕(waA)):=
 if decide (t8<t7)=true then
  (dh t6 t8).bind λx2=>
  (app out ([x2.Con]:List ah)).bind λl3=>
  some (.inl (l3,dU (t8+1)))
 else
  some (.inr out)
def gk:Option waA:=loop (λ(zz:waA×Int)=>db t6 t7 zz.1 zz.2) (out,t8)
theorem xy:OL 0 (cA qdM 119) (db t6 t7 out t8) (λ(zz:waA×Int)=>fx t6 t7 zz.1 zz.2) (λ_=>.exit 0) iU (fx t6 t7 out t8):=qe9.lx<|
 tF (tb λx2 bx2=>tb λl3 bl3=>tv (fJ.ia (k:=.i64) bx2)<|tv (y0 x2)<|tx N6<|tx (xg x2)<|ts<|tv (cU [x2.Con] 1 rfl)<|tv (kQ.ap bl3)<|tE)<|tE
theorem yj:OJ 0 (.loop (cA qdM 119)) (gk t6 t7 out t8) (.exit 0) iU (fx t6 t7 out t8):=Ke λ_=>xy _ _ _ _
end
def jq(a:waE):Option waA:=
 (gk a (a.length:Int) ([]:List ah) 0).bind λo4=>
 some o4
theorem Cn{a:waE}:OV 211 [sl bw a] (jq a) (λr=>sl cS r) [(0,9)]:=qe9.v<|
 tb λo4 bo4=>cq (fJ.ln a)<|dm (yj a (a.length:Int) ([]:List ah) 0 _ bo4)<|tE
noncomputable def qiH:Code:=f213.body.getD .skip
def qhh:List Nat:=[]
theorem qh5:ZF Pg qhh 213 f213 qiH:=zf call213 func213 rfl mixed
def xz(a:ah):Option Bool:=
 (lQ a).bind λr1=>
 some (r1 !=0)
theorem Jg{a:ah}:OV 213 [.str a] (xz a) (λr=>.bool r) []:=qh5.v<|
 tb λr1 br1=>cJ (iL _ br1)<|tE
noncomputable def qdS:Code:=f238.body.getD .skip
def qhr:List Nat:=[10,17]
theorem qff:ZF Pg qhr 238 f238 qdS:=zf call238 func238 rfl mixed
section
variable(s:waA)(t7:Int)(t8:Int)
def fL:aF:=aZ 19 [(0,sl cS s),(1,.func (.func 213) [] []),(7,.int .i64 t7),(8,.int .i64 t8)] [] []
def j1(o:Int⊕(Unit)):Exit:=match o with
 |(.inl _)=>.ret
 |(.inr _)=>.exit 0
def j2(o:Int⊕(Unit)):aF:=match o with
 |(.inl o)=>aZ 19 [(4,.int .i64 o)] [] []
 |(.inr o)=>aZ 19 [] [] []
def du:Option (Int⊕(Int⊕(Unit))):=
 if decide (t8<t7)=true then
  (dh s t8).bind λx2=>
  (xz x2).bind λr3=>
  if r3=true then
   some (.inr (.inl t8))
  else
   some (.inl (dU (t8+1)))
 else
  some (.inr (.inr ()))
def gj:Option (Int⊕(Unit)):=loop (λ(zz:Int)=>du s t7 zz) t8
theorem qS:OL 0 (cA qdS 55) (du s t7 t8) (λ(zz:Int)=>fL s t7 zz) j1 j2 (fL s t7 t8):=qff.l<|
 tF (tb λx2 bx2=>tb λr3 br3=>tv (kQ.ia (k:=.i64) bx2)<|tv (kb qct (.str x2) [])<|cJ (Jg _ br3)<|tF tE<|tE)<|tE
theorem jR:OK 0 (.loop (cA qdS 55)) (gj s t7 t8) j1 j2 (fL s t7 t8):=FA λ_=>qS _ _ _
end
def iS(s:waA):Option Int:=
 (gj s (s.length:Int) 0).bind λo5=>match o5 with
 |(.inl o5)=>
  some o5
 |(.inr o5)=>
  some (-1)
theorem v7{s:waA}:OV 238 [sl cS s,.func (.func 213) [] []] (iS s) (λr=>.int .i64 r) []:=qff.v<|
 cq (kQ.ln s)<|t2 (λo5 bo5=>dm (jR s (s.length:Int) 0 _ bo5)<|tE) λo5 bo5=>dm (jR s (s.length:Int) 0 _ bo5)<|tE
noncomputable def qiG:Code:=f212.body.getD .skip
def qhg:List Nat:=[]
theorem qh4:ZF Pg qhg 212 f212 qiG:=zf call212 func212 rfl mixed
def eA(s:waA):Option Bool:=
 (iS s).bind λr1=>
 some (decide (r1>=0))
theorem rH{s:waA}:OV 212 [sl cS s,.func (.func 213) [] []] (eA s) (λr=>.bool r) []:=qh4.v<|
 tb λr1 br1=>cJ (v7 _ br1)<|tE
noncomputable def YL:Code:=f159.body.getD .skip
def qgR:List Nat:=[14,36]
theorem qba:ZF Pg qgR 159 f159 YL:=zf call159 func159 rfl mixed
section
variable(e:af)(s:au)(v:waA)
def uB:Option waA:=
 if s.name=true then
  (app v ([e.Name]:List ah)).bind λl3=>
  some l3
 else
  some v
theorem Hr:OJ 0 (cA YL 14) (uB e s v) .normal (λo=>aZ 54 [(2,.eptr (ag e)),(5,sl cS o)] [.dead,.dead] [((5,0),9)]) (aZ 54 [(2,.eptr (ag e)),(3,.eptr (aC s)),(5,sl cS v)] [.dead,.dead] [((5,0),9)]):=qba.j<|
 tw (xW s)<|tF (tb λl3 bl3=>tw (dn e)<|tv (cU [e.Name] 1 rfl)<|tv (kQ.ap bl3)<|tE)<|tE
end
section
variable(e:af)(v:waA)
def uC:Option Bool:=
 (qD e.Params).bind λr5=>
 (mE r5).bind λr6=>
 if r6=true then
  some true
 else
  (jq e.Alts).bind λr9=>
  (mE r9).bind λr10=>
  some r10
theorem Hs:OJ 0 (cA YL 30) (uC e) .normal (λo=>aZ 54 [(2,.eptr (ag e)),(5,sl cS v),(6,.bool o)] [.dead,.dead] [((5,0),9)]) (aZ 54 [(2,.eptr (ag e)),(5,sl cS v)] [.dead,.dead] [((5,0),9)]):=qba.j<|
 tb λr5 br5=>tb λr6 br6=>have pp8:=λ{X Y Z} (r:PV _ X Y Z)=>tw (aL e)<|cJ (CX _ br5)<|cJ (uE _ br6)<|r;tf (λc7=>pp8<|tg 5 c7<|tE) λc7=>tb λr9 br9=>tb λr10 br10=>pp8<|tg 5 c7<|tw (av e)<|cJ (Cn _ br9)<|cJ (uE _ br10)<|tE
end
section
variable(t30:waE)(t31:Int)(v:waA)(doubled:Bool)(t32:Int)
def lz:aF:=aZ 54 [(5,sl cS v),(6,.bool doubled),(30,sl bw t30),(31,.int .i64 t31),(32,.int .i64 t32)] [.dead,.dead] [((5,0),9)]
def qF(o:waA×Bool):aF:=aZ 54 [(5,sl cS o.1),(6,.bool o.2)] [.dead,.dead] [((5,0),9)]
instance iS_syntax_named_L3:KS 0 (lz t30 t31 v doubled t32):=⟨rfl,(bE (aI (up (aU Mf v)) (aI vzz (aI (up (aU n7 t30)) (aI vzz (aI vzz vzz)))))),(aI vzz (aI vzz vzz))⟩
instance iO_syntax_named_L3{o:(waA×Bool)}:KS 0 (qF o):=⟨rfl,(bE (aI (up (aU Mf o.1)) (aI vzz vzz))),(aI vzz (aI vzz vzz))⟩
def eQ:Option ((waA×Bool×Int)⊕((waA×Bool))):=
 if decide (t32<t31)=true then
  (dh t30 t32).bind λx13=>
  (app v ([x13.Con]:List ah)).bind λl14=>
  (app l14 x13.Names).bind λl15=>
  if doubled=true then
   some (.inl (l15,true,dU (t32+1)))
  else
   (mE x13.Names).bind λr17=>
   some (.inl (l15,r17,dU (t32+1)))
 else
  some (.inr (v,doubled))
def oq:Option ((waA×Bool)):=loop (λ(zz:waA×Bool×Int)=>eQ t30 t31 zz.1 zz.2.1 zz.2.2) (v,doubled,t32)
theorem FX:OL 0 (cA YL 503) (eQ t30 t31 v doubled t32) (λ(zz:waA×Bool×Int)=>lz t30 t31 zz.1 zz.2.1 zz.2.2) (λ_=>.exit 0) qF (lz t30 t31 v doubled t32):=qba.lx<|
 tF (tb λx13 bx13=>tb λl14 bl14=>tb λl15 bl15=>tv (fJ.ia (k:=.i64) bx13)<|tv (y0 x13)<|tx N6<|tx (xg x13)<|Sq [0,0,2,6,15,0,32,127,255]<|ts<|tv (cU [x13.Con] 1 rfl)<|tv (kQ.ap bl14)<|ts<|tv (kQ.ap bl15)<|tf (λc16=>tg 2 c16<|tE) λc16=>tb λr17 br17=>tg 2 c16<|ts<|cJ (uE _ br17)<|tE)<|tE
theorem Ht:OJ 0 (.loop (cA YL 503)) (oq t30 t31 v doubled t32) (.exit 0) qF (lz t30 t31 v doubled t32):=Ke λ_=>FX _ _ _ _ _
end
def wb(e:af)(s:au):Option Int:=
 (qD e.Params).bind λr1=>
 (uB e s r1).bind λo4=>
 (uC e).bind λo11=>
 (oq e.Alts (e.Alts.length:Int) o4 o11 0).bind λo18=>
 (eA o18.1).bind λr19=>
 if r19=true then
  some 3
 else if o18.2=true then
  some 4
 else
  some 0
theorem L7{e:af}{s:au}:OV 159 [.agg (ag e),.agg (aC s)] (wb e s) (λr=>.int .i64 r) []:=qba.v<|
 tb λr1 br1=>tb λo4 bo4=>tb λo11 bo11=>tb λo18 bo18=>tb λr19 br19=>te (dq e)<|te (CJ s)<|tw (aL e)<|cJ (CX _ br1)<|lB 0<|dm (Hr e s r1 _ bo4)<|lB 0<|dm (Hs e o4 _ bo11)<|tw (av e)<|cq (fJ.ln e.Alts)<|dm (Ht e.Alts (e.Alts.length:Int) o4 o11 0 _ bo18)<|cJ (rH _ br19)<|tF tE<|tF tE<|tE
abbrev sa:=(ae->Option Int)
abbrev zm(R:sa):Prop:=∀(t:ae),OV 92 [.agg (aj t)] (R t) (λr=>.int .i64 r) []
noncomputable def qiS:Code:=f92.body.getD .skip
def qkI:List Nat:=[]
theorem qjI:ZF Pg qkI 92 f92 qiS:=zf call92 func92 rfl mixed
section
variable(R75:sa)(t7:waB)(t8:Int)(n:Int)(t9:Int)
def mG:aF:=aZ 20 [(3,.int .i64 n),(7,sl aj t7),(8,.int .i64 t8),(9,.int .i64 t9)] [.dead] []
def rU(o:Int):aF:=aZ 20 [(3,.int .i64 o)] [.dead] []
instance iS_types_depth_L1:KS 0 (mG t7 t8 n t9):=⟨rfl,(bE (aI vzz (aI (up (aU dO t7)) (aI vzz (aI vzz vzz))))),(aI vzz vzz)⟩
instance iO_types_depth_L1{o:Int}:KS 0 (rU o):=⟨rfl,(bE (aI vzz vzz)),(aI vzz vzz)⟩
def A3:Option ((Int×Int)⊕(Int)):=
 if decide (t9<t8)=true then
  (dh t7 t9).bind λx2=>
  (R75 x2).bind λr3=>
  some (.inl ((if r3>n then r3 else n),dU (t9+1)))
 else
  some (.inr n)
def EE:Option Int:=loop (λ(zz:Int×Int)=>A3 R75 t7 t8 zz.1 zz.2) (n,t9)
theorem HA(hR75:zm R75):OL 0 (cA qiS 119) (A3 R75 t7 t8 n t9) (λ(zz:Int×Int)=>mG t7 t8 zz.1 zz.2) (λ_=>.exit 0) rU (mG t7 t8 n t9):=qjI.lx<|
 tF (tb λx2 bx2=>tb λr3 br3=>tv (dy.ia (k:=.i64) bx2)<|tv (cC x2)<|tx RN<|tx (pf x2)<|tv (ij x2 [])<|cJ (hR75 _ _ br3)<|tE)<|tE
theorem Js(hR75:zm R75):OJ 0 (.loop (cA qiS 119)) (EE R75 t7 t8 n t9) (.exit 0) rU (mG t7 t8 n t9):=Ke λ_=>HA _ _ _ _ _ hR75
end
def Gu(R75:sa)(t:ae):Option Int:=
 (EE R75 t.Args (t.Args.length:Int) 0 0).bind λo4=>
 some (dU (o4+1))
theorem L8(R75:sa)(hR75:zm R75){t:ae}:OV 92 [.agg (aj t)] (Gu R75 t) (λr=>.int .i64 r) []:=qjI.v<|
 tb λo4 bo4=>te (fe t)<|tw (aX t)<|cq (dy.ln t.Args)<|dm (Js R75 t.Args (t.Args.length:Int) 0 0 hR75 _ bo4)<|tE
def zW:(ae->Option Int)->(ae)->Option Int:=λ(rec:ae->Option Int) (x:ae)=>Gu (λt=>rec t) x
def zl(t:ae):Option Int:=oE zW t
theorem Ow{t:ae}:OV 92 [.agg (aj t)] (zl t) (λr=>.int .i64 r) []:=IJ λ_ h=>
 eE (F:=zW) (M:=λ(x:ae) (r:Int)=>CC Pg GE 92 [.agg (aj x)] (.int .i64 r) []) (λrec hrec x r h=>L8 _ (λt=>IJ λr h=>hrec t r h) _ h) h
abbrev vD:=(ae->Option Int)
abbrev Bk(R:vD):Prop:=∀(t:ae),OV 93 [.agg (aj t)] (R t) (λr=>.int .i64 r) []
noncomputable def qfl:Code:=f146.body.getD .skip
def qgL:List Nat:=[]
theorem qe1:ZF Pg qgL 146 f146 qfl:=zf call146 func146 rfl mixed
section
variable(t:ae)
def xM:Option Bool:=
 if decide ((t.Args.length:Int)<2)=true then
  some true
 else if decide ((t.Args.length:Int)>7)=true then
  some true
 else if((t.Names.length:Int)!=0)=true then
  some ((t.Names.length:Int)!=(dU ((t.Args.length:Int) - 1)))
 else
  some false
theorem Jr:OJ 0 (cA qfl 892) (xM t) .normal (λo=>aZ 39 [(38,.bool o)] [.dead] []) (aZ 39 [(1,.eptr (aj t))] [.dead] []):=qe1.j<|
 have pp5:=λ{X Y Z} (r:PV _ X Y Z)=>tw (aX t)<|cq (dy.ln t.Args)<|r;tf (λc4=>pp5<|tg 5 c4<|tE) λc4=>have pp7:=λ{X Y Z} (r:PV _ X Y Z)=>pp5<|tg 5 c4<|tw (aX t)<|cq (dy.ln t.Args)<|r;tf (λc6=>pp7<|tg 11 c6<|tE) λc6=>have pp9:=λ{X Y Z} (r:PV _ X Y Z)=>pp7<|tg 11 c6<|tw (bN t)<|cq (kQ.ln t.Names)<|r;tf (λc8=>pp9<|tg 16 c8<|tw (bN t)<|cq (kQ.ln t.Names)<|tw (aX t)<|cq (dy.ln t.Args)<|tE) λc8=>pp9<|tg 16 c8<|tE
end
def zk(t:ae):Option Int:=
 if(t.Op==4)=true then
  if decide ((t.Args.length:Int)>6)=true then
   some 13
  else
   some 0
 else if(t.Op==6)=true then
  (xM t).bind λo10=>
  if o10=true then
   some 13
  else
   some 0
 else
  some 0
theorem Ov{t:ae}:OV 146 [.agg (aj t)] (zk t) (λr=>.int .i64 r) []:=qe1.v<|
 te (fe t)<|tw (aW t)<|tF (tw (aX t)<|cq (dy.ln t.Args)<|tF tE<|tE)<|tF (tb λo10 bo10=>lB 0<|dm (Jr t _ bo10)<|tF tE<|tE)<|tE
noncomputable def qcO:Code:=f93.body.getD .skip
def qkJ:List Nat:=[68,100]
theorem qdA:ZF Pg qkJ 93 f93 qcO:=zf call93 func93 rfl mixed
section
variable(t:ae)
def sI:Option Bool:=
 if(t.Op==4)=true then
  some true
 else
  some (t.Op==5)
theorem KA:OJ 0 (cA qcO 6) (sI t) .normal (λo=>aZ 102 [(1,.eptr (aj t)),(3,.bool o)] [.dead] []) (aZ 102 [(1,.eptr (aj t))] [.dead] []):=qdA.j<|
 have pp2:=λ{X Y Z} (r:PV _ X Y Z)=>tw (aW t)<|r;tf (λc1=>pp2<|tg 4 c1<|tE) λc1=>pp2<|tg 4 c1<|tw (aW t)<|tE
end
section
variable(t:ae)(named:Bool)
def sJ:Option Bool:=
 if(t.Op==4)=true then
  some true
 else
  some (t.Op==6)
theorem KD:OJ 0 (cA qcO 14) (sJ t) .normal (λo=>aZ 102 [(1,.eptr (aj t)),(3,.bool named),(4,.bool o)] [.dead] []) (aZ 102 [(1,.eptr (aj t)),(3,.bool named)] [.dead] []):=qdA.j<|
 have pp5:=λ{X Y Z} (r:PV _ X Y Z)=>tw (aW t)<|r;tf (λc4=>pp5<|tg 4 c4<|tE) λc4=>pp5<|tg 4 c4<|tw (aW t)<|tE
end
section
variable(t:ae)(named:Bool)(compound:Bool)
def sK:Option Bool:=
 if decide (t.Op<1)=true then
  some true
 else if decide (t.Op>6)=true then
  some true
 else if(!(t.Name==([]:ah)))=true then
  if(!named)=true then
   some true
  else if decide ((t.Args.length:Int)>0)=true then
   if(!compound)=true then
    some true
   else if decide ((t.Names.length:Int)>0)=true then
    some (t.Op !=6)
   else
    some false
  else if decide ((t.Names.length:Int)>0)=true then
   some (t.Op !=6)
  else
   some false
 else if decide ((t.Args.length:Int)>0)=true then
  if(!compound)=true then
   some true
  else if decide ((t.Names.length:Int)>0)=true then
   some (t.Op !=6)
  else
   some false
 else if decide ((t.Names.length:Int)>0)=true then
  some (t.Op !=6)
 else
  some false
theorem KF:OJ 0 (cA qcO 60) (sK t named compound) .normal (λo=>aZ 102 [(1,.eptr (aj t)),(3,.bool named),(63,.bool o)] [.dead] []) (aZ 102 [(1,.eptr (aj t)),(3,.bool named),(4,.bool compound)] [.dead] []):=qdA.j<|
 have pp8:=λ{X Y Z} (r:PV _ X Y Z)=>tw (aW t)<|r;tf (λc7=>pp8<|tg 4 c7<|tE) λc7=>have pp10:=λ{X Y Z} (r:PV _ X Y Z)=>pp8<|tg 4 c7<|tw (aW t)<|r;tf (λc9=>pp10<|tg 9 c9<|tE) λc9=>have pp12:=λ{X Y Z} (r:PV _ X Y Z)=>pp10<|tg 9 c9<|tw (cT t)<|r;tf (λc11=>have pp14:=λ{X Y Z} (r:PV _ X Y Z)=>pp12<|tg 13 c11<|r;tf (λc13=>pp14<|tg 18 c13<|tE) λc13=>have pp16:=λ{X Y Z} (r:PV _ X Y Z)=>pp14<|tg 18 c13<|tw (aX t)<|cq (dy.ln t.Args)<|r;tf (λc15=>have pp18:=λ{X Y Z} (r:PV _ X Y Z)=>pp16<|tg 23 c15<|r;tf (λc17=>pp18<|tg 28 c17<|tE) λc17=>have pp20:=λ{X Y Z} (r:PV _ X Y Z)=>pp18<|tg 28 c17<|tw (bN t)<|cq (kQ.ln t.Names)<|r;tf (λc19=>pp20<|tg 33 c19<|tw (aW t)<|tE) λc19=>pp20<|tg 33 c19<|tE) λc15=>have pp22:=λ{X Y Z} (r:PV _ X Y Z)=>pp16<|tg 23 c15<|tw (bN t)<|cq (kQ.ln t.Names)<|r;tf (λc21=>pp22<|tg 33 c21<|tw (aW t)<|tE) λc21=>pp22<|tg 33 c21<|tE) λc11=>have pp24:=λ{X Y Z} (r:PV _ X Y Z)=>pp12<|tg 13 c11<|tw (aX t)<|cq (dy.ln t.Args)<|r;tf (λc23=>have pp26:=λ{X Y Z} (r:PV _ X Y Z)=>pp24<|tg 23 c23<|r;tf (λc25=>pp26<|tg 28 c25<|tE) λc25=>have pp28:=λ{X Y Z} (r:PV _ X Y Z)=>pp26<|tg 28 c25<|tw (bN t)<|cq (kQ.ln t.Names)<|r;tf (λc27=>pp28<|tg 33 c27<|tw (aW t)<|tE) λc27=>pp28<|tg 33 c27<|tE) λc23=>have pp30:=λ{X Y Z} (r:PV _ X Y Z)=>pp24<|tg 23 c23<|tw (bN t)<|cq (kQ.ln t.Names)<|r;tf (λc29=>pp30<|tg 33 c29<|tw (aW t)<|tE) λc29=>pp30<|tg 33 c29<|tE
end
section
variable(t:ae)
def sM:Option Bool:=
 (jF t.Name 0).bind λc38=>
 if decide (c38>=65)=true then
  (jF t.Name 0).bind λc41=>
  some (decide (c41<=90))
 else
  some false
theorem KH:OJ 0 (cA qcO 2026) (sM t) .normal (λo=>aZ 102 [(1,.eptr (aj t)),(6,.bool o)] [.dead] []) (aZ 102 [(1,.eptr (aj t))] [.dead] []):=qdA.j<|
 tb λc38 bc38=>have pp40:=λ{X Y Z} (r:PV _ X Y Z)=>tw (cT t)<|tv (tL (k:=.i64) underlying9 bc38)<|r;tf (λc39=>tb λc41 bc41=>pp40<|tg 5 c39<|tw (cT t)<|tv (tL (k:=.i64) underlying9 bc41)<|tE) λc39=>pp40<|tg 5 c39<|tE
end
section
variable(t:ae)(named:Bool)
def L9(o:Unit⊕(Unit)):Exit:=match o with
 |(.inl _)=>.ret
 |(.inr _)=>.normal
def Ma(o:Unit⊕(Unit)):aF:=match o with
 |(.inl o)=>aZ 102 [(2,.int .i64 3)] [.dead] []
 |(.inr o)=>aZ 102 [(1,.eptr (aj t))] [.dead] []
def sL:Option (Unit⊕(Unit)):=
 if named=true then
  (lQ t.Name).bind λr36=>
  if(r36 !=0)=true then
   some (.inl ())
  else
   (sM t).bind λo42=>
   if(!(o42==(t.Op==4)))=true then
    some (.inl ())
   else
    some (.inr ())
 else
  some (.inr ())
theorem A4:OK 0 (cA qcO 126) (sL t named) L9 (Ma t) (aZ 102 [(1,.eptr (aj t)),(3,.bool named)] [.dead] []):=qdA.k<|
 tF (tb λr36 br36=>tw (cT t)<|cJ (iL _ br36)<|tF tE<|tb λo42 bo42=>lB 0<|dm (KH t _ bo42)<|tw (aW t)<|tF tE<|tE)<|tE
end
section
variable(R76:vD)(t90:waB)(t91:Int)(t92:Int)
def ou:aF:=aZ 102 [(90,sl aj t90),(91,.int .i64 t91),(92,.int .i64 t92)] [.dead] []
def CZ(o:Int⊕(Unit)):Exit:=match o with
 |(.inl _)=>.ret
 |(.inr _)=>.exit 0
def uG(o:Int⊕(Unit)):aF:=match o with
 |(.inl o)=>aZ 102 [(2,.int .i64 o)] [.dead] []
 |(.inr o)=>aZ 102 [] [.dead] []
instance iS_types_form_L6:KS 0 (ou t90 t91 t92):=⟨rfl,(bE (aI (up (aU dO t90)) (aI vzz (aI vzz vzz)))),(aI vzz vzz)⟩
instance iO_types_form_L6{o:Int⊕(Unit)}:KS 0 (uG o):=match o with
 |(.inl o)=>⟨rfl,(bE (aI vzz vzz)),(aI vzz vzz)⟩
 |(.inr o)=>⟨rfl,(bE vzz),(aI vzz vzz)⟩
def CY:Option (Int⊕(Int⊕(Unit))):=
 if decide (t92<t91)=true then
  (dh t90 t92).bind λx46=>
  (R76 x46).bind λr47=>
  if(r47 !=0)=true then
   some (.inr (.inl r47))
  else
   some (.inl (dU (t92+1)))
 else
  some (.inr (.inr ()))
def zX:Option (Int⊕(Unit)):=loop (λ(zz:Int)=>CY R76 t90 t91 zz) t92
theorem Jt(hR76:Bk R76):OL 0 (cA qcO 2039) (CY R76 t90 t91 t92) (λ(zz:Int)=>ou t90 t91 zz) CZ uG (ou t90 t91 t92):=qdA.lx<|
 tF (tb λx46 bx46=>tb λr47 br47=>tv (dy.ia (k:=.i64) bx46)<|tv (cC x46)<|tx RN<|tx (pf x46)<|tv (ij x46 [])<|cJ (hR76 _ _ br47)<|tF tE<|tE)<|tE
theorem A8(hR76:Bk R76):OK 0 (.loop (cA qcO 2039)) (zX R76 t90 t91 t92) CZ uG (ou t90 t91 t92):=FA λ_=>Jt _ _ _ _ hR76
end
def wc(R76:vD)(t:ae):Option Int:=
 (sI t).bind λo3=>
 (sJ t).bind λo6=>
 (sK t o3 o6).bind λo31=>
 if o31=true then
  some 1
 else
  (zk t).bind λr33=>
  if(r33 !=0)=true then
   some r33
  else
   (sL t o3).bind λo44=>match o44 with
   |(.inl o44)=>
    some 3
   | (.inr o44) =>
    (zX R76 t.Args (t.Args.length:Int) 0).bind λo49=>match o49 with
    |(.inl o49)=>
     some o49
    |(.inr o49)=>
     some 0
theorem Ox(R76:vD)(hR76:Bk R76){t:ae}:OV 93 [.agg (aj t)] (wc R76 t) (λr=>.int .i64 r) []:=qdA.v<|
 tb λo3 bo3=>tb λo6 bo6=>tb λo31 bo31=>te (fe t)<|lB 0<|dm (KA t _ bo3)<|lB 0<|dm (KD t o3 _ bo6)<|lB 1<|dm (KF t o3 o6 _ bo31)<|tF tE<|tb λr33 br33=>tv (cC t)<|cJ (Ov _ br33)<|tF tE<|t2 (λo44 bo44=>lB 0<|dm (A4 t o3 _ bo44)<|tE) λo44 bo44=>lB 0<|dm (A4 t o3 _ bo44)<|tw (aX t)<|cq (dy.ln t.Args)<|t2 (λo49 bo49=>dm (A8 R76 t.Args (t.Args.length:Int) 0 hR76 _ bo49)<|tE) λo49 bo49=>dm (A8 R76 t.Args (t.Args.length:Int) 0 hR76 _ bo49)<|tE
def Cr:(ae->Option Int)->(ae)->Option Int:=λ(rec:ae->Option Int) (x:ae)=>wc (λt=>rec t) x
def Cq(t:ae):Option Int:=oE Cr t
theorem Pq{t:ae}:OV 93 [.agg (aj t)] (Cq t) (λr=>.int .i64 r) []:=IJ λ_ h=>
 eE (F:=Cr) (M:=λ(x:ae) (r:Int)=>CC Pg GE 93 [.agg (aj x)] (.int .i64 r) []) (λrec hrec x r h=>Ox _ (λt=>IJ λr h=>hrec t r h) _ h) h
noncomputable def qlm:Code:=f52.body.getD .skip
def qkt:List Nat:=[]
theorem qk1:ZF Pg qkt 52 f52 qlm:=zf call52 func52 rfl mixed
def mf(t:ae):Option Int:=
 (zl t).bind λr1=>
 if decide (r1>40)=true then
  some 8
 else
  (Cq t).bind λr3=>
  some r3
theorem xL{t:ae}:OV 52 [.agg (aj t)] (mf t) (λr=>.int .i64 r) []:=qk1.v<|
 tb λr1 br1=>te (fe t)<|tv (cC t)<|cJ (Ow _ br1)<|tF tE<|tb λr3 br3=>tv (cC t)<|cJ (Pq _ br3)<|tE
noncomputable def qir:Code:=f160.body.getD .skip
def qgS:List Nat:=[]
theorem qhP:ZF Pg qgS 160 f160 qir:=zf call160 func160 rfl mixed
def zj(t:ae):Option Bool:=
 (uD t (⟨0,([]:ah),([]:List ae),([]:List ah),(⟨0,([]:ah),0,([]:List aa)⟩:aa),([]:List aa)⟩:ae)).bind λr1=>
 some r1
theorem On{t:ae}:OV 160 [.agg (aj t)] (zj t) (λr=>.bool r) []:=qhP.v<|
 tb λr1 br1=>te (fe t)<|tv (cC t)<|Oq (Uq) (Up)<|cJ (Hw _ br1)<|tE
end Go.Proofs.YtibglelmlnfojaaGreatDoor
