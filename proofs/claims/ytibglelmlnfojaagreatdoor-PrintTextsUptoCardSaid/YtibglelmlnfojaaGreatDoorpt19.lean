/- PROVED: a part of the proof. Conditions: none. -/
import Derived.Test.YtibglelmlnfojaaGreatDoorpt18
import Derived.Test.YtibglelmlnfojaaGreatDoorpt9
import Derived.Lib.ItoaLen
set_option linter.unusedSimpArgs false
set_option linter.unusedVariables false
noncomputable section
namespace Go.Proofs.YtibglelmlnfojaaGreatDoor
open Go Go.Proofs.Tryz
set_option linter.unusedVariables false
set_option maxRecDepth 100000
noncomputable def qkR:Code:=f169.body.getD .skip
def qmY:List Nat:=[]
theorem qkm:ZF Pg qmY 169 f169 qkR:=zf call169 func169 rfl mixed
section
variable(e:ag)(m:ae)(m2:Bool)
def rE:Option ((ae×Bool)):=
 if decide ((e.Types.length:Int)>0)=true then
  (ay ([bX]:List ae) m m2).bind λr4=>
  (cX e.Types 0).bind λx5=>
  (gu x5 r4 m2).bind λr6=>
  some (r6.2,r6.1)
 else
  some (m,m2)
theorem Hp:OJ 1 (cA qkR 30) (rE e m m2) .normal (λo=>aQ 42 [(0,.bptr 0 0),(3,.eptr (ah e))] [.cells [.str o.1,.bool o.2] [],.dead] []) (aQ 42 [(0,.bptr 0 0),(3,.eptr (ah e))] [.cells [.str m,.bool m2] [],.dead] []):=qkm.j<|
 tw (aw e)<|bL (cu.ln e.Types)<|tF (tb λr4 br4=>tb λx5 bx5=>tb λr6 br6=>tv (bJ [bX] 1 rfl)<|tc [0] (ax _ br4)<|tw (aw e)<|tv (cu.ia (k:=.i64) bx5)<|tv (bo x5)<|tc [0] (jy _ br6)<|tE)<|tE
end
def zC(R175:bp)(e:ag)(k0:ae)(k02:Bool):Option (ae×Bool):=
 (ay ([wE]:List ae) k0 k02).bind λr1=>
 (cT e.Name false r1 k02).bind λr2=>
 (rE e r2.1 r2.2).bind λo7=>
 (ay ([ii]:List ae) o7.1 o7.2).bind λr8=>
 (cX e.Kids 0).bind λx9=>
 (R175 x9 r8 o7.2).bind λr10=>
 (ay ([eS]:List ae) r10.1 r10.2).bind λr11=>
 (cX e.Kids 1).bind λx12=>
 (R175 x12 r11 r10.2).bind λr13=>
 some (r13.1,r13.2)
theorem LP(R175:bp)(hR175:cq R175){e:ag}{k0:ae}{k02:Bool}:OG 169 [.bptr 0 0,.agg (ah e)] [] [.cells [.str k0,.bool k02] []] (zC R175 e k0 k02) (λr=>.tuple []) [] (λr=>[.cells [.str r.1,.bool r.2] []]):=qkm.g 1<|
 tb λr1 br1=>tb λr2 br2=>tb λo7 bo7=>tb λr8 br8=>tb λx9 bx9=>tb λr10 br10=>tb λr11 br11=>tb λx12 bx12=>tb λr13 br13=>te (bQ e)<|tv (bJ [wE] 1 rfl)<|tc [0] (ax _ br1)<|tw (ch e)<|tc [0] (dw _ br2)<|fc 0<|bT (Hp e r2.1 r2.2 _ bo7)<|tv (bJ [ii] 1 rfl)<|tc [0] (ax _ br8)<|tw (aq e)<|tv (dJ.ia (k:=.i64) bx9)<|tv (aF x9)<|tc [0] (hR175 _ _ _ _ br10)<|tv (bJ [eS] 1 rfl)<|tc [0] (ax _ br11)<|tw (aq e)<|tv (dJ.ia (k:=.i64) bx12)<|tv (aF x12)<|tc [0] (hR175 _ _ _ _ br13)<|tE
noncomputable def qqg:Code:=f88.body.getD .skip
def qss:List Nat:=[13]
theorem qrb:ZF Pg qss 88 f88 qqg:=zf call88 func88 rfl mixed
section
variable(t9:waA)(t10:Int)(t11:Int)(m:ae)(m2:Bool)
def lZ:aK:=aQ 26 [(0,.bptr 0 0),(9,sl cS t9),(10,.int .i64 t10),(11,.int .i64 t11)] [.cells [.str m,.bool m2] []] []
def tD(o:ae×Bool):aK:=aQ 26 [(0,.bptr 0 0)] [.cells [.str o.1,.bool o.2] []] []
def eK:Option ((Int×ae×Bool)⊕((ae×Bool))):=
 if decide (t11<t10)=true then
  (cX t9 t11).bind λx3=>
  (eU t11 m m2).bind λr4=>
  (cT x3 false r4 m2).bind λr5=>
  some (.inl (dt (t11+1),r5.1,r5.2))
 else
  some (.inr (m,m2))
def oQ:Option ((ae×Bool)):=loop (λ(zz:Int×ae×Bool)=>eK t9 t10 zz.1 zz.2.1 zz.2.2) (t11,m,m2)
theorem C0:OL 1 (cA qqg 55) (eK t9 t10 t11 m m2) (λ(zz:Int×ae×Bool)=>lZ t9 t10 zz.1 zz.2.1 zz.2.2) (λ_=>.exit 0) tD (lZ t9 t10 t11 m m2):=qrb.l<|
 tF (tb λx3 bx3=>tb λr4 br4=>tb λr5 br5=>tv (d8.ia (k:=.i64) bx3)<|tv (eC XC (.str x3) [])<|tc [0] (fq _ br4)<|tc [0] (dw _ br5)<|tE)<|tE
theorem El:OJ 1 (.loop (cA qqg 55)) (oQ t9 t10 t11 m m2) (.exit 0) tD (lZ t9 t10 t11 m m2):=y1 λ_=>C0 _ _ _ _ _
end
def nY(a:waA)(k0:ae)(k02:Bool):Option (ae×Bool):=
 (ay ([cE]:List ae) k0 k02).bind λr1=>
 (oQ a (a.length:Int) 0 r1 k02).bind λo6=>
 (ay ([dI]:List ae) o6.1 o6.2).bind λr7=>
 some (r7,o6.2)
theorem I9{a:waA}{k0:ae}{k02:Bool}:OG 88 [.bptr 0 0,sl cS a] [] [.cells [.str k0,.bool k02] []] (nY a k0 k02) (λr=>.tuple []) [] (λr=>[.cells [.str r.1,.bool r.2] []]):=qrb.g 1<|
 tb λr1 br1=>tb λo6 bo6=>tb λr7 br7=>tv (bJ [cE] 1 rfl)<|tc [0] (ax _ br1)<|bL (d8.ln a)<|bT (El a (a.length:Int) 0 r1 k02 _ bo6)<|tv (bJ [dI] 1 rfl)<|tc [0] (ax _ br7)<|tE
noncomputable def qd9:Code:=f170.body.getD .skip
def qmZ:List Nat:=[23]
theorem qgj:ZF Pg qmZ 170 f170 qd9:=zf call170 func170 rfl mixed
section
variable(i:Int)(t19:waE)(t20:Int)(m:ae)(m2:Bool)(m3:ae)(m4:waA)(m5:Int)(m6:ae)(m7:Int)(m8:waD)(m9:waF)(m10:waE)(m11:waB)
def xq:Option ae:=
 if decide (i>0)=true then
  (ay ([kP]:List ae) m m2).bind λr8=>
  some r8
 else
  some m
theorem Eh:OJ 1 (cA qd9 32246) (xq i m m2) .normal (λo=>aQ 57 [(0,.bptr 0 0),(5,.bptr 2 0),(19,sl bE t19),(20,.int .i64 t20),(21,.int .i64 i)] [.cells [.str o,.bool m2] [],.dead,.cells [.str m3,sl cS m4,.int .i64 m5,.str m6,.int .i64 m7,sl ah m8,sl bw m9,sl bE m10,sl ai m11] []] []) (aQ 57 [(0,.bptr 0 0),(4,.int .i64 i),(5,.bptr 2 0),(19,sl bE t19),(20,.int .i64 t20),(21,.int .i64 i)] [.cells [.str m,.bool m2] [],.dead,.cells [.str m3,sl cS m4,.int .i64 m5,.str m6,.int .i64 m7,sl ah m8,sl bw m9,sl bE m10,sl ai m11] []] []):=qgj.j<|
 tF (tb λr8 br8=>tv (bJ [kP] 1 rfl)<|tc [0] (ax _ br8)<|tE)<|tE
end
section
variable(t19:waE)(t20:Int)(t21:Int)(m:ae)(m2:Bool)(m3:ae)(m4:waA)(m5:Int)(m6:ae)(m7:Int)(m8:waD)(m9:waF)(m10:waE)(m11:waB)
def oO:Option ((ae×Bool)):=
 if decide ((m4.length:Int)>0)=true then
  (ay ([dh]:List ae) m m2).bind λr12=>
  (nY m4 r12 m2).bind λr13=>
  some (r13.1,r13.2)
 else
  some (m,m2)
theorem Ei:OJ 1 (cA qd9 128990) (oO m m2 m4) .normal (λo=>aQ 57 [(0,.bptr 0 0),(5,.bptr 2 0),(19,sl bE t19),(20,.int .i64 t20),(21,.int .i64 t21)] [.cells [.str o.1,.bool o.2] [],.dead,.cells [.str m3,sl cS m4,.int .i64 m5,.str m6,.int .i64 m7,sl ah m8,sl bw m9,sl bE m10,sl ai m11] []] []) (aQ 57 [(0,.bptr 0 0),(5,.bptr 2 0),(19,sl bE t19),(20,.int .i64 t20),(21,.int .i64 t21)] [.cells [.str m,.bool m2] [],.dead,.cells [.str m3,sl cS m4,.int .i64 m5,.str m6,.int .i64 m7,sl ah m8,sl bw m9,sl bE m10,sl ai m11] []] []):=qgj.j<|
 ts<|bL (d8.ln m4)<|tF (tb λr12 br12=>tb λr13 br13=>tv (bJ [dh] 1 rfl)<|tc [0] (ax _ br12)<|ts<|tc [0] (I9 _ br13)<|tE)<|tE
end
section
variable(R175:bp)(t19:waE)(t20:Int)(t21:Int)(m:ae)(m2:Bool)
def iQ:aK:=aQ 57 [(0,.bptr 0 0),(19,sl bE t19),(20,.int .i64 t20),(21,.int .i64 t21)] [.cells [.str m,.bool m2] [],.dead] []
def lY(o:ae×Bool):aK:=aQ 57 [(0,.bptr 0 0)] [.cells [.str o.1,.bool o.2] [],.dead] []
instance iS_R22_Writer_match_L1:KS 1 (iQ t19 t20 t21 m m2):=⟨rfl,(bD (aI (cZ rfl) (aI (up (aZ oc t19)) (aI vzz (aI vzz vzz))))),(aI (aI vzz (aI vzz vzz)) (aI vzz vzz))⟩
instance iO_R22_Writer_match_L1{o:(ae×Bool)}:KS 1 (lY o):=⟨rfl,(bD (aI (cZ rfl) trivial)),(aI (aI vzz (aI vzz vzz)) (aI vzz vzz))⟩
def eJ:Option ((Int×ae×Bool)⊕((ae×Bool))):=
 if decide (t21<t20)=true then
  (cX t19 t21).bind λx6=>
  (xq t21 m m2).bind λo9=>
  (cT x6.Con true o9 m2).bind λr10=>
  (oO r10.1 r10.2 x6.Names).bind λo14=>
  (ay ([kO]:List ae) o14.1 o14.2).bind λr15=>
  (R175 x6.Body r15 o14.2).bind λr16=>
  some (.inl (dt (t21+1),r16.1,r16.2))
 else
  some (.inr (m,m2))
def j6:Option ((ae×Bool)):=loop (λ(zz:Int×ae×Bool)=>eJ R175 t19 t20 zz.1 zz.2.1 zz.2.2) (t21,m,m2)
theorem CZ(hR175:cq R175):OL 1 (cA qd9 503) (eJ R175 t19 t20 t21 m m2) (λ(zz:Int×ae×Bool)=>iQ t19 t20 zz.1 zz.2.1 zz.2.2) (λ_=>.exit 0) lY (iQ t19 t20 t21 m m2):=qgj.lx<|
 tF (tb λx6 bx6=>tb λo9 bo9=>tb λr10 br10=>tb λo14 bo14=>tb λr15 br15=>tb λr16 br16=>tv (gz.ia (k:=.i64) bx6)<|tv (yp x6)<|tx PF<|tx (wk x6)<|fc 0<|bT (Eh t21 t19 t20 m m2 x6.Con x6.Names x6.Body.Op x6.Body.Name x6.Body.N x6.Body.Kids x6.Body.Params x6.Body.Alts x6.Body.Types _ bo9)<|ts<|tc [0] (dw _ br10)<|fc 0<|bT (Ei t19 t20 t21 r10.1 r10.2 x6.Con x6.Names x6.Body.Op x6.Body.Name x6.Body.N x6.Body.Kids x6.Body.Params x6.Body.Alts x6.Body.Types _ bo14)<|tv (bJ [kO] 1 rfl)<|tc [0] (ax _ br15)<|tv (im x6.Body [])<|tc [0] (hR175 _ _ _ _ br16)<|tE)<|tE
theorem Ej(hR175:cq R175):OJ 1 (.loop (cA qd9 503)) (j6 R175 t19 t20 t21 m m2) (.exit 0) lY (iQ t19 t20 t21 m m2):=y1 λ_=>CZ _ _ _ _ _ _ hR175
end
def tZ(R175:bp)(e:ag)(k0:ae)(k02:Bool):Option (ae×Bool):=
 (ay ([uK]:List ae) k0 k02).bind λr1=>
 (cX e.Kids 0).bind λx2=>
 (R175 x2 r1 k02).bind λr3=>
 (ay ([gf]:List ae) r3.1 r3.2).bind λr4=>
 (j6 R175 e.Alts (e.Alts.length:Int) 0 r4 r3.2).bind λo17=>
 (ay ([Ay]:List ae) o17.1 o17.2).bind λr18=>
 some (r18,o17.2)
theorem I7(R175:bp)(hR175:cq R175){e:ag}{k0:ae}{k02:Bool}:OG 170 [.bptr 0 0,.agg (ah e)] [] [.cells [.str k0,.bool k02] []] (tZ R175 e k0 k02) (λr=>.tuple []) [] (λr=>[.cells [.str r.1,.bool r.2] []]):=qgj.g 1<|
 tb λr1 br1=>tb λx2 bx2=>tb λr3 br3=>tb λr4 br4=>tb λo17 bo17=>tb λr18 br18=>te (bQ e)<|tv (bJ [uK] 1 rfl)<|tc [0] (ax _ br1)<|tw (aq e)<|tv (dJ.ia (k:=.i64) bx2)<|tv (aF x2)<|tc [0] (hR175 _ _ _ _ br3)<|tv (bJ [gf] 1 rfl)<|tc [0] (ax _ br4)<|tw (aB e)<|bL (gz.ln e.Alts)<|bT (Ej R175 e.Alts (e.Alts.length:Int) 0 r4 r3.2 hR175 _ bo17)<|tv (bJ [Ay] 1 rfl)<|tc [0] (ax _ br18)<|tE
noncomputable def qiT:Code:=f171.body.getD .skip
def qm0:List Nat:=[14]
theorem qkn:ZF Pg qm0 171 f171 qiT:=zf call171 func171 rfl mixed
section
variable(e:ag)(t10:waF)(t11:Int)(t12:Int)(m:ae)(m2:Bool)
def j5:aK:=aQ 45 [(0,.bptr 0 0),(3,.eptr (ah e)),(10,sl bw t10),(11,.int .i64 t11),(12,.int .i64 t12)] [.cells [.str m,.bool m2] [],.dead] []
def oN(o:ae×Bool):aK:=aQ 45 [(0,.bptr 0 0),(3,.eptr (ah e))] [.cells [.str o.1,.bool o.2] [],.dead] []
instance iS_R22_Writer_lam_L1:KS 1 (j5 e t10 t11 t12 m m2):=⟨rfl,(bD (aI (cZ rfl) (aI (eA (dM e)) (aI (up (aZ qK t10)) (aI vzz (aI vzz vzz)))))),(aI (aI vzz (aI vzz vzz)) (aI vzz vzz))⟩
instance iO_R22_Writer_lam_L1{o:(ae×Bool)}:KS 1 (oN e o):=⟨rfl,(bD (aI (cZ rfl) (aI (eA (dM e)) trivial))),(aI (aI vzz (aI vzz vzz)) (aI vzz vzz))⟩
def ft:Option ((Int×ae×Bool)⊕((ae×Bool))):=
 if decide (t12<t11)=true then
  (cX t10 t12).bind λx3=>
  (eU t12 m m2).bind λr4=>
  (cT x3.Name false r4 m2).bind λr5=>
  (G9 x3.Type_).bind λr6=>
  if(!r6)=true then
   (ay ([bX]:List ae) r5.1 r5.2).bind λr8=>
   (gu x3.Type_ r8 r5.2).bind λr9=>
   some (.inl (dt (t12+1),r9.2,r9.1))
  else
   some (.inl (dt (t12+1),r5.1,r5.2))
 else
  some (.inr (m,m2))
def mw:Option ((ae×Bool)):=loop (λ(zz:Int×ae×Bool)=>ft t10 t11 zz.1 zz.2.1 zz.2.2) (t12,m,m2)
theorem Gb:OL 1 (cA qiT 119) (ft t10 t11 t12 m m2) (λ(zz:Int×ae×Bool)=>j5 e t10 t11 zz.1 zz.2.1 zz.2.2) (λ_=>.exit 0) (oN e) (j5 e t10 t11 t12 m m2):=qkn.lx<|
 tF (tb λx3 bx3=>tb λr4 br4=>tb λr5 br5=>tb λr6 br6=>tv (pj.ia (k:=.i64) bx3)<|tv (IJ x3)<|tx qbG<|tx (EF x3)<|tc [0] (fq _ br4)<|ts<|tc [0] (dw _ br5)<|tv (ed x3.Type_ [])<|bG (Ph _ br6)<|tF (tb λr8 br8=>tb λr9 br9=>tv (bJ [bX] 1 rfl)<|tc [0] (ax _ br8)<|tv (ed x3.Type_ [])<|tc [0] (jy _ br9)<|tE)<|tE)<|tE
theorem Ho:OJ 1 (.loop (cA qiT 119)) (mw t10 t11 t12 m m2) (.exit 0) (oN e) (j5 e t10 t11 t12 m m2):=y1 λ_=>Gb _ _ _ _ _ _
end
def zB(R175:bp)(e:ag)(k0:ae)(k02:Bool):Option (ae×Bool):=
 (ay ([nQ]:List ae) k0 k02).bind λr1=>
 (mw e.Params (e.Params.length:Int) 0 r1 k02).bind λo10=>
 (ay ([cG]:List ae) o10.1 o10.2).bind λr11=>
 (cX e.Kids 0).bind λx12=>
 (R175 x12 r11 o10.2).bind λr13=>
 some (r13.1,r13.2)
theorem LO(R175:bp)(hR175:cq R175){e:ag}{k0:ae}{k02:Bool}:OG 171 [.bptr 0 0,.agg (ah e)] [] [.cells [.str k0,.bool k02] []] (zB R175 e k0 k02) (λr=>.tuple []) [] (λr=>[.cells [.str r.1,.bool r.2] []]):=qkn.g 1<|
 tb λr1 br1=>tb λo10 bo10=>tb λr11 br11=>tb λx12 bx12=>tb λr13 br13=>te (bQ e)<|tv (bJ [nQ] 1 rfl)<|tc [0] (ax _ br1)<|tw (aS e)<|bL (pj.ln e.Params)<|bT (Ho e e.Params (e.Params.length:Int) 0 r1 k02 _ bo10)<|tv (bJ [cG] 1 rfl)<|tc [0] (ax _ br11)<|tw (aq e)<|tv (dJ.ia (k:=.i64) bx12)<|tv (aF x12)<|tc [0] (hR175 _ _ _ _ br13)<|tE
noncomputable def qiU:Code:=f172.body.getD .skip
def qm1:List Nat:=[13]
theorem qko:ZF Pg qm1 172 f172 qiU:=zf call172 func172 rfl mixed
section
variable(R175:bp)(t9:waD)(t10:Int)(t11:Int)(m:ae)(m2:Bool)
def jw:aK:=aQ 26 [(0,.bptr 0 0),(9,sl ah t9),(10,.int .i64 t10),(11,.int .i64 t11)] [.cells [.str m,.bool m2] []] []
def ni(o:ae×Bool):aK:=aQ 26 [(0,.bptr 0 0)] [.cells [.str o.1,.bool o.2] []] []
instance iS_R22_Writer_list_L1:KS 1 (jw t9 t10 t11 m m2):=⟨rfl,(bD (aI (cZ rfl) (aI (up (aZ dM t9)) (aI vzz (aI vzz vzz))))),(aI (aI vzz (aI vzz vzz)) trivial)⟩
instance iO_R22_Writer_list_L1{o:(ae×Bool)}:KS 1 (ni o):=⟨rfl,(bD (aI (cZ rfl) trivial)),(aI (aI vzz (aI vzz vzz)) trivial)⟩
def eX:Option ((Int×ae×Bool)⊕((ae×Bool))):=
 if decide (t11<t10)=true then
  (cX t9 t11).bind λx3=>
  (eU t11 m m2).bind λr4=>
  (R175 x3 r4 m2).bind λr5=>
  some (.inl (dt (t11+1),r5.1,r5.2))
 else
  some (.inr (m,m2))
def qk:Option ((ae×Bool)):=loop (λ(zz:Int×ae×Bool)=>eX R175 t9 t10 zz.1 zz.2.1 zz.2.2) (t11,m,m2)
theorem Eg(hR175:cq R175):OL 1 (cA qiU 55) (eX R175 t9 t10 t11 m m2) (λ(zz:Int×ae×Bool)=>jw t9 t10 zz.1 zz.2.1 zz.2.2) (λ_=>.exit 0) ni (jw t9 t10 t11 m m2):=qko.lx<|
 tF (tb λx3 bx3=>tb λr4 br4=>tb λr5 br5=>tv (dJ.ia (k:=.i64) bx3)<|tv (aF x3)<|tx UO<|tx (y2 x3)<|tc [0] (fq _ br4)<|tv (im x3 [])<|tc [0] (hR175 _ _ _ _ br5)<|tE)<|tE
theorem Gc(hR175:cq R175):OJ 1 (.loop (cA qiU 55)) (qk R175 t9 t10 t11 m m2) (.exit 0) ni (jw t9 t10 t11 m m2):=y1 λ_=>Eg _ _ _ _ _ _ hR175
end
def fA(R175:bp)(a:waD)(k0:ae)(k02:Bool):Option (ae×Bool):=
 (ay ([cE]:List ae) k0 k02).bind λr1=>
 (qk R175 a (a.length:Int) 0 r1 k02).bind λo6=>
 (ay ([dI]:List ae) o6.1 o6.2).bind λr7=>
 some (r7,o6.2)
theorem iv(R175:bp)(hR175:cq R175){a:waD}{k0:ae}{k02:Bool}:OG 172 [.bptr 0 0,sl ah a] [] [.cells [.str k0,.bool k02] []] (fA R175 a k0 k02) (λr=>.tuple []) [] (λr=>[.cells [.str r.1,.bool r.2] []]):=qko.g 1<|
 tb λr1 br1=>tb λo6 bo6=>tb λr7 br7=>tv (bJ [cE] 1 rfl)<|tc [0] (ax _ br1)<|bL (dJ.ln a)<|bT (Gc R175 a (a.length:Int) 0 r1 k02 hR175 _ bo6)<|tv (bJ [dI] 1 rfl)<|tc [0] (ax _ br7)<|tE
noncomputable def qpl:Code:=f118.body.getD .skip
def qmo:List Nat:=[]
theorem qol:ZF Pg qmo 118 f118 qpl:=zf call118 func118 rfl mixed
def rF(R175:bp)(e:ag)(k0:ae)(k02:Bool):Option (ae×Bool):=
 if(e.Op==7)=true then
  (zC R175 e k0 k02).bind λr2=>
  some (r2.1,r2.2)
 else if(e.Op==8)=true then
  (ay ([Fj]:List ae) k0 k02).bind λr4=>
  (cX e.Kids 0).bind λx5=>
  (R175 x5 r4 k02).bind λr6=>
  (ay ([lF]:List ae) r6.1 r6.2).bind λr7=>
  (cX e.Kids 1).bind λx8=>
  (R175 x8 r7 r6.2).bind λr9=>
  (ay ([lE]:List ae) r9.1 r9.2).bind λr10=>
  (cX e.Kids 2).bind λx11=>
  (R175 x11 r10 r9.2).bind λr12=>
  some (r12.1,r12.2)
 else if(e.Op==9)=true then
  (tZ R175 e k0 k02).bind λr14=>
  some (r14.1,r14.2)
 else if(e.Op==6)=true then
  (zB R175 e k0 k02).bind λr16=>
  some (r16.1,r16.2)
 else if(e.Op==25)=true then
  (ay ([Az]:List ae) k0 k02).bind λr18=>
  (cT e.Name false r18 k02).bind λr19=>
  (ay ([dh]:List ae) r19.1 r19.2).bind λr20=>
  (OY e.Kids none (some (dt ((e.Kids.length:Int) - 1)))).bind λl21=>
  (fA R175 l21 r20 r19.2).bind λr22=>
  (ay ([eS]:List ae) r22.1 r22.2).bind λr23=>
  (cX e.Kids (dt ((e.Kids.length:Int) - 1))).bind λx24=>
  (R175 x24 r23 r22.2).bind λr25=>
  some (r25.1,r25.2)
 else
  some (k0,k02)
theorem LR(R175:bp)(hR175:cq R175){e:ag}{k0:ae}{k02:Bool}:OG 118 [.bptr 0 0,.agg (ah e)] [] [.cells [.str k0,.bool k02] []] (rF R175 e k0 k02) (λr=>.tuple []) [] (λr=>[.cells [.str r.1,.bool r.2] []]):=qol.g 1<|
 te (bQ e)<|tw (bk e)<|tF (tb λr2 br2=>tv (aF e)<|tc [0] (LP R175 hR175 _ br2)<|tE)<|tF (tb λr4 br4=>tb λx5 bx5=>tb λr6 br6=>tb λr7 br7=>tb λx8 bx8=>tb λr9 br9=>tb λr10 br10=>tb λx11 bx11=>tb λr12 br12=>tv (bJ [Fj] 1 rfl)<|tc [0] (ax _ br4)<|tw (aq e)<|tv (dJ.ia (k:=.i64) bx5)<|tv (aF x5)<|tc [0] (hR175 _ _ _ _ br6)<|tv (bJ [lF] 1 rfl)<|tc [0] (ax _ br7)<|tw (aq e)<|tv (dJ.ia (k:=.i64) bx8)<|tv (aF x8)<|tc [0] (hR175 _ _ _ _ br9)<|tv (bJ [lE] 1 rfl)<|tc [0] (ax _ br10)<|tw (aq e)<|tv (dJ.ia (k:=.i64) bx11)<|tv (aF x11)<|tc [0] (hR175 _ _ _ _ br12)<|tE)<|tF (tb λr14 br14=>tv (aF e)<|tc [0] (I7 R175 hR175 _ br14)<|tE)<|tF (tb λr16 br16=>tv (aF e)<|tc [0] (LO R175 hR175 _ br16)<|tE)<|tF (tb λr18 br18=>tb λr19 br19=>tb λr20 br20=>tb λl21 bl21=>tb λr22 br22=>tb λr23 br23=>tb λx24 bx24=>tb λr25 br25=>tv (bJ [Az] 1 rfl)<|tc [0] (ax _ br18)<|tw (ch e)<|tc [0] (dw _ br19)<|tv (bJ [dh] 1 rfl)<|tc [0] (ax _ br20)<|tw (aq e)<|tw (aq e)<|bL (dJ.ln e.Kids)<|tv (dJ.sc bl21)<|tc [0] (iv R175 hR175 _ br22)<|tv (bJ [eS] 1 rfl)<|tc [0] (ax _ br23)<|tw (aq e)<|tw (aq e)<|bL (dJ.ln e.Kids)<|tv (dJ.ia (k:=.i64) bx24)<|tv (aF x24)<|tc [0] (hR175 _ _ _ _ br25)<|tE)<|tE
noncomputable def qgA:Code:=f173.body.getD .skip
def qm2:List Nat:=[8,30]
theorem qiA:ZF Pg qm2 173 f173 qgA:=zf call173 func173 rfl mixed
section
variable(n:Int)(s:ae)(m:Int)(d:Int)
def GF:Option Int:=
 if decide (d<0)=true then
  some (IntKind.i64.wrap (0 - d))
 else
  some d
theorem Rk:OJ 0 (cA qgA 7926) (GF d) .normal (λo=>aQ 31 [(0,.int .i64 n),(3,.str s),(4,.int .i64 m),(5,.int .i64 o)] [] []) (aQ 31 [(0,.int .i64 n),(3,.str s),(4,.int .i64 m),(5,.int .i64 d)] [] []):=qiA.j<|
 tF tE<|tE
end
section
variable(n:Int)(s:ae)(m:Int)
def Cf:aK:=aQ 31 [(0,.int .i64 n),(3,.str s),(4,.int .i64 m)] [] []
def JD(o:ae):aK:=aQ 31 [(0,.int .i64 n),(3,.str o)] [] []
def lS:Option ((ae×Int)⊕(ae)):=
 if(m !=0)=true then
  (re m 10).bind λq3=>
  (GF q3).bind λo5=>
  (iw ([IntKind.u8.wrap (dt (48+o5))]:List Int)).bind λs6=>
  (Mc s6 s).bind λs7=>
  (qu .i64 m 10).bind λq8=>
  some (.inl (s7,q8))
 else
  some (.inr s)
def qy:Option ae:=loop (λ(zz:ae×Int)=>lS zz.1 zz.2) (s,m)
theorem PN:OL 0 (cA qgA 247) (lS s m) (λ(zz:ae×Int)=>Cf n zz.1 zz.2) (λ_=>.exit 0) (JD n) (Cf n s m):=qiA.l<|
 tF (tb λq3 bq3=>tb λo5 bo5=>tb λs6 bs6=>tb λs7 bs7=>tb λq8 bq8=>tv (Pl (P:=Pg) (t:=3) (k:=.i64) bq3)<|fc 0<|bT (Rk n s m q3 _ bo5)<|tv (qtB underlying3 underlying5 (dt (48+o5)))<|tv (qjG.mk' (v:=(PVal.int .u8)) (qru .u8) ([IntKind.u8.wrap (dt (48+o5))]:List Int) 1 (by kernel_rfl))<|tv (qtA underlying72 underlying9 underlying5 bs6)<|tv (gC (P:=Pg) (t:=9) bs7)<|tv (Pk (P:=Pg) (t:=3) bq8)<|tE)<|tE
theorem Rl:OJ 0 (.loop (cA qgA 247)) (qy s m) (.exit 0) (JD n) (Cf n s m):=y1 λ_=>PN _ _ _
end
def GD(n:Int):Option ae:=
 if(n==0)=true then
  some ([48]:ae)
 else
  (qy ([]:ae) n).bind λo9=>
  if decide (n<0)=true then
   (Mc ([45]:ae) o9).bind λs11=>
   some s11
  else
   some o9
theorem Pc{n:Int}:OV 173 [.int .i64 n] (GD n) (λr=>.str r) []:=qiA.v<|
 tF tE<|tb λo9 bo9=>bT (Rl n ([]:ae) n _ bo9)<|tF (tb λs11 bs11=>tv (gC (P:=Pg) (t:=9) bs11)<|tE)<|tE
noncomputable def qiV:Code:=f174.body.getD .skip
def qm3:List Nat:=[16]
theorem qkp:ZF Pg qm3 174 f174 qiV:=zf call174 func174 rfl mixed
section
variable(t12:waB)(t13:Int)(t14:Int)(m:ae)(m2:Bool)
def iR:aK:=aQ 29 [(0,.bptr 0 0),(12,sl ai t12),(13,.int .i64 t13),(14,.int .i64 t14)] [.cells [.str m,.bool m2] []] []
def l9(o:ae×Bool):aK:=aQ 29 [(0,.bptr 0 0)] [.cells [.str o.1,.bool o.2] []] []
instance iS_R22_Writer_types_L1:KS 1 (iR t12 t13 t14 m m2):=⟨rfl,(bD (aI (cZ rfl) (aI (up (aZ cJ t12)) (aI vzz (aI vzz vzz))))),(aI (aI vzz (aI vzz vzz)) trivial)⟩
instance iO_R22_Writer_types_L1{o:(ae×Bool)}:KS 1 (l9 o):=⟨rfl,(bD (aI (cZ rfl) trivial)),(aI (aI vzz (aI vzz vzz)) trivial)⟩
def eL:Option ((Int×ae×Bool)⊕((ae×Bool))):=
 if decide (t14<t13)=true then
  (cX t12 t14).bind λx4=>
  (eU t14 m m2).bind λr5=>
  (gu x4 r5 m2).bind λr6=>
  some (.inl (dt (t14+1),r6.2,r6.1))
 else
  some (.inr (m,m2))
def oS:Option ((ae×Bool)):=loop (λ(zz:Int×ae×Bool)=>eL t12 t13 zz.1 zz.2.1 zz.2.2) (t14,m,m2)
theorem C2:OL 1 (cA qiV 119) (eL t12 t13 t14 m m2) (λ(zz:Int×ae×Bool)=>iR t12 t13 zz.1 zz.2.1 zz.2.2) (λ_=>.exit 0) l9 (iR t12 t13 t14 m m2):=qkp.lx<|
 tF (tb λx4 bx4=>tb λr5 br5=>tb λr6 br6=>tv (cu.ia (k:=.i64) bx4)<|tv (bo x4)<|tx K8<|tx (gJ x4)<|tc [0] (fq _ br5)<|tv (ed x4 [])<|tc [0] (jy _ br6)<|tE)<|tE
theorem En:OJ 1 (.loop (cA qiV 119)) (oS t12 t13 t14 m m2) (.exit 0) l9 (iR t12 t13 t14 m m2):=y1 λ_=>C2 _ _ _ _ _
end
def n5(a:waB)(k0:ae)(k02:Bool):Option (ae×Bool):=
 if((a.length:Int)==0)=true then
  some (k0,k02)
 else
  (ay ([VO]:List ae) k0 k02).bind λr2=>
  (oS a (a.length:Int) 0 r2 k02).bind λo7=>
  (ay ([VP]:List ae) o7.1 o7.2).bind λr8=>
  some (r8,o7.2)
theorem Jb{a:waB}{k0:ae}{k02:Bool}:OG 174 [.bptr 0 0,sl ai a] [] [.cells [.str k0,.bool k02] []] (n5 a k0 k02) (λr=>.tuple []) [] (λr=>[.cells [.str r.1,.bool r.2] []]):=qkp.g 1<|
 bL (cu.ln a)<|tF tE<|tb λr2 br2=>tb λo7 bo7=>tb λr8 br8=>tv (bJ [VO] 1 rfl)<|tc [0] (ax _ br2)<|bL (cu.ln a)<|bT (En a (a.length:Int) 0 r2 k02 _ bo7)<|tv (bJ [VP] 1 rfl)<|tc [0] (ax _ br8)<|tE
noncomputable def qkN:Code:=f119.body.getD .skip
def qmp:List Nat:=[]
theorem qkd:ZF Pg qmp 119 f119 qkN:=zf call119 func119 rfl mixed
section
variable(e:ag)(t5:Int)(m:ae)(m2:Bool)
def lc:Option Bool:=
 if(t5==4)=true then
  some (t5==4)
 else
  some (t5==5)
theorem F7:OJ 1 (cA qkN 2046) (lc t5) .normal (λo=>aQ 112 [(0,.bptr 0 0),(3,.eptr (ah e)),(5,.int .i64 t5),(40,.bool o)] [.cells [.str m,.bool m2] [],.dead] []) (aQ 112 [(0,.bptr 0 0),(3,.eptr (ah e)),(5,.int .i64 t5)] [.cells [.str m,.bool m2] [],.dead] []):=qkd.j<|
 tF tE<|tE
end
def pX(R175:bp)(e:ag)(k0:ae)(k02:Bool):Option (ae×Bool):=
 if(e.Op==1)=true then
  if decide (e.N<0)=true then
   (GD e.N).bind λr3=>
   (ay ([cE,r3,dI]:List ae) k0 k02).bind λr4=>
   some (r4,k02)
  else
   (GD e.N).bind λr5=>
   (ay ([r5]:List ae) k0 k02).bind λr6=>
   some (r6,k02)
 else if(e.Op==2)=true then
  if(e.N==1)=true then
   (ay ([nR]:List ae) k0 k02).bind λr9=>
   some (r9,k02)
  else
   (ay ([tn]:List ae) k0 k02).bind λr10=>
   some (r10,k02)
 else if(e.Op==3)=true then
  (cT e.Name false k0 k02).bind λr12=>
  some (r12.1,r12.2)
 else
  (lc e.Op).bind λo14=>
  if o14=true then
   (cT e.Name (e.Op==4) k0 k02).bind λr16=>
   (n5 e.Types r16.1 r16.2).bind λr17=>
   if decide ((e.Kids.length:Int)>0)=true then
    (fA R175 e.Kids r17.1 r17.2).bind λr19=>
    some (r19.1,r19.2)
   else
    some (r17.1,r17.2)
  else if(e.Op==22)=true then
   (ay ([VS]:List ae) k0 k02).bind λr21=>
   (fA R175 e.Kids r21 k02).bind λr22=>
   some (r22.1,r22.2)
  else if(e.Op==23)=true then
   (ay ([VQ]:List ae) k0 k02).bind λr24=>
   (fA R175 e.Kids r24 k02).bind λr25=>
   some (r25.1,r25.2)
  else if(e.Op==24)=true then
   (ay ([VT]:List ae) k0 k02).bind λr27=>
   (fA R175 e.Kids r27 k02).bind λr28=>
   some (r28.1,r28.2)
  else if(e.Op==26)=true then
   (ay ([cE]:List ae) k0 k02).bind λr30=>
   (cX e.Kids 0).bind λx31=>
   (R175 x31 r30 k02).bind λr32=>
   (ay ([bX]:List ae) r32.1 r32.2).bind λr33=>
   (cX e.Types 0).bind λx34=>
   (gu x34 r33 r32.2).bind λr35=>
   (ay ([dI]:List ae) r35.2 r35.1).bind λr36=>
   some (r36,r35.1)
  else
   some (k0,k02)
theorem Kl(R175:bp)(hR175:cq R175){e:ag}{k0:ae}{k02:Bool}:OG 119 [.bptr 0 0,.agg (ah e)] [] [.cells [.str k0,.bool k02] []] (pX R175 e k0 k02) (λr=>.tuple []) [] (λr=>[.cells [.str r.1,.bool r.2] []]):=qkd.g 1<|
 te (bQ e)<|tw (bk e)<|tF (tw (bF e)<|tF (tb λr3 br3=>tb λr4 br4=>tw (bF e)<|bG (Pc _ br3)<|tv (bJ [cE,r3,dI] 3 rfl)<|tc [0] (ax _ br4)<|tE)<|tb λr5 br5=>tb λr6 br6=>tw (bF e)<|bG (Pc _ br5)<|tv (bJ [r5] 1 rfl)<|tc [0] (ax _ br6)<|tE)<|tF (tw (bF e)<|tF (tb λr9 br9=>tv (bJ [nR] 1 rfl)<|tc [0] (ax _ br9)<|tE)<|tb λr10 br10=>tv (bJ [tn] 1 rfl)<|tc [0] (ax _ br10)<|tE)<|tF (tb λr12 br12=>tw (ch e)<|tc [0] (dw _ br12)<|tE)<|tb λo14 bo14=>fc 0<|bT (F7 e e.Op k0 k02 _ bo14)<|tF (tb λr16 br16=>tb λr17 br17=>tw (ch e)<|tw (bk e)<|tc [0] (dw _ br16)<|tw (aw e)<|tc [0] (Jb _ br17)<|tw (aq e)<|bL (dJ.ln e.Kids)<|tF (tb λr19 br19=>tw (aq e)<|tc [0] (iv R175 hR175 _ br19)<|tE)<|tE)<|tF (tb λr21 br21=>tb λr22 br22=>tv (bJ [VS] 1 rfl)<|tc [0] (ax _ br21)<|tw (aq e)<|tc [0] (iv R175 hR175 _ br22)<|tE)<|tF (tb λr24 br24=>tb λr25 br25=>tv (bJ [VQ] 1 rfl)<|tc [0] (ax _ br24)<|tw (aq e)<|tc [0] (iv R175 hR175 _ br25)<|tE)<|tF (tb λr27 br27=>tb λr28 br28=>tv (bJ [VT] 1 rfl)<|tc [0] (ax _ br27)<|tw (aq e)<|tc [0] (iv R175 hR175 _ br28)<|tE)<|tF (tb λr30 br30=>tb λx31 bx31=>tb λr32 br32=>tb λr33 br33=>tb λx34 bx34=>tb λr35 br35=>tb λr36 br36=>tv (bJ [cE] 1 rfl)<|tc [0] (ax _ br30)<|tw (aq e)<|tv (dJ.ia (k:=.i64) bx31)<|tv (aF x31)<|tc [0] (hR175 _ _ _ _ br32)<|tv (bJ [bX] 1 rfl)<|tc [0] (ax _ br33)<|tw (aw e)<|tv (cu.ia (k:=.i64) bx34)<|tv (bo x34)<|tc [0] (jy _ br35)<|tv (bJ [dI] 1 rfl)<|tc [0] (ax _ br36)<|tE)<|tE
noncomputable def qpE:Code:=f176.body.getD .skip
def qm5:List Nat:=[]
theorem qoE:ZF Pg qm5 176 f176 qpE:=zf call176 func176 rfl mixed
def iu(R175:bp)(e:ag)(least:Int)(k0:ae)(k02:Bool):Option (ae×Bool):=
 (Is e).bind λr1=>
 if decide (r1<least)=true then
  (ay ([cE]:List ae) k0 k02).bind λr3=>
  (R175 e r3 k02).bind λr4=>
  (ay ([dI]:List ae) r4.1 r4.2).bind λr5=>
  some (r5,r4.2)
 else
  (R175 e k0 k02).bind λr6=>
  some (r6.1,r6.2)
theorem mt(R175:bp)(hR175:cq R175){e:ag}{least:Int}{k0:ae}{k02:Bool}:OG 176 [.bptr 0 0,.agg (ah e),.int .i64 least] [] [.cells [.str k0,.bool k02] []] (iu R175 e least k0 k02) (λr=>.tuple []) [] (λr=>[.cells [.str r.1,.bool r.2] []]):=qoE.g 1<|
 tb λr1 br1=>te (bQ e)<|tv (aF e)<|bG (LX _ br1)<|tF (tb λr3 br3=>tb λr4 br4=>tb λr5 br5=>tv (bJ [cE] 1 rfl)<|tc [0] (ax _ br3)<|tv (aF e)<|tc [0] (hR175 _ _ _ _ br4)<|tv (bJ [dI] 1 rfl)<|tc [0] (ax _ br5)<|tE)<|tb λr6 br6=>tv (aF e)<|tc [0] (hR175 _ _ _ _ br6)<|tE
noncomputable def qpD:Code:=f175.body.getD .skip
def qm4:List Nat:=[]
theorem qoD:ZF Pg qm4 175 f175 qpD:=zf call175 func175 rfl mixed
def cY(R175:bp)(e:ag)(sign:ae)(left:Int)(right:Int)(k0:ae)(k02:Bool):Option (ae×Bool):=
 (cX e.Kids 0).bind λx1=>
 (iu R175 x1 left k0 k02).bind λr2=>
 (ay ([dh,sign,dh]:List ae) r2.1 r2.2).bind λr3=>
 (cX e.Kids 1).bind λx4=>
 (iu R175 x4 right r3 r2.2).bind λr5=>
 some (r5.1,r5.2)
theorem dn(R175:bp)(hR175:cq R175){e:ag}{sign:ae}{left:Int}{right:Int}{k0:ae}{k02:Bool}:OG 175 [.bptr 0 0,.agg (ah e),.str sign,.int .i64 left,.int .i64 right] [] [.cells [.str k0,.bool k02] []] (cY R175 e sign left right k0 k02) (λr=>.tuple []) [] (λr=>[.cells [.str r.1,.bool r.2] []]):=qoD.g 1<|
 tb λx1 bx1=>tb λr2 br2=>tb λr3 br3=>tb λx4 bx4=>tb λr5 br5=>te (bQ e)<|tw (aq e)<|tv (dJ.ia (k:=.i64) bx1)<|tv (aF x1)<|tc [0] (mt R175 hR175 _ br2)<|tv (bJ [dh,sign,dh] 3 rfl)<|tc [0] (ax _ br3)<|tw (aq e)<|tv (dJ.ia (k:=.i64) bx4)<|tv (aF x4)<|tc [0] (mt R175 hR175 _ br5)<|tE
noncomputable def qpm:Code:=f120.body.getD .skip
def qmq:List Nat:=[]
theorem qom:ZF Pg qmq 120 f120 qpm:=zf call120 func120 rfl mixed
def jx(R175:bp)(e:ag)(k0:ae)(k02:Bool):Option (ae×Bool):=
 if(e.Op==20)=true then
  (cY R175 e wD 1 2 k0 k02).bind λr2=>
  some (r2.1,r2.2)
 else if(e.Op==19)=true then
  (cY R175 e wB 2 3 k0 k02).bind λr4=>
  some (r4.1,r4.2)
 else if(e.Op==21)=true then
  (nj e).bind λr6=>
  if r6=true then
   (cX e.Kids 0).bind λx8=>
   (cY R175 x8 gV 5 5 k0 k02).bind λr9=>
   some (r9.1,r9.2)
  else
   (ay ([xS]:List ae) k0 k02).bind λr10=>
   (cX e.Kids 0).bind λx11=>
   (iu R175 x11 3 r10 k02).bind λr12=>
   some (r12.1,r12.2)
 else if(e.Op==16)=true then
  (cY R175 e ZA 5 5 k0 k02).bind λr14=>
  some (r14.1,r14.2)
 else if(e.Op==17)=true then
  (cY R175 e PK 5 5 k0 k02).bind λr16=>
  some (r16.1,r16.2)
 else if(e.Op==18)=true then
  (cY R175 e wC 5 5 k0 k02).bind λr18=>
  some (r18.1,r18.2)
 else if(e.Op==10)=true then
  (cY R175 e PJ 5 6 k0 k02).bind λr20=>
  some (r20.1,r20.2)
 else if(e.Op==11)=true then
  (cY R175 e pT 5 6 k0 k02).bind λr22=>
  some (r22.1,r22.2)
 else if(e.Op==12)=true then
  (cY R175 e PI 6 7 k0 k02).bind λr24=>
  some (r24.1,r24.2)
 else if(e.Op==13)=true then
  (cY R175 e qip 6 7 k0 k02).bind λr26=>
  some (r26.1,r26.2)
 else if(e.Op==14)=true then
  (cY R175 e qiq 6 7 k0 k02).bind λr28=>
  some (r28.1,r28.2)
 else if(e.Op==15)=true then
  (ay ([pT]:List ae) k0 k02).bind λr30=>
  (cX e.Kids 0).bind λx31=>
  (iu R175 x31 7 r30 k02).bind λr32=>
  some (r32.1,r32.2)
 else
  some (k0,k02)
theorem C1(R175:bp)(hR175:cq R175){e:ag}{k0:ae}{k02:Bool}:OG 120 [.bptr 0 0,.agg (ah e)] [] [.cells [.str k0,.bool k02] []] (jx R175 e k0 k02) (λr=>.tuple []) [] (λr=>[.cells [.str r.1,.bool r.2] []]):=qom.g 1<|
 te (bQ e)<|tw (bk e)<|tF (tb λr2 br2=>tv (aF e)<|tc [0] (dn R175 hR175 _ br2)<|tE)<|tF (tb λr4 br4=>tv (aF e)<|tc [0] (dn R175 hR175 _ br4)<|tE)<|tF (tb λr6 br6=>tv (aF e)<|bG (Ht _ br6)<|tF (tb λx8 bx8=>tb λr9 br9=>tw (aq e)<|tv (dJ.ia (k:=.i64) bx8)<|tv (aF x8)<|tc [0] (dn R175 hR175 _ br9)<|tE)<|tb λr10 br10=>tb λx11 bx11=>tb λr12 br12=>tv (bJ [xS] 1 rfl)<|tc [0] (ax _ br10)<|tw (aq e)<|tv (dJ.ia (k:=.i64) bx11)<|tv (aF x11)<|tc [0] (mt R175 hR175 _ br12)<|tE)<|tF (tb λr14 br14=>tv (aF e)<|tc [0] (dn R175 hR175 _ br14)<|tE)<|tF (tb λr16 br16=>tv (aF e)<|tc [0] (dn R175 hR175 _ br16)<|tE)<|tF (tb λr18 br18=>tv (aF e)<|tc [0] (dn R175 hR175 _ br18)<|tE)<|tF (tb λr20 br20=>tv (aF e)<|tc [0] (dn R175 hR175 _ br20)<|tE)<|tF (tb λr22 br22=>tv (aF e)<|tc [0] (dn R175 hR175 _ br22)<|tE)<|tF (tb λr24 br24=>tv (aF e)<|tc [0] (dn R175 hR175 _ br24)<|tE)<|tF (tb λr26 br26=>tv (aF e)<|tc [0] (dn R175 hR175 _ br26)<|tE)<|tF (tb λr28 br28=>tv (aF e)<|tc [0] (dn R175 hR175 _ br28)<|tE)<|tF (tb λr30 br30=>tb λx31 bx31=>tb λr32 br32=>tv (bJ [pT] 1 rfl)<|tc [0] (ax _ br30)<|tw (aq e)<|tv (dJ.ia (k:=.i64) bx31)<|tv (aF x31)<|tc [0] (mt R175 hR175 _ br32)<|tE)<|tE
noncomputable def qtq:Code:=f66.body.getD .skip
def qsg:List Nat:=[]
theorem qsX:ZF Pg qsg 66 f66 qtq:=zf call66 func66 rfl mixed
def gE(R175:bp)(e:ag)(k0:ae)(k02:Bool):Option (ae×Bool):=
 if k02=true then
  some (k0,k02)
 else
  (Is e).bind λr2=>
  if(r2==0)=true then
   (rF R175 e k0 k02).bind λr4=>
   some (r4.1,r4.2)
  else if(r2==8)=true then
   (pX R175 e k0 k02).bind λr6=>
   some (r6.1,r6.2)
  else
   (jx R175 e k0 k02).bind λr7=>
   some (r7.1,r7.2)
theorem I6(R175:bp)(hR175:cq R175){e:ag}{k0:ae}{k02:Bool}:OG 66 [.bptr 0 0,.agg (ah e)] [] [.cells [.str k0,.bool k02] []] (gE R175 e k0 k02) (λr=>.tuple []) [] (λr=>[.cells [.str r.1,.bool r.2] []]):=qsX.g 1<|
 te (bQ e)<|ts<|tF tE<|tb λr2 br2=>tv (aF e)<|bG (LX _ br2)<|tF (tb λr4 br4=>tv (aF e)<|tc [0] (LR R175 hR175 _ br4)<|tE)<|tF (tb λr6 br6=>tv (aF e)<|tc [0] (Kl R175 hR175 _ br6)<|tE)<|tb λr7 br7=>tv (aF e)<|tc [0] (C1 R175 hR175 _ br7)<|tE
def jv:((ag×ae×Bool)->Option (ae×Bool))->(ag×ae×Bool)->Option (ae×Bool):=λ(rec:(ag×ae×Bool)->Option (ae×Bool)) (x:ag×ae×Bool)=>gE (λe k0 k02=>rec (e,k0,k02)) x.1 x.2.1 x.2.2
def lI(e:ag)(k0:ae)(k02:Bool):Option (ae×Bool):=pA jv (e,k0,k02)
theorem Kn{e:ag}{k0:ae}{k02:Bool}:OG 66 [.bptr 0 0,.agg (ah e)] [] [.cells [.str k0,.bool k02] []] (lI e k0 k02) (λr=>.tuple []) [] (λr=>[.cells [.str r.1,.bool r.2] []]):=Vo λ_ h=>
 dN (F:=jv) (M:=λ(x:ag×ae×Bool) (r:ae×Bool)=>C Pg GE 66 [.bptr 0 0,.agg (ah x.1)] [] [.cells [.str x.2.1,.bool x.2.2] []] (.tuple []) [] [.cells [.str r.1,.bool r.2] []]) (λrec hrec x r h=>I6 _ (λe k0 k02=>Vo λr h=>hrec (e,k0,k02) r h) _ h) h
noncomputable def qte:Code:=f28.body.getD .skip
def qrU:List Nat:=[]
theorem qsL:ZF Pg qrU 28 f28 qte:=zf call28 func28 rfl mixed
def ub(e:ag)(k0:ae)(k02:Bool):Option (ae×Bool):=
 (yV e).bind λr1=>
 (dl (r1==0) k0 k02).bind λr2=>
 (lI e k0 r2).bind λr3=>
 some (r3.1,r3.2)
theorem Jc{e:ag}{k0:ae}{k02:Bool}:OG 28 [.bptr 0 0,.agg (ah e)] [] [.cells [.str k0,.bool k02] []] (ub e k0 k02) (λr=>.tuple []) [] (λr=>[.cells [.str r.1,.bool r.2] []]):=qsL.g 1<|
 tb λr1 br1=>tb λr2 br2=>tb λr3 br3=>te (bQ e)<|tv (aF e)<|bG (Wd _ br1)<|tc [0] (dy _ br2)<|tv (aF e)<|tc [0] (Kn _ br3)<|tE
noncomputable def qs8:Code:=f11.body.getD .skip
def qrJ:List Nat:=[]
theorem qsF:ZF Pg qrJ 11 f11 qs8:=zf call11 func11 rfl mixed
def Hl(e:ag):Option ae:=
 (ub e ([]:ae) false).bind λr1=>
 if r1.2=true then
  some ([]:ae)
 else
  some r1.1
theorem Bt{e:ag}:OV 11 [.agg (ah e)] (Hl e) (λr=>.str r) []:=qsF.v<|
 tb λr1 br1=>te (bQ e)<|tv (lL)<|qhT (mC (⟨([]:ae),false⟩:d9)) rfl<|tv (aF e)<|tc [1] (Jc _ br1)<|ts<|tF tE<|ts<|tE
noncomputable def b8:Code:=Tryz.f8.body.getD .skip
def A8:List Nat:=[]
theorem Z8:ZF Pg A8 8 Tryz.f8 b8:=zf call8 func8 rfl mixed
def LM(t:af):Option ae:=
 (gu t ([]:ae) false).bind λr1=>
 if r1.1=true then
  some ([]:ae)
 else
  some r1.2
theorem Bu{t:af}:OV 8 [.agg (ai t)] (LM t) (λr=>.str r) []:=Z8.v<|
 tb λr1 br1=>te (dR t)<|tv (lL)<|qhT (mC (⟨([]:ae),false⟩:d9)) rfl<|tv (bo t)<|tc [1] (jy _ br1)<|ts<|tF tE<|ts<|tE
noncomputable def b3:Code:=Tryz.f3.body.getD .skip
def A3:List Nat:=[]
theorem Z3:ZF Pg A3 3 Tryz.f3 b3:=zf call3 func3 rfl mixed
def zF(t:af)(e:ag):Option Bool:=
 (pw t 4).bind λr1=>
 if (!r1) = true then
  (C3 e).bind λr3=>
  if(!r3)=true then
   yW.bind λr5=>
   some r5
  else
   (lu e).bind λr6=>
   (Hl e).bind λr7=>
   if(r6==r7)=true then
    yW.bind λr9=>
    some r9
   else
    some false
 else
  (Ab t).bind λr10=>
  (LM t).bind λr11=>
  if (r10 == r11) = true then
   (C3 e).bind λr13=>
   if(!r13)=true then
    yW.bind λr15=>
    some r15
   else
    (lu e).bind λr16=>
    (Hl e).bind λr17=>
    if(r16==r17)=true then
     yW.bind λr19=>
     some r19
    else
     some false
  else
   some false
theorem LY{t:af}{e:ag}:OV 3 [.agg (ai t),.agg (ah e)] (zF t e) (λr=>.bool r) []:=Z3.v<|
 tb λr1 br1=>te (dR t)<|te (bQ e)<|tf (λc2=>tb λr3 br3=>tf (λc4=>tb λr5 br5=>VE [0,1,3,7,15,31,15,127,255,511,1023,2047,4095,8191,16383,32767,65535,32767,262143,524287,1048575,2097151,4194303,8388607,16777215,33554431]<|tv (bo t)<|bG (ey _ br1)<|tg 4 c2<|tv (aF e)<|bG (n8 _ br3)<|tg 15 c4<|bG (yj _ br5)<|tE) λc4=>tb λr6 br6=>tb λr7 br7=>tf (λc8=>tb λr9 br9=>VE [0,1,3,7,15,31,15,127,255,511,1023,2047,4095,8191,16383,32767,65535,32767,262143,524287,1048575,2097151,4194303,8388607,16777215,33554431]<|tv (bo t)<|bG (ey _ br1)<|tg 4 c2<|tv (aF e)<|bG (n8 _ br3)<|tg 15 c4<|tv (aF e)<|bG (ig _ br6)<|tv (aF e)<|bG (Bt _ br7)<|tg 23 c8<|bG (yj _ br9)<|tE) λc8=>VE [0,1,3,7,15,31,15,127,255,511,1023,2047,4095,8191,16383,32767,65535,32767,262143,524287,1048575,2097151,4194303,8388607,16777215,33554431]<|tv (bo t)<|bG (ey _ br1)<|tg 4 c2<|tv (aF e)<|bG (n8 _ br3)<|tg 15 c4<|tv (aF e)<|bG (ig _ br6)<|tv (aF e)<|bG (Bt _ br7)<|tg 23 c8<|tE) λc2=>tb λr10 br10=>tb λr11 br11=>tf (λc12=>tb λr13 br13=>tf (λc14=>tb λr15 br15=>VE [0,1,3,7,15,31,15,127,255,511,1023,2047,4095,8191,16383,32767,65535,32767,262143,524287,1048575,2097151,4194303,8388607,16777215,33554431]<|tv (bo t)<|bG (ey _ br1)<|tg 4 c2<|tv (bo t)<|bG (pG _ br10)<|tv (bo t)<|bG (Bu _ br11)<|tg 11 c12<|tv (aF e)<|bG (n8 _ br13)<|tg 15 c14<|bG (yj _ br15)<|tE) λc14=>tb λr16 br16=>tb λr17 br17=>tf (λc18=>tb λr19 br19=>VE [0,1,3,7,15,31,15,127,255,511,1023,2047,4095,8191,16383,32767,65535,32767,262143,524287,1048575,2097151,4194303,8388607,16777215,33554431]<|tv (bo t)<|bG (ey _ br1)<|tg 4 c2<|tv (bo t)<|bG (pG _ br10)<|tv (bo t)<|bG (Bu _ br11)<|tg 11 c12<|tv (aF e)<|bG (n8 _ br13)<|tg 15 c14<|tv (aF e)<|bG (ig _ br16)<|tv (aF e)<|bG (Bt _ br17)<|tg 23 c18<|bG (yj _ br19)<|tE) λc18=>VE [0,1,3,7,15,31,15,127,255,511,1023,2047,4095,8191,16383,32767,65535,32767,262143,524287,1048575,2097151,4194303,8388607,16777215,33554431]<|tv (bo t)<|bG (ey _ br1)<|tg 4 c2<|tv (bo t)<|bG (pG _ br10)<|tv (bo t)<|bG (Bu _ br11)<|tg 11 c12<|tv (aF e)<|bG (n8 _ br13)<|tg 15 c14<|tv (aF e)<|bG (ig _ br16)<|tv (aF e)<|bG (Bt _ br17)<|tg 23 c18<|tE) λc12=>VE [0,1,3,7,15,31,15,127,255,511,1023,2047,4095,8191,16383,32767,65535,32767,262143,524287,1048575,2097151,4194303,8388607,16777215,33554431]<|tv (bo t)<|bG (ey _ br1)<|tg 4 c2<|tv (bo t)<|bG (pG _ br10)<|tv (bo t)<|bG (Bu _ br11)<|tg 11 c12<|tE
open Go
theorem ej{σ X:Type}(n:Nat)(body:σ->Option (σ⊕X))(S:Nat->σ)(e:X)(hin:∀i,i<n->body (S i)=some (.inl (S (i+1))))(hend:body (S n)=some (.inr e)):loop body (S 0)=some e:=by
 have key:∀k i,k+i=n->loop body (S i)=some e:=by
  intro k
  induction k with
  |zero=>
   intro i hi
   have:i=n:=by omega
   subst this
   exact fx hend
  |succ k ih=>
   intro i hi
   rw[ol (hin i (by omega))]
   exact ih (i+1) (by omega)
 exact key n 0 (by omega)
set_option linter.unusedSimpArgs false
def Lu(neg:Bool)(n:Nat):Int:=if neg=true then -(n:Int)else n
theorem qfE(neg:Bool)(n k:Nat)(hk:0<k):re (Lu neg n) (k:Int)=some (Lu neg (n % k)):=by
 unfold re
 rw[vab (by omega)]
 cases neg with
 |false=>simp only[Lu,vaq,if_false];rw[vcm (by omega)];rfl
 |true=>simp only[Lu,if_true];rw[Int.neg_tmod,vcm (by omega)];rfl
theorem qfD(neg:Bool)(n k:Nat)(hk:0<k)(hn:n<4000000000000000000):qu .i64 (Lu neg n) (k:Int)=some (Lu neg (n / k)):=by
 unfold qu
 rw[vab (by omega)]
 have hd:n / k<=n:=Nat.div_le_self n k
 cases neg with
 |false=>
  simp only[Lu,vaq,if_false]
  rw[vcn (by omega),show((n:Int) / (k:Int))=((n / k:Nat):Int)from rfl]
  generalize n / k=q at hd
  exact vaW some (cC (by omega) (by omega))
 |true=>
  simp only[Lu,if_true]
  rw[Int.neg_tdiv,vcn (by omega),show((n:Int) / (k:Int))=((n / k:Nat):Int)from rfl]
  generalize n / k=q at hd
  exact vaW some (cC (by omega) (by omega))
theorem qhY(neg:Bool)(d:Nat)(hd:d<10000):(if decide (Lu neg d<0)=true then some (IntKind.i64.wrap (0 - Lu neg d))else some (Lu neg d))=some (d:Int):=by
 cases neg with
 |false=>simp only[Lu,vaq,if_false];rw[vab (by simp)]
 | true =>
  simp only[Lu,if_true]
  by_cases h:d=0
  ·subst h;rfl
  ·rw[vad (by simp;omega),show(0:Int) - -(d:Int)=d by omega]
   exact vaW some (cC (by omega) (by omega))
theorem qin(neg:Bool)(n:Nat)(h:n≠0):(Lu neg n !=0)=true:=by cases neg<;>simp[Lu]<;>omega
theorem qbN(neg:Bool):(Lu neg 0 !=0)=false:=by cases neg<;>rfl
theorem qqo(d:Nat)(h:d<10):iw ([IntKind.u8.wrap (dt (48+(d:Int)))]:List Int)=some [UInt8.ofNat (48+d)]:=by
 have h4:IntKind.u8.wrap (dt (48+(d:Int)))=((48+d:Nat):Int):=by
  rw[cC (by omega) (by omega)]
  have h5:(48:Int)+(d:Int)=((48+d:Nat):Int):=by omega
  rw[h5]
  generalize hq:48+d=q
  have:q<58:=by omega
  show((q:Int) % 256)=q
  omega
 rw[h4]
 simp only[iw]
 rw[vad (by omega)]
 rfl
theorem TS(neg:Bool):∀(k n:Nat) (acc:ae),n<=k->n<4000000000000000000->acc.length+n<=4611686018427387903->qy acc (Lu neg n)=some (if n=0 then acc else Lib.decDigits n++acc)
 |k,0,acc,_,_,_=>by
  unfold qy
  refine fx ?_
  simp only[lS]
  rw[vab (by rw[qbN];simp)]
  rfl
 |0,n+1,_,h,_,_=>absurd h (by omega)
 | k + 1,n + 1,acc,hk,hn,ha => by
  have hb:lS acc (Lu neg (n+1))=some (.inl (UInt8.ofNat (48+(n+1) % 10)::acc,Lu neg ((n+1) / 10))):=by
   simp only[lS]
   rw[vad (qin neg (n+1) (by omega))]
   have h2:=qfE neg (n+1) 10 (by omega)
   have h7:=qfD neg (n+1) 10 (by omega) hn
   have h3:GF (Lu neg ((n+1) % 10))=some (((n+1) % 10:Nat):Int):=qhY neg _ (by omega)
   rw[show((10:Nat):Int)=10 from rfl]at h2 h7
   rw[h2]
   simp only[vaa]
   rw[h3]
   simp only[vaa]
   rw[qqo _ (by omega)]
   simp only[vaa]
   rw[gw (by simp;omega),h7]
   rfl
  unfold qy
  refine(ol (body:=λzz:ae×Int=>lS zz.1 zz.2) (s:=(acc,Lu neg (n+1))) (s':=(UInt8.ofNat (48+(n+1) % 10)::acc,Lu neg ((n+1) / 10))) hb).trans ?_
  have ih:=TS neg k ((n+1) / 10) (UInt8.ofNat (48+(n+1) % 10)::acc) (by omega) (by omega) (by simp;omega)
  unfold qy at ih
  rw[ih,vab (by omega:¬n+1=0)]
  conv=>rhs;rw[Lib.decDigits]
  by_cases h:n+1<10
  ·rw[dif_pos h,vad (by omega),vcE h]
   rfl
  ·rw[dif_neg h,vab (by omega)]
   simp
abbrev qf8(n:Int):Prop:=-1000000000000<=n/\n<=1000000000000
theorem qfR(n:Int):n=Lu (decide (n<0)) n.natAbs:=by
 unfold Lu
 by_cases h:n<0
 ·rw[vad (by simpa using h)];omega
 ·rw[vab (by simpa using h)];omega
theorem qet(u:Nat):(Lib.decDigits u).length<=u+1:=by
 induction u using Nat.strongRecOn with
 | _ u ih =>
  rw[Lib.decDigits]
  by_cases h:u<10
  ·rw[dif_pos h];simp
  ·rw[dif_neg h]
   have:=ih (u / 10) (by omega)
   simp
   omega
theorem TA{n:Int}(h:qf8 n):GD n=some (Lib.itoa n):=by
 unfold GD Lib.itoa
 by_cases h0:n=0
 ·subst h0;rw[vad (by rfl),vab (by omega)];rw[Lib.decDigits];rfl
 rw[vab (by simpa using h0)]
 have hl:=TS (decide (n<0)) n.natAbs n.natAbs [] (vay _) (by omega) (by simp;omega)
 rw[<-qfR]at hl
 rw[hl]
 simp only[vaa]
 rw[vab (by omega:¬n.natAbs=0)]
 have:=qet n.natAbs
 by_cases hn:n<0
 ·rw[vad (by simpa using hn),vad hn,vak,gw (by simp;omega)]
  rfl
 ·rw[vab (by simpa using hn),vab hn,vak,show n.natAbs=n.toNat by omega]
theorem IH{n:Int}(h:qf8 n):SH n=some (Lib.itoa n):=by
 unfold SH
 rw[vad (by simp;omega)]
def N0:Nat->Nat->List Nat
 |0,_=>[]
 |k+1,n=>if n=0 then[]else n % 10000::N0 k (n / 10000)
abbrev qeu(k n:Nat):List Int:=(N0 k n).map λ(d:Nat)=>(d:Int)
theorem WJ:∀(k n:Nat),(N0 k n).length<=k
 |0,_=>vay _
 | k + 1,n => by
  rw[N0]
  split
  ·simp
  ·simp only[vaG];exact Nat.succ_le_succ (WJ k _)
theorem qbr(neg:Bool):∀(k n:Nat) (v:List Int),n<10000 ^ k->n<4000000000000000000->v.length+k<=1000->yO (Lu neg n) v=some (v++qeu k n)
 |k,0,v,_,_,_=>by
  unfold yO
  refine fx ?_
  simp only[qz]
  rw[vab (by rw[qbN];simp)]
  cases k<;>simp[qeu,N0]
 |0,n+1,_,h,_,_=>by simp at h
 | k + 1,n + 1,v,hk,hn,hv => by
  have hb:qz (Lu neg (n+1)) v=some (.inl (Lu neg ((n+1) / 10000),v++[(((n+1) % 10000:Nat):Int)])):=by
   simp only[qz]
   rw[vad (qin neg (n+1) (by omega))]
   have h2:=qfE neg (n+1) 10000 (by omega)
   have h7:=qfD neg (n+1) 10000 (by omega) hn
   have h3:Nx (Lu neg ((n+1) % 10000))=some (((n+1) % 10000:Nat):Int):=qhY neg _ (by omega)
   rw[show((10000:Nat):Int)=10000 from rfl]at h2 h7
   rw[h2]
   simp only[vaa]
   rw[h3]
   simp only[vaa]
   rw[qn (by simp;omega)]
   simp only[vaa]
   rw[h7]
   rfl
  unfold yO
  refine(ol (body:=λzz:Int×List Int=>qz zz.1 zz.2) (s:=(Lu neg (n+1),v)) (s':=(Lu neg ((n+1) / 10000),v++[(((n+1) % 10000:Nat):Int)])) hb).trans ?_
  have ih:=qbr neg k ((n+1) / 10000) (v++[(((n+1) % 10000:Nat):Int)]) (by rw[Nat.pow_succ]at hk;omega) (by omega) (by simp;omega)
  unfold yO at ih
  rw[ih]
  simp[qeu,N0]
theorem qln{n:Int}(h:qf8 n):VW n=some ⟨decide (n<0),qeu 4 n.natAbs⟩:=by
 unfold VW
 have hl:=qbr (decide (n<0)) 4 n.natAbs [] (by omega) (by omega) (by simp)
 rw[<-qfR]at hl
 rw[hl]
 rfl
theorem WK:∀(k n:Nat),∀d∈N0 k n,d<10000
 |0,_=>λd hd=>nomatch hd
 | k + 1,n => fun d hd => by
  rw[N0]at hd
  split at hd
  ·cases hd
  ·rcases vaF.1 hd with rfl|hd
   ·omega
   ·exact WK k _ d hd
theorem Yr:∀(k n:Nat),n<10000 ^ k->∀(h:N0 k n≠[]),(N0 k n).getLast h≠0
 |0,_,_,h=>absurd rfl h
 | k + 1,n,hn,h => by
  by_cases h0:n=0
  ·exact absurd (by rw[N0,vad h0]) h
  have e:N0 (k+1) n=n % 10000::N0 k (n / 10000):=by rw[N0,vab h0]
  have hk:n / 10000<10000 ^ k:=by rw[Nat.pow_succ]at hn;omega
  refine(λkey:∀(l:List Nat) (hl:l≠[]),l=n % 10000::N0 k (n / 10000)->l.getLast hl≠0=>key _ h e) ?_
  intro l hl el
  subst el
  by_cases hd:N0 k (n / 10000)=[]
  ·have hz:n / 10000=0:=by
    rcases k with _|k
    ·simpa using hk
    ·rw[N0]at hd
     split at hd
     ·assumption
     ·cases hd
   simp only[hd,List.getLast_singleton]
   omega
  ·rw[List.getLast_cons hd]
   exact Yr k _ hk hd
theorem qf3(neg:Bool)(k n:Nat)(hk:k<=200)(hn:n<10000 ^ k)(h0:n=0->neg=false):CU ⟨neg,qeu k n⟩=some true:=by
 have hlen:=WJ k n
 have h1:xT ⟨neg,qeu k n⟩ ((qeu k n).length:Int)=some false:=by
  simp only[xT]
  rw[vab (by simp;omega)]
  by_cases hz:N0 k n=[]
  ·have hn0:n=0:=by
    rcases k with _|k
    ·simpa using hn
    ·rw[N0]at hz
     split at hz
     ·assumption
     ·cases hz
   rw[vad (by simp[hz]),vab (by simp[h0 hn0]),vab (by simp[hz])]
  ·have hp:0<(N0 k n).length:=vbJ.2 hz
   rw[vab (by simp;omega),vad (by simp;omega)]
   have hi:dt (((qeu k n).length:Int) - 1)=(((N0 k n).length - 1:Nat):Int):=by
    rw[cC (by simp;omega) (by simp;omega)]
    simp
    omega
   rw[hi,aT _ _ (by simp;omega)]
   have hl:=Yr k n hn hz
   rw[vb3]at hl
   simp only[vaa,vbM]
   simp[hl]
 unfold CU
 rw[h1]
 simp only[vaa,vaq,if_false]
 have hL:xV ⟨neg,qeu k n⟩ ((qeu k n).length:Int) 0=some (.inr ()):=by
  unfold xV
  refine ej (N0 k n).length _ (λi=>(i:Int)) _ (λi hi=>?_) ?_
  ·simp only[rf]
   rw[vad (by simp;omega)]
   have hd:=WK k n _ (vag hi)
   have h3:xU ⟨neg,qeu k n⟩ (i:Int)=some false:=by
    simp only[xU]
    rw[aT _ _ (by simpa using hi)]
    simp only[vaa,vbM]
    rw[vab (by simp)]
    simp
    omega
   rw[h3]
   simp only[vaa,vaq,if_false]
   rw[cC (by omega) (by omega),show((i:Int)+1)=((i+1:Nat):Int) by omega]
  ·simp only[rf]
   rw[vab (by simp)]
 rw[hL]
 rfl
abbrev cD(q:Nat):UInt8:=UInt8.ofNat (48+q)
theorem qhI:∀q:Nat,q<10->OY ([48,49,50,51,52,53,54,55,56,57]:ae) (some (q:Int)) (some (dt ((q:Int)+1)))=some [cD q]:=by
 intro q hq
 rw[cC (by omega) (by omega),show((q:Int)+1)=((q+1:Nat):Int) by omega]
 match q,hq with
 |0,_|1,_|2,_|3,_|4,_|5,_|6,_|7,_|8,_|9,_=>rfl
def d4(d:Nat):ae:=[cD (d / 1000),cD (d / 100 % 10),cD (d / 10 % 10),cD (d % 10)]
theorem qqJ(n k:Nat)(hk:0<k)(hn:n<10000):qu .i64 (n:Int) (k:Int)=some ((n / k:Nat):Int):=qfD false n k hk (by omega)
theorem qqM(n k:Nat)(hk:0<k):re (n:Int) (k:Int)=some ((n % k:Nat):Int):=qfE false n k hk
theorem qg6(d:Nat)(hd:d<10000):Lz (d:Int)=some (d4 d):=by
 have q1:=qqJ d 1000 (by omega) hd
 have q2:=qqJ d 100 (by omega) hd
 have q3:=qqJ d 10 (by omega) hd
 have r2:=qqM (d / 100) 10 (by omega)
 have r3:=qqM (d / 10) 10 (by omega)
 have r4:=qqM d 10 (by omega)
 rw[show((1000:Nat):Int)=1000 from rfl]at q1
 rw[show((100:Nat):Int)=100 from rfl]at q2
 rw[show((10:Nat):Int)=10 from rfl]at q3 r2 r3 r4
 unfold Lz
 simp only[q1,q2,q3,r2,r3,r4,vaa,qhI _ (show d / 1000<10 by omega),qhI _ (show d / 100 % 10<10 by omega),qhI _ (show d / 10 % 10<10 by omega),qhI _ (show d % 10<10 by omega)]
 rw[gw (by simp)]
 simp only[vaa]
 rw[gw (by simp)]
 simp only[vaa]
 rw[gw (by simp)]
 rfl
def Sn(l:List Nat):ae:=l.foldr (λd s=>s++d4 d) []
theorem So:∀(l:List Nat),(Sn l).length=4 * l.length
 |[]=>rfl
 |d::l=>by
  show(Sn l++d4 d).length=_
  simp[So l,d4]
  omega
theorem qhN(l:List Nat)(hl:l.length<=200)(hd:∀d∈l,d<10000):AY (l.map λ(d:Nat)=>(d:Int)) ([]:ae) (dt (((l.map λ(d:Nat)=>(d:Int)).length:Int) - 1))=some (Sn l):=by
 rw[cC (by simp;omega) (by simp;omega)]
 unfold AY
 have key:=ej l.length (λzz:ae×Int=>pn (l.map λ(d:Nat)=>(d:Int)) zz.1 zz.2) (λi=>(Sn (l.drop (l.length - i)),((l.length:Int) - i) - 1)) (Sn l) (λi hi=>?_) ?_
 ·rw[<-key];simp[Sn]
 ·simp only[pn]
  rw[vad (by simp;omega),show((l.length:Int) - (i:Int)) - 1=((l.length - (i+1):Nat):Int) by omega,aT _ _ (by simp;omega)]
  simp only[vaa,vbM]
  rw[qg6 _ (hd _ (vag _))]
  simp only[vaa]
  rw[gw (by rw[So];simp[d4];omega)]
  simp only[vaa]
  have e:l.drop (l.length - (i+1))=l[l.length - (i+1)]::l.drop (l.length - i):=by
   rw[vaH (by omega),show l.length - (i+1)+1=l.length - i by omega]
  rw[e,cC (by omega) (by omega)]
  refine vaW some (vaW Sum.inl (Prod.ext rfl ?_))
  show(((l.length - (i+1):Nat):Int)) - 1=((l.length:Int) - ((i+1:Nat):Int)) - 1
  omega
 ·simp only[pn]
  rw[vab (by simp)]
  simp
def dv(s:ae):Nat:=s.foldl (λv c=>10 * v+(c.toNat - 48)) 0
def ql4(s:ae):Prop:=∀c∈s,48<=c.toNat/\c.toNat<=57
theorem Mh(s:ae)(c:UInt8):dv (s++[c])=10 * dv s+(c.toNat - 48):=by unfold dv;rw[vcx];rfl
theorem qg0(s:ae):∀a:Nat,s.foldl (λv c=>10 * v+(c.toNat - 48)) a=a * 10 ^ s.length+dv s:=by
 induction s with
 |nil=>intro a;simp[dv]
 |cons c s ih=>
  intro a
  unfold dv
  simp only[List.foldl_cons,vaG]
  rw[ih,ih (10 * 0+_),Nat.pow_succ,Nat.mul_zero,vaQ,vbo]
  have:a * (10 ^ s.length * 10)=10 * a * 10 ^ s.length:=by rw[vcI (10 ^ s.length) 10,<-Nat.mul_assoc,vcI a 10]
  omega
theorem qg1(s:ae):dv (48::s)=dv s:=by
 show s.foldl _ (10 * 0+(48 - 48))=_
 rw[show(10 * 0+(48 - 48):Nat)=0 from rfl]
 rfl
theorem qjo{c:UInt8}{s:ae}(hc:48<c.toNat):1<=dv (c::s):=by
 show 1<=s.foldl _ (10 * 0+(c.toNat - 48))
 rw[qg0]
 have:1<=(10 * 0+(c.toNat - 48)) * 10 ^ s.length:=Nat.mul_pos (by omega) (Nat.pow_pos (by omega))
 omega
theorem Yp:∀(n:Nat) (s:ae),s.length=n->s≠[]->ql4 s->(1<s.length->s.head?≠some 48)->s=Lib.decDigits (dv s)
 |0,s,hl,h,_,_=>absurd (vai hl) h
 | n + 1,s,hl,h,hd,hh => by
  obtain⟨t,c,rfl⟩:∃t c,s=t++[c]:=⟨s.dropLast,s.getLast h,(vbr h).symm⟩
  have hc:=hd c (by simp)
  rw[Mh]
  cases t with
  |nil=>
   rw[Lib.decDigits,show dv []=0 from rfl,dif_pos (by omega)]
   rw[show 48+(10 * 0+(c.toNat - 48))=c.toNat by omega]
   simp
  | cons a t =>
   have ha:a≠48:=λe=>hh (by simp) (by simp[e])
   have hda:=hd a (by simp)
   have ha2:48<a.toNat:=by
    rcases Nat.lt_or_ge 48 a.toNat with h|h
    ·exact h
    ·exact absurd (vcN.1 (by rw[show(48:UInt8).toNat=48 from rfl];omega)) ha
   have ih:=Yp n (a::t) (by simpa using hl) (by simp) (λx hx=>hd x (vaU _ hx)) (λ_=>by simpa using ha)
   have hp:=qjo (s:=t) ha2
   rw[Lib.decDigits,dif_neg (by omega)]
   have h1:(10 * dv (a::t)+(c.toNat - 48)) / 10=dv (a::t):=by omega
   have h2:(10 * dv (a::t)+(c.toNat - 48)) % 10=c.toNat - 48:=by omega
   rw[h1,h2,<-ih,show 48+(c.toNat - 48)=c.toNat by omega]
   simp
theorem qtU{c:UInt8}(e:((c.toNat:Int)==48)=true):c=48:=by
 have h:(c.toNat:Int)=48:=by simpa using e
 exact vcN.1 (by rw[show(48:UInt8).toNat=48 from rfl];omega)
theorem TO:∀(n:Nat) (s:ae),s.length=n->s.length<=1000->s≠[]->ql4 s->mS s=some (Lib.decDigits (dv s))
 |0,s,hl,_,h,_=>absurd (vai hl) h
 |n+1,[],_,_,h,_=>absurd rfl h
 | n + 1,c :: s,hl,hm,h,hd => by
  unfold mS
  by_cases hc:c=48/\s≠[]
  ·obtain⟨rfl,hs⟩:=hc
   have hp:0<s.length:=vbJ.2 hs
   refine(ol (s':=s) ?_).trans ?_
   ·show lT (48::s)=_
    simp only[lT,AX]
    rw[vad (by simp;omega),kz]
    simp only[vaa]
    rw[vad (by rfl)]
    have:=DH (48::s) 1 (by simp)
    rw[show((1:Nat):Int)=1 from rfl]at this
    rw[this]
    rfl
   ·have ih:=TO n s (by simpa using hl) (by simp at hm;omega) hs (λx hx=>hd x (vaL _ hx))
    unfold mS at ih
    rw[ih,qg1]
  ·rw[<-Yp (n+1) (c::s) hl h hd (λh1 h2=>hc ⟨by simpa using h2,λe=>by subst e;simp at h1⟩)]
   refine fx ?_
   show lT (c::s)=_
   simp only[lT,AX]
   by_cases h1:s=[]
   ·subst h1
    rw[vab (by simp)]
    rfl
   ·have hp:0<s.length:=vbJ.2 h1
    rw[vad (by simp;omega),kz]
    simp only[vaa]
    have:¬((c.toNat:Int)==48)=true:=λe=>hc ⟨qtU e,h1⟩
    rw[vab this]
theorem Sm(q:Nat)(h:q<10):(cD q).toNat=48+q:=by
 show(UInt8.ofNat (48+q)).toNat=_
 rw[vc2]
 omega
theorem qjn(d:Nat)(hd:d<10000):ql4 (d4 d):=by
 intro c hc
 simp only[d4,vaF,vbf,or_false]at hc
 rcases hc with rfl|rfl|rfl|rfl<;>rw[Sm _ (by omega)]<;>omega
theorem qld(s:ae)(d:Nat)(hd:d<10000):dv (s++d4 d)=10000 * dv s+d:=by
 show dv (s++[cD (d / 1000),cD (d / 100 % 10),cD (d / 10 % 10),cD (d % 10)])=_
 rw[show s++[cD (d / 1000),cD (d / 100 % 10),cD (d / 10 % 10),cD (d % 10)]=(((s++[cD (d / 1000)])++[cD (d / 100 % 10)])++[cD (d / 10 % 10)])++[cD (d % 10)] by simp]
 rw[Mh,Mh,Mh,Mh,Sm _ (by omega),Sm _ (by omega),Sm _ (by omega),Sm _ (by omega)]
 omega
theorem Yj:∀(l:List Nat),(∀d∈l,d<10000)->ql4 (Sn l)
 |[],_=>λc hc=>nomatch hc
 | d :: l,h => fun c hc => by
  rcases vaR.1 hc with hc|hc
  ·exact Yj l (λx hx=>h x (vaL _ hx)) c hc
  ·exact qjn d (h d (by simp)) c hc
theorem Z0:∀(k n:Nat),n<10000 ^ k->dv (Sn (N0 k n))=n
 |0,n,h=>by simp at h;subst h;rfl
 | k + 1,n,h => by
  rw[N0]
  by_cases h0:n=0
  ·rw[vad h0,h0];rfl
  ·rw[vab h0]
   show dv (Sn (N0 k (n / 10000))++d4 (n % 10000))=n
   rw[qld _ _ (by omega),Z0 k (n / 10000) (by rw[Nat.pow_succ]at h;omega)]
   omega
theorem M1{n:Int}(h:qf8 n):zg n=some (Lib.itoa n):=by
 unfold zg
 rw[qln h]
 simp only[vaa]
 have hk:n.natAbs<10000 ^ 4:=by omega
 have hv:=qf3 (decide (n<0)) 4 n.natAbs (by omega) hk (λh0=>by simp;omega)
 have hlen:=WJ 4 n.natAbs
 unfold Rm Kf
 rw[hv]
 simp only[vaa,vcC,vaq,if_false]
 rw[qhN _ (by omega) (WK 4 n.natAbs)]
 simp only[vaa]
 unfold Lib.itoa
 by_cases h0:n=0
 ·subst h0
  rw[vab (by omega),show Sn (N0 4 (0:Int).natAbs)=([]:ae)from rfl]
  have:mS ([]:ae)=some ([]:ae):=by unfold mS;exact fx rfl
  rw[this]
  simp only[vaa]
  rw[vad (by rfl),Lib.decDigits]
  rfl
 have hne:Sn (N0 4 n.natAbs)≠[]:=by
  intro e
  have:=Z0 4 n.natAbs hk
  rw[e]at this
  exact h0 (by have:n.natAbs=0:=this.symm;omega)
 rw[TO _ _ rfl (by rw[So];omega) hne (Yj _ (WK 4 n.natAbs)),Z0 4 _ hk]
 simp only[vaa]
 have hd:Lib.decDigits n.natAbs≠[]:=by
  rw[Lib.decDigits]
  split<;>simp
 have hd2:¬(Lib.decDigits n.natAbs==([]:ae))=true:=λe=>hd (by simpa using e)
 rw[vab hd2]
 unfold D2
 rw[hv]
 simp only[vaa,if_true]
 have hL:=qet n.natAbs
 by_cases hn:n<0
 ·rw[vad (by simpa using hn),vad hn,gw (by simp;omega)]
  rfl
 ·rw[vab (by simpa using hn),vab hn,show n.natAbs=n.toNat by omega]
  rfl
theorem qeM{n:Int}(h:qf8 n):(Lib.itoa n).length<=21:=Lib.itoa_length_le n (by omega) (by omega)
def JX(l:List ae)(s:ae):Int:=match l.findIdx? (λx=>x==s)with|some j=>(j:Int)|none=>-1
theorem GP(l:List ae)(s:ae)(hl:l.length<9223372036854775808):GM l s=some (JX l s):=by
 unfold GM GN
 have:=Vj l hl (λzz=>pp l s l.length zz) (λx=>x==s) (λj=>Sum.inl (j:Int)) (Sum.inr ()) (λi h=>by
  simp only[pp]
  rw[vad (by simp;omega),aT _ i h]
  simp only[vaa]
  split<;>simp_all) (by simp only[pp];rw[vab (by simp)])
 rw[this]
 unfold JX
 cases l.findIdx? (λx=>x==s)<;>rfl
theorem WU(l:List ae)(s:ae):decide (JX l s>=0)=l.any λk=>k==s:=by
 unfold JX
 cases h:l.findIdx? (λx=>x==s)with
 |none=>
  rw[vbw]at h
  symm
  simp only[vbh]
  rw[show decide ((-1:Int)>=0)=false from rfl]
  simp only[vbh,vc5]
  exact h
 | some j =>
  have h2:l.any (λx=>x==s)=true:=by
   have:=List.findIdx?_isSome (xs:=l) (p:=λx=>x==s)
   rw[h]at this
   exact this.symm
  rw[h2]
  simp
theorem Vk{α:Type}(k:ae)(v:α)(j:ae):∀(m:List (ae×α)),HP (Qy m k v) j=if(j==k)=true then some v else HP m j
 |[]=>by
  simp only[Qy,HP,List.find?_cons,List.find?_nil]
  cases(j==k)<;>rfl
 | e :: r => by
  have ih:=Vk k v j r
  unfold Qy
  by_cases h:(k==e.1)=true
  ·have h':k=e.1:=by simpa using h
   rw[vad h]
   unfold HP
   simp only[List.find?_cons]
   rw[<-h']
   cases hj:(j==k)<;>simp
  ·rw [vab h]
   unfold HP at ih ⊢
   simp only[List.find?_cons]
   cases hj:(j==e.1)
   ·simpa using ih
   ·have:¬(j==k)=true:=λhk=>h (by
      have h1:j=e.1:=by simpa using hj
      have h2:j=k:=by simpa using hk
      simp[<-h1,<-h2])
    simp[this]
def d6(c:Int):Bool:=decide (97<=c)&&decide (c<=122)
def kC(c:Int):Bool:=decide (65<=c)&&decide (c<=90)
def JZ(c:Int):Bool:=decide (48<=c)&&decide (c<=57)
theorem rX(c:Int):ny c=some (d6 c):=by unfold ny d6;split<;>simp_all<;>omega
theorem Dj(c:Int):pE c=some (kC c):=by unfold pE kC;split<;>simp_all<;>omega
theorem zW(c:Int):qO c=some (JZ c):=by unfold qO JZ;split<;>simp_all<;>omega
theorem nU(c:Int):ko c=some (d6 c):=by unfold ko d6;split<;>simp_all<;>omega
theorem za(c:Int):kQ c=some (kC c):=by unfold kQ kC;split<;>simp_all<;>omega
theorem xW(c:Int):nT c=some (JZ c):=by unfold nT JZ;split<;>simp_all<;>omega
def kX(b:UInt8):Bool:=d6 b.toNat||JZ b.toNat||(b.toNat:Int)==95
def je(b:UInt8):Bool:=d6 b.toNat||kC b.toNat||JZ b.toNat
def nN(s:ae):Bool:=decide ((s.length:Int)>=1)&&decide ((s.length:Int)<=24)
def qh9(s:ae):Bool:=dO.any λk=>k==s
def jd(p:Int->Bool)(s:ae):Bool:=match s with|[]=>false|c::_=>p c.toNat
abbrev XN(s:ae):Prop:=s.length<9223372036854775808
theorem zY(s:ae):qP s=some (nN s):=by
 unfold qP nN
 by_cases h:(s.length:Int)>=1
 ·rw[vad (vaI h),vaI h];rfl
 ·rw[vab (by simpa using h),decide_eq_false h];rfl
theorem Om(s:ae):u7 s=some (qh9 s):=by
 unfold u7 uk
 have h42:dO.length=42:=rfl
 have:=nu dO (by rw[h42];omega) (λzz=>iC s zz) (λk=>k==s) (Sum.inl ()) (Sum.inr ()) (λi h=>by
  rw[h42]at h
  simp only[iC]
  rw[vad (by simp;omega),aT _ i (by rw[h42];omega)]
  simp only[vaa]
  split<;>simp_all) (by simp only[iC];rw[vab (by rw[h42];simp)]) 0 (va0 _)
 simp only[Int.ofNat_zero,vbi]at this
 rw[this]
 unfold qh9
 cases dO.any (λk=>k==s)<;>rfl
theorem P7:D3=some dO:=rfl
theorem Rt(s:ae):qB s=some (qh9 s):=by
 unfold qB
 have h42:dO.length=42:=rfl
 rw[P7]
 simp only[vaa]
 rw[GP _ _ (by rw[h42];omega)]
 simp only[vaa,WU]
 rfl
def ui(s:ae):Bool:=nN s&&jd d6 s&&!qh9 s&&s.all kX
def og(s:ae):Bool:=nN s&&jd kC s&&s.all je&&!(s==[73,110,116])&&!(s==[66,111,111,108])&&!(s==[67,101,108,108])&&!(s==[70,117,110])
def Fx(b:Bool):Int:=if b then 0 else 3
theorem OX{s:ae}(h:nN s=true):∃c r,s=c::r:=by
 cases s with
 |nil=>simp[nN]at h
 |cons c r=>exact⟨c,r,rfl⟩
theorem Ou(s:ae)(i:Nat)(h:i<s.length):vd s i=some (!kX s[i]):=by
 unfold vd kX
 simp only[nr s i h,vaa,rX,zW]
 cases d6 (s[i].toNat:Int)<;>cases JZ (s[i].toNat:Int)<;>simp[bne]
theorem PX(s:ae)(i:Nat)(h:i<s.length):kZ s i=some (!kX s[i]):=by
 unfold kZ kX
 simp only[nr s i h,vaa,nU,xW]
 cases d6 (s[i].toNat:Int)<;>cases JZ (s[i].toNat:Int)<;>simp[bne]
theorem Ow(s:ae)(hs:XN s)(i:Nat)(hi:i<=s.length):vg s i=some (if(s.drop i).any (λb=>!kX b)=true then .inl ()else .inr ()):=by
 unfold vg
 refine nu s hs _ (λb=>!kX b) _ _ (λj h=>?_) ?_ i hi
 ·simp only[p8]
  rw[vad (by simp;omega),Ou s j h]
  simp only[vaa]
  split<;>simp_all
 ·simp only[p8];rw[vab (by simp)]
theorem PZ(s:ae)(hs:XN s):ri s s.length 0=some (if s.any (λb=>!kX b)=true then .inl ()else .inr ()):=by
 unfold ri
 have:=nu s hs (λzz=>mT s s.length zz) (λb=>!kX b) (.inl ()) (.inr ()) (λj h=>by
  simp only[mT]
  rw[vad (by simp;omega),PX s j h]
  simp only[vaa]
  split<;>simp_all) (by simp only[mT];rw[vab (by simp)]) 0 (va0 _)
 simpa using this
theorem VC{b:UInt8}(h:d6 b.toNat=true):kX b=true:=by simp[kX,h]
theorem Oq(s:ae):vb s=some (!(nN s&&jd d6 s&&!qh9 s)):=by
 unfold vb
 rw[zY]
 simp only[vaa]
 by_cases h:nN s=true
 ·obtain⟨c,r,rfl⟩:=OX h
  simp only[h,kz,vaa,rX,Om,jd]
  cases d6 (c.toNat:Int)<;>simp
 ·simp[h]
theorem Uy(s:ae)(hs:XN s):EB s=some (ui s):=by
 unfold EB ui
 rw[Oq]
 simp only[vaa]
 by_cases h:(nN s&&jd d6 s&&!qh9 s)=true
 ·have hs1:nN s=true:=by revert h;cases nN s<;>simp
  obtain⟨c,r,rfl⟩:=OX hs1
  have hc:d6 (c.toNat:Int)=true:=by revert h;simp[jd];intro _ h _;exact h
  have hL:=Ow (c::r) hs 1 (by simp)
  simp only[Int.ofNat_one]at hL
  rw[h,hL]
  simp only[List.drop_succ_cons,vbi,List.all_cons,VC hc,vbl]
  rw[vbt]
  simp only[vca]
  cases r.all kX<;>simp
 ·simp[h]
theorem PU(s:ae):rh s=some (!(nN s&&jd d6 s&&!qh9 s)):=by
 unfold rh nN
 cases s with
 |nil=>simp
 | cons c r =>
  have h1:¬(((c::r).length:Int)<1):=by simp;omega
  have h2:(((c::r).length:Int)>=1):=by omega
  simp only[h1,h2,decide_false,decide_true,vbl,vaq,if_false,kz,vaa,nU,Rt,jd]
  by_cases h:(((c::r).length:Int)>24)
  ·have h':¬(((c::r).length:Int)<=24):=by omega
   simp only[h,h',decide_true,decide_false,if_true]
   simp
  ·have h':(((c::r).length:Int)<=24):=by omega
   simp only[h,h',decide_true,decide_false,if_false,vaq]
   cases d6 (c.toNat:Int)<;>simp
theorem VZ(s:ae)(hs:XN s):yP s=some (Fx (ui s)):=by
 unfold yP
 rw[PU,PZ s hs]
 unfold ui Fx
 cases(nN s&&jd d6 s&&!qh9 s)with
 |false=>simp
 |true=>
  simp only[vaa,vcC,vaq,if_false,vbl]
  rw[vbt]
  simp only[vca]
  cases s.all kX<;>simp
theorem Cz(s:ae)(i:Nat)(h:i<s.length):iU s i=some (!je s[i]):=by
 unfold iU je
 simp only[nr s i h,vaa,rX,Dj,zW]
 cases d6 (s[i].toNat:Int)<;>cases kC (s[i].toNat:Int)<;>simp
theorem P4(s:ae)(i:Nat)(h:i<s.length):lb s i=some (!je s[i]):=by
 unfold lb je
 simp only[nr s i h,vaa,nU,za,xW]
 cases d6 (s[i].toNat:Int)<;>cases kC (s[i].toNat:Int)<;>simp
theorem tG(s:ae)(hs:XN s):iD s=some (s.all je):=by
 unfold iD mc
 have:=nu s hs (λzz=>eY s zz) (λb=>!je b) (.inl ()) (.inr ()) (λj h=>by
  simp only[eY]
  rw[vad (by simp;omega),Cz s j h]
  simp only[vaa]
  split<;>simp_all) (by simp only[eY];rw[vab (by simp)]) 0 (va0 _)
 simp only[Int.ofNat_zero,vbi]at this
 rw[this,vbt]
 simp only[vca]
 cases s.all je<;>rfl
theorem MB(s:ae)(hs:XN s):rZ s=some (!(nN s&&jd kC s&&s.all je)):=by
 unfold rZ
 rw[zY]
 simp only[vaa]
 by_cases h:nN s=true
 ·obtain⟨c,r,rfl⟩:=OX h
  simp only[h,kz,vaa,Dj,tG _ hs,jd]
  cases kC (c.toNat:Int)<;>simp
 ·simp[h]
theorem S2(s:ae)(hs:XN s):BQ s=some (og s):=by
 unfold BQ og
 rw[MB s hs]
 simp only[vaa]
 cases(nN s&&jd kC s&&s.all je)<;>cases(s==[73,110,116])<;>cases(s==[66,111,111,108])<;>cases(s==[67,101,108,108])<;>cases(s==[70,117,110])<;>rfl
theorem P2(s:ae):rl s=some (!(nN s&&jd kC s&&!(s==[73,110,116])&&!(s==[66,111,111,108])&&!(s==[67,101,108,108])&&!(s==[70,117,110]))):=by
 unfold rl nN
 cases s with
 |nil=>simp
 | cons c r =>
  have h1:¬(((c::r).length:Int)<1):=by simp;omega
  have h2:(((c::r).length:Int)>=1):=by omega
  simp only[h1,h2,decide_false,decide_true,vbl,vaq,if_false,kz,vaa,za,jd]
  by_cases h:(((c::r).length:Int)>24)
  ·have h':¬(((c::r).length:Int)<=24):=by omega
   simp only[h,h',decide_true,decide_false,if_true]
   simp
  ·have h':(((c::r).length:Int)<=24):=by omega
   simp only[h,h',decide_true,decide_false,if_false,vaq]
   cases kC (c.toNat:Int)<;>cases(c::r==[73,110,116])<;>cases(c::r==[66,111,111,108])<;>cases(c::r==[67,101,108,108])<;>cases(c::r==[70,117,110])<;>rfl
theorem P6(s:ae)(hs:XN s):rm s s.length 0=some (if s.any (λb=>!je b)=true then .inl ()else .inr ()):=by
 unfold rm
 have:=nu s hs (λzz=>mV s s.length zz) (λb=>!je b) (.inl ()) (.inr ()) (λj h=>by
  simp only[mV]
  rw[vad (by simp;omega),P4 s j h]
  simp only[vaa]
  split<;>simp_all) (by simp only[mV];rw[vab (by simp)]) 0 (va0 _)
 simpa using this
theorem V1(s:ae)(hs:XN s):yQ s=some (Fx (og s)):=by
 unfold yQ
 rw[P2,P6 s hs]
 unfold og Fx
 rw[vbt]
 simp only[vca]
 cases(nN s&&jd kC s)<;>cases s.all je<;>cases(s==[73,110,116])<;>cases(s==[66,111,111,108])<;>cases(s==[67,101,108,108])<;>cases(s==[70,117,110])<;>rfl
theorem qev(b:UInt8):((b.toNat:Int)==46)=(b==46):=by
 rw[vcj]
 simp only[va7]
 constructor
 ·intro h
  have:b.toNat=46:=by omega
  exact vcN.1 this
 ·rintro rfl;rfl
def od:ae->List ae
 |[]=>[[]]
 |c::r=>if(c==46)=true then[]::od r else match od r with
  |[]=>[[c]]
  |h::t=>(c::h)::t
def MK(p:ae):List ae->List ae
 |[]=>[p]
 |h::t=>(p++h)::t
theorem ID:∀(s:ae),od s≠[]
 |[]=>by simp[od]
 | c :: r => by
  unfold od
  split
  ·simp
  ·split<;>simp
theorem N1(c:UInt8)(r:ae)(h:¬(c==46)=true):od (c::r)=MK [c] (od r):=by
 conv=>lhs;unfold od
 rw[vab h]
 cases od r<;>rfl
theorem Vt(p q:ae)(l:List ae):MK p (MK q l)=MK (p++q) l:=by cases l<;>simp[MK]
theorem Tu{l:List ae}(h:l≠[]):MK [] l=l:=by cases l with
 |nil=>exact absurd rfl h
 |cons=>rfl
theorem Ss:∀(p s:ae),p.all (λc=>!(c==46))=true->od (p++s)=MK p (od s)
 |[],s,_=>(Tu (ID s)).symm
 |c::p,s,h=>by
  rw[List.all_cons,vaf]at h
  rw[vaN,N1 _ _ (by simpa using h.1),Ss p s h.2,Vt]
  rfl
theorem St:∀(s:ae),(od s).length<=s.length+1/\∀x∈od s,x.length<=s.length
 |[]=>by simp[od]
 | c :: r => by
  obtain⟨h1,h2⟩:=St r
  by_cases h:(c==46)=true
  ·unfold od
   rw[vad h]
   refine⟨by simp;omega,λx hx=>?_⟩
   rw[vaF]at hx
   rcases hx with rfl|hx
   ·simp
   ·have:=h2 x hx;simp;omega
  ·rw[N1 c r h]
   cases hd:od r with
   |nil=>exact absurd hd (ID r)
   | cons a t =>
    rw[hd]at h1 h2
    refine⟨by simpa[MK]using Nat.le_succ_of_le h1,λx hx=>?_⟩
    simp only[MK,vaF]at hx
    rcases hx with rfl|hx
    ·have:=h2 a (by simp);simp;omega
    ·have:=h2 x (by simp[hx]);simp;omega
def oZ(s:ae):ae×ae×Bool:=match s.findIdx? (λc=>c==46)with
 |some j=>(s.take j,s.drop (j+1),true)
 |none=>(s,[],false)
theorem Mw(s:ae)(hs:XN s):Dl s=some (oZ s):=by
 unfold Dl EA
 have:=Vj s hs (λzz=>nx s zz) (λc=>c==46) (λj=>Sum.inl (s.take j,s.drop (j+1))) (Sum.inr ()) (λi h=>by
  simp only[nx]
  rw[vad (by simp;omega),nr s i h]
  simp only[vaa,qev]
  by_cases hd:(s[i]==46)=true
  ·rw[vad hd,vad hd,XE s i (by omega)]
   have hs':s.length<9223372036854775808:=hs
   have e:dt ((i:Int)+1)=((i+1:Nat):Int):=by rw[cC (by omega) (by omega)];omega
   rw[e]
   simp only[vaa,DH s (i+1) (by omega)]
  ·rw[vab hd,vab hd]) (by simp only[nx];rw[vab (by simp)])
 rw[this]
 unfold oZ
 cases s.findIdx? (λc=>c==46)<;>rfl
theorem Ys(s:ae):od s=if(oZ s).2.2=true then(oZ s).1::od (oZ s).2.1 else[(oZ s).1]:=by
 unfold oZ
 cases h:s.findIdx? (λc=>c==46)with
 |none=>
  rw[vbw]at h
  have:=Ss s [] (by simp only[vas,vaX];exact h)
  rw[vak]at this
  simp only[vaq,if_false]
  rw[this]
  simp[od,MK]
 | some j =>
  rw[va9]at h
  obtain⟨hj,h1,h2⟩:=h
  have e:s=s.take j++s[j]::s.drop (j+1):=by
   conv=>lhs;rw[<-vbp j s]
   rw[vaH hj]
  have:=Ss (s.take j) (s[j]::s.drop (j+1)) (by
   simp only[vas,vaX]
   intro x hx
   obtain⟨i,hi,rfl⟩:=vcU hx
   rw[List.getElem_take]
   have hi':i<j:=by simp at hi;omega
   simpa using h2 i hi')
  rw[<-e]at this
  simp only[if_true]
  rw[this]
  conv=>lhs;arg 2;unfold od
  rw[vad h1]
  simp[MK]
theorem Yn(s:ae):(oZ s).1.length<=s.length/\(oZ s).2.1.length<=s.length/\((oZ s).2.2=true->(oZ s).2.1.length<s.length):=by
 unfold oZ
 cases h:s.findIdx? (λc=>c==46)with
 |none=>simp
 |some j=>
  rw[va9]at h
  obtain⟨hj,_⟩:=h
  simp
  omega
def qbX(p:ae):Bool:=(p.isEmpty||jd d6 p)&&p.all kX
def qp(p:ae):Bool:=nN p&&(p.all je||qbX p)
theorem Vy{α X:Type}(p:Nat->α->Bool)(q:α->Bool)(y e:X)(k:Nat)(h:∀i x,k<=i->p i x=q x):∀(l:List α) (i:Nat),k<=i->sD (λi x (_:Unit)=>if p i x=true then Sum.inr y else .inl ()) (λ_=>e) l i ()=if l.any q=true then y else e
 |[],i,_=>by simp[sD]
 | x :: l,i,hk => by
  have ih:=Vy p q y e k h l (i+1) (by omega)
  unfold sD
  rw[h i x hk]
  by_cases hq:q x=true
  ·simp[hq]
  ·simp only[hq,if_false,ih,List.any_cons,vbV,vaq]
theorem Ox(s:ae)(i:Nat)(h:i<s.length):vj s i=some (if i=0 then !d6 s[i].toNat else !kX s[i]):=by
 unfold vj kX
 simp only[nr s i h,vaa,rX,zW]
 by_cases h0:i=0
 ·subst h0
  cases d6 ((s[0]).toNat:Int)<;>simp
 ·have:((i:Int)==0)=false:=by simp;omega
  simp only[this,vab h0]
  cases d6 (s[i].toNat:Int)<;>cases JZ (s[i].toNat:Int)<;>simp[bne]
theorem Uz(s:ae)(hs:XN s):EC s=some (qbX s):=by
 unfold EC CB
 have:=zR s hs (λi (_:Unit)=>i) (λzz=>lN s zz) (λ_ _=>True) (λi x _=>if(if i=0 then !d6 x.toNat else !kX x)=true then .inr (.inl ())else .inl ()) (λ_=>.inr ()) (λi h t _=>⟨by
  simp only[lN]
  rw[vad (by simp;omega),Ox s i h]
  simp only[vaa]
  cases(if i=0 then !d6 s[i].toNat else !kX s[i])<;>rfl,λ_ _=>trivial⟩) (λt _=>by simp only[lN];rw[vab (by simp)]) 0 () (va0 _) trivial
 simp only[Int.ofNat_zero,vbi]at this
 rw[this]
 cases s with
 |nil=>rfl
 | cons c r =>
  unfold sD qbX jd
  simp only[if_true,List.isEmpty_cons,vbV,List.all_cons]
  by_cases hc:d6 c.toNat=true
  ·have:=Vy (X:=Unit⊕Unit) (λi (x:UInt8)=>if i=0 then !d6 x.toNat else !kX x) (λx=>!kX x) (.inl ()) (.inr ()) 1 (λi x hi=>by rw[vab (by omega)]) r 1 (vay _)
   simp only[hc,vcC,vaq,if_false,VC hc,vbl,vaQ]
   rw[this,vbt]
   simp only[vca]
   cases r.all kX<;>rfl
  ·simp[hc]
theorem Oj(p:ae)(hs:XN p):u6 p=some (!qp p):=by
 unfold u6 qp
 rw[zY,tG p hs,Uz p hs]
 cases nN p<;>cases p.all je<;>simp
theorem xH(r:ae):ie r false=some (.inr ()):=fx rfl
theorem zS:∀(k:Nat) (r:ae),r.length<k->XN r->ie r true=some (if(!(od r).all qp)=true then .inl ()else .inr ())
 |0,r,hk,_=>absurd hk (by omega)
 | k + 1,r,hk,hs => by
  obtain⟨c1,c2,c3⟩:=Yn r
  have hs':r.length<9223372036854775808:=hs
  have hb:jm r true=some (if(!qp (oZ r).1)=true then .inr (.inl ())else .inl ((oZ r).2.1,(oZ r).2.2)):=by
   simp only[jm,if_true,Mw r hs,vaa]
   rw[Oj _ (show _<_ by omega)]
   simp only[vaa]
   cases qp (oZ r).1<;>rfl
  rw[Ys r]
  unfold ie
  by_cases hp:qp (oZ r).1=true
  ·rw[hp]at hb
   refine(ol (body:=λzz:ae×Bool=>jm zz.1 zz.2) (s:=(r,true)) (s':=((oZ r).2.1,(oZ r).2.2)) hb).trans ?_
   cases hm:(oZ r).2.2 with
   |false=>
    have:=xH (oZ r).2.1
    unfold ie at this
    rw[this]
    simp[hp]
   |true=>
    have c4:=c3 hm
    have:=zS k (oZ r).2.1 (by omega) (show _<_ by omega)
    unfold ie at this
    rw[this]
    simp[hp]
  ·have hp':qp (oZ r).1=false:=by simpa using hp
   rw[hp']at hb
   refine(fx (body:=λzz:ae×Bool=>jm zz.1 zz.2) (s:=(r,true)) hb).trans ?_
   cases(oZ r).2.2<;>simp[hp']
theorem Ol(r:ae)(more:Bool)(hs:XN r):ie r more=some (if(more&&!(od r).all qp)=true then .inl ()else .inr ()):=by
 cases more with
 |false=>exact xH r
 |true=>exact zS (r.length+1) r (by omega) hs
def bS(s:ae):Bool:=decide (s.length<=120)&&match od s with
 |[]=>false
 |f::r=>(ui f||og f||(f==[118]&&!r.isEmpty))&&r.all qp
theorem Oh(f:ae)(hf:XN f)(more:Bool):uZ f more=some (!(ui f||og f||(f==[118]&&more))):=by
 unfold uZ
 rw[Uy f hf,S2 f hf]
 simp only[vaa]
 cases ui f<;>cases og f<;>cases(f==[118])<;>simp
theorem pC(s:ae):nv s=some (Fx (bS s)):=by
 unfold nv bS Fx
 by_cases h:s.length<=120
 ·have h1:¬((s.length:Int)>120):=by omega
  obtain⟨c1,c2,c3⟩:=Yn s
  simp only[h1,h,decide_false,decide_true,vaq,if_false,vbl,Mw s (show _<_ by omega),vaa]
  rw[Oh _ (show _<_ by omega),Ol _ _ (show _<_ by omega),Ys s]
  simp only[vaa]
  cases hm:(oZ s).2.2 with
  |false=>
   by_cases hn:ui (oZ s).1=true<;>by_cases ht:og (oZ s).1=true<;>simp[hn,ht]
  | true =>
   have:(od (oZ s).2.1).isEmpty=false:=by
    cases hd:od (oZ s).2.1 with
    |nil=>exact absurd hd (ID _)
    |cons=>rfl
   simp only[this,if_true,Bool.not_false,Bool.and_true,vbl]
   cases(ui (oZ s).1||og (oZ s).1||(oZ s).1==[118])<;>cases(od (oZ s).2.1).all qp<;>simp
 ·have h1:((s.length:Int)>120):=by omega
  simp[h1,h]
theorem Cl(s:ae):∀(r:ae) (i b:Nat) (out o:List ae) (b':Nat),s.drop i=r->i+r.length=s.length->b<=i->((s.take i).drop b).all (λc=>!(c==46))=true->
  sD (λi x (t:List ae×Nat)=>if(x==46)=true then(Sum.inl (t.1++[(s.take i).drop t.2],i+1):(List ae×Nat)⊕(List ae×Nat))else .inl t) (λt=>t) r i (out,b)=(o,b')->
  b'<=s.length/\o++[s.drop b']=out++MK ((s.take i).drop b) (od r)
 |[],i,b,out,o,b',h1,h2,h3,h4,h=>by
  simp only[sD,Prod.mk.injEq]at h
  obtain⟨rfl,rfl⟩:=h
  have:i=s.length:=by simpa using h2
  subst this
  simp[od,MK,h3]
 | c :: r,i,b,out,o,b',h1,h2,h3,h4,h => by
  have hi:i<s.length:=by simp at h2;omega
  rw[vaH hi]at h1
  injection h1 with h1a h1b
  unfold sD at h
  by_cases hc:(c==46)=true
  ·simp only[hc,if_true]at h
   have ih:=Cl s r (i+1) (i+1) _ o b' h1b (by simp at h2;omega) (vay _) (by simp) h
   refine⟨ih.1,?_⟩
   rw[ih.2]
   have e:(s.take (i+1)).drop (i+1)=[]:=by simp
   rw[e,Tu (ID r)]
   conv=>rhs;arg 2;arg 2;unfold od
   rw[vad hc]
   simp[MK]
  ·simp only[hc,if_false,vaq]at h
   have e:(s.take (i+1)).drop b=(s.take i).drop b++[c]:=by
    rw[vav hi,List.drop_append_of_le_length (by simp;omega),h1a]
   have ih:=Cl s r (i+1) b _ o b' h1b (by simp at h2;omega) (by omega) (by rw[e,List.all_append,h4];simpa using hc) h
   refine⟨ih.1,?_⟩
   rw[ih.2,e,N1 c r hc,Vt]
theorem qhJ{α:Type}(l:List α)(a b:Nat)(h:a<=b)(h2:b<=l.length):OY l (some (a:Int)) (some (b:Int))=some ((l.take b).drop a):=by
 simp[OY,bd,h,h2]
theorem V3(s:ae)(hs:s.length<=1000000):yR s=some (od s):=by
 unfold yR xY
 have:=zR s (by omega) (λi (t:List ae×Nat)=>(t.1,(t.2:Int),i)) (λzz=>fe s s.length zz.1 zz.2.1 zz.2.2) (λi t=>t.2<=i/\t.1.length<=i)
  (λi x (t:List ae×Nat)=>if(x==46)=true then(Sum.inl (t.1++[(s.take i).drop t.2],i+1):(List ae×Nat)⊕(List ae×Int))else .inl t) (λt=>(t.1,(t.2:Int))) (λi h t hI=>by
   refine⟨?_,λt' ht=>?_⟩
   ·simp only[fe]
    rw[vad (by simp;omega),nr s i h]
    simp only[vaa,qev]
    by_cases hd:(s[i]==46)=true
    ·rw[vad hd,vad hd,qhJ s _ _ hI.1 (by omega)]
     simp only[vaa]
     rw[qn (by simp;omega)]
     have e:dt ((i:Int)+1)=((i+1:Nat):Int):=by rw[cC (by omega) (by omega)];omega
     rw[e]
     rfl
    ·rw[vab hd,vab hd]
   ·by_cases hd:(s[i]==46)=true
    ·rw[vad hd]at ht;cases ht;simp;omega
    ·rw[vab hd]at ht;cases ht;omega) (λt _=>by simp only[fe];rw[vab (by simp)]) 0 ([],0) (va0 _) ⟨vay _,vay _⟩
 simp only[Int.ofNat_zero,vbi]at this
 rw[this]
 obtain⟨o,b',hr⟩:∃o b',sD (λi x (t:List ae×Nat)=>if(x==46)=true then(Sum.inl (t.1++[(s.take i).drop t.2],i+1):(List ae×Nat)⊕(List ae×Nat))else .inl t) (λt=>t) s 0 ([],0)=(o,b'):=⟨_,_,rfl⟩
 have key:∀(l:ae) (i:Nat) (t:List ae×Nat),sD (λi x (t:List ae×Nat)=>if(x==46)=true then(Sum.inl (t.1++[(s.take i).drop t.2],i+1):(List ae×Nat)⊕(List ae×Int))else .inl t) (λt=>(t.1,(t.2:Int))) l i t=
   ((sD (λi x (t:List ae×Nat)=>if(x==46)=true then(Sum.inl (t.1++[(s.take i).drop t.2],i+1):(List ae×Nat)⊕(List ae×Nat))else .inl t) (λt=>t) l i t).1,
    ((sD (λi x (t:List ae×Nat)=>if(x==46)=true then(Sum.inl (t.1++[(s.take i).drop t.2],i+1):(List ae×Nat)⊕(List ae×Nat))else .inl t) (λt=>t) l i t).2:Int)):=by
  intro l
  induction l with
  |nil=>intro i t;rfl
  | cons x l ih =>
   intro i t
   unfold sD
   by_cases hx:(x==46)=true
   ·simp only[hx,if_true,ih]
   ·simp only[hx,if_false,ih,vaq]
 rw[key,hr]
 obtain⟨h1,h2⟩:=Cl s s 0 0 [] o b' rfl (by simp) (vay _) (by simp) hr
 simp only[vaa]
 rw[DH s b' h1]
 simp only[vaa]
 have hd:=(St s).1
 have h3:o++[s.drop b']=od s:=by rw[h2];simp[Tu (ID s)]
 have h4:o.length+1=(od s).length:=by rw[<-h3];simp
 rw[qn (by simp;omega),h3]
 rfl
theorem Rw(p:ae)(plain:Bool)(i:Nat)(h:i<p.length):qC p plain i=some (plain&&je p[i]):=by
 unfold qC je
 simp only[nr p i h,vaa,nU,za,xW]
 cases plain<;>cases d6 (p[i].toNat:Int)<;>cases kC (p[i].toNat:Int)<;>simp
theorem LA:∀(l:ae) (i:Nat) (a b:Bool),sD (λ_ (x:UInt8) (t:Bool×Bool)=>(Sum.inl (t.1&&je x,t.2&&kX x):(Bool×Bool)⊕(Bool×Bool))) (λt=>t) l i (a,b)=(a&&l.all je,b&&l.all kX)
 |[],i,a,b=>by simp[sD]
 |x::l,i,a,b=>by
  unfold sD
  simp only[LA l,List.all_cons,Bool.and_assoc]
theorem Ry(p:ae)(hp:XN p)(a b:Bool):vJ p p.length a b 0=some (a&&p.all je,b&&p.all kX):=by
 unfold vJ
 have:=zR p hp (λi (t:Bool×Bool)=>(t.1,t.2,i)) (λzz=>gg p p.length zz.1 zz.2.1 zz.2.2) (λ_ _=>True) (λ_ x t=>.inl (t.1&&je x,t.2&&kX x)) (λt=>t) (λi h t _=>⟨by
  simp only[gg]
  rw[vad (by simp;omega),Rw p _ i h]
  simp only[vaa,nr p i h,nU,xW,kX]
  cases t.2<;>cases d6 (p[i].toNat:Int)<;>cases JZ (p[i].toNat:Int)<;>simp,λ_ _=>trivial⟩) (λt _=>by simp only[gg];rw[vab (by simp)]) 0 (a,b) (va0 _) trivial
 simp only[Int.ofNat_zero,vbi]at this
 rw[this,LA]
theorem XW(p:ae)(hp:XN p):CV p=some (qp p):=by
 unfold CV A2 qp nN
 cases p with
 |nil=>simp
 | cons c r =>
  have h1:¬(((c::r).length:Int)<1):=by simp;omega
  have h2:(((c::r).length:Int)>=1):=by omega
  simp only[h1,h2,decide_false,decide_true,vbl,vaq,if_false,kz,vaa,nU,Ry _ hp,qbX,jd,List.isEmpty_cons,vbV]
  by_cases h:(((c::r).length:Int)>24)
  ·have h':¬(((c::r).length:Int)<=24):=by omega
   simp only[h,h',decide_true,decide_false,if_true]
   simp
  ·have h':(((c::r).length:Int)<=24):=by omega
   simp only[h,h',decide_true,decide_false,if_false,vaq,vbl]
   cases(c::r).all je<;>simp
theorem Rq(f:ae)(r:List ae)(hf:XN f):qA (f::r)=some (!(ui f||og f||(f==[118]&&!r.isEmpty))):=by
 unfold qA
 simp only[cz,vaa,VZ f hf,V1 f hf]
 have e:(((f::r).length:Int)==1)=r.isEmpty:=by
  cases r with
  |nil=>rfl
  |cons a r=>simp;omega
 rw[e]
 unfold Fx
 cases ui f<;>cases og f<;>cases(f==[118])<;>simp
theorem YK{s f:ae}{r:List ae}(h:s.length<=120)(hd:od s=f::r):bS s=((ui f||og f||(f==[118]&&!r.isEmpty))&&r.all λx=>qp x):=by
 unfold bS
 rw[hd]
 simp only[h,decide_true,vbl]
theorem mU(s:ae):io s=some (Fx (bS s)):=by
 unfold io
 by_cases h:s.length<=120
 ·have h1:¬((s.length:Int)>120):=by omega
  simp only[h1,h,decide_false,decide_true,vaq,if_false,vbl,V3 s (by omega),vaa]
  obtain⟨d1,d2⟩:=St s
  cases hd:od s with
  |nil=>exact absurd hd (ID s)
  | cons f r =>
   rw[hd]at d1 d2
   rw[YK h hd]
   rw[Rq f r (show _<_ by have:=d2 f (by simp);omega)]
   have hl:r.length<9223372036854775808:=by simp at d1;omega
   have:=nu r hl (λzz=>po r r.length zz) (λx=>!qp x) (.inl ()) (.inr ()) (λj hj=>by
    simp only[po]
    have hm:r[j]∈f::r:=by simp
    rw[vad (by simp;omega),aT r j hj]
    simp only[vaa]
    rw[XW _ (show _<_ by have:=d2 _ hm;omega)]
    simp only[vaa]
    split<;>simp_all) (by simp only[po];rw[vab (by simp)]) 0 (va0 _)
   have e1:OY (f::r) (some 1) none=some r:=by
    have:=DH (f::r) 1 (by simp)
    simpa using this
   simp only[Int.ofNat_zero,vbi]at this
   simp only[vaa,e1,AZ,this,vbt,vca]
   unfold Fx
   cases(ui f||og f||(f==[118]&&!r.isEmpty))<;>cases r.all (λx=>qp x)<;>rfl
 ·have h1:((s.length:Int)>120):=by omega
  have h2:bS s=false:=by unfold bS;simp[h]
  simp[h1,h2,Fx]
end Go.Proofs.YtibglelmlnfojaaGreatDoor
