/- PROVED: a part of the proof. Conditions: none. -/
import Derived.Test.YtkdahfeiedaahaaGreatDoorPkR13
set_option linter.unusedSimpArgs false
set_option linter.unusedVariables false
noncomputable section
namespace Go.Proofs.YtkdahfeiedaahaaGreatDoor
open Go Go.Proofs.Tryz
set_option linter.unusedVariables false
set_option linter.defProp false
set_option maxRecDepth 100000
section
variable(R62:fb)(e:ag)(t14:waE)(t15:Int)(t16:Int)(m:Int)
def fF:aB:=aO 38 [(1,.func (.func 68) [] [.bptr 0 0]),(2,.eptr (ae e)),(14,sl ae t14),(15,.int .i64 t15),(16,.int .i64 t16)] [.cells [.int .i64 m] [],.dead] []
def mw(o:Int⊕(Int)):Exit:=match o with
 |(.inl _)=>.ret
 |(.inr _)=>.exit 0
def iA(o:Int⊕(Int)):aB:=match o with
 |(.inl o)=>aO 38 [(4,.bool false)] [.cells [.int .i64 o] [],.dead] []
 |(.inr o)=>aO 38 [(1,.func (.func 68) [] [.bptr 0 0]),(2,.eptr (ae e))] [.cells [.int .i64 o] [],.dead] []
instance iS_syntax_walk_Nodes_1_L1:KS 1 (fF e t14 t15 t16 m):=ks 2 rfl
instance iO_syntax_walk_Nodes_1_L1{o:Int⊕(Int)}:KS 1 (iA e o):=match o with
 |(.inl o)=>ks 2 rfl
 |(.inr o)=>ks 2 rfl
def mt:Option ((Int×Int)⊕(Int⊕(Int))):=
 if decide (t16<t15)=true then
  (ey t14 t16).bind λx4=>
  (R62 x4 m).bind λr5=>
  if(!r5.1)=true then
   some (.inr (.inl r5.2))
  else
   some (.inl (dp (t16+1),r5.2))
 else
  some (.inr (.inr m))
def oE:Option (Int⊕(Int)):=loop (λ(zz:Int×Int)=>mt R62 t14 t15 zz.1 zz.2) (t16,m)
theorem tL(hR62:e8 R62):OL 1 (cA Ug 119) (mt R62 t14 t15 t16 m) (λ(zz:Int×Int)=>fF e t14 t15 zz.1 zz.2) mw (iA e) (fF e t14 t15 t16 m):=XT.lx<|
 tF (tb λx4 bx4=>tb λr5 br5=>tv (cR.ia (k:=.i64) bx4)<|tv (aX x4)<|tx rH<|tx (dn x4)<|tv (aK x4 [])<|tc [0] (hR62 _ _ _ br5)<|tF tE<|tE)<|tE
theorem lH(hR62:e8 R62):OK 1 (.loop (cA Ug 119)) (oE R62 t14 t15 t16 m) mw (iA e) (fF e t14 t15 t16 m):=C9 λ_=>tL _ _ _ _ _ _ hR62
end
section
variable(R62:fb)(t26:waD)(t27:Int)(t28:Int)(m:Int)
def fG:aB:=aO 38 [(1,.func (.func 68) [] [.bptr 0 0]),(26,sl au t26),(27,.int .i64 t27),(28,.int .i64 t28)] [.cells [.int .i64 m] [],.dead] []
def mz(o:Int⊕(Int)):Exit:=match o with
 |(.inl _)=>.ret
 |(.inr _)=>.exit 2
def iB(o:Int⊕(Int)):aB:=match o with
 |(.inl o)=>aO 38 [(4,.bool false)] [.cells [.int .i64 o] [],.dead] []
 |(.inr o)=>aO 38 [] [.cells [.int .i64 o] [],.dead] []
instance iS_syntax_walk_Nodes_1_L2:KS 1 (fG t26 t27 t28 m):=ks 2 rfl
instance iO_syntax_walk_Nodes_1_L2{o:Int⊕(Int)}:KS 1 (iB o):=match o with
 |(.inl o)=>ks 2 rfl
 |(.inr o)=>ks 2 rfl
def my:Option ((Int×Int)⊕(Int⊕(Int))):=
 if decide (t28<t27)=true then
  (ey t26 t28).bind λx9=>
  (R62 x9.Body m).bind λr10=>
  if(!r10.1)=true then
   some (.inr (.inl r10.2))
  else
   some (.inl (dp (t28+1),r10.2))
 else
  some (.inr (.inr m))
def oF:Option (Int⊕(Int)):=loop (λ(zz:Int×Int)=>my R62 t26 t27 zz.1 zz.2) (t28,m)
theorem tM(hR62:e8 R62):OL 1 (cA Ug 247) (my R62 t26 t27 t28 m) (λ(zz:Int×Int)=>fG t26 t27 zz.1 zz.2) mz iB (fG t26 t27 t28 m):=XT.lx<|
 tF (tb λx9 bx9=>tb λr10 br10=>tv (dc.ia (k:=.i64) bx9)<|tv (lp x9)<|tx Jv<|tx (hU x9)<|tv (aK x9.Body [])<|tc [0] (hR62 _ _ _ br10)<|tF tE<|tE)<|tE
theorem lI(hR62:e8 R62):OK 1 (.loop (cA Ug 247)) (oF R62 t26 t27 t28 m) mz iB (fG t26 t27 t28 m):=C9 λ_=>tM _ _ _ _ _ hR62
end
def oY(R62:fb)(e:ag)(k0:Int):Option (Bool×Int):=
 (AW e k0).bind λr1=>
 if(!r1.1)=true then
  some (false,r1.2)
 else
  (oE R62 e.Kids (e.Kids.length:Int) 0 r1.2).bind λo7=>match o7 with
  |(.inl o7)=>
   some (false,o7)
  | (.inr o7) =>
   (oF R62 e.Alts (e.Alts.length:Int) 0 o7).bind λo12=>match o12 with
   |(.inl o12)=>
    some (false,o12)
   |(.inr o12)=>
    some (true,o12)
theorem xl(R62:fb)(hR62:e8 R62){e:ag}{k0:Int}:OG 64 [.agg (ae e),.func (.func 68) [] [.bptr 0 0]] [] [.cells [.int .i64 k0] []] (oY R62 e k0) (λr=>.bool r.1) [] (λr=>[.cells [.int .i64 r.2] []]):=XT.g 1<|
 tb λr1 br1=>te (cm e)<|tv (aX e)<|tc [0] (F7 _ br1)<|tF tE<|tw (aR e)<|ct (cR.ln e.Kids)<|t2 (λo7 bo7=>cD (lH R62 e e.Kids (e.Kids.length:Int) 0 r1.2 hR62 _ bo7)<|tE) λo7 bo7=>cD (lH R62 e e.Kids (e.Kids.length:Int) 0 r1.2 hR62 _ bo7)<|tw (ay e)<|ct (dc.ln e.Alts)<|t2 (λo12 bo12=>cD (lI R62 e.Alts (e.Alts.length:Int) 0 o7 hR62 _ bo12)<|tE) λo12 bo12=>cD (lI R62 e.Alts (e.Alts.length:Int) 0 o7 hR62 _ bo12)<|tE
def oZ:((ag×Int)->Option (Bool×Int))->(ag×Int)->Option (Bool×Int):=λ(rec:(ag×Int)->Option (Bool×Int)) (x:ag×Int)=>oY (λe k0=>rec (e,k0)) x.1 x.2
def qV(e:ag)(k0:Int):Option (Bool×Int):=pl oZ (e,k0)
theorem yC{e:ag}{k0:Int}:OG 64 [.agg (ae e),.func (.func 68) [] [.bptr 0 0]] [] [.cells [.int .i64 k0] []] (qV e k0) (λr=>.bool r.1) [] (λr=>[.cells [.int .i64 r.2] []]):=XI λ_ h=>
 dY (F:=oZ) (M:=λ(x:ag×Int) (r:Bool×Int)=>C Pg GE 64 [.agg (ae x.1),.func (.func 68) [] [.bptr 0 0]] [] [.cells [.int .i64 x.2] []] (.bool r.1) [] [.cells [.int .i64 r.2] []]) (λrec hrec x r h=>xl _ (λe k0=>XI λr h=>hrec (e,k0) r h) _ h) h
noncomputable def qfj:Code:=f19.body.getD .skip
theorem qeV:ZF Pg [] 19 f19 qfj:=zf call19 func19 rfl mixed
def yx(e:ag):Option Int:=
 (qV e 0).bind λr1=>
 some r1.2
theorem qw{e:ag}:OV 19 [.agg (ae e)] (yx e) (λr=>.int .i64 r) []:=qeV.v<|
 tb λr1 br1=>te (cm e)<|tx qfK<|ts<|tv (aX e)<|tc [1] (yC _ br1)<|ts<|tE
abbrev kN:=(ag->Option Int)
abbrev kI(R:kN):Prop:=∀(e:ag),OV 21 [.agg (ae e)] (R e) (λr=>.int .i64 r) []
noncomputable def qdz:Code:=f21.body.getD .skip
theorem qdb:ZF Pg [] 21 f21 qdz:=zf call21 func21 rfl mixed
section
variable(R64:kN)(e:ag)(t9:waE)(t10:Int)(n:Int)(t11:Int)
def oe:aB:=aO 35 [(1,.eptr (ae e)),(3,.int .i64 n),(9,sl ae t9),(10,.int .i64 t10),(11,.int .i64 t11)] [.dead] []
def u9(o:Int):aB:=aO 35 [(1,.eptr (ae e)),(3,.int .i64 o)] [.dead] []
instance iS_syntax_Depth_L1:KS 0 (oe e t9 t10 n t11):=ks 1 rfl
instance iO_syntax_Depth_L1{o:Int}:KS 0 (u9 e o):=ks 1 rfl
def u7:Option ((Int×Int)⊕(Int)):=
 if decide (t11<t10)=true then
  (ey t9 t11).bind λx2=>
  (R64 x2).bind λr3=>
  some (.inl ((if r3>n then r3 else n),dp (t11+1)))
 else
  some (.inr n)
def JA:Option Int:=loop (λ(zz:Int×Int)=>u7 R64 t9 t10 zz.1 zz.2) (n,t11)
theorem Ce(hR64:kI R64):OL 0 (cA qdz 119) (u7 R64 t9 t10 n t11) (λ(zz:Int×Int)=>oe e t9 t10 zz.1 zz.2) (λ_=>.exit 0) (u9 e) (oe e t9 t10 n t11):=qdb.lx<|
 tF (tb λx2 bx2=>tb λr3 br3=>tv (cR.ia (k:=.i64) bx2)<|tv (aX x2)<|tx rH<|tx (dn x2)<|tv (aK x2 [])<|bM (hR64 _ _ br3)<|tE)<|tE
def D6(hR64:kI R64):=rE (s:=(n,t11)) λzz=>Ce R64 e t9 t10 zz.1 zz.2 hR64
end
section
variable(R64:kN)(t21:waD)(t22:Int)(n:Int)(t23:Int)
def og:aB:=aO 35 [(3,.int .i64 n),(21,sl au t21),(22,.int .i64 t22),(23,.int .i64 t23)] [.dead] []
def vd(o:Int):aB:=aO 35 [(3,.int .i64 o)] [.dead] []
instance iS_syntax_Depth_L2:KS 0 (og t21 t22 n t23):=ks 1 rfl
instance iO_syntax_Depth_L2{o:Int}:KS 0 (vd o):=ks 1 rfl
def vb:Option ((Int×Int)⊕(Int)):=
 if decide (t23<t22)=true then
  (ey t21 t23).bind λx6=>
  (R64 x6.Body).bind λr7=>
  some (.inl ((if r7>n then r7 else n),dp (t23+1)))
 else
  some (.inr n)
def JB:Option Int:=loop (λ(zz:Int×Int)=>vb R64 t21 t22 zz.1 zz.2) (n,t23)
theorem Cf(hR64:kI R64):OL 0 (cA qdz 247) (vb R64 t21 t22 n t23) (λ(zz:Int×Int)=>og t21 t22 zz.1 zz.2) (λ_=>.exit 2) vd (og t21 t22 n t23):=qdb.lx<|
 tF (tb λx6 bx6=>tb λr7 br7=>tv (dc.ia (k:=.i64) bx6)<|tv (lp x6)<|tx Jv<|tx (hU x6)<|tv (aK x6.Body [])<|bM (hR64 _ _ br7)<|tE)<|tE
def D7(hR64:kI R64):=rE (s:=(n,t23)) λzz=>Cf R64 t21 t22 zz.1 zz.2 hR64
end
def AU(R64:kN)(e:ag):Option Int:=
 (JA R64 e.Kids (e.Kids.length:Int) 0 0).bind λo4=>
 (JB R64 e.Alts (e.Alts.length:Int) o4 0).bind λo8=>
 some (dp (o8+1))
theorem HO(R64:kN)(hR64:kI R64){e:ag}:OV 21 [.agg (ae e)] (AU R64 e) (λr=>.int .i64 r) []:=qdb.v<|
 tb λo4 bo4=>tb λo8 bo8=>te (cm e)<|tw (aR e)<|ct (cR.ln e.Kids)<|cD (D6 R64 e e.Kids (e.Kids.length:Int) 0 0 hR64 _ bo4)<|tw (ay e)<|ct (dc.ln e.Alts)<|cD (D7 R64 e.Alts (e.Alts.length:Int) o4 0 hR64 _ bo8)<|tE
def AV:(ag->Option Int)->(ag)->Option Int:=λ(rec:ag->Option Int) (x:ag)=>AU (λe=>rec e) x
def yw(e:ag):Option Int:=pl AV e
theorem y8{e:ag}:OV 21 [.agg (ae e)] (yw e) (λr=>.int .i64 r) []:=BN λ_ h=>
 dY (F:=AV) (M:=λ(x:ag) (r:Int)=>CC Pg GE 21 [.agg (ae x)] (.int .i64 r) []) (λrec hrec x r h=>HO _ (λe=>BN λr h=>hrec e r h) _ h) h
abbrev e9:=(ag->Int->Option (Bool×Int))
abbrev eZ(R:e9):Prop:=∀(e:ag) (k0:Int),OG 64 [.agg (ae e),.func (.func 65) [] [.bptr 0 0]] [] [.cells [.int .i64 k0] []] (R e k0) (λr=>.bool r.1) [] (λr=>[.cells [.int .i64 r.2] []])
noncomputable def X2:Code:=f116.body.getD .skip
theorem XP:ZF Pg [] 116 f116 X2:=zf call116 func116 rfl mixed
section
variable(t4:Int)
def xh:Option Bool:=
 if(t4==1)=true then
  some (t4==1)
 else
  some (t4==2)
theorem Cn:OU 0 (cA X2 54) (xh t4) .normal (λo=>[(5,.bool o)]) (aO 56 [(2,.bptr 0 0),(4,.int .i64 t4)] [.cells [.bool false,.bool false,.int .i64 0,.int .i64 0,.bool false,.bool false,.int .i64 0,.int .i64 0,.bool false] []] []):=XP.j<|
 tF tE<|tE
end
section
variable(t4:Int)
def xi:Option Bool:=
 if(t4==10)=true then
  some (t4==10)
 else if(t4==11)=true then
  some (t4==11)
 else if(t4==12)=true then
  some (t4==12)
 else if(t4==13)=true then
  some (t4==13)
 else if(t4==14)=true then
  some (t4==14)
 else if(t4==16)=true then
  some (t4==16)
 else if(t4==17)=true then
  some (t4==17)
 else if(t4==18)=true then
  some (t4==18)
 else if(t4==19)=true then
  some (t4==19)
 else if(t4==20)=true then
  some (t4==20)
 else
  some (t4==24)
theorem Co:OU 0 (cA X2 3670014) (xi t4) .normal (λo=>[(30,.bool o)]) (aO 56 [(2,.bptr 0 0),(4,.int .i64 t4)] [.cells [.bool false,.bool false,.int .i64 0,.int .i64 0,.bool false,.bool false,.int .i64 0,.int .i64 0,.bool false] []] []):=XP.j<|
 tF tE<|tF tE<|tF tE<|tF tE<|tF tE<|tF tE<|tF tE<|tF tE<|tF tE<|tF tE<|tE
end
section
variable(t4:Int)
def xj:Option Bool:=
 if(t4==15)=true then
  some (t4==15)
 else if(t4==21)=true then
  some (t4==21)
 else if(t4==22)=true then
  some (t4==22)
 else
  some (t4==23)
theorem Cp:OU 0 (cA X2 14680062) (xj t4) .normal (λo=>[(43,.bool o)]) (aO 56 [(2,.bptr 0 0),(4,.int .i64 t4)] [.cells [.bool false,.bool false,.int .i64 0,.int .i64 0,.bool false,.bool false,.int .i64 0,.int .i64 0,.bool false] []] []):=XP.j<|
 tF tE<|tF tE<|tF tE<|tE
end
def Df(op:Int):Option (ax×Bool):=
 (xh op).bind λo2=>
 if o2=true then
  some ((⟨true,false,0,0,false,false,0,0,false⟩:ax),true)
 else if(op==3)=true then
  some ((⟨false,true,0,0,false,false,0,0,false⟩:ax),true)
 else if(op==4)=true then
  some ((⟨false,true,0,6,false,false,0,1073741824,true⟩:ax),true)
 else if(op==5)=true then
  some ((⟨false,true,1,6,false,false,0,1073741824,true⟩:ax),true)
 else if(op==6)=true then
  some ((⟨false,false,1,1,true,false,0,0,false⟩:ax),true)
 else if(op==7)=true then
  some ((⟨false,true,2,2,false,false,0,1,true⟩:ax),true)
 else if(op==8)=true then
  some ((⟨false,false,3,3,false,false,0,0,false⟩:ax),true)
 else if(op==9)=true then
  some ((⟨false,false,1,1,false,true,0,0,false⟩:ax),true)
 else
  (xi op).bind λo21=>
  if o21=true then
   some ((⟨false,false,2,2,false,false,0,0,false⟩:ax),true)
  else
   (xj op).bind λo26=>
   if o26=true then
    some ((⟨false,false,1,1,false,false,0,0,false⟩:ax),true)
   else if(op==25)=true then
    some ((⟨false,true,2,7,false,false,0,0,false⟩:ax),true)
   else if(op==26)=true then
    some ((⟨false,false,1,1,false,false,1,1,true⟩:ax),true)
   else
    some ((⟨false,false,0,0,false,false,0,0,false⟩:ax),false)
theorem HS{op:Int}:OV 116 [.int .i64 op] (Df op) (λr=>.tuple [.agg (aD r.1),.bool r.2]) []:=XP.v<|
 tb λo2 bo2=>tx Zo<|jo 2<|cD (Cn op _ bo2)<|tF (tv (E3 true)<|tx (co (⟨true,false,0,0,false,false,0,0,false⟩:ax))<|Ei λq=>aI (vbd PVal.tuple (jw (cF (⟨true,false,0,0,false,false,0,0,false⟩:ax)) (jw (rP (.bool true)) (rfl:([]:List PVal)=[])))) q.2)<|tF (tv (E4 true)<|tx (co (⟨false,true,0,0,false,false,0,0,false⟩:ax))<|Ei λq=>aI (vbd PVal.tuple (jw (cF (⟨false,true,0,0,false,false,0,0,false⟩:ax)) (jw (rP (.bool true)) (rfl:([]:List PVal)=[])))) q.2)<|tF (tv (wt true 6 true 1073741824)<|tx (co (⟨false,true,0,6,false,false,0,1073741824,true⟩:ax))<|Ei λq=>aI (vbd PVal.tuple (jw (cF (⟨false,true,0,6,false,false,0,1073741824,true⟩:ax)) (jw (rP (.bool true)) (rfl:([]:List PVal)=[])))) q.2)<|tF (tv (lA true 1 6 true 1073741824)<|tx (co (⟨false,true,1,6,false,false,0,1073741824,true⟩:ax))<|Ei λq=>aI (vbd PVal.tuple (jw (cF (⟨false,true,1,6,false,false,0,1073741824,true⟩:ax)) (jw (rP (.bool true)) (rfl:([]:List PVal)=[])))) q.2)<|tF (tv (zj true 1 1)<|tx (co (⟨false,false,1,1,true,false,0,0,false⟩:ax))<|Ei λq=>aI (vbd PVal.tuple (jw (cF (⟨false,false,1,1,true,false,0,0,false⟩:ax)) (jw (rP (.bool true)) (rfl:([]:List PVal)=[])))) q.2)<|tF (tv (lA true 2 2 true 1)<|tx (co (⟨false,true,2,2,false,false,0,1,true⟩:ax))<|Ei λq=>aI (vbd PVal.tuple (jw (cF (⟨false,true,2,2,false,false,0,1,true⟩:ax)) (jw (rP (.bool true)) (rfl:([]:List PVal)=[])))) q.2)<|tF (tv (lK 3 3)<|tx (co (⟨false,false,3,3,false,false,0,0,false⟩:ax))<|Ei λq=>aI (vbd PVal.tuple (jw (cF (⟨false,false,3,3,false,false,0,0,false⟩:ax)) (jw (rP (.bool true)) (rfl:([]:List PVal)=[])))) q.2)<|tF (tv (zk true 1 1)<|tx (co (⟨false,false,1,1,false,true,0,0,false⟩:ax))<|Ei λq=>aI (vbd PVal.tuple (jw (cF (⟨false,false,1,1,false,true,0,0,false⟩:ax)) (jw (rP (.bool true)) (rfl:([]:List PVal)=[])))) q.2)<|tb λo21 bo21=>jo 0<|cD (Co op _ bo21)<|tF (tv (lK 2 2)<|tx (co (⟨false,false,2,2,false,false,0,0,false⟩:ax))<|Ei λq=>aI (vbd PVal.tuple (jw (cF (⟨false,false,2,2,false,false,0,0,false⟩:ax)) (jw (rP (.bool true)) (rfl:([]:List PVal)=[])))) q.2)<|tb λo26 bo26=>jo 0<|cD (Cp op _ bo26)<|tF (tv (lK 1 1)<|tx (co (⟨false,false,1,1,false,false,0,0,false⟩:ax))<|Ei λq=>aI (vbd PVal.tuple (jw (cF (⟨false,false,1,1,false,false,0,0,false⟩:ax)) (jw (rP (.bool true)) (rfl:([]:List PVal)=[])))) q.2)<|tF (tv (zi true 2 7)<|tx (co (⟨false,true,2,7,false,false,0,0,false⟩:ax))<|Ei λq=>aI (vbd PVal.tuple (jw (cF (⟨false,true,2,7,false,false,0,0,false⟩:ax)) (jw (rP (.bool true)) (rfl:([]:List PVal)=[])))) q.2)<|tF (tv (tR 1 1 true 1 1)<|tx (co (⟨false,false,1,1,false,false,1,1,true⟩:ax))<|Ei λq=>aI (vbd PVal.tuple (jw (cF (⟨false,false,1,1,false,false,1,1,true⟩:ax)) (jw (rP (.bool true)) (rfl:([]:List PVal)=[])))) q.2)<|tv (E5)<|tx (co (⟨false,false,0,0,false,false,0,0,false⟩:ax))<|Ei λq=>aI (vbd PVal.tuple (jw (cF (⟨false,false,0,0,false,false,0,0,false⟩:ax)) (jw (rP (.bool false)) (rfl:([]:List PVal)=[])))) q.2
noncomputable def qdr:Code:=f139.body.getD .skip
theorem qcX:ZF Pg [] 139 f139 qdr:=zf call139 func139 rfl mixed
def za(a:az):Option Bool:=
 some (decide ((a.Names.length:Int)>6))
theorem D9{a:az}:OV 139 [.agg (au a)] (za a) (λr=>.bool r) []:=qcX.v<|
 te (PQ a)<|tw (eK a)<|ct (b8.ln a.Names)<|tE
noncomputable def qad:Code:=f158.body.getD .skip
theorem qbn:ZF Pg [10,17] 158 f158 qad:=zf call158 func158 rfl mixed
section
variable(s:waD)(t7:Int)(t8:Int)
def fp:aB:=aO 19 [(0,sl au s),(1,.func (.func 139) [] []),(7,.int .i64 t7),(8,.int .i64 t8)] [] []
def i8(o:Int⊕(Unit)):Exit:=match o with
 |(.inl _)=>.ret
 |(.inr _)=>.exit 0
def ja(o:Int⊕(Unit)):aB:=match o with
 |(.inl o)=>aO 19 [(4,.int .i64 o)] [] []
 |(.inr o)=>aO 19 [] [] []
def i7:Option (Int⊕(Int⊕(Unit))):=
 if decide (t8<t7)=true then
  (ey s t8).bind λx2=>
  (za x2).bind λr3=>
  if r3=true then
   some (.inr (.inl t8))
  else
   some (.inl (dp (t8+1)))
 else
  some (.inr (.inr ()))
def jZ:Option (Int⊕(Unit)):=loop (λ(zz:Int)=>i7 s t7 zz) t8
theorem n9:OL 0 (cA qad 55) (i7 s t7 t8) (λ(zz:Int)=>fp s t7 zz) i8 ja (fp s t7 t8):=qbn.l<|
 tF (tb λx2 bx2=>tb λr3 br3=>tv (dc.ia (k:=.i64) bx2)<|tv (lp x2)<|bM (D9 _ br3)<|tF tE<|tE)<|tE
theorem iF:OK 0 (.loop (cA qad 55)) (jZ s t7 t8) i8 ja (fp s t7 t8):=C9 λ_=>n9 _ _ _
end
def lD(s:waD):Option Int:=
 (jZ s (s.length:Int) 0).bind λo5=>match o5 with
 |(.inl o5)=>
  some o5
 |(.inr o5)=>
  some (-1)
theorem qt{s:waD}:OV 158 [sl au s,.func (.func 139) [] []] (lD s) (λr=>.int .i64 r) []:=qbn.v<|
 ct (dc.ln s)<|t2 (λo5 bo5=>cD (iF s (s.length:Int) 0 _ bo5)<|tE) λo5 bo5=>cD (iF s (s.length:Int) 0 _ bo5)<|tE
noncomputable def qdq:Code:=f138.body.getD .skip
theorem qcW:ZF Pg [] 138 f138 qdq:=zf call138 func138 rfl mixed
def jX(s:waD):Option Bool:=
 (lD s).bind λr1=>
 some (decide (r1>=0))
theorem oK{s:waD}:OV 138 [sl au s,.func (.func 139) [] []] (jX s) (λr=>.bool r) []:=qcW.v<|
 tb λr1 br1=>bM (qt _ br1)<|tE
noncomputable def Z7:Code:=f117.body.getD .skip
theorem ZB:ZF Pg [] 117 f117 Z7:=zf call117 func117 rfl mixed
section
variable(e:ag)(s:ax)
def w9:Option Bool:=
 if decide ((e.Kids.length:Int)<s.least)=true then
  some true
 else if decide ((e.Kids.length:Int)>s.most)=true then
  some true
 else if decide ((e.Types.length:Int)<s.typesLeast)=true then
  some true
 else
  some (decide ((e.Types.length:Int)>s.typesMost))
theorem Ch:OU 0 (cA Z7 12) (w9 e s) .normal (λo=>[(34,.bool o)]) (aO 69 [(2,.eptr (ae e)),(3,.eptr (aD s))] [.dead,.dead] []):=ZB.j<|
 have pp2:=λ{X Y Z} (r:PV _ X Y Z)=>tw (aR e)<|ct (cR.ln e.Kids)<|tw (tU s)<|r;tf (λc1=>pp2<|tg 7 c1<|tE) λc1=>have pp4:=λ{X Y Z} (r:PV _ X Y Z)=>pp2<|tg 7 c1<|tw (aR e)<|ct (cR.ln e.Kids)<|tw (tV s)<|r;tf (λc3=>pp4<|tg 15 c3<|tE) λc3=>have pp6:=λ{X Y Z} (r:PV _ X Y Z)=>pp4<|tg 15 c3<|tw (aC e)<|ct (dZ.ln e.Types)<|tw (tX s)<|r;tf (λc5=>pp6<|tg 23 c5<|tE) λc5=>pp6<|tg 23 c5<|tw (aC e)<|ct (dZ.ln e.Types)<|tw (tY s)<|tE
end
section
variable(e:ag)(s:ax)
def xa:Option Bool:=
 if s.params=true then
  if decide ((e.Params.length:Int)<1)=true then
   some true
  else if decide ((e.Params.length:Int)>6)=true then
   some true
  else if s.alts=true then
   if decide ((e.Alts.length:Int)<1)=true then
    some true
   else
    some (decide ((e.Alts.length:Int)>8))
  else
   some false
 else if s.alts=true then
  if decide ((e.Alts.length:Int)<1)=true then
   some true
  else
   some (decide ((e.Alts.length:Int)>8))
 else
  some false
theorem Ci:OU 0 (cA Z7 28) (xa e s) .normal (λo=>[(3,.undef),(64,.bool o)]) (aO 69 [(2,.eptr (ae e)),(3,.eptr (aD s))] [.dead,.dead] []):=ZB.j<|
 have pp10:=λ{X Y Z} (r:PV _ X Y Z)=>tw (tW s)<|r;tf (λc9=>have pp12:=λ{X Y Z} (r:PV _ X Y Z)=>pp10<|tg 3 c9<|tw (aM e)<|ct (er.ln e.Params)<|r;tf (λc11=>pp12<|tg 8 c11<|tE) λc11=>have pp14:=λ{X Y Z} (r:PV _ X Y Z)=>pp12<|tg 8 c11<|tw (aM e)<|ct (er.ln e.Params)<|r;tf (λc13=>pp14<|tg 15 c13<|tE) λc13=>have pp16:=λ{X Y Z} (r:PV _ X Y Z)=>pp14<|tg 15 c13<|tw (lB s)<|r;tf (λc15=>have pp18:=λ{X Y Z} (r:PV _ X Y Z)=>pp16<|tg 18 c15<|tw (ay e)<|ct (dc.ln e.Alts)<|r;tf (λc17=>pp18<|tg 23 c17<|tE) λc17=>pp18<|tg 23 c17<|tw (ay e)<|ct (dc.ln e.Alts)<|tE) λc15=>pp16<|tg 18 c15<|tE) λc9=>have pp20:=λ{X Y Z} (r:PV _ X Y Z)=>pp10<|tg 3 c9<|tw (lB s)<|r;tf (λc19=>have pp22:=λ{X Y Z} (r:PV _ X Y Z)=>pp20<|tg 18 c19<|tw (ay e)<|ct (dc.ln e.Alts)<|r;tf (λc21=>pp22<|tg 23 c21<|tE) λc21=>pp22<|tg 23 c21<|tw (ay e)<|ct (dc.ln e.Alts)<|tE) λc19=>pp20<|tg 18 c19<|tE
end
def De(e:ag)(s:ax):Option Bool:=
 (w9 e s).bind λo7=>
 if o7=true then
  some false
 else
  (xa e s).bind λo23=>
  if o23=true then
   some false
  else
   (jX e.Alts).bind λr25=>
   some (!r25)
theorem HQ{e:ag}{s:ax}:OV 117 [.agg (ae e),.agg (aD s)] (De e s) (λr=>.bool r) []:=ZB.v<|
 tb λo7 bo7=>te (cm e)<|te (yZ s)<|jo 1<|cD (Ch e s _ bo7)<|tF tE<|tb λo23 bo23=>jo 1<|cD (Ci e s _ bo23)<|tF tE<|tb λr25 br25=>tw (ay e)<|bM (oK _ br25)<|tE
noncomputable def qdl:Code:=f118.body.getD .skip
theorem qcR:ZF Pg [] 118 f118 qdl:=zf call118 func118 rfl mixed
def WR(n:Int):Option Bool:=
 if decide (n>=(-1000000000000))=true then
  some (decide (n<=1000000000000))
 else
  some false
theorem UK{n:Int}:OV 118 [.int .i64 n] (WR n) (λr=>.bool r) []:=qcR.v<|
 tf (λc1=>tg 3 c1<|tE) λc1=>tg 3 c1<|tE
noncomputable def qae:Code:=f159.body.getD .skip
theorem qbo:ZF Pg [] 159 f159 qae:=zf call159 func159 rfl mixed
section
variable(t7:waA)(t8:Int)(t9:Int)(m0:(List (ai×Bool)))
def lO:aB:=aO 19 [(3,.mapr 0),(7,sl cS t7),(8,.int .i64 t8),(9,.int .i64 t9)] [.map (df PVal.bool m0)] []
def qL(o:((List (ai×Bool)))⊕((List (ai×Bool)))):Exit:=match o with
 |(.inl _)=>.ret
 |(.inr _)=>.exit 0
def qM(o:((List (ai×Bool)))⊕((List (ai×Bool)))):aB:=match o with
 |(.inl o)=>aO 19 [(2,.bool false)] [.map (df PVal.bool o)] []
 |(.inr o)=>aO 19 [] [.map (df PVal.bool o)] []
def qK:Option ((Int×(List (ai×Bool)))⊕(((List (ai×Bool)))⊕((List (ai×Bool))))):=
 if decide (t9<t8)=true then
  (ey t7 t9).bind λx2=>
  if((yh m0 x2).getD false)=true then
   some (.inr (.inl m0))
  else
   some (.inl (dp (t9+1),rz m0 x2 true))
 else
  some (.inr (.inr m0))
def uN:Option (((List (ai×Bool)))⊕((List (ai×Bool)))):=loop (λ(zz:Int×(List (ai×Bool)))=>qK t7 t8 zz.1 zz.2) (t9,m0)
theorem zl:OL 0 (cA qae 119) (qK t7 t8 t9 m0) (λ(zz:Int×(List (ai×Bool)))=>lO t7 t8 zz.1 zz.2) qL qM (lO t7 t8 t9 m0):=qbo.l<|
 tF (tb λx2 bx2=>tv (b8.ia (k:=.i64) bx2)<|tv (cw BZ (.str x2) [])<|tv (SA (f:=PVal.bool) underlying124 underlying9 qef m0 x2)<|tF tE<|qec (SB (f:=PVal.bool) underlying124 underlying9 m0 x2 true)<|tE)<|tE
theorem pY:OK 0 (.loop (cA qae 119)) (uN t7 t8 t9 m0) qL qM (lO t7 t8 t9 m0):=C9 λ_=>zl _ _ _ _
end
def Aw(a:waA):Option Bool:=
 (uN a (a.length:Int) 0 ([]:List (ai×Bool))).bind λo4=>match o4 with
 |(.inl o4)=>
  some false
 |(.inr o4)=>
  some true
theorem Fk{a:waA}:OV 159 [sl cS a] (Aw a) (λr=>.bool r) []:=qbo.v<|
 ct (b8.ln a)<|t2 (λo4 bo4=>cD (pY a (a.length:Int) 0 ([]:List (ai×Bool)) _ bo4)<|tE) λo4 bo4=>cD (pY a (a.length:Int) 0 ([]:List (ai×Bool)) _ bo4)<|tE
noncomputable def qds:Code:=f140.body.getD .skip
theorem qcY:ZF Pg [] 140 f140 qds:=zf call140 func140 rfl mixed
def rN(a:waA):Option Bool:=
 (Aw a).bind λr1=>
 some (!r1)
theorem qB{a:waA}:OV 140 [sl cS a] (rN a) (λr=>.bool r) []:=qcY.v<|
 tb λr1 br1=>bM (Fk _ br1)<|tE
noncomputable def qey:Code:=f84.body.getD .skip
theorem qet:ZF Pg [12,18] 84 f84 qey:=zf call84 func84 rfl mixed
section
variable(t6:waD)(t7:Int)(out:waA)(t8:Int)
def iu:aB:=aO 19 [(3,sl cS out),(6,sl au t6),(7,.int .i64 t7),(8,.int .i64 t8)] [] [((3,0),9)]
def mi(o:waA):aB:=aO 19 [(3,sl cS o)] [] [((3,0),9)]
instance iS_syntax_constructors_L1:KS 0 (iu t6 t7 out t8):=ks 0 rfl
instance iO_syntax_constructors_L1{o:waA}:KS 0 (mi o):=ks 0 rfl
def mh:Option ((waA×Int)⊕(waA)):=
 if decide (t8<t7)=true then
  (ey t6 t8).bind λx2=>
  (app out ([x2.Con]:List ai)).bind λl3=>
  some (.inl (l3,dp (t8+1)))
 else
  some (.inr out)
def yz:Option waA:=loop (λ(zz:waA×Int)=>mh t6 t7 zz.1 zz.2) (out,t8)
theorem tI:OL 0 (cA qey 119) (mh t6 t7 out t8) (λ(zz:waA×Int)=>iu t6 t7 zz.1 zz.2) (λ_=>.exit 0) mi (iu t6 t7 out t8):=qet.lx<|
 tF (tb λx2 bx2=>tb λl3 bl3=>tv (dc.ia (k:=.i64) bx2)<|tv (lp x2)<|tx Jv<|tx (hU x2)<|ts<|tv (gD [x2.Con] 1 rfl)<|tv (b8.ap bl3)<|tE)<|tE
def uc:=rE (s:=(out,t8)) λzz=>tI t6 t7 zz.1 zz.2
end
def qS(a:waD):Option waA:=
 (yz a (a.length:Int) ([]:List ai) 0).bind λo4=>
 some o4
theorem yA{a:waD}:OV 84 [sl au a] (qS a) (λr=>sl cS r) [(0,9)]:=qet.v<|
 tb λo4 bo4=>ct (dc.ln a)<|cD (uc a (a.length:Int) ([]:List ai) 0 _ bo4)<|tE
noncomputable def qaf:Code:=f160.body.getD .skip
theorem qbp:ZF Pg [23] 160 f160 qaf:=zf call160 func160 rfl mixed
section
variable(s:ai)(i:Int)
def sZ:aB:=aO 24 [(0,.str s),(5,.int .i64 i)] [] []
def AA(o:(ai×ai)⊕(Unit)):Exit:=match o with
 |(.inl _)=>.ret
 |(.inr _)=>.exit 0
def AB(o:(ai×ai)⊕(Unit)):aB:=match o with
 |(.inl o)=>aO 24 [(2,.str o.1),(3,.str o.2),(4,.bool true)] [] []
 |(.inr o)=>aO 24 [(0,.str s)] [] []
def Az:Option (Int⊕((ai×ai)⊕(Unit))):=
 if decide (i<(s.length:Int))=true then
  (B9 s i).bind λc2=>
  if(c2==46)=true then
   (Y0 s none (some i)).bind λs4=>
   (Y0 s (some (dp (i+1))) none).bind λs5=>
   some (.inr (.inl (s4,s5)))
  else
   some (.inl (dp (i+1)))
 else
  some (.inr (.inr ()))
def Fp:Option ((ai×ai)⊕(Unit)):=loop (λ(zz:Int)=>Az s zz) i
theorem Hw:OL 0 (cA qaf 55) (Az s i) (λ(zz:Int)=>sZ s zz) AA (AB s) (sZ s i):=qbp.l<|
 ct (qQ underlying9 s)<|tF (tb λc2 bc2=>tv (u6 (k:=.i64) underlying9 bc2)<|tF (tb λs4 bs4=>tb λs5 bs5=>Be [0,0,3,0,0,16,56,7,255,511]<|tv (Zu underlying9 bs4)<|tv (Zu underlying9 bs5)<|tE)<|tE)<|tE
theorem yQ:OK 0 (.loop (cA qaf 55)) (Fp s i) AA (AB s) (sZ s i):=C9 λ_=>Hw _ _
end
def Hv(s:ai):Option (ai×ai×Bool):=
 (Fp s 0).bind λo6=>match o6 with
 |(.inl o6)=>
  some (o6.1,o6.2,true)
 |(.inr o6)=>
  some (s,([]:ai),false)
theorem Fq{s:ai}:OV 160 [.str s] (Hv s) (λr=>.tuple [.str r.1,.str r.2.1,.bool r.2.2]) []:=qbp.v<|
 t2 (λo6 bo6=>cD (yQ s 0 _ bo6)<|tE) λo6 bo6=>cD (yQ s 0 _ bo6)<|tE
noncomputable def qdv:Code:=f163.body.getD .skip
theorem qc7:ZF Pg [] 163 f163 qdv:=zf call163 func163 rfl mixed
def uP(s:ai):Option Bool:=
 if decide ((s.length:Int)>=1)=true then
  some (decide ((s.length:Int)<=24))
 else
  some false
theorem iW{s:ai}:OV 163 [.str s] (uP s) (λr=>.bool r) []:=qc7.v<|
 tf (λc1=>ct (qQ underlying9 s)<|tg 4 c1<|ct (qQ underlying9 s)<|tE) λc1=>ct (qQ underlying9 s)<|tg 4 c1<|tE
noncomputable def qdw:Code:=f186.body.getD .skip
theorem qc8:ZF Pg [] 186 f186 qdw:=zf call186 func186 rfl mixed
def p7(c:Int):Option Bool:=
 if decide (97<=c)=true then
  some (decide (c<=122))
 else
  some false
theorem nN{c:Int}:OV 186 [.int .u8 c] (p7 c) (λr=>.bool r) []:=qc8.v<|
 tf (λc1=>tg 3 c1<|tE) λc1=>tg 3 c1<|tE
noncomputable def qag:Code:=f187.body.getD .skip
theorem qbs:ZF Pg [] 187 f187 qag:=zf call187 func187 rfl mixed
section
variable(s:ai)(t6:Int)
def mM:aB:=aO 13 [(0,.str s),(5,.agg (gE.map PVal.str)),(6,.int .i64 t6)] [] []
def sX(o:Unit⊕(Unit)):Exit:=match o with
 |(.inl _)=>.ret
 |(.inr _)=>.exit 0
def sY(o:Unit⊕(Unit)):aB:=match o with
 |(.inl o)=>aO 13 [(2,.bool true)] [] []
 |(.inr o)=>aO 13 [] [] []
def sW:Option (Int⊕(Unit⊕(Unit))):=
 if decide (t6<42)=true then
  (ey gE t6).bind λx2=>
  if(x2==s)=true then
   some (.inr (.inl ()))
  else
   some (.inl (dp (t6+1)))
 else
  some (.inr (.inr ()))
def wM:Option (Unit⊕(Unit)):=loop (λ(zz:Int)=>sW s zz) t6
theorem Ay:OL 0 (cA qag 55) (sW s t6) (λ(zz:Int)=>mM s zz) sX sY (mM s t6):=qbs.l<|
 tF (tb λx2 bx2=>tv (Fr (k:=.i64) bx2)<|tF tE<|tE)<|tE
theorem qN:OK 0 (.loop (cA qag 55)) (wM s t6) sX sY (mM s t6):=C9 λ_=>Ay _ _
end
def C1(s:ai):Option Bool:=
 (wM s 0).bind λo4=>match o4 with
 |(.inl o4)=>
  some true
 |(.inr o4)=>
  some false
theorem Hu{s:ai}:OV 187 [.str s] (C1 s) (λr=>.bool r) []:=qbs.v<|
 tv Fs<|t2 (λo4 bo4=>cD (qN s 0 _ bo4)<|tE) λo4 bo4=>cD (qN s 0 _ bo4)<|tE
noncomputable def qdx:Code:=f188.body.getD .skip
theorem qc9:ZF Pg [] 188 f188 qdx:=zf call188 func188 rfl mixed
def uO(c:Int):Option Bool:=
 if decide (48<=c)=true then
  some (decide (c<=57))
 else
  some false
theorem s8{c:Int}:OV 188 [.int .u8 c] (uO c) (λr=>.bool r) []:=qc9.v<|
 tf (λc1=>tg 3 c1<|tE) λc1=>tg 3 c1<|tE
noncomputable def V6:Code:=f161.body.getD .skip
theorem XS:ZF Pg [] 161 f161 V6:=zf call161 func161 rfl mixed
section
variable(s:ai)
def C2:Option Bool:=
 (uP s).bind λr1=>
 if(!r1)=true then
  some true
 else
  (B9 s 0).bind λc3=>
  (p7 c3).bind λr4=>
  if(!r4)=true then
   some true
  else
   (C1 s).bind λr7=>
   some r7
theorem Hx:OU 0 (cA V6 12) (C2 s) .normal (λo=>[(16,.bool o)]) (aO 41 [(0,.str s)] [] []):=XS.j<|
 tb λr1 br1=>tf (λc2=>bM (iW _ br1)<|tg 4 c2<|tE) λc2=>tb λc3 bc3=>tb λr4 br4=>have pp6:=λ{X Y Z} (r:PV _ X Y Z)=>bM (iW _ br1)<|tg 4 c2<|tv (u6 (k:=.i64) underlying9 bc3)<|bM (nN _ br4)<|r;tf (λc5=>pp6<|tg 10 c5<|tE) λc5=>tb λr7 br7=>pp6<|tg 10 c5<|bM (Hu _ br7)<|tE
end
section
variable(s:ai)(i:Int)
def C3:Option Bool:=
 (B9 s i).bind λc11=>
 (p7 c11).bind λr12=>
 if(!r12)=true then
  (B9 s i).bind λc15=>
  (uO c15).bind λr16=>
  if(!r16)=true then
   (B9 s i).bind λc19=>
   some (c19 !=95)
  else
   some false
 else
  some false
theorem Hy:OU 0 (cA V6 1914) (C3 s i) .normal (λo=>[(40,.bool o)]) (aO 41 [(0,.str s),(3,.int .i64 i)] [] []):=XS.j<|
 tb λc11 bc11=>tb λr12 br12=>have pp14:=λ{X Y Z} (r:PV _ X Y Z)=>tv (u6 (k:=.i64) underlying9 bc11)<|bM (nN _ br12)<|r;tf (λc13=>tb λc15 bc15=>tb λr16 br16=>have pp18:=λ{X Y Z} (r:PV _ X Y Z)=>pp14<|tg 6 c13<|tv (u6 (k:=.i64) underlying9 bc15)<|bM (s8 _ br16)<|r;tf (λc17=>tb λc19 bc19=>pp18<|tg 13 c17<|tv (u6 (k:=.i64) underlying9 bc19)<|tE) λc17=>pp18<|tg 13 c17<|tE) λc13=>pp14<|tg 6 c13<|tE
end
section
variable(s:ai)(i:Int)
def qm:aB:=aO 41 [(0,.str s),(3,.int .i64 i)] [] []
def yS(o:Unit⊕(Unit)):Exit:=match o with
 |(.inl _)=>.ret
 |(.inr _)=>.exit 0
def yU(o:Unit⊕(Unit)):aB:=match o with
 |(.inl o)=>aO 41 [(2,.bool false)] [] []
 |(.inr o)=>aO 41 [] [] []
def yR:Option (Int⊕(Unit⊕(Unit))):=
 if decide (i<(s.length:Int))=true then
  (C3 s i).bind λo20=>
  if o20=true then
   some (.inr (.inl ()))
  else
   some (.inl (dp (i+1)))
 else
  some (.inr (.inr ()))
def C4:Option (Unit⊕(Unit)):=loop (λ(zz:Int)=>yR s zz) i
theorem Ft:OL 0 (cA V6 119) (yR s i) (λ(zz:Int)=>qm s zz) yS yU (qm s i):=XS.l<|
 ct (qQ underlying9 s)<|tF (tb λo20 bo20=>jo 1<|cD (Hy s i _ bo20)<|tF tE<|tE)<|tE
theorem wO:OK 0 (.loop (cA V6 119)) (C4 s i) yS yU (qm s i):=C9 λ_=>Ft _ _
end
def LC(s:ai):Option Bool:=
 (C2 s).bind λo8=>
 if o8=true then
  some false
 else
  (C4 s 1).bind λo22=>match o22 with
  |(.inl o22)=>
   some false
  |(.inr o22)=>
   some true
theorem C5{s:ai}:OV 161 [.str s] (LC s) (λr=>.bool r) []:=XS.v<|
 tb λo8 bo8=>jo 2<|cD (Hx s _ bo8)<|tF tE<|t2 (λo22 bo22=>cD (wO s 1 _ bo22)<|tE) λo22 bo22=>cD (wO s 1 _ bo22)<|tE
noncomputable def qdy:Code:=f189.body.getD .skip
theorem qda:ZF Pg [] 189 f189 qdy:=zf call189 func189 rfl mixed
def vT(c:Int):Option Bool:=
 if decide (65<=c)=true then
  some (decide (c<=90))
 else
  some false
theorem wN{c:Int}:OV 189 [.int .u8 c] (vT c) (λr=>.bool r) []:=qda.v<|
 tf (λc1=>tg 3 c1<|tE) λc1=>tg 3 c1<|tE
noncomputable def X5:Code:=f164.body.getD .skip
theorem ZE:ZF Pg [] 164 f164 X5:=zf call164 func164 rfl mixed
section
variable(s:ai)(i:Int)
def oQ:Option Bool:=
 (B9 s i).bind λc2=>
 (p7 c2).bind λr3=>
 if(!r3)=true then
  (B9 s i).bind λc6=>
  (vT c6).bind λr7=>
  if(!r7)=true then
   (B9 s i).bind λc10=>
   (uO c10).bind λr11=>
   some (!r11)
  else
   some false
 else
  some false
theorem vS:OU 0 (cA X5 890) (oQ s i) .normal (λo=>[(28,.bool o)]) (aO 29 [(0,.str s),(3,.int .i64 i)] [] []):=ZE.j<|
 tb λc2 bc2=>tb λr3 br3=>have pp5:=λ{X Y Z} (r:PV _ X Y Z)=>tv (u6 (k:=.i64) underlying9 bc2)<|bM (nN _ br3)<|r;tf (λc4=>tb λc6 bc6=>tb λr7 br7=>have pp9:=λ{X Y Z} (r:PV _ X Y Z)=>pp5<|tg 6 c4<|tv (u6 (k:=.i64) underlying9 bc6)<|bM (wN _ br7)<|r;tf (λc8=>tb λc10 bc10=>tb λr11 br11=>pp9<|tg 13 c8<|tv (u6 (k:=.i64) underlying9 bc10)<|bM (s8 _ br11)<|tE) λc8=>pp9<|tg 13 c8<|tE) λc4=>pp5<|tg 6 c4<|tE
end
section
variable(s:ai)(i:Int)
def iV:aB:=aO 29 [(0,.str s),(3,.int .i64 i)] [] []
def mY(o:Unit⊕(Unit)):Exit:=match o with
 |(.inl _)=>.ret
 |(.inr _)=>.exit 0
def mZ(o:Unit⊕(Unit)):aB:=match o with
 |(.inl o)=>aO 29 [(2,.bool false)] [] []
 |(.inr o)=>aO 29 [] [] []
def mX:Option (Int⊕(Unit⊕(Unit))):=
 if decide (i<(s.length:Int))=true then
  (oQ s i).bind λo12=>
  if o12=true then
   some (.inr (.inl ()))
  else
   some (.inl (dp (i+1)))
 else
  some (.inr (.inr ()))
def oR:Option (Unit⊕(Unit)):=loop (λ(zz:Int)=>mX s zz) i
theorem ua:OL 0 (cA X5 55) (mX s i) (λ(zz:Int)=>iV s zz) mY mZ (iV s i):=ZE.l<|
 ct (qQ underlying9 s)<|tF (tb λo12 bo12=>jo 1<|cD (vS s i _ bo12)<|tF tE<|tE)<|tE
theorem mf:OK 0 (.loop (cA X5 55)) (oR s i) mY mZ (iV s i):=C9 λ_=>ua _ _
end
def mN(s:ai):Option Bool:=
 (oR s 0).bind λo14=>match o14 with
 |(.inl o14)=>
  some false
 |(.inr o14)=>
  some true
theorem oS{s:ai}:OV 164 [.str s] (mN s) (λr=>.bool r) []:=ZE.v<|
 t2 (λo14 bo14=>cD (mf s 0 _ bo14)<|tE) λo14 bo14=>cD (mf s 0 _ bo14)<|tE
noncomputable def qbK:Code:=f162.body.getD .skip
theorem qbq:ZF Pg [] 162 f162 qbK:=zf call162 func162 rfl mixed
section
variable(s:ai)
def AC:Option Bool:=
 (uP s).bind λr1=>
 if(!r1)=true then
  some true
 else
  (B9 s 0).bind λc3=>
  (vT c3).bind λr4=>
  if(!r4)=true then
   some true
  else
   (mN s).bind λr7=>
   some (!r7)
theorem Fu:OU 0 (cA qbK 12) (AC s) .normal (λo=>[(16,.bool o)]) (aO 31 [(0,.str s)] [] []):=qbq.j<|
 tb λr1 br1=>tf (λc2=>bM (iW _ br1)<|tg 4 c2<|tE) λc2=>tb λc3 bc3=>tb λr4 br4=>have pp6:=λ{X Y Z} (r:PV _ X Y Z)=>bM (iW _ br1)<|tg 4 c2<|tv (u6 (k:=.i64) underlying9 bc3)<|bM (wN _ br4)<|r;tf (λc5=>pp6<|tg 10 c5<|tE) λc5=>tb λr7 br7=>pp6<|tg 10 c5<|bM (oS _ br7)<|tE
end
def Io(s:ai):Option Bool:=
 (AC s).bind λo8=>
 if o8=true then
  some false
 else if(!(s==([73,110,116]:ai)))=true then
  if(!(s==([66,111,111,108]:ai)))=true then
   if(!(s==([67,101,108,108]:ai)))=true then
    some (!(s==([70,117,110]:ai)))
   else
    some false
  else
   some false
 else
  some false
theorem LD{s:ai}:OV 162 [.str s] (Io s) (λr=>.bool r) []:=qbq.v<|
 tb λo8 bo8=>jo 2<|cD (Fu s _ bo8)<|tF tE<|tf (λc10=>tf (λc11=>have pp13:=λ{X Y Z} (r:PV _ X Y Z)=>tg 3 c10<|tg 7 c11<|r;tf (λc12=>pp13<|tg 11 c12<|tE) λc12=>pp13<|tg 11 c12<|tE) λc11=>tg 3 c10<|tg 7 c11<|tE) λc10=>tg 3 c10<|tE
noncomputable def X6:Code:=f165.body.getD .skip
theorem ZG:ZF Pg [] 165 f165 X6:=zf call165 func165 rfl mixed
section
variable(s:ai)(i:Int)
def C6:Option Bool:=
 (B9 s i).bind λc2=>
 (p7 c2).bind λr3=>
 if (!r3) = true then
  if(i==0)=true then
   some true
  else
   (B9 s i).bind λc8=>
   (uO c8).bind λr9=>
   if(!r9)=true then
    (B9 s i).bind λc12=>
    some (c12 !=95)
   else
    some false
 else
  some false
theorem Hz:OU 0 (cA X6 890) (C6 s i) .normal (λo=>[(31,.bool o)]) (aO 32 [(0,.str s),(3,.int .i64 i)] [] []):=ZG.j<|
 tb λc2 bc2=>tb λr3 br3=>have pp5:=λ{X Y Z} (r:PV _ X Y Z)=>tv (u6 (k:=.i64) underlying9 bc2)<|bM (nN _ br3)<|r;tf (λc4=>have pp7:=λ{X Y Z} (r:PV _ X Y Z)=>pp5<|tg 6 c4<|r;tf (λc6=>pp7<|tg 9 c6<|tE) λc6=>tb λc8 bc8=>tb λr9 br9=>have pp11:=λ{X Y Z} (r:PV _ X Y Z)=>pp7<|tg 9 c6<|tv (u6 (k:=.i64) underlying9 bc8)<|bM (s8 _ br9)<|r;tf (λc10=>tb λc12 bc12=>pp11<|tg 15 c10<|tv (u6 (k:=.i64) underlying9 bc12)<|tE) λc10=>pp11<|tg 15 c10<|tE) λc4=>pp5<|tg 6 c4<|tE
end
section
variable(s:ai)(i:Int)
def qn:aB:=aO 32 [(0,.str s),(3,.int .i64 i)] [] []
def yW(o:Unit⊕(Unit)):Exit:=match o with
 |(.inl _)=>.ret
 |(.inr _)=>.exit 0
def yX(o:Unit⊕(Unit)):aB:=match o with
 |(.inl o)=>aO 32 [(2,.bool false)] [] []
 |(.inr o)=>aO 32 [] [] []
def yV:Option (Int⊕(Unit⊕(Unit))):=
 if decide (i<(s.length:Int))=true then
  (C6 s i).bind λo13=>
  if o13=true then
   some (.inr (.inl ()))
  else
   some (.inl (dp (i+1)))
 else
  some (.inr (.inr ()))
def C7:Option (Unit⊕(Unit)):=loop (λ(zz:Int)=>yV s zz) i
theorem Fv:OL 0 (cA X6 55) (yV s i) (λ(zz:Int)=>qn s zz) yW yX (qn s i):=ZG.l<|
 ct (qQ underlying9 s)<|tF (tb λo13 bo13=>jo 1<|cD (Hz s i _ bo13)<|tF tE<|tE)<|tE
theorem wP:OK 0 (.loop (cA X6 55)) (C7 s i) yW yX (qn s i):=C9 λ_=>Fv _ _
end
def LE(s:ai):Option Bool:=
 (C7 s 0).bind λo15=>match o15 with
 |(.inl o15)=>
  some false
 |(.inr o15)=>
  some true
theorem Nh{s:ai}:OV 165 [.str s] (LE s) (λr=>.bool r) []:=ZG.v<|
 t2 (λo15 bo15=>cD (wP s 0 _ bo15)<|tE) λo15 bo15=>cD (wP s 0 _ bo15)<|tE
noncomputable def V5:Code:=f143.body.getD .skip
theorem XR:ZF Pg [] 143 f143 V5:=zf call143 func143 rfl mixed
section
variable(first:ai)(rest:ai)(more:Bool)
def CW:Option Bool:=
 (LC first).bind λr3=>
 if (!r3) = true then
  (Io first).bind λr5=>
  if(!r5)=true then
   if(!(first==([118]:ai)))=true then
    some true
   else
    some (!more)
  else
   some false
 else
  some false
theorem Hp:OU 0 (cA V5 60) (CW first more) .normal (λo=>[(3,.undef),(31,.bool o)]) (aO 52 [(3,.str first),(4,.str rest),(5,.bool more)] [] []):=XR.j<|
 tb λr3 br3=>tf (λc4=>tb λr5 br5=>have pp7:=λ{X Y Z} (r:PV _ X Y Z)=>bM (C5 _ br3)<|tg 4 c4<|bM (LD _ br5)<|r;tf (λc6=>have pp9:=λ{X Y Z} (r:PV _ X Y Z)=>pp7<|tg 9 c6<|r;tf (λc8=>pp9<|tg 12 c8<|tE) λc8=>pp9<|tg 12 c8<|tE) λc6=>pp7<|tg 9 c6<|tE) λc4=>bM (C5 _ br3)<|tg 4 c4<|tE
end
section
variable(rest:ai)(more:Bool)(part:ai)
def CY:Option Bool:=
 (uP part).bind λr14=>
 if(!r14)=true then
  some true
 else
  (mN part).bind λr16=>
  if(!r16)=true then
   (LE part).bind λr19=>
   some (!r19)
  else
   some false
theorem Hq:OU 0 (cA V5 8062) (CY part) .normal (λo=>[(6,.undef),(51,.bool o)]) (aO 52 [(4,.str rest),(5,.bool more),(6,.str part)] [] []):=XR.j<|
 tb λr14 br14=>tf (λc15=>bM (iW _ br14)<|tg 4 c15<|tE) λc15=>tb λr16 br16=>have pp18:=λ{X Y Z} (r:PV _ X Y Z)=>bM (iW _ br14)<|tg 4 c15<|bM (oS _ br16)<|r;tf (λc17=>tb λr19 br19=>pp18<|tg 8 c17<|bM (Nh _ br19)<|tE) λc17=>pp18<|tg 8 c17<|tE
end
section
variable(rest:ai)(more:Bool)
def ql:aB:=aO 52 [(4,.str rest),(5,.bool more)] [] []
def yO(o:Unit⊕(Unit)):Exit:=match o with
 |(.inl _)=>.ret
 |(.inr _)=>.exit 0
def yP(o:Unit⊕(Unit)):aB:=match o with
 |(.inl o)=>aO 52 [(2,.int .i64 3)] [] []
 |(.inr o)=>aO 52 [] [] []
def yN:Option ((ai×Bool)⊕(Unit⊕(Unit))):=
 if more=true then
  (Hv rest).bind λr13=>
  (CY r13.1).bind λo20=>
  if o20=true then
   some (.inr (.inl ()))
  else
   some (.inl (r13.2.1,r13.2.2))
 else
  some (.inr (.inr ()))
def CZ:Option (Unit⊕(Unit)):=loop (λ(zz:ai×Bool)=>yN zz.1 zz.2) (rest,more)
theorem Fj:OL 0 (cA V5 251) (yN rest more) (λ(zz:ai×Bool)=>ql zz.1 zz.2) yO yP (ql rest more):=XR.l<|
 tF (tb λr13 br13=>tb λo20 bo20=>bM (Fq _ br13)<|jo 0<|cD (Hq r13.2.1 r13.2.2 r13.1 _ bo20)<|tF tE<|tE)<|tE
theorem wJ:OK 0 (.loop (cA V5 251)) (CZ rest more) yO yP (ql rest more):=C9 λ_=>Fj _ _
end
def DS(s:ai):Option Int:=
 if decide ((s.length:Int)>120)=true then
  some 3
 else
  (Hv s).bind λr2=>
  (CW r2.1 r2.2.2).bind λo10=>
  if o10=true then
   some 3
  else
   (CZ r2.2.1 r2.2.2).bind λo22=>match o22 with
   |(.inl o22)=>
    some 3
   |(.inr o22)=>
    some 0
theorem C0{s:ai}:OV 143 [.str s] (DS s) (λr=>.int .i64 r) []:=XR.v<|
 ct (qQ underlying9 s)<|tF tE<|tb λr2 br2=>tb λo10 bo10=>bM (Fq _ br2)<|jo 1<|cD (Hp r2.1 r2.2.1 r2.2.2 _ bo10)<|tF tE<|t2 (λo22 bo22=>cD (wJ r2.2.1 r2.2.2 _ bo22)<|tE) λo22 bo22=>cD (wJ r2.2.1 r2.2.2 _ bo22)<|tE
noncomputable def qdu:Code:=f142.body.getD .skip
theorem qc0:ZF Pg [] 142 f142 qdu:=zf call142 func142 rfl mixed
def A5(a:ai):Option Bool:=
 (DS a).bind λr1=>
 some (r1 !=0)
theorem Ga{a:ai}:OV 142 [.str a] (A5 a) (λr=>.bool r) []:=qc0.v<|
 tb λr1 br1=>bM (C0 _ br1)<|tE
noncomputable def qac:Code:=f155.body.getD .skip
theorem qbm:ZF Pg [10,17] 155 f155 qac:=zf call155 func155 rfl mixed
section
variable(s:waA)(t7:Int)(t8:Int)
def fH:aB:=aO 19 [(0,sl cS s),(1,.func (.func 142) [] []),(7,.int .i64 t7),(8,.int .i64 t8)] [] []
def jB(o:Int⊕(Unit)):Exit:=match o with
 |(.inl _)=>.ret
 |(.inr _)=>.exit 0
def jC(o:Int⊕(Unit)):aB:=match o with
 |(.inl o)=>aO 19 [(4,.int .i64 o)] [] []
 |(.inr o)=>aO 19 [] [] []
def jA:Option (Int⊕(Int⊕(Unit))):=
 if decide (t8<t7)=true then
  (ey s t8).bind λx2=>
  (A5 x2).bind λr3=>
  if r3=true then
   some (.inr (.inl t8))
  else
   some (.inl (dp (t8+1)))
 else
  some (.inr (.inr ()))
def kD:Option (Int⊕(Unit)):=loop (λ(zz:Int)=>jA s t7 zz) t8
theorem oL:OL 0 (cA qac 55) (jA s t7 t8) (λ(zz:Int)=>fH s t7 zz) jB jC (fH s t7 t8):=qbm.l<|
 tF (tb λx2 bx2=>tb λr3 br3=>tv (b8.ia (k:=.i64) bx2)<|tv (cw BZ (.str x2) [])<|bM (Ga _ br3)<|tF tE<|tE)<|tE
theorem jb:OK 0 (.loop (cA qac 55)) (kD s t7 t8) jB jC (fH s t7 t8):=C9 λ_=>oL _ _ _
end
def mg(s:waA):Option Int:=
 (kD s (s.length:Int) 0).bind λo5=>match o5 with
 |(.inl o5)=>
  some o5
 |(.inr o5)=>
  some (-1)
theorem rI{s:waA}:OV 155 [sl cS s,.func (.func 142) [] []] (mg s) (λr=>.int .i64 r) []:=qbm.v<|
 ct (b8.ln s)<|t2 (λo5 bo5=>cD (jb s (s.length:Int) 0 _ bo5)<|tE) λo5 bo5=>cD (jb s (s.length:Int) 0 _ bo5)<|tE
noncomputable def qdt:Code:=f141.body.getD .skip
theorem qcZ:ZF Pg [] 141 f141 qdt:=zf call141 func141 rfl mixed
def kC(s:waA):Option Bool:=
 (mg s).bind λr1=>
 some (decide (r1>=0))
theorem pr{s:waA}:OV 141 [sl cS s,.func (.func 142) [] []] (kC s) (λr=>.bool r) []:=qcZ.v<|
 tb λr1 br1=>bM (rI _ br1)<|tE
noncomputable def X3:Code:=f119.body.getD .skip
theorem XQ:ZF Pg [14,36] 119 f119 X3:=zf call119 func119 rfl mixed
section
variable(e:ag)(s:ax)(v:waA)
def zb:Option waA:=
 if s.name=true then
  (app v ([e.Name]:List ai)).bind λl3=>
  some l3
 else
  some v
theorem Ea:OU 0 (cA X3 14) (zb e s v) .normal (λo=>[(3,.undef),(5,sl cS o)]) (aO 54 [(2,.eptr (ae e)),(3,.eptr (aD s)),(5,sl cS v)] [.dead,.dead] [((5,0),9)]):=XQ.j<|
 tw (tT s)<|tF (tb λl3 bl3=>tw (bV e)<|tv (gD [e.Name] 1 rfl)<|tv (b8.ap bl3)<|tE)<|tE
end
section
variable(e:ag)(v:waA)
def zc:Option Bool:=
 (jL e.Params).bind λr5=>
 (rN r5).bind λr6=>
 if r6=true then
  some true
 else
  (qS e.Alts).bind λr9=>
  (rN r9).bind λr10=>
  some r10
theorem Eb:OU 0 (cA X3 30) (zc e) .normal (λo=>[(6,.bool o)]) (aO 54 [(2,.eptr (ae e)),(5,sl cS v)] [.dead,.dead] [((5,0),9)]):=XQ.j<|
 tb λr5 br5=>tb λr6 br6=>have pp8:=λ{X Y Z} (r:PV _ X Y Z)=>tw (aM e)<|bM (mE _ br5)<|bM (qB _ br6)<|r;tf (λc7=>pp8<|tg 5 c7<|tE) λc7=>tb λr9 br9=>tb λr10 br10=>pp8<|tg 5 c7<|tw (ay e)<|bM (yA _ br9)<|bM (qB _ br10)<|tE
end
section
variable(t30:waD)(t31:Int)(v:waA)(doubled:Bool)(t32:Int)
def ou:aB:=aO 54 [(5,sl cS v),(6,.bool doubled),(30,sl au t30),(31,.int .i64 t31),(32,.int .i64 t32)] [.dead,.dead] [((5,0),9)]
def vp(o:waA×Bool):aB:=aO 54 [(5,sl cS o.1),(6,.bool o.2)] [.dead,.dead] [((5,0),9)]
instance iS_syntax_named_L3:KS 0 (ou t30 t31 v doubled t32):=ks 2 rfl
instance iO_syntax_named_L3{o:(waA×Bool)}:KS 0 (vp o):=ks 2 rfl
def vo:Option ((waA×Bool×Int)⊕((waA×Bool))):=
 if decide (t32<t31)=true then
  (ey t30 t32).bind λx13=>
  (app v ([x13.Con]:List ai)).bind λl14=>
  (app l14 x13.Names).bind λl15=>
  if doubled=true then
   some (.inl (l15,true,dp (t32+1)))
  else
   (rN x13.Names).bind λr17=>
   some (.inl (l15,r17,dp (t32+1)))
 else
  some (.inr (v,doubled))
def JC:Option ((waA×Bool)):=loop (λ(zz:waA×Bool×Int)=>vo t30 t31 zz.1 zz.2.1 zz.2.2) (v,doubled,t32)
theorem Ck:OL 0 (cA X3 503) (vo t30 t31 v doubled t32) (λ(zz:waA×Bool×Int)=>ou t30 t31 zz.1 zz.2.1 zz.2.2) (λ_=>.exit 0) vp (ou t30 t31 v doubled t32):=XQ.lx<|
 tF (tb λx13 bx13=>tb λl14 bl14=>tb λl15 bl15=>tv (dc.ia (k:=.i64) bx13)<|tv (lp x13)<|tx Jv<|tx (hU x13)<|Be [0,0,2,6,15,0,32,127,255]<|ts<|tv (gD [x13.Con] 1 rfl)<|tv (b8.ap bl14)<|ts<|tv (b8.ap bl15)<|tf (λc16=>tg 2 c16<|tE) λc16=>tb λr17 br17=>tg 2 c16<|ts<|bM (qB _ br17)<|tE)<|tE
def Ec:=rE (s:=(v,doubled,t32)) λzz=>Ck t30 t31 zz.1 zz.2.1 zz.2.2
end
def F9(e:ag)(s:ax):Option Int:=
 (jL e.Params).bind λr1=>
 (zb e s r1).bind λo4=>
 (zc e).bind λo11=>
 (JC e.Alts (e.Alts.length:Int) o4 o11 0).bind λo18=>
 (kC o18.1).bind λr19=>
 if r19=true then
  some 3
 else if o18.2=true then
  some 4
 else
  some 0
theorem JE{e:ag}{s:ax}:OV 119 [.agg (ae e),.agg (aD s)] (F9 e s) (λr=>.int .i64 r) []:=XQ.v<|
 tb λr1 br1=>tb λo4 bo4=>tb λo11 bo11=>tb λo18 bo18=>tb λr19 br19=>te (cm e)<|te (yZ s)<|tw (aM e)<|bM (mE _ br1)<|jo 0<|cD (Ea e s r1 _ bo4)<|jo 0<|cD (Eb e o4 _ bo11)<|tw (ay e)<|ct (dc.ln e.Alts)<|cD (Ec e.Alts (e.Alts.length:Int) o4 o11 0 _ bo18)<|bM (pr _ br19)<|tF tE<|tF tE<|tE
abbrev pF:=(al->Option Int)
abbrev vD(R:pF):Prop:=∀(t:al),OV 144 [.agg (ah t)] (R t) (λr=>.int .i64 r) []
noncomputable def qbJ:Code:=f144.body.getD .skip
theorem qbk:ZF Pg [] 144 f144 qbJ:=zf call144 func144 rfl mixed
section
variable(R93:pF)(t7:waB)(t8:Int)(n:Int)(t9:Int)
def pA:aB:=aO 20 [(3,.int .i64 n),(7,sl ah t7),(8,.int .i64 t8),(9,.int .i64 t9)] [.dead] []
def xn(o:Int):aB:=aO 20 [(3,.int .i64 o)] [.dead] []
instance iS_types_depth_L1:KS 0 (pA t7 t8 n t9):=ks 1 rfl
instance iO_types_depth_L1{o:Int}:KS 0 (xn o):=ks 1 rfl
def xm:Option ((Int×Int)⊕(Int)):=
 if decide (t9<t8)=true then
  (ey t7 t9).bind λx2=>
  (R93 x2).bind λr3=>
  some (.inl ((if r3>n then r3 else n),dp (t9+1)))
 else
  some (.inr n)
def Ml:Option Int:=loop (λ(zz:Int×Int)=>xm R93 t7 t8 zz.1 zz.2) (n,t9)
theorem Eh(hR93:vD R93):OL 0 (cA qbJ 119) (xm R93 t7 t8 n t9) (λ(zz:Int×Int)=>pA t7 t8 zz.1 zz.2) (λ_=>.exit 0) xn (pA t7 t8 n t9):=qbk.lx<|
 tF (tb λx2 bx2=>tb λr3 br3=>tv (dZ.ia (k:=.i64) bx2)<|tv (jT x2)<|tx SP<|tx (po x2)<|tv (iT x2 [])<|bM (hR93 _ _ br3)<|tE)<|tE
def Gh(hR93:vD R93):=rE (s:=(n,t9)) λzz=>Eh R93 t7 t8 zz.1 zz.2 hR93
end
def Dh(R93:pF)(t:al):Option Int:=
 (Ml R93 t.Args (t.Args.length:Int) 0 0).bind λo4=>
 some (dp (o4+1))
theorem JF(R93:pF)(hR93:vD R93){t:al}:OV 144 [.agg (ah t)] (Dh R93 t) (λr=>.int .i64 r) []:=qbk.v<|
 tb λo4 bo4=>te (nR t)<|tw (cb t)<|ct (dZ.ln t.Args)<|cD (Gh R93 t.Args (t.Args.length:Int) 0 0 hR93 _ bo4)<|tE
def Di:(al->Option Int)->(al)->Option Int:=λ(rec:al->Option Int) (x:al)=>Dh (λt=>rec t) x
def II(t:al):Option Int:=pl Di t
theorem Mm{t:al}:OV 144 [.agg (ah t)] (II t) (λr=>.int .i64 r) []:=BN λ_ h=>
 dY (F:=Di) (M:=λ(x:al) (r:Int)=>CC Pg GE 144 [.agg (ah x)] (.int .i64 r) []) (λrec hrec x r h=>JF _ (λt=>BN λr h=>hrec t r h) _ h) h
abbrev ri:=(al->Option Int)
abbrev xv(R:ri):Prop:=∀(t:al),OV 145 [.agg (ah t)] (R t) (λr=>.int .i64 r) []
noncomputable def qbL:Code:=f166.body.getD .skip
theorem qbr:ZF Pg [] 166 f166 qbL:=zf call166 func166 rfl mixed
section
variable(t:al)
def Bh:Option Bool:=
 if decide ((t.Args.length:Int)<2)=true then
  some true
 else if decide ((t.Args.length:Int)>7)=true then
  some true
 else if((t.Names.length:Int)!=0)=true then
  some ((t.Names.length:Int)!=(dp ((t.Args.length:Int) - 1)))
 else
  some false
theorem Gg:OU 0 (cA qbL 892) (Bh t) .normal (λo=>[(1,.undef),(38,.bool o)]) (aO 39 [(1,.eptr (ah t))] [.dead] []):=qbr.j<|
 have pp5:=λ{X Y Z} (r:PV _ X Y Z)=>tw (cb t)<|ct (dZ.ln t.Args)<|r;tf (λc4=>pp5<|tg 5 c4<|tE) λc4=>have pp7:=λ{X Y Z} (r:PV _ X Y Z)=>pp5<|tg 5 c4<|tw (cb t)<|ct (dZ.ln t.Args)<|r;tf (λc6=>pp7<|tg 11 c6<|tE) λc6=>have pp9:=λ{X Y Z} (r:PV _ X Y Z)=>pp7<|tg 11 c6<|tw (cG t)<|ct (b8.ln t.Names)<|r;tf (λc8=>pp9<|tg 16 c8<|tw (cG t)<|ct (b8.ln t.Names)<|tw (cb t)<|ct (dZ.ln t.Args)<|tE) λc8=>pp9<|tg 16 c8<|tE
end
def IH(t:al):Option Int:=
 if(t.Op==4)=true then
  if decide ((t.Args.length:Int)>6)=true then
   some 13
  else
   some 0
 else if(t.Op==6)=true then
  (Bh t).bind λo10=>
  if o10=true then
   some 13
  else
   some 0
 else
  some 0
theorem Mk{t:al}:OV 166 [.agg (ah t)] (IH t) (λr=>.int .i64 r) []:=qbr.v<|
 te (nR t)<|tw (bG t)<|tF (tw (cb t)<|ct (dZ.ln t.Args)<|tF tE<|tE)<|tF (tb λo10 bo10=>jo 0<|cD (Gg t _ bo10)<|tF tE<|tE)<|tE
noncomputable def Qu:Code:=f145.body.getD .skip
theorem RR:ZF Pg [68,100] 145 f145 Qu:=zf call145 func145 rfl mixed
section
variable(t:al)
def Dj:Option Bool:=
 if(t.Op==4)=true then
  some true
 else
  some (t.Op==5)
theorem HT:OU 0 (cA Qu 6) (Dj t) .normal (λo=>[(3,.bool o)]) (aO 102 [(1,.eptr (ah t))] [.dead] []):=RR.j<|
 have pp2:=λ{X Y Z} (r:PV _ X Y Z)=>tw (bG t)<|r;tf (λc1=>pp2<|tg 4 c1<|tE) λc1=>pp2<|tg 4 c1<|tw (bG t)<|tE
end
section
variable(t:al)(named:Bool)
def Dk:Option Bool:=
 if(t.Op==4)=true then
  some true
 else
  some (t.Op==6)
theorem HU:OU 0 (cA Qu 14) (Dk t) .normal (λo=>[(4,.bool o)]) (aO 102 [(1,.eptr (ah t)),(3,.bool named)] [.dead] []):=RR.j<|
 have pp5:=λ{X Y Z} (r:PV _ X Y Z)=>tw (bG t)<|r;tf (λc4=>pp5<|tg 4 c4<|tE) λc4=>pp5<|tg 4 c4<|tw (bG t)<|tE
end
section
variable(t:al)(named:Bool)(compound:Bool)
def Dl:Option Bool:=
 if decide (t.Op<1)=true then
  some true
 else if decide (t.Op>6)=true then
  some true
 else if(!(t.Name==([]:ai)))=true then
  if(!named)=true then
   some true
  else if decide ((t.Args.length:Int)>0)=true then
   if(!compound)=true then
    some true
   else if decide ((t.Names.length:Int)>0)=true then
    some (t.Op !=6)
   else
    some false
  else if decide ((t.Names.length:Int)>0)=true then
   some (t.Op !=6)
  else
   some false
 else if decide ((t.Args.length:Int)>0)=true then
  if(!compound)=true then
   some true
  else if decide ((t.Names.length:Int)>0)=true then
   some (t.Op !=6)
  else
   some false
 else if decide ((t.Names.length:Int)>0)=true then
  some (t.Op !=6)
 else
  some false
theorem HV:OU 0 (cA Qu 60) (Dl t named compound) .normal (λo=>[(4,.undef),(63,.bool o)]) (aO 102 [(1,.eptr (ah t)),(3,.bool named),(4,.bool compound)] [.dead] []):=RR.j<|
 have pp8:=λ{X Y Z} (r:PV _ X Y Z)=>tw (bG t)<|r;tf (λc7=>pp8<|tg 4 c7<|tE) λc7=>have pp10:=λ{X Y Z} (r:PV _ X Y Z)=>pp8<|tg 4 c7<|tw (bG t)<|r;tf (λc9=>pp10<|tg 9 c9<|tE) λc9=>have pp12:=λ{X Y Z} (r:PV _ X Y Z)=>pp10<|tg 9 c9<|tw (dB t)<|r;tf (λc11=>have pp14:=λ{X Y Z} (r:PV _ X Y Z)=>pp12<|tg 13 c11<|r;tf (λc13=>pp14<|tg 18 c13<|tE) λc13=>have pp16:=λ{X Y Z} (r:PV _ X Y Z)=>pp14<|tg 18 c13<|tw (cb t)<|ct (dZ.ln t.Args)<|r;tf (λc15=>have pp18:=λ{X Y Z} (r:PV _ X Y Z)=>pp16<|tg 23 c15<|r;tf (λc17=>pp18<|tg 28 c17<|tE) λc17=>have pp20:=λ{X Y Z} (r:PV _ X Y Z)=>pp18<|tg 28 c17<|tw (cG t)<|ct (b8.ln t.Names)<|r;tf (λc19=>pp20<|tg 33 c19<|tw (bG t)<|tE) λc19=>pp20<|tg 33 c19<|tE) λc15=>have pp22:=λ{X Y Z} (r:PV _ X Y Z)=>pp16<|tg 23 c15<|tw (cG t)<|ct (b8.ln t.Names)<|r;tf (λc21=>pp22<|tg 33 c21<|tw (bG t)<|tE) λc21=>pp22<|tg 33 c21<|tE) λc11=>have pp24:=λ{X Y Z} (r:PV _ X Y Z)=>pp12<|tg 13 c11<|tw (cb t)<|ct (dZ.ln t.Args)<|r;tf (λc23=>have pp26:=λ{X Y Z} (r:PV _ X Y Z)=>pp24<|tg 23 c23<|r;tf (λc25=>pp26<|tg 28 c25<|tE) λc25=>have pp28:=λ{X Y Z} (r:PV _ X Y Z)=>pp26<|tg 28 c25<|tw (cG t)<|ct (b8.ln t.Names)<|r;tf (λc27=>pp28<|tg 33 c27<|tw (bG t)<|tE) λc27=>pp28<|tg 33 c27<|tE) λc23=>have pp30:=λ{X Y Z} (r:PV _ X Y Z)=>pp24<|tg 23 c23<|tw (cG t)<|ct (b8.ln t.Names)<|r;tf (λc29=>pp30<|tg 33 c29<|tw (bG t)<|tE) λc29=>pp30<|tg 33 c29<|tE
end
section
variable(t:al)
def Dn:Option Bool:=
 (B9 t.Name 0).bind λc38=>
 if decide (c38>=65)=true then
  (B9 t.Name 0).bind λc41=>
  some (decide (c41<=90))
 else
  some false
theorem HW:OU 0 (cA Qu 2026) (Dn t) .normal (λo=>[(6,.bool o)]) (aO 102 [(1,.eptr (ah t))] [.dead] []):=RR.j<|
 tb λc38 bc38=>have pp40:=λ{X Y Z} (r:PV _ X Y Z)=>tw (dB t)<|tv (u6 (k:=.i64) underlying9 bc38)<|r;tf (λc39=>tb λc41 bc41=>pp40<|tg 5 c39<|tw (dB t)<|tv (u6 (k:=.i64) underlying9 bc41)<|tE) λc39=>pp40<|tg 5 c39<|tE
end
section
variable(t:al)(named:Bool)
def JG(o:Unit⊕(Unit)):Exit:=match o with
 |(.inl _)=>.ret
 |(.inr _)=>.normal
def JH(o:Unit⊕(Unit)):aB:=match o with
 |(.inl o)=>aO 102 [(2,.int .i64 3)] [.dead] []
 |(.inr o)=>aO 102 [(1,.eptr (ah t))] [.dead] []
def Dm:Option (Unit⊕(Unit)):=
 if named=true then
  (DS t.Name).bind λr36=>
  if(r36 !=0)=true then
   some (.inl ())
  else
   (Dn t).bind λo42=>
   if(!(o42==(t.Op==4)))=true then
    some (.inl ())
   else
    some (.inr ())
 else
  some (.inr ())
theorem xo:OK 0 (cA Qu 126) (Dm t named) JG (JH t) (aO 102 [(1,.eptr (ah t)),(3,.bool named)] [.dead] []):=RR.k<|
 tF (tb λr36 br36=>tw (dB t)<|bM (C0 _ br36)<|tF tE<|tb λo42 bo42=>jo 0<|cD (HW t _ bo42)<|tw (bG t)<|tF tE<|tE)<|tE
end
section
variable(R94:ri)(t90:waB)(t91:Int)(t92:Int)
def mF:aB:=aO 102 [(90,sl ah t90),(91,.int .i64 t91),(92,.int .i64 t92)] [.dead] []
def zg(o:Int⊕(Unit)):Exit:=match o with
 |(.inl _)=>.ret
 |(.inr _)=>.exit 0
def qD(o:Int⊕(Unit)):aB:=match o with
 |(.inl o)=>aO 102 [(2,.int .i64 o)] [.dead] []
 |(.inr o)=>aO 102 [] [.dead] []
instance iS_types_form_L6:KS 0 (mF t90 t91 t92):=ks 1 rfl
instance iO_types_form_L6{o:Int⊕(Unit)}:KS 0 (qD o):=match o with
 |(.inl o)=>ks 1 rfl
 |(.inr o)=>ks 1 rfl
def ze:Option (Int⊕(Int⊕(Unit))):=
 if decide (t92<t91)=true then
  (ey t90 t92).bind λx46=>
  (R94 x46).bind λr47=>
  if(r47 !=0)=true then
   some (.inr (.inl r47))
  else
   some (.inl (dp (t92+1)))
 else
  some (.inr (.inr ()))
def Do:Option (Int⊕(Unit)):=loop (λ(zz:Int)=>ze R94 t90 t91 zz) t92
theorem Gk(hR94:xv R94):OL 0 (cA Qu 2039) (ze R94 t90 t91 t92) (λ(zz:Int)=>mF t90 t91 zz) zg qD (mF t90 t91 t92):=RR.lx<|
 tF (tb λx46 bx46=>tb λr47 br47=>tv (dZ.ia (k:=.i64) bx46)<|tv (jT x46)<|tx SP<|tx (po x46)<|tv (iT x46 [])<|bM (hR94 _ _ br47)<|tF tE<|tE)<|tE
theorem xp(hR94:xv R94):OK 0 (.loop (cA Qu 2039)) (Do R94 t90 t91 t92) zg qD (mF t90 t91 t92):=C9 λ_=>Gk _ _ _ _ hR94
end
def Gi(R94:ri)(t:al):Option Int:=
 (Dj t).bind λo3=>
 (Dk t).bind λo6=>
 (Dl t o3 o6).bind λo31=>
 if o31=true then
  some 1
 else
  (IH t).bind λr33=>
  if(r33 !=0)=true then
   some r33
  else
   (Dm t o3).bind λo44=>match o44 with
   |(.inl o44)=>
    some 3
   | (.inr o44) =>
    (Do R94 t.Args (t.Args.length:Int) 0).bind λo49=>match o49 with
    |(.inl o49)=>
     some o49
    |(.inr o49)=>
     some 0
theorem Mo(R94:ri)(hR94:xv R94){t:al}:OV 145 [.agg (ah t)] (Gi R94 t) (λr=>.int .i64 r) []:=RR.v<|
 tb λo3 bo3=>tb λo6 bo6=>tb λo31 bo31=>te (nR t)<|jo 0<|cD (HT t _ bo3)<|jo 0<|cD (HU t o3 _ bo6)<|jo 1<|cD (HV t o3 o6 _ bo31)<|tF tE<|tb λr33 br33=>tv (jT t)<|bM (Mk _ br33)<|tF tE<|t2 (λo44 bo44=>jo 0<|cD (xo t o3 _ bo44)<|tE) λo44 bo44=>jo 0<|cD (xo t o3 _ bo44)<|tw (cb t)<|ct (dZ.ln t.Args)<|t2 (λo49 bo49=>cD (xp R94 t.Args (t.Args.length:Int) 0 hR94 _ bo49)<|tE) λo49 bo49=>cD (xp R94 t.Args (t.Args.length:Int) 0 hR94 _ bo49)<|tE
def Gj:(al->Option Int)->(al)->Option Int:=λ(rec:al->Option Int) (x:al)=>Gi (λt=>rec t) x
def Mn(t:al):Option Int:=pl Gj t
theorem Nu{t:al}:OV 145 [.agg (ah t)] (Mn t) (λr=>.int .i64 r) []:=BN λ_ h=>
 dY (F:=Gj) (M:=λ(x:al) (r:Int)=>CC Pg GE 145 [.agg (ah x)] (.int .i64 r) []) (λrec hrec x r h=>Mo _ (λt=>BN λr h=>hrec t r h) _ h) h
noncomputable def qdm:Code:=f120.body.getD .skip
theorem qcS:ZF Pg [] 120 f120 qdm:=zf call120 func120 rfl mixed
def Bf(t:al):Option Int:=
 (II t).bind λr1=>
 if decide (r1>40)=true then
  some 8
 else
  (Mn t).bind λr3=>
  some r3
theorem Bg{t:al}:OV 120 [.agg (ah t)] (Bf t) (λr=>.int .i64 r) []:=qcS.v<|
 tb λr1 br1=>te (nR t)<|tv (jT t)<|bM (Mm _ br1)<|tF tE<|tb λr3 br3=>tv (jT t)<|bM (Nu _ br3)<|tE
noncomputable def qdn:Code:=f121.body.getD .skip
theorem qcT:ZF Pg [] 121 f121 qdn:=zf call121 func121 rfl mixed
def IF(t:al):Option Bool:=
 (zd t (⟨0,([]:ai),([]:List al),([]:List ai),(⟨0,([]:ai),0,([]:List aw)⟩:aw),([]:List aw)⟩:al)).bind λr1=>
 some r1
theorem Mh{t:al}:OV 121 [.agg (ah t)] (IF t) (λr=>.bool r) []:=qcT.v<|
 tb λr1 br1=>te (nR t)<|tv (jT t)<|Vf (R9) (R8)<|bM (Ef _ br1)<|tE
end Go.Proofs.YtkdahfeiedaahaaGreatDoor
