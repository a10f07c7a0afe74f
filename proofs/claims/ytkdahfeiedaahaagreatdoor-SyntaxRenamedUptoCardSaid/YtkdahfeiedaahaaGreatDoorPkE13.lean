/- PROVED: a part of the proof. Conditions: none. -/
import Derived.Test.YtkdahfeiedaahaaGreatDoorPkE12
noncomputable section
namespace Go.Proofs.YtkdahfeiedaahaaGreatDoor
open Go Go.Proofs.Tryz
set_option linter.unusedVariables false
set_option maxRecDepth 100000
noncomputable def Vi:Code:=f99.body.getD .skip
def SQ:List Nat:=[]
section
variable(v:af)(m2:(List (ag×Bool)))
def vg:aA:=bj 38 [(1,.bptr 0 0),(2,.eptr (ae v))] [.cells [.func (.func 81) [.bptr 1 0] []] [],.cells [.mapr 2] [],.map (aD PVal.bool m2),.dead] []
def jp(o:Bool):aA:=bj 38 [(1,.bptr 0 0),(2,.eptr (ae v)),(12,.bool o)] [.cells [.func (.func 81) [.bptr 1 0] []] [],.cells [.mapr 2] [],.map (aD PVal.bool m2),.dead] []
def pn:Option Bool:=
 (f6 v).bind fun r1=>
 if r1=true then
  some true
 else
  some (v.Op==7)
theorem uT{x:Bool}(h:pn v=some x):aR Pg GE 3 (cA Vi 12) (EX .normal (jp v m2 x)) (vg v m2):=by
 obtain⟨r1,br1,h⟩:=aJ h
 have p3:=fun{sc F} (r:PS sc F)=>sv (bv v)<|cW (lh br1)<|r
 rcases aP h with⟨c2,h⟩|⟨c2,h⟩
 ·obtain rfl:=lf h
  exact bJ SQ (p3<|sg 3 c2<|eF .normal (jp v m2 true))<|by kernel_rfl
 ·obtain rfl:=lf h
  exact bJ SQ (p3<|sg 3 c2<|sv (cX v)<|sv (cY v)<|eF .normal (jp v m2 (v.Op==7)))<|by kernel_rfl
end
section
variable(v:af)(m2:(List (ag×Bool)))
def vd:aA:=bj 38 [(1,.bptr 0 0),(2,.eptr (ae v))] [.cells [.func (.func 81) [.bptr 1 0] []] [],.cells [.mapr 2] [],.map (aD PVal.bool m2),.dead] []
def jo(o:(List (ag×Bool))):aA:=bj 38 [(1,.bptr 0 0),(2,.eptr (ae v))] [.cells [.func (.func 81) [.bptr 1 0] []] [],.cells [.mapr 2] [],.map (aD PVal.bool o),.dead] []
def pl:Option (((List (ag×Bool)))):=
 (pn v).bind fun o4=>
 if o4=true then
  (eU ([v.Name]:List ag) m2).bind fun r7=>
  some r7
 else
  some m2
theorem uS{x:((List (ag×Bool)))}(h:pl v m2=some x):aR Pg GE 3 (cA Vi 6) (EX .normal (jo v x)) (vd v m2):=by
 obtain⟨o4,bo4,h⟩:=aJ h
 have p6:=fun{sc F} (r:PS sc F)=>rN 0<|dS (uT v m2 bo4)<|r
 rcases aP h with⟨c5,h⟩|⟨c5,h⟩
 ·obtain⟨r7,br7,h⟩:=aJ h
  obtain rfl:=lf h
  exact bJ SQ (p6<|sg 0 c5<|ss<|sv (eu v)<|sv (fc v)<|sv (dK.mk' (v:=PVal.str) Lz ([v.Name]:List ag) 1 (by kernel_rfl))<|si (.cg ⟨[1,2],[.bptr 0 0,sl cS ([v.Name]:List ag)],[],[.cells [.mapr 2] [],.map (aD PVal.bool m2)],[.cells [.mapr 1] [],.map (aD PVal.bool m2)],[.cells [.mapr 2] [],.map (aD PVal.bool r7)],[.cells [.mapr 1] [],.map (aD PVal.bool r7)],.tuple [],.tuple [],[]⟩) (fV br7)<|sf (aI (xB [1,2] 0 1 0 rfl) (aI (xR [1,2] (sl cS ([v.Name]:List ag)) (au cb ([v.Name]:List ag))) trivial))<|sf (aI (aI (rB (.cells [.mapr 2] [])) (aI (rW []) (aI (xM [1,2] 1 2 rfl) trivial))) (aI (aI (rB (.map (aD PVal.bool m2))) (aI (rM (aD PVal.bool m2)) (mA (n:=0) PVal.bool (fun x=>trivial) m2))) trivial))<|sf (aI (aI (rW []) (aI (xM [1,2] 1 2 rfl) trivial)) (aI (aI (rM (aD PVal.bool r7)) (mA (n:=0) PVal.bool (fun x=>trivial) r7)) trivial))<|sf (xR [1,2] (.tuple []) trivial)<|eF .normal (jo v r7))<|by kernel_rfl
 ·obtain rfl:=lf h
  exact bJ SQ (p6<|sg 0 c5<|eF .normal (jo v m2))<|by kernel_rfl
end
section
variable(v:af)(m2:(List (ag×Bool)))
def vj:aA:=bj 38 [(1,.bptr 0 0),(2,.eptr (ae v))] [.cells [.func (.func 81) [.bptr 1 0] []] [],.cells [.mapr 2] [],.map (aD PVal.bool m2),.dead] []
def jq(o:(List (ag×Bool))):aA:=bj 38 [(1,.bptr 0 0),(2,.eptr (ae v))] [.cells [.func (.func 81) [.bptr 1 0] []] [],.cells [.mapr 2] [],.map (aD PVal.bool o),.dead] []
def po:Option (((List (ag×Bool)))):=
 if(v.Op==6)=true then
  (kY v.Params).bind fun r11=>
  (eU r11 m2).bind fun r12=>
  some r12
 else
  some m2
theorem uU{x:((List (ag×Bool)))}(h:po v m2=some x):aR Pg GE 3 (cA Vi 14) (EX .normal (jq v x)) (vj v m2):=by
 have p10:=fun{sc F} (r:PS sc F)=>sv (cX v)<|sv (cY v)<|r
 rcases aP h with⟨c9,h⟩|⟨c9,h⟩
 ·obtain⟨r11,br11,h⟩:=aJ h
  obtain⟨r12,br12,h⟩:=aJ h
  obtain rfl:=lf h
  exact bJ SQ (p10<|sg 0 c9<|sk<|Vp (.dx [0,0,2,6] [] [] [])<|ss<|sv (bE v)<|sv (bG v)<|cW (oL br11)<|si (.cg ⟨[1,2],[.bptr 0 0,sl cS r11],[],[.cells [.mapr 2] [],.map (aD PVal.bool m2)],[.cells [.mapr 1] [],.map (aD PVal.bool m2)],[.cells [.mapr 2] [],.map (aD PVal.bool r12)],[.cells [.mapr 1] [],.map (aD PVal.bool r12)],.tuple [],.tuple [],[]⟩) (fV br12)<|sf (aI (xB [1,2] 0 1 0 rfl) (aI (xR [1,2] (sl cS r11) (au cb r11)) trivial))<|sf (aI (aI (rB (.cells [.mapr 2] [])) (aI (rW []) (aI (xM [1,2] 1 2 rfl) trivial))) (aI (aI (rB (.map (aD PVal.bool m2))) (aI (rM (aD PVal.bool m2)) (mA (n:=0) PVal.bool (fun x=>trivial) m2))) trivial))<|sf (aI (aI (rW []) (aI (xM [1,2] 1 2 rfl) trivial)) (aI (aI (rM (aD PVal.bool r12)) (mA (n:=0) PVal.bool (fun x=>trivial) r12)) trivial))<|sf (xR [1,2] (.tuple []) trivial)<|eF .normal (jq v r12))<|by kernel_rfl
 ·obtain rfl:=lf h
  exact bJ SQ (p10<|sg 0 c9<|eF .normal (jq v m2))<|by kernel_rfl
end
section
variable(t27:waC)(t28:Int)(t29:Int)(m2:(List (ag×Bool)))
def eE:aA:=bj 38 [(1,.bptr 0 0),(27,sl az t27),(28,.int .i64 t28),(29,.int .i64 t29)] [.cells [.func (.func 81) [.bptr 1 0] []] [],.cells [.mapr 2] [],.map (aD PVal.bool m2),.dead] []
def jr(o:(List (ag×Bool))):aA:=bj 38 [] [.cells [.func (.func 81) [.bptr 1 0] []] [],.cells [.mapr 2] [],.map (aD PVal.bool o),.dead] []
def nx:Option ((Int×(List (ag×Bool)))⊕(((List (ag×Bool))))):=
 if(decide (t29<t28))=true then
  (gY t27 t29).bind fun x15=>
  (eU x15.Names m2).bind fun r16=>
  some (.inl (cp (t29+1),r16))
 else
  some (.inr m2)
def pp:Option (((List (ag×Bool)))):=loop (fun(zz:Int×(List (ag×Bool)))=>nx t27 t28 zz.1 zz.2) (t29,m2)
theorem tI{y:(Int×(List (ag×Bool)))⊕(((List (ag×Bool))))}(h:nx t27 t28 t29 m2=some y):aR Pg GE 3 (cA Vi 247) (LQ (fun(zz:Int×(List (ag×Bool)))=>eE t27 t28 zz.1 zz.2) (fun _=>.exit 0) jr y) (eE t27 t28 t29 m2):=by
 rcases aP h with⟨c14,h⟩|⟨c14,h⟩
 ·obtain⟨x15,bx15,h⟩:=aJ h
  obtain⟨r16,br16,h⟩:=aJ h
  obtain rfl:=lf h
  have z:=sg 0 c14<|sv (eQ.ia (k:=.i64) bx15)<|sv (mi x15)<|sx Fh<|sx (i8 x15)<|ss<|ss<|si (.cg ⟨[1,2],[.bptr 0 0,sl cS x15.Names],[],[.cells [.mapr 2] [],.map (aD PVal.bool m2)],[.cells [.mapr 1] [],.map (aD PVal.bool m2)],[.cells [.mapr 2] [],.map (aD PVal.bool r16)],[.cells [.mapr 1] [],.map (aD PVal.bool r16)],.tuple [],.tuple [],[]⟩) (fV br16)<|sf (aI (xB [1,2] 0 1 0 rfl) (aI (xR [1,2] (sl cS x15.Names) (au cb x15.Names)) trivial))<|sf (aI (aI (rB (.cells [.mapr 2] [])) (aI (rW []) (aI (xM [1,2] 1 2 rfl) trivial))) (aI (aI (rB (.map (aD PVal.bool m2))) (aI (rM (aD PVal.bool m2)) (mA (n:=0) PVal.bool (fun x=>trivial) m2))) trivial))<|sf (aI (aI (rW []) (aI (xM [1,2] 1 2 rfl) trivial)) (aI (aI (rM (aD PVal.bool r16)) (mA (n:=0) PVal.bool (fun x=>trivial) r16)) trivial))<|sf (xR [1,2] (.tuple []) trivial)<|tN 3 .normal (eE t27 t28 (cp (t29+1)) r16) rfl (d5 (aI (aZ rfl) (aI (up (au bW t27)) (aI trivial (aI trivial trivial))))) (aI (aI (aI (aI (aZ rfl) trivial) trivial) trivial) (aI (aI (aZ rfl) trivial) (aI (mA PVal.bool (fun x=>trivial) r16) (aI trivial trivial))))
  exact ez (A:=SQ) mixed z<|by kernel_rfl
 ·obtain rfl:=lf h
  have z:=sg 0 c14<|eF (.exit 0) (jr m2)
  exact kc SQ (by intro hx;cases hx) z<|by kernel_rfl
theorem uV{x:((List (ag×Bool)))}(h:pp t27 t28 t29 m2=some x):aR Pg GE 3 (.loop (cA Vi 247)) (EX (.exit 0) (jr x)) (eE t27 t28 t29 m2):=
 aR.loop (S:=fun(zz:Int×(List (ag×Bool)))=>eE t27 t28 zz.1 zz.2) (ex:=(fun _=>.exit 0)) (s:=(t29,m2)) h fun zz y hy=>tI t27 t28 zz.1 zz.2 hy
end
def sC(a:af)(k2:(List (ag×Bool))):Option (Bool×(List (ag×Bool))):=
 (pl a k2).bind fun o8=>
 (po a o8).bind fun o13=>
 (pp a.Alts (a.Alts.length:Int) 0 o13).bind fun o17=>
 some (true,o17)
theorem xl{a:af}{k2:(List (ag×Bool))}{r:Bool×(List (ag×Bool))}(h:sC a k2=some r):C Pg GE 99 [.agg (ae a),.bptr 0 0] [] [.cells [.func (.func 81) [.bptr 1 0] []] [],.cells [.mapr 2] [],.map (aD PVal.bool k2)] (.bool r.1) [] [.cells [.func (.func 81) [.bptr 1 0] []] [],.cells [.mapr 2] [],.map (aD PVal.bool r.2)]:=by
 obtain⟨o8,bo8,h⟩:=aJ h
 obtain⟨o13,bo13,h⟩:=aJ h
 obtain⟨o17,bo17,h⟩:=aJ h
 obtain rfl:=lf h
 have z:=se (cJ a)<|rN 0<|dS (uS a k2 bo8)<|rN 0<|dS (uU a o8 bo13)<|sv (aE a)<|sv (aF a)<|cq (eQ.ln a.Alts)<|dS (uV a.Alts (a.Alts.length:Int) 0 o13 bo17)<|en (aI (rP (.bool true))<|aI trivial<|aI (rL [.cells [.func (.func 81) [.bptr 1 0] []] [],.cells [.mapr 2] [],.map (aD PVal.bool o17)])<|(aI (aI (aI (aI (aZ (i:=1) (n:=3) rfl) trivial) trivial) trivial) (aI (aI (aZ (i:=2) (n:=3) rfl) trivial) (aI (mA (n:=3) PVal.bool (fun x=>trivial) o17) trivial))))
 exact C.evGp (A:=SQ) mixed (m:=3) (c:=Vi) rfl call99 func99 rfl z<|by kernel_rfl
noncomputable def BG:Code:=f64.body.getD .skip
def xz:List Nat:=[]
section
variable(R43:ec)(e:af)(t14:waE)(t15:Int)(t16:Int)(m2:(List (ag×Bool)))
def dB:aA:=bj 38 [(1,.func (.func 99) [] [.bptr 0 0]),(2,.eptr (ae e)),(14,sl ae t14),(15,.int .i64 t15),(16,.int .i64 t16)] [.cells [.func (.func 81) [.bptr 1 0] []] [],.cells [.mapr 2] [],.map (aD PVal.bool m2),.dead] []
def dC(o:((List (ag×Bool)))⊕((List (ag×Bool)))):Exit:=match o with
 |(.inl _)=>.ret
 |(.inr _)=>.exit 0
def cf(o:((List (ag×Bool)))⊕((List (ag×Bool)))):aA:=match o with
 |(.inl o)=>bj 38 [(4,.bool false)] [.cells [.func (.func 81) [.bptr 1 0] []] [],.cells [.mapr 2] [],.map (aD PVal.bool o),.dead] []
 |(.inr o)=>bj 38 [(1,.func (.func 99) [] [.bptr 0 0]),(2,.eptr (ae e))] [.cells [.func (.func 81) [.bptr 1 0] []] [],.cells [.mapr 2] [],.map (aD PVal.bool o),.dead] []
def kK:Option ((Int×(List (ag×Bool)))⊕(((List (ag×Bool)))⊕((List (ag×Bool))))):=
 if(decide (t16<t15))=true then
  (gY t14 t16).bind fun x5=>
  (R43 x5 m2).bind fun r6=>
  if(!r6.1)=true then
   some (.inr (.inl r6.2))
  else
   some (.inl (cp (t16+1),r6.2))
 else
  some (.inr (.inr m2))
def lM:Option (((List (ag×Bool)))⊕((List (ag×Bool)))):=loop (fun(zz:Int×(List (ag×Bool)))=>kK R43 t14 t15 zz.1 zz.2) (t16,m2)
theorem qq(hR43:ea R43){y:(Int×(List (ag×Bool)))⊕(((List (ag×Bool)))⊕((List (ag×Bool))))}(h:kK R43 t14 t15 t16 m2=some y):aR Pg GE 3 (cA BG 119) (LQ (fun(zz:Int×(List (ag×Bool)))=>dB e t14 t15 zz.1 zz.2) dC (cf e) y) (dB e t14 t15 t16 m2):=by
 rcases aP h with⟨c4,h⟩|⟨c4,h⟩
 ·obtain⟨x5,bx5,h⟩:=aJ h
  obtain⟨r6,br6,h⟩:=aJ h
  have p8:=fun{sc F} (r:PS sc F)=>sg 0 c4<|sv (g6.ia (k:=.i64) bx5)<|sv (bv x5)<|sx wG<|sx (kv x5)<|sv (bu x5 [])<|si (.cg ⟨[0,1,2],[.agg (ae x5),.func (.func 99) [] [.bptr 0 0]],[],[.cells [.func (.func 81) [.bptr 1 0] []] [],.cells [.mapr 2] [],.map (aD PVal.bool m2)],[.cells [.func (.func 81) [.bptr 1 0] []] [],.cells [.mapr 2] [],.map (aD PVal.bool m2)],[.cells [.func (.func 81) [.bptr 1 0] []] [],.cells [.mapr 2] [],.map (aD PVal.bool r6.2)],[.cells [.func (.func 81) [.bptr 1 0] []] [],.cells [.mapr 2] [],.map (aD PVal.bool r6.2)],.bool r6.1,.bool r6.1,[]⟩) (hR43 _ _ _ br6)<|sf (aI (xR [0,1,2] (.agg (ae x5)) (ay x5)) (aI (xF [0,1,2] (.func 99) [] [.bptr 0 0] [] [.bptr 0 0] trivial (aI (xB [0,1,2] 0 0 0 rfl) trivial)) trivial))<|sf (aI (aI (rB (.cells [.func (.func 81) [.bptr 1 0] []] [])) (aI (rW []) (aI (xF [0,1,2] (.func 81) [.bptr 1 0] [] [.bptr 1 0] [] (aI (xB [0,1,2] 1 1 0 rfl) trivial) trivial) trivial))) (aI (aI (rB (.cells [.mapr 2] [])) (aI (rW []) (aI (xM [0,1,2] 2 2 rfl) trivial))) (aI (aI (rB (.map (aD PVal.bool m2))) (aI (rM (aD PVal.bool m2)) (mA (n:=0) PVal.bool (fun x=>trivial) m2))) trivial)))<|sf (aI (aI (rW []) (aI (xF [0,1,2] (.func 81) [.bptr 1 0] [] [.bptr 1 0] [] (aI (xB [0,1,2] 1 1 0 rfl) trivial) trivial) trivial)) (aI (aI (rW []) (aI (xM [0,1,2] 2 2 rfl) trivial)) (aI (aI (rM (aD PVal.bool r6.2)) (mA (n:=0) PVal.bool (fun x=>trivial) r6.2)) trivial)))<|sf (xR [0,1,2] (.bool r6.1) trivial)<|r
  rcases aP h with⟨c7,h⟩|⟨c7,h⟩
  ·obtain rfl:=lf h
   have z:=p8<|sg 0 c7<|tN 3 (dC (.inl r6.2)) (cf e (.inl r6.2)) rfl (d5 (aI trivial trivial)) (aI (aI (aI (aI (aZ rfl) trivial) trivial) trivial) (aI (aI (aZ rfl) trivial) (aI (mA PVal.bool (fun x=>trivial) r6.2) (aI trivial trivial))))
   exact pR (A:=xz) mixed (by intro hx;cases hx) z<|by kernel_rfl
  ·obtain rfl:=lf h
   have z:=p8<|sg 0 c7<|tN 3 .normal (dB e t14 t15 (cp (t16+1)) r6.2) rfl (d5 (aI (aI trivial (aI (aZ rfl) trivial)) (aI (be (ay e)) (aI (up (au ay t14)) (aI trivial (aI trivial trivial)))))) (aI (aI (aI (aI (aZ rfl) trivial) trivial) trivial) (aI (aI (aZ rfl) trivial) (aI (mA PVal.bool (fun x=>trivial) r6.2) (aI trivial trivial))))
   exact ez (A:=xz) mixed z<|by kernel_rfl
 ·obtain rfl:=lf h
  have z:=sg 0 c4<|eF (dC (.inr m2)) (cf e (.inr m2))
  exact kc xz (by intro hx;cases hx) z<|by kernel_rfl
theorem f9(hR43:ea R43){x:((List (ag×Bool)))⊕((List (ag×Bool)))}(h:lM R43 t14 t15 t16 m2=some x):aR Pg GE 3 (.loop (cA BG 119)) (EX (dC x) (cf e x)) (dB e t14 t15 t16 m2):=
 aR.loop (S:=fun(zz:Int×(List (ag×Bool)))=>dB e t14 t15 zz.1 zz.2) (ex:=dC) (s:=(t16,m2)) h fun zz y hy=>qq R43 e t14 t15 zz.1 zz.2 hR43 hy
end
section
variable(R43:ec)(t26:waC)(t27:Int)(t28:Int)(m2:(List (ag×Bool)))
def dD:aA:=bj 38 [(1,.func (.func 99) [] [.bptr 0 0]),(26,sl az t26),(27,.int .i64 t27),(28,.int .i64 t28)] [.cells [.func (.func 81) [.bptr 1 0] []] [],.cells [.mapr 2] [],.map (aD PVal.bool m2),.dead] []
def dF(o:((List (ag×Bool)))⊕((List (ag×Bool)))):Exit:=match o with
 |(.inl _)=>.ret
 |(.inr _)=>.exit 2
def cG(o:((List (ag×Bool)))⊕((List (ag×Bool)))):aA:=match o with
 |(.inl o)=>bj 38 [(4,.bool false)] [.cells [.func (.func 81) [.bptr 1 0] []] [],.cells [.mapr 2] [],.map (aD PVal.bool o),.dead] []
 |(.inr o)=>bj 38 [] [.cells [.func (.func 81) [.bptr 1 0] []] [],.cells [.mapr 2] [],.map (aD PVal.bool o),.dead] []
def kL:Option ((Int×(List (ag×Bool)))⊕(((List (ag×Bool)))⊕((List (ag×Bool))))):=
 if(decide (t28<t27))=true then
  (gY t26 t28).bind fun x11=>
  (R43 x11.Body m2).bind fun r12=>
  if(!r12.1)=true then
   some (.inr (.inl r12.2))
  else
   some (.inl (cp (t28+1),r12.2))
 else
  some (.inr (.inr m2))
def lN:Option (((List (ag×Bool)))⊕((List (ag×Bool)))):=loop (fun(zz:Int×(List (ag×Bool)))=>kL R43 t26 t27 zz.1 zz.2) (t28,m2)
theorem qr(hR43:ea R43){y:(Int×(List (ag×Bool)))⊕(((List (ag×Bool)))⊕((List (ag×Bool))))}(h:kL R43 t26 t27 t28 m2=some y):aR Pg GE 3 (cA BG 247) (LQ (fun(zz:Int×(List (ag×Bool)))=>dD t26 t27 zz.1 zz.2) dF cG y) (dD t26 t27 t28 m2):=by
 rcases aP h with⟨c10,h⟩|⟨c10,h⟩
 ·obtain⟨x11,bx11,h⟩:=aJ h
  obtain⟨r12,br12,h⟩:=aJ h
  have p14:=fun{sc F} (r:PS sc F)=>sg 0 c10<|sv (eQ.ia (k:=.i64) bx11)<|sv (mi x11)<|sx Fh<|sx (i8 x11)<|sv (bu x11.Body [])<|si (.cg ⟨[0,1,2],[.agg (ae x11.Body),.func (.func 99) [] [.bptr 0 0]],[],[.cells [.func (.func 81) [.bptr 1 0] []] [],.cells [.mapr 2] [],.map (aD PVal.bool m2)],[.cells [.func (.func 81) [.bptr 1 0] []] [],.cells [.mapr 2] [],.map (aD PVal.bool m2)],[.cells [.func (.func 81) [.bptr 1 0] []] [],.cells [.mapr 2] [],.map (aD PVal.bool r12.2)],[.cells [.func (.func 81) [.bptr 1 0] []] [],.cells [.mapr 2] [],.map (aD PVal.bool r12.2)],.bool r12.1,.bool r12.1,[]⟩) (hR43 _ _ _ br12)<|sf (aI (xR [0,1,2] (.agg (ae x11.Body)) (ay x11.Body)) (aI (xF [0,1,2] (.func 99) [] [.bptr 0 0] [] [.bptr 0 0] trivial (aI (xB [0,1,2] 0 0 0 rfl) trivial)) trivial))<|sf (aI (aI (rB (.cells [.func (.func 81) [.bptr 1 0] []] [])) (aI (rW []) (aI (xF [0,1,2] (.func 81) [.bptr 1 0] [] [.bptr 1 0] [] (aI (xB [0,1,2] 1 1 0 rfl) trivial) trivial) trivial))) (aI (aI (rB (.cells [.mapr 2] [])) (aI (rW []) (aI (xM [0,1,2] 2 2 rfl) trivial))) (aI (aI (rB (.map (aD PVal.bool m2))) (aI (rM (aD PVal.bool m2)) (mA (n:=0) PVal.bool (fun x=>trivial) m2))) trivial)))<|sf (aI (aI (rW []) (aI (xF [0,1,2] (.func 81) [.bptr 1 0] [] [.bptr 1 0] [] (aI (xB [0,1,2] 1 1 0 rfl) trivial) trivial) trivial)) (aI (aI (rW []) (aI (xM [0,1,2] 2 2 rfl) trivial)) (aI (aI (rM (aD PVal.bool r12.2)) (mA (n:=0) PVal.bool (fun x=>trivial) r12.2)) trivial)))<|sf (xR [0,1,2] (.bool r12.1) trivial)<|r
  rcases aP h with⟨c13,h⟩|⟨c13,h⟩
  ·obtain rfl:=lf h
   have z:=p14<|sg 0 c13<|tN 3 (dF (.inl r12.2)) (cG (.inl r12.2)) rfl (d5 (aI trivial trivial)) (aI (aI (aI (aI (aZ rfl) trivial) trivial) trivial) (aI (aI (aZ rfl) trivial) (aI (mA PVal.bool (fun x=>trivial) r12.2) (aI trivial trivial))))
   exact pR (A:=xz) mixed (by intro hx;cases hx) z<|by kernel_rfl
  ·obtain rfl:=lf h
   have z:=p14<|sg 0 c13<|tN 3 .normal (dD t26 t27 (cp (t28+1)) r12.2) rfl (d5 (aI (aI trivial (aI (aZ rfl) trivial)) (aI (up (au bW t26)) (aI trivial (aI trivial trivial))))) (aI (aI (aI (aI (aZ rfl) trivial) trivial) trivial) (aI (aI (aZ rfl) trivial) (aI (mA PVal.bool (fun x=>trivial) r12.2) (aI trivial trivial))))
   exact ez (A:=xz) mixed z<|by kernel_rfl
 ·obtain rfl:=lf h
  have z:=sg 0 c10<|eF (dF (.inr m2)) (cG (.inr m2))
  exact kc xz (by intro hx;cases hx) z<|by kernel_rfl
theorem kb(hR43:ea R43){x:((List (ag×Bool)))⊕((List (ag×Bool)))}(h:lN R43 t26 t27 t28 m2=some x):aR Pg GE 3 (.loop (cA BG 247)) (EX (dF x) (cG x)) (dD t26 t27 t28 m2):=
 aR.loop (S:=fun(zz:Int×(List (ag×Bool)))=>dD t26 t27 zz.1 zz.2) (ex:=dF) (s:=(t28,m2)) h fun zz y hy=>qr R43 t26 t27 zz.1 zz.2 hR43 hy
end
def mo(R43:ec)(e:af)(k2:(List (ag×Bool))):Option (Bool×(List (ag×Bool))):=
 (sC e k2).bind fun r1=>
 if(!r1.1)=true then
  some (false,r1.2)
 else
  (lM R43 e.Kids (e.Kids.length:Int) 0 r1.2).bind fun o9=>match o9 with
  |(.inl o9)=>
   some (false,o9)
  | (.inr o9) =>
   (lN R43 e.Alts (e.Alts.length:Int) 0 o9).bind fun o15=>match o15 with
   |(.inl o15)=>
    some (false,o15)
   |(.inr o15)=>
    some (true,o15)
theorem sF(R43:ec)(hR43:ea R43){e:af}{k2:(List (ag×Bool))}{r:Bool×(List (ag×Bool))}(h:mo R43 e k2=some r):C Pg GE 64 [.agg (ae e),.func (.func 99) [] [.bptr 0 0]] [] [.cells [.func (.func 81) [.bptr 1 0] []] [],.cells [.mapr 2] [],.map (aD PVal.bool k2)] (.bool r.1) [] [.cells [.func (.func 81) [.bptr 1 0] []] [],.cells [.mapr 2] [],.map (aD PVal.bool r.2)]:=by
 obtain⟨r1,br1,h⟩:=aJ h
 have p3:=fun{sc F} (r:PS sc F)=>se (cJ e)<|sv (bv e)<|si (.cg ⟨[0,1,2],[.agg (ae e),.bptr 0 0],[],[.cells [.func (.func 81) [.bptr 1 0] []] [],.cells [.mapr 2] [],.map (aD PVal.bool k2)],[.cells [.func (.func 81) [.bptr 1 0] []] [],.cells [.mapr 2] [],.map (aD PVal.bool k2)],[.cells [.func (.func 81) [.bptr 1 0] []] [],.cells [.mapr 2] [],.map (aD PVal.bool r1.2)],[.cells [.func (.func 81) [.bptr 1 0] []] [],.cells [.mapr 2] [],.map (aD PVal.bool r1.2)],.bool r1.1,.bool r1.1,[]⟩) (xl br1)<|sf (aI (xR [0,1,2] (.agg (ae e)) (ay e)) (aI (xB [0,1,2] 0 0 0 rfl) trivial))<|sf (aI (aI (rB (.cells [.func (.func 81) [.bptr 1 0] []] [])) (aI (rW []) (aI (xF [0,1,2] (.func 81) [.bptr 1 0] [] [.bptr 1 0] [] (aI (xB [0,1,2] 1 1 0 rfl) trivial) trivial) trivial))) (aI (aI (rB (.cells [.mapr 2] [])) (aI (rW []) (aI (xM [0,1,2] 2 2 rfl) trivial))) (aI (aI (rB (.map (aD PVal.bool k2))) (aI (rM (aD PVal.bool k2)) (mA (n:=0) PVal.bool (fun x=>trivial) k2))) trivial)))<|sf (aI (aI (rW []) (aI (xF [0,1,2] (.func 81) [.bptr 1 0] [] [.bptr 1 0] [] (aI (xB [0,1,2] 1 1 0 rfl) trivial) trivial) trivial)) (aI (aI (rW []) (aI (xM [0,1,2] 2 2 rfl) trivial)) (aI (aI (rM (aD PVal.bool r1.2)) (mA (n:=0) PVal.bool (fun x=>trivial) r1.2)) trivial)))<|sf (xR [0,1,2] (.bool r1.1) trivial)<|r
 rcases aP h with⟨c2,h⟩|⟨c2,h⟩
 ·obtain rfl:=lf h
  have z:=p3<|sg 0 c2<|en (aI (rP (.bool false))<|aI trivial<|aI (rL [.cells [.func (.func 81) [.bptr 1 0] []] [],.cells [.mapr 2] [],.map (aD PVal.bool r1.2)])<|(aI (aI (aI (aI (aZ (i:=1) (n:=3) rfl) trivial) trivial) trivial) (aI (aI (aZ (i:=2) (n:=3) rfl) trivial) (aI (mA (n:=3) PVal.bool (fun x=>trivial) r1.2) trivial))))
  exact C.evGp (A:=xz) mixed (m:=3) (c:=BG) rfl call64 func64 rfl z<|by kernel_rfl
 ·obtain⟨o9,bo9,h⟩:=aJ h
  rcases o9 with o9|o9
  ·obtain rfl:=lf h
   have z:=p3<|sg 0 c2<|sv (aX e)<|sv (aY e)<|cq (g6.ln e.Kids)<|dS (e:=.ret) (s1:=cf e (.inl o9)) (f9 R43 e e.Kids (e.Kids.length:Int) 0 r1.2 hR43 bo9)<|en (aI (rP (.bool false))<|aI trivial<|aI (rL [.cells [.func (.func 81) [.bptr 1 0] []] [],.cells [.mapr 2] [],.map (aD PVal.bool o9)])<|(aI (aI (aI (aI (aZ (i:=1) (n:=3) rfl) trivial) trivial) trivial) (aI (aI (aZ (i:=2) (n:=3) rfl) trivial) (aI (mA (n:=3) PVal.bool (fun x=>trivial) o9) trivial))))
   exact C.evGp (A:=xz) mixed (m:=3) (c:=BG) rfl call64 func64 rfl z<|by kernel_rfl
  ·obtain⟨o15,bo15,h⟩:=aJ h
   rcases o15 with o15|o15
   ·obtain rfl:=lf h
    have z:=p3<|sg 0 c2<|sv (aX e)<|sv (aY e)<|cq (g6.ln e.Kids)<|dS (e:=.exit 0) (s1:=cf e (.inr o9)) (f9 R43 e e.Kids (e.Kids.length:Int) 0 r1.2 hR43 bo9)<|sv (aE e)<|sv (aF e)<|cq (eQ.ln e.Alts)<|dS (e:=.ret) (s1:=cG (.inl o15)) (kb R43 e.Alts (e.Alts.length:Int) 0 o9 hR43 bo15)<|en (aI (rP (.bool false))<|aI trivial<|aI (rL [.cells [.func (.func 81) [.bptr 1 0] []] [],.cells [.mapr 2] [],.map (aD PVal.bool o15)])<|(aI (aI (aI (aI (aZ (i:=1) (n:=3) rfl) trivial) trivial) trivial) (aI (aI (aZ (i:=2) (n:=3) rfl) trivial) (aI (mA (n:=3) PVal.bool (fun x=>trivial) o15) trivial))))
    exact C.evGp (A:=xz) mixed (m:=3) (c:=BG) rfl call64 func64 rfl z<|by kernel_rfl
   ·obtain rfl:=lf h
    have z:=p3<|sg 0 c2<|sv (aX e)<|sv (aY e)<|cq (g6.ln e.Kids)<|dS (e:=.exit 0) (s1:=cf e (.inr o9)) (f9 R43 e e.Kids (e.Kids.length:Int) 0 r1.2 hR43 bo9)<|sv (aE e)<|sv (aF e)<|cq (eQ.ln e.Alts)<|dS (e:=.exit 2) (s1:=cG (.inr o15)) (kb R43 e.Alts (e.Alts.length:Int) 0 o9 hR43 bo15)<|en (aI (rP (.bool true))<|aI trivial<|aI (rL [.cells [.func (.func 81) [.bptr 1 0] []] [],.cells [.mapr 2] [],.map (aD PVal.bool o15)])<|(aI (aI (aI (aI (aZ (i:=1) (n:=3) rfl) trivial) trivial) trivial) (aI (aI (aZ (i:=2) (n:=3) rfl) trivial) (aI (mA (n:=3) PVal.bool (fun x=>trivial) o15) trivial))))
    exact C.evGp (A:=xz) mixed (m:=3) (c:=BG) rfl call64 func64 rfl z<|by kernel_rfl
def mq:((af×(List (ag×Bool)))->Option (Bool×(List (ag×Bool))))->(af×(List (ag×Bool)))->Option (Bool×(List (ag×Bool))):=fun(rec:(af×(List (ag×Bool)))->Option (Bool×(List (ag×Bool)))) (x:af×(List (ag×Bool)))=>mo (fun e k2=>rec (e,k2)) x.1 x.2
def nB(e:af)(k2:(List (ag×Bool))):Option (Bool×(List (ag×Bool))):=sd mq (e,k2)
theorem sU{e:af}{k2:(List (ag×Bool))}{r:Bool×(List (ag×Bool))}(h:nB e k2=some r):C Pg GE 64 [.agg (ae e),.func (.func 99) [] [.bptr 0 0]] [] [.cells [.func (.func 81) [.bptr 1 0] []] [],.cells [.mapr 2] [],.map (aD PVal.bool k2)] (.bool r.1) [] [.cells [.func (.func 81) [.bptr 1 0] []] [],.cells [.mapr 2] [],.map (aD PVal.bool r.2)]:=
 eM (F:=mq) (M:=fun(x:af×(List (ag×Bool))) (r:Bool×(List (ag×Bool)))=>C Pg GE 64 [.agg (ae x.1),.func (.func 99) [] [.bptr 0 0]] [] [.cells [.func (.func 81) [.bptr 1 0] []] [],.cells [.mapr 2] [],.map (aD PVal.bool x.2)] (.bool r.1) [] [.cells [.func (.func 81) [.bptr 1 0] []] [],.cells [.mapr 2] [],.map (aD PVal.bool r.2)]) (fun rec hrec x r h=>sF _ (fun e k2 r h=>hrec (e,k2) r h) h) h
noncomputable def YB:Code:=f53.body.getD .skip
def Yk:List Nat:=[]
def IQ(e:af):Option waA:=
 (lZ ([]:List ag)).bind fun r1=>
 (nB e r1).bind fun r2=>
 (rb r2.2).bind fun r3=>
 some r3
theorem JF{e:af}{r:waA}(h:IQ e=some r):CC Pg GE 53 [.agg (ae e)] (sl cS r) [(0,9)]:=by
 obtain⟨r1,br1,h⟩:=aJ h
 obtain⟨r2,br2,h⟩:=aJ h
 obtain⟨r3,br3,h⟩:=aJ h
 obtain rfl:=lf h
 have z:=se (cJ e)<|si (.cn ⟨[1,2],[],[],[],[],[.map (aD PVal.bool r1),.cells [.mapr 1] []],[.map (aD PVal.bool r1),.cells [.mapr 0] []],.bptr 2 0,.bptr 1 0,[]⟩) (rj br1)<|sf (aI (au cb ([]:List ag)) trivial)<|sf (aI (aI (rM (aD PVal.bool r1)) (mA (n:=0) PVal.bool (fun x=>trivial) r1)) (aI (aI (rW []) (aI (xM [1,2] 0 1 rfl) trivial)) trivial))<|sf (xB [1,2] 1 2 0 rfl)<|sx Wz<|ss<|sv (bv e)<|si (.cg ⟨[3,2,1],[.agg (ae e),.func (.func 99) [] [.bptr 0 0]],[],[.cells [.func (.func 81) [.bptr 2 0] []] [],.cells [.mapr 1] [],.map (aD PVal.bool r1)],[.cells [.func (.func 81) [.bptr 1 0] []] [],.cells [.mapr 2] [],.map (aD PVal.bool r1)],[.cells [.func (.func 81) [.bptr 2 0] []] [],.cells [.mapr 1] [],.map (aD PVal.bool r2.2)],[.cells [.func (.func 81) [.bptr 1 0] []] [],.cells [.mapr 2] [],.map (aD PVal.bool r2.2)],.bool r2.1,.bool r2.1,[]⟩) (sU br2)<|sf (aI (xR [3,2,1] (.agg (ae e)) (ay e)) (aI (xF [3,2,1] (.func 99) [] [.bptr 3 0] [] [.bptr 0 0] trivial (aI (xB [3,2,1] 0 3 0 rfl) trivial)) trivial))<|sf (aI (aI (rB (.cells [.func (.func 81) [.bptr 2 0] []] [])) (aI (rW []) (aI (xF [3,2,1] (.func 81) [.bptr 2 0] [] [.bptr 1 0] [] (aI (xB [3,2,1] 1 2 0 rfl) trivial) trivial) trivial))) (aI (aI (rB (.cells [.mapr 1] [])) (aI (rW []) (aI (xM [3,2,1] 2 1 rfl) trivial))) (aI (aI (rB (.map (aD PVal.bool r1))) (aI (rM (aD PVal.bool r1)) (mA (n:=0) PVal.bool (fun x=>trivial) r1))) trivial)))<|sf (aI (aI (rW []) (aI (xF [3,2,1] (.func 81) [.bptr 2 0] [] [.bptr 1 0] [] (aI (xB [3,2,1] 1 2 0 rfl) trivial) trivial) trivial)) (aI (aI (rW []) (aI (xM [3,2,1] 2 1 rfl) trivial)) (aI (aI (rM (aD PVal.bool r2.2)) (mA (n:=0) PVal.bool (fun x=>trivial) r2.2)) trivial)))<|sf (xR [3,2,1] (.bool r2.1) trivial)<|si (.cg ⟨[2,1],[.bptr 0 0],[],[.cells [.mapr 1] [],.map (aD PVal.bool r2.2)],[.cells [.mapr 1] [],.map (aD PVal.bool r2.2)],[.cells [.mapr 1] [],.map (aD PVal.bool r2.2)],[.cells [.mapr 1] [],.map (aD PVal.bool r2.2)],sl cS r3,sl cS r3,[(0,9)]⟩) (wH br3)<|sf (aI (xB [2,1] 0 2 0 rfl) trivial)<|sf (aI (aI (rB (.cells [.mapr 1] [])) (aI (rW []) (aI (xM [2,1] 1 1 rfl) trivial))) (aI (aI (rB (.map (aD PVal.bool r2.2))) (aI (rM (aD PVal.bool r2.2)) (mA (n:=0) PVal.bool (fun x=>trivial) r2.2))) trivial))<|sf (aI (aI (rW []) (aI (xM [2,1] 1 1 rfl) trivial)) (aI (aI (rM (aD PVal.bool r2.2)) (mA (n:=0) PVal.bool (fun x=>trivial) r2.2)) trivial))<|sf (xR [2,1] (sl cS r3) (au cb r3))<|en (aI (rP (sl cS r3))<|(au cb r3))
 exact cR Yk call53 func53 (c:=YB) rfl (aI (ay e) trivial) z<|by kernel_rfl
abbrev aS:=(ag->ag->ag->ag->ag->af->(List aa)->Option af)
abbrev bp(R:aS):Prop:=∀(c:ag) (c2:ag) (c3:ag) (c4:ag) (c5:ag) (e:af) (scope:(List aa)) (r:af),R c c2 c3 c4 c5 e scope=some r->CC Pg GE 56 [.agg [.func (.func 55) [] [.eptr (cS c),.eptr (cS c2),.eptr (cS c3)],.func (.func 54) [] [.eptr (cS c4),.eptr (cS c5)]],.agg (ae e),sl ac scope] (.agg (ae r)) [(3,28),(4,85),(5,89),(6,60)]
noncomputable def XY:Code:=f54.body.getD .skip
def XV:List Nat:=[9]
def Aj(s:ag)(a:ag)(a2:ag):Option ag:=
 if(s==a)=true then
  some a2
 else
  some s
theorem Ee{s:ag}{a:ag}{a2:ag}{r:ag}(h:Aj s a a2=some r):CC Pg GE 54 [.str s,.eptr (cS a),.eptr (cS a2)] (.str r) []:=by
 rcases aP h with⟨c1,h⟩|⟨c1,h⟩
 ·obtain rfl:=lf h
  have z:=sv (cZ Ge (.str a) [])<|sg 0 c1<|sv (cZ Ge (.str a2) [])<|en (aI (rP (.str a2))<|trivial)
  exact cR XV call54 func54 (c:=XY) rfl (aI trivial (aI (cb a) (aI (cb a2) trivial))) z<|by kernel_rfl
 ·obtain rfl:=lf h
  have z:=sv (cZ Ge (.str a) [])<|sg 0 c1<|en (aI (rP (.str s))<|trivial)
  exact cR XV call54 func54 (c:=XY) rfl (aI trivial (aI (cb a) (aI (cb a2) trivial))) z<|by kernel_rfl
noncomputable def Xk:Code:=f55.body.getD .skip
def WI:List Nat:=[17]
section
variable(s:ag)(t2:ag)(t3:ag)(t4:ag)
def Bw:aA:=bj 18 [(0,.str s),(2,.eptr (cS t2)),(3,.eptr (cS t3)),(4,.eptr (cS t4))] [] []
def nI(o:Bool):aA:=bj 18 [(0,.str s),(4,.eptr (cS t4)),(15,.bool o)] [] []
def wb:Option Bool:=
 if(s==t2)=true then
  some (!(t3==t2))
 else
  some false
theorem Ak{x:Bool}(h:wb s t2 t3=some x):aR Pg GE 0 (cA Xk 12) (EX .normal (nI s t4 x)) (Bw s t2 t3 t4):=by
 rcases aP h with⟨c1,h⟩|⟨c1,h⟩
 ·obtain rfl:=lf h
  exact bJ WI (sv (cZ Ge (.str t2) [])<|sg 4 c1<|sv (cZ Ge (.str t3) [])<|sv (cZ Ge (.str t2) [])<|eF .normal (nI s t4 (!(t3==t2))))<|by kernel_rfl
 ·obtain rfl:=lf h
  exact bJ WI (sv (cZ Ge (.str t2) [])<|sg 4 c1<|eF .normal (nI s t4 false))<|by kernel_rfl
end
def uR(s:ag)(a:(List aa))(a2:ag)(a3:ag)(a4:ag):Option ag:=
 (wb s a2 a3).bind fun o2=>
 if o2=true then
  some a4
 else
  some s
theorem wc{s:ag}{a:(List aa)}{a2:ag}{a3:ag}{a4:ag}{r:ag}(h:uR s a a2 a3 a4=some r):CC Pg GE 55 [.str s,sl ac a,.eptr (cS a2),.eptr (cS a3),.eptr (cS a4)] (.str r) []:=by
 obtain⟨o2,bo2,h⟩:=aJ h
 have p4:=fun{sc F} (r:PS sc F)=>rN 2<|dS (Ak s a2 a3 a4 bo2)<|r
 rcases aP h with⟨c3,h⟩|⟨c3,h⟩
 ·obtain rfl:=lf h
  have z:=p4<|sg 0 c3<|sv (cZ Ge (.str a4) [])<|en (aI (rP (.str a4))<|trivial)
  exact cR WI call55 func55 (c:=Xk) rfl (aI trivial (aI (au al a) (aI (cb a2) (aI (cb a3) (aI (cb a4) trivial))))) z<|by kernel_rfl
 ·obtain rfl:=lf h
  have z:=p4<|sg 0 c3<|en (aI (rP (.str s))<|trivial)
  exact cR WI call55 func55 (c:=Xk) rfl (aI trivial (aI (au al a) (aI (cb a2) (aI (cb a3) (aI (cb a4) trivial))))) z<|by kernel_rfl
def eB(s:ag)(a:(List aa))(c:ag)(c2:ag)(c3:ag)(c4:ag)(c5:ag)(k1:(List aa)):Option (ag×(List aa)):=
 (uR s a c c2 c3).bind fun r1=>
 (app k1 ([(⟨s,r1⟩:aa)]:List aa)).bind fun l2=>
 some (r1,l2)
theorem gk{s:ag}{a:(List aa)}{c:ag}{c2:ag}{c3:ag}{c4:ag}{c5:ag}{k1:(List aa)}{r:ag×(List aa)}(h:eB s a c c2 c3 c4 c5 k1=some r):C Pg GE 105 [.str s,.bptr 0 0,.eptr ((cL ac) a),.bptr 1 0] [] [.cells [.func (.func 55) [] [.eptr (cS c),.eptr (cS c2),.eptr (cS c3)],.func (.func 54) [] [.eptr (cS c4),.eptr (cS c5)]] [],.cells [sl ac k1] [(0,137)]] (.str r.1) [] [.cells [.func (.func 55) [] [.eptr (cS c),.eptr (cS c2),.eptr (cS c3)],.func (.func 54) [] [.eptr (cS c4),.eptr (cS c5)]] [],.cells [sl ac r.2] [(0,137)]]:=by
 obtain⟨r1,br1,h⟩:=aJ h
 obtain⟨l2,bl2,h⟩:=aJ h
 obtain rfl:=lf h
 have z:=ss<|sv (cZ GU (sl ac a) [])<|cW (wc br1)<|sv (kV s r1)<|sv (IK.mk' (v:=oo) oF ([(⟨s,r1⟩:aa)]:List aa) 1 (by kernel_rfl))<|sv (IK.ap bl2)<|en (aI (rP (.str r1))<|aI trivial<|aI (rL [.cells [.func (.func 55) [] [.eptr (cS c),.eptr (cS c2),.eptr (cS c3)],.func (.func 54) [] [.eptr (cS c4),.eptr (cS c5)]] [],.cells [sl ac l2] [(0,137)]])<|(aI (aI (aI trivial (aI (be (n:=2) (cb c)) (aI (be (n:=2) (cb c2)) (aI (be (n:=2) (cb c3)) trivial)))) (aI (aI trivial (aI (be (n:=2) (cb c4)) (aI (be (n:=2) (cb c5)) trivial))) trivial)) (aI (aI (up (n:=2) (au al l2)) trivial) trivial)))
 exact C.evGp (A:=Vr) mixed (m:=2) (c:=VO) rfl call105 func105 rfl z<|by kernel_rfl
section
variable(t1:Bool)(v:(List aa))(v2:ag)(v3:ag)(v4:ag)(v5:ag)(v6:ag)(m:(List aa))(m2:ag)(m3:Int)(m4:ag)(m5:waB)(m6:waA)(m7:Int)(m8:ag)(m9:Int)(m10:waF)(m11:waF)(m12:waB)(m13:waF)
def gN:aA:=bj 17 [(1,.eptr (cB t1)),(2,.bptr 0 0),(3,.bptr 3 0),(4,.bptr 4 0)] [.cells [.func (.func 105) [] [.bptr 1 0,.eptr ((cL ac) v),.bptr 2 0]] [],.cells [.func (.func 55) [] [.eptr (cS v2),.eptr (cS v3),.eptr (cS v4)],.func (.func 54) [] [.eptr (cS v5),.eptr (cS v6)]] [],.cells [sl ac m] [(0,137)],.cells [.str m2,.int .i64 m3,.str m4,sl ai m5,sl cS m6,.int .i64 m7,.str m8,.int .i64 m9,sl aw m10,sl aw m11] [],.cells [.str ([]:ag),.int .i64 0,.str ([]:ag),sl ai m12,sl cS ([]:List ag),.int .i64 0,.str ([]:ag),.int .i64 0,sl aw m13,sl aw m13] [(3,60),(4,9),(8,58),(9,58)]] []
def cm(o:(List aa)×ag):aA:=bj 17 [(3,.bptr 3 0),(4,.bptr 4 0)] [.cells [.func (.func 105) [] [.bptr 1 0,.eptr ((cL ac) v),.bptr 2 0]] [],.cells [.func (.func 55) [] [.eptr (cS v2),.eptr (cS v3),.eptr (cS v4)],.func (.func 54) [] [.eptr (cS v5),.eptr (cS v6)]] [],.cells [sl ac o.1] [(0,137)],.cells [.str o.2,.int .i64 m3,.str m4,sl ai m5,sl cS m6,.int .i64 m7,.str m8,.int .i64 m9,sl aw m10,sl aw m11] [],.cells [.str ([]:ag),.int .i64 0,.str ([]:ag),sl ai m12,sl cS ([]:List ag),.int .i64 0,.str ([]:ag),.int .i64 0,sl aw m13,sl aw m13] [(3,60),(4,9),(8,58),(9,58)]] []
def dV:Option (((List aa)×ag)):=
 if t1=true then
  (eB m2 v v2 v3 v4 v5 v6 m).bind fun r2=>
  some (r2.2,r2.1)
 else
  some (m,m2)
theorem gA{x:((List aa)×ag)}(h:dV t1 v v2 v3 v4 v5 v6 m m2=some x):aR Pg GE 3 (cA SZ 6) (EX .normal (cm v v2 v3 v4 v5 v6 m3 m4 m5 m6 m7 m8 m9 m10 m11 m12 m13 x)) (gN t1 v v2 v3 v4 v5 v6 m m2 m3 m4 m5 m6 m7 m8 m9 m10 m11 m12 m13):=by
 rcases aP h with⟨c1,h⟩|⟨c1,h⟩
 ·obtain⟨r2,br2,h⟩:=aJ h
  obtain rfl:=lf h
  exact bJ Pf (sv (cZ WR (.bool t1) [])<|sg 0 c1<|ss<|ss<|si (.cg ⟨[1,2],[.str m2,.bptr 0 0,.eptr ((cL ac) v),.bptr 1 0],[],[.cells [.func (.func 55) [] [.eptr (cS v2),.eptr (cS v3),.eptr (cS v4)],.func (.func 54) [] [.eptr (cS v5),.eptr (cS v6)]] [],.cells [sl ac m] [(0,137)]],[.cells [.func (.func 55) [] [.eptr (cS v2),.eptr (cS v3),.eptr (cS v4)],.func (.func 54) [] [.eptr (cS v5),.eptr (cS v6)]] [],.cells [sl ac m] [(0,137)]],[.cells [.func (.func 55) [] [.eptr (cS v2),.eptr (cS v3),.eptr (cS v4)],.func (.func 54) [] [.eptr (cS v5),.eptr (cS v6)]] [],.cells [sl ac r2.2] [(0,137)]],[.cells [.func (.func 55) [] [.eptr (cS v2),.eptr (cS v3),.eptr (cS v4)],.func (.func 54) [] [.eptr (cS v5),.eptr (cS v6)]] [],.cells [sl ac r2.2] [(0,137)]],.str r2.1,.str r2.1,[]⟩) (gk br2)<|sf (aI (xR [1,2] (.str m2) trivial) (aI (xB [1,2] 0 1 0 rfl) (aI (xR [1,2] (.eptr ((cL ac) v)) (mr al v)) (aI (xB [1,2] 1 2 0 rfl) trivial))))<|sf (aI (aI (rB (.cells [.func (.func 55) [] [.eptr (cS v2),.eptr (cS v3),.eptr (cS v4)],.func (.func 54) [] [.eptr (cS v5),.eptr (cS v6)]] [])) (aI (rW []) (aI (xR [1,2] (.func (.func 55) [] [.eptr (cS v2),.eptr (cS v3),.eptr (cS v4)]) (aI trivial (aI (cb v2) (aI (cb v3) (aI (cb v4) trivial))))) (aI (xR [1,2] (.func (.func 54) [] [.eptr (cS v5),.eptr (cS v6)]) (aI trivial (aI (cb v5) (aI (cb v6) trivial)))) trivial)))) (aI (aI (rB (.cells [sl ac m] [(0,137)])) (aI (rW [(0,137)]) (aI (xR [1,2] (sl ac m) (au al m)) trivial))) trivial))<|sf (aI (aI (rW []) (aI (xR [1,2] (.func (.func 55) [] [.eptr (cS v2),.eptr (cS v3),.eptr (cS v4)]) (aI trivial (aI (cb v2) (aI (cb v3) (aI (cb v4) trivial))))) (aI (xR [1,2] (.func (.func 54) [] [.eptr (cS v5),.eptr (cS v6)]) (aI trivial (aI (cb v5) (aI (cb v6) trivial)))) trivial))) (aI (aI (rW [(0,137)]) (aI (xR [1,2] (sl ac r2.2) (au al r2.2)) trivial)) trivial))<|sf (xR [1,2] (.str r2.1) trivial)<|ss<|eF .normal (cm v v2 v3 v4 v5 v6 m3 m4 m5 m6 m7 m8 m9 m10 m11 m12 m13 (r2.2,r2.1)))<|by kernel_rfl
 ·obtain rfl:=lf h
  exact bJ Pf (sv (cZ WR (.bool t1) [])<|sg 0 c1<|eF .normal (cm v v2 v3 v4 v5 v6 m3 m4 m5 m6 m7 m8 m9 m10 m11 m12 m13 (m,m2)))<|by kernel_rfl
end
def ed(p:av)(a:Bool)(c:(List aa))(c2:ag)(c3:ag)(c4:ag)(c5:ag)(c6:ag)(k2:(List aa)):Option (av×(List aa)):=
 (dV a c c2 c3 c4 c5 c6 k2 p.Name).bind fun o3=>
 (eA cw p.Type_).bind fun r4=>
 some ((⟨o3.2,r4⟩:av),o3.1)
theorem g8{p:av}{a:Bool}{c:(List aa)}{c2:ag}{c3:ag}{c4:ag}{c5:ag}{c6:ag}{k2:(List aa)}{r:av×(List aa)}(h:ed p a c c2 c3 c4 c5 c6 k2=some r):C Pg GE 108 [.agg (aq p),.eptr (cB a),.bptr 0 0] [] [.cells [.func (.func 105) [] [.bptr 1 0,.eptr ((cL ac) c),.bptr 2 0]] [],.cells [.func (.func 55) [] [.eptr (cS c2),.eptr (cS c3),.eptr (cS c4)],.func (.func 54) [] [.eptr (cS c5),.eptr (cS c6)]] [],.cells [sl ac k2] [(0,137)]] (.agg (aq r.1)) [] [.cells [.func (.func 105) [] [.bptr 1 0,.eptr ((cL ac) c),.bptr 2 0]] [],.cells [.func (.func 55) [] [.eptr (cS c2),.eptr (cS c3),.eptr (cS c4)],.func (.func 54) [] [.eptr (cS c5),.eptr (cS c6)]] [],.cells [sl ac r.2] [(0,137)]]:=by
 obtain⟨o3,bo3,h⟩:=aJ h
 obtain⟨r4,br4,h⟩:=aJ h
 obtain rfl:=lf h
 have z:=sx (mQ p)<|sx Qd<|rN 0<|dS (gA a c c2 c3 c4 c5 c6 k2 p.Name p.Type_.Op p.Type_.Name p.Type_.Args p.Type_.Names p.Type_.Pred.Op p.Type_.Pred.Name p.Type_.Pred.N p.Type_.Pred.Kids p.Type_.Preds ([]:List aj) ([]:List ax) bo3)<|I1 [0,1,0,4,12,31,63]<|ss<|sv (kn p.Type_ [])<|cW (nJ cw (fun _ _ h=>gM h) br4)<|sv (BJ o3.2 r4)<|sx (mQ (⟨o3.2,r4⟩:av))<|en (aI (II (⟨o3.2,r4⟩:av))<|aI (WG (n:=3) (bo (⟨o3.2,r4⟩:av)))<|aI (rL [.cells [.func (.func 105) [] [.bptr 1 0,.eptr ((cL ac) c),.bptr 2 0]] [],.cells [.func (.func 55) [] [.eptr (cS c2),.eptr (cS c3),.eptr (cS c4)],.func (.func 54) [] [.eptr (cS c5),.eptr (cS c6)]] [],.cells [sl ac o3.1] [(0,137)]])<|(aI (aI (aI trivial (aI (aZ (i:=1) (n:=3) rfl) (aI (be (n:=3) (mr al c)) (aI (aZ (i:=2) (n:=3) rfl) trivial)))) trivial) (aI (aI (aI trivial (aI (be (n:=3) (cb c2)) (aI (be (n:=3) (cb c3)) (aI (be (n:=3) (cb c4)) trivial)))) (aI (aI trivial (aI (be (n:=3) (cb c5)) (aI (be (n:=3) (cb c6)) trivial))) trivial)) (aI (aI (up (n:=3) (au al o3.1)) trivial) trivial))))
 exact C.evGp (A:=Pf) mixed (m:=3) (c:=SZ) rfl call108 func108 rfl z<|by kernel_rfl
section
variable(v:Bool)(t8:waD)(t9:Int)(v2:(List aa))(v3:ag)(v4:ag)(v5:ag)(v6:ag)(v7:ag)(out:waD)(t10:Int)(m:(List aa))
def aQ:aA:=bj 22 [(1,.func (.func 108) [] [.eptr (cB v),.bptr 0 0]),(5,sl aq out),(8,sl aq t8),(9,.int .i64 t9),(10,.int .i64 t10)] [.cells [.func (.func 105) [] [.bptr 1 0,.eptr ((cL ac) v2),.bptr 2 0]] [],.cells [.func (.func 55) [] [.eptr (cS v3),.eptr (cS v4),.eptr (cS v5)],.func (.func 54) [] [.eptr (cS v6),.eptr (cS v7)]] [],.cells [sl ac m] [(0,137)]] [((5,0),85)]
def bT(o:waD×(List aa)):aA:=bj 22 [(5,sl aq o.1)] [.cells [.func (.func 105) [] [.bptr 1 0,.eptr ((cL ac) v2),.bptr 2 0]] [],.cells [.func (.func 55) [] [.eptr (cS v3),.eptr (cS v4),.eptr (cS v5)],.func (.func 54) [] [.eptr (cS v6),.eptr (cS v7)]] [],.cells [sl ac o.2] [(0,137)]] [((5,0),85)]
def cT:Option ((waD×Int×(List aa))⊕((waD×(List aa)))):=
 if(decide (t10<t9))=true then
  (gY t8 t10).bind fun x2=>
  (ed x2 v v2 v3 v4 v5 v6 v7 m).bind fun r3=>
  (app out ([r3.1]:List av)).bind fun l4=>
  some (.inl (l4,cp (t10+1),r3.2))
 else
  some (.inr (out,m))
def dh:Option ((waD×(List aa))):=loop (fun(zz:waD×Int×(List aa))=>cT v t8 t9 v2 v3 v4 v5 v6 v7 zz.1 zz.2.1 zz.2.2) (out,t10,m)
theorem fD{y:(waD×Int×(List aa))⊕((waD×(List aa)))}(h:cT v t8 t9 v2 v3 v4 v5 v6 v7 out t10 m=some y):aR Pg GE 3 (cA Pp 119) (LQ (fun(zz:waD×Int×(List aa))=>aQ v t8 t9 v2 v3 v4 v5 v6 v7 zz.1 zz.2.1 zz.2.2) (fun _=>.exit 0) (bT v2 v3 v4 v5 v6 v7) y) (aQ v t8 t9 v2 v3 v4 v5 v6 v7 out t10 m):=by
 rcases aP h with⟨c1,h⟩|⟨c1,h⟩
 ·obtain⟨x2,bx2,h⟩:=aJ h
  obtain⟨r3,br3,h⟩:=aJ h
  obtain⟨l4,bl4,h⟩:=aJ h
  obtain rfl:=lf h
  have z:=sg 0 c1<|sv (lC.ia (k:=.i64) bx2)<|sv (AQ x2)<|sx Qd<|sx (mQ x2)<|sv (H9 x2 [])<|si (.cg ⟨[0,1,2],[.agg (aq x2),.eptr (cB v),.bptr 0 0],[],[.cells [.func (.func 105) [] [.bptr 1 0,.eptr ((cL ac) v2),.bptr 2 0]] [],.cells [.func (.func 55) [] [.eptr (cS v3),.eptr (cS v4),.eptr (cS v5)],.func (.func 54) [] [.eptr (cS v6),.eptr (cS v7)]] [],.cells [sl ac m] [(0,137)]],[.cells [.func (.func 105) [] [.bptr 1 0,.eptr ((cL ac) v2),.bptr 2 0]] [],.cells [.func (.func 55) [] [.eptr (cS v3),.eptr (cS v4),.eptr (cS v5)],.func (.func 54) [] [.eptr (cS v6),.eptr (cS v7)]] [],.cells [sl ac m] [(0,137)]],[.cells [.func (.func 105) [] [.bptr 1 0,.eptr ((cL ac) v2),.bptr 2 0]] [],.cells [.func (.func 55) [] [.eptr (cS v3),.eptr (cS v4),.eptr (cS v5)],.func (.func 54) [] [.eptr (cS v6),.eptr (cS v7)]] [],.cells [sl ac r3.2] [(0,137)]],[.cells [.func (.func 105) [] [.bptr 1 0,.eptr ((cL ac) v2),.bptr 2 0]] [],.cells [.func (.func 55) [] [.eptr (cS v3),.eptr (cS v4),.eptr (cS v5)],.func (.func 54) [] [.eptr (cS v6),.eptr (cS v7)]] [],.cells [sl ac r3.2] [(0,137)]],.agg (aq r3.1),.agg (aq r3.1),[]⟩) (g8 br3)<|sf (aI (xR [0,1,2] (.agg (aq x2)) (bo x2)) (aI (xR [0,1,2] (.eptr (cB v)) (Vj v)) (aI (xB [0,1,2] 0 0 0 rfl) trivial)))<|sf (aI (aI (rB (.cells [.func (.func 105) [] [.bptr 1 0,.eptr ((cL ac) v2),.bptr 2 0]] [])) (aI (rW []) (aI (xF [0,1,2] (.func 105) [] [.bptr 1 0,.eptr ((cL ac) v2),.bptr 2 0] [] [.bptr 1 0,.eptr ((cL ac) v2),.bptr 2 0] trivial (aI (xB [0,1,2] 1 1 0 rfl) (aI (xR [0,1,2] (.eptr ((cL ac) v2)) (mr al v2)) (aI (xB [0,1,2] 2 2 0 rfl) trivial)))) trivial))) (aI (aI (rB (.cells [.func (.func 55) [] [.eptr (cS v3),.eptr (cS v4),.eptr (cS v5)],.func (.func 54) [] [.eptr (cS v6),.eptr (cS v7)]] [])) (aI (rW []) (aI (xR [0,1,2] (.func (.func 55) [] [.eptr (cS v3),.eptr (cS v4),.eptr (cS v5)]) (aI trivial (aI (cb v3) (aI (cb v4) (aI (cb v5) trivial))))) (aI (xR [0,1,2] (.func (.func 54) [] [.eptr (cS v6),.eptr (cS v7)]) (aI trivial (aI (cb v6) (aI (cb v7) trivial)))) trivial)))) (aI (aI (rB (.cells [sl ac m] [(0,137)])) (aI (rW [(0,137)]) (aI (xR [0,1,2] (sl ac m) (au al m)) trivial))) trivial)))<|sf (aI (aI (rW []) (aI (xF [0,1,2] (.func 105) [] [.bptr 1 0,.eptr ((cL ac) v2),.bptr 2 0] [] [.bptr 1 0,.eptr ((cL ac) v2),.bptr 2 0] trivial (aI (xB [0,1,2] 1 1 0 rfl) (aI (xR [0,1,2] (.eptr ((cL ac) v2)) (mr al v2)) (aI (xB [0,1,2] 2 2 0 rfl) trivial)))) trivial)) (aI (aI (rW []) (aI (xR [0,1,2] (.func (.func 55) [] [.eptr (cS v3),.eptr (cS v4),.eptr (cS v5)]) (aI trivial (aI (cb v3) (aI (cb v4) (aI (cb v5) trivial))))) (aI (xR [0,1,2] (.func (.func 54) [] [.eptr (cS v6),.eptr (cS v7)]) (aI trivial (aI (cb v6) (aI (cb v7) trivial)))) trivial))) (aI (aI (rW [(0,137)]) (aI (xR [0,1,2] (sl ac r3.2) (au al r3.2)) trivial)) trivial)))<|sf (xR [0,1,2] (.agg (aq r3.1)) (bo r3.1))<|sv (lC.mk' (v:=Az) yc ([r3.1]:List av) 1 (by kernel_rfl))<|sv (lC.ap bl4)<|tN 3 .normal (aQ v t8 t9 v2 v3 v4 v5 v6 v7 l4 (cp (t10+1)) r3.2) rfl (d5 (aI (aI trivial (aI (be (Vj v)) (aI (aZ rfl) trivial))) (aI (up (au bo l4)) (aI (up (au bo t8)) (aI trivial (aI trivial trivial)))))) (aI (aI (aI trivial (aI (aZ rfl) (aI (be (mr al v2)) (aI (aZ rfl) trivial)))) trivial) (aI (aI (aI trivial (aI (be (cb v3)) (aI (be (cb v4)) (aI (be (cb v5)) trivial)))) (aI (aI trivial (aI (be (cb v6)) (aI (be (cb v7)) trivial))) trivial)) (aI (aI (up (au al r3.2)) trivial) trivial)))
  exact ez (A:=Pe) mixed z<|by kernel_rfl
 ·obtain rfl:=lf h
  have z:=sg 0 c1<|eF (.exit 0) (bT v2 v3 v4 v5 v6 v7 (out,m))
  exact kc Pe (by intro hx;cases hx) z<|by kernel_rfl
theorem fF{x:(waD×(List aa))}(h:dh v t8 t9 v2 v3 v4 v5 v6 v7 out t10 m=some x):aR Pg GE 3 (.loop (cA Pp 119)) (EX (.exit 0) (bT v2 v3 v4 v5 v6 v7 x)) (aQ v t8 t9 v2 v3 v4 v5 v6 v7 out t10 m):=
 aR.loop (S:=fun(zz:waD×Int×(List aa))=>aQ v t8 t9 v2 v3 v4 v5 v6 v7 zz.1 zz.2.1 zz.2.2) (ex:=(fun _=>.exit 0)) (s:=(out,t10,m)) h fun zz y hy=>fD v t8 t9 v2 v3 v4 v5 v6 v7 zz.1 zz.2.1 zz.2.2 hy
end
def dI(a:waD)(c:Bool)(c2:(List aa))(c3:ag)(c4:ag)(c5:ag)(c6:ag)(c7:ag)(k2:(List aa)):Option (waD×(List aa)):=
 (dh c a (a.length:Int) c2 c3 c4 c5 c6 c7 ([]:List av) 0 k2).bind fun o5=>
 some (o5.1,o5.2)
theorem f8{a:waD}{c:Bool}{c2:(List aa)}{c3:ag}{c4:ag}{c5:ag}{c6:ag}{c7:ag}{k2:(List aa)}{r:waD×(List aa)}(h:dI a c c2 c3 c4 c5 c6 c7 k2=some r):C Pg GE 107 [sl aq a,.func (.func 108) [] [.eptr (cB c),.bptr 0 0]] [] [.cells [.func (.func 105) [] [.bptr 1 0,.eptr ((cL ac) c2),.bptr 2 0]] [],.cells [.func (.func 55) [] [.eptr (cS c3),.eptr (cS c4),.eptr (cS c5)],.func (.func 54) [] [.eptr (cS c6),.eptr (cS c7)]] [],.cells [sl ac k2] [(0,137)]] (sl aq r.1) [(0,85)] [.cells [.func (.func 105) [] [.bptr 1 0,.eptr ((cL ac) c2),.bptr 2 0]] [],.cells [.func (.func 55) [] [.eptr (cS c3),.eptr (cS c4),.eptr (cS c5)],.func (.func 54) [] [.eptr (cS c6),.eptr (cS c7)]] [],.cells [sl ac r.2] [(0,137)]]:=by
 obtain⟨o5,bo5,h⟩:=aJ h
 obtain rfl:=lf h
 have z:=cq (lC.ln a)<|dS (fF c a (a.length:Int) c2 c3 c4 c5 c6 c7 ([]:List av) 0 k2 bo5)<|en (aI (rP (sl aq o5.1))<|aI (up (n:=3) (au bo o5.1))<|aI (rL [.cells [.func (.func 105) [] [.bptr 1 0,.eptr ((cL ac) c2),.bptr 2 0]] [],.cells [.func (.func 55) [] [.eptr (cS c3),.eptr (cS c4),.eptr (cS c5)],.func (.func 54) [] [.eptr (cS c6),.eptr (cS c7)]] [],.cells [sl ac o5.2] [(0,137)]])<|(aI (aI (aI trivial (aI (aZ (i:=1) (n:=3) rfl) (aI (be (n:=3) (mr al c2)) (aI (aZ (i:=2) (n:=3) rfl) trivial)))) trivial) (aI (aI (aI trivial (aI (be (n:=3) (cb c3)) (aI (be (n:=3) (cb c4)) (aI (be (n:=3) (cb c5)) trivial)))) (aI (aI trivial (aI (be (n:=3) (cb c6)) (aI (be (n:=3) (cb c7)) trivial))) trivial)) (aI (aI (up (n:=3) (au al o5.2)) trivial) trivial))))
 exact C.evGp (A:=Pe) mixed (m:=3) (c:=Pp) rfl call107 func107 rfl z<|by kernel_rfl
section
variable(t1:(List aa))(v:aH)(t13:waA)(t14:Int)(v4:ag)(v5:ag)(v6:ag)(v7:ag)(v8:ag)(m:waE)(m2:waD)(m3:waC)(m4:waB)(v2:(List aa))(v3:waA)(t15:Int)
def bV:aA:=bj 44 [(1,.eptr ((cL ac) t1)),(2,.bptr 0 0),(3,.eptr (az v)),(4,.bptr 2 0),(5,sl ac v2),(6,sl cS v3),(13,sl cS t13),(14,.int .i64 t14),(15,.int .i64 t15)] [.cells [.func (.func 55) [] [.eptr (cS v4),.eptr (cS v5),.eptr (cS v6)],.func (.func 54) [] [.eptr (cS v7),.eptr (cS v8)]] [],.dead,.cells [.str ([]:ag),sl cS ([]:List ag),.int .i64 0,.str ([]:ag),.int .i64 0,sl ae m,sl aq m2,sl az m3,sl ai m4] [(1,9),(5,28),(6,85),(7,89),(8,60)]] [((6,0),9),((5,0),137)]
def dU(o:(List aa)×waA):aA:=bj 44 [(2,.bptr 0 0),(3,.eptr (az v)),(4,.bptr 2 0),(5,sl ac o.1),(6,sl cS o.2)] [.cells [.func (.func 55) [] [.eptr (cS v4),.eptr (cS v5),.eptr (cS v6)],.func (.func 54) [] [.eptr (cS v7),.eptr (cS v8)]] [],.dead,.cells [.str ([]:ag),sl cS ([]:List ag),.int .i64 0,.str ([]:ag),.int .i64 0,sl ae m,sl aq m2,sl az m3,sl ai m4] [(1,9),(5,28),(6,85),(7,89),(8,60)]] [((6,0),9),((5,0),137)]
def fU:Option (((List aa)×waA×Int)⊕(((List aa)×waA))):=
 if(decide (t15<t14))=true then
  (gY t13 t15).bind fun x3=>
  (uR x3 t1 v4 v5 v6).bind fun r4=>
  (app v3 ([r4]:List ag)).bind fun l5=>
  (app v2 ([(⟨x3,r4⟩:aa)]:List aa)).bind fun l6=>
  some (.inl (l6,l5,cp (t15+1)))
 else
  some (.inr (v2,v3))
def gm:Option (((List aa)×waA)):=loop (fun(zz:(List aa)×waA×Int)=>fU t1 t13 t14 v4 v5 v6 zz.1 zz.2.1 zz.2.2) (v2,v3,t15)
theorem kF{y:((List aa)×waA×Int)⊕(((List aa)×waA))}(h:fU t1 t13 t14 v4 v5 v6 v2 v3 t15=some y):aR Pg GE 1 (cA Pr 247) (LQ (fun(zz:(List aa)×waA×Int)=>bV t1 v t13 t14 v4 v5 v6 v7 v8 m m2 m3 m4 zz.1 zz.2.1 zz.2.2) (fun _=>.exit 0) (dU v v4 v5 v6 v7 v8 m m2 m3 m4) y) (bV t1 v t13 t14 v4 v5 v6 v7 v8 m m2 m3 m4 v2 v3 t15):=by
 rcases aP h with⟨c2,h⟩|⟨c2,h⟩
 ·obtain⟨x3,bx3,h⟩:=aJ h
  obtain⟨r4,br4,h⟩:=aJ h
  obtain⟨l5,bl5,h⟩:=aJ h
  obtain⟨l6,bl6,h⟩:=aJ h
  obtain rfl:=lf h
  exact AU Pj (sg 0 c2<|sv (dK.ia (k:=.i64) bx3)<|sv (cZ Ge (.str x3) [])<|ss<|sv (cZ GU (sl ac t1) [])<|cW (wc br4)<|sv (dK.mk' (v:=PVal.str) Lz ([r4]:List ag) 1 (by kernel_rfl))<|sv (dK.ap bl5)<|sv (kV x3 r4)<|sv (IK.mk' (v:=oo) oF ([(⟨x3,r4⟩:aa)]:List aa) 1 (by kernel_rfl))<|sv (IK.ap bl6)<|eF .normal (bV t1 v t13 t14 v4 v5 v6 v7 v8 m m2 m3 m4 l6 l5 (cp (t15+1))))<|by kernel_rfl
 ·obtain rfl:=lf h
  have z:=sg 0 c2<|eF (.exit 0) (dU v v4 v5 v6 v7 v8 m m2 m3 m4 (v2,v3))
  exact kc Pj (by intro hx;cases hx) z<|by kernel_rfl
theorem kQ{x:((List aa)×waA)}(h:gm t1 t13 t14 v4 v5 v6 v2 v3 t15=some x):aR Pg GE 1 (.loop (cA Pr 247)) (EX (.exit 0) (dU v v4 v5 v6 v7 v8 m m2 m3 m4 x)) (bV t1 v t13 t14 v4 v5 v6 v7 v8 m m2 m3 m4 v2 v3 t15):=
 aR.loop (S:=fun(zz:(List aa)×waA×Int)=>bV t1 v t13 t14 v4 v5 v6 v7 v8 m m2 m3 m4 zz.1 zz.2.1 zz.2.2) (ex:=(fun _=>.exit 0)) (s:=(v2,v3,t15)) h fun zz y hy=>kF t1 v t13 t14 v4 v5 v6 v7 v8 m m2 m3 m4 zz.1 zz.2.1 zz.2.2 hy
end
def ij(R45:aS)(a:aH)(a2:(List aa))(c:ag)(c2:ag)(c3:ag)(c4:ag)(c5:ag):Option aH:=
 (qQ a2).bind fun r1=>
 (gm a2 a.Names (a.Names.length:Int) c c2 c3 r1 ([]:List ag) 0).bind fun o7=>
 (R45 c c2 c3 c4 c5 a.Body o7.1).bind fun r8=>
 some (⟨a.Con,o7.2,r8⟩:aH)
theorem l9(R45:aS)(hR45:bp R45){a:aH}{a2:(List aa)}{c:ag}{c2:ag}{c3:ag}{c4:ag}{c5:ag}{r:aH}(h:ij R45 a a2 c c2 c3 c4 c5=some r):C Pg GE 110 [.agg (az a),.eptr ((cL ac) a2),.bptr 0 0] [] [.cells [.func (.func 55) [] [.eptr (cS c),.eptr (cS c2),.eptr (cS c3)],.func (.func 54) [] [.eptr (cS c4),.eptr (cS c5)]] []] (.agg (az r)) [] [.cells [.func (.func 55) [] [.eptr (cS c),.eptr (cS c2),.eptr (cS c3)],.func (.func 54) [] [.eptr (cS c4),.eptr (cS c5)]] []]:=by
 obtain⟨r1,br1,h⟩:=aJ h
 obtain⟨o7,bo7,h⟩:=aJ h
 obtain⟨r8,br8,h⟩:=aJ h
 obtain rfl:=lf h
 have z:=se (LA a)<|sx Fh<|sv (cZ GU (sl ac a2) [])<|cW (vL br1)<|sv (pG a)<|sv (pL a)<|cq (dK.ln a.Names)<|dS (kQ a2 a a.Names (a.Names.length:Int) c c2 c3 c4 c5 ([]:List af) ([]:List av) ([]:List aH) ([]:List aj) r1 ([]:List ag) 0 bo7)<|I1 [0,1,0,0,0,16,0,120,255,511]<|sv (xU a)<|sv (zT a)<|sv (show bK Pg 95 [.func (.func 55) [] [.eptr (cS c),.eptr (cS c2),.eptr (cS c3)],.func (.func 54) [] [.eptr (cS c4),.eptr (cS c5)]]=some (.agg [.func (.func 55) [] [.eptr (cS c),.eptr (cS c2),.eptr (cS c3)],.func (.func 54) [] [.eptr (cS c4),.eptr (cS c5)]]) by kernel_rfl)<|sv (tv a)<|sv (tA a)<|cW (hR45 _ _ _ _ _ _ _ _ br8)<|sv (BI a.Con o7.2 r8)<|sx (i8 (⟨a.Con,o7.2,r8⟩:aH))<|en (aI (M5 (⟨a.Con,o7.2,r8⟩:aH))<|aI (WG (n:=1) (bW (⟨a.Con,o7.2,r8⟩:aH)))<|aI (rL [.cells [.func (.func 55) [] [.eptr (cS c),.eptr (cS c2),.eptr (cS c3)],.func (.func 54) [] [.eptr (cS c4),.eptr (cS c5)]] []])<|(aI (aI (aI trivial (aI (be (n:=1) (cb c)) (aI (be (n:=1) (cb c2)) (aI (be (n:=1) (cb c3)) trivial)))) (aI (aI trivial (aI (be (n:=1) (cb c4)) (aI (be (n:=1) (cb c5)) trivial))) trivial)) trivial))
 exact C.evGp (A:=Pj) mixed (m:=1) (c:=Pr) rfl call110 func110 rfl z<|by kernel_rfl
section
variable(R45:aS)(v:(List aa))(t8:waC)(t9:Int)(v2:ag)(v3:ag)(v4:ag)(v5:ag)(v6:ag)(out:waC)(t10:Int)
def bz:aA:=bj 22 [(1,.func (.func 110) [] [.eptr ((cL ac) v),.bptr 0 0]),(5,sl az out),(8,sl az t8),(9,.int .i64 t9),(10,.int .i64 t10)] [.cells [.func (.func 55) [] [.eptr (cS v2),.eptr (cS v3),.eptr (cS v4)],.func (.func 54) [] [.eptr (cS v5),.eptr (cS v6)]] []] [((5,0),89)]
def cU(o:waC):aA:=bj 22 [(5,sl az o)] [.cells [.func (.func 55) [] [.eptr (cS v2),.eptr (cS v3),.eptr (cS v4)],.func (.func 54) [] [.eptr (cS v5),.eptr (cS v6)]] []] [((5,0),89)]
def eJ:Option ((waC×Int)⊕(waC)):=
 if(decide (t10<t9))=true then
  (gY t8 t10).bind fun x2=>
  (ij R45 x2 v v2 v3 v4 v5 v6).bind fun r3=>
  (app out ([r3]:List aH)).bind fun l4=>
  some (.inl (l4,cp (t10+1)))
 else
  some (.inr out)
def fj:Option waC:=loop (fun(zz:waC×Int)=>eJ R45 v t8 t9 v2 v3 v4 v5 v6 zz.1 zz.2) (out,t10)
theorem jm(hR45:bp R45){y:(waC×Int)⊕(waC)}(h:eJ R45 v t8 t9 v2 v3 v4 v5 v6 out t10=some y):aR Pg GE 1 (cA Pq 119) (LQ (fun(zz:waC×Int)=>bz v t8 t9 v2 v3 v4 v5 v6 zz.1 zz.2) (fun _=>.exit 0) (cU v2 v3 v4 v5 v6) y) (bz v t8 t9 v2 v3 v4 v5 v6 out t10):=by
 rcases aP h with⟨c1,h⟩|⟨c1,h⟩
 ·obtain⟨x2,bx2,h⟩:=aJ h
  obtain⟨r3,br3,h⟩:=aJ h
  obtain⟨l4,bl4,h⟩:=aJ h
  obtain rfl:=lf h
  have z:=sg 0 c1<|sv (eQ.ia (k:=.i64) bx2)<|sv (mi x2)<|sx Fh<|sx (i8 x2)<|sv (MD x2 [])<|si (.cg ⟨[0],[.agg (az x2),.eptr ((cL ac) v),.bptr 0 0],[],[.cells [.func (.func 55) [] [.eptr (cS v2),.eptr (cS v3),.eptr (cS v4)],.func (.func 54) [] [.eptr (cS v5),.eptr (cS v6)]] []],[.cells [.func (.func 55) [] [.eptr (cS v2),.eptr (cS v3),.eptr (cS v4)],.func (.func 54) [] [.eptr (cS v5),.eptr (cS v6)]] []],[.cells [.func (.func 55) [] [.eptr (cS v2),.eptr (cS v3),.eptr (cS v4)],.func (.func 54) [] [.eptr (cS v5),.eptr (cS v6)]] []],[.cells [.func (.func 55) [] [.eptr (cS v2),.eptr (cS v3),.eptr (cS v4)],.func (.func 54) [] [.eptr (cS v5),.eptr (cS v6)]] []],.agg (az r3),.agg (az r3),[]⟩) (l9 R45 hR45 br3)<|sf (aI (xR [0] (.agg (az x2)) (bW x2)) (aI (xR [0] (.eptr ((cL ac) v)) (mr al v)) (aI (xB [0] 0 0 0 rfl) trivial)))<|sf (aI (aI (rB (.cells [.func (.func 55) [] [.eptr (cS v2),.eptr (cS v3),.eptr (cS v4)],.func (.func 54) [] [.eptr (cS v5),.eptr (cS v6)]] [])) (aI (rW []) (aI (xR [0] (.func (.func 55) [] [.eptr (cS v2),.eptr (cS v3),.eptr (cS v4)]) (aI trivial (aI (cb v2) (aI (cb v3) (aI (cb v4) trivial))))) (aI (xR [0] (.func (.func 54) [] [.eptr (cS v5),.eptr (cS v6)]) (aI trivial (aI (cb v5) (aI (cb v6) trivial)))) trivial)))) trivial)<|sf (aI (aI (rW []) (aI (xR [0] (.func (.func 55) [] [.eptr (cS v2),.eptr (cS v3),.eptr (cS v4)]) (aI trivial (aI (cb v2) (aI (cb v3) (aI (cb v4) trivial))))) (aI (xR [0] (.func (.func 54) [] [.eptr (cS v5),.eptr (cS v6)]) (aI trivial (aI (cb v5) (aI (cb v6) trivial)))) trivial))) trivial)<|sf (xR [0] (.agg (az r3)) (bW r3))<|sv (eQ.mk' (v:=Oi) MR ([r3]:List aH) 1 (by kernel_rfl))<|sv (eQ.ap bl4)<|tN 1 .normal (bz v t8 t9 v2 v3 v4 v5 v6 l4 (cp (t10+1))) rfl (d5 (aI (aI trivial (aI (be (mr al v)) (aI (aZ rfl) trivial))) (aI (up (au bW l4)) (aI (up (au bW t8)) (aI trivial (aI trivial trivial)))))) (aI (aI (aI trivial (aI (be (cb v2)) (aI (be (cb v3)) (aI (be (cb v4)) trivial)))) (aI (aI trivial (aI (be (cb v5)) (aI (be (cb v6)) trivial))) trivial)) trivial)
  exact ez (A:=Ph) mixed z<|by kernel_rfl
 ·obtain rfl:=lf h
  have z:=sg 0 c1<|eF (.exit 0) (cU v2 v3 v4 v5 v6 out)
  exact kc Ph (by intro hx;cases hx) z<|by kernel_rfl
theorem jt(hR45:bp R45){x:waC}(h:fj R45 v t8 t9 v2 v3 v4 v5 v6 out t10=some x):aR Pg GE 1 (.loop (cA Pq 119)) (EX (.exit 0) (cU v2 v3 v4 v5 v6 x)) (bz v t8 t9 v2 v3 v4 v5 v6 out t10):=
 aR.loop (S:=fun(zz:waC×Int)=>bz v t8 t9 v2 v3 v4 v5 v6 zz.1 zz.2) (ex:=(fun _=>.exit 0)) (s:=(out,t10)) h fun zz y hy=>jm R45 v t8 t9 v2 v3 v4 v5 v6 zz.1 zz.2 hR45 hy
end
def fT(R45:aS)(a:waC)(c:(List aa))(c2:ag)(c3:ag)(c4:ag)(c5:ag)(c6:ag):Option waC:=
 (fj R45 c a (a.length:Int) c2 c3 c4 c5 c6 ([]:List aH) 0).bind fun o5=>
 some o5
theorem ke(R45:aS)(hR45:bp R45){a:waC}{c:(List aa)}{c2:ag}{c3:ag}{c4:ag}{c5:ag}{c6:ag}{r:waC}(h:fT R45 a c c2 c3 c4 c5 c6=some r):C Pg GE 109 [sl az a,.func (.func 110) [] [.eptr ((cL ac) c),.bptr 0 0]] [] [.cells [.func (.func 55) [] [.eptr (cS c2),.eptr (cS c3),.eptr (cS c4)],.func (.func 54) [] [.eptr (cS c5),.eptr (cS c6)]] []] (sl az r) [(0,89)] [.cells [.func (.func 55) [] [.eptr (cS c2),.eptr (cS c3),.eptr (cS c4)],.func (.func 54) [] [.eptr (cS c5),.eptr (cS c6)]] []]:=by
 obtain⟨o5,bo5,h⟩:=aJ h
 obtain rfl:=lf h
 have z:=cq (eQ.ln a)<|dS (jt R45 c a (a.length:Int) c2 c3 c4 c5 c6 ([]:List aH) 0 hR45 bo5)<|en (aI (rP (sl az o5))<|aI (up (n:=1) (au bW o5))<|aI (rL [.cells [.func (.func 55) [] [.eptr (cS c2),.eptr (cS c3),.eptr (cS c4)],.func (.func 54) [] [.eptr (cS c5),.eptr (cS c6)]] []])<|(aI (aI (aI trivial (aI (be (n:=1) (cb c2)) (aI (be (n:=1) (cb c3)) (aI (be (n:=1) (cb c4)) trivial)))) (aI (aI trivial (aI (be (n:=1) (cb c5)) (aI (be (n:=1) (cb c6)) trivial))) trivial)) trivial))
 exact C.evGp (A:=Ph) mixed (m:=1) (c:=Pq) rfl call109 func109 rfl z<|by kernel_rfl
section
variable(scope:(List aa))(v:ag)(v2:ag)(v3:ag)(v4:ag)(v5:ag)(m:Int)(m2:ag)(m3:Int)(m4:waE)(m5:waD)(m6:waC)(m7:waB)(m8:waE)(m9:waD)(m10:waC)(m11:waB)(m12:(List aa))
def mb:aA:=bj 96 [(3,.bptr 0 0),(4,.bptr 1 0),(5,.eptr ((cL ac) scope)),(6,.bptr 3 0),(7,.bptr 4 0),(8,.bptr 5 0)] [.cells [.func (.func 55) [] [.eptr (cS v),.eptr (cS v2),.eptr (cS v3)],.func (.func 54) [] [.eptr (cS v4),.eptr (cS v5)]] [],.cells [.int .i64 m,.str m2,.int .i64 m3,sl ae m4,sl aq m5,sl az m6,sl ai m7] [(6,60)],.dead,.cells [.int .i64 0,.str ([]:ag),.int .i64 0,sl ae m8,sl aq m9,sl az m10,sl ai m11] [(3,28),(4,85),(5,89),(6,60)],.cells [sl ac m12] [(0,137)],.cells [.func (.func 105) [] [.bptr 0 0,.eptr ((cL ac) scope),.bptr 4 0]] []] []
def b9(o:ag×(List aa)):aA:=bj 96 [(3,.bptr 0 0),(4,.bptr 1 0),(5,.eptr ((cL ac) scope)),(6,.bptr 3 0),(7,.bptr 4 0),(8,.bptr 5 0)] [.cells [.func (.func 55) [] [.eptr (cS v),.eptr (cS v2),.eptr (cS v3)],.func (.func 54) [] [.eptr (cS v4),.eptr (cS v5)]] [],.cells [.int .i64 m,.str o.1,.int .i64 m3,sl ae m4,sl aq m5,sl az m6,sl ai m7] [(6,60)],.dead,.cells [.int .i64 0,.str ([]:ag),.int .i64 0,sl ae m8,sl aq m9,sl az m10,sl ai m11] [(3,28),(4,85),(5,89),(6,60)],.cells [sl ac o.2] [(0,137)],.cells [.func (.func 105) [] [.bptr 0 0,.eptr ((cL ac) scope),.bptr 4 0]] []] []
def gV:Option ((ag×(List aa))):=
 (f6 (⟨m,m2,m3,m4,m5,m6,m7⟩:af)).bind fun r3=>
 if r3=true then
  (pq scope m2).bind fun r6=>
  if r6.2=true then
   some (r6.1,m12)
  else
   (Aj m2 v4 v5).bind fun r9=>
   some (r9,m12)
 else
  if(m==7)=true then
   (eB m2 scope v v2 v3 v4 v5 m12).bind fun r12=>
   some (r12.1,r12.2)
  else
   some (m2,m12)
theorem lJ{x:(ag×(List aa))}(h:gV scope v v2 v3 v4 v5 m m2 m3 m4 m5 m6 m7 m12=some x):aR Pg GE 0 (cA SL 62) (EX .normal (b9 scope v v2 v3 v4 v5 m m3 m4 m5 m6 m7 m8 m9 m10 m11 x)) (mb scope v v2 v3 v4 v5 m m2 m3 m4 m5 m6 m7 m8 m9 m10 m11 m12):=by
 obtain⟨r3,br3,h⟩:=aJ h
 have p5:=fun{sc F} (r:PS sc F)=>sv (bu (⟨m,m2,m3,m4,m5,m6,m7⟩:af) [])<|cW (lh br3)<|r
 rcases aP h with⟨c4,h⟩|⟨c4,h⟩
 ·obtain⟨r6,br6,h⟩:=aJ h
  have p8:=fun{sc F} (r:PS sc F)=>p5<|sg 0 c4<|sv (cZ GU (sl ac scope) [])<|ss<|cW (Am br6)<|r
  rcases aP h with⟨c7,h⟩|⟨c7,h⟩
  ·obtain rfl:=lf h
   exact bJ JH (p8<|sg 0 c7<|ss<|eF .normal (b9 scope v v2 v3 v4 v5 m m3 m4 m5 m6 m7 m8 m9 m10 m11 (r6.1,m12)))<|by kernel_rfl
  ·obtain⟨r9,br9,h⟩:=aJ h
   obtain rfl:=lf h
   exact bJ JH (p8<|sg 0 c7<|ss<|ss<|cW (Ee br9)<|ss<|eF .normal (b9 scope v v2 v3 v4 v5 m m3 m4 m5 m6 m7 m8 m9 m10 m11 (r9,m12)))<|by kernel_rfl
 ·have p11:=fun{sc F} (r:PS sc F)=>p5<|sg 0 c4<|ss<|r
  rcases aP h with⟨c10,h⟩|⟨c10,h⟩
  ·obtain⟨r12,br12,h⟩:=aJ h
   obtain rfl:=lf h
   exact bJ JH (p11<|sg 0 c10<|ss<|ss<|si (.cg ⟨[0,4],[.str m2,.bptr 0 0,.eptr ((cL ac) scope),.bptr 1 0],[],[.cells [.func (.func 55) [] [.eptr (cS v),.eptr (cS v2),.eptr (cS v3)],.func (.func 54) [] [.eptr (cS v4),.eptr (cS v5)]] [],.cells [sl ac m12] [(0,137)]],[.cells [.func (.func 55) [] [.eptr (cS v),.eptr (cS v2),.eptr (cS v3)],.func (.func 54) [] [.eptr (cS v4),.eptr (cS v5)]] [],.cells [sl ac m12] [(0,137)]],[.cells [.func (.func 55) [] [.eptr (cS v),.eptr (cS v2),.eptr (cS v3)],.func (.func 54) [] [.eptr (cS v4),.eptr (cS v5)]] [],.cells [sl ac r12.2] [(0,137)]],[.cells [.func (.func 55) [] [.eptr (cS v),.eptr (cS v2),.eptr (cS v3)],.func (.func 54) [] [.eptr (cS v4),.eptr (cS v5)]] [],.cells [sl ac r12.2] [(0,137)]],.str r12.1,.str r12.1,[]⟩) (gk br12)<|sf (aI (xR [0,4] (.str m2) trivial) (aI (xB [0,4] 0 0 0 rfl) (aI (xR [0,4] (.eptr ((cL ac) scope)) (mr al scope)) (aI (xB [0,4] 1 4 0 rfl) trivial))))<|sf (aI (aI (rB (.cells [.func (.func 55) [] [.eptr (cS v),.eptr (cS v2),.eptr (cS v3)],.func (.func 54) [] [.eptr (cS v4),.eptr (cS v5)]] [])) (aI (rW []) (aI (xR [0,4] (.func (.func 55) [] [.eptr (cS v),.eptr (cS v2),.eptr (cS v3)]) (aI trivial (aI (cb v) (aI (cb v2) (aI (cb v3) trivial))))) (aI (xR [0,4] (.func (.func 54) [] [.eptr (cS v4),.eptr (cS v5)]) (aI trivial (aI (cb v4) (aI (cb v5) trivial)))) trivial)))) (aI (aI (rB (.cells [sl ac m12] [(0,137)])) (aI (rW [(0,137)]) (aI (xR [0,4] (sl ac m12) (au al m12)) trivial))) trivial))<|sf (aI (aI (rW []) (aI (xR [0,4] (.func (.func 55) [] [.eptr (cS v),.eptr (cS v2),.eptr (cS v3)]) (aI trivial (aI (cb v) (aI (cb v2) (aI (cb v3) trivial))))) (aI (xR [0,4] (.func (.func 54) [] [.eptr (cS v4),.eptr (cS v5)]) (aI trivial (aI (cb v4) (aI (cb v5) trivial)))) trivial))) (aI (aI (rW [(0,137)]) (aI (xR [0,4] (sl ac r12.2) (au al r12.2)) trivial)) trivial))<|sf (xR [0,4] (.str r12.1) trivial)<|ss<|eF .normal (b9 scope v v2 v3 v4 v5 m m3 m4 m5 m6 m7 m8 m9 m10 m11 (r12.1,r12.2)))<|by kernel_rfl
  ·obtain rfl:=lf h
   exact bJ JH (p11<|sg 0 c10<|eF .normal (b9 scope v v2 v3 v4 v5 m m3 m4 m5 m6 m7 m8 m9 m10 m11 (m2,m12)))<|by kernel_rfl
end
section
variable(scope:(List aa))(kids:waE)(i:Int)(t59:waE)(t60:Int)(v:ag)(v2:ag)(v3:ag)(v4:ag)(v5:ag)(m:Int)(m2:ag)(m3:Int)(m4:waD)(m5:waC)(m6:waB)(m7:waE)(m8:waD)(m9:waC)(m10:waB)(m11:(List aa))(m12:Int)(m13:ag)(m14:Int)(m15:waE)(m16:waD)(m17:waC)(m18:waB)
def mc:aA:=bj 96 [(3,.bptr 0 0),(4,.bptr 1 0),(5,.eptr ((cL ac) scope)),(6,.bptr 3 0),(7,.bptr 4 0),(12,sl ae kids),(13,.int .i64 i),(14,.bptr 7 0),(59,sl ae t59),(60,.int .i64 t60),(61,.int .i64 i)] [.cells [.func (.func 55) [] [.eptr (cS v),.eptr (cS v2),.eptr (cS v3)],.func (.func 54) [] [.eptr (cS v4),.eptr (cS v5)]] [],.cells [.int .i64 m,.str m2,.int .i64 m3,sl ae t59,sl aq m4,sl az m5,sl ai m6] [(4,85),(6,60)],.dead,.cells [.int .i64 0,.str ([]:ag),.int .i64 0,sl ae m7,sl aq m8,sl az m9,sl ai m10] [(3,28),(4,85),(5,89),(6,60)],.cells [sl ac m11] [(0,137)],.cells [.func (.func 105) [] [.bptr 0 0,.eptr ((cL ac) scope),.bptr 4 0]] [],.dead,.cells [.int .i64 m12,.str m13,.int .i64 m14,sl ae m15,sl aq m16,sl az m17,sl ai m18] []] [((12,0),28)]
def d7(o:Bool):aA:=bj 96 [(3,.bptr 0 0),(4,.bptr 1 0),(5,.eptr ((cL ac) scope)),(6,.bptr 3 0),(7,.bptr 4 0),(12,sl ae kids),(14,.bptr 7 0),(59,sl ae t59),(60,.int .i64 t60),(61,.int .i64 i),(72,.bool o)] [.cells [.func (.func 55) [] [.eptr (cS v),.eptr (cS v2),.eptr (cS v3)],.func (.func 54) [] [.eptr (cS v4),.eptr (cS v5)]] [],.cells [.int .i64 m,.str m2,.int .i64 m3,sl ae t59,sl aq m4,sl az m5,sl ai m6] [(4,85),(6,60)],.dead,.cells [.int .i64 0,.str ([]:ag),.int .i64 0,sl ae m7,sl aq m8,sl az m9,sl ai m10] [(3,28),(4,85),(5,89),(6,60)],.cells [sl ac m11] [(0,137)],.cells [.func (.func 105) [] [.bptr 0 0,.eptr ((cL ac) scope),.bptr 4 0]] [],.dead,.cells [.int .i64 m12,.str m13,.int .i64 m14,sl ae m15,sl aq m16,sl az m17,sl ai m18] []] [((12,0),28)]
def gW:Option Bool:=
 if(m==7)=true then
  some (i==0)
 else
  some false
theorem lK{x:Bool}(h:gW i m=some x):aR Pg GE 0 (cA SL 523766) (EX .normal (d7 scope kids i t59 t60 v v2 v3 v4 v5 m m2 m3 m4 m5 m6 m7 m8 m9 m10 m11 m12 m13 m14 m15 m16 m17 m18 x)) (mc scope kids i t59 t60 v v2 v3 v4 v5 m m2 m3 m4 m5 m6 m7 m8 m9 m10 m11 m12 m13 m14 m15 m16 m17 m18):=by
 rcases aP h with⟨c17,h⟩|⟨c17,h⟩
 ·obtain rfl:=lf h
  exact bJ JH (ss<|sg 4 c17<|eF .normal (d7 scope kids i t59 t60 v v2 v3 v4 v5 m m2 m3 m4 m5 m6 m7 m8 m9 m10 m11 m12 m13 m14 m15 m16 m17 m18 (i==0)))<|by kernel_rfl
 ·obtain rfl:=lf h
  exact bJ JH (ss<|sg 4 c17<|eF .normal (d7 scope kids i t59 t60 v v2 v3 v4 v5 m m2 m3 m4 m5 m6 m7 m8 m9 m10 m11 m12 m13 m14 m15 m16 m17 m18 false))<|by kernel_rfl
end
section
variable(R45:aS)(scope:(List aa))(t59:waE)(t60:Int)(v:ag)(v2:ag)(v3:ag)(v4:ag)(v5:ag)(m:Int)(m2:ag)(m3:Int)(m4:waD)(m5:waC)(m6:waB)(m7:waE)(m8:waD)(m9:waC)(m10:waB)(m11:(List aa))(kids:waE)(t61:Int)
def bA:aA:=bj 96 [(3,.bptr 0 0),(4,.bptr 1 0),(5,.eptr ((cL ac) scope)),(6,.bptr 3 0),(7,.bptr 4 0),(12,sl ae kids),(59,sl ae t59),(60,.int .i64 t60),(61,.int .i64 t61)] [.cells [.func (.func 55) [] [.eptr (cS v),.eptr (cS v2),.eptr (cS v3)],.func (.func 54) [] [.eptr (cS v4),.eptr (cS v5)]] [],.cells [.int .i64 m,.str m2,.int .i64 m3,sl ae t59,sl aq m4,sl az m5,sl ai m6] [(4,85),(6,60)],.dead,.cells [.int .i64 0,.str ([]:ag),.int .i64 0,sl ae m7,sl aq m8,sl az m9,sl ai m10] [(3,28),(4,85),(5,89),(6,60)],.cells [sl ac m11] [(0,137)],.cells [.func (.func 105) [] [.bptr 0 0,.eptr ((cL ac) scope),.bptr 4 0]] [],.dead] [((12,0),28)]
def d8(o:waE):aA:=bj 96 [(3,.bptr 0 0),(4,.bptr 1 0),(5,.eptr ((cL ac) scope)),(6,.bptr 3 0),(12,sl ae o)] [.cells [.func (.func 55) [] [.eptr (cS v),.eptr (cS v2),.eptr (cS v3)],.func (.func 54) [] [.eptr (cS v4),.eptr (cS v5)]] [],.cells [.int .i64 m,.str m2,.int .i64 m3,sl ae t59,sl aq m4,sl az m5,sl ai m6] [(4,85),(6,60)],.dead,.cells [.int .i64 0,.str ([]:ag),.int .i64 0,sl ae m7,sl aq m8,sl az m9,sl ai m10] [(3,28),(4,85),(5,89),(6,60)],.cells [sl ac m11] [(0,137)],.cells [.func (.func 105) [] [.bptr 0 0,.eptr ((cL ac) scope),.bptr 4 0]] [],.dead] [((12,0),28)]
def gn:Option ((waE×Int)⊕(waE)):=
 if(decide (t61<t60))=true then
  (gY t59 t61).bind fun x16=>
  (gW t61 m).bind fun o18=>
  if o18=true then
   (R45 v v2 v3 v4 v5 x16 scope).bind fun r21=>
   (app kids ([r21]:List af)).bind fun l22=>
   some (.inl (l22,cp (t61+1)))
  else
   (R45 v v2 v3 v4 v5 x16 m11).bind fun r23=>
   (app kids ([r23]:List af)).bind fun l24=>
   some (.inl (l24,cp (t61+1)))
 else
  some (.inr kids)
def gX:Option waE:=loop (fun(zz:waE×Int)=>gn R45 scope t59 t60 v v2 v3 v4 v5 m m11 zz.1 zz.2) (kids,t61)
theorem lc(hR45:bp R45){y:(waE×Int)⊕(waE)}(h:gn R45 scope t59 t60 v v2 v3 v4 v5 m m11 kids t61=some y):aR Pg GE 0 (cA SL 8183) (LQ (fun(zz:waE×Int)=>bA scope t59 t60 v v2 v3 v4 v5 m m2 m3 m4 m5 m6 m7 m8 m9 m10 m11 zz.1 zz.2) (fun _=>.exit 1) (d8 scope t59 v v2 v3 v4 v5 m m2 m3 m4 m5 m6 m7 m8 m9 m10 m11) y) (bA scope t59 t60 v v2 v3 v4 v5 m m2 m3 m4 m5 m6 m7 m8 m9 m10 m11 kids t61):=by
 rcases aP h with⟨c15,h⟩|⟨c15,h⟩
 ·obtain⟨x16,bx16,h⟩:=aJ h
  obtain⟨o18,bo18,h⟩:=aJ h
  have p20:=fun{sc F} (r:PS sc F)=>sg 0 c15<|sv (g6.ia (k:=.i64) bx16)<|sv (bv x16)<|sx wG<|sx (kv x16)<|rN 0<|dS (lK scope kids t61 t59 t60 v v2 v3 v4 v5 m m2 m3 m4 m5 m6 m7 m8 m9 m10 m11 x16.Op x16.Name x16.N x16.Kids x16.Params x16.Alts x16.Types bo18)<|r
  rcases aP h with⟨c19,h⟩|⟨c19,h⟩
  ·obtain⟨r21,br21,h⟩:=aJ h
   obtain⟨l22,bl22,h⟩:=aJ h
   obtain rfl:=lf h
   have z:=p20<|sg 0 c19<|sv (show bK Pg 95 [.func (.func 55) [] [.eptr (cS v),.eptr (cS v2),.eptr (cS v3)],.func (.func 54) [] [.eptr (cS v4),.eptr (cS v5)]]=some (.agg [.func (.func 55) [] [.eptr (cS v),.eptr (cS v2),.eptr (cS v3)],.func (.func 54) [] [.eptr (cS v4),.eptr (cS v5)]]) by kernel_rfl)<|sv (bu x16 [])<|sv (cZ GU (sl ac scope) [])<|cW (hR45 _ _ _ _ _ _ _ _ br21)<|sv (g6.mk' (v:=rR) nk ([r21]:List af) 1 (by kernel_rfl))<|sv (g6.ap bl22)<|tN 0 .normal (bA scope t59 t60 v v2 v3 v4 v5 m m2 m3 m4 m5 m6 m7 m8 m9 m10 m11 l22 (cp (t61+1))) rfl (d5 (aI (aZ rfl) (aI (aZ rfl) (aI (be (mr al scope)) (aI (aZ rfl) (aI (aZ rfl) (aI (up (au ay l22)) (aI (up (au ay t59)) (aI trivial (aI trivial trivial)))))))))) (aI (aI (aI trivial (aI (be (cb v)) (aI (be (cb v2)) (aI (be (cb v3)) trivial)))) (aI (aI trivial (aI (be (cb v4)) (aI (be (cb v5)) trivial))) trivial)) (aI (aI trivial (aI trivial (aI trivial (aI (up (au ay t59)) (aI (up (au bo m4)) (aI (up (au bW m5)) (aI (up (au aN m6)) trivial))))))) (aI trivial (aI (aI trivial (aI trivial (aI trivial (aI (up (au ay m7)) (aI (up (au bo m8)) (aI (up (au bW m9)) (aI (up (au aN m10)) trivial))))))) (aI (aI (up (au al m11)) trivial) (aI (aI (aI trivial (aI (aZ rfl) (aI (be (mr al scope)) (aI (aZ rfl) trivial)))) trivial) (aI trivial trivial)))))))
   exact ez (A:=JH) mixed z<|by kernel_rfl
  ·obtain⟨r23,br23,h⟩:=aJ h
   obtain⟨l24,bl24,h⟩:=aJ h
   obtain rfl:=lf h
   have z:=p20<|sg 0 c19<|sv (show bK Pg 95 [.func (.func 55) [] [.eptr (cS v),.eptr (cS v2),.eptr (cS v3)],.func (.func 54) [] [.eptr (cS v4),.eptr (cS v5)]]=some (.agg [.func (.func 55) [] [.eptr (cS v),.eptr (cS v2),.eptr (cS v3)],.func (.func 54) [] [.eptr (cS v4),.eptr (cS v5)]]) by kernel_rfl)<|sv (bu x16 [])<|ss<|cW (hR45 _ _ _ _ _ _ _ _ br23)<|sv (g6.mk' (v:=rR) nk ([r23]:List af) 1 (by kernel_rfl))<|sv (g6.ap bl24)<|tN 0 .normal (bA scope t59 t60 v v2 v3 v4 v5 m m2 m3 m4 m5 m6 m7 m8 m9 m10 m11 l24 (cp (t61+1))) rfl (d5 (aI (aZ rfl) (aI (aZ rfl) (aI (be (mr al scope)) (aI (aZ rfl) (aI (aZ rfl) (aI (up (au ay l24)) (aI (up (au ay t59)) (aI trivial (aI trivial trivial)))))))))) (aI (aI (aI trivial (aI (be (cb v)) (aI (be (cb v2)) (aI (be (cb v3)) trivial)))) (aI (aI trivial (aI (be (cb v4)) (aI (be (cb v5)) trivial))) trivial)) (aI (aI trivial (aI trivial (aI trivial (aI (up (au ay t59)) (aI (up (au bo m4)) (aI (up (au bW m5)) (aI (up (au aN m6)) trivial))))))) (aI trivial (aI (aI trivial (aI trivial (aI trivial (aI (up (au ay m7)) (aI (up (au bo m8)) (aI (up (au bW m9)) (aI (up (au aN m10)) trivial))))))) (aI (aI (up (au al m11)) trivial) (aI (aI (aI trivial (aI (aZ rfl) (aI (be (mr al scope)) (aI (aZ rfl) trivial)))) trivial) (aI trivial trivial)))))))
   exact ez (A:=JH) mixed z<|by kernel_rfl
 ·obtain rfl:=lf h
  have z:=sg 0 c15<|eF (.exit 1) (d8 scope t59 v v2 v3 v4 v5 m m2 m3 m4 m5 m6 m7 m8 m9 m10 m11 kids)
  exact kc JH (by intro hx;cases hx) z<|by kernel_rfl
theorem lL(hR45:bp R45){x:waE}(h:gX R45 scope t59 t60 v v2 v3 v4 v5 m m11 kids t61=some x):aR Pg GE 0 (.loop (cA SL 8183)) (EX (.exit 1) (d8 scope t59 v v2 v3 v4 v5 m m2 m3 m4 m5 m6 m7 m8 m9 m10 m11 x)) (bA scope t59 t60 v v2 v3 v4 v5 m m2 m3 m4 m5 m6 m7 m8 m9 m10 m11 kids t61):=
 aR.loop (S:=fun(zz:waE×Int)=>bA scope t59 t60 v v2 v3 v4 v5 m m2 m3 m4 m5 m6 m7 m8 m9 m10 m11 zz.1 zz.2) (ex:=(fun _=>.exit 1)) (s:=(kids,t61)) h fun zz y hy=>lc R45 scope t59 t60 v v2 v3 v4 v5 m m2 m3 m4 m5 m6 m7 m8 m9 m10 m11 zz.1 zz.2 hR45 hy
end
def ik(R45:aS)(c:ag)(c2:ag)(c3:ag)(c4:ag)(c5:ag)(e:af)(scope:(List aa)):Option af:=
 (cw e.Types).bind fun r1=>
 (qQ scope).bind fun r2=>
 (gV scope c c2 c3 c4 c5 e.Op e.Name e.N e.Kids e.Params e.Alts r1 r2).bind fun o13=>
 (dI e.Params (e.Op==6) scope c c2 c3 c4 c5 o13.2).bind fun r14=>
 (gX R45 scope e.Kids (e.Kids.length:Int) c c2 c3 c4 c5 e.Op r14.2 ([]:List af) 0).bind fun o25=>
 (fT R45 e.Alts scope c c2 c3 c4 c5).bind fun r26=>
 some (⟨e.Op,o13.1,e.N,o25,r14.1,r26,r1⟩:af)
theorem my(R45:aS)(hR45:bp R45){c:ag}{c2:ag}{c3:ag}{c4:ag}{c5:ag}{e:af}{scope:(List aa)}{r:af}(h:ik R45 c c2 c3 c4 c5 e scope=some r):CC Pg GE 56 [.agg [.func (.func 55) [] [.eptr (cS c),.eptr (cS c2),.eptr (cS c3)],.func (.func 54) [] [.eptr (cS c4),.eptr (cS c5)]],.agg (ae e),sl ac scope] (.agg (ae r)) [(3,28),(4,85),(5,89),(6,60)]:=by
 obtain⟨r1,br1,h⟩:=aJ h
 obtain⟨r2,br2,h⟩:=aJ h
 obtain⟨o13,bo13,h⟩:=aJ h
 obtain⟨r14,br14,h⟩:=aJ h
 obtain⟨o25,bo25,h⟩:=aJ h
 obtain⟨r26,br26,h⟩:=aJ h
 obtain rfl:=lf h
 have z:=sx (Wy [.func (.func 55) [] [.eptr (cS c),.eptr (cS c2),.eptr (cS c3)],.func (.func 54) [] [.eptr (cS c4),.eptr (cS c5)]])<|sx (kv e)<|se (X7 ac scope)<|sx wG<|ss<|cW (gM br1)<|sv (cZ GU (sl ac scope) [])<|cW (vL br2)<|sx WB<|sx WA<|ss<|rN 0<|dS (lJ scope c c2 c3 c4 c5 e.Op e.Name e.N e.Kids e.Params e.Alts r1 ([]:List af) ([]:List av) ([]:List aH) ([]:List aj) r2 bo13)<|ss<|sx X8<|ss<|XR 6 [[.bool (e.Op==6)]] [3,4,5,6,7,8,11] [] (Xx (m:=0) (b:=6) rfl [.bool (e.Op==6)] rfl) (Xy 6 (l:=[.bool (e.Op==6)]) (aI trivial trivial)) (Xz (XM [.bool (e.Op==6)]))<|sf (GQ 6 (mr al scope))<|sf (GQ 6 (cb c))<|sf (GQ 6 (cb c2))<|sf (GQ 6 (cb c3))<|sf (GQ 6 (cb c4))<|sf (GQ 6 (cb c5))<|sf (Ij 6 (p:=sl ae e.Kids) (au ay e.Kids))<|sf (Ij 6 (p:=sl aq e.Params) (au bo e.Params))<|sf (Ij 6 (p:=sl az e.Alts) (au bW e.Alts))<|sf (Ij 6 (p:=sl ai r1) (au aN r1))<|sf (Ij 6 (p:=sl ae ([]:List af)) (au ay ([]:List af)))<|sf (Ij 6 (p:=sl aq ([]:List av)) (au bo ([]:List av)))<|sf (Ij 6 (p:=sl az ([]:List aH)) (au bW ([]:List aH)))<|sf (Ij 6 (p:=sl ai ([]:List aj)) (au aN ([]:List aj)))<|sf (Ij 6 (p:=sl ac o13.2) (au al o13.2))<|sf (GQ 6 (mr al scope))<|ss<|si (.cg ⟨[5,0,4],[sl aq e.Params,.func (.func 108) [] [.eptr (cB (e.Op==6)),.bptr 0 0]],[],[.cells [.func (.func 105) [] [.bptr 0 0,.eptr ((cL ac) scope),.bptr 4 0]] [],.cells [.func (.func 55) [] [.eptr (cS c),.eptr (cS c2),.eptr (cS c3)],.func (.func 54) [] [.eptr (cS c4),.eptr (cS c5)]] [],.cells [sl ac o13.2] [(0,137)]],[.cells [.func (.func 105) [] [.bptr 1 0,.eptr ((cL ac) scope),.bptr 2 0]] [],.cells [.func (.func 55) [] [.eptr (cS c),.eptr (cS c2),.eptr (cS c3)],.func (.func 54) [] [.eptr (cS c4),.eptr (cS c5)]] [],.cells [sl ac o13.2] [(0,137)]],[.cells [.func (.func 105) [] [.bptr 0 0,.eptr ((cL ac) scope),.bptr 4 0]] [],.cells [.func (.func 55) [] [.eptr (cS c),.eptr (cS c2),.eptr (cS c3)],.func (.func 54) [] [.eptr (cS c4),.eptr (cS c5)]] [],.cells [sl ac r14.2] [(0,137)]],[.cells [.func (.func 105) [] [.bptr 1 0,.eptr ((cL ac) scope),.bptr 2 0]] [],.cells [.func (.func 55) [] [.eptr (cS c),.eptr (cS c2),.eptr (cS c3)],.func (.func 54) [] [.eptr (cS c4),.eptr (cS c5)]] [],.cells [sl ac r14.2] [(0,137)]],sl aq r14.1,sl aq r14.1,[(0,85)]⟩) (f8 br14)<|sf (aI (xR [5,0,4] (sl aq e.Params) (au bo e.Params)) (aI (xF [5,0,4] (.func 108) [] [.eptr (cB (e.Op==6)),.bptr 5 0] [] [.eptr (cB (e.Op==6)),.bptr 0 0] trivial (aI (xR [5,0,4] (.eptr (cB (e.Op==6))) (Vj (e.Op==6))) (aI (xB [5,0,4] 0 5 0 rfl) trivial))) trivial))<|sf (aI (aI (rB (.cells [.func (.func 105) [] [.bptr 0 0,.eptr ((cL ac) scope),.bptr 4 0]] [])) (aI (rW []) (aI (xF [5,0,4] (.func 105) [] [.bptr 0 0,.eptr ((cL ac) scope),.bptr 4 0] [] [.bptr 1 0,.eptr ((cL ac) scope),.bptr 2 0] trivial (aI (xB [5,0,4] 1 0 0 rfl) (aI (xR [5,0,4] (.eptr ((cL ac) scope)) (mr al scope)) (aI (xB [5,0,4] 2 4 0 rfl) trivial)))) trivial))) (aI (aI (rB (.cells [.func (.func 55) [] [.eptr (cS c),.eptr (cS c2),.eptr (cS c3)],.func (.func 54) [] [.eptr (cS c4),.eptr (cS c5)]] [])) (aI (rW []) (aI (xR [5,0,4] (.func (.func 55) [] [.eptr (cS c),.eptr (cS c2),.eptr (cS c3)]) (aI trivial (aI (cb c) (aI (cb c2) (aI (cb c3) trivial))))) (aI (xR [5,0,4] (.func (.func 54) [] [.eptr (cS c4),.eptr (cS c5)]) (aI trivial (aI (cb c4) (aI (cb c5) trivial)))) trivial)))) (aI (aI (rB (.cells [sl ac o13.2] [(0,137)])) (aI (rW [(0,137)]) (aI (xR [5,0,4] (sl ac o13.2) (au al o13.2)) trivial))) trivial)))<|sf (aI (aI (rW []) (aI (xF [5,0,4] (.func 105) [] [.bptr 0 0,.eptr ((cL ac) scope),.bptr 4 0] [] [.bptr 1 0,.eptr ((cL ac) scope),.bptr 2 0] trivial (aI (xB [5,0,4] 1 0 0 rfl) (aI (xR [5,0,4] (.eptr ((cL ac) scope)) (mr al scope)) (aI (xB [5,0,4] 2 4 0 rfl) trivial)))) trivial)) (aI (aI (rW []) (aI (xR [5,0,4] (.func (.func 55) [] [.eptr (cS c),.eptr (cS c2),.eptr (cS c3)]) (aI trivial (aI (cb c) (aI (cb c2) (aI (cb c3) trivial))))) (aI (xR [5,0,4] (.func (.func 54) [] [.eptr (cS c4),.eptr (cS c5)]) (aI trivial (aI (cb c4) (aI (cb c5) trivial)))) trivial))) (aI (aI (rW [(0,137)]) (aI (xR [5,0,4] (sl ac r14.2) (au al r14.2)) trivial)) trivial)))<|sf (xR [5,0,4] (sl aq r14.1) (au bo r14.1))<|ss<|cq (g6.ln e.Kids)<|dS (lL R45 scope e.Kids (e.Kids.length:Int) c c2 c3 c4 c5 e.Op o13.1 e.N r14.1 e.Alts r1 ([]:List af) ([]:List av) ([]:List aH) ([]:List aj) r14.2 ([]:List af) 0 hR45 bo25)<|ss<|si (.cg ⟨[0],[sl az e.Alts,.func (.func 110) [] [.eptr ((cL ac) scope),.bptr 0 0]],[],[.cells [.func (.func 55) [] [.eptr (cS c),.eptr (cS c2),.eptr (cS c3)],.func (.func 54) [] [.eptr (cS c4),.eptr (cS c5)]] []],[.cells [.func (.func 55) [] [.eptr (cS c),.eptr (cS c2),.eptr (cS c3)],.func (.func 54) [] [.eptr (cS c4),.eptr (cS c5)]] []],[.cells [.func (.func 55) [] [.eptr (cS c),.eptr (cS c2),.eptr (cS c3)],.func (.func 54) [] [.eptr (cS c4),.eptr (cS c5)]] []],[.cells [.func (.func 55) [] [.eptr (cS c),.eptr (cS c2),.eptr (cS c3)],.func (.func 54) [] [.eptr (cS c4),.eptr (cS c5)]] []],sl az r26,sl az r26,[(0,89)]⟩) (ke R45 hR45 br26)<|sf (aI (xR [0] (sl az e.Alts) (au bW e.Alts)) (aI (xF [0] (.func 110) [] [.eptr ((cL ac) scope),.bptr 0 0] [] [.eptr ((cL ac) scope),.bptr 0 0] trivial (aI (xR [0] (.eptr ((cL ac) scope)) (mr al scope)) (aI (xB [0] 0 0 0 rfl) trivial))) trivial))<|sf (aI (aI (rB (.cells [.func (.func 55) [] [.eptr (cS c),.eptr (cS c2),.eptr (cS c3)],.func (.func 54) [] [.eptr (cS c4),.eptr (cS c5)]] [])) (aI (rW []) (aI (xR [0] (.func (.func 55) [] [.eptr (cS c),.eptr (cS c2),.eptr (cS c3)]) (aI trivial (aI (cb c) (aI (cb c2) (aI (cb c3) trivial))))) (aI (xR [0] (.func (.func 54) [] [.eptr (cS c4),.eptr (cS c5)]) (aI trivial (aI (cb c4) (aI (cb c5) trivial)))) trivial)))) trivial)<|sf (aI (aI (rW []) (aI (xR [0] (.func (.func 55) [] [.eptr (cS c),.eptr (cS c2),.eptr (cS c3)]) (aI trivial (aI (cb c) (aI (cb c2) (aI (cb c3) trivial))))) (aI (xR [0] (.func (.func 54) [] [.eptr (cS c4),.eptr (cS c5)]) (aI trivial (aI (cb c4) (aI (cb c5) trivial)))) trivial))) trivial)<|sf (xR [0] (sl az r26) (au bW r26))<|sz (bu (⟨e.Op,o13.1,e.N,o25,r14.1,r26,r1⟩:af) [])<|sy (bD (⟨e.Op,o13.1,e.N,o25,r14.1,r26,r1⟩:af))<|en (aI (ra (⟨e.Op,o13.1,e.N,o25,r14.1,r26,r1⟩:af))<|aI (ay (⟨e.Op,o13.1,e.N,o25,r14.1,r26,r1⟩:af))<|rT)
 exact cR JH call56 func56 (c:=SL) rfl (aI (aI (aI trivial (aI (cb c) (aI (cb c2) (aI (cb c3) trivial)))) (aI (aI trivial (aI (cb c4) (aI (cb c5) trivial))) trivial)) (aI (ay e) (aI (au al scope) trivial))) z<|by kernel_rfl
def il:((ag×ag×ag×ag×ag×af×(List aa))->Option af)->(ag×ag×ag×ag×ag×af×(List aa))->Option af:=fun(rec:(ag×ag×ag×ag×ag×af×(List aa))->Option af) (x:ag×ag×ag×ag×ag×af×(List aa))=>ik (fun c c2 c3 c4 c5 e scope=>rec (c,c2,c3,c4,c5,e,scope)) x.1 x.2.1 x.2.2.1 x.2.2.2.1 x.2.2.2.2.1 x.2.2.2.2.2.1 x.2.2.2.2.2.2
def iM(c:ag)(c2:ag)(c3:ag)(c4:ag)(c5:ag)(e:af)(scope:(List aa)):Option af:=sd il (c,c2,c3,c4,c5,e,scope)
theorem mY{c:ag}{c2:ag}{c3:ag}{c4:ag}{c5:ag}{e:af}{scope:(List aa)}{r:af}(h:iM c c2 c3 c4 c5 e scope=some r):CC Pg GE 56 [.agg [.func (.func 55) [] [.eptr (cS c),.eptr (cS c2),.eptr (cS c3)],.func (.func 54) [] [.eptr (cS c4),.eptr (cS c5)]],.agg (ae e),sl ac scope] (.agg (ae r)) [(3,28),(4,85),(5,89),(6,60)]:=
 eM (F:=il) (M:=fun(x:ag×ag×ag×ag×ag×af×(List aa)) (r:af)=>CC Pg GE 56 [.agg [.func (.func 55) [] [.eptr (cS x.1),.eptr (cS x.2.1),.eptr (cS x.2.2.1)],.func (.func 54) [] [.eptr (cS x.2.2.2.1),.eptr (cS x.2.2.2.2.1)]],.agg (ae x.2.2.2.2.2.1),sl ac x.2.2.2.2.2.2] (.agg (ae r)) [(3,28),(4,85),(5,89),(6,60)]) (fun rec hrec x r h=>my _ (fun c c2 c3 c4 c5 e scope r h=>hrec (c,c2,c3,c4,c5,e,scope) r h) h) h
noncomputable def Yt:Code:=f13.body.getD .skip
def Yc:List Nat:=[]
def Ed(e:af)(name:ag)(a:ag):Option af:=
 (IQ e).bind fun r1=>
 (app r1 ([a]:List ag)).bind fun l2=>
 (sn l2 a).bind fun r3=>
 (iM a name r3 name a e ([]:List aa)).bind fun r4=>
 some r4
theorem GX{e:af}{name:ag}{a:ag}{r:af}(h:Ed e name a=some r):CC Pg GE 13 [.agg (ae e),.str name,.str a] (.agg (ae r)) [(3,28),(4,85),(5,89),(6,60)]:=by
 obtain⟨r1,br1,h⟩:=aJ h
 obtain⟨l2,bl2,h⟩:=aJ h
 obtain⟨r3,br3,h⟩:=aJ h
 obtain⟨r4,br4,h⟩:=aJ h
 obtain rfl:=lf h
 have z:=se (cJ e)<|se (Lz name)<|se (Lz a)<|sx wG<|I1 [0,1,0,4,15,0,63,0,255]<|sv (bv e)<|cW (JF br1)<|sv (cZ Ge (.str a) [])<|sv (dK.mk' (v:=PVal.str) Lz ([a]:List ag) 1 (by kernel_rfl))<|sv (dK.ap bl2)<|sv (cZ Ge (.str a) [])<|cW (zW br3)<|YT (rfl:cN (.str r3)=some [.str r3])<|XR 4 [[.str r3]] [3,4,5,6,7] [] (Xx (m:=0) (b:=4) rfl [.str r3] rfl) (Xy 4 (l:=[.str r3]) (aI trivial trivial)) (Xz (XM [.str r3]))<|sf (GQ 4 (ay e))<|sf (GQ 4 (cb name))<|sf (GQ 4 (cb a))<|sf (Ij 4 (p:=sl ae ([]:List af)) (au ay ([]:List af)))<|sf (Ij 4 (p:=sl aq ([]:List av)) (au bo ([]:List av)))<|sf (Ij 4 (p:=sl az ([]:List aH)) (au bW ([]:List aH)))<|sf (Ij 4 (p:=sl ai ([]:List aj)) (au aN ([]:List aj)))<|sv (show dX Pg 95 [(1,.func (.func 54) [] [.eptr (cS name),.eptr (cS a)]),(0,.func (.func 55) [] [.eptr (cS a),.eptr (cS name),.eptr (cS r3)])]=some (.agg [.func (.func 55) [] [.eptr (cS a),.eptr (cS name),.eptr (cS r3)],.func (.func 54) [] [.eptr (cS name),.eptr (cS a)]]) by kernel_rfl)<|sx WC<|sx (Wy [.func (.func 55) [] [.eptr (cS a),.eptr (cS name),.eptr (cS r3)],.func (.func 54) [] [.eptr (cS name),.eptr (cS a)]])<|sv (show bK Pg 95 [.func (.func 55) [] [.eptr (cS a),.eptr (cS name),.eptr (cS r3)],.func (.func 54) [] [.eptr (cS name),.eptr (cS a)]]=some (.agg [.func (.func 55) [] [.eptr (cS a),.eptr (cS name),.eptr (cS r3)],.func (.func 54) [] [.eptr (cS name),.eptr (cS a)]]) by kernel_rfl)<|sv (bv e)<|cW (mY br4)<|sy (bD r4)<|en (aI (ra r4)<|aI (ay r4)<|rT)
 exact cR Yc call13 func13 (c:=Yt) rfl (aI (ay e) (aI trivial (aI trivial trivial))) z<|by kernel_rfl
abbrev gf:=(af->Int->Option (Bool×Int))
abbrev gb(R:gf):Prop:=∀(e:af) (k0:Int) (r:Bool×Int),R e k0=some r->C Pg GE 64 [.agg (ae e),.func (.func 68) [] [.bptr 0 0]] [] [.cells [.int .i64 k0] []] (.bool r.1) [] [.cells [.int .i64 r.2] []]
noncomputable def YF:Code:=f68.body.getD .skip
def Yo:List Nat:=[]
def jb(a:af)(k0:Int):Option (Bool×Int):=
 some (true,cp (k0+1))
theorem Ec{a:af}{k0:Int}{r:Bool×Int}(h:jb a k0=some r):C Pg GE 68 [.agg (ae a),.bptr 0 0] [] [.cells [.int .i64 k0] []] (.bool r.1) [] [.cells [.int .i64 r.2] []]:=by
 obtain rfl:=lf h
 have z:=se (cJ a)<|ss<|ss<|en (aI (rP (.bool true))<|aI trivial<|aI (rL [.cells [.int .i64 (cp (k0+1))] []])<|(aI (aI trivial trivial) trivial))
 exact C.evGp (A:=Yo) mixed (m:=1) (c:=YF) rfl call68 func68 rfl z<|by kernel_rfl
end Go.Proofs.YtkdahfeiedaahaaGreatDoor
