/- PROVED: a part of the proof. Conditions: none. -/
import Derived.Test.YtkdahfeiedaahaaGreatDoorPkB12
noncomputable section
namespace Go.Proofs.YtkdahfeiedaahaaGreatDoor
open Go Go.Proofs.Tryz
set_option linter.unusedVariables false
set_option maxRecDepth 100000
noncomputable def Tt:Code:=f99.body.getD .skip
def Ri:List Nat:=[]
section
variable(v:af)(m2:(List (ag×Bool)))
def uE:az:=aZ 38 [(1,.bptr 0 0),(2,.eptr (ac v))] [.cells [.func (.func 81) [.bptr 1 0] []] [],.cells [.mapr 2] [],.map (aF PVal.bool m2),.dead] []
def i7(o:Bool):az:=aZ 38 [(1,.bptr 0 0),(2,.eptr (ac v)),(12,.bool o)] [.cells [.func (.func 81) [.bptr 1 0] []] [],.cells [.mapr 2] [],.map (aF PVal.bool m2),.dead] []
def oP:Option Bool:=
 (eV v).bind fun r1=>
 if r1=true then
  some true
 else
  some (v.Op==7)
theorem uj{x:Bool}(h:oP v=some x):aP Pg GE 3 (cA Tt 12) (EX .normal (i7 v m2 x)) (uE v m2):=by
 obtain⟨r1,br1,h⟩:=aG h
 have p3:=fun{sc F} (r:PS sc F)=>sv (aW v)<|cH (iT br1)<|r
 rcases aN h with⟨c2,h⟩|⟨c2,h⟩
 ·obtain rfl:=lf h
  exact bk Ri (p3<|sg 3 c2<|eF .normal (i7 v m2 true))<|by kernel_rfl
 ·obtain rfl:=lf h
  exact bk Ri (p3<|sg 3 c2<|sv (cd v)<|sv (ce v)<|eF .normal (i7 v m2 (v.Op==7)))<|by kernel_rfl
end
section
variable(v:af)(m2:(List (ag×Bool)))
def uD:az:=aZ 38 [(1,.bptr 0 0),(2,.eptr (ac v))] [.cells [.func (.func 81) [.bptr 1 0] []] [],.cells [.mapr 2] [],.map (aF PVal.bool m2),.dead] []
def i6(o:(List (ag×Bool))):az:=aZ 38 [(1,.bptr 0 0),(2,.eptr (ac v))] [.cells [.func (.func 81) [.bptr 1 0] []] [],.cells [.mapr 2] [],.map (aF PVal.bool o),.dead] []
def oO:Option (((List (ag×Bool)))):=
 (oP v).bind fun o4=>
 if o4=true then
  (eE ([v.Name]:List ag) m2).bind fun r7=>
  some r7
 else
  some m2
theorem ui{x:((List (ag×Bool)))}(h:oO v m2=some x):aP Pg GE 3 (cA Tt 6) (EX .normal (i6 v x)) (uD v m2):=by
 obtain⟨o4,bo4,h⟩:=aG h
 have p6:=fun{sc F} (r:PS sc F)=>oz 0<|cU (uj v m2 bo4)<|r
 rcases aN h with⟨c5,h⟩|⟨c5,h⟩
 ·obtain⟨r7,br7,h⟩:=aG h
  obtain rfl:=lf h
  exact bk Ri (p6<|sg 0 c5<|ss<|sv (cp v)<|sv (cz v)<|sv (ch.mk' (v:=PVal.str) E7 ([v.Name]:List ag) 1 (by kernel_rfl))<|si (.cg ⟨[1,2],[.bptr 0 0,sl cS ([v.Name]:List ag)],[],[.cells [.mapr 2] [],.map (aF PVal.bool m2)],[.cells [.mapr 1] [],.map (aF PVal.bool m2)],[.cells [.mapr 2] [],.map (aF PVal.bool r7)],[.cells [.mapr 1] [],.map (aF PVal.bool r7)],.tuple [],.tuple [],[]⟩) (fx br7)<|sf (aI (xB [1,2] 0 1 0 rfl) (aI (xR [1,2] (sl cS ([v.Name]:List ag)) (aj bD ([v.Name]:List ag))) trivial))<|sf (aI (aI (rB (.cells [.mapr 2] [])) (aI (rW []) (aI (xM [1,2] 1 2 rfl) trivial))) (aI (aI (rB (.map (aF PVal.bool m2))) (aI (rM (aF PVal.bool m2)) (lX (n:=0) PVal.bool (fun x=>trivial) m2))) trivial))<|sf (aI (aI (rW []) (aI (xM [1,2] 1 2 rfl) trivial)) (aI (aI (rM (aF PVal.bool r7)) (lX (n:=0) PVal.bool (fun x=>trivial) r7)) trivial))<|sf (xR [1,2] (.tuple []) trivial)<|eF .normal (i6 v r7))<|by kernel_rfl
 ·obtain rfl:=lf h
  exact bk Ri (p6<|sg 0 c5<|eF .normal (i6 v m2))<|by kernel_rfl
end
section
variable(v:af)(m2:(List (ag×Bool)))
def uF:az:=aZ 38 [(1,.bptr 0 0),(2,.eptr (ac v))] [.cells [.func (.func 81) [.bptr 1 0] []] [],.cells [.mapr 2] [],.map (aF PVal.bool m2),.dead] []
def i8(o:(List (ag×Bool))):az:=aZ 38 [(1,.bptr 0 0),(2,.eptr (ac v))] [.cells [.func (.func 81) [.bptr 1 0] []] [],.cells [.mapr 2] [],.map (aF PVal.bool o),.dead] []
def oQ:Option (((List (ag×Bool)))):=
 if(v.Op==6)=true then
  (kw v.Params).bind fun r11=>
  (eE r11 m2).bind fun r12=>
  some r12
 else
  some m2
theorem uk{x:((List (ag×Bool)))}(h:oQ v m2=some x):aP Pg GE 3 (cA Tt 14) (EX .normal (i8 v x)) (uF v m2):=by
 have p10:=fun{sc F} (r:PS sc F)=>sv (cd v)<|sv (ce v)<|r
 rcases aN h with⟨c9,h⟩|⟨c9,h⟩
 ·obtain⟨r11,br11,h⟩:=aG h
  obtain⟨r12,br12,h⟩:=aG h
  obtain rfl:=lf h
  exact bk Ri (p10<|sg 0 c9<|sk<|Sv (.dx [0,0,2,6] [] [] [])<|ss<|sv (bw v)<|sv (bA v)<|cH (oe br11)<|si (.cg ⟨[1,2],[.bptr 0 0,sl cS r11],[],[.cells [.mapr 2] [],.map (aF PVal.bool m2)],[.cells [.mapr 1] [],.map (aF PVal.bool m2)],[.cells [.mapr 2] [],.map (aF PVal.bool r12)],[.cells [.mapr 1] [],.map (aF PVal.bool r12)],.tuple [],.tuple [],[]⟩) (fx br12)<|sf (aI (xB [1,2] 0 1 0 rfl) (aI (xR [1,2] (sl cS r11) (aj bD r11)) trivial))<|sf (aI (aI (rB (.cells [.mapr 2] [])) (aI (rW []) (aI (xM [1,2] 1 2 rfl) trivial))) (aI (aI (rB (.map (aF PVal.bool m2))) (aI (rM (aF PVal.bool m2)) (lX (n:=0) PVal.bool (fun x=>trivial) m2))) trivial))<|sf (aI (aI (rW []) (aI (xM [1,2] 1 2 rfl) trivial)) (aI (aI (rM (aF PVal.bool r12)) (lX (n:=0) PVal.bool (fun x=>trivial) r12)) trivial))<|sf (xR [1,2] (.tuple []) trivial)<|eF .normal (i8 v r12))<|by kernel_rfl
 ·obtain rfl:=lf h
  exact bk Ri (p10<|sg 0 c9<|eF .normal (i8 v m2))<|by kernel_rfl
end
section
variable(t27:waC)(t28:Int)(t29:Int)(m2:(List (ag×Bool)))
def ek:az:=aZ 38 [(1,.bptr 0 0),(27,sl aA t27),(28,.int .i64 t28),(29,.int .i64 t29)] [.cells [.func (.func 81) [.bptr 1 0] []] [],.cells [.mapr 2] [],.map (aF PVal.bool m2),.dead] []
def ja(o:(List (ag×Bool))):az:=aZ 38 [] [.cells [.func (.func 81) [.bptr 1 0] []] [],.cells [.mapr 2] [],.map (aF PVal.bool o),.dead] []
def mP:Option ((Int×(List (ag×Bool)))⊕(((List (ag×Bool))))):=
 if(decide (t29<t28))=true then
  (fO t27 t29).bind fun x15=>
  (eE x15.Names m2).bind fun r16=>
  some (.inl (bZ (t29+1),r16))
 else
  some (.inr m2)
def oR:Option (((List (ag×Bool)))):=loop (fun(zz:Int×(List (ag×Bool)))=>mP t27 t28 zz.1 zz.2) (t29,m2)
theorem tj{y:(Int×(List (ag×Bool)))⊕(((List (ag×Bool))))}(h:mP t27 t28 t29 m2=some y):aP Pg GE 3 (cA Tt 247) (LQ (fun(zz:Int×(List (ag×Bool)))=>ek t27 t28 zz.1 zz.2) (fun _=>.exit 0) ja y) (ek t27 t28 t29 m2):=by
 rcases aN h with⟨c14,h⟩|⟨c14,h⟩
 ·obtain⟨x15,bx15,h⟩:=aG h
  obtain⟨r16,br16,h⟩:=aG h
  obtain rfl:=lf h
  have z:=sg 0 c14<|sv (ea.ia (k:=.i64) bx15)<|sv (ku x15)<|sx D2<|sx (hX x15)<|ss<|ss<|si (.cg ⟨[1,2],[.bptr 0 0,sl cS x15.Names],[],[.cells [.mapr 2] [],.map (aF PVal.bool m2)],[.cells [.mapr 1] [],.map (aF PVal.bool m2)],[.cells [.mapr 2] [],.map (aF PVal.bool r16)],[.cells [.mapr 1] [],.map (aF PVal.bool r16)],.tuple [],.tuple [],[]⟩) (fx br16)<|sf (aI (xB [1,2] 0 1 0 rfl) (aI (xR [1,2] (sl cS x15.Names) (aj bD x15.Names)) trivial))<|sf (aI (aI (rB (.cells [.mapr 2] [])) (aI (rW []) (aI (xM [1,2] 1 2 rfl) trivial))) (aI (aI (rB (.map (aF PVal.bool m2))) (aI (rM (aF PVal.bool m2)) (lX (n:=0) PVal.bool (fun x=>trivial) m2))) trivial))<|sf (aI (aI (rW []) (aI (xM [1,2] 1 2 rfl) trivial)) (aI (aI (rM (aF PVal.bool r16)) (lX (n:=0) PVal.bool (fun x=>trivial) r16)) trivial))<|sf (xR [1,2] (.tuple []) trivial)<|sK 3 .normal (ek t27 t28 (bZ (t29+1)) r16) rfl (dF (aI (aX rfl) (aI (up (aj bL t27)) (aI trivial (aI trivial trivial))))) (aI (aI (aI (aI (aX rfl) trivial) trivial) trivial) (aI (aI (aX rfl) trivial) (aI (lX PVal.bool (fun x=>trivial) r16) (aI trivial trivial))))
  exact dZ (A:=Ri) mixed z<|by kernel_rfl
 ·obtain rfl:=lf h
  have z:=sg 0 c14<|eF (.exit 0) (ja m2)
  exact iZ Ri (by intro hx;cases hx) z<|by kernel_rfl
theorem ul{x:((List (ag×Bool)))}(h:oR t27 t28 t29 m2=some x):aP Pg GE 3 (.loop (cA Tt 247)) (EX (.exit 0) (ja x)) (ek t27 t28 t29 m2):=
 aP.loop (S:=fun(zz:Int×(List (ag×Bool)))=>ek t27 t28 zz.1 zz.2) (ex:=(fun _=>.exit 0)) (s:=(t29,m2)) h fun zz y hy=>tj t27 t28 zz.1 zz.2 hy
end
def rN(a:af)(k2:(List (ag×Bool))):Option (Bool×(List (ag×Bool))):=
 (oO a k2).bind fun o8=>
 (oQ a o8).bind fun o13=>
 (oR a.Alts (a.Alts.length:Int) 0 o13).bind fun o17=>
 some (true,o17)
theorem wW{a:af}{k2:(List (ag×Bool))}{r:Bool×(List (ag×Bool))}(h:rN a k2=some r):C Pg GE 99 [.agg (ac a),.bptr 0 0] [] [.cells [.func (.func 81) [.bptr 1 0] []] [],.cells [.mapr 2] [],.map (aF PVal.bool k2)] (.bool r.1) [] [.cells [.func (.func 81) [.bptr 1 0] []] [],.cells [.mapr 2] [],.map (aF PVal.bool r.2)]:=by
 obtain⟨o8,bo8,h⟩:=aG h
 obtain⟨o13,bo13,h⟩:=aG h
 obtain⟨o17,bo17,h⟩:=aG h
 obtain rfl:=lf h
 have z:=se (bK a)<|oz 0<|cU (ui a k2 bo8)<|oz 0<|cU (uk a o8 bo13)<|sv (aB a)<|sv (aC a)<|bW (ea.ln a.Alts)<|cU (ul a.Alts (a.Alts.length:Int) 0 o13 bo17)<|en (aI (rP (.bool true))<|aI trivial<|aI (rL [.cells [.func (.func 81) [.bptr 1 0] []] [],.cells [.mapr 2] [],.map (aF PVal.bool o17)])<|(aI (aI (aI (aI (aX (i:=1) (n:=3) rfl) trivial) trivial) trivial) (aI (aI (aX (i:=2) (n:=3) rfl) trivial) (aI (lX (n:=3) PVal.bool (fun x=>trivial) o17) trivial))))
 exact C.evGp (A:=Ri) mixed (m:=3) (c:=Tt) rfl call99 func99 rfl z<|by kernel_rfl
noncomputable def Bu:Code:=f64.body.getD .skip
def xj:List Nat:=[]
section
variable(R43:dX)(e:af)(t14:waE)(t15:Int)(t16:Int)(m2:(List (ag×Bool)))
def dn:az:=aZ 38 [(1,.func (.func 99) [] [.bptr 0 0]),(2,.eptr (ac e)),(14,sl ac t14),(15,.int .i64 t15),(16,.int .i64 t16)] [.cells [.func (.func 81) [.bptr 1 0] []] [],.cells [.mapr 2] [],.map (aF PVal.bool m2),.dead] []
def dp(o:((List (ag×Bool)))⊕((List (ag×Bool)))):Exit:=match o with
 |(.inl _)=>.ret
 |(.inr _)=>.exit 0
def ca(o:((List (ag×Bool)))⊕((List (ag×Bool)))):az:=match o with
 |(.inl o)=>aZ 38 [(4,.bool false)] [.cells [.func (.func 81) [.bptr 1 0] []] [],.cells [.mapr 2] [],.map (aF PVal.bool o),.dead] []
 |(.inr o)=>aZ 38 [(1,.func (.func 99) [] [.bptr 0 0]),(2,.eptr (ac e))] [.cells [.func (.func 81) [.bptr 1 0] []] [],.cells [.mapr 2] [],.map (aF PVal.bool o),.dead] []
def kf:Option ((Int×(List (ag×Bool)))⊕(((List (ag×Bool)))⊕((List (ag×Bool))))):=
 if(decide (t16<t15))=true then
  (fO t14 t16).bind fun x5=>
  (R43 x5 m2).bind fun r6=>
  if(!r6.1)=true then
   some (.inr (.inl r6.2))
  else
   some (.inl (bZ (t16+1),r6.2))
 else
  some (.inr (.inr m2))
def li:Option (((List (ag×Bool)))⊕((List (ag×Bool)))):=loop (fun(zz:Int×(List (ag×Bool)))=>kf R43 t14 t15 zz.1 zz.2) (t16,m2)
theorem pZ(hR43:dV R43){y:(Int×(List (ag×Bool)))⊕(((List (ag×Bool)))⊕((List (ag×Bool))))}(h:kf R43 t14 t15 t16 m2=some y):aP Pg GE 3 (cA Bu 119) (LQ (fun(zz:Int×(List (ag×Bool)))=>dn e t14 t15 zz.1 zz.2) dp (ca e) y) (dn e t14 t15 t16 m2):=by
 rcases aN h with⟨c4,h⟩|⟨c4,h⟩
 ·obtain⟨x5,bx5,h⟩:=aG h
  obtain⟨r6,br6,h⟩:=aG h
  have p8:=fun{sc F} (r:PS sc F)=>sg 0 c4<|sv (fi.ia (k:=.i64) bx5)<|sv (aW x5)<|sx wR<|sx (jj x5)<|sv (bQ x5 [])<|si (.cg ⟨[0,1,2],[.agg (ac x5),.func (.func 99) [] [.bptr 0 0]],[],[.cells [.func (.func 81) [.bptr 1 0] []] [],.cells [.mapr 2] [],.map (aF PVal.bool m2)],[.cells [.func (.func 81) [.bptr 1 0] []] [],.cells [.mapr 2] [],.map (aF PVal.bool m2)],[.cells [.func (.func 81) [.bptr 1 0] []] [],.cells [.mapr 2] [],.map (aF PVal.bool r6.2)],[.cells [.func (.func 81) [.bptr 1 0] []] [],.cells [.mapr 2] [],.map (aF PVal.bool r6.2)],.bool r6.1,.bool r6.1,[]⟩) (hR43 _ _ _ br6)<|sf (aI (xR [0,1,2] (.agg (ac x5)) (av x5)) (aI (xF [0,1,2] (.func 99) [] [.bptr 0 0] [] [.bptr 0 0] trivial (aI (xB [0,1,2] 0 0 0 rfl) trivial)) trivial))<|sf (aI (aI (rB (.cells [.func (.func 81) [.bptr 1 0] []] [])) (aI (rW []) (aI (xF [0,1,2] (.func 81) [.bptr 1 0] [] [.bptr 1 0] [] (aI (xB [0,1,2] 1 1 0 rfl) trivial) trivial) trivial))) (aI (aI (rB (.cells [.mapr 2] [])) (aI (rW []) (aI (xM [0,1,2] 2 2 rfl) trivial))) (aI (aI (rB (.map (aF PVal.bool m2))) (aI (rM (aF PVal.bool m2)) (lX (n:=0) PVal.bool (fun x=>trivial) m2))) trivial)))<|sf (aI (aI (rW []) (aI (xF [0,1,2] (.func 81) [.bptr 1 0] [] [.bptr 1 0] [] (aI (xB [0,1,2] 1 1 0 rfl) trivial) trivial) trivial)) (aI (aI (rW []) (aI (xM [0,1,2] 2 2 rfl) trivial)) (aI (aI (rM (aF PVal.bool r6.2)) (lX (n:=0) PVal.bool (fun x=>trivial) r6.2)) trivial)))<|sf (xR [0,1,2] (.bool r6.1) trivial)<|r
  rcases aN h with⟨c7,h⟩|⟨c7,h⟩
  ·obtain rfl:=lf h
   have z:=p8<|sg 0 c7<|sK 3 (dp (.inl r6.2)) (ca e (.inl r6.2)) rfl (dF (aI trivial trivial)) (aI (aI (aI (aI (aX rfl) trivial) trivial) trivial) (aI (aI (aX rfl) trivial) (aI (lX PVal.bool (fun x=>trivial) r6.2) (aI trivial trivial))))
   exact pw (A:=xj) mixed (by intro hx;cases hx) z<|by kernel_rfl
  ·obtain rfl:=lf h
   have z:=p8<|sg 0 c7<|sK 3 .normal (dn e t14 t15 (bZ (t16+1)) r6.2) rfl (dF (aI (aI trivial (aI (aX rfl) trivial)) (aI (ba (av e)) (aI (up (aj av t14)) (aI trivial (aI trivial trivial)))))) (aI (aI (aI (aI (aX rfl) trivial) trivial) trivial) (aI (aI (aX rfl) trivial) (aI (lX PVal.bool (fun x=>trivial) r6.2) (aI trivial trivial))))
   exact dZ (A:=xj) mixed z<|by kernel_rfl
 ·obtain rfl:=lf h
  have z:=sg 0 c4<|eF (dp (.inr m2)) (ca e (.inr m2))
  exact iZ xj (by intro hx;cases hx) z<|by kernel_rfl
theorem fJ(hR43:dV R43){x:((List (ag×Bool)))⊕((List (ag×Bool)))}(h:li R43 t14 t15 t16 m2=some x):aP Pg GE 3 (.loop (cA Bu 119)) (EX (dp x) (ca e x)) (dn e t14 t15 t16 m2):=
 aP.loop (S:=fun(zz:Int×(List (ag×Bool)))=>dn e t14 t15 zz.1 zz.2) (ex:=dp) (s:=(t16,m2)) h fun zz y hy=>pZ R43 e t14 t15 zz.1 zz.2 hR43 hy
end
section
variable(R43:dX)(t26:waC)(t27:Int)(t28:Int)(m2:(List (ag×Bool)))
def dq:az:=aZ 38 [(1,.func (.func 99) [] [.bptr 0 0]),(26,sl aA t26),(27,.int .i64 t27),(28,.int .i64 t28)] [.cells [.func (.func 81) [.bptr 1 0] []] [],.cells [.mapr 2] [],.map (aF PVal.bool m2),.dead] []
def dt(o:((List (ag×Bool)))⊕((List (ag×Bool)))):Exit:=match o with
 |(.inl _)=>.ret
 |(.inr _)=>.exit 2
def cw(o:((List (ag×Bool)))⊕((List (ag×Bool)))):az:=match o with
 |(.inl o)=>aZ 38 [(4,.bool false)] [.cells [.func (.func 81) [.bptr 1 0] []] [],.cells [.mapr 2] [],.map (aF PVal.bool o),.dead] []
 |(.inr o)=>aZ 38 [] [.cells [.func (.func 81) [.bptr 1 0] []] [],.cells [.mapr 2] [],.map (aF PVal.bool o),.dead] []
def kg:Option ((Int×(List (ag×Bool)))⊕(((List (ag×Bool)))⊕((List (ag×Bool))))):=
 if(decide (t28<t27))=true then
  (fO t26 t28).bind fun x11=>
  (R43 x11.Body m2).bind fun r12=>
  if(!r12.1)=true then
   some (.inr (.inl r12.2))
  else
   some (.inl (bZ (t28+1),r12.2))
 else
  some (.inr (.inr m2))
def lj:Option (((List (ag×Bool)))⊕((List (ag×Bool)))):=loop (fun(zz:Int×(List (ag×Bool)))=>kg R43 t26 t27 zz.1 zz.2) (t28,m2)
theorem qa(hR43:dV R43){y:(Int×(List (ag×Bool)))⊕(((List (ag×Bool)))⊕((List (ag×Bool))))}(h:kg R43 t26 t27 t28 m2=some y):aP Pg GE 3 (cA Bu 247) (LQ (fun(zz:Int×(List (ag×Bool)))=>dq t26 t27 zz.1 zz.2) dt cw y) (dq t26 t27 t28 m2):=by
 rcases aN h with⟨c10,h⟩|⟨c10,h⟩
 ·obtain⟨x11,bx11,h⟩:=aG h
  obtain⟨r12,br12,h⟩:=aG h
  have p14:=fun{sc F} (r:PS sc F)=>sg 0 c10<|sv (ea.ia (k:=.i64) bx11)<|sv (ku x11)<|sx D2<|sx (hX x11)<|sv (bQ x11.Body [])<|si (.cg ⟨[0,1,2],[.agg (ac x11.Body),.func (.func 99) [] [.bptr 0 0]],[],[.cells [.func (.func 81) [.bptr 1 0] []] [],.cells [.mapr 2] [],.map (aF PVal.bool m2)],[.cells [.func (.func 81) [.bptr 1 0] []] [],.cells [.mapr 2] [],.map (aF PVal.bool m2)],[.cells [.func (.func 81) [.bptr 1 0] []] [],.cells [.mapr 2] [],.map (aF PVal.bool r12.2)],[.cells [.func (.func 81) [.bptr 1 0] []] [],.cells [.mapr 2] [],.map (aF PVal.bool r12.2)],.bool r12.1,.bool r12.1,[]⟩) (hR43 _ _ _ br12)<|sf (aI (xR [0,1,2] (.agg (ac x11.Body)) (av x11.Body)) (aI (xF [0,1,2] (.func 99) [] [.bptr 0 0] [] [.bptr 0 0] trivial (aI (xB [0,1,2] 0 0 0 rfl) trivial)) trivial))<|sf (aI (aI (rB (.cells [.func (.func 81) [.bptr 1 0] []] [])) (aI (rW []) (aI (xF [0,1,2] (.func 81) [.bptr 1 0] [] [.bptr 1 0] [] (aI (xB [0,1,2] 1 1 0 rfl) trivial) trivial) trivial))) (aI (aI (rB (.cells [.mapr 2] [])) (aI (rW []) (aI (xM [0,1,2] 2 2 rfl) trivial))) (aI (aI (rB (.map (aF PVal.bool m2))) (aI (rM (aF PVal.bool m2)) (lX (n:=0) PVal.bool (fun x=>trivial) m2))) trivial)))<|sf (aI (aI (rW []) (aI (xF [0,1,2] (.func 81) [.bptr 1 0] [] [.bptr 1 0] [] (aI (xB [0,1,2] 1 1 0 rfl) trivial) trivial) trivial)) (aI (aI (rW []) (aI (xM [0,1,2] 2 2 rfl) trivial)) (aI (aI (rM (aF PVal.bool r12.2)) (lX (n:=0) PVal.bool (fun x=>trivial) r12.2)) trivial)))<|sf (xR [0,1,2] (.bool r12.1) trivial)<|r
  rcases aN h with⟨c13,h⟩|⟨c13,h⟩
  ·obtain rfl:=lf h
   have z:=p14<|sg 0 c13<|sK 3 (dt (.inl r12.2)) (cw (.inl r12.2)) rfl (dF (aI trivial trivial)) (aI (aI (aI (aI (aX rfl) trivial) trivial) trivial) (aI (aI (aX rfl) trivial) (aI (lX PVal.bool (fun x=>trivial) r12.2) (aI trivial trivial))))
   exact pw (A:=xj) mixed (by intro hx;cases hx) z<|by kernel_rfl
  ·obtain rfl:=lf h
   have z:=p14<|sg 0 c13<|sK 3 .normal (dq t26 t27 (bZ (t28+1)) r12.2) rfl (dF (aI (aI trivial (aI (aX rfl) trivial)) (aI (up (aj bL t26)) (aI trivial (aI trivial trivial))))) (aI (aI (aI (aI (aX rfl) trivial) trivial) trivial) (aI (aI (aX rfl) trivial) (aI (lX PVal.bool (fun x=>trivial) r12.2) (aI trivial trivial))))
   exact dZ (A:=xj) mixed z<|by kernel_rfl
 ·obtain rfl:=lf h
  have z:=sg 0 c10<|eF (dt (.inr m2)) (cw (.inr m2))
  exact iZ xj (by intro hx;cases hx) z<|by kernel_rfl
theorem jS(hR43:dV R43){x:((List (ag×Bool)))⊕((List (ag×Bool)))}(h:lj R43 t26 t27 t28 m2=some x):aP Pg GE 3 (.loop (cA Bu 247)) (EX (dt x) (cw x)) (dq t26 t27 t28 m2):=
 aP.loop (S:=fun(zz:Int×(List (ag×Bool)))=>dq t26 t27 zz.1 zz.2) (ex:=dt) (s:=(t28,m2)) h fun zz y hy=>qa R43 t26 t27 zz.1 zz.2 hR43 hy
end
def lQ(R43:dX)(e:af)(k2:(List (ag×Bool))):Option (Bool×(List (ag×Bool))):=
 (rN e k2).bind fun r1=>
 if(!r1.1)=true then
  some (false,r1.2)
 else
  (li R43 e.Kids (e.Kids.length:Int) 0 r1.2).bind fun o9=>match o9 with
  |(.inl o9)=>
   some (false,o9)
  | (.inr o9) =>
   (lj R43 e.Alts (e.Alts.length:Int) 0 o9).bind fun o15=>match o15 with
   |(.inl o15)=>
    some (false,o15)
   |(.inr o15)=>
    some (true,o15)
theorem rR(R43:dX)(hR43:dV R43){e:af}{k2:(List (ag×Bool))}{r:Bool×(List (ag×Bool))}(h:lQ R43 e k2=some r):C Pg GE 64 [.agg (ac e),.func (.func 99) [] [.bptr 0 0]] [] [.cells [.func (.func 81) [.bptr 1 0] []] [],.cells [.mapr 2] [],.map (aF PVal.bool k2)] (.bool r.1) [] [.cells [.func (.func 81) [.bptr 1 0] []] [],.cells [.mapr 2] [],.map (aF PVal.bool r.2)]:=by
 obtain⟨r1,br1,h⟩:=aG h
 have p3:=fun{sc F} (r:PS sc F)=>se (bK e)<|sv (aW e)<|si (.cg ⟨[0,1,2],[.agg (ac e),.bptr 0 0],[],[.cells [.func (.func 81) [.bptr 1 0] []] [],.cells [.mapr 2] [],.map (aF PVal.bool k2)],[.cells [.func (.func 81) [.bptr 1 0] []] [],.cells [.mapr 2] [],.map (aF PVal.bool k2)],[.cells [.func (.func 81) [.bptr 1 0] []] [],.cells [.mapr 2] [],.map (aF PVal.bool r1.2)],[.cells [.func (.func 81) [.bptr 1 0] []] [],.cells [.mapr 2] [],.map (aF PVal.bool r1.2)],.bool r1.1,.bool r1.1,[]⟩) (wW br1)<|sf (aI (xR [0,1,2] (.agg (ac e)) (av e)) (aI (xB [0,1,2] 0 0 0 rfl) trivial))<|sf (aI (aI (rB (.cells [.func (.func 81) [.bptr 1 0] []] [])) (aI (rW []) (aI (xF [0,1,2] (.func 81) [.bptr 1 0] [] [.bptr 1 0] [] (aI (xB [0,1,2] 1 1 0 rfl) trivial) trivial) trivial))) (aI (aI (rB (.cells [.mapr 2] [])) (aI (rW []) (aI (xM [0,1,2] 2 2 rfl) trivial))) (aI (aI (rB (.map (aF PVal.bool k2))) (aI (rM (aF PVal.bool k2)) (lX (n:=0) PVal.bool (fun x=>trivial) k2))) trivial)))<|sf (aI (aI (rW []) (aI (xF [0,1,2] (.func 81) [.bptr 1 0] [] [.bptr 1 0] [] (aI (xB [0,1,2] 1 1 0 rfl) trivial) trivial) trivial)) (aI (aI (rW []) (aI (xM [0,1,2] 2 2 rfl) trivial)) (aI (aI (rM (aF PVal.bool r1.2)) (lX (n:=0) PVal.bool (fun x=>trivial) r1.2)) trivial)))<|sf (xR [0,1,2] (.bool r1.1) trivial)<|r
 rcases aN h with⟨c2,h⟩|⟨c2,h⟩
 ·obtain rfl:=lf h
  have z:=p3<|sg 0 c2<|en (aI (rP (.bool false))<|aI trivial<|aI (rL [.cells [.func (.func 81) [.bptr 1 0] []] [],.cells [.mapr 2] [],.map (aF PVal.bool r1.2)])<|(aI (aI (aI (aI (aX (i:=1) (n:=3) rfl) trivial) trivial) trivial) (aI (aI (aX (i:=2) (n:=3) rfl) trivial) (aI (lX (n:=3) PVal.bool (fun x=>trivial) r1.2) trivial))))
  exact C.evGp (A:=xj) mixed (m:=3) (c:=Bu) rfl call64 func64 rfl z<|by kernel_rfl
 ·obtain⟨o9,bo9,h⟩:=aG h
  rcases o9 with o9|o9
  ·obtain rfl:=lf h
   have z:=p3<|sg 0 c2<|sv (aR e)<|sv (aS e)<|bW (fi.ln e.Kids)<|cU (e:=.ret) (s1:=ca e (.inl o9)) (fJ R43 e e.Kids (e.Kids.length:Int) 0 r1.2 hR43 bo9)<|en (aI (rP (.bool false))<|aI trivial<|aI (rL [.cells [.func (.func 81) [.bptr 1 0] []] [],.cells [.mapr 2] [],.map (aF PVal.bool o9)])<|(aI (aI (aI (aI (aX (i:=1) (n:=3) rfl) trivial) trivial) trivial) (aI (aI (aX (i:=2) (n:=3) rfl) trivial) (aI (lX (n:=3) PVal.bool (fun x=>trivial) o9) trivial))))
   exact C.evGp (A:=xj) mixed (m:=3) (c:=Bu) rfl call64 func64 rfl z<|by kernel_rfl
  ·obtain⟨o15,bo15,h⟩:=aG h
   rcases o15 with o15|o15
   ·obtain rfl:=lf h
    have z:=p3<|sg 0 c2<|sv (aR e)<|sv (aS e)<|bW (fi.ln e.Kids)<|cU (e:=.exit 0) (s1:=ca e (.inr o9)) (fJ R43 e e.Kids (e.Kids.length:Int) 0 r1.2 hR43 bo9)<|sv (aB e)<|sv (aC e)<|bW (ea.ln e.Alts)<|cU (e:=.ret) (s1:=cw (.inl o15)) (jS R43 e.Alts (e.Alts.length:Int) 0 o9 hR43 bo15)<|en (aI (rP (.bool false))<|aI trivial<|aI (rL [.cells [.func (.func 81) [.bptr 1 0] []] [],.cells [.mapr 2] [],.map (aF PVal.bool o15)])<|(aI (aI (aI (aI (aX (i:=1) (n:=3) rfl) trivial) trivial) trivial) (aI (aI (aX (i:=2) (n:=3) rfl) trivial) (aI (lX (n:=3) PVal.bool (fun x=>trivial) o15) trivial))))
    exact C.evGp (A:=xj) mixed (m:=3) (c:=Bu) rfl call64 func64 rfl z<|by kernel_rfl
   ·obtain rfl:=lf h
    have z:=p3<|sg 0 c2<|sv (aR e)<|sv (aS e)<|bW (fi.ln e.Kids)<|cU (e:=.exit 0) (s1:=ca e (.inr o9)) (fJ R43 e e.Kids (e.Kids.length:Int) 0 r1.2 hR43 bo9)<|sv (aB e)<|sv (aC e)<|bW (ea.ln e.Alts)<|cU (e:=.exit 2) (s1:=cw (.inr o15)) (jS R43 e.Alts (e.Alts.length:Int) 0 o9 hR43 bo15)<|en (aI (rP (.bool true))<|aI trivial<|aI (rL [.cells [.func (.func 81) [.bptr 1 0] []] [],.cells [.mapr 2] [],.map (aF PVal.bool o15)])<|(aI (aI (aI (aI (aX (i:=1) (n:=3) rfl) trivial) trivial) trivial) (aI (aI (aX (i:=2) (n:=3) rfl) trivial) (aI (lX (n:=3) PVal.bool (fun x=>trivial) o15) trivial))))
    exact C.evGp (A:=xj) mixed (m:=3) (c:=Bu) rfl call64 func64 rfl z<|by kernel_rfl
def lR:((af×(List (ag×Bool)))->Option (Bool×(List (ag×Bool))))->(af×(List (ag×Bool)))->Option (Bool×(List (ag×Bool))):=fun(rec:(af×(List (ag×Bool)))->Option (Bool×(List (ag×Bool)))) (x:af×(List (ag×Bool)))=>lQ (fun e k2=>rec (e,k2)) x.1 x.2
def mS(e:af)(k2:(List (ag×Bool))):Option (Bool×(List (ag×Bool))):=qc lR (e,k2)
theorem sA{e:af}{k2:(List (ag×Bool))}{r:Bool×(List (ag×Bool))}(h:mS e k2=some r):C Pg GE 64 [.agg (ac e),.func (.func 99) [] [.bptr 0 0]] [] [.cells [.func (.func 81) [.bptr 1 0] []] [],.cells [.mapr 2] [],.map (aF PVal.bool k2)] (.bool r.1) [] [.cells [.func (.func 81) [.bptr 1 0] []] [],.cells [.mapr 2] [],.map (aF PVal.bool r.2)]:=
 d9 (F:=lR) (M:=fun(x:af×(List (ag×Bool))) (r:Bool×(List (ag×Bool)))=>C Pg GE 64 [.agg (ac x.1),.func (.func 99) [] [.bptr 0 0]] [] [.cells [.func (.func 81) [.bptr 1 0] []] [],.cells [.mapr 2] [],.map (aF PVal.bool x.2)] (.bool r.1) [] [.cells [.func (.func 81) [.bptr 1 0] []] [],.cells [.mapr 2] [],.map (aF PVal.bool r.2)]) (fun rec hrec x r h=>rR _ (fun e k2 r h=>hrec (e,k2) r h) h) h
noncomputable def WR:Code:=f53.body.getD .skip
def Wv:List Nat:=[]
def IX(e:af):Option waA:=
 (lB ([]:List ag)).bind fun r1=>
 (mS e r1).bind fun r2=>
 (qO r2.2).bind fun r3=>
 some r3
theorem JT{e:af}{r:waA}(h:IX e=some r):CC Pg GE 53 [.agg (ac e)] (sl cS r) [(0,9)]:=by
 obtain⟨r1,br1,h⟩:=aG h
 obtain⟨r2,br2,h⟩:=aG h
 obtain⟨r3,br3,h⟩:=aG h
 obtain rfl:=lf h
 have z:=se (bK e)<|si (.cn ⟨[1,2],[],[],[],[],[.map (aF PVal.bool r1),.cells [.mapr 1] []],[.map (aF PVal.bool r1),.cells [.mapr 0] []],.bptr 2 0,.bptr 1 0,[]⟩) (qS br1)<|sf (aI (aj bD ([]:List ag)) trivial)<|sf (aI (aI (rM (aF PVal.bool r1)) (lX (n:=0) PVal.bool (fun x=>trivial) r1)) (aI (aI (rW []) (aI (xM [1,2] 0 1 rfl) trivial)) trivial))<|sf (xB [1,2] 1 2 0 rfl)<|sx UE<|ss<|sv (aW e)<|si (.cg ⟨[3,2,1],[.agg (ac e),.func (.func 99) [] [.bptr 0 0]],[],[.cells [.func (.func 81) [.bptr 2 0] []] [],.cells [.mapr 1] [],.map (aF PVal.bool r1)],[.cells [.func (.func 81) [.bptr 1 0] []] [],.cells [.mapr 2] [],.map (aF PVal.bool r1)],[.cells [.func (.func 81) [.bptr 2 0] []] [],.cells [.mapr 1] [],.map (aF PVal.bool r2.2)],[.cells [.func (.func 81) [.bptr 1 0] []] [],.cells [.mapr 2] [],.map (aF PVal.bool r2.2)],.bool r2.1,.bool r2.1,[]⟩) (sA br2)<|sf (aI (xR [3,2,1] (.agg (ac e)) (av e)) (aI (xF [3,2,1] (.func 99) [] [.bptr 3 0] [] [.bptr 0 0] trivial (aI (xB [3,2,1] 0 3 0 rfl) trivial)) trivial))<|sf (aI (aI (rB (.cells [.func (.func 81) [.bptr 2 0] []] [])) (aI (rW []) (aI (xF [3,2,1] (.func 81) [.bptr 2 0] [] [.bptr 1 0] [] (aI (xB [3,2,1] 1 2 0 rfl) trivial) trivial) trivial))) (aI (aI (rB (.cells [.mapr 1] [])) (aI (rW []) (aI (xM [3,2,1] 2 1 rfl) trivial))) (aI (aI (rB (.map (aF PVal.bool r1))) (aI (rM (aF PVal.bool r1)) (lX (n:=0) PVal.bool (fun x=>trivial) r1))) trivial)))<|sf (aI (aI (rW []) (aI (xF [3,2,1] (.func 81) [.bptr 2 0] [] [.bptr 1 0] [] (aI (xB [3,2,1] 1 2 0 rfl) trivial) trivial) trivial)) (aI (aI (rW []) (aI (xM [3,2,1] 2 1 rfl) trivial)) (aI (aI (rM (aF PVal.bool r2.2)) (lX (n:=0) PVal.bool (fun x=>trivial) r2.2)) trivial)))<|sf (xR [3,2,1] (.bool r2.1) trivial)<|si (.cg ⟨[2,1],[.bptr 0 0],[],[.cells [.mapr 1] [],.map (aF PVal.bool r2.2)],[.cells [.mapr 1] [],.map (aF PVal.bool r2.2)],[.cells [.mapr 1] [],.map (aF PVal.bool r2.2)],[.cells [.mapr 1] [],.map (aF PVal.bool r2.2)],sl cS r3,sl cS r3,[(0,9)]⟩) (wo br3)<|sf (aI (xB [2,1] 0 2 0 rfl) trivial)<|sf (aI (aI (rB (.cells [.mapr 1] [])) (aI (rW []) (aI (xM [2,1] 1 1 rfl) trivial))) (aI (aI (rB (.map (aF PVal.bool r2.2))) (aI (rM (aF PVal.bool r2.2)) (lX (n:=0) PVal.bool (fun x=>trivial) r2.2))) trivial))<|sf (aI (aI (rW []) (aI (xM [2,1] 1 1 rfl) trivial)) (aI (aI (rM (aF PVal.bool r2.2)) (lX (n:=0) PVal.bool (fun x=>trivial) r2.2)) trivial))<|sf (xR [2,1] (sl cS r3) (aj bD r3))<|en (aI (rP (sl cS r3))<|(aj bD r3))
 exact cC Wv call53 func53 (c:=WR) rfl (aI (av e) trivial) z<|by kernel_rfl
abbrev aT:=(ag->ag->ag->ag->ag->af->(List ae)->Option af)
abbrev bj(R:aT):Prop:=∀(c:ag) (c2:ag) (c3:ag) (c4:ag) (c5:ag) (e:af) (scope:(List ae)) (r:af),R c c2 c3 c4 c5 e scope=some r->CC Pg GE 56 [.agg [.func (.func 55) [] [.eptr (cS c),.eptr (cS c2),.eptr (cS c3)],.func (.func 54) [] [.eptr (cS c4),.eptr (cS c5)]],.agg (ac e),sl aa scope] (.agg (ac r)) [(3,28),(4,85),(5,89),(6,60)]
noncomputable def V4:Code:=f54.body.getD .skip
def V0:List Nat:=[9]
def zZ(s:ag)(a:ag)(a2:ag):Option ag:=
 if(s==a)=true then
  some a2
 else
  some s
theorem Ed{s:ag}{a:ag}{a2:ag}{r:ag}(h:zZ s a a2=some r):CC Pg GE 54 [.str s,.eptr (cS a),.eptr (cS a2)] (.str r) []:=by
 rcases aN h with⟨c1,h⟩|⟨c1,h⟩
 ·obtain rfl:=lf h
  have z:=sv (cy C2 (.str a) [])<|sg 0 c1<|sv (cy C2 (.str a2) [])<|en (aI (rP (.str a2))<|trivial)
  exact cC V0 call54 func54 (c:=V4) rfl (aI trivial (aI (bD a) (aI (bD a2) trivial))) z<|by kernel_rfl
 ·obtain rfl:=lf h
  have z:=sv (cy C2 (.str a) [])<|sg 0 c1<|en (aI (rP (.str s))<|trivial)
  exact cC V0 call54 func54 (c:=V4) rfl (aI trivial (aI (bD a) (aI (bD a2) trivial))) z<|by kernel_rfl
noncomputable def Vo:Code:=f55.body.getD .skip
def UO:List Nat:=[17]
section
variable(s:ag)(t2:ag)(t3:ag)(t4:ag)
def Bg:az:=aZ 18 [(0,.str s),(2,.eptr (cS t2)),(3,.eptr (cS t3)),(4,.eptr (cS t4))] [] []
def mY(o:Bool):az:=aZ 18 [(0,.str s),(4,.eptr (cS t4)),(15,.bool o)] [] []
def vH:Option Bool:=
 if(s==t2)=true then
  some (!(t3==t2))
 else
  some false
theorem z6{x:Bool}(h:vH s t2 t3=some x):aP Pg GE 0 (cA Vo 12) (EX .normal (mY s t4 x)) (Bg s t2 t3 t4):=by
 rcases aN h with⟨c1,h⟩|⟨c1,h⟩
 ·obtain rfl:=lf h
  exact bk UO (sv (cy C2 (.str t2) [])<|sg 4 c1<|sv (cy C2 (.str t3) [])<|sv (cy C2 (.str t2) [])<|eF .normal (mY s t4 (!(t3==t2))))<|by kernel_rfl
 ·obtain rfl:=lf h
  exact bk UO (sv (cy C2 (.str t2) [])<|sg 4 c1<|eF .normal (mY s t4 false))<|by kernel_rfl
end
def uh(s:ag)(a:(List ae))(a2:ag)(a3:ag)(a4:ag):Option ag:=
 (vH s a2 a3).bind fun o2=>
 if o2=true then
  some a4
 else
  some s
theorem vI{s:ag}{a:(List ae)}{a2:ag}{a3:ag}{a4:ag}{r:ag}(h:uh s a a2 a3 a4=some r):CC Pg GE 55 [.str s,sl aa a,.eptr (cS a2),.eptr (cS a3),.eptr (cS a4)] (.str r) []:=by
 obtain⟨o2,bo2,h⟩:=aG h
 have p4:=fun{sc F} (r:PS sc F)=>oz 2<|cU (z6 s a2 a3 a4 bo2)<|r
 rcases aN h with⟨c3,h⟩|⟨c3,h⟩
 ·obtain rfl:=lf h
  have z:=p4<|sg 0 c3<|sv (cy C2 (.str a4) [])<|en (aI (rP (.str a4))<|trivial)
  exact cC UO call55 func55 (c:=Vo) rfl (aI trivial (aI (aj al a) (aI (bD a2) (aI (bD a3) (aI (bD a4) trivial))))) z<|by kernel_rfl
 ·obtain rfl:=lf h
  have z:=p4<|sg 0 c3<|en (aI (rP (.str s))<|trivial)
  exact cC UO call55 func55 (c:=Vo) rfl (aI trivial (aI (aj al a) (aI (bD a2) (aI (bD a3) (aI (bD a4) trivial))))) z<|by kernel_rfl
def eh(s:ag)(a:(List ae))(c:ag)(c2:ag)(c3:ag)(c4:ag)(c5:ag)(k1:(List ae)):Option (ag×(List ae)):=
 (uh s a c c2 c3).bind fun r1=>
 (app k1 ([(⟨s,r1⟩:ae)]:List ae)).bind fun l2=>
 some (r1,l2)
theorem fT{s:ag}{a:(List ae)}{c:ag}{c2:ag}{c3:ag}{c4:ag}{c5:ag}{k1:(List ae)}{r:ag×(List ae)}(h:eh s a c c2 c3 c4 c5 k1=some r):C Pg GE 105 [.str s,.bptr 0 0,.eptr ((cL aa) a),.bptr 1 0] [] [.cells [.func (.func 55) [] [.eptr (cS c),.eptr (cS c2),.eptr (cS c3)],.func (.func 54) [] [.eptr (cS c4),.eptr (cS c5)]] [],.cells [sl aa k1] [(0,137)]] (.str r.1) [] [.cells [.func (.func 55) [] [.eptr (cS c),.eptr (cS c2),.eptr (cS c3)],.func (.func 54) [] [.eptr (cS c4),.eptr (cS c5)]] [],.cells [sl aa r.2] [(0,137)]]:=by
 obtain⟨r1,br1,h⟩:=aG h
 obtain⟨l2,bl2,h⟩:=aG h
 obtain rfl:=lf h
 have z:=ss<|sv (cy GT (sl aa a) [])<|cH (vI br1)<|sv (kr s r1)<|sv (IQ.mk' (v:=nV) oc ([(⟨s,r1⟩:ae)]:List ae) 1 (by kernel_rfl))<|sv (IQ.ap bl2)<|en (aI (rP (.str r1))<|aI trivial<|aI (rL [.cells [.func (.func 55) [] [.eptr (cS c),.eptr (cS c2),.eptr (cS c3)],.func (.func 54) [] [.eptr (cS c4),.eptr (cS c5)]] [],.cells [sl aa l2] [(0,137)]])<|(aI (aI (aI trivial (aI (ba (n:=2) (bD c)) (aI (ba (n:=2) (bD c2)) (aI (ba (n:=2) (bD c3)) trivial)))) (aI (aI trivial (aI (ba (n:=2) (bD c4)) (aI (ba (n:=2) (bD c5)) trivial))) trivial)) (aI (aI (up (n:=2) (aj al l2)) trivial) trivial)))
 exact C.evGp (A:=TB) mixed (m:=2) (c:=TV) rfl call105 func105 rfl z<|by kernel_rfl
section
variable(t1:Bool)(v:(List ae))(v2:ag)(v3:ag)(v4:ag)(v5:ag)(v6:ag)(m:(List ae))(m2:ag)(m3:Int)(m4:ag)(m5:waB)(m6:waA)(m7:Int)(m8:ag)(m9:Int)(m10:waF)(m11:waF)(m12:waB)(m13:waF)
def gr:az:=aZ 17 [(1,.eptr (cB t1)),(2,.bptr 0 0),(3,.bptr 3 0),(4,.bptr 4 0)] [.cells [.func (.func 105) [] [.bptr 1 0,.eptr ((cL aa) v),.bptr 2 0]] [],.cells [.func (.func 55) [] [.eptr (cS v2),.eptr (cS v3),.eptr (cS v4)],.func (.func 54) [] [.eptr (cS v5),.eptr (cS v6)]] [],.cells [sl aa m] [(0,137)],.cells [.str m2,.int .i64 m3,.str m4,sl ai m5,sl cS m6,.int .i64 m7,.str m8,.int .i64 m9,sl aw m10,sl aw m11] [],.cells [.str ([]:ag),.int .i64 0,.str ([]:ag),sl ai m12,sl cS ([]:List ag),.int .i64 0,.str ([]:ag),.int .i64 0,sl aw m13,sl aw m13] [(3,60),(4,9),(8,58),(9,58)]] []
def cj(o:(List ae)×ag):az:=aZ 17 [(3,.bptr 3 0),(4,.bptr 4 0)] [.cells [.func (.func 105) [] [.bptr 1 0,.eptr ((cL aa) v),.bptr 2 0]] [],.cells [.func (.func 55) [] [.eptr (cS v2),.eptr (cS v3),.eptr (cS v4)],.func (.func 54) [] [.eptr (cS v5),.eptr (cS v6)]] [],.cells [sl aa o.1] [(0,137)],.cells [.str o.2,.int .i64 m3,.str m4,sl ai m5,sl cS m6,.int .i64 m7,.str m8,.int .i64 m9,sl aw m10,sl aw m11] [],.cells [.str ([]:ag),.int .i64 0,.str ([]:ag),sl ai m12,sl cS ([]:List ag),.int .i64 0,.str ([]:ag),.int .i64 0,sl aw m13,sl aw m13] [(3,60),(4,9),(8,58),(9,58)]] []
def dH:Option (((List ae)×ag)):=
 if t1=true then
  (eh m2 v v2 v3 v4 v5 v6 m).bind fun r2=>
  some (r2.2,r2.1)
 else
  some (m,m2)
theorem gb{x:((List ae)×ag)}(h:dH t1 v v2 v3 v4 v5 v6 m m2=some x):aP Pg GE 3 (cA Rp 6) (EX .normal (cj v v2 v3 v4 v5 v6 m3 m4 m5 m6 m7 m8 m9 m10 m11 m12 m13 x)) (gr t1 v v2 v3 v4 v5 v6 m m2 m3 m4 m5 m6 m7 m8 m9 m10 m11 m12 m13):=by
 rcases aN h with⟨c1,h⟩|⟨c1,h⟩
 ·obtain⟨r2,br2,h⟩:=aG h
  obtain rfl:=lf h
  exact bk Ot (sv (cy UX (.bool t1) [])<|sg 0 c1<|ss<|ss<|si (.cg ⟨[1,2],[.str m2,.bptr 0 0,.eptr ((cL aa) v),.bptr 1 0],[],[.cells [.func (.func 55) [] [.eptr (cS v2),.eptr (cS v3),.eptr (cS v4)],.func (.func 54) [] [.eptr (cS v5),.eptr (cS v6)]] [],.cells [sl aa m] [(0,137)]],[.cells [.func (.func 55) [] [.eptr (cS v2),.eptr (cS v3),.eptr (cS v4)],.func (.func 54) [] [.eptr (cS v5),.eptr (cS v6)]] [],.cells [sl aa m] [(0,137)]],[.cells [.func (.func 55) [] [.eptr (cS v2),.eptr (cS v3),.eptr (cS v4)],.func (.func 54) [] [.eptr (cS v5),.eptr (cS v6)]] [],.cells [sl aa r2.2] [(0,137)]],[.cells [.func (.func 55) [] [.eptr (cS v2),.eptr (cS v3),.eptr (cS v4)],.func (.func 54) [] [.eptr (cS v5),.eptr (cS v6)]] [],.cells [sl aa r2.2] [(0,137)]],.str r2.1,.str r2.1,[]⟩) (fT br2)<|sf (aI (xR [1,2] (.str m2) trivial) (aI (xB [1,2] 0 1 0 rfl) (aI (xR [1,2] (.eptr ((cL aa) v)) (lS al v)) (aI (xB [1,2] 1 2 0 rfl) trivial))))<|sf (aI (aI (rB (.cells [.func (.func 55) [] [.eptr (cS v2),.eptr (cS v3),.eptr (cS v4)],.func (.func 54) [] [.eptr (cS v5),.eptr (cS v6)]] [])) (aI (rW []) (aI (xR [1,2] (.func (.func 55) [] [.eptr (cS v2),.eptr (cS v3),.eptr (cS v4)]) (aI trivial (aI (bD v2) (aI (bD v3) (aI (bD v4) trivial))))) (aI (xR [1,2] (.func (.func 54) [] [.eptr (cS v5),.eptr (cS v6)]) (aI trivial (aI (bD v5) (aI (bD v6) trivial)))) trivial)))) (aI (aI (rB (.cells [sl aa m] [(0,137)])) (aI (rW [(0,137)]) (aI (xR [1,2] (sl aa m) (aj al m)) trivial))) trivial))<|sf (aI (aI (rW []) (aI (xR [1,2] (.func (.func 55) [] [.eptr (cS v2),.eptr (cS v3),.eptr (cS v4)]) (aI trivial (aI (bD v2) (aI (bD v3) (aI (bD v4) trivial))))) (aI (xR [1,2] (.func (.func 54) [] [.eptr (cS v5),.eptr (cS v6)]) (aI trivial (aI (bD v5) (aI (bD v6) trivial)))) trivial))) (aI (aI (rW [(0,137)]) (aI (xR [1,2] (sl aa r2.2) (aj al r2.2)) trivial)) trivial))<|sf (xR [1,2] (.str r2.1) trivial)<|ss<|eF .normal (cj v v2 v3 v4 v5 v6 m3 m4 m5 m6 m7 m8 m9 m10 m11 m12 m13 (r2.2,r2.1)))<|by kernel_rfl
 ·obtain rfl:=lf h
  exact bk Ot (sv (cy UX (.bool t1) [])<|sg 0 c1<|eF .normal (cj v v2 v3 v4 v5 v6 m3 m4 m5 m6 m7 m8 m9 m10 m11 m12 m13 (m,m2)))<|by kernel_rfl
end
def dY(p:ay)(a:Bool)(c:(List ae))(c2:ag)(c3:ag)(c4:ag)(c5:ag)(c6:ag)(k2:(List ae)):Option (ay×(List ae)):=
 (dH a c c2 c3 c4 c5 c6 k2 p.Name).bind fun o3=>
 (mJ dQ p.Type_).bind fun r4=>
 some ((⟨o3.2,r4⟩:ay),o3.1)
theorem gM{p:ay}{a:Bool}{c:(List ae)}{c2:ag}{c3:ag}{c4:ag}{c5:ag}{c6:ag}{k2:(List ae)}{r:ay×(List ae)}(h:dY p a c c2 c3 c4 c5 c6 k2=some r):C Pg GE 108 [.agg (au p),.eptr (cB a),.bptr 0 0] [] [.cells [.func (.func 105) [] [.bptr 1 0,.eptr ((cL aa) c),.bptr 2 0]] [],.cells [.func (.func 55) [] [.eptr (cS c2),.eptr (cS c3),.eptr (cS c4)],.func (.func 54) [] [.eptr (cS c5),.eptr (cS c6)]] [],.cells [sl aa k2] [(0,137)]] (.agg (au r.1)) [] [.cells [.func (.func 105) [] [.bptr 1 0,.eptr ((cL aa) c),.bptr 2 0]] [],.cells [.func (.func 55) [] [.eptr (cS c2),.eptr (cS c3),.eptr (cS c4)],.func (.func 54) [] [.eptr (cS c5),.eptr (cS c6)]] [],.cells [sl aa r.2] [(0,137)]]:=by
 obtain⟨o3,bo3,h⟩:=aG h
 obtain⟨r4,br4,h⟩:=aG h
 obtain rfl:=lf h
 have z:=sx (mr p)<|sx Pm<|oz 0<|cU (gb a c c2 c3 c4 c5 c6 k2 p.Name p.Type_.Op p.Type_.Name p.Type_.Args p.Type_.Names p.Type_.Pred.Op p.Type_.Pred.Name p.Type_.Pred.N p.Type_.Pred.Kids p.Type_.Preds ([]:List am) ([]:List ax) bo3)<|IS [0,1,0,4,12,31,63]<|ss<|sv (jZ p.Type_ [])<|cH (mZ dQ (fun _ _ h=>gq h) br4)<|sv (Bx o3.2 r4)<|sx (mr (⟨o3.2,r4⟩:ay))<|en (aI (IN (⟨o3.2,r4⟩:ay))<|aI (UM (n:=3) (bh (⟨o3.2,r4⟩:ay)))<|aI (rL [.cells [.func (.func 105) [] [.bptr 1 0,.eptr ((cL aa) c),.bptr 2 0]] [],.cells [.func (.func 55) [] [.eptr (cS c2),.eptr (cS c3),.eptr (cS c4)],.func (.func 54) [] [.eptr (cS c5),.eptr (cS c6)]] [],.cells [sl aa o3.1] [(0,137)]])<|(aI (aI (aI trivial (aI (aX (i:=1) (n:=3) rfl) (aI (ba (n:=3) (lS al c)) (aI (aX (i:=2) (n:=3) rfl) trivial)))) trivial) (aI (aI (aI trivial (aI (ba (n:=3) (bD c2)) (aI (ba (n:=3) (bD c3)) (aI (ba (n:=3) (bD c4)) trivial)))) (aI (aI trivial (aI (ba (n:=3) (bD c5)) (aI (ba (n:=3) (bD c6)) trivial))) trivial)) (aI (aI (up (n:=3) (aj al o3.1)) trivial) trivial))))
 exact C.evGp (A:=Ot) mixed (m:=3) (c:=Rp) rfl call108 func108 rfl z<|by kernel_rfl
section
variable(v:Bool)(t8:waD)(t9:Int)(v2:(List ae))(v3:ag)(v4:ag)(v5:ag)(v6:ag)(v7:ag)(out:waD)(t10:Int)(m:(List ae))
def aQ:az:=aZ 22 [(1,.func (.func 108) [] [.eptr (cB v),.bptr 0 0]),(5,sl au out),(8,sl au t8),(9,.int .i64 t9),(10,.int .i64 t10)] [.cells [.func (.func 105) [] [.bptr 1 0,.eptr ((cL aa) v2),.bptr 2 0]] [],.cells [.func (.func 55) [] [.eptr (cS v3),.eptr (cS v4),.eptr (cS v5)],.func (.func 54) [] [.eptr (cS v6),.eptr (cS v7)]] [],.cells [sl aa m] [(0,137)]] [((5,0),85)]
def bO(o:waD×(List ae)):az:=aZ 22 [(5,sl au o.1)] [.cells [.func (.func 105) [] [.bptr 1 0,.eptr ((cL aa) v2),.bptr 2 0]] [],.cells [.func (.func 55) [] [.eptr (cS v3),.eptr (cS v4),.eptr (cS v5)],.func (.func 54) [] [.eptr (cS v6),.eptr (cS v7)]] [],.cells [sl aa o.2] [(0,137)]] [((5,0),85)]
def cN:Option ((waD×Int×(List ae))⊕((waD×(List ae)))):=
 if(decide (t10<t9))=true then
  (fO t8 t10).bind fun x2=>
  (dY x2 v v2 v3 v4 v5 v6 v7 m).bind fun r3=>
  (app out ([r3.1]:List ay)).bind fun l4=>
  some (.inl (l4,bZ (t10+1),r3.2))
 else
  some (.inr (out,m))
def cX:Option ((waD×(List ae))):=loop (fun(zz:waD×Int×(List ae))=>cN v t8 t9 v2 v3 v4 v5 v6 v7 zz.1 zz.2.1 zz.2.2) (out,t10,m)
theorem fj{y:(waD×Int×(List ae))⊕((waD×(List ae)))}(h:cN v t8 t9 v2 v3 v4 v5 v6 v7 out t10 m=some y):aP Pg GE 3 (cA Oz 119) (LQ (fun(zz:waD×Int×(List ae))=>aQ v t8 t9 v2 v3 v4 v5 v6 v7 zz.1 zz.2.1 zz.2.2) (fun _=>.exit 0) (bO v2 v3 v4 v5 v6 v7) y) (aQ v t8 t9 v2 v3 v4 v5 v6 v7 out t10 m):=by
 rcases aN h with⟨c1,h⟩|⟨c1,h⟩
 ·obtain⟨x2,bx2,h⟩:=aG h
  obtain⟨r3,br3,h⟩:=aG h
  obtain⟨l4,bl4,h⟩:=aG h
  obtain rfl:=lf h
  have z:=sg 0 c1<|sv (kU.ia (k:=.i64) bx2)<|sv (AB x2)<|sx Pm<|sx (mr x2)<|sv (Ij x2 [])<|si (.cg ⟨[0,1,2],[.agg (au x2),.eptr (cB v),.bptr 0 0],[],[.cells [.func (.func 105) [] [.bptr 1 0,.eptr ((cL aa) v2),.bptr 2 0]] [],.cells [.func (.func 55) [] [.eptr (cS v3),.eptr (cS v4),.eptr (cS v5)],.func (.func 54) [] [.eptr (cS v6),.eptr (cS v7)]] [],.cells [sl aa m] [(0,137)]],[.cells [.func (.func 105) [] [.bptr 1 0,.eptr ((cL aa) v2),.bptr 2 0]] [],.cells [.func (.func 55) [] [.eptr (cS v3),.eptr (cS v4),.eptr (cS v5)],.func (.func 54) [] [.eptr (cS v6),.eptr (cS v7)]] [],.cells [sl aa m] [(0,137)]],[.cells [.func (.func 105) [] [.bptr 1 0,.eptr ((cL aa) v2),.bptr 2 0]] [],.cells [.func (.func 55) [] [.eptr (cS v3),.eptr (cS v4),.eptr (cS v5)],.func (.func 54) [] [.eptr (cS v6),.eptr (cS v7)]] [],.cells [sl aa r3.2] [(0,137)]],[.cells [.func (.func 105) [] [.bptr 1 0,.eptr ((cL aa) v2),.bptr 2 0]] [],.cells [.func (.func 55) [] [.eptr (cS v3),.eptr (cS v4),.eptr (cS v5)],.func (.func 54) [] [.eptr (cS v6),.eptr (cS v7)]] [],.cells [sl aa r3.2] [(0,137)]],.agg (au r3.1),.agg (au r3.1),[]⟩) (gM br3)<|sf (aI (xR [0,1,2] (.agg (au x2)) (bh x2)) (aI (xR [0,1,2] (.eptr (cB v)) (Tu v)) (aI (xB [0,1,2] 0 0 0 rfl) trivial)))<|sf (aI (aI (rB (.cells [.func (.func 105) [] [.bptr 1 0,.eptr ((cL aa) v2),.bptr 2 0]] [])) (aI (rW []) (aI (xF [0,1,2] (.func 105) [] [.bptr 1 0,.eptr ((cL aa) v2),.bptr 2 0] [] [.bptr 1 0,.eptr ((cL aa) v2),.bptr 2 0] trivial (aI (xB [0,1,2] 1 1 0 rfl) (aI (xR [0,1,2] (.eptr ((cL aa) v2)) (lS al v2)) (aI (xB [0,1,2] 2 2 0 rfl) trivial)))) trivial))) (aI (aI (rB (.cells [.func (.func 55) [] [.eptr (cS v3),.eptr (cS v4),.eptr (cS v5)],.func (.func 54) [] [.eptr (cS v6),.eptr (cS v7)]] [])) (aI (rW []) (aI (xR [0,1,2] (.func (.func 55) [] [.eptr (cS v3),.eptr (cS v4),.eptr (cS v5)]) (aI trivial (aI (bD v3) (aI (bD v4) (aI (bD v5) trivial))))) (aI (xR [0,1,2] (.func (.func 54) [] [.eptr (cS v6),.eptr (cS v7)]) (aI trivial (aI (bD v6) (aI (bD v7) trivial)))) trivial)))) (aI (aI (rB (.cells [sl aa m] [(0,137)])) (aI (rW [(0,137)]) (aI (xR [0,1,2] (sl aa m) (aj al m)) trivial))) trivial)))<|sf (aI (aI (rW []) (aI (xF [0,1,2] (.func 105) [] [.bptr 1 0,.eptr ((cL aa) v2),.bptr 2 0] [] [.bptr 1 0,.eptr ((cL aa) v2),.bptr 2 0] trivial (aI (xB [0,1,2] 1 1 0 rfl) (aI (xR [0,1,2] (.eptr ((cL aa) v2)) (lS al v2)) (aI (xB [0,1,2] 2 2 0 rfl) trivial)))) trivial)) (aI (aI (rW []) (aI (xR [0,1,2] (.func (.func 55) [] [.eptr (cS v3),.eptr (cS v4),.eptr (cS v5)]) (aI trivial (aI (bD v3) (aI (bD v4) (aI (bD v5) trivial))))) (aI (xR [0,1,2] (.func (.func 54) [] [.eptr (cS v6),.eptr (cS v7)]) (aI trivial (aI (bD v6) (aI (bD v7) trivial)))) trivial))) (aI (aI (rW [(0,137)]) (aI (xR [0,1,2] (sl aa r3.2) (aj al r3.2)) trivial)) trivial)))<|sf (xR [0,1,2] (.agg (au r3.1)) (bh r3.1))<|sv (kU.mk' (v:=Am) xQ ([r3.1]:List ay) 1 (by kernel_rfl))<|sv (kU.ap bl4)<|sK 3 .normal (aQ v t8 t9 v2 v3 v4 v5 v6 v7 l4 (bZ (t10+1)) r3.2) rfl (dF (aI (aI trivial (aI (ba (Tu v)) (aI (aX rfl) trivial))) (aI (up (aj bh l4)) (aI (up (aj bh t8)) (aI trivial (aI trivial trivial)))))) (aI (aI (aI trivial (aI (aX rfl) (aI (ba (lS al v2)) (aI (aX rfl) trivial)))) trivial) (aI (aI (aI trivial (aI (ba (bD v3)) (aI (ba (bD v4)) (aI (ba (bD v5)) trivial)))) (aI (aI trivial (aI (ba (bD v6)) (aI (ba (bD v7)) trivial))) trivial)) (aI (aI (up (aj al r3.2)) trivial) trivial)))
  exact dZ (A:=Oq) mixed z<|by kernel_rfl
 ·obtain rfl:=lf h
  have z:=sg 0 c1<|eF (.exit 0) (bO v2 v3 v4 v5 v6 v7 (out,m))
  exact iZ Oq (by intro hx;cases hx) z<|by kernel_rfl
theorem fl{x:(waD×(List ae))}(h:cX v t8 t9 v2 v3 v4 v5 v6 v7 out t10 m=some x):aP Pg GE 3 (.loop (cA Oz 119)) (EX (.exit 0) (bO v2 v3 v4 v5 v6 v7 x)) (aQ v t8 t9 v2 v3 v4 v5 v6 v7 out t10 m):=
 aP.loop (S:=fun(zz:waD×Int×(List ae))=>aQ v t8 t9 v2 v3 v4 v5 v6 v7 zz.1 zz.2.1 zz.2.2) (ex:=(fun _=>.exit 0)) (s:=(out,t10,m)) h fun zz y hy=>fj v t8 t9 v2 v3 v4 v5 v6 v7 zz.1 zz.2.1 zz.2.2 hy
end
def dw(a:waD)(c:Bool)(c2:(List ae))(c3:ag)(c4:ag)(c5:ag)(c6:ag)(c7:ag)(k2:(List ae)):Option (waD×(List ae)):=
 (cX c a (a.length:Int) c2 c3 c4 c5 c6 c7 ([]:List ay) 0 k2).bind fun o5=>
 some (o5.1,o5.2)
theorem fE{a:waD}{c:Bool}{c2:(List ae)}{c3:ag}{c4:ag}{c5:ag}{c6:ag}{c7:ag}{k2:(List ae)}{r:waD×(List ae)}(h:dw a c c2 c3 c4 c5 c6 c7 k2=some r):C Pg GE 107 [sl au a,.func (.func 108) [] [.eptr (cB c),.bptr 0 0]] [] [.cells [.func (.func 105) [] [.bptr 1 0,.eptr ((cL aa) c2),.bptr 2 0]] [],.cells [.func (.func 55) [] [.eptr (cS c3),.eptr (cS c4),.eptr (cS c5)],.func (.func 54) [] [.eptr (cS c6),.eptr (cS c7)]] [],.cells [sl aa k2] [(0,137)]] (sl au r.1) [(0,85)] [.cells [.func (.func 105) [] [.bptr 1 0,.eptr ((cL aa) c2),.bptr 2 0]] [],.cells [.func (.func 55) [] [.eptr (cS c3),.eptr (cS c4),.eptr (cS c5)],.func (.func 54) [] [.eptr (cS c6),.eptr (cS c7)]] [],.cells [sl aa r.2] [(0,137)]]:=by
 obtain⟨o5,bo5,h⟩:=aG h
 obtain rfl:=lf h
 have z:=bW (kU.ln a)<|cU (fl c a (a.length:Int) c2 c3 c4 c5 c6 c7 ([]:List ay) 0 k2 bo5)<|en (aI (rP (sl au o5.1))<|aI (up (n:=3) (aj bh o5.1))<|aI (rL [.cells [.func (.func 105) [] [.bptr 1 0,.eptr ((cL aa) c2),.bptr 2 0]] [],.cells [.func (.func 55) [] [.eptr (cS c3),.eptr (cS c4),.eptr (cS c5)],.func (.func 54) [] [.eptr (cS c6),.eptr (cS c7)]] [],.cells [sl aa o5.2] [(0,137)]])<|(aI (aI (aI trivial (aI (aX (i:=1) (n:=3) rfl) (aI (ba (n:=3) (lS al c2)) (aI (aX (i:=2) (n:=3) rfl) trivial)))) trivial) (aI (aI (aI trivial (aI (ba (n:=3) (bD c3)) (aI (ba (n:=3) (bD c4)) (aI (ba (n:=3) (bD c5)) trivial)))) (aI (aI trivial (aI (ba (n:=3) (bD c6)) (aI (ba (n:=3) (bD c7)) trivial))) trivial)) (aI (aI (up (n:=3) (aj al o5.2)) trivial) trivial))))
 exact C.evGp (A:=Oq) mixed (m:=3) (c:=Oz) rfl call107 func107 rfl z<|by kernel_rfl
section
variable(t1:(List ae))(v:aO)(t13:waA)(t14:Int)(v4:ag)(v5:ag)(v6:ag)(v7:ag)(v8:ag)(m:waE)(m2:waD)(m3:waC)(m4:waB)(v2:(List ae))(v3:waA)(t15:Int)
def bP:az:=aZ 44 [(1,.eptr ((cL aa) t1)),(2,.bptr 0 0),(3,.eptr (aA v)),(4,.bptr 2 0),(5,sl aa v2),(6,sl cS v3),(13,sl cS t13),(14,.int .i64 t14),(15,.int .i64 t15)] [.cells [.func (.func 55) [] [.eptr (cS v4),.eptr (cS v5),.eptr (cS v6)],.func (.func 54) [] [.eptr (cS v7),.eptr (cS v8)]] [],.dead,.cells [.str ([]:ag),sl cS ([]:List ag),.int .i64 0,.str ([]:ag),.int .i64 0,sl ac m,sl au m2,sl aA m3,sl ai m4] [(1,9),(5,28),(6,85),(7,89),(8,60)]] [((6,0),9),((5,0),137)]
def dE(o:(List ae)×waA):az:=aZ 44 [(2,.bptr 0 0),(3,.eptr (aA v)),(4,.bptr 2 0),(5,sl aa o.1),(6,sl cS o.2)] [.cells [.func (.func 55) [] [.eptr (cS v4),.eptr (cS v5),.eptr (cS v6)],.func (.func 54) [] [.eptr (cS v7),.eptr (cS v8)]] [],.dead,.cells [.str ([]:ag),sl cS ([]:List ag),.int .i64 0,.str ([]:ag),.int .i64 0,sl ac m,sl au m2,sl aA m3,sl ai m4] [(1,9),(5,28),(6,85),(7,89),(8,60)]] [((6,0),9),((5,0),137)]
def fw:Option (((List ae)×waA×Int)⊕(((List ae)×waA))):=
 if(decide (t15<t14))=true then
  (fO t13 t15).bind fun x3=>
  (uh x3 t1 v4 v5 v6).bind fun r4=>
  (app v3 ([r4]:List ag)).bind fun l5=>
  (app v2 ([(⟨x3,r4⟩:ae)]:List ae)).bind fun l6=>
  some (.inl (l6,l5,bZ (t15+1)))
 else
  some (.inr (v2,v3))
def fV:Option (((List ae)×waA)):=loop (fun(zz:(List ae)×waA×Int)=>fw t1 t13 t14 v4 v5 v6 zz.1 zz.2.1 zz.2.2) (v2,v3,t15)
theorem j9{y:((List ae)×waA×Int)⊕(((List ae)×waA))}(h:fw t1 t13 t14 v4 v5 v6 v2 v3 t15=some y):aP Pg GE 1 (cA OC 247) (LQ (fun(zz:(List ae)×waA×Int)=>bP t1 v t13 t14 v4 v5 v6 v7 v8 m m2 m3 m4 zz.1 zz.2.1 zz.2.2) (fun _=>.exit 0) (dE v v4 v5 v6 v7 v8 m m2 m3 m4) y) (bP t1 v t13 t14 v4 v5 v6 v7 v8 m m2 m3 m4 v2 v3 t15):=by
 rcases aN h with⟨c2,h⟩|⟨c2,h⟩
 ·obtain⟨x3,bx3,h⟩:=aG h
  obtain⟨r4,br4,h⟩:=aG h
  obtain⟨l5,bl5,h⟩:=aG h
  obtain⟨l6,bl6,h⟩:=aG h
  obtain rfl:=lf h
  exact xO Ov (sg 0 c2<|sv (ch.ia (k:=.i64) bx3)<|sv (cy C2 (.str x3) [])<|ss<|sv (cy GT (sl aa t1) [])<|cH (vI br4)<|sv (ch.mk' (v:=PVal.str) E7 ([r4]:List ag) 1 (by kernel_rfl))<|sv (ch.ap bl5)<|sv (kr x3 r4)<|sv (IQ.mk' (v:=nV) oc ([(⟨x3,r4⟩:ae)]:List ae) 1 (by kernel_rfl))<|sv (IQ.ap bl6)<|eF .normal (bP t1 v t13 t14 v4 v5 v6 v7 v8 m m2 m3 m4 l6 l5 (bZ (t15+1))))<|by kernel_rfl
 ·obtain rfl:=lf h
  have z:=sg 0 c2<|eF (.exit 0) (dE v v4 v5 v6 v7 v8 m m2 m3 m4 (v2,v3))
  exact iZ Ov (by intro hx;cases hx) z<|by kernel_rfl
theorem km{x:((List ae)×waA)}(h:fV t1 t13 t14 v4 v5 v6 v2 v3 t15=some x):aP Pg GE 1 (.loop (cA OC 247)) (EX (.exit 0) (dE v v4 v5 v6 v7 v8 m m2 m3 m4 x)) (bP t1 v t13 t14 v4 v5 v6 v7 v8 m m2 m3 m4 v2 v3 t15):=
 aP.loop (S:=fun(zz:(List ae)×waA×Int)=>bP t1 v t13 t14 v4 v5 v6 v7 v8 m m2 m3 m4 zz.1 zz.2.1 zz.2.2) (ex:=(fun _=>.exit 0)) (s:=(v2,v3,t15)) h fun zz y hy=>j9 t1 v t13 t14 v4 v5 v6 v7 v8 m m2 m3 m4 zz.1 zz.2.1 zz.2.2 hy
end
def gW(R45:aT)(a:aO)(a2:(List ae))(c:ag)(c2:ag)(c3:ag)(c4:ag)(c5:ag):Option aO:=
 (ol a2).bind fun r1=>
 (fV a2 a.Names (a.Names.length:Int) c c2 c3 r1 ([]:List ag) 0).bind fun o7=>
 (R45 c c2 c3 c4 c5 a.Body o7.1).bind fun r8=>
 some (⟨a.Con,o7.2,r8⟩:aO)
theorem lF(R45:aT)(hR45:bj R45){a:aO}{a2:(List ae)}{c:ag}{c2:ag}{c3:ag}{c4:ag}{c5:ag}{r:aO}(h:gW R45 a a2 c c2 c3 c4 c5=some r):C Pg GE 110 [.agg (aA a),.eptr ((cL aa) a2),.bptr 0 0] [] [.cells [.func (.func 55) [] [.eptr (cS c),.eptr (cS c2),.eptr (cS c3)],.func (.func 54) [] [.eptr (cS c4),.eptr (cS c5)]] []] (.agg (aA r)) [] [.cells [.func (.func 55) [] [.eptr (cS c),.eptr (cS c2),.eptr (cS c3)],.func (.func 54) [] [.eptr (cS c4),.eptr (cS c5)]] []]:=by
 obtain⟨r1,br1,h⟩:=aG h
 obtain⟨o7,bo7,h⟩:=aG h
 obtain⟨r8,br8,h⟩:=aG h
 obtain rfl:=lf h
 have z:=se (Lt a)<|sx D2<|sv (cy GT (sl aa a2) [])<|cH (u5 br1)<|sv (pg a)<|sv (pn a)<|bW (ch.ln a.Names)<|cU (km a2 a a.Names (a.Names.length:Int) c c2 c3 c4 c5 ([]:List af) ([]:List ay) ([]:List aO) ([]:List am) r1 ([]:List ag) 0 bo7)<|IS [0,1,0,0,0,16,0,120,255,511]<|sv (ta a)<|sv (vg a)<|sv (show bE Pg 95 [.func (.func 55) [] [.eptr (cS c),.eptr (cS c2),.eptr (cS c3)],.func (.func 54) [] [.eptr (cS c4),.eptr (cS c5)]]=some (.agg [.func (.func 55) [] [.eptr (cS c),.eptr (cS c2),.eptr (cS c3)],.func (.func 54) [] [.eptr (cS c4),.eptr (cS c5)]]) by kernel_rfl)<|sv (ph a)<|sv (po a)<|cH (hR45 _ _ _ _ _ _ _ _ br8)<|sv (Bw a.Con o7.2 r8)<|sx (hX (⟨a.Con,o7.2,r8⟩:aO))<|en (aI (MQ (⟨a.Con,o7.2,r8⟩:aO))<|aI (UM (n:=1) (bL (⟨a.Con,o7.2,r8⟩:aO)))<|aI (rL [.cells [.func (.func 55) [] [.eptr (cS c),.eptr (cS c2),.eptr (cS c3)],.func (.func 54) [] [.eptr (cS c4),.eptr (cS c5)]] []])<|(aI (aI (aI trivial (aI (ba (n:=1) (bD c)) (aI (ba (n:=1) (bD c2)) (aI (ba (n:=1) (bD c3)) trivial)))) (aI (aI trivial (aI (ba (n:=1) (bD c4)) (aI (ba (n:=1) (bD c5)) trivial))) trivial)) trivial))
 exact C.evGp (A:=Ov) mixed (m:=1) (c:=OC) rfl call110 func110 rfl z<|by kernel_rfl
section
variable(R45:aT)(v:(List ae))(t8:waC)(t9:Int)(v2:ag)(v3:ag)(v4:ag)(v5:ag)(v6:ag)(out:waC)(t10:Int)
def bp:az:=aZ 22 [(1,.func (.func 110) [] [.eptr ((cL aa) v),.bptr 0 0]),(5,sl aA out),(8,sl aA t8),(9,.int .i64 t9),(10,.int .i64 t10)] [.cells [.func (.func 55) [] [.eptr (cS v2),.eptr (cS v3),.eptr (cS v4)],.func (.func 54) [] [.eptr (cS v5),.eptr (cS v6)]] []] [((5,0),89)]
def cO(o:waC):az:=aZ 22 [(5,sl aA o)] [.cells [.func (.func 55) [] [.eptr (cS v2),.eptr (cS v3),.eptr (cS v4)],.func (.func 54) [] [.eptr (cS v5),.eptr (cS v6)]] []] [((5,0),89)]
def er:Option ((waC×Int)⊕(waC)):=
 if(decide (t10<t9))=true then
  (fO t8 t10).bind fun x2=>
  (gW R45 x2 v v2 v3 v4 v5 v6).bind fun r3=>
  (app out ([r3]:List aO)).bind fun l4=>
  some (.inl (l4,bZ (t10+1)))
 else
  some (.inr out)
def eX:Option waC:=loop (fun(zz:waC×Int)=>er R45 v t8 t9 v2 v3 v4 v5 v6 zz.1 zz.2) (out,t10)
theorem iW(hR45:bj R45){y:(waC×Int)⊕(waC)}(h:er R45 v t8 t9 v2 v3 v4 v5 v6 out t10=some y):aP Pg GE 1 (cA OB 119) (LQ (fun(zz:waC×Int)=>bp v t8 t9 v2 v3 v4 v5 v6 zz.1 zz.2) (fun _=>.exit 0) (cO v2 v3 v4 v5 v6) y) (bp v t8 t9 v2 v3 v4 v5 v6 out t10):=by
 rcases aN h with⟨c1,h⟩|⟨c1,h⟩
 ·obtain⟨x2,bx2,h⟩:=aG h
  obtain⟨r3,br3,h⟩:=aG h
  obtain⟨l4,bl4,h⟩:=aG h
  obtain rfl:=lf h
  have z:=sg 0 c1<|sv (ea.ia (k:=.i64) bx2)<|sv (ku x2)<|sx D2<|sx (hX x2)<|sv (Mq x2 [])<|si (.cg ⟨[0],[.agg (aA x2),.eptr ((cL aa) v),.bptr 0 0],[],[.cells [.func (.func 55) [] [.eptr (cS v2),.eptr (cS v3),.eptr (cS v4)],.func (.func 54) [] [.eptr (cS v5),.eptr (cS v6)]] []],[.cells [.func (.func 55) [] [.eptr (cS v2),.eptr (cS v3),.eptr (cS v4)],.func (.func 54) [] [.eptr (cS v5),.eptr (cS v6)]] []],[.cells [.func (.func 55) [] [.eptr (cS v2),.eptr (cS v3),.eptr (cS v4)],.func (.func 54) [] [.eptr (cS v5),.eptr (cS v6)]] []],[.cells [.func (.func 55) [] [.eptr (cS v2),.eptr (cS v3),.eptr (cS v4)],.func (.func 54) [] [.eptr (cS v5),.eptr (cS v6)]] []],.agg (aA r3),.agg (aA r3),[]⟩) (lF R45 hR45 br3)<|sf (aI (xR [0] (.agg (aA x2)) (bL x2)) (aI (xR [0] (.eptr ((cL aa) v)) (lS al v)) (aI (xB [0] 0 0 0 rfl) trivial)))<|sf (aI (aI (rB (.cells [.func (.func 55) [] [.eptr (cS v2),.eptr (cS v3),.eptr (cS v4)],.func (.func 54) [] [.eptr (cS v5),.eptr (cS v6)]] [])) (aI (rW []) (aI (xR [0] (.func (.func 55) [] [.eptr (cS v2),.eptr (cS v3),.eptr (cS v4)]) (aI trivial (aI (bD v2) (aI (bD v3) (aI (bD v4) trivial))))) (aI (xR [0] (.func (.func 54) [] [.eptr (cS v5),.eptr (cS v6)]) (aI trivial (aI (bD v5) (aI (bD v6) trivial)))) trivial)))) trivial)<|sf (aI (aI (rW []) (aI (xR [0] (.func (.func 55) [] [.eptr (cS v2),.eptr (cS v3),.eptr (cS v4)]) (aI trivial (aI (bD v2) (aI (bD v3) (aI (bD v4) trivial))))) (aI (xR [0] (.func (.func 54) [] [.eptr (cS v5),.eptr (cS v6)]) (aI trivial (aI (bD v5) (aI (bD v6) trivial)))) trivial))) trivial)<|sf (xR [0] (.agg (aA r3)) (bL r3))<|sv (ea.mk' (v:=NR) MA ([r3]:List aO) 1 (by kernel_rfl))<|sv (ea.ap bl4)<|sK 1 .normal (bp v t8 t9 v2 v3 v4 v5 v6 l4 (bZ (t10+1))) rfl (dF (aI (aI trivial (aI (ba (lS al v)) (aI (aX rfl) trivial))) (aI (up (aj bL l4)) (aI (up (aj bL t8)) (aI trivial (aI trivial trivial)))))) (aI (aI (aI trivial (aI (ba (bD v2)) (aI (ba (bD v3)) (aI (ba (bD v4)) trivial)))) (aI (aI trivial (aI (ba (bD v5)) (aI (ba (bD v6)) trivial))) trivial)) trivial)
  exact dZ (A:=Ou) mixed z<|by kernel_rfl
 ·obtain rfl:=lf h
  have z:=sg 0 c1<|eF (.exit 0) (cO v2 v3 v4 v5 v6 out)
  exact iZ Ou (by intro hx;cases hx) z<|by kernel_rfl
theorem jb(hR45:bj R45){x:waC}(h:eX R45 v t8 t9 v2 v3 v4 v5 v6 out t10=some x):aP Pg GE 1 (.loop (cA OB 119)) (EX (.exit 0) (cO v2 v3 v4 v5 v6 x)) (bp v t8 t9 v2 v3 v4 v5 v6 out t10):=
 aP.loop (S:=fun(zz:waC×Int)=>bp v t8 t9 v2 v3 v4 v5 v6 zz.1 zz.2) (ex:=(fun _=>.exit 0)) (s:=(out,t10)) h fun zz y hy=>iW R45 v t8 t9 v2 v3 v4 v5 v6 zz.1 zz.2 hR45 hy
end
def fu(R45:aT)(a:waC)(c:(List ae))(c2:ag)(c3:ag)(c4:ag)(c5:ag)(c6:ag):Option waC:=
 (eX R45 c a (a.length:Int) c2 c3 c4 c5 c6 ([]:List aO) 0).bind fun o5=>
 some o5
theorem jT(R45:aT)(hR45:bj R45){a:waC}{c:(List ae)}{c2:ag}{c3:ag}{c4:ag}{c5:ag}{c6:ag}{r:waC}(h:fu R45 a c c2 c3 c4 c5 c6=some r):C Pg GE 109 [sl aA a,.func (.func 110) [] [.eptr ((cL aa) c),.bptr 0 0]] [] [.cells [.func (.func 55) [] [.eptr (cS c2),.eptr (cS c3),.eptr (cS c4)],.func (.func 54) [] [.eptr (cS c5),.eptr (cS c6)]] []] (sl aA r) [(0,89)] [.cells [.func (.func 55) [] [.eptr (cS c2),.eptr (cS c3),.eptr (cS c4)],.func (.func 54) [] [.eptr (cS c5),.eptr (cS c6)]] []]:=by
 obtain⟨o5,bo5,h⟩:=aG h
 obtain rfl:=lf h
 have z:=bW (ea.ln a)<|cU (jb R45 c a (a.length:Int) c2 c3 c4 c5 c6 ([]:List aO) 0 hR45 bo5)<|en (aI (rP (sl aA o5))<|aI (up (n:=1) (aj bL o5))<|aI (rL [.cells [.func (.func 55) [] [.eptr (cS c2),.eptr (cS c3),.eptr (cS c4)],.func (.func 54) [] [.eptr (cS c5),.eptr (cS c6)]] []])<|(aI (aI (aI trivial (aI (ba (n:=1) (bD c2)) (aI (ba (n:=1) (bD c3)) (aI (ba (n:=1) (bD c4)) trivial)))) (aI (aI trivial (aI (ba (n:=1) (bD c5)) (aI (ba (n:=1) (bD c6)) trivial))) trivial)) trivial))
 exact C.evGp (A:=Ou) mixed (m:=1) (c:=OB) rfl call109 func109 rfl z<|by kernel_rfl
section
variable(scope:(List ae))(v:ag)(v2:ag)(v3:ag)(v4:ag)(v5:ag)(m:Int)(m2:ag)(m3:Int)(m4:waE)(m5:waD)(m6:waC)(m7:waB)(m8:waE)(m9:waD)(m10:waC)(m11:waB)(m12:(List ae))
def lH:az:=aZ 96 [(3,.bptr 0 0),(4,.bptr 1 0),(5,.eptr ((cL aa) scope)),(6,.bptr 3 0),(7,.bptr 4 0),(8,.bptr 5 0)] [.cells [.func (.func 55) [] [.eptr (cS v),.eptr (cS v2),.eptr (cS v3)],.func (.func 54) [] [.eptr (cS v4),.eptr (cS v5)]] [],.cells [.int .i64 m,.str m2,.int .i64 m3,sl ac m4,sl au m5,sl aA m6,sl ai m7] [(6,60)],.dead,.cells [.int .i64 0,.str ([]:ag),.int .i64 0,sl ac m8,sl au m9,sl aA m10,sl ai m11] [(3,28),(4,85),(5,89),(6,60)],.cells [sl aa m12] [(0,137)],.cells [.func (.func 105) [] [.bptr 0 0,.eptr ((cL aa) scope),.bptr 4 0]] []] []
def bY(o:ag×(List ae)):az:=aZ 96 [(3,.bptr 0 0),(4,.bptr 1 0),(5,.eptr ((cL aa) scope)),(6,.bptr 3 0),(7,.bptr 4 0),(8,.bptr 5 0)] [.cells [.func (.func 55) [] [.eptr (cS v),.eptr (cS v2),.eptr (cS v3)],.func (.func 54) [] [.eptr (cS v4),.eptr (cS v5)]] [],.cells [.int .i64 m,.str o.1,.int .i64 m3,sl ac m4,sl au m5,sl aA m6,sl ai m7] [(6,60)],.dead,.cells [.int .i64 0,.str ([]:ag),.int .i64 0,sl ac m8,sl au m9,sl aA m10,sl ai m11] [(3,28),(4,85),(5,89),(6,60)],.cells [sl aa o.2] [(0,137)],.cells [.func (.func 105) [] [.bptr 0 0,.eptr ((cL aa) scope),.bptr 4 0]] []] []
def gG:Option ((ag×(List ae))):=
 (eV (⟨m,m2,m3,m4,m5,m6,m7⟩:af)).bind fun r3=>
 if r3=true then
  (vJ scope m2).bind fun r6=>
  if r6.2=true then
   some (r6.1,m12)
  else
   (zZ m2 v4 v5).bind fun r9=>
   some (r9,m12)
 else
  if(m==7)=true then
   (eh m2 scope v v2 v3 v4 v5 m12).bind fun r12=>
   some (r12.1,r12.2)
  else
   some (m2,m12)
theorem lb{x:(ag×(List ae))}(h:gG scope v v2 v3 v4 v5 m m2 m3 m4 m5 m6 m7 m12=some x):aP Pg GE 0 (cA Rf 62) (EX .normal (bY scope v v2 v3 v4 v5 m m3 m4 m5 m6 m7 m8 m9 m10 m11 x)) (lH scope v v2 v3 v4 v5 m m2 m3 m4 m5 m6 m7 m8 m9 m10 m11 m12):=by
 obtain⟨r3,br3,h⟩:=aG h
 have p5:=fun{sc F} (r:PS sc F)=>sv (bQ (⟨m,m2,m3,m4,m5,m6,m7⟩:af) [])<|cH (iT br3)<|r
 rcases aN h with⟨c4,h⟩|⟨c4,h⟩
 ·obtain⟨r6,br6,h⟩:=aG h
  have p8:=fun{sc F} (r:PS sc F)=>p5<|sg 0 c4<|sv (cy GT (sl aa scope) [])<|ss<|cH (z8 br6)<|r
  rcases aN h with⟨c7,h⟩|⟨c7,h⟩
  ·obtain rfl:=lf h
   exact bk JV (p8<|sg 0 c7<|ss<|eF .normal (bY scope v v2 v3 v4 v5 m m3 m4 m5 m6 m7 m8 m9 m10 m11 (r6.1,m12)))<|by kernel_rfl
  ·obtain⟨r9,br9,h⟩:=aG h
   obtain rfl:=lf h
   exact bk JV (p8<|sg 0 c7<|ss<|ss<|cH (Ed br9)<|ss<|eF .normal (bY scope v v2 v3 v4 v5 m m3 m4 m5 m6 m7 m8 m9 m10 m11 (r9,m12)))<|by kernel_rfl
 ·have p11:=fun{sc F} (r:PS sc F)=>p5<|sg 0 c4<|ss<|r
  rcases aN h with⟨c10,h⟩|⟨c10,h⟩
  ·obtain⟨r12,br12,h⟩:=aG h
   obtain rfl:=lf h
   exact bk JV (p11<|sg 0 c10<|ss<|ss<|si (.cg ⟨[0,4],[.str m2,.bptr 0 0,.eptr ((cL aa) scope),.bptr 1 0],[],[.cells [.func (.func 55) [] [.eptr (cS v),.eptr (cS v2),.eptr (cS v3)],.func (.func 54) [] [.eptr (cS v4),.eptr (cS v5)]] [],.cells [sl aa m12] [(0,137)]],[.cells [.func (.func 55) [] [.eptr (cS v),.eptr (cS v2),.eptr (cS v3)],.func (.func 54) [] [.eptr (cS v4),.eptr (cS v5)]] [],.cells [sl aa m12] [(0,137)]],[.cells [.func (.func 55) [] [.eptr (cS v),.eptr (cS v2),.eptr (cS v3)],.func (.func 54) [] [.eptr (cS v4),.eptr (cS v5)]] [],.cells [sl aa r12.2] [(0,137)]],[.cells [.func (.func 55) [] [.eptr (cS v),.eptr (cS v2),.eptr (cS v3)],.func (.func 54) [] [.eptr (cS v4),.eptr (cS v5)]] [],.cells [sl aa r12.2] [(0,137)]],.str r12.1,.str r12.1,[]⟩) (fT br12)<|sf (aI (xR [0,4] (.str m2) trivial) (aI (xB [0,4] 0 0 0 rfl) (aI (xR [0,4] (.eptr ((cL aa) scope)) (lS al scope)) (aI (xB [0,4] 1 4 0 rfl) trivial))))<|sf (aI (aI (rB (.cells [.func (.func 55) [] [.eptr (cS v),.eptr (cS v2),.eptr (cS v3)],.func (.func 54) [] [.eptr (cS v4),.eptr (cS v5)]] [])) (aI (rW []) (aI (xR [0,4] (.func (.func 55) [] [.eptr (cS v),.eptr (cS v2),.eptr (cS v3)]) (aI trivial (aI (bD v) (aI (bD v2) (aI (bD v3) trivial))))) (aI (xR [0,4] (.func (.func 54) [] [.eptr (cS v4),.eptr (cS v5)]) (aI trivial (aI (bD v4) (aI (bD v5) trivial)))) trivial)))) (aI (aI (rB (.cells [sl aa m12] [(0,137)])) (aI (rW [(0,137)]) (aI (xR [0,4] (sl aa m12) (aj al m12)) trivial))) trivial))<|sf (aI (aI (rW []) (aI (xR [0,4] (.func (.func 55) [] [.eptr (cS v),.eptr (cS v2),.eptr (cS v3)]) (aI trivial (aI (bD v) (aI (bD v2) (aI (bD v3) trivial))))) (aI (xR [0,4] (.func (.func 54) [] [.eptr (cS v4),.eptr (cS v5)]) (aI trivial (aI (bD v4) (aI (bD v5) trivial)))) trivial))) (aI (aI (rW [(0,137)]) (aI (xR [0,4] (sl aa r12.2) (aj al r12.2)) trivial)) trivial))<|sf (xR [0,4] (.str r12.1) trivial)<|ss<|eF .normal (bY scope v v2 v3 v4 v5 m m3 m4 m5 m6 m7 m8 m9 m10 m11 (r12.1,r12.2)))<|by kernel_rfl
  ·obtain rfl:=lf h
   exact bk JV (p11<|sg 0 c10<|eF .normal (bY scope v v2 v3 v4 v5 m m3 m4 m5 m6 m7 m8 m9 m10 m11 (m2,m12)))<|by kernel_rfl
end
section
variable(scope:(List ae))(kids:waE)(i:Int)(t59:waE)(t60:Int)(v:ag)(v2:ag)(v3:ag)(v4:ag)(v5:ag)(m:Int)(m2:ag)(m3:Int)(m4:waD)(m5:waC)(m6:waB)(m7:waE)(m8:waD)(m9:waC)(m10:waB)(m11:(List ae))(m12:Int)(m13:ag)(m14:Int)(m15:waE)(m16:waD)(m17:waC)(m18:waB)
def lI:az:=aZ 96 [(3,.bptr 0 0),(4,.bptr 1 0),(5,.eptr ((cL aa) scope)),(6,.bptr 3 0),(7,.bptr 4 0),(12,sl ac kids),(13,.int .i64 i),(14,.bptr 7 0),(59,sl ac t59),(60,.int .i64 t60),(61,.int .i64 i)] [.cells [.func (.func 55) [] [.eptr (cS v),.eptr (cS v2),.eptr (cS v3)],.func (.func 54) [] [.eptr (cS v4),.eptr (cS v5)]] [],.cells [.int .i64 m,.str m2,.int .i64 m3,sl ac t59,sl au m4,sl aA m5,sl ai m6] [(4,85),(6,60)],.dead,.cells [.int .i64 0,.str ([]:ag),.int .i64 0,sl ac m7,sl au m8,sl aA m9,sl ai m10] [(3,28),(4,85),(5,89),(6,60)],.cells [sl aa m11] [(0,137)],.cells [.func (.func 105) [] [.bptr 0 0,.eptr ((cL aa) scope),.bptr 4 0]] [],.dead,.cells [.int .i64 m12,.str m13,.int .i64 m14,sl ac m15,sl au m16,sl aA m17,sl ai m18] []] [((12,0),28)]
def dS(o:Bool):az:=aZ 96 [(3,.bptr 0 0),(4,.bptr 1 0),(5,.eptr ((cL aa) scope)),(6,.bptr 3 0),(7,.bptr 4 0),(12,sl ac kids),(14,.bptr 7 0),(59,sl ac t59),(60,.int .i64 t60),(61,.int .i64 i),(72,.bool o)] [.cells [.func (.func 55) [] [.eptr (cS v),.eptr (cS v2),.eptr (cS v3)],.func (.func 54) [] [.eptr (cS v4),.eptr (cS v5)]] [],.cells [.int .i64 m,.str m2,.int .i64 m3,sl ac t59,sl au m4,sl aA m5,sl ai m6] [(4,85),(6,60)],.dead,.cells [.int .i64 0,.str ([]:ag),.int .i64 0,sl ac m7,sl au m8,sl aA m9,sl ai m10] [(3,28),(4,85),(5,89),(6,60)],.cells [sl aa m11] [(0,137)],.cells [.func (.func 105) [] [.bptr 0 0,.eptr ((cL aa) scope),.bptr 4 0]] [],.dead,.cells [.int .i64 m12,.str m13,.int .i64 m14,sl ac m15,sl au m16,sl aA m17,sl ai m18] []] [((12,0),28)]
def gH:Option Bool:=
 if(m==7)=true then
  some (i==0)
 else
  some false
theorem lc{x:Bool}(h:gH i m=some x):aP Pg GE 0 (cA Rf 523766) (EX .normal (dS scope kids i t59 t60 v v2 v3 v4 v5 m m2 m3 m4 m5 m6 m7 m8 m9 m10 m11 m12 m13 m14 m15 m16 m17 m18 x)) (lI scope kids i t59 t60 v v2 v3 v4 v5 m m2 m3 m4 m5 m6 m7 m8 m9 m10 m11 m12 m13 m14 m15 m16 m17 m18):=by
 rcases aN h with⟨c17,h⟩|⟨c17,h⟩
 ·obtain rfl:=lf h
  exact bk JV (ss<|sg 4 c17<|eF .normal (dS scope kids i t59 t60 v v2 v3 v4 v5 m m2 m3 m4 m5 m6 m7 m8 m9 m10 m11 m12 m13 m14 m15 m16 m17 m18 (i==0)))<|by kernel_rfl
 ·obtain rfl:=lf h
  exact bk JV (ss<|sg 4 c17<|eF .normal (dS scope kids i t59 t60 v v2 v3 v4 v5 m m2 m3 m4 m5 m6 m7 m8 m9 m10 m11 m12 m13 m14 m15 m16 m17 m18 false))<|by kernel_rfl
end
section
variable(R45:aT)(scope:(List ae))(t59:waE)(t60:Int)(v:ag)(v2:ag)(v3:ag)(v4:ag)(v5:ag)(m:Int)(m2:ag)(m3:Int)(m4:waD)(m5:waC)(m6:waB)(m7:waE)(m8:waD)(m9:waC)(m10:waB)(m11:(List ae))(kids:waE)(t61:Int)
def bu:az:=aZ 96 [(3,.bptr 0 0),(4,.bptr 1 0),(5,.eptr ((cL aa) scope)),(6,.bptr 3 0),(7,.bptr 4 0),(12,sl ac kids),(59,sl ac t59),(60,.int .i64 t60),(61,.int .i64 t61)] [.cells [.func (.func 55) [] [.eptr (cS v),.eptr (cS v2),.eptr (cS v3)],.func (.func 54) [] [.eptr (cS v4),.eptr (cS v5)]] [],.cells [.int .i64 m,.str m2,.int .i64 m3,sl ac t59,sl au m4,sl aA m5,sl ai m6] [(4,85),(6,60)],.dead,.cells [.int .i64 0,.str ([]:ag),.int .i64 0,sl ac m7,sl au m8,sl aA m9,sl ai m10] [(3,28),(4,85),(5,89),(6,60)],.cells [sl aa m11] [(0,137)],.cells [.func (.func 105) [] [.bptr 0 0,.eptr ((cL aa) scope),.bptr 4 0]] [],.dead] [((12,0),28)]
def dT(o:waE):az:=aZ 96 [(3,.bptr 0 0),(4,.bptr 1 0),(5,.eptr ((cL aa) scope)),(6,.bptr 3 0),(12,sl ac o)] [.cells [.func (.func 55) [] [.eptr (cS v),.eptr (cS v2),.eptr (cS v3)],.func (.func 54) [] [.eptr (cS v4),.eptr (cS v5)]] [],.cells [.int .i64 m,.str m2,.int .i64 m3,sl ac t59,sl au m4,sl aA m5,sl ai m6] [(4,85),(6,60)],.dead,.cells [.int .i64 0,.str ([]:ag),.int .i64 0,sl ac m7,sl au m8,sl aA m9,sl ai m10] [(3,28),(4,85),(5,89),(6,60)],.cells [sl aa m11] [(0,137)],.cells [.func (.func 105) [] [.bptr 0 0,.eptr ((cL aa) scope),.bptr 4 0]] [],.dead] [((12,0),28)]
def fW:Option ((waE×Int)⊕(waE)):=
 if(decide (t61<t60))=true then
  (fO t59 t61).bind fun x16=>
  (gH t61 m).bind fun o18=>
  if o18=true then
   (R45 v v2 v3 v4 v5 x16 scope).bind fun r21=>
   (app kids ([r21]:List af)).bind fun l22=>
   some (.inl (l22,bZ (t61+1)))
  else
   (R45 v v2 v3 v4 v5 x16 m11).bind fun r23=>
   (app kids ([r23]:List af)).bind fun l24=>
   some (.inl (l24,bZ (t61+1)))
 else
  some (.inr kids)
def gI:Option waE:=loop (fun(zz:waE×Int)=>fW R45 scope t59 t60 v v2 v3 v4 v5 m m11 zz.1 zz.2) (kids,t61)
theorem kz(hR45:bj R45){y:(waE×Int)⊕(waE)}(h:fW R45 scope t59 t60 v v2 v3 v4 v5 m m11 kids t61=some y):aP Pg GE 0 (cA Rf 8183) (LQ (fun(zz:waE×Int)=>bu scope t59 t60 v v2 v3 v4 v5 m m2 m3 m4 m5 m6 m7 m8 m9 m10 m11 zz.1 zz.2) (fun _=>.exit 1) (dT scope t59 v v2 v3 v4 v5 m m2 m3 m4 m5 m6 m7 m8 m9 m10 m11) y) (bu scope t59 t60 v v2 v3 v4 v5 m m2 m3 m4 m5 m6 m7 m8 m9 m10 m11 kids t61):=by
 rcases aN h with⟨c15,h⟩|⟨c15,h⟩
 ·obtain⟨x16,bx16,h⟩:=aG h
  obtain⟨o18,bo18,h⟩:=aG h
  have p20:=fun{sc F} (r:PS sc F)=>sg 0 c15<|sv (fi.ia (k:=.i64) bx16)<|sv (aW x16)<|sx wR<|sx (jj x16)<|oz 0<|cU (lc scope kids t61 t59 t60 v v2 v3 v4 v5 m m2 m3 m4 m5 m6 m7 m8 m9 m10 m11 x16.Op x16.Name x16.N x16.Kids x16.Params x16.Alts x16.Types bo18)<|r
  rcases aN h with⟨c19,h⟩|⟨c19,h⟩
  ·obtain⟨r21,br21,h⟩:=aG h
   obtain⟨l22,bl22,h⟩:=aG h
   obtain rfl:=lf h
   have z:=p20<|sg 0 c19<|sv (show bE Pg 95 [.func (.func 55) [] [.eptr (cS v),.eptr (cS v2),.eptr (cS v3)],.func (.func 54) [] [.eptr (cS v4),.eptr (cS v5)]]=some (.agg [.func (.func 55) [] [.eptr (cS v),.eptr (cS v2),.eptr (cS v3)],.func (.func 54) [] [.eptr (cS v4),.eptr (cS v5)]]) by kernel_rfl)<|sv (bQ x16 [])<|sv (cy GT (sl aa scope) [])<|cH (hR45 _ _ _ _ _ _ _ _ br21)<|sv (fi.mk' (v:=og) j4 ([r21]:List af) 1 (by kernel_rfl))<|sv (fi.ap bl22)<|sK 0 .normal (bu scope t59 t60 v v2 v3 v4 v5 m m2 m3 m4 m5 m6 m7 m8 m9 m10 m11 l22 (bZ (t61+1))) rfl (dF (aI (aX rfl) (aI (aX rfl) (aI (ba (lS al scope)) (aI (aX rfl) (aI (aX rfl) (aI (up (aj av l22)) (aI (up (aj av t59)) (aI trivial (aI trivial trivial)))))))))) (aI (aI (aI trivial (aI (ba (bD v)) (aI (ba (bD v2)) (aI (ba (bD v3)) trivial)))) (aI (aI trivial (aI (ba (bD v4)) (aI (ba (bD v5)) trivial))) trivial)) (aI (aI trivial (aI trivial (aI trivial (aI (up (aj av t59)) (aI (up (aj bh m4)) (aI (up (aj bL m5)) (aI (up (aj aL m6)) trivial))))))) (aI trivial (aI (aI trivial (aI trivial (aI trivial (aI (up (aj av m7)) (aI (up (aj bh m8)) (aI (up (aj bL m9)) (aI (up (aj aL m10)) trivial))))))) (aI (aI (up (aj al m11)) trivial) (aI (aI (aI trivial (aI (aX rfl) (aI (ba (lS al scope)) (aI (aX rfl) trivial)))) trivial) (aI trivial trivial)))))))
   exact dZ (A:=JV) mixed z<|by kernel_rfl
  ·obtain⟨r23,br23,h⟩:=aG h
   obtain⟨l24,bl24,h⟩:=aG h
   obtain rfl:=lf h
   have z:=p20<|sg 0 c19<|sv (show bE Pg 95 [.func (.func 55) [] [.eptr (cS v),.eptr (cS v2),.eptr (cS v3)],.func (.func 54) [] [.eptr (cS v4),.eptr (cS v5)]]=some (.agg [.func (.func 55) [] [.eptr (cS v),.eptr (cS v2),.eptr (cS v3)],.func (.func 54) [] [.eptr (cS v4),.eptr (cS v5)]]) by kernel_rfl)<|sv (bQ x16 [])<|ss<|cH (hR45 _ _ _ _ _ _ _ _ br23)<|sv (fi.mk' (v:=og) j4 ([r23]:List af) 1 (by kernel_rfl))<|sv (fi.ap bl24)<|sK 0 .normal (bu scope t59 t60 v v2 v3 v4 v5 m m2 m3 m4 m5 m6 m7 m8 m9 m10 m11 l24 (bZ (t61+1))) rfl (dF (aI (aX rfl) (aI (aX rfl) (aI (ba (lS al scope)) (aI (aX rfl) (aI (aX rfl) (aI (up (aj av l24)) (aI (up (aj av t59)) (aI trivial (aI trivial trivial)))))))))) (aI (aI (aI trivial (aI (ba (bD v)) (aI (ba (bD v2)) (aI (ba (bD v3)) trivial)))) (aI (aI trivial (aI (ba (bD v4)) (aI (ba (bD v5)) trivial))) trivial)) (aI (aI trivial (aI trivial (aI trivial (aI (up (aj av t59)) (aI (up (aj bh m4)) (aI (up (aj bL m5)) (aI (up (aj aL m6)) trivial))))))) (aI trivial (aI (aI trivial (aI trivial (aI trivial (aI (up (aj av m7)) (aI (up (aj bh m8)) (aI (up (aj bL m9)) (aI (up (aj aL m10)) trivial))))))) (aI (aI (up (aj al m11)) trivial) (aI (aI (aI trivial (aI (aX rfl) (aI (ba (lS al scope)) (aI (aX rfl) trivial)))) trivial) (aI trivial trivial)))))))
   exact dZ (A:=JV) mixed z<|by kernel_rfl
 ·obtain rfl:=lf h
  have z:=sg 0 c15<|eF (.exit 1) (dT scope t59 v v2 v3 v4 v5 m m2 m3 m4 m5 m6 m7 m8 m9 m10 m11 kids)
  exact iZ JV (by intro hx;cases hx) z<|by kernel_rfl
theorem lh(hR45:bj R45){x:waE}(h:gI R45 scope t59 t60 v v2 v3 v4 v5 m m11 kids t61=some x):aP Pg GE 0 (.loop (cA Rf 8183)) (EX (.exit 1) (dT scope t59 v v2 v3 v4 v5 m m2 m3 m4 m5 m6 m7 m8 m9 m10 m11 x)) (bu scope t59 t60 v v2 v3 v4 v5 m m2 m3 m4 m5 m6 m7 m8 m9 m10 m11 kids t61):=
 aP.loop (S:=fun(zz:waE×Int)=>bu scope t59 t60 v v2 v3 v4 v5 m m2 m3 m4 m5 m6 m7 m8 m9 m10 m11 zz.1 zz.2) (ex:=(fun _=>.exit 1)) (s:=(kids,t61)) h fun zz y hy=>kz R45 scope t59 t60 v v2 v3 v4 v5 m m2 m3 m4 m5 m6 m7 m8 m9 m10 m11 zz.1 zz.2 hR45 hy
end
def gX(R45:aT)(c:ag)(c2:ag)(c3:ag)(c4:ag)(c5:ag)(e:af)(scope:(List ae)):Option af:=
 (dQ e.Types).bind fun r1=>
 (ol scope).bind fun r2=>
 (gG scope c c2 c3 c4 c5 e.Op e.Name e.N e.Kids e.Params e.Alts r1 r2).bind fun o13=>
 (dw e.Params (e.Op==6) scope c c2 c3 c4 c5 o13.2).bind fun r14=>
 (gI R45 scope e.Kids (e.Kids.length:Int) c c2 c3 c4 c5 e.Op r14.2 ([]:List af) 0).bind fun o25=>
 (fu R45 e.Alts scope c c2 c3 c4 c5).bind fun r26=>
 some (⟨e.Op,o13.1,e.N,o25,r14.1,r26,r1⟩:af)
theorem lW(R45:aT)(hR45:bj R45){c:ag}{c2:ag}{c3:ag}{c4:ag}{c5:ag}{e:af}{scope:(List ae)}{r:af}(h:gX R45 c c2 c3 c4 c5 e scope=some r):CC Pg GE 56 [.agg [.func (.func 55) [] [.eptr (cS c),.eptr (cS c2),.eptr (cS c3)],.func (.func 54) [] [.eptr (cS c4),.eptr (cS c5)]],.agg (ac e),sl aa scope] (.agg (ac r)) [(3,28),(4,85),(5,89),(6,60)]:=by
 obtain⟨r1,br1,h⟩:=aG h
 obtain⟨r2,br2,h⟩:=aG h
 obtain⟨o13,bo13,h⟩:=aG h
 obtain⟨r14,br14,h⟩:=aG h
 obtain⟨o25,bo25,h⟩:=aG h
 obtain⟨r26,br26,h⟩:=aG h
 obtain rfl:=lf h
 have z:=sx (UD [.func (.func 55) [] [.eptr (cS c),.eptr (cS c2),.eptr (cS c3)],.func (.func 54) [] [.eptr (cS c4),.eptr (cS c5)]])<|sx (jj e)<|se (We aa scope)<|sx wR<|ss<|cH (gq br1)<|sv (cy GT (sl aa scope) [])<|cH (u5 br2)<|sx UH<|sx UG<|ss<|oz 0<|cU (lb scope c c2 c3 c4 c5 e.Op e.Name e.N e.Kids e.Params e.Alts r1 ([]:List af) ([]:List ay) ([]:List aO) ([]:List am) r2 bo13)<|ss<|sx Wf<|ss<|VW 6 [[.bool (e.Op==6)]] [3,4,5,6,7,8,11] [] (VC (m:=0) (b:=6) rfl [.bool (e.Op==6)] rfl) (VD 6 (l:=[.bool (e.Op==6)]) (aI trivial trivial)) (VE (VQ [.bool (e.Op==6)]))<|sf (GP 6 (lS al scope))<|sf (GP 6 (bD c))<|sf (GP 6 (bD c2))<|sf (GP 6 (bD c3))<|sf (GP 6 (bD c4))<|sf (GP 6 (bD c5))<|sf (Ix 6 (p:=sl ac e.Kids) (aj av e.Kids))<|sf (Ix 6 (p:=sl au e.Params) (aj bh e.Params))<|sf (Ix 6 (p:=sl aA e.Alts) (aj bL e.Alts))<|sf (Ix 6 (p:=sl ai r1) (aj aL r1))<|sf (Ix 6 (p:=sl ac ([]:List af)) (aj av ([]:List af)))<|sf (Ix 6 (p:=sl au ([]:List ay)) (aj bh ([]:List ay)))<|sf (Ix 6 (p:=sl aA ([]:List aO)) (aj bL ([]:List aO)))<|sf (Ix 6 (p:=sl ai ([]:List am)) (aj aL ([]:List am)))<|sf (Ix 6 (p:=sl aa o13.2) (aj al o13.2))<|sf (GP 6 (lS al scope))<|ss<|si (.cg ⟨[5,0,4],[sl au e.Params,.func (.func 108) [] [.eptr (cB (e.Op==6)),.bptr 0 0]],[],[.cells [.func (.func 105) [] [.bptr 0 0,.eptr ((cL aa) scope),.bptr 4 0]] [],.cells [.func (.func 55) [] [.eptr (cS c),.eptr (cS c2),.eptr (cS c3)],.func (.func 54) [] [.eptr (cS c4),.eptr (cS c5)]] [],.cells [sl aa o13.2] [(0,137)]],[.cells [.func (.func 105) [] [.bptr 1 0,.eptr ((cL aa) scope),.bptr 2 0]] [],.cells [.func (.func 55) [] [.eptr (cS c),.eptr (cS c2),.eptr (cS c3)],.func (.func 54) [] [.eptr (cS c4),.eptr (cS c5)]] [],.cells [sl aa o13.2] [(0,137)]],[.cells [.func (.func 105) [] [.bptr 0 0,.eptr ((cL aa) scope),.bptr 4 0]] [],.cells [.func (.func 55) [] [.eptr (cS c),.eptr (cS c2),.eptr (cS c3)],.func (.func 54) [] [.eptr (cS c4),.eptr (cS c5)]] [],.cells [sl aa r14.2] [(0,137)]],[.cells [.func (.func 105) [] [.bptr 1 0,.eptr ((cL aa) scope),.bptr 2 0]] [],.cells [.func (.func 55) [] [.eptr (cS c),.eptr (cS c2),.eptr (cS c3)],.func (.func 54) [] [.eptr (cS c4),.eptr (cS c5)]] [],.cells [sl aa r14.2] [(0,137)]],sl au r14.1,sl au r14.1,[(0,85)]⟩) (fE br14)<|sf (aI (xR [5,0,4] (sl au e.Params) (aj bh e.Params)) (aI (xF [5,0,4] (.func 108) [] [.eptr (cB (e.Op==6)),.bptr 5 0] [] [.eptr (cB (e.Op==6)),.bptr 0 0] trivial (aI (xR [5,0,4] (.eptr (cB (e.Op==6))) (Tu (e.Op==6))) (aI (xB [5,0,4] 0 5 0 rfl) trivial))) trivial))<|sf (aI (aI (rB (.cells [.func (.func 105) [] [.bptr 0 0,.eptr ((cL aa) scope),.bptr 4 0]] [])) (aI (rW []) (aI (xF [5,0,4] (.func 105) [] [.bptr 0 0,.eptr ((cL aa) scope),.bptr 4 0] [] [.bptr 1 0,.eptr ((cL aa) scope),.bptr 2 0] trivial (aI (xB [5,0,4] 1 0 0 rfl) (aI (xR [5,0,4] (.eptr ((cL aa) scope)) (lS al scope)) (aI (xB [5,0,4] 2 4 0 rfl) trivial)))) trivial))) (aI (aI (rB (.cells [.func (.func 55) [] [.eptr (cS c),.eptr (cS c2),.eptr (cS c3)],.func (.func 54) [] [.eptr (cS c4),.eptr (cS c5)]] [])) (aI (rW []) (aI (xR [5,0,4] (.func (.func 55) [] [.eptr (cS c),.eptr (cS c2),.eptr (cS c3)]) (aI trivial (aI (bD c) (aI (bD c2) (aI (bD c3) trivial))))) (aI (xR [5,0,4] (.func (.func 54) [] [.eptr (cS c4),.eptr (cS c5)]) (aI trivial (aI (bD c4) (aI (bD c5) trivial)))) trivial)))) (aI (aI (rB (.cells [sl aa o13.2] [(0,137)])) (aI (rW [(0,137)]) (aI (xR [5,0,4] (sl aa o13.2) (aj al o13.2)) trivial))) trivial)))<|sf (aI (aI (rW []) (aI (xF [5,0,4] (.func 105) [] [.bptr 0 0,.eptr ((cL aa) scope),.bptr 4 0] [] [.bptr 1 0,.eptr ((cL aa) scope),.bptr 2 0] trivial (aI (xB [5,0,4] 1 0 0 rfl) (aI (xR [5,0,4] (.eptr ((cL aa) scope)) (lS al scope)) (aI (xB [5,0,4] 2 4 0 rfl) trivial)))) trivial)) (aI (aI (rW []) (aI (xR [5,0,4] (.func (.func 55) [] [.eptr (cS c),.eptr (cS c2),.eptr (cS c3)]) (aI trivial (aI (bD c) (aI (bD c2) (aI (bD c3) trivial))))) (aI (xR [5,0,4] (.func (.func 54) [] [.eptr (cS c4),.eptr (cS c5)]) (aI trivial (aI (bD c4) (aI (bD c5) trivial)))) trivial))) (aI (aI (rW [(0,137)]) (aI (xR [5,0,4] (sl aa r14.2) (aj al r14.2)) trivial)) trivial)))<|sf (xR [5,0,4] (sl au r14.1) (aj bh r14.1))<|ss<|bW (fi.ln e.Kids)<|cU (lh R45 scope e.Kids (e.Kids.length:Int) c c2 c3 c4 c5 e.Op o13.1 e.N r14.1 e.Alts r1 ([]:List af) ([]:List ay) ([]:List aO) ([]:List am) r14.2 ([]:List af) 0 hR45 bo25)<|ss<|si (.cg ⟨[0],[sl aA e.Alts,.func (.func 110) [] [.eptr ((cL aa) scope),.bptr 0 0]],[],[.cells [.func (.func 55) [] [.eptr (cS c),.eptr (cS c2),.eptr (cS c3)],.func (.func 54) [] [.eptr (cS c4),.eptr (cS c5)]] []],[.cells [.func (.func 55) [] [.eptr (cS c),.eptr (cS c2),.eptr (cS c3)],.func (.func 54) [] [.eptr (cS c4),.eptr (cS c5)]] []],[.cells [.func (.func 55) [] [.eptr (cS c),.eptr (cS c2),.eptr (cS c3)],.func (.func 54) [] [.eptr (cS c4),.eptr (cS c5)]] []],[.cells [.func (.func 55) [] [.eptr (cS c),.eptr (cS c2),.eptr (cS c3)],.func (.func 54) [] [.eptr (cS c4),.eptr (cS c5)]] []],sl aA r26,sl aA r26,[(0,89)]⟩) (jT R45 hR45 br26)<|sf (aI (xR [0] (sl aA e.Alts) (aj bL e.Alts)) (aI (xF [0] (.func 110) [] [.eptr ((cL aa) scope),.bptr 0 0] [] [.eptr ((cL aa) scope),.bptr 0 0] trivial (aI (xR [0] (.eptr ((cL aa) scope)) (lS al scope)) (aI (xB [0] 0 0 0 rfl) trivial))) trivial))<|sf (aI (aI (rB (.cells [.func (.func 55) [] [.eptr (cS c),.eptr (cS c2),.eptr (cS c3)],.func (.func 54) [] [.eptr (cS c4),.eptr (cS c5)]] [])) (aI (rW []) (aI (xR [0] (.func (.func 55) [] [.eptr (cS c),.eptr (cS c2),.eptr (cS c3)]) (aI trivial (aI (bD c) (aI (bD c2) (aI (bD c3) trivial))))) (aI (xR [0] (.func (.func 54) [] [.eptr (cS c4),.eptr (cS c5)]) (aI trivial (aI (bD c4) (aI (bD c5) trivial)))) trivial)))) trivial)<|sf (aI (aI (rW []) (aI (xR [0] (.func (.func 55) [] [.eptr (cS c),.eptr (cS c2),.eptr (cS c3)]) (aI trivial (aI (bD c) (aI (bD c2) (aI (bD c3) trivial))))) (aI (xR [0] (.func (.func 54) [] [.eptr (cS c4),.eptr (cS c5)]) (aI trivial (aI (bD c4) (aI (bD c5) trivial)))) trivial))) trivial)<|sf (xR [0] (sl aA r26) (aj bL r26))<|sz (bQ (⟨e.Op,o13.1,e.N,o25,r14.1,r26,r1⟩:af) [])<|sy (bI (⟨e.Op,o13.1,e.N,o25,r14.1,r26,r1⟩:af))<|en (aI (qN (⟨e.Op,o13.1,e.N,o25,r14.1,r26,r1⟩:af))<|aI (av (⟨e.Op,o13.1,e.N,o25,r14.1,r26,r1⟩:af))<|rT)
 exact cC JV call56 func56 (c:=Rf) rfl (aI (aI (aI trivial (aI (bD c) (aI (bD c2) (aI (bD c3) trivial)))) (aI (aI trivial (aI (bD c4) (aI (bD c5) trivial))) trivial)) (aI (av e) (aI (aj al scope) trivial))) z<|by kernel_rfl
def gY:((ag×ag×ag×ag×ag×af×(List ae))->Option af)->(ag×ag×ag×ag×ag×af×(List ae))->Option af:=fun(rec:(ag×ag×ag×ag×ag×af×(List ae))->Option af) (x:ag×ag×ag×ag×ag×af×(List ae))=>gX (fun c c2 c3 c4 c5 e scope=>rec (c,c2,c3,c4,c5,e,scope)) x.1 x.2.1 x.2.2.1 x.2.2.2.1 x.2.2.2.2.1 x.2.2.2.2.2.1 x.2.2.2.2.2.2
def iz(c:ag)(c2:ag)(c3:ag)(c4:ag)(c5:ag)(e:af)(scope:(List ae)):Option af:=qc gY (c,c2,c3,c4,c5,e,scope)
theorem mB{c:ag}{c2:ag}{c3:ag}{c4:ag}{c5:ag}{e:af}{scope:(List ae)}{r:af}(h:iz c c2 c3 c4 c5 e scope=some r):CC Pg GE 56 [.agg [.func (.func 55) [] [.eptr (cS c),.eptr (cS c2),.eptr (cS c3)],.func (.func 54) [] [.eptr (cS c4),.eptr (cS c5)]],.agg (ac e),sl aa scope] (.agg (ac r)) [(3,28),(4,85),(5,89),(6,60)]:=
 d9 (F:=gY) (M:=fun(x:ag×ag×ag×ag×ag×af×(List ae)) (r:af)=>CC Pg GE 56 [.agg [.func (.func 55) [] [.eptr (cS x.1),.eptr (cS x.2.1),.eptr (cS x.2.2.1)],.func (.func 54) [] [.eptr (cS x.2.2.2.1),.eptr (cS x.2.2.2.2.1)]],.agg (ac x.2.2.2.2.2.1),sl aa x.2.2.2.2.2.2] (.agg (ac r)) [(3,28),(4,85),(5,89),(6,60)]) (fun rec hrec x r h=>lW _ (fun c c2 c3 c4 c5 e scope r h=>hrec (c,c2,c3,c4,c5,e,scope) r h) h) h
noncomputable def WF:Code:=f13.body.getD .skip
def Wj:List Nat:=[]
def Ec(e:af)(name:ag)(a:ag):Option af:=
 (IX e).bind fun r1=>
 (app r1 ([a]:List ag)).bind fun l2=>
 (zE l2 a).bind fun r3=>
 (iz a name r3 name a e ([]:List ae)).bind fun r4=>
 some r4
theorem GX{e:af}{name:ag}{a:ag}{r:af}(h:Ec e name a=some r):CC Pg GE 13 [.agg (ac e),.str name,.str a] (.agg (ac r)) [(3,28),(4,85),(5,89),(6,60)]:=by
 obtain⟨r1,br1,h⟩:=aG h
 obtain⟨l2,bl2,h⟩:=aG h
 obtain⟨r3,br3,h⟩:=aG h
 obtain⟨r4,br4,h⟩:=aG h
 obtain rfl:=lf h
 have z:=se (bK e)<|se (E7 name)<|se (E7 a)<|sx wR<|IS [0,1,0,4,15,0,63,0,255]<|sv (aW e)<|cH (JT br1)<|sv (cy C2 (.str a) [])<|sv (ch.mk' (v:=PVal.str) E7 ([a]:List ag) 1 (by kernel_rfl))<|sv (ch.ap bl2)<|sv (cy C2 (.str a) [])<|cH (zH br3)<|Xb (rfl:cF (.str r3)=some [.str r3])<|VW 4 [[.str r3]] [3,4,5,6,7] [] (VC (m:=0) (b:=4) rfl [.str r3] rfl) (VD 4 (l:=[.str r3]) (aI trivial trivial)) (VE (VQ [.str r3]))<|sf (GP 4 (av e))<|sf (GP 4 (bD name))<|sf (GP 4 (bD a))<|sf (Ix 4 (p:=sl ac ([]:List af)) (aj av ([]:List af)))<|sf (Ix 4 (p:=sl au ([]:List ay)) (aj bh ([]:List ay)))<|sf (Ix 4 (p:=sl aA ([]:List aO)) (aj bL ([]:List aO)))<|sf (Ix 4 (p:=sl ai ([]:List am)) (aj aL ([]:List am)))<|sv (show dL Pg 95 [(1,.func (.func 54) [] [.eptr (cS name),.eptr (cS a)]),(0,.func (.func 55) [] [.eptr (cS a),.eptr (cS name),.eptr (cS r3)])]=some (.agg [.func (.func 55) [] [.eptr (cS a),.eptr (cS name),.eptr (cS r3)],.func (.func 54) [] [.eptr (cS name),.eptr (cS a)]]) by kernel_rfl)<|sx UI<|sx (UD [.func (.func 55) [] [.eptr (cS a),.eptr (cS name),.eptr (cS r3)],.func (.func 54) [] [.eptr (cS name),.eptr (cS a)]])<|sv (show bE Pg 95 [.func (.func 55) [] [.eptr (cS a),.eptr (cS name),.eptr (cS r3)],.func (.func 54) [] [.eptr (cS name),.eptr (cS a)]]=some (.agg [.func (.func 55) [] [.eptr (cS a),.eptr (cS name),.eptr (cS r3)],.func (.func 54) [] [.eptr (cS name),.eptr (cS a)]]) by kernel_rfl)<|sv (aW e)<|cH (mB br4)<|sy (bI r4)<|en (aI (qN r4)<|aI (av r4)<|rT)
 exact cC Wj call13 func13 (c:=WF) rfl (aI (av e) (aI trivial (aI trivial trivial))) z<|by kernel_rfl
abbrev fN:=(af->Int->Option (Bool×Int))
abbrev fL(R:fN):Prop:=∀(e:af) (k0:Int) (r:Bool×Int),R e k0=some r->C Pg GE 64 [.agg (ac e),.func (.func 68) [] [.bptr 0 0]] [] [.cells [.int .i64 k0] []] (.bool r.1) [] [.cells [.int .i64 r.2] []]
noncomputable def WV:Code:=f68.body.getD .skip
def Wz:List Nat:=[]
def zY(a:af)(k0:Int):Option (Bool×Int):=
 some (true,bZ (k0+1))
theorem Eb{a:af}{k0:Int}{r:Bool×Int}(h:zY a k0=some r):C Pg GE 68 [.agg (ac a),.bptr 0 0] [] [.cells [.int .i64 k0] []] (.bool r.1) [] [.cells [.int .i64 r.2] []]:=by
 obtain rfl:=lf h
 have z:=se (bK a)<|ss<|ss<|en (aI (rP (.bool true))<|aI trivial<|aI (rL [.cells [.int .i64 (bZ (k0+1))] []])<|(aI (aI trivial trivial) trivial))
 exact C.evGp (A:=Wz) mixed (m:=1) (c:=WV) rfl call68 func68 rfl z<|by kernel_rfl
end Go.Proofs.YtkdahfeiedaahaaGreatDoor
