/- PROVED: a part of the proof. Conditions: none. -/
import Derived.Test.YtkdahfeiedaahaaGreatDoorPkC12
noncomputable section
namespace Go.Proofs.YtkdahfeiedaahaaGreatDoor
open Go Go.Proofs.Tryz
set_option linter.unusedVariables false
set_option maxRecDepth 100000
noncomputable def Tt:Code:=f99.body.getD .skip
def Q6:List Nat:=[]
section
variable(v:ag)(m2:(List (ae×Bool)))
def ug:aA:=bg 38 [(1,.bptr 0 0),(2,.eptr (af v))] [.cells [.func (.func 81) [.bptr 1 0] []] [],.cells [.mapr 2] [],.map (aP PVal.bool m2),.dead] []
def iP(o:Bool):aA:=bg 38 [(1,.bptr 0 0),(2,.eptr (af v)),(12,.bool o)] [.cells [.func (.func 81) [.bptr 1 0] []] [],.cells [.mapr 2] [],.map (aP PVal.bool m2),.dead] []
def oN:Option Bool:=
 (lc v).bind fun r1=>
 if r1=true then
  some true
 else
  some (v.Op==7)
theorem tN{x:Bool}(h:oN v=some x):aQ Pg GE 3 (cA Tt 12) (EX .normal (iP v m2 x)) (ug v m2):=by
 obtain⟨r1,br1,h⟩:=aG h
 have p3:=fun{sc F} (r:PS sc F)=>sv (cu v)<|du (kp br1)<|r
 rcases aN h with⟨c2,h⟩|⟨c2,h⟩
 ·obtain rfl:=lf h
  exact bA Q6 (p3<|sg 3 c2<|eF .normal (iP v m2 true))<|by kernel_rfl
 ·obtain rfl:=lf h
  exact bA Q6 (p3<|sg 3 c2<|sv (ei v)<|sv (ej v)<|eF .normal (iP v m2 (v.Op==7)))<|by kernel_rfl
end
section
variable(v:ag)(m2:(List (ae×Bool)))
def uf:aA:=bg 38 [(1,.bptr 0 0),(2,.eptr (af v))] [.cells [.func (.func 81) [.bptr 1 0] []] [],.cells [.mapr 2] [],.map (aP PVal.bool m2),.dead] []
def iO(o:(List (ae×Bool))):aA:=bg 38 [(1,.bptr 0 0),(2,.eptr (af v))] [.cells [.func (.func 81) [.bptr 1 0] []] [],.cells [.mapr 2] [],.map (aP PVal.bool o),.dead] []
def oM:Option (((List (ae×Bool)))):=
 (oN v).bind fun o4=>
 if o4=true then
  (j7 ([v.Name]:List ae) m2).bind fun r7=>
  some r7
 else
  some m2
theorem tM{x:((List (ae×Bool)))}(h:oM v m2=some x):aQ Pg GE 3 (cA Tt 6) (EX .normal (iO v x)) (uf v m2):=by
 obtain⟨o4,bo4,h⟩:=aG h
 have p6:=fun{sc F} (r:PS sc F)=>qk 0<|cY (tN v m2 bo4)<|r
 rcases aN h with⟨c5,h⟩|⟨c5,h⟩
 ·obtain⟨r7,br7,h⟩:=aG h
  obtain rfl:=lf h
  exact bA Q6 (p6<|sg 0 c5<|ss<|sv (fg v)<|sv (gj v)<|sv (eu.mk' (v:=PVal.str) Mj ([v.Name]:List ae) 1 (by kernel_rfl))<|si (.cg ⟨[1,2],[.bptr 0 0,sl cS ([v.Name]:List ae)],[],[.cells [.mapr 2] [],.map (aP PVal.bool m2)],[.cells [.mapr 1] [],.map (aP PVal.bool m2)],[.cells [.mapr 2] [],.map (aP PVal.bool r7)],[.cells [.mapr 1] [],.map (aP PVal.bool r7)],.tuple [],.tuple [],[]⟩) (jr br7)<|sf (aI (xB [1,2] 0 1 0 rfl) (aI (xR [1,2] (sl cS ([v.Name]:List ae)) (am bO ([v.Name]:List ae))) trivial))<|sf (aI (aI (rB (.cells [.mapr 2] [])) (aI (rW []) (aI (xM [1,2] 1 2 rfl) trivial))) (aI (aI (rB (.map (aP PVal.bool m2))) (aI (rM (aP PVal.bool m2)) (s4 (n:=0) PVal.bool (fun x=>trivial) m2))) trivial))<|sf (aI (aI (rW []) (aI (xM [1,2] 1 2 rfl) trivial)) (aI (aI (rM (aP PVal.bool r7)) (s4 (n:=0) PVal.bool (fun x=>trivial) r7)) trivial))<|sf (xR [1,2] (.tuple []) trivial)<|eF .normal (iO v r7))<|by kernel_rfl
 ·obtain rfl:=lf h
  exact bA Q6 (p6<|sg 0 c5<|eF .normal (iO v m2))<|by kernel_rfl
end
section
variable(v:ag)(m2:(List (ae×Bool)))
def uh:aA:=bg 38 [(1,.bptr 0 0),(2,.eptr (af v))] [.cells [.func (.func 81) [.bptr 1 0] []] [],.cells [.mapr 2] [],.map (aP PVal.bool m2),.dead] []
def iQ(o:(List (ae×Bool))):aA:=bg 38 [(1,.bptr 0 0),(2,.eptr (af v))] [.cells [.func (.func 81) [.bptr 1 0] []] [],.cells [.mapr 2] [],.map (aP PVal.bool o),.dead] []
def oO:Option (((List (ae×Bool)))):=
 if(v.Op==6)=true then
  (pI v.Params).bind fun r11=>
  (j7 r11 m2).bind fun r12=>
  some r12
 else
  some m2
theorem tO{x:((List (ae×Bool)))}(h:oO v m2=some x):aQ Pg GE 3 (cA Tt 14) (EX .normal (iQ v x)) (uh v m2):=by
 have p10:=fun{sc F} (r:PS sc F)=>sv (ei v)<|sv (ej v)<|r
 rcases aN h with⟨c9,h⟩|⟨c9,h⟩
 ·obtain⟨r11,br11,h⟩:=aG h
  obtain⟨r12,br12,h⟩:=aG h
  obtain rfl:=lf h
  exact bA Q6 (p10<|sg 0 c9<|sk<|UP (.dx [0,0,2,6] [] [] [])<|ss<|sv (bM v)<|sv (bN v)<|du (od br11)<|si (.cg ⟨[1,2],[.bptr 0 0,sl cS r11],[],[.cells [.mapr 2] [],.map (aP PVal.bool m2)],[.cells [.mapr 1] [],.map (aP PVal.bool m2)],[.cells [.mapr 2] [],.map (aP PVal.bool r12)],[.cells [.mapr 1] [],.map (aP PVal.bool r12)],.tuple [],.tuple [],[]⟩) (jr br12)<|sf (aI (xB [1,2] 0 1 0 rfl) (aI (xR [1,2] (sl cS r11) (am bO r11)) trivial))<|sf (aI (aI (rB (.cells [.mapr 2] [])) (aI (rW []) (aI (xM [1,2] 1 2 rfl) trivial))) (aI (aI (rB (.map (aP PVal.bool m2))) (aI (rM (aP PVal.bool m2)) (s4 (n:=0) PVal.bool (fun x=>trivial) m2))) trivial))<|sf (aI (aI (rW []) (aI (xM [1,2] 1 2 rfl) trivial)) (aI (aI (rM (aP PVal.bool r12)) (s4 (n:=0) PVal.bool (fun x=>trivial) r12)) trivial))<|sf (xR [1,2] (.tuple []) trivial)<|eF .normal (iQ v r12))<|by kernel_rfl
 ·obtain rfl:=lf h
  exact bA Q6 (p10<|sg 0 c9<|eF .normal (iQ v m2))<|by kernel_rfl
end
section
variable(t27:waD)(t28:Int)(t29:Int)(m2:(List (ae×Bool)))
def er:aA:=bg 38 [(1,.bptr 0 0),(27,sl ay t27),(28,.int .i64 t28),(29,.int .i64 t29)] [.cells [.func (.func 81) [.bptr 1 0] []] [],.cells [.mapr 2] [],.map (aP PVal.bool m2),.dead] []
def iR(o:(List (ae×Bool))):aA:=bg 38 [] [.cells [.func (.func 81) [.bptr 1 0] []] [],.cells [.mapr 2] [],.map (aP PVal.bool o),.dead] []
def mR:Option ((Int×(List (ae×Bool)))⊕(((List (ae×Bool))))):=
 if(decide (t29<t28))=true then
  (fJ t27 t29).bind fun x15=>
  (j7 x15.Names m2).bind fun r16=>
  some (.inl (ca (t29+1),r16))
 else
  some (.inr m2)
def oP:Option (((List (ae×Bool)))):=loop (fun(zz:Int×(List (ae×Bool)))=>mR t27 t28 zz.1 zz.2) (t29,m2)
theorem sU{y:(Int×(List (ae×Bool)))⊕(((List (ae×Bool))))}(h:mR t27 t28 t29 m2=some y):aQ Pg GE 3 (cA Tt 247) (LQ (fun(zz:Int×(List (ae×Bool)))=>er t27 t28 zz.1 zz.2) (fun _=>.exit 0) iR y) (er t27 t28 t29 m2):=by
 rcases aN h with⟨c14,h⟩|⟨c14,h⟩
 ·obtain⟨x15,bx15,h⟩:=aG h
  obtain⟨r16,br16,h⟩:=aG h
  obtain rfl:=lf h
  have z:=sg 0 c14<|sv (fo.ia (k:=.i64) bx15)<|sv (mF x15)<|sx Gd<|sx (ji x15)<|ss<|ss<|si (.cg ⟨[1,2],[.bptr 0 0,sl cS x15.Names],[],[.cells [.mapr 2] [],.map (aP PVal.bool m2)],[.cells [.mapr 1] [],.map (aP PVal.bool m2)],[.cells [.mapr 2] [],.map (aP PVal.bool r16)],[.cells [.mapr 1] [],.map (aP PVal.bool r16)],.tuple [],.tuple [],[]⟩) (jr br16)<|sf (aI (xB [1,2] 0 1 0 rfl) (aI (xR [1,2] (sl cS x15.Names) (am bO x15.Names)) trivial))<|sf (aI (aI (rB (.cells [.mapr 2] [])) (aI (rW []) (aI (xM [1,2] 1 2 rfl) trivial))) (aI (aI (rB (.map (aP PVal.bool m2))) (aI (rM (aP PVal.bool m2)) (s4 (n:=0) PVal.bool (fun x=>trivial) m2))) trivial))<|sf (aI (aI (rW []) (aI (xM [1,2] 1 2 rfl) trivial)) (aI (aI (rM (aP PVal.bool r16)) (s4 (n:=0) PVal.bool (fun x=>trivial) r16)) trivial))<|sf (xR [1,2] (.tuple []) trivial)<|rx 3 .normal (er t27 t28 (ca (t29+1)) r16) rfl (dv (aI (bh rfl) (aI (up (am bL t27)) (aI trivial (aI trivial trivial))))) (aI (aI (aI (aI (bh rfl) trivial) trivial) trivial) (aI (aI (bh rfl) trivial) (aI (s4 PVal.bool (fun x=>trivial) r16) (aI trivial trivial))))
  exact d4 (A:=Q6) mixed z<|by kernel_rfl
 ·obtain rfl:=lf h
  have z:=sg 0 c14<|eF (.exit 0) (iR m2)
  exact iI Q6 (by intro hx;cases hx) z<|by kernel_rfl
theorem tP{x:((List (ae×Bool)))}(h:oP t27 t28 t29 m2=some x):aQ Pg GE 3 (.loop (cA Tt 247)) (EX (.exit 0) (iR x)) (er t27 t28 t29 m2):=
 aQ.loop (S:=fun(zz:Int×(List (ae×Bool)))=>er t27 t28 zz.1 zz.2) (ex:=(fun _=>.exit 0)) (s:=(t29,m2)) h fun zz y hy=>sU t27 t28 zz.1 zz.2 hy
end
def rr(a:ag)(k2:(List (ae×Bool))):Option (Bool×(List (ae×Bool))):=
 (oM a k2).bind fun o8=>
 (oO a o8).bind fun o13=>
 (oP a.Alts (a.Alts.length:Int) 0 o13).bind fun o17=>
 some (true,o17)
theorem wt{a:ag}{k2:(List (ae×Bool))}{r:Bool×(List (ae×Bool))}(h:rr a k2=some r):C Pg GE 99 [.agg (af a),.bptr 0 0] [] [.cells [.func (.func 81) [.bptr 1 0] []] [],.cells [.mapr 2] [],.map (aP PVal.bool k2)] (.bool r.1) [] [.cells [.func (.func 81) [.bptr 1 0] []] [],.cells [.mapr 2] [],.map (aP PVal.bool r.2)]:=by
 obtain⟨o8,bo8,h⟩:=aG h
 obtain⟨o13,bo13,h⟩:=aG h
 obtain⟨o17,bo17,h⟩:=aG h
 obtain rfl:=lf h
 have z:=se (dM a)<|qk 0<|cY (tM a k2 bo8)<|qk 0<|cY (tO a o8 bo13)<|sv (aH a)<|sv (aJ a)<|bU (fo.ln a.Alts)<|cY (tP a.Alts (a.Alts.length:Int) 0 o13 bo17)<|en (aI (rP (.bool true))<|aI trivial<|aI (rL [.cells [.func (.func 81) [.bptr 1 0] []] [],.cells [.mapr 2] [],.map (aP PVal.bool o17)])<|(aI (aI (aI (aI (bh (i:=1) (n:=3) rfl) trivial) trivial) trivial) (aI (aI (bh (i:=2) (n:=3) rfl) trivial) (aI (s4 (n:=3) PVal.bool (fun x=>trivial) o17) trivial))))
 exact C.evGp (A:=Q6) mixed (m:=3) (c:=Tt) rfl call99 func99 rfl z<|by kernel_rfl
noncomputable def Gt:Code:=f64.body.getD .skip
def CT:List Nat:=[]
section
variable(R43:dY)(e:ag)(t14:waH)(t15:Int)(t16:Int)(m2:(List (ae×Bool)))
def dn:aA:=bg 38 [(1,.func (.func 99) [] [.bptr 0 0]),(2,.eptr (af e)),(14,sl af t14),(15,.int .i64 t15),(16,.int .i64 t16)] [.cells [.func (.func 81) [.bptr 1 0] []] [],.cells [.mapr 2] [],.map (aP PVal.bool m2),.dead] []
def dp(o:((List (ae×Bool)))⊕((List (ae×Bool)))):Exit:=match o with
 |(.inl _)=>.ret
 |(.inr _)=>.exit 0
def b9(o:((List (ae×Bool)))⊕((List (ae×Bool)))):aA:=match o with
 |(.inl o)=>bg 38 [(4,.bool false)] [.cells [.func (.func 81) [.bptr 1 0] []] [],.cells [.mapr 2] [],.map (aP PVal.bool o),.dead] []
 |(.inr o)=>bg 38 [(1,.func (.func 99) [] [.bptr 0 0]),(2,.eptr (af e))] [.cells [.func (.func 81) [.bptr 1 0] []] [],.cells [.mapr 2] [],.map (aP PVal.bool o),.dead] []
def j8:Option ((Int×(List (ae×Bool)))⊕(((List (ae×Bool)))⊕((List (ae×Bool))))):=
 if(decide (t16<t15))=true then
  (fJ t14 t16).bind fun x5=>
  (R43 x5 m2).bind fun r6=>
  if(!r6.1)=true then
   some (.inr (.inl r6.2))
  else
   some (.inl (ca (t16+1),r6.2))
 else
  some (.inr (.inr m2))
def lh:Option (((List (ae×Bool)))⊕((List (ae×Bool)))):=loop (fun(zz:Int×(List (ae×Bool)))=>j8 R43 t14 t15 zz.1 zz.2) (t16,m2)
theorem pV(hR43:dW R43){y:(Int×(List (ae×Bool)))⊕(((List (ae×Bool)))⊕((List (ae×Bool))))}(h:j8 R43 t14 t15 t16 m2=some y):aQ Pg GE 3 (cA Gt 119) (LQ (fun(zz:Int×(List (ae×Bool)))=>dn e t14 t15 zz.1 zz.2) dp (b9 e) y) (dn e t14 t15 t16 m2):=by
 rcases aN h with⟨c4,h⟩|⟨c4,h⟩
 ·obtain⟨x5,bx5,h⟩:=aG h
  obtain⟨r6,br6,h⟩:=aG h
  have p8:=fun{sc F} (r:PS sc F)=>sg 0 c4<|sv (iJ.ia (k:=.i64) bx5)<|sv (cu x5)<|sx yx<|sx (ly x5)<|sv (b8 x5 [])<|si (.cg ⟨[0,1,2],[.agg (af x5),.func (.func 99) [] [.bptr 0 0]],[],[.cells [.func (.func 81) [.bptr 1 0] []] [],.cells [.mapr 2] [],.map (aP PVal.bool m2)],[.cells [.func (.func 81) [.bptr 1 0] []] [],.cells [.mapr 2] [],.map (aP PVal.bool m2)],[.cells [.func (.func 81) [.bptr 1 0] []] [],.cells [.mapr 2] [],.map (aP PVal.bool r6.2)],[.cells [.func (.func 81) [.bptr 1 0] []] [],.cells [.mapr 2] [],.map (aP PVal.bool r6.2)],.bool r6.1,.bool r6.1,[]⟩) (hR43 _ _ _ br6)<|sf (aI (xR [0,1,2] (.agg (af x5)) (az x5)) (aI (xF [0,1,2] (.func 99) [] [.bptr 0 0] [] [.bptr 0 0] trivial (aI (xB [0,1,2] 0 0 0 rfl) trivial)) trivial))<|sf (aI (aI (rB (.cells [.func (.func 81) [.bptr 1 0] []] [])) (aI (rW []) (aI (xF [0,1,2] (.func 81) [.bptr 1 0] [] [.bptr 1 0] [] (aI (xB [0,1,2] 1 1 0 rfl) trivial) trivial) trivial))) (aI (aI (rB (.cells [.mapr 2] [])) (aI (rW []) (aI (xM [0,1,2] 2 2 rfl) trivial))) (aI (aI (rB (.map (aP PVal.bool m2))) (aI (rM (aP PVal.bool m2)) (s4 (n:=0) PVal.bool (fun x=>trivial) m2))) trivial)))<|sf (aI (aI (rW []) (aI (xF [0,1,2] (.func 81) [.bptr 1 0] [] [.bptr 1 0] [] (aI (xB [0,1,2] 1 1 0 rfl) trivial) trivial) trivial)) (aI (aI (rW []) (aI (xM [0,1,2] 2 2 rfl) trivial)) (aI (aI (rM (aP PVal.bool r6.2)) (s4 (n:=0) PVal.bool (fun x=>trivial) r6.2)) trivial)))<|sf (xR [0,1,2] (.bool r6.1) trivial)<|r
  rcases aN h with⟨c7,h⟩|⟨c7,h⟩
  ·obtain rfl:=lf h
   have z:=p8<|sg 0 c7<|rx 3 (dp (.inl r6.2)) (b9 e (.inl r6.2)) rfl (dv (aI trivial trivial)) (aI (aI (aI (aI (bh rfl) trivial) trivial) trivial) (aI (aI (bh rfl) trivial) (aI (s4 PVal.bool (fun x=>trivial) r6.2) (aI trivial trivial))))
   exact mZ (A:=CT) mixed (by intro hx;cases hx) z<|by kernel_rfl
  ·obtain rfl:=lf h
   have z:=p8<|sg 0 c7<|rx 3 .normal (dn e t14 t15 (ca (t16+1)) r6.2) rfl (dv (aI (aI trivial (aI (bh rfl) trivial)) (aI (bk (az e)) (aI (up (am az t14)) (aI trivial (aI trivial trivial)))))) (aI (aI (aI (aI (bh rfl) trivial) trivial) trivial) (aI (aI (bh rfl) trivial) (aI (s4 PVal.bool (fun x=>trivial) r6.2) (aI trivial trivial))))
   exact d4 (A:=CT) mixed z<|by kernel_rfl
 ·obtain rfl:=lf h
  have z:=sg 0 c4<|eF (dp (.inr m2)) (b9 e (.inr m2))
  exact iI CT (by intro hx;cases hx) z<|by kernel_rfl
theorem fE(hR43:dW R43){x:((List (ae×Bool)))⊕((List (ae×Bool)))}(h:lh R43 t14 t15 t16 m2=some x):aQ Pg GE 3 (.loop (cA Gt 119)) (EX (dp x) (b9 e x)) (dn e t14 t15 t16 m2):=
 aQ.loop (S:=fun(zz:Int×(List (ae×Bool)))=>dn e t14 t15 zz.1 zz.2) (ex:=dp) (s:=(t16,m2)) h fun zz y hy=>pV R43 e t14 t15 zz.1 zz.2 hR43 hy
end
section
variable(R43:dY)(t26:waD)(t27:Int)(t28:Int)(m2:(List (ae×Bool)))
def dq:aA:=bg 38 [(1,.func (.func 99) [] [.bptr 0 0]),(26,sl ay t26),(27,.int .i64 t27),(28,.int .i64 t28)] [.cells [.func (.func 81) [.bptr 1 0] []] [],.cells [.mapr 2] [],.map (aP PVal.bool m2),.dead] []
def dt(o:((List (ae×Bool)))⊕((List (ae×Bool)))):Exit:=match o with
 |(.inl _)=>.ret
 |(.inr _)=>.exit 2
def cC(o:((List (ae×Bool)))⊕((List (ae×Bool)))):aA:=match o with
 |(.inl o)=>bg 38 [(4,.bool false)] [.cells [.func (.func 81) [.bptr 1 0] []] [],.cells [.mapr 2] [],.map (aP PVal.bool o),.dead] []
 |(.inr o)=>bg 38 [] [.cells [.func (.func 81) [.bptr 1 0] []] [],.cells [.mapr 2] [],.map (aP PVal.bool o),.dead] []
def j9:Option ((Int×(List (ae×Bool)))⊕(((List (ae×Bool)))⊕((List (ae×Bool))))):=
 if(decide (t28<t27))=true then
  (fJ t26 t28).bind fun x11=>
  (R43 x11.Body m2).bind fun r12=>
  if(!r12.1)=true then
   some (.inr (.inl r12.2))
  else
   some (.inl (ca (t28+1),r12.2))
 else
  some (.inr (.inr m2))
def li:Option (((List (ae×Bool)))⊕((List (ae×Bool)))):=loop (fun(zz:Int×(List (ae×Bool)))=>j9 R43 t26 t27 zz.1 zz.2) (t28,m2)
theorem pW(hR43:dW R43){y:(Int×(List (ae×Bool)))⊕(((List (ae×Bool)))⊕((List (ae×Bool))))}(h:j9 R43 t26 t27 t28 m2=some y):aQ Pg GE 3 (cA Gt 247) (LQ (fun(zz:Int×(List (ae×Bool)))=>dq t26 t27 zz.1 zz.2) dt cC y) (dq t26 t27 t28 m2):=by
 rcases aN h with⟨c10,h⟩|⟨c10,h⟩
 ·obtain⟨x11,bx11,h⟩:=aG h
  obtain⟨r12,br12,h⟩:=aG h
  have p14:=fun{sc F} (r:PS sc F)=>sg 0 c10<|sv (fo.ia (k:=.i64) bx11)<|sv (mF x11)<|sx Gd<|sx (ji x11)<|sv (b8 x11.Body [])<|si (.cg ⟨[0,1,2],[.agg (af x11.Body),.func (.func 99) [] [.bptr 0 0]],[],[.cells [.func (.func 81) [.bptr 1 0] []] [],.cells [.mapr 2] [],.map (aP PVal.bool m2)],[.cells [.func (.func 81) [.bptr 1 0] []] [],.cells [.mapr 2] [],.map (aP PVal.bool m2)],[.cells [.func (.func 81) [.bptr 1 0] []] [],.cells [.mapr 2] [],.map (aP PVal.bool r12.2)],[.cells [.func (.func 81) [.bptr 1 0] []] [],.cells [.mapr 2] [],.map (aP PVal.bool r12.2)],.bool r12.1,.bool r12.1,[]⟩) (hR43 _ _ _ br12)<|sf (aI (xR [0,1,2] (.agg (af x11.Body)) (az x11.Body)) (aI (xF [0,1,2] (.func 99) [] [.bptr 0 0] [] [.bptr 0 0] trivial (aI (xB [0,1,2] 0 0 0 rfl) trivial)) trivial))<|sf (aI (aI (rB (.cells [.func (.func 81) [.bptr 1 0] []] [])) (aI (rW []) (aI (xF [0,1,2] (.func 81) [.bptr 1 0] [] [.bptr 1 0] [] (aI (xB [0,1,2] 1 1 0 rfl) trivial) trivial) trivial))) (aI (aI (rB (.cells [.mapr 2] [])) (aI (rW []) (aI (xM [0,1,2] 2 2 rfl) trivial))) (aI (aI (rB (.map (aP PVal.bool m2))) (aI (rM (aP PVal.bool m2)) (s4 (n:=0) PVal.bool (fun x=>trivial) m2))) trivial)))<|sf (aI (aI (rW []) (aI (xF [0,1,2] (.func 81) [.bptr 1 0] [] [.bptr 1 0] [] (aI (xB [0,1,2] 1 1 0 rfl) trivial) trivial) trivial)) (aI (aI (rW []) (aI (xM [0,1,2] 2 2 rfl) trivial)) (aI (aI (rM (aP PVal.bool r12.2)) (s4 (n:=0) PVal.bool (fun x=>trivial) r12.2)) trivial)))<|sf (xR [0,1,2] (.bool r12.1) trivial)<|r
  rcases aN h with⟨c13,h⟩|⟨c13,h⟩
  ·obtain rfl:=lf h
   have z:=p14<|sg 0 c13<|rx 3 (dt (.inl r12.2)) (cC (.inl r12.2)) rfl (dv (aI trivial trivial)) (aI (aI (aI (aI (bh rfl) trivial) trivial) trivial) (aI (aI (bh rfl) trivial) (aI (s4 PVal.bool (fun x=>trivial) r12.2) (aI trivial trivial))))
   exact mZ (A:=CT) mixed (by intro hx;cases hx) z<|by kernel_rfl
  ·obtain rfl:=lf h
   have z:=p14<|sg 0 c13<|rx 3 .normal (dq t26 t27 (ca (t28+1)) r12.2) rfl (dv (aI (aI trivial (aI (bh rfl) trivial)) (aI (up (am bL t26)) (aI trivial (aI trivial trivial))))) (aI (aI (aI (aI (bh rfl) trivial) trivial) trivial) (aI (aI (bh rfl) trivial) (aI (s4 PVal.bool (fun x=>trivial) r12.2) (aI trivial trivial))))
   exact d4 (A:=CT) mixed z<|by kernel_rfl
 ·obtain rfl:=lf h
  have z:=sg 0 c10<|eF (dt (.inr m2)) (cC (.inr m2))
  exact iI CT (by intro hx;cases hx) z<|by kernel_rfl
theorem jE(hR43:dW R43){x:((List (ae×Bool)))⊕((List (ae×Bool)))}(h:li R43 t26 t27 t28 m2=some x):aQ Pg GE 3 (.loop (cA Gt 247)) (EX (dt x) (cC x)) (dq t26 t27 t28 m2):=
 aQ.loop (S:=fun(zz:Int×(List (ae×Bool)))=>dq t26 t27 zz.1 zz.2) (ex:=dt) (s:=(t28,m2)) h fun zz y hy=>pW R43 t26 t27 zz.1 zz.2 hR43 hy
end
def lQ(R43:dY)(e:ag)(k2:(List (ae×Bool))):Option (Bool×(List (ae×Bool))):=
 (rr e k2).bind fun r1=>
 if(!r1.1)=true then
  some (false,r1.2)
 else
  (lh R43 e.Kids (e.Kids.length:Int) 0 r1.2).bind fun o9=>match o9 with
  |(.inl o9)=>
   some (false,o9)
  | (.inr o9) =>
   (li R43 e.Alts (e.Alts.length:Int) 0 o9).bind fun o15=>match o15 with
   |(.inl o15)=>
    some (false,o15)
   |(.inr o15)=>
    some (true,o15)
theorem rv(R43:dY)(hR43:dW R43){e:ag}{k2:(List (ae×Bool))}{r:Bool×(List (ae×Bool))}(h:lQ R43 e k2=some r):C Pg GE 64 [.agg (af e),.func (.func 99) [] [.bptr 0 0]] [] [.cells [.func (.func 81) [.bptr 1 0] []] [],.cells [.mapr 2] [],.map (aP PVal.bool k2)] (.bool r.1) [] [.cells [.func (.func 81) [.bptr 1 0] []] [],.cells [.mapr 2] [],.map (aP PVal.bool r.2)]:=by
 obtain⟨r1,br1,h⟩:=aG h
 have p3:=fun{sc F} (r:PS sc F)=>se (dM e)<|sv (cu e)<|si (.cg ⟨[0,1,2],[.agg (af e),.bptr 0 0],[],[.cells [.func (.func 81) [.bptr 1 0] []] [],.cells [.mapr 2] [],.map (aP PVal.bool k2)],[.cells [.func (.func 81) [.bptr 1 0] []] [],.cells [.mapr 2] [],.map (aP PVal.bool k2)],[.cells [.func (.func 81) [.bptr 1 0] []] [],.cells [.mapr 2] [],.map (aP PVal.bool r1.2)],[.cells [.func (.func 81) [.bptr 1 0] []] [],.cells [.mapr 2] [],.map (aP PVal.bool r1.2)],.bool r1.1,.bool r1.1,[]⟩) (wt br1)<|sf (aI (xR [0,1,2] (.agg (af e)) (az e)) (aI (xB [0,1,2] 0 0 0 rfl) trivial))<|sf (aI (aI (rB (.cells [.func (.func 81) [.bptr 1 0] []] [])) (aI (rW []) (aI (xF [0,1,2] (.func 81) [.bptr 1 0] [] [.bptr 1 0] [] (aI (xB [0,1,2] 1 1 0 rfl) trivial) trivial) trivial))) (aI (aI (rB (.cells [.mapr 2] [])) (aI (rW []) (aI (xM [0,1,2] 2 2 rfl) trivial))) (aI (aI (rB (.map (aP PVal.bool k2))) (aI (rM (aP PVal.bool k2)) (s4 (n:=0) PVal.bool (fun x=>trivial) k2))) trivial)))<|sf (aI (aI (rW []) (aI (xF [0,1,2] (.func 81) [.bptr 1 0] [] [.bptr 1 0] [] (aI (xB [0,1,2] 1 1 0 rfl) trivial) trivial) trivial)) (aI (aI (rW []) (aI (xM [0,1,2] 2 2 rfl) trivial)) (aI (aI (rM (aP PVal.bool r1.2)) (s4 (n:=0) PVal.bool (fun x=>trivial) r1.2)) trivial)))<|sf (xR [0,1,2] (.bool r1.1) trivial)<|r
 rcases aN h with⟨c2,h⟩|⟨c2,h⟩
 ·obtain rfl:=lf h
  have z:=p3<|sg 0 c2<|en (aI (rP (.bool false))<|aI trivial<|aI (rL [.cells [.func (.func 81) [.bptr 1 0] []] [],.cells [.mapr 2] [],.map (aP PVal.bool r1.2)])<|(aI (aI (aI (aI (bh (i:=1) (n:=3) rfl) trivial) trivial) trivial) (aI (aI (bh (i:=2) (n:=3) rfl) trivial) (aI (s4 (n:=3) PVal.bool (fun x=>trivial) r1.2) trivial))))
  exact C.evGp (A:=CT) mixed (m:=3) (c:=Gt) rfl call64 func64 rfl z<|by kernel_rfl
 ·obtain⟨o9,bo9,h⟩:=aG h
  rcases o9 with o9|o9
  ·obtain rfl:=lf h
   have z:=p3<|sg 0 c2<|sv (bu e)<|sv (bv e)<|bU (iJ.ln e.Kids)<|cY (e:=.ret) (s1:=b9 e (.inl o9)) (fE R43 e e.Kids (e.Kids.length:Int) 0 r1.2 hR43 bo9)<|en (aI (rP (.bool false))<|aI trivial<|aI (rL [.cells [.func (.func 81) [.bptr 1 0] []] [],.cells [.mapr 2] [],.map (aP PVal.bool o9)])<|(aI (aI (aI (aI (bh (i:=1) (n:=3) rfl) trivial) trivial) trivial) (aI (aI (bh (i:=2) (n:=3) rfl) trivial) (aI (s4 (n:=3) PVal.bool (fun x=>trivial) o9) trivial))))
   exact C.evGp (A:=CT) mixed (m:=3) (c:=Gt) rfl call64 func64 rfl z<|by kernel_rfl
  ·obtain⟨o15,bo15,h⟩:=aG h
   rcases o15 with o15|o15
   ·obtain rfl:=lf h
    have z:=p3<|sg 0 c2<|sv (bu e)<|sv (bv e)<|bU (iJ.ln e.Kids)<|cY (e:=.exit 0) (s1:=b9 e (.inr o9)) (fE R43 e e.Kids (e.Kids.length:Int) 0 r1.2 hR43 bo9)<|sv (aH e)<|sv (aJ e)<|bU (fo.ln e.Alts)<|cY (e:=.ret) (s1:=cC (.inl o15)) (jE R43 e.Alts (e.Alts.length:Int) 0 o9 hR43 bo15)<|en (aI (rP (.bool false))<|aI trivial<|aI (rL [.cells [.func (.func 81) [.bptr 1 0] []] [],.cells [.mapr 2] [],.map (aP PVal.bool o15)])<|(aI (aI (aI (aI (bh (i:=1) (n:=3) rfl) trivial) trivial) trivial) (aI (aI (bh (i:=2) (n:=3) rfl) trivial) (aI (s4 (n:=3) PVal.bool (fun x=>trivial) o15) trivial))))
    exact C.evGp (A:=CT) mixed (m:=3) (c:=Gt) rfl call64 func64 rfl z<|by kernel_rfl
   ·obtain rfl:=lf h
    have z:=p3<|sg 0 c2<|sv (bu e)<|sv (bv e)<|bU (iJ.ln e.Kids)<|cY (e:=.exit 0) (s1:=b9 e (.inr o9)) (fE R43 e e.Kids (e.Kids.length:Int) 0 r1.2 hR43 bo9)<|sv (aH e)<|sv (aJ e)<|bU (fo.ln e.Alts)<|cY (e:=.exit 2) (s1:=cC (.inr o15)) (jE R43 e.Alts (e.Alts.length:Int) 0 o9 hR43 bo15)<|en (aI (rP (.bool true))<|aI trivial<|aI (rL [.cells [.func (.func 81) [.bptr 1 0] []] [],.cells [.mapr 2] [],.map (aP PVal.bool o15)])<|(aI (aI (aI (aI (bh (i:=1) (n:=3) rfl) trivial) trivial) trivial) (aI (aI (bh (i:=2) (n:=3) rfl) trivial) (aI (s4 (n:=3) PVal.bool (fun x=>trivial) o15) trivial))))
    exact C.evGp (A:=CT) mixed (m:=3) (c:=Gt) rfl call64 func64 rfl z<|by kernel_rfl
def lR:((ag×(List (ae×Bool)))->Option (Bool×(List (ae×Bool))))->(ag×(List (ae×Bool)))->Option (Bool×(List (ae×Bool))):=fun(rec:(ag×(List (ae×Bool)))->Option (Bool×(List (ae×Bool)))) (x:ag×(List (ae×Bool)))=>lQ (fun e k2=>rec (e,k2)) x.1 x.2
def mV(e:ag)(k2:(List (ae×Bool))):Option (Bool×(List (ae×Bool))):=uc lR (e,k2)
theorem rQ{e:ag}{k2:(List (ae×Bool))}{r:Bool×(List (ae×Bool))}(h:mV e k2=some r):C Pg GE 64 [.agg (af e),.func (.func 99) [] [.bptr 0 0]] [] [.cells [.func (.func 81) [.bptr 1 0] []] [],.cells [.mapr 2] [],.map (aP PVal.bool k2)] (.bool r.1) [] [.cells [.func (.func 81) [.bptr 1 0] []] [],.cells [.mapr 2] [],.map (aP PVal.bool r.2)]:=
 fk (F:=lR) (M:=fun(x:ag×(List (ae×Bool))) (r:Bool×(List (ae×Bool)))=>C Pg GE 64 [.agg (af x.1),.func (.func 99) [] [.bptr 0 0]] [] [.cells [.func (.func 81) [.bptr 1 0] []] [],.cells [.mapr 2] [],.map (aP PVal.bool x.2)] (.bool r.1) [] [.cells [.func (.func 81) [.bptr 1 0] []] [],.cells [.mapr 2] [],.map (aP PVal.bool r.2)]) (fun rec hrec x r h=>rv _ (fun e k2 r h=>hrec (e,k2) r h) h) h
noncomputable def WL:Code:=f53.body.getD .skip
def Ww:List Nat:=[]
def H1(e:ag):Option waA:=
 (vJ ([]:List ae)).bind fun r1=>
 (mV e r1).bind fun r2=>
 (Cw r2.2).bind fun r3=>
 some r3
theorem I1{e:ag}{r:waA}(h:H1 e=some r):CC Pg GE 53 [.agg (af e)] (sl cS r) [(0,9)]:=by
 obtain⟨r1,br1,h⟩:=aG h
 obtain⟨r2,br2,h⟩:=aG h
 obtain⟨r3,br3,h⟩:=aG h
 obtain rfl:=lf h
 have z:=se (dM e)<|si (.cn ⟨[1,2],[],[],[],[],[.map (aP PVal.bool r1),.cells [.mapr 1] []],[.map (aP PVal.bool r1),.cells [.mapr 0] []],.bptr 2 0,.bptr 1 0,[]⟩) (wx br1)<|sf (aI (am bO ([]:List ae)) trivial)<|sf (aI (aI (rM (aP PVal.bool r1)) (s4 (n:=0) PVal.bool (fun x=>trivial) r1)) (aI (aI (rW []) (aI (xM [1,2] 0 1 rfl) trivial)) trivial))<|sf (xB [1,2] 1 2 0 rfl)<|sx UH<|ss<|sv (cu e)<|si (.cg ⟨[3,2,1],[.agg (af e),.func (.func 99) [] [.bptr 0 0]],[],[.cells [.func (.func 81) [.bptr 2 0] []] [],.cells [.mapr 1] [],.map (aP PVal.bool r1)],[.cells [.func (.func 81) [.bptr 1 0] []] [],.cells [.mapr 2] [],.map (aP PVal.bool r1)],[.cells [.func (.func 81) [.bptr 2 0] []] [],.cells [.mapr 1] [],.map (aP PVal.bool r2.2)],[.cells [.func (.func 81) [.bptr 1 0] []] [],.cells [.mapr 2] [],.map (aP PVal.bool r2.2)],.bool r2.1,.bool r2.1,[]⟩) (rQ br2)<|sf (aI (xR [3,2,1] (.agg (af e)) (az e)) (aI (xF [3,2,1] (.func 99) [] [.bptr 3 0] [] [.bptr 0 0] trivial (aI (xB [3,2,1] 0 3 0 rfl) trivial)) trivial))<|sf (aI (aI (rB (.cells [.func (.func 81) [.bptr 2 0] []] [])) (aI (rW []) (aI (xF [3,2,1] (.func 81) [.bptr 2 0] [] [.bptr 1 0] [] (aI (xB [3,2,1] 1 2 0 rfl) trivial) trivial) trivial))) (aI (aI (rB (.cells [.mapr 1] [])) (aI (rW []) (aI (xM [3,2,1] 2 1 rfl) trivial))) (aI (aI (rB (.map (aP PVal.bool r1))) (aI (rM (aP PVal.bool r1)) (s4 (n:=0) PVal.bool (fun x=>trivial) r1))) trivial)))<|sf (aI (aI (rW []) (aI (xF [3,2,1] (.func 81) [.bptr 2 0] [] [.bptr 1 0] [] (aI (xB [3,2,1] 1 2 0 rfl) trivial) trivial) trivial)) (aI (aI (rW []) (aI (xM [3,2,1] 2 1 rfl) trivial)) (aI (aI (rM (aP PVal.bool r2.2)) (s4 (n:=0) PVal.bool (fun x=>trivial) r2.2)) trivial)))<|sf (xR [3,2,1] (.bool r2.1) trivial)<|si (.cg ⟨[2,1],[.bptr 0 0],[],[.cells [.mapr 1] [],.map (aP PVal.bool r2.2)],[.cells [.mapr 1] [],.map (aP PVal.bool r2.2)],[.cells [.mapr 1] [],.map (aP PVal.bool r2.2)],[.cells [.mapr 1] [],.map (aP PVal.bool r2.2)],sl cS r3,sl cS r3,[(0,9)]⟩) (BE br3)<|sf (aI (xB [2,1] 0 2 0 rfl) trivial)<|sf (aI (aI (rB (.cells [.mapr 1] [])) (aI (rW []) (aI (xM [2,1] 1 1 rfl) trivial))) (aI (aI (rB (.map (aP PVal.bool r2.2))) (aI (rM (aP PVal.bool r2.2)) (s4 (n:=0) PVal.bool (fun x=>trivial) r2.2))) trivial))<|sf (aI (aI (rW []) (aI (xM [2,1] 1 1 rfl) trivial)) (aI (aI (rM (aP PVal.bool r2.2)) (s4 (n:=0) PVal.bool (fun x=>trivial) r2.2)) trivial))<|sf (xR [2,1] (sl cS r3) (am bO r3))<|en (aI (rP (sl cS r3))<|(am bO r3))
 exact cH Ww call53 func53 (c:=WL) rfl (aI (az e) trivial) z<|by kernel_rfl
abbrev aU:=(ae->ae->ae->ae->ae->ag->(List ac)->Option ag)
abbrev bp(R:aU):Prop:=∀(c:ae) (c2:ae) (c3:ae) (c4:ae) (c5:ae) (e:ag) (scope:(List ac)) (r:ag),R c c2 c3 c4 c5 e scope=some r->CC Pg GE 56 [.agg [.func (.func 55) [] [.eptr (cS c),.eptr (cS c2),.eptr (cS c3)],.func (.func 54) [] [.eptr (cS c4),.eptr (cS c5)]],.agg (af e),sl aa scope] (.agg (af r)) [(3,28),(4,85),(5,89),(6,60)]
noncomputable def Wd:Code:=f54.body.getD .skip
def Wa:List Nat:=[9]
def zT(s:ae)(a:ae)(a2:ae):Option ae:=
 if(s==a)=true then
  some a2
 else
  some s
theorem DY{s:ae}{a:ae}{a2:ae}{r:ae}(h:zT s a a2=some r):CC Pg GE 54 [.str s,.eptr (cS a),.eptr (cS a2)] (.str r) []:=by
 rcases aN h with⟨c1,h⟩|⟨c1,h⟩
 ·obtain rfl:=lf h
  have z:=sv (de GB (.str a) [])<|sg 0 c1<|sv (de GB (.str a2) [])<|en (aI (rP (.str a2))<|trivial)
  exact cH Wa call54 func54 (c:=Wd) rfl (aI trivial (aI (bO a) (aI (bO a2) trivial))) z<|by kernel_rfl
 ·obtain rfl:=lf h
  have z:=sv (de GB (.str a) [])<|sg 0 c1<|en (aI (rP (.str s))<|trivial)
  exact cH Wa call54 func54 (c:=Wd) rfl (aI trivial (aI (bO a) (aI (bO a2) trivial))) z<|by kernel_rfl
noncomputable def Vv:Code:=f55.body.getD .skip
def US:List Nat:=[17]
section
variable(s:ae)(t2:ae)(t3:ae)(t4:ae)
def AW:aA:=bg 18 [(0,.str s),(2,.eptr (cS t2)),(3,.eptr (cS t3)),(4,.eptr (cS t4))] [] []
def nc(o:Bool):aA:=bg 18 [(0,.str s),(4,.eptr (cS t4)),(15,.bool o)] [] []
def uU:Option Bool:=
 if(s==t2)=true then
  some (!(t3==t2))
 else
  some false
theorem zU{x:Bool}(h:uU s t2 t3=some x):aQ Pg GE 0 (cA Vv 12) (EX .normal (nc s t4 x)) (AW s t2 t3 t4):=by
 rcases aN h with⟨c1,h⟩|⟨c1,h⟩
 ·obtain rfl:=lf h
  exact bA US (sv (de GB (.str t2) [])<|sg 4 c1<|sv (de GB (.str t3) [])<|sv (de GB (.str t2) [])<|eF .normal (nc s t4 (!(t3==t2))))<|by kernel_rfl
 ·obtain rfl:=lf h
  exact bA US (sv (de GB (.str t2) [])<|sg 4 c1<|eF .normal (nc s t4 false))<|by kernel_rfl
end
def tL(s:ae)(a:(List ac))(a2:ae)(a3:ae)(a4:ae):Option ae:=
 (uU s a2 a3).bind fun o2=>
 if o2=true then
  some a4
 else
  some s
theorem uV{s:ae}{a:(List ac)}{a2:ae}{a3:ae}{a4:ae}{r:ae}(h:tL s a a2 a3 a4=some r):CC Pg GE 55 [.str s,sl aa a,.eptr (cS a2),.eptr (cS a3),.eptr (cS a4)] (.str r) []:=by
 obtain⟨o2,bo2,h⟩:=aG h
 have p4:=fun{sc F} (r:PS sc F)=>qk 2<|cY (zU s a2 a3 a4 bo2)<|r
 rcases aN h with⟨c3,h⟩|⟨c3,h⟩
 ·obtain rfl:=lf h
  have z:=p4<|sg 0 c3<|sv (de GB (.str a4) [])<|en (aI (rP (.str a4))<|trivial)
  exact cH US call55 func55 (c:=Vv) rfl (aI trivial (aI (am au a) (aI (bO a2) (aI (bO a3) (aI (bO a4) trivial))))) z<|by kernel_rfl
 ·obtain rfl:=lf h
  have z:=p4<|sg 0 c3<|en (aI (rP (.str s))<|trivial)
  exact cH US call55 func55 (c:=Vv) rfl (aI trivial (aI (am au a) (aI (bO a2) (aI (bO a3) (aI (bO a4) trivial))))) z<|by kernel_rfl
def ek(s:ae)(a:(List ac))(c:ae)(c2:ae)(c3:ae)(c4:ae)(c5:ae)(k1:(List ac)):Option (ae×(List ac)):=
 (tL s a c c2 c3).bind fun r1=>
 (app k1 ([(⟨s,r1⟩:ac)]:List ac)).bind fun l2=>
 some (r1,l2)
theorem fO{s:ae}{a:(List ac)}{c:ae}{c2:ae}{c3:ae}{c4:ae}{c5:ae}{k1:(List ac)}{r:ae×(List ac)}(h:ek s a c c2 c3 c4 c5 k1=some r):C Pg GE 105 [.str s,.bptr 0 0,.eptr ((cL aa) a),.bptr 1 0] [] [.cells [.func (.func 55) [] [.eptr (cS c),.eptr (cS c2),.eptr (cS c3)],.func (.func 54) [] [.eptr (cS c4),.eptr (cS c5)]] [],.cells [sl aa k1] [(0,137)]] (.str r.1) [] [.cells [.func (.func 55) [] [.eptr (cS c),.eptr (cS c2),.eptr (cS c3)],.func (.func 54) [] [.eptr (cS c4),.eptr (cS c5)]] [],.cells [sl aa r.2] [(0,137)]]:=by
 obtain⟨r1,br1,h⟩:=aG h
 obtain⟨l2,bl2,h⟩:=aG h
 obtain rfl:=lf h
 have z:=ss<|sv (de Ge (sl aa a) [])<|du (uV br1)<|sv (kl s r1)<|sv (HV.mk' (v:=nT) oc ([(⟨s,r1⟩:ac)]:List ac) 1 (by kernel_rfl))<|sv (HV.ap bl2)<|en (aI (rP (.str r1))<|aI trivial<|aI (rL [.cells [.func (.func 55) [] [.eptr (cS c),.eptr (cS c2),.eptr (cS c3)],.func (.func 54) [] [.eptr (cS c4),.eptr (cS c5)]] [],.cells [sl aa l2] [(0,137)]])<|(aI (aI (aI trivial (aI (bk (n:=2) (bO c)) (aI (bk (n:=2) (bO c2)) (aI (bk (n:=2) (bO c3)) trivial)))) (aI (aI trivial (aI (bk (n:=2) (bO c4)) (aI (bk (n:=2) (bO c5)) trivial))) trivial)) (aI (aI (up (n:=2) (am au l2)) trivial) trivial)))
 exact C.evGp (A:=TA) mixed (m:=2) (c:=TX) rfl call105 func105 rfl z<|by kernel_rfl
section
variable(t1:Bool)(v:(List ac))(v2:ae)(v3:ae)(v4:ae)(v5:ae)(v6:ae)(m:(List ac))(m2:ae)(m3:Int)(m4:ae)(m5:waC)(m6:waA)(m7:Int)(m8:ae)(m9:Int)(m10:waB)(m11:waB)(m12:waC)(m13:waB)
def gn:aA:=bg 17 [(1,.eptr (cB t1)),(2,.bptr 0 0),(3,.bptr 3 0),(4,.bptr 4 0)] [.cells [.func (.func 105) [] [.bptr 1 0,.eptr ((cL aa) v),.bptr 2 0]] [],.cells [.func (.func 55) [] [.eptr (cS v2),.eptr (cS v3),.eptr (cS v4)],.func (.func 54) [] [.eptr (cS v5),.eptr (cS v6)]] [],.cells [sl aa m] [(0,137)],.cells [.str m2,.int .i64 m3,.str m4,sl ai m5,sl cS m6,.int .i64 m7,.str m8,.int .i64 m9,sl al m10,sl al m11] [],.cells [.str ([]:ae),.int .i64 0,.str ([]:ae),sl ai m12,sl cS ([]:List ae),.int .i64 0,.str ([]:ae),.int .i64 0,sl al m13,sl al m13] [(3,60),(4,9),(8,58),(9,58)]] []
def ce(o:(List ac)×ae):aA:=bg 17 [(3,.bptr 3 0),(4,.bptr 4 0)] [.cells [.func (.func 105) [] [.bptr 1 0,.eptr ((cL aa) v),.bptr 2 0]] [],.cells [.func (.func 55) [] [.eptr (cS v2),.eptr (cS v3),.eptr (cS v4)],.func (.func 54) [] [.eptr (cS v5),.eptr (cS v6)]] [],.cells [sl aa o.1] [(0,137)],.cells [.str o.2,.int .i64 m3,.str m4,sl ai m5,sl cS m6,.int .i64 m7,.str m8,.int .i64 m9,sl al m10,sl al m11] [],.cells [.str ([]:ae),.int .i64 0,.str ([]:ae),sl ai m12,sl cS ([]:List ae),.int .i64 0,.str ([]:ae),.int .i64 0,sl al m13,sl al m13] [(3,60),(4,9),(8,58),(9,58)]] []
def dK:Option (((List ac)×ae)):=
 if t1=true then
  (ek m2 v v2 v3 v4 v5 v6 m).bind fun r2=>
  some (r2.2,r2.1)
 else
  some (m,m2)
theorem f8{x:((List ac)×ae)}(h:dK t1 v v2 v3 v4 v5 v6 m m2=some x):aQ Pg GE 3 (cA Rd 6) (EX .normal (ce v v2 v3 v4 v5 v6 m3 m4 m5 m6 m7 m8 m9 m10 m11 m12 m13 x)) (gn t1 v v2 v3 v4 v5 v6 m m2 m3 m4 m5 m6 m7 m8 m9 m10 m11 m12 m13):=by
 rcases aN h with⟨c1,h⟩|⟨c1,h⟩
 ·obtain⟨r2,br2,h⟩:=aG h
  obtain rfl:=lf h
  exact bA N0 (sv (de U5 (.bool t1) [])<|sg 0 c1<|ss<|ss<|si (.cg ⟨[1,2],[.str m2,.bptr 0 0,.eptr ((cL aa) v),.bptr 1 0],[],[.cells [.func (.func 55) [] [.eptr (cS v2),.eptr (cS v3),.eptr (cS v4)],.func (.func 54) [] [.eptr (cS v5),.eptr (cS v6)]] [],.cells [sl aa m] [(0,137)]],[.cells [.func (.func 55) [] [.eptr (cS v2),.eptr (cS v3),.eptr (cS v4)],.func (.func 54) [] [.eptr (cS v5),.eptr (cS v6)]] [],.cells [sl aa m] [(0,137)]],[.cells [.func (.func 55) [] [.eptr (cS v2),.eptr (cS v3),.eptr (cS v4)],.func (.func 54) [] [.eptr (cS v5),.eptr (cS v6)]] [],.cells [sl aa r2.2] [(0,137)]],[.cells [.func (.func 55) [] [.eptr (cS v2),.eptr (cS v3),.eptr (cS v4)],.func (.func 54) [] [.eptr (cS v5),.eptr (cS v6)]] [],.cells [sl aa r2.2] [(0,137)]],.str r2.1,.str r2.1,[]⟩) (fO br2)<|sf (aI (xR [1,2] (.str m2) trivial) (aI (xB [1,2] 0 1 0 rfl) (aI (xR [1,2] (.eptr ((cL aa) v)) (lS au v)) (aI (xB [1,2] 1 2 0 rfl) trivial))))<|sf (aI (aI (rB (.cells [.func (.func 55) [] [.eptr (cS v2),.eptr (cS v3),.eptr (cS v4)],.func (.func 54) [] [.eptr (cS v5),.eptr (cS v6)]] [])) (aI (rW []) (aI (xR [1,2] (.func (.func 55) [] [.eptr (cS v2),.eptr (cS v3),.eptr (cS v4)]) (aI trivial (aI (bO v2) (aI (bO v3) (aI (bO v4) trivial))))) (aI (xR [1,2] (.func (.func 54) [] [.eptr (cS v5),.eptr (cS v6)]) (aI trivial (aI (bO v5) (aI (bO v6) trivial)))) trivial)))) (aI (aI (rB (.cells [sl aa m] [(0,137)])) (aI (rW [(0,137)]) (aI (xR [1,2] (sl aa m) (am au m)) trivial))) trivial))<|sf (aI (aI (rW []) (aI (xR [1,2] (.func (.func 55) [] [.eptr (cS v2),.eptr (cS v3),.eptr (cS v4)]) (aI trivial (aI (bO v2) (aI (bO v3) (aI (bO v4) trivial))))) (aI (xR [1,2] (.func (.func 54) [] [.eptr (cS v5),.eptr (cS v6)]) (aI trivial (aI (bO v5) (aI (bO v6) trivial)))) trivial))) (aI (aI (rW [(0,137)]) (aI (xR [1,2] (sl aa r2.2) (am au r2.2)) trivial)) trivial))<|sf (xR [1,2] (.str r2.1) trivial)<|ss<|eF .normal (ce v v2 v3 v4 v5 v6 m3 m4 m5 m6 m7 m8 m9 m10 m11 m12 m13 (r2.2,r2.1)))<|by kernel_rfl
 ·obtain rfl:=lf h
  exact bA N0 (sv (de U5 (.bool t1) [])<|sg 0 c1<|eF .normal (ce v v2 v3 v4 v5 v6 m3 m4 m5 m6 m7 m8 m9 m10 m11 m12 m13 (m,m2)))<|by kernel_rfl
end
def dZ(p:aw)(a:Bool)(c:(List ac))(c2:ae)(c3:ae)(c4:ae)(c5:ae)(c6:ae)(k2:(List ac)):Option (aw×(List ac)):=
 (dK a c c2 c3 c4 c5 c6 k2 p.Name).bind fun o3=>
 (mL dR p.Type_).bind fun r4=>
 some ((⟨o3.2,r4⟩:aw),o3.1)
theorem gE{p:aw}{a:Bool}{c:(List ac)}{c2:ae}{c3:ae}{c4:ae}{c5:ae}{c6:ae}{k2:(List ac)}{r:aw×(List ac)}(h:dZ p a c c2 c3 c4 c5 c6 k2=some r):C Pg GE 108 [.agg (av p),.eptr (cB a),.bptr 0 0] [] [.cells [.func (.func 105) [] [.bptr 1 0,.eptr ((cL aa) c),.bptr 2 0]] [],.cells [.func (.func 55) [] [.eptr (cS c2),.eptr (cS c3),.eptr (cS c4)],.func (.func 54) [] [.eptr (cS c5),.eptr (cS c6)]] [],.cells [sl aa k2] [(0,137)]] (.agg (av r.1)) [] [.cells [.func (.func 105) [] [.bptr 1 0,.eptr ((cL aa) c),.bptr 2 0]] [],.cells [.func (.func 55) [] [.eptr (cS c2),.eptr (cS c3),.eptr (cS c4)],.func (.func 54) [] [.eptr (cS c5),.eptr (cS c6)]] [],.cells [sl aa r.2] [(0,137)]]:=by
 obtain⟨o3,bo3,h⟩:=aG h
 obtain⟨r4,br4,h⟩:=aG h
 obtain rfl:=lf h
 have z:=sx (mi p)<|sx OY<|qk 0<|cY (f8 a c c2 c3 c4 c5 c6 k2 p.Name p.Type_.Op p.Type_.Name p.Type_.Args p.Type_.Names p.Type_.Pred.Op p.Type_.Pred.Name p.Type_.Pred.N p.Type_.Pred.Kids p.Type_.Preds ([]:List ah) ([]:List aj) bo3)<|IY [0,1,0,4,12,31,63]<|ss<|sv (jO p.Type_ [])<|du (nf dR (fun _ _ h=>gm h) br4)<|sv (Bk o3.2 r4)<|sx (mi (⟨o3.2,r4⟩:aw))<|en (aI (HT (⟨o3.2,r4⟩:aw))<|aI (UQ (n:=3) (ba (⟨o3.2,r4⟩:aw)))<|aI (rL [.cells [.func (.func 105) [] [.bptr 1 0,.eptr ((cL aa) c),.bptr 2 0]] [],.cells [.func (.func 55) [] [.eptr (cS c2),.eptr (cS c3),.eptr (cS c4)],.func (.func 54) [] [.eptr (cS c5),.eptr (cS c6)]] [],.cells [sl aa o3.1] [(0,137)]])<|(aI (aI (aI trivial (aI (bh (i:=1) (n:=3) rfl) (aI (bk (n:=3) (lS au c)) (aI (bh (i:=2) (n:=3) rfl) trivial)))) trivial) (aI (aI (aI trivial (aI (bk (n:=3) (bO c2)) (aI (bk (n:=3) (bO c3)) (aI (bk (n:=3) (bO c4)) trivial)))) (aI (aI trivial (aI (bk (n:=3) (bO c5)) (aI (bk (n:=3) (bO c6)) trivial))) trivial)) (aI (aI (up (n:=3) (am au o3.1)) trivial) trivial))))
 exact C.evGp (A:=N0) mixed (m:=3) (c:=Rd) rfl call108 func108 rfl z<|by kernel_rfl
section
variable(v:Bool)(t8:waG)(t9:Int)(v2:(List ac))(v3:ae)(v4:ae)(v5:ae)(v6:ae)(v7:ae)(out:waG)(t10:Int)(m:(List ac))
def aT:aA:=bg 22 [(1,.func (.func 108) [] [.eptr (cB v),.bptr 0 0]),(5,sl av out),(8,sl av t8),(9,.int .i64 t9),(10,.int .i64 t10)] [.cells [.func (.func 105) [] [.bptr 1 0,.eptr ((cL aa) v2),.bptr 2 0]] [],.cells [.func (.func 55) [] [.eptr (cS v3),.eptr (cS v4),.eptr (cS v5)],.func (.func 54) [] [.eptr (cS v6),.eptr (cS v7)]] [],.cells [sl aa m] [(0,137)]] [((5,0),85)]
def bR(o:waG×(List ac)):aA:=bg 22 [(5,sl av o.1)] [.cells [.func (.func 105) [] [.bptr 1 0,.eptr ((cL aa) v2),.bptr 2 0]] [],.cells [.func (.func 55) [] [.eptr (cS v3),.eptr (cS v4),.eptr (cS v5)],.func (.func 54) [] [.eptr (cS v6),.eptr (cS v7)]] [],.cells [sl aa o.2] [(0,137)]] [((5,0),85)]
def cQ:Option ((waG×Int×(List ac))⊕((waG×(List ac)))):=
 if(decide (t10<t9))=true then
  (fJ t8 t10).bind fun x2=>
  (dZ x2 v v2 v3 v4 v5 v6 v7 m).bind fun r3=>
  (app out ([r3.1]:List aw)).bind fun l4=>
  some (.inl (l4,ca (t10+1),r3.2))
 else
  some (.inr (out,m))
def cX:Option ((waG×(List ac))):=loop (fun(zz:waG×Int×(List ac))=>cQ v t8 t9 v2 v3 v4 v5 v6 v7 zz.1 zz.2.1 zz.2.2) (out,t10,m)
theorem fc{y:(waG×Int×(List ac))⊕((waG×(List ac)))}(h:cQ v t8 t9 v2 v3 v4 v5 v6 v7 out t10 m=some y):aQ Pg GE 3 (cA Oa 119) (LQ (fun(zz:waG×Int×(List ac))=>aT v t8 t9 v2 v3 v4 v5 v6 v7 zz.1 zz.2.1 zz.2.2) (fun _=>.exit 0) (bR v2 v3 v4 v5 v6 v7) y) (aT v t8 t9 v2 v3 v4 v5 v6 v7 out t10 m):=by
 rcases aN h with⟨c1,h⟩|⟨c1,h⟩
 ·obtain⟨x2,bx2,h⟩:=aG h
  obtain⟨r3,br3,h⟩:=aG h
  obtain⟨l4,bl4,h⟩:=aG h
  obtain rfl:=lf h
  have z:=sg 0 c1<|sv (lT.ia (k:=.i64) bx2)<|sv (As x2)<|sx OY<|sx (mi x2)<|sv (Hq x2 [])<|si (.cg ⟨[0,1,2],[.agg (av x2),.eptr (cB v),.bptr 0 0],[],[.cells [.func (.func 105) [] [.bptr 1 0,.eptr ((cL aa) v2),.bptr 2 0]] [],.cells [.func (.func 55) [] [.eptr (cS v3),.eptr (cS v4),.eptr (cS v5)],.func (.func 54) [] [.eptr (cS v6),.eptr (cS v7)]] [],.cells [sl aa m] [(0,137)]],[.cells [.func (.func 105) [] [.bptr 1 0,.eptr ((cL aa) v2),.bptr 2 0]] [],.cells [.func (.func 55) [] [.eptr (cS v3),.eptr (cS v4),.eptr (cS v5)],.func (.func 54) [] [.eptr (cS v6),.eptr (cS v7)]] [],.cells [sl aa m] [(0,137)]],[.cells [.func (.func 105) [] [.bptr 1 0,.eptr ((cL aa) v2),.bptr 2 0]] [],.cells [.func (.func 55) [] [.eptr (cS v3),.eptr (cS v4),.eptr (cS v5)],.func (.func 54) [] [.eptr (cS v6),.eptr (cS v7)]] [],.cells [sl aa r3.2] [(0,137)]],[.cells [.func (.func 105) [] [.bptr 1 0,.eptr ((cL aa) v2),.bptr 2 0]] [],.cells [.func (.func 55) [] [.eptr (cS v3),.eptr (cS v4),.eptr (cS v5)],.func (.func 54) [] [.eptr (cS v6),.eptr (cS v7)]] [],.cells [sl aa r3.2] [(0,137)]],.agg (av r3.1),.agg (av r3.1),[]⟩) (gE br3)<|sf (aI (xR [0,1,2] (.agg (av x2)) (ba x2)) (aI (xR [0,1,2] (.eptr (cB v)) (Tu v)) (aI (xB [0,1,2] 0 0 0 rfl) trivial)))<|sf (aI (aI (rB (.cells [.func (.func 105) [] [.bptr 1 0,.eptr ((cL aa) v2),.bptr 2 0]] [])) (aI (rW []) (aI (xF [0,1,2] (.func 105) [] [.bptr 1 0,.eptr ((cL aa) v2),.bptr 2 0] [] [.bptr 1 0,.eptr ((cL aa) v2),.bptr 2 0] trivial (aI (xB [0,1,2] 1 1 0 rfl) (aI (xR [0,1,2] (.eptr ((cL aa) v2)) (lS au v2)) (aI (xB [0,1,2] 2 2 0 rfl) trivial)))) trivial))) (aI (aI (rB (.cells [.func (.func 55) [] [.eptr (cS v3),.eptr (cS v4),.eptr (cS v5)],.func (.func 54) [] [.eptr (cS v6),.eptr (cS v7)]] [])) (aI (rW []) (aI (xR [0,1,2] (.func (.func 55) [] [.eptr (cS v3),.eptr (cS v4),.eptr (cS v5)]) (aI trivial (aI (bO v3) (aI (bO v4) (aI (bO v5) trivial))))) (aI (xR [0,1,2] (.func (.func 54) [] [.eptr (cS v6),.eptr (cS v7)]) (aI trivial (aI (bO v6) (aI (bO v7) trivial)))) trivial)))) (aI (aI (rB (.cells [sl aa m] [(0,137)])) (aI (rW [(0,137)]) (aI (xR [0,1,2] (sl aa m) (am au m)) trivial))) trivial)))<|sf (aI (aI (rW []) (aI (xF [0,1,2] (.func 105) [] [.bptr 1 0,.eptr ((cL aa) v2),.bptr 2 0] [] [.bptr 1 0,.eptr ((cL aa) v2),.bptr 2 0] trivial (aI (xB [0,1,2] 1 1 0 rfl) (aI (xR [0,1,2] (.eptr ((cL aa) v2)) (lS au v2)) (aI (xB [0,1,2] 2 2 0 rfl) trivial)))) trivial)) (aI (aI (rW []) (aI (xR [0,1,2] (.func (.func 55) [] [.eptr (cS v3),.eptr (cS v4),.eptr (cS v5)]) (aI trivial (aI (bO v3) (aI (bO v4) (aI (bO v5) trivial))))) (aI (xR [0,1,2] (.func (.func 54) [] [.eptr (cS v6),.eptr (cS v7)]) (aI trivial (aI (bO v6) (aI (bO v7) trivial)))) trivial))) (aI (aI (rW [(0,137)]) (aI (xR [0,1,2] (sl aa r3.2) (am au r3.2)) trivial)) trivial)))<|sf (xR [0,1,2] (.agg (av r3.1)) (ba r3.1))<|sv (lT.mk' (v:=Ah) xj ([r3.1]:List aw) 1 (by kernel_rfl))<|sv (lT.ap bl4)<|rx 3 .normal (aT v t8 t9 v2 v3 v4 v5 v6 v7 l4 (ca (t10+1)) r3.2) rfl (dv (aI (aI trivial (aI (bk (Tu v)) (aI (bh rfl) trivial))) (aI (up (am ba l4)) (aI (up (am ba t8)) (aI trivial (aI trivial trivial)))))) (aI (aI (aI trivial (aI (bh rfl) (aI (bk (lS au v2)) (aI (bh rfl) trivial)))) trivial) (aI (aI (aI trivial (aI (bk (bO v3)) (aI (bk (bO v4)) (aI (bk (bO v5)) trivial)))) (aI (aI trivial (aI (bk (bO v6)) (aI (bk (bO v7)) trivial))) trivial)) (aI (aI (up (am au r3.2)) trivial) trivial)))
  exact d4 (A:=NZ) mixed z<|by kernel_rfl
 ·obtain rfl:=lf h
  have z:=sg 0 c1<|eF (.exit 0) (bR v2 v3 v4 v5 v6 v7 (out,m))
  exact iI NZ (by intro hx;cases hx) z<|by kernel_rfl
theorem ff{x:(waG×(List ac))}(h:cX v t8 t9 v2 v3 v4 v5 v6 v7 out t10 m=some x):aQ Pg GE 3 (.loop (cA Oa 119)) (EX (.exit 0) (bR v2 v3 v4 v5 v6 v7 x)) (aT v t8 t9 v2 v3 v4 v5 v6 v7 out t10 m):=
 aQ.loop (S:=fun(zz:waG×Int×(List ac))=>aT v t8 t9 v2 v3 v4 v5 v6 v7 zz.1 zz.2.1 zz.2.2) (ex:=(fun _=>.exit 0)) (s:=(out,t10,m)) h fun zz y hy=>fc v t8 t9 v2 v3 v4 v5 v6 v7 zz.1 zz.2.1 zz.2.2 hy
end
def dA(a:waG)(c:Bool)(c2:(List ac))(c3:ae)(c4:ae)(c5:ae)(c6:ae)(c7:ae)(k2:(List ac)):Option (waG×(List ac)):=
 (cX c a (a.length:Int) c2 c3 c4 c5 c6 c7 ([]:List aw) 0 k2).bind fun o5=>
 some (o5.1,o5.2)
theorem fD{a:waG}{c:Bool}{c2:(List ac)}{c3:ae}{c4:ae}{c5:ae}{c6:ae}{c7:ae}{k2:(List ac)}{r:waG×(List ac)}(h:dA a c c2 c3 c4 c5 c6 c7 k2=some r):C Pg GE 107 [sl av a,.func (.func 108) [] [.eptr (cB c),.bptr 0 0]] [] [.cells [.func (.func 105) [] [.bptr 1 0,.eptr ((cL aa) c2),.bptr 2 0]] [],.cells [.func (.func 55) [] [.eptr (cS c3),.eptr (cS c4),.eptr (cS c5)],.func (.func 54) [] [.eptr (cS c6),.eptr (cS c7)]] [],.cells [sl aa k2] [(0,137)]] (sl av r.1) [(0,85)] [.cells [.func (.func 105) [] [.bptr 1 0,.eptr ((cL aa) c2),.bptr 2 0]] [],.cells [.func (.func 55) [] [.eptr (cS c3),.eptr (cS c4),.eptr (cS c5)],.func (.func 54) [] [.eptr (cS c6),.eptr (cS c7)]] [],.cells [sl aa r.2] [(0,137)]]:=by
 obtain⟨o5,bo5,h⟩:=aG h
 obtain rfl:=lf h
 have z:=bU (lT.ln a)<|cY (ff c a (a.length:Int) c2 c3 c4 c5 c6 c7 ([]:List aw) 0 k2 bo5)<|en (aI (rP (sl av o5.1))<|aI (up (n:=3) (am ba o5.1))<|aI (rL [.cells [.func (.func 105) [] [.bptr 1 0,.eptr ((cL aa) c2),.bptr 2 0]] [],.cells [.func (.func 55) [] [.eptr (cS c3),.eptr (cS c4),.eptr (cS c5)],.func (.func 54) [] [.eptr (cS c6),.eptr (cS c7)]] [],.cells [sl aa o5.2] [(0,137)]])<|(aI (aI (aI trivial (aI (bh (i:=1) (n:=3) rfl) (aI (bk (n:=3) (lS au c2)) (aI (bh (i:=2) (n:=3) rfl) trivial)))) trivial) (aI (aI (aI trivial (aI (bk (n:=3) (bO c3)) (aI (bk (n:=3) (bO c4)) (aI (bk (n:=3) (bO c5)) trivial)))) (aI (aI trivial (aI (bk (n:=3) (bO c6)) (aI (bk (n:=3) (bO c7)) trivial))) trivial)) (aI (aI (up (n:=3) (am au o5.2)) trivial) trivial))))
 exact C.evGp (A:=NZ) mixed (m:=3) (c:=Oa) rfl call107 func107 rfl z<|by kernel_rfl
section
variable(t1:(List ac))(v:aF)(t13:waA)(t14:Int)(v4:ae)(v5:ae)(v6:ae)(v7:ae)(v8:ae)(m:waH)(m2:waG)(m3:waD)(m4:waC)(v2:(List ac))(v3:waA)(t15:Int)
def bT:aA:=bg 44 [(1,.eptr ((cL aa) t1)),(2,.bptr 0 0),(3,.eptr (ay v)),(4,.bptr 2 0),(5,sl aa v2),(6,sl cS v3),(13,sl cS t13),(14,.int .i64 t14),(15,.int .i64 t15)] [.cells [.func (.func 55) [] [.eptr (cS v4),.eptr (cS v5),.eptr (cS v6)],.func (.func 54) [] [.eptr (cS v7),.eptr (cS v8)]] [],.dead,.cells [.str ([]:ae),sl cS ([]:List ae),.int .i64 0,.str ([]:ae),.int .i64 0,sl af m,sl av m2,sl ay m3,sl ai m4] [(1,9),(5,28),(6,85),(7,89),(8,60)]] [((6,0),9),((5,0),137)]
def dI(o:(List ac)×waA):aA:=bg 44 [(2,.bptr 0 0),(3,.eptr (ay v)),(4,.bptr 2 0),(5,sl aa o.1),(6,sl cS o.2)] [.cells [.func (.func 55) [] [.eptr (cS v4),.eptr (cS v5),.eptr (cS v6)],.func (.func 54) [] [.eptr (cS v7),.eptr (cS v8)]] [],.dead,.cells [.str ([]:ae),sl cS ([]:List ae),.int .i64 0,.str ([]:ae),.int .i64 0,sl af m,sl av m2,sl ay m3,sl ai m4] [(1,9),(5,28),(6,85),(7,89),(8,60)]] [((6,0),9),((5,0),137)]
def ft:Option (((List ac)×waA×Int)⊕(((List ac)×waA))):=
 if(decide (t15<t14))=true then
  (fJ t13 t15).bind fun x3=>
  (tL x3 t1 v4 v5 v6).bind fun r4=>
  (app v3 ([r4]:List ae)).bind fun l5=>
  (app v2 ([(⟨x3,r4⟩:ac)]:List ac)).bind fun l6=>
  some (.inl (l6,l5,ca (t15+1)))
 else
  some (.inr (v2,v3))
def fQ:Option (((List ac)×waA)):=loop (fun(zz:(List ac)×waA×Int)=>ft t1 t13 t14 v4 v5 v6 zz.1 zz.2.1 zz.2.2) (v2,v3,t15)
theorem j0{y:((List ac)×waA×Int)⊕(((List ac)×waA))}(h:ft t1 t13 t14 v4 v5 v6 v2 v3 t15=some y):aQ Pg GE 1 (cA Oc 247) (LQ (fun(zz:(List ac)×waA×Int)=>bT t1 v t13 t14 v4 v5 v6 v7 v8 m m2 m3 m4 zz.1 zz.2.1 zz.2.2) (fun _=>.exit 0) (dI v v4 v5 v6 v7 v8 m m2 m3 m4) y) (bT t1 v t13 t14 v4 v5 v6 v7 v8 m m2 m3 m4 v2 v3 t15):=by
 rcases aN h with⟨c2,h⟩|⟨c2,h⟩
 ·obtain⟨x3,bx3,h⟩:=aG h
  obtain⟨r4,br4,h⟩:=aG h
  obtain⟨l5,bl5,h⟩:=aG h
  obtain⟨l6,bl6,h⟩:=aG h
  obtain rfl:=lf h
  exact yz N2 (sg 0 c2<|sv (eu.ia (k:=.i64) bx3)<|sv (de GB (.str x3) [])<|ss<|sv (de Ge (sl aa t1) [])<|du (uV br4)<|sv (eu.mk' (v:=PVal.str) Mj ([r4]:List ae) 1 (by kernel_rfl))<|sv (eu.ap bl5)<|sv (kl x3 r4)<|sv (HV.mk' (v:=nT) oc ([(⟨x3,r4⟩:ac)]:List ac) 1 (by kernel_rfl))<|sv (HV.ap bl6)<|eF .normal (bT t1 v t13 t14 v4 v5 v6 v7 v8 m m2 m3 m4 l6 l5 (ca (t15+1))))<|by kernel_rfl
 ·obtain rfl:=lf h
  have z:=sg 0 c2<|eF (.exit 0) (dI v v4 v5 v6 v7 v8 m m2 m3 m4 (v2,v3))
  exact iI N2 (by intro hx;cases hx) z<|by kernel_rfl
theorem ke{x:((List ac)×waA)}(h:fQ t1 t13 t14 v4 v5 v6 v2 v3 t15=some x):aQ Pg GE 1 (.loop (cA Oc 247)) (EX (.exit 0) (dI v v4 v5 v6 v7 v8 m m2 m3 m4 x)) (bT t1 v t13 t14 v4 v5 v6 v7 v8 m m2 m3 m4 v2 v3 t15):=
 aQ.loop (S:=fun(zz:(List ac)×waA×Int)=>bT t1 v t13 t14 v4 v5 v6 v7 v8 m m2 m3 m4 zz.1 zz.2.1 zz.2.2) (ex:=(fun _=>.exit 0)) (s:=(v2,v3,t15)) h fun zz y hy=>j0 t1 v t13 t14 v4 v5 v6 v7 v8 m m2 m3 m4 zz.1 zz.2.1 zz.2.2 hy
end
def gP(R45:aU)(a:aF)(a2:(List ac))(c:ae)(c2:ae)(c3:ae)(c4:ae)(c5:ae):Option aF:=
 (rE a2).bind fun r1=>
 (fQ a2 a.Names (a.Names.length:Int) c c2 c3 r1 ([]:List ae) 0).bind fun o7=>
 (R45 c c2 c3 c4 c5 a.Body o7.1).bind fun r8=>
 some (⟨a.Con,o7.2,r8⟩:aF)
theorem lD(R45:aU)(hR45:bp R45){a:aF}{a2:(List ac)}{c:ae}{c2:ae}{c3:ae}{c4:ae}{c5:ae}{r:aF}(h:gP R45 a a2 c c2 c3 c4 c5=some r):C Pg GE 110 [.agg (ay a),.eptr ((cL aa) a2),.bptr 0 0] [] [.cells [.func (.func 55) [] [.eptr (cS c),.eptr (cS c2),.eptr (cS c3)],.func (.func 54) [] [.eptr (cS c4),.eptr (cS c5)]] []] (.agg (ay r)) [] [.cells [.func (.func 55) [] [.eptr (cS c),.eptr (cS c2),.eptr (cS c3)],.func (.func 54) [] [.eptr (cS c4),.eptr (cS c5)]] []]:=by
 obtain⟨r1,br1,h⟩:=aG h
 obtain⟨o7,bo7,h⟩:=aG h
 obtain⟨r8,br8,h⟩:=aG h
 obtain rfl:=lf h
 have z:=se (KF a)<|sx Gd<|sv (de Ge (sl aa a2) [])<|du (uy br1)<|sv (sL a)<|sv (sO a)<|bU (eu.ln a.Names)<|cY (ke a2 a a.Names (a.Names.length:Int) c c2 c3 c4 c5 ([]:List ag) ([]:List aw) ([]:List aF) ([]:List ah) r1 ([]:List ae) 0 bo7)<|IY [0,1,0,0,0,16,0,120,255,511]<|sv (xa a)<|sv (zo a)<|sv (show be Pg 95 [.func (.func 55) [] [.eptr (cS c),.eptr (cS c2),.eptr (cS c3)],.func (.func 54) [] [.eptr (cS c4),.eptr (cS c5)]]=some (.agg [.func (.func 55) [] [.eptr (cS c),.eptr (cS c2),.eptr (cS c3)],.func (.func 54) [] [.eptr (cS c4),.eptr (cS c5)]]) by kernel_rfl)<|sv (xc a)<|sv (xg a)<|du (hR45 _ _ _ _ _ _ _ _ br8)<|sv (Bj a.Con o7.2 r8)<|sx (ji (⟨a.Con,o7.2,r8⟩:aF))<|en (aI (L7 (⟨a.Con,o7.2,r8⟩:aF))<|aI (UQ (n:=1) (bL (⟨a.Con,o7.2,r8⟩:aF)))<|aI (rL [.cells [.func (.func 55) [] [.eptr (cS c),.eptr (cS c2),.eptr (cS c3)],.func (.func 54) [] [.eptr (cS c4),.eptr (cS c5)]] []])<|(aI (aI (aI trivial (aI (bk (n:=1) (bO c)) (aI (bk (n:=1) (bO c2)) (aI (bk (n:=1) (bO c3)) trivial)))) (aI (aI trivial (aI (bk (n:=1) (bO c4)) (aI (bk (n:=1) (bO c5)) trivial))) trivial)) trivial))
 exact C.evGp (A:=N2) mixed (m:=1) (c:=Oc) rfl call110 func110 rfl z<|by kernel_rfl
section
variable(R45:aU)(v:(List ac))(t8:waD)(t9:Int)(v2:ae)(v3:ae)(v4:ae)(v5:ae)(v6:ae)(out:waD)(t10:Int)
def bB:aA:=bg 22 [(1,.func (.func 110) [] [.eptr ((cL aa) v),.bptr 0 0]),(5,sl ay out),(8,sl ay t8),(9,.int .i64 t9),(10,.int .i64 t10)] [.cells [.func (.func 55) [] [.eptr (cS v2),.eptr (cS v3),.eptr (cS v4)],.func (.func 54) [] [.eptr (cS v5),.eptr (cS v6)]] []] [((5,0),89)]
def cR(o:waD):aA:=bg 22 [(5,sl ay o)] [.cells [.func (.func 55) [] [.eptr (cS v2),.eptr (cS v3),.eptr (cS v4)],.func (.func 54) [] [.eptr (cS v5),.eptr (cS v6)]] []] [((5,0),89)]
def ew:Option ((waD×Int)⊕(waD)):=
 if(decide (t10<t9))=true then
  (fJ t8 t10).bind fun x2=>
  (gP R45 x2 v v2 v3 v4 v5 v6).bind fun r3=>
  (app out ([r3]:List aF)).bind fun l4=>
  some (.inl (l4,ca (t10+1)))
 else
  some (.inr out)
def eW:Option waD:=loop (fun(zz:waD×Int)=>ew R45 v t8 t9 v2 v3 v4 v5 v6 zz.1 zz.2) (out,t10)
theorem iK(hR45:bp R45){y:(waD×Int)⊕(waD)}(h:ew R45 v t8 t9 v2 v3 v4 v5 v6 out t10=some y):aQ Pg GE 1 (cA Ob 119) (LQ (fun(zz:waD×Int)=>bB v t8 t9 v2 v3 v4 v5 v6 zz.1 zz.2) (fun _=>.exit 0) (cR v2 v3 v4 v5 v6) y) (bB v t8 t9 v2 v3 v4 v5 v6 out t10):=by
 rcases aN h with⟨c1,h⟩|⟨c1,h⟩
 ·obtain⟨x2,bx2,h⟩:=aG h
  obtain⟨r3,br3,h⟩:=aG h
  obtain⟨l4,bl4,h⟩:=aG h
  obtain rfl:=lf h
  have z:=sg 0 c1<|sv (fo.ia (k:=.i64) bx2)<|sv (mF x2)<|sx Gd<|sx (ji x2)<|sv (LG x2 [])<|si (.cg ⟨[0],[.agg (ay x2),.eptr ((cL aa) v),.bptr 0 0],[],[.cells [.func (.func 55) [] [.eptr (cS v2),.eptr (cS v3),.eptr (cS v4)],.func (.func 54) [] [.eptr (cS v5),.eptr (cS v6)]] []],[.cells [.func (.func 55) [] [.eptr (cS v2),.eptr (cS v3),.eptr (cS v4)],.func (.func 54) [] [.eptr (cS v5),.eptr (cS v6)]] []],[.cells [.func (.func 55) [] [.eptr (cS v2),.eptr (cS v3),.eptr (cS v4)],.func (.func 54) [] [.eptr (cS v5),.eptr (cS v6)]] []],[.cells [.func (.func 55) [] [.eptr (cS v2),.eptr (cS v3),.eptr (cS v4)],.func (.func 54) [] [.eptr (cS v5),.eptr (cS v6)]] []],.agg (ay r3),.agg (ay r3),[]⟩) (lD R45 hR45 br3)<|sf (aI (xR [0] (.agg (ay x2)) (bL x2)) (aI (xR [0] (.eptr ((cL aa) v)) (lS au v)) (aI (xB [0] 0 0 0 rfl) trivial)))<|sf (aI (aI (rB (.cells [.func (.func 55) [] [.eptr (cS v2),.eptr (cS v3),.eptr (cS v4)],.func (.func 54) [] [.eptr (cS v5),.eptr (cS v6)]] [])) (aI (rW []) (aI (xR [0] (.func (.func 55) [] [.eptr (cS v2),.eptr (cS v3),.eptr (cS v4)]) (aI trivial (aI (bO v2) (aI (bO v3) (aI (bO v4) trivial))))) (aI (xR [0] (.func (.func 54) [] [.eptr (cS v5),.eptr (cS v6)]) (aI trivial (aI (bO v5) (aI (bO v6) trivial)))) trivial)))) trivial)<|sf (aI (aI (rW []) (aI (xR [0] (.func (.func 55) [] [.eptr (cS v2),.eptr (cS v3),.eptr (cS v4)]) (aI trivial (aI (bO v2) (aI (bO v3) (aI (bO v4) trivial))))) (aI (xR [0] (.func (.func 54) [] [.eptr (cS v5),.eptr (cS v6)]) (aI trivial (aI (bO v5) (aI (bO v6) trivial)))) trivial))) trivial)<|sf (xR [0] (.agg (ay r3)) (bL r3))<|sv (fo.mk' (v:=Ni) LR ([r3]:List aF) 1 (by kernel_rfl))<|sv (fo.ap bl4)<|rx 1 .normal (bB v t8 t9 v2 v3 v4 v5 v6 l4 (ca (t10+1))) rfl (dv (aI (aI trivial (aI (bk (lS au v)) (aI (bh rfl) trivial))) (aI (up (am bL l4)) (aI (up (am bL t8)) (aI trivial (aI trivial trivial)))))) (aI (aI (aI trivial (aI (bk (bO v2)) (aI (bk (bO v3)) (aI (bk (bO v4)) trivial)))) (aI (aI trivial (aI (bk (bO v5)) (aI (bk (bO v6)) trivial))) trivial)) trivial)
  exact d4 (A:=N1) mixed z<|by kernel_rfl
 ·obtain rfl:=lf h
  have z:=sg 0 c1<|eF (.exit 0) (cR v2 v3 v4 v5 v6 out)
  exact iI N1 (by intro hx;cases hx) z<|by kernel_rfl
theorem iS(hR45:bp R45){x:waD}(h:eW R45 v t8 t9 v2 v3 v4 v5 v6 out t10=some x):aQ Pg GE 1 (.loop (cA Ob 119)) (EX (.exit 0) (cR v2 v3 v4 v5 v6 x)) (bB v t8 t9 v2 v3 v4 v5 v6 out t10):=
 aQ.loop (S:=fun(zz:waD×Int)=>bB v t8 t9 v2 v3 v4 v5 v6 zz.1 zz.2) (ex:=(fun _=>.exit 0)) (s:=(out,t10)) h fun zz y hy=>iK R45 v t8 t9 v2 v3 v4 v5 v6 zz.1 zz.2 hR45 hy
end
def fq(R45:aU)(a:waD)(c:(List ac))(c2:ae)(c3:ae)(c4:ae)(c5:ae)(c6:ae):Option waD:=
 (eW R45 c a (a.length:Int) c2 c3 c4 c5 c6 ([]:List aF) 0).bind fun o5=>
 some o5
theorem jF(R45:aU)(hR45:bp R45){a:waD}{c:(List ac)}{c2:ae}{c3:ae}{c4:ae}{c5:ae}{c6:ae}{r:waD}(h:fq R45 a c c2 c3 c4 c5 c6=some r):C Pg GE 109 [sl ay a,.func (.func 110) [] [.eptr ((cL aa) c),.bptr 0 0]] [] [.cells [.func (.func 55) [] [.eptr (cS c2),.eptr (cS c3),.eptr (cS c4)],.func (.func 54) [] [.eptr (cS c5),.eptr (cS c6)]] []] (sl ay r) [(0,89)] [.cells [.func (.func 55) [] [.eptr (cS c2),.eptr (cS c3),.eptr (cS c4)],.func (.func 54) [] [.eptr (cS c5),.eptr (cS c6)]] []]:=by
 obtain⟨o5,bo5,h⟩:=aG h
 obtain rfl:=lf h
 have z:=bU (fo.ln a)<|cY (iS R45 c a (a.length:Int) c2 c3 c4 c5 c6 ([]:List aF) 0 hR45 bo5)<|en (aI (rP (sl ay o5))<|aI (up (n:=1) (am bL o5))<|aI (rL [.cells [.func (.func 55) [] [.eptr (cS c2),.eptr (cS c3),.eptr (cS c4)],.func (.func 54) [] [.eptr (cS c5),.eptr (cS c6)]] []])<|(aI (aI (aI trivial (aI (bk (n:=1) (bO c2)) (aI (bk (n:=1) (bO c3)) (aI (bk (n:=1) (bO c4)) trivial)))) (aI (aI trivial (aI (bk (n:=1) (bO c5)) (aI (bk (n:=1) (bO c6)) trivial))) trivial)) trivial))
 exact C.evGp (A:=N1) mixed (m:=1) (c:=Ob) rfl call109 func109 rfl z<|by kernel_rfl
section
variable(scope:(List ac))(v:ae)(v2:ae)(v3:ae)(v4:ae)(v5:ae)(m:Int)(m2:ae)(m3:Int)(m4:waH)(m5:waG)(m6:waD)(m7:waC)(m8:waH)(m9:waG)(m10:waD)(m11:waC)(m12:(List ac))
def lF:aA:=bg 96 [(3,.bptr 0 0),(4,.bptr 1 0),(5,.eptr ((cL aa) scope)),(6,.bptr 3 0),(7,.bptr 4 0),(8,.bptr 5 0)] [.cells [.func (.func 55) [] [.eptr (cS v),.eptr (cS v2),.eptr (cS v3)],.func (.func 54) [] [.eptr (cS v4),.eptr (cS v5)]] [],.cells [.int .i64 m,.str m2,.int .i64 m3,sl af m4,sl av m5,sl ay m6,sl ai m7] [(6,60)],.dead,.cells [.int .i64 0,.str ([]:ae),.int .i64 0,sl af m8,sl av m9,sl ay m10,sl ai m11] [(3,28),(4,85),(5,89),(6,60)],.cells [sl aa m12] [(0,137)],.cells [.func (.func 105) [] [.bptr 0 0,.eptr ((cL aa) scope),.bptr 4 0]] []] []
def bY(o:ae×(List ac)):aA:=bg 96 [(3,.bptr 0 0),(4,.bptr 1 0),(5,.eptr ((cL aa) scope)),(6,.bptr 3 0),(7,.bptr 4 0),(8,.bptr 5 0)] [.cells [.func (.func 55) [] [.eptr (cS v),.eptr (cS v2),.eptr (cS v3)],.func (.func 54) [] [.eptr (cS v4),.eptr (cS v5)]] [],.cells [.int .i64 m,.str o.1,.int .i64 m3,sl af m4,sl av m5,sl ay m6,sl ai m7] [(6,60)],.dead,.cells [.int .i64 0,.str ([]:ae),.int .i64 0,sl af m8,sl av m9,sl ay m10,sl ai m11] [(3,28),(4,85),(5,89),(6,60)],.cells [sl aa o.2] [(0,137)],.cells [.func (.func 105) [] [.bptr 0 0,.eptr ((cL aa) scope),.bptr 4 0]] []] []
def gA:Option ((ae×(List ac))):=
 (lc (⟨m,m2,m3,m4,m5,m6,m7⟩:ag)).bind fun r3=>
 if r3=true then
  (uX scope m2).bind fun r6=>
  if r6.2=true then
   some (r6.1,m12)
  else
   (zT m2 v4 v5).bind fun r9=>
   some (r9,m12)
 else
  if(m==7)=true then
   (ek m2 scope v v2 v3 v4 v5 m12).bind fun r12=>
   some (r12.1,r12.2)
  else
   some (m2,m12)
theorem kV{x:(ae×(List ac))}(h:gA scope v v2 v3 v4 v5 m m2 m3 m4 m5 m6 m7 m12=some x):aQ Pg GE 0 (cA Q0 62) (EX .normal (bY scope v v2 v3 v4 v5 m m3 m4 m5 m6 m7 m8 m9 m10 m11 x)) (lF scope v v2 v3 v4 v5 m m2 m3 m4 m5 m6 m7 m8 m9 m10 m11 m12):=by
 obtain⟨r3,br3,h⟩:=aG h
 have p5:=fun{sc F} (r:PS sc F)=>sv (b8 (⟨m,m2,m3,m4,m5,m6,m7⟩:ag) [])<|du (kp br3)<|r
 rcases aN h with⟨c4,h⟩|⟨c4,h⟩
 ·obtain⟨r6,br6,h⟩:=aG h
  have p8:=fun{sc F} (r:PS sc F)=>p5<|sg 0 c4<|sv (de Ge (sl aa scope) [])<|ss<|du (zW br6)<|r
  rcases aN h with⟨c7,h⟩|⟨c7,h⟩
  ·obtain rfl:=lf h
   exact bA I3 (p8<|sg 0 c7<|ss<|eF .normal (bY scope v v2 v3 v4 v5 m m3 m4 m5 m6 m7 m8 m9 m10 m11 (r6.1,m12)))<|by kernel_rfl
  ·obtain⟨r9,br9,h⟩:=aG h
   obtain rfl:=lf h
   exact bA I3 (p8<|sg 0 c7<|ss<|ss<|du (DY br9)<|ss<|eF .normal (bY scope v v2 v3 v4 v5 m m3 m4 m5 m6 m7 m8 m9 m10 m11 (r9,m12)))<|by kernel_rfl
 ·have p11:=fun{sc F} (r:PS sc F)=>p5<|sg 0 c4<|ss<|r
  rcases aN h with⟨c10,h⟩|⟨c10,h⟩
  ·obtain⟨r12,br12,h⟩:=aG h
   obtain rfl:=lf h
   exact bA I3 (p11<|sg 0 c10<|ss<|ss<|si (.cg ⟨[0,4],[.str m2,.bptr 0 0,.eptr ((cL aa) scope),.bptr 1 0],[],[.cells [.func (.func 55) [] [.eptr (cS v),.eptr (cS v2),.eptr (cS v3)],.func (.func 54) [] [.eptr (cS v4),.eptr (cS v5)]] [],.cells [sl aa m12] [(0,137)]],[.cells [.func (.func 55) [] [.eptr (cS v),.eptr (cS v2),.eptr (cS v3)],.func (.func 54) [] [.eptr (cS v4),.eptr (cS v5)]] [],.cells [sl aa m12] [(0,137)]],[.cells [.func (.func 55) [] [.eptr (cS v),.eptr (cS v2),.eptr (cS v3)],.func (.func 54) [] [.eptr (cS v4),.eptr (cS v5)]] [],.cells [sl aa r12.2] [(0,137)]],[.cells [.func (.func 55) [] [.eptr (cS v),.eptr (cS v2),.eptr (cS v3)],.func (.func 54) [] [.eptr (cS v4),.eptr (cS v5)]] [],.cells [sl aa r12.2] [(0,137)]],.str r12.1,.str r12.1,[]⟩) (fO br12)<|sf (aI (xR [0,4] (.str m2) trivial) (aI (xB [0,4] 0 0 0 rfl) (aI (xR [0,4] (.eptr ((cL aa) scope)) (lS au scope)) (aI (xB [0,4] 1 4 0 rfl) trivial))))<|sf (aI (aI (rB (.cells [.func (.func 55) [] [.eptr (cS v),.eptr (cS v2),.eptr (cS v3)],.func (.func 54) [] [.eptr (cS v4),.eptr (cS v5)]] [])) (aI (rW []) (aI (xR [0,4] (.func (.func 55) [] [.eptr (cS v),.eptr (cS v2),.eptr (cS v3)]) (aI trivial (aI (bO v) (aI (bO v2) (aI (bO v3) trivial))))) (aI (xR [0,4] (.func (.func 54) [] [.eptr (cS v4),.eptr (cS v5)]) (aI trivial (aI (bO v4) (aI (bO v5) trivial)))) trivial)))) (aI (aI (rB (.cells [sl aa m12] [(0,137)])) (aI (rW [(0,137)]) (aI (xR [0,4] (sl aa m12) (am au m12)) trivial))) trivial))<|sf (aI (aI (rW []) (aI (xR [0,4] (.func (.func 55) [] [.eptr (cS v),.eptr (cS v2),.eptr (cS v3)]) (aI trivial (aI (bO v) (aI (bO v2) (aI (bO v3) trivial))))) (aI (xR [0,4] (.func (.func 54) [] [.eptr (cS v4),.eptr (cS v5)]) (aI trivial (aI (bO v4) (aI (bO v5) trivial)))) trivial))) (aI (aI (rW [(0,137)]) (aI (xR [0,4] (sl aa r12.2) (am au r12.2)) trivial)) trivial))<|sf (xR [0,4] (.str r12.1) trivial)<|ss<|eF .normal (bY scope v v2 v3 v4 v5 m m3 m4 m5 m6 m7 m8 m9 m10 m11 (r12.1,r12.2)))<|by kernel_rfl
  ·obtain rfl:=lf h
   exact bA I3 (p11<|sg 0 c10<|eF .normal (bY scope v v2 v3 v4 v5 m m3 m4 m5 m6 m7 m8 m9 m10 m11 (m2,m12)))<|by kernel_rfl
end
section
variable(scope:(List ac))(kids:waH)(i:Int)(t59:waH)(t60:Int)(v:ae)(v2:ae)(v3:ae)(v4:ae)(v5:ae)(m:Int)(m2:ae)(m3:Int)(m4:waG)(m5:waD)(m6:waC)(m7:waH)(m8:waG)(m9:waD)(m10:waC)(m11:(List ac))(m12:Int)(m13:ae)(m14:Int)(m15:waH)(m16:waG)(m17:waD)(m18:waC)
def lG:aA:=bg 96 [(3,.bptr 0 0),(4,.bptr 1 0),(5,.eptr ((cL aa) scope)),(6,.bptr 3 0),(7,.bptr 4 0),(12,sl af kids),(13,.int .i64 i),(14,.bptr 7 0),(59,sl af t59),(60,.int .i64 t60),(61,.int .i64 i)] [.cells [.func (.func 55) [] [.eptr (cS v),.eptr (cS v2),.eptr (cS v3)],.func (.func 54) [] [.eptr (cS v4),.eptr (cS v5)]] [],.cells [.int .i64 m,.str m2,.int .i64 m3,sl af t59,sl av m4,sl ay m5,sl ai m6] [(4,85),(6,60)],.dead,.cells [.int .i64 0,.str ([]:ae),.int .i64 0,sl af m7,sl av m8,sl ay m9,sl ai m10] [(3,28),(4,85),(5,89),(6,60)],.cells [sl aa m11] [(0,137)],.cells [.func (.func 105) [] [.bptr 0 0,.eptr ((cL aa) scope),.bptr 4 0]] [],.dead,.cells [.int .i64 m12,.str m13,.int .i64 m14,sl af m15,sl av m16,sl ay m17,sl ai m18] []] [((12,0),28)]
def dT(o:Bool):aA:=bg 96 [(3,.bptr 0 0),(4,.bptr 1 0),(5,.eptr ((cL aa) scope)),(6,.bptr 3 0),(7,.bptr 4 0),(12,sl af kids),(14,.bptr 7 0),(59,sl af t59),(60,.int .i64 t60),(61,.int .i64 i),(72,.bool o)] [.cells [.func (.func 55) [] [.eptr (cS v),.eptr (cS v2),.eptr (cS v3)],.func (.func 54) [] [.eptr (cS v4),.eptr (cS v5)]] [],.cells [.int .i64 m,.str m2,.int .i64 m3,sl af t59,sl av m4,sl ay m5,sl ai m6] [(4,85),(6,60)],.dead,.cells [.int .i64 0,.str ([]:ae),.int .i64 0,sl af m7,sl av m8,sl ay m9,sl ai m10] [(3,28),(4,85),(5,89),(6,60)],.cells [sl aa m11] [(0,137)],.cells [.func (.func 105) [] [.bptr 0 0,.eptr ((cL aa) scope),.bptr 4 0]] [],.dead,.cells [.int .i64 m12,.str m13,.int .i64 m14,sl af m15,sl av m16,sl ay m17,sl ai m18] []] [((12,0),28)]
def gB:Option Bool:=
 if(m==7)=true then
  some (i==0)
 else
  some false
theorem kW{x:Bool}(h:gB i m=some x):aQ Pg GE 0 (cA Q0 523766) (EX .normal (dT scope kids i t59 t60 v v2 v3 v4 v5 m m2 m3 m4 m5 m6 m7 m8 m9 m10 m11 m12 m13 m14 m15 m16 m17 m18 x)) (lG scope kids i t59 t60 v v2 v3 v4 v5 m m2 m3 m4 m5 m6 m7 m8 m9 m10 m11 m12 m13 m14 m15 m16 m17 m18):=by
 rcases aN h with⟨c17,h⟩|⟨c17,h⟩
 ·obtain rfl:=lf h
  exact bA I3 (ss<|sg 4 c17<|eF .normal (dT scope kids i t59 t60 v v2 v3 v4 v5 m m2 m3 m4 m5 m6 m7 m8 m9 m10 m11 m12 m13 m14 m15 m16 m17 m18 (i==0)))<|by kernel_rfl
 ·obtain rfl:=lf h
  exact bA I3 (ss<|sg 4 c17<|eF .normal (dT scope kids i t59 t60 v v2 v3 v4 v5 m m2 m3 m4 m5 m6 m7 m8 m9 m10 m11 m12 m13 m14 m15 m16 m17 m18 false))<|by kernel_rfl
end
section
variable(R45:aU)(scope:(List ac))(t59:waH)(t60:Int)(v:ae)(v2:ae)(v3:ae)(v4:ae)(v5:ae)(m:Int)(m2:ae)(m3:Int)(m4:waG)(m5:waD)(m6:waC)(m7:waH)(m8:waG)(m9:waD)(m10:waC)(m11:(List ac))(kids:waH)(t61:Int)
def bC:aA:=bg 96 [(3,.bptr 0 0),(4,.bptr 1 0),(5,.eptr ((cL aa) scope)),(6,.bptr 3 0),(7,.bptr 4 0),(12,sl af kids),(59,sl af t59),(60,.int .i64 t60),(61,.int .i64 t61)] [.cells [.func (.func 55) [] [.eptr (cS v),.eptr (cS v2),.eptr (cS v3)],.func (.func 54) [] [.eptr (cS v4),.eptr (cS v5)]] [],.cells [.int .i64 m,.str m2,.int .i64 m3,sl af t59,sl av m4,sl ay m5,sl ai m6] [(4,85),(6,60)],.dead,.cells [.int .i64 0,.str ([]:ae),.int .i64 0,sl af m7,sl av m8,sl ay m9,sl ai m10] [(3,28),(4,85),(5,89),(6,60)],.cells [sl aa m11] [(0,137)],.cells [.func (.func 105) [] [.bptr 0 0,.eptr ((cL aa) scope),.bptr 4 0]] [],.dead] [((12,0),28)]
def dU(o:waH):aA:=bg 96 [(3,.bptr 0 0),(4,.bptr 1 0),(5,.eptr ((cL aa) scope)),(6,.bptr 3 0),(12,sl af o)] [.cells [.func (.func 55) [] [.eptr (cS v),.eptr (cS v2),.eptr (cS v3)],.func (.func 54) [] [.eptr (cS v4),.eptr (cS v5)]] [],.cells [.int .i64 m,.str m2,.int .i64 m3,sl af t59,sl av m4,sl ay m5,sl ai m6] [(4,85),(6,60)],.dead,.cells [.int .i64 0,.str ([]:ae),.int .i64 0,sl af m7,sl av m8,sl ay m9,sl ai m10] [(3,28),(4,85),(5,89),(6,60)],.cells [sl aa m11] [(0,137)],.cells [.func (.func 105) [] [.bptr 0 0,.eptr ((cL aa) scope),.bptr 4 0]] [],.dead] [((12,0),28)]
def fR:Option ((waH×Int)⊕(waH)):=
 if(decide (t61<t60))=true then
  (fJ t59 t61).bind fun x16=>
  (gB t61 m).bind fun o18=>
  if o18=true then
   (R45 v v2 v3 v4 v5 x16 scope).bind fun r21=>
   (app kids ([r21]:List ag)).bind fun l22=>
   some (.inl (l22,ca (t61+1)))
  else
   (R45 v v2 v3 v4 v5 x16 m11).bind fun r23=>
   (app kids ([r23]:List ag)).bind fun l24=>
   some (.inl (l24,ca (t61+1)))
 else
  some (.inr kids)
def gC:Option waH:=loop (fun(zz:waH×Int)=>fR R45 scope t59 t60 v v2 v3 v4 v5 m m11 zz.1 zz.2) (kids,t61)
theorem ko(hR45:bp R45){y:(waH×Int)⊕(waH)}(h:fR R45 scope t59 t60 v v2 v3 v4 v5 m m11 kids t61=some y):aQ Pg GE 0 (cA Q0 8183) (LQ (fun(zz:waH×Int)=>bC scope t59 t60 v v2 v3 v4 v5 m m2 m3 m4 m5 m6 m7 m8 m9 m10 m11 zz.1 zz.2) (fun _=>.exit 1) (dU scope t59 v v2 v3 v4 v5 m m2 m3 m4 m5 m6 m7 m8 m9 m10 m11) y) (bC scope t59 t60 v v2 v3 v4 v5 m m2 m3 m4 m5 m6 m7 m8 m9 m10 m11 kids t61):=by
 rcases aN h with⟨c15,h⟩|⟨c15,h⟩
 ·obtain⟨x16,bx16,h⟩:=aG h
  obtain⟨o18,bo18,h⟩:=aG h
  have p20:=fun{sc F} (r:PS sc F)=>sg 0 c15<|sv (iJ.ia (k:=.i64) bx16)<|sv (cu x16)<|sx yx<|sx (ly x16)<|qk 0<|cY (kW scope kids t61 t59 t60 v v2 v3 v4 v5 m m2 m3 m4 m5 m6 m7 m8 m9 m10 m11 x16.Op x16.Name x16.N x16.Kids x16.Params x16.Alts x16.Types bo18)<|r
  rcases aN h with⟨c19,h⟩|⟨c19,h⟩
  ·obtain⟨r21,br21,h⟩:=aG h
   obtain⟨l22,bl22,h⟩:=aG h
   obtain rfl:=lf h
   have z:=p20<|sg 0 c19<|sv (show be Pg 95 [.func (.func 55) [] [.eptr (cS v),.eptr (cS v2),.eptr (cS v3)],.func (.func 54) [] [.eptr (cS v4),.eptr (cS v5)]]=some (.agg [.func (.func 55) [] [.eptr (cS v),.eptr (cS v2),.eptr (cS v3)],.func (.func 54) [] [.eptr (cS v4),.eptr (cS v5)]]) by kernel_rfl)<|sv (b8 x16 [])<|sv (de Ge (sl aa scope) [])<|du (hR45 _ _ _ _ _ _ _ _ br21)<|sv (iJ.mk' (v:=qX) mJ ([r21]:List ag) 1 (by kernel_rfl))<|sv (iJ.ap bl22)<|rx 0 .normal (bC scope t59 t60 v v2 v3 v4 v5 m m2 m3 m4 m5 m6 m7 m8 m9 m10 m11 l22 (ca (t61+1))) rfl (dv (aI (bh rfl) (aI (bh rfl) (aI (bk (lS au scope)) (aI (bh rfl) (aI (bh rfl) (aI (up (am az l22)) (aI (up (am az t59)) (aI trivial (aI trivial trivial)))))))))) (aI (aI (aI trivial (aI (bk (bO v)) (aI (bk (bO v2)) (aI (bk (bO v3)) trivial)))) (aI (aI trivial (aI (bk (bO v4)) (aI (bk (bO v5)) trivial))) trivial)) (aI (aI trivial (aI trivial (aI trivial (aI (up (am az t59)) (aI (up (am ba m4)) (aI (up (am bL m5)) (aI (up (am aE m6)) trivial))))))) (aI trivial (aI (aI trivial (aI trivial (aI trivial (aI (up (am az m7)) (aI (up (am ba m8)) (aI (up (am bL m9)) (aI (up (am aE m10)) trivial))))))) (aI (aI (up (am au m11)) trivial) (aI (aI (aI trivial (aI (bh rfl) (aI (bk (lS au scope)) (aI (bh rfl) trivial)))) trivial) (aI trivial trivial)))))))
   exact d4 (A:=I3) mixed z<|by kernel_rfl
  ·obtain⟨r23,br23,h⟩:=aG h
   obtain⟨l24,bl24,h⟩:=aG h
   obtain rfl:=lf h
   have z:=p20<|sg 0 c19<|sv (show be Pg 95 [.func (.func 55) [] [.eptr (cS v),.eptr (cS v2),.eptr (cS v3)],.func (.func 54) [] [.eptr (cS v4),.eptr (cS v5)]]=some (.agg [.func (.func 55) [] [.eptr (cS v),.eptr (cS v2),.eptr (cS v3)],.func (.func 54) [] [.eptr (cS v4),.eptr (cS v5)]]) by kernel_rfl)<|sv (b8 x16 [])<|ss<|du (hR45 _ _ _ _ _ _ _ _ br23)<|sv (iJ.mk' (v:=qX) mJ ([r23]:List ag) 1 (by kernel_rfl))<|sv (iJ.ap bl24)<|rx 0 .normal (bC scope t59 t60 v v2 v3 v4 v5 m m2 m3 m4 m5 m6 m7 m8 m9 m10 m11 l24 (ca (t61+1))) rfl (dv (aI (bh rfl) (aI (bh rfl) (aI (bk (lS au scope)) (aI (bh rfl) (aI (bh rfl) (aI (up (am az l24)) (aI (up (am az t59)) (aI trivial (aI trivial trivial)))))))))) (aI (aI (aI trivial (aI (bk (bO v)) (aI (bk (bO v2)) (aI (bk (bO v3)) trivial)))) (aI (aI trivial (aI (bk (bO v4)) (aI (bk (bO v5)) trivial))) trivial)) (aI (aI trivial (aI trivial (aI trivial (aI (up (am az t59)) (aI (up (am ba m4)) (aI (up (am bL m5)) (aI (up (am aE m6)) trivial))))))) (aI trivial (aI (aI trivial (aI trivial (aI trivial (aI (up (am az m7)) (aI (up (am ba m8)) (aI (up (am bL m9)) (aI (up (am aE m10)) trivial))))))) (aI (aI (up (am au m11)) trivial) (aI (aI (aI trivial (aI (bh rfl) (aI (bk (lS au scope)) (aI (bh rfl) trivial)))) trivial) (aI trivial trivial)))))))
   exact d4 (A:=I3) mixed z<|by kernel_rfl
 ·obtain rfl:=lf h
  have z:=sg 0 c15<|eF (.exit 1) (dU scope t59 v v2 v3 v4 v5 m m2 m3 m4 m5 m6 m7 m8 m9 m10 m11 kids)
  exact iI I3 (by intro hx;cases hx) z<|by kernel_rfl
theorem kX(hR45:bp R45){x:waH}(h:gC R45 scope t59 t60 v v2 v3 v4 v5 m m11 kids t61=some x):aQ Pg GE 0 (.loop (cA Q0 8183)) (EX (.exit 1) (dU scope t59 v v2 v3 v4 v5 m m2 m3 m4 m5 m6 m7 m8 m9 m10 m11 x)) (bC scope t59 t60 v v2 v3 v4 v5 m m2 m3 m4 m5 m6 m7 m8 m9 m10 m11 kids t61):=
 aQ.loop (S:=fun(zz:waH×Int)=>bC scope t59 t60 v v2 v3 v4 v5 m m2 m3 m4 m5 m6 m7 m8 m9 m10 m11 zz.1 zz.2) (ex:=(fun _=>.exit 1)) (s:=(kids,t61)) h fun zz y hy=>ko R45 scope t59 t60 v v2 v3 v4 v5 m m2 m3 m4 m5 m6 m7 m8 m9 m10 m11 zz.1 zz.2 hR45 hy
end
def gQ(R45:aU)(c:ae)(c2:ae)(c3:ae)(c4:ae)(c5:ae)(e:ag)(scope:(List ac)):Option ag:=
 (dR e.Types).bind fun r1=>
 (rE scope).bind fun r2=>
 (gA scope c c2 c3 c4 c5 e.Op e.Name e.N e.Kids e.Params e.Alts r1 r2).bind fun o13=>
 (dA e.Params (e.Op==6) scope c c2 c3 c4 c5 o13.2).bind fun r14=>
 (gC R45 scope e.Kids (e.Kids.length:Int) c c2 c3 c4 c5 e.Op r14.2 ([]:List ag) 0).bind fun o25=>
 (fq R45 e.Alts scope c c2 c3 c4 c5).bind fun r26=>
 some (⟨e.Op,o13.1,e.N,o25,r14.1,r26,r1⟩:ag)
theorem lX(R45:aU)(hR45:bp R45){c:ae}{c2:ae}{c3:ae}{c4:ae}{c5:ae}{e:ag}{scope:(List ac)}{r:ag}(h:gQ R45 c c2 c3 c4 c5 e scope=some r):CC Pg GE 56 [.agg [.func (.func 55) [] [.eptr (cS c),.eptr (cS c2),.eptr (cS c3)],.func (.func 54) [] [.eptr (cS c4),.eptr (cS c5)]],.agg (af e),sl aa scope] (.agg (af r)) [(3,28),(4,85),(5,89),(6,60)]:=by
 obtain⟨r1,br1,h⟩:=aG h
 obtain⟨r2,br2,h⟩:=aG h
 obtain⟨o13,bo13,h⟩:=aG h
 obtain⟨r14,br14,h⟩:=aG h
 obtain⟨o25,bo25,h⟩:=aG h
 obtain⟨r26,br26,h⟩:=aG h
 obtain rfl:=lf h
 have z:=sx (UF [.func (.func 55) [] [.eptr (cS c),.eptr (cS c2),.eptr (cS c3)],.func (.func 54) [] [.eptr (cS c4),.eptr (cS c5)]])<|sx (ly e)<|se (Wl aa scope)<|sx yx<|ss<|du (gm br1)<|sv (de Ge (sl aa scope) [])<|du (uy br2)<|sx UK<|sx UJ<|ss<|qk 0<|cY (kV scope c c2 c3 c4 c5 e.Op e.Name e.N e.Kids e.Params e.Alts r1 ([]:List ag) ([]:List aw) ([]:List aF) ([]:List ah) r2 bo13)<|ss<|sx Wm<|ss<|V6 6 [[.bool (e.Op==6)]] [3,4,5,6,7,8,11] [] (VL (m:=0) (b:=6) rfl [.bool (e.Op==6)] rfl) (VM 6 (l:=[.bool (e.Op==6)]) (aI trivial trivial)) (VN (V1 [.bool (e.Op==6)]))<|sf (F9 6 (lS au scope))<|sf (F9 6 (bO c))<|sf (F9 6 (bO c2))<|sf (F9 6 (bO c3))<|sf (F9 6 (bO c4))<|sf (F9 6 (bO c5))<|sf (HB 6 (p:=sl af e.Kids) (am az e.Kids))<|sf (HB 6 (p:=sl av e.Params) (am ba e.Params))<|sf (HB 6 (p:=sl ay e.Alts) (am bL e.Alts))<|sf (HB 6 (p:=sl ai r1) (am aE r1))<|sf (HB 6 (p:=sl af ([]:List ag)) (am az ([]:List ag)))<|sf (HB 6 (p:=sl av ([]:List aw)) (am ba ([]:List aw)))<|sf (HB 6 (p:=sl ay ([]:List aF)) (am bL ([]:List aF)))<|sf (HB 6 (p:=sl ai ([]:List ah)) (am aE ([]:List ah)))<|sf (HB 6 (p:=sl aa o13.2) (am au o13.2))<|sf (F9 6 (lS au scope))<|ss<|si (.cg ⟨[5,0,4],[sl av e.Params,.func (.func 108) [] [.eptr (cB (e.Op==6)),.bptr 0 0]],[],[.cells [.func (.func 105) [] [.bptr 0 0,.eptr ((cL aa) scope),.bptr 4 0]] [],.cells [.func (.func 55) [] [.eptr (cS c),.eptr (cS c2),.eptr (cS c3)],.func (.func 54) [] [.eptr (cS c4),.eptr (cS c5)]] [],.cells [sl aa o13.2] [(0,137)]],[.cells [.func (.func 105) [] [.bptr 1 0,.eptr ((cL aa) scope),.bptr 2 0]] [],.cells [.func (.func 55) [] [.eptr (cS c),.eptr (cS c2),.eptr (cS c3)],.func (.func 54) [] [.eptr (cS c4),.eptr (cS c5)]] [],.cells [sl aa o13.2] [(0,137)]],[.cells [.func (.func 105) [] [.bptr 0 0,.eptr ((cL aa) scope),.bptr 4 0]] [],.cells [.func (.func 55) [] [.eptr (cS c),.eptr (cS c2),.eptr (cS c3)],.func (.func 54) [] [.eptr (cS c4),.eptr (cS c5)]] [],.cells [sl aa r14.2] [(0,137)]],[.cells [.func (.func 105) [] [.bptr 1 0,.eptr ((cL aa) scope),.bptr 2 0]] [],.cells [.func (.func 55) [] [.eptr (cS c),.eptr (cS c2),.eptr (cS c3)],.func (.func 54) [] [.eptr (cS c4),.eptr (cS c5)]] [],.cells [sl aa r14.2] [(0,137)]],sl av r14.1,sl av r14.1,[(0,85)]⟩) (fD br14)<|sf (aI (xR [5,0,4] (sl av e.Params) (am ba e.Params)) (aI (xF [5,0,4] (.func 108) [] [.eptr (cB (e.Op==6)),.bptr 5 0] [] [.eptr (cB (e.Op==6)),.bptr 0 0] trivial (aI (xR [5,0,4] (.eptr (cB (e.Op==6))) (Tu (e.Op==6))) (aI (xB [5,0,4] 0 5 0 rfl) trivial))) trivial))<|sf (aI (aI (rB (.cells [.func (.func 105) [] [.bptr 0 0,.eptr ((cL aa) scope),.bptr 4 0]] [])) (aI (rW []) (aI (xF [5,0,4] (.func 105) [] [.bptr 0 0,.eptr ((cL aa) scope),.bptr 4 0] [] [.bptr 1 0,.eptr ((cL aa) scope),.bptr 2 0] trivial (aI (xB [5,0,4] 1 0 0 rfl) (aI (xR [5,0,4] (.eptr ((cL aa) scope)) (lS au scope)) (aI (xB [5,0,4] 2 4 0 rfl) trivial)))) trivial))) (aI (aI (rB (.cells [.func (.func 55) [] [.eptr (cS c),.eptr (cS c2),.eptr (cS c3)],.func (.func 54) [] [.eptr (cS c4),.eptr (cS c5)]] [])) (aI (rW []) (aI (xR [5,0,4] (.func (.func 55) [] [.eptr (cS c),.eptr (cS c2),.eptr (cS c3)]) (aI trivial (aI (bO c) (aI (bO c2) (aI (bO c3) trivial))))) (aI (xR [5,0,4] (.func (.func 54) [] [.eptr (cS c4),.eptr (cS c5)]) (aI trivial (aI (bO c4) (aI (bO c5) trivial)))) trivial)))) (aI (aI (rB (.cells [sl aa o13.2] [(0,137)])) (aI (rW [(0,137)]) (aI (xR [5,0,4] (sl aa o13.2) (am au o13.2)) trivial))) trivial)))<|sf (aI (aI (rW []) (aI (xF [5,0,4] (.func 105) [] [.bptr 0 0,.eptr ((cL aa) scope),.bptr 4 0] [] [.bptr 1 0,.eptr ((cL aa) scope),.bptr 2 0] trivial (aI (xB [5,0,4] 1 0 0 rfl) (aI (xR [5,0,4] (.eptr ((cL aa) scope)) (lS au scope)) (aI (xB [5,0,4] 2 4 0 rfl) trivial)))) trivial)) (aI (aI (rW []) (aI (xR [5,0,4] (.func (.func 55) [] [.eptr (cS c),.eptr (cS c2),.eptr (cS c3)]) (aI trivial (aI (bO c) (aI (bO c2) (aI (bO c3) trivial))))) (aI (xR [5,0,4] (.func (.func 54) [] [.eptr (cS c4),.eptr (cS c5)]) (aI trivial (aI (bO c4) (aI (bO c5) trivial)))) trivial))) (aI (aI (rW [(0,137)]) (aI (xR [5,0,4] (sl aa r14.2) (am au r14.2)) trivial)) trivial)))<|sf (xR [5,0,4] (sl av r14.1) (am ba r14.1))<|ss<|bU (iJ.ln e.Kids)<|cY (kX R45 scope e.Kids (e.Kids.length:Int) c c2 c3 c4 c5 e.Op o13.1 e.N r14.1 e.Alts r1 ([]:List ag) ([]:List aw) ([]:List aF) ([]:List ah) r14.2 ([]:List ag) 0 hR45 bo25)<|ss<|si (.cg ⟨[0],[sl ay e.Alts,.func (.func 110) [] [.eptr ((cL aa) scope),.bptr 0 0]],[],[.cells [.func (.func 55) [] [.eptr (cS c),.eptr (cS c2),.eptr (cS c3)],.func (.func 54) [] [.eptr (cS c4),.eptr (cS c5)]] []],[.cells [.func (.func 55) [] [.eptr (cS c),.eptr (cS c2),.eptr (cS c3)],.func (.func 54) [] [.eptr (cS c4),.eptr (cS c5)]] []],[.cells [.func (.func 55) [] [.eptr (cS c),.eptr (cS c2),.eptr (cS c3)],.func (.func 54) [] [.eptr (cS c4),.eptr (cS c5)]] []],[.cells [.func (.func 55) [] [.eptr (cS c),.eptr (cS c2),.eptr (cS c3)],.func (.func 54) [] [.eptr (cS c4),.eptr (cS c5)]] []],sl ay r26,sl ay r26,[(0,89)]⟩) (jF R45 hR45 br26)<|sf (aI (xR [0] (sl ay e.Alts) (am bL e.Alts)) (aI (xF [0] (.func 110) [] [.eptr ((cL aa) scope),.bptr 0 0] [] [.eptr ((cL aa) scope),.bptr 0 0] trivial (aI (xR [0] (.eptr ((cL aa) scope)) (lS au scope)) (aI (xB [0] 0 0 0 rfl) trivial))) trivial))<|sf (aI (aI (rB (.cells [.func (.func 55) [] [.eptr (cS c),.eptr (cS c2),.eptr (cS c3)],.func (.func 54) [] [.eptr (cS c4),.eptr (cS c5)]] [])) (aI (rW []) (aI (xR [0] (.func (.func 55) [] [.eptr (cS c),.eptr (cS c2),.eptr (cS c3)]) (aI trivial (aI (bO c) (aI (bO c2) (aI (bO c3) trivial))))) (aI (xR [0] (.func (.func 54) [] [.eptr (cS c4),.eptr (cS c5)]) (aI trivial (aI (bO c4) (aI (bO c5) trivial)))) trivial)))) trivial)<|sf (aI (aI (rW []) (aI (xR [0] (.func (.func 55) [] [.eptr (cS c),.eptr (cS c2),.eptr (cS c3)]) (aI trivial (aI (bO c) (aI (bO c2) (aI (bO c3) trivial))))) (aI (xR [0] (.func (.func 54) [] [.eptr (cS c4),.eptr (cS c5)]) (aI trivial (aI (bO c4) (aI (bO c5) trivial)))) trivial))) trivial)<|sf (xR [0] (sl ay r26) (am bL r26))<|sz (b8 (⟨e.Op,o13.1,e.N,o25,r14.1,r26,r1⟩:ag) [])<|sy (bz (⟨e.Op,o13.1,e.N,o25,r14.1,r26,r1⟩:ag))<|en (aI (qF (⟨e.Op,o13.1,e.N,o25,r14.1,r26,r1⟩:ag))<|aI (az (⟨e.Op,o13.1,e.N,o25,r14.1,r26,r1⟩:ag))<|rT)
 exact cH I3 call56 func56 (c:=Q0) rfl (aI (aI (aI trivial (aI (bO c) (aI (bO c2) (aI (bO c3) trivial)))) (aI (aI trivial (aI (bO c4) (aI (bO c5) trivial))) trivial)) (aI (az e) (aI (am au scope) trivial))) z<|by kernel_rfl
def gR:((ae×ae×ae×ae×ae×ag×(List ac))->Option ag)->(ae×ae×ae×ae×ae×ag×(List ac))->Option ag:=fun(rec:(ae×ae×ae×ae×ae×ag×(List ac))->Option ag) (x:ae×ae×ae×ae×ae×ag×(List ac))=>gQ (fun c c2 c3 c4 c5 e scope=>rec (c,c2,c3,c4,c5,e,scope)) x.1 x.2.1 x.2.2.1 x.2.2.2.1 x.2.2.2.2.1 x.2.2.2.2.2.1 x.2.2.2.2.2.2
def ii(c:ae)(c2:ae)(c3:ae)(c4:ae)(c5:ae)(e:ag)(scope:(List ac)):Option ag:=uc gR (c,c2,c3,c4,c5,e,scope)
theorem mr{c:ae}{c2:ae}{c3:ae}{c4:ae}{c5:ae}{e:ag}{scope:(List ac)}{r:ag}(h:ii c c2 c3 c4 c5 e scope=some r):CC Pg GE 56 [.agg [.func (.func 55) [] [.eptr (cS c),.eptr (cS c2),.eptr (cS c3)],.func (.func 54) [] [.eptr (cS c4),.eptr (cS c5)]],.agg (af e),sl aa scope] (.agg (af r)) [(3,28),(4,85),(5,89),(6,60)]:=
 fk (F:=gR) (M:=fun(x:ae×ae×ae×ae×ae×ag×(List ac)) (r:ag)=>CC Pg GE 56 [.agg [.func (.func 55) [] [.eptr (cS x.1),.eptr (cS x.2.1),.eptr (cS x.2.2.1)],.func (.func 54) [] [.eptr (cS x.2.2.2.1),.eptr (cS x.2.2.2.2.1)]],.agg (af x.2.2.2.2.2.1),sl aa x.2.2.2.2.2.2] (.agg (af r)) [(3,28),(4,85),(5,89),(6,60)]) (fun rec hrec x r h=>lX _ (fun c c2 c3 c4 c5 e scope r h=>hrec (c,c2,c3,c4,c5,e,scope) r h) h) h
noncomputable def WE:Code:=f13.body.getD .skip
def Wp:List Nat:=[]
def DX(e:ag)(name:ae)(a:ae):Option ag:=
 (H1 e).bind fun r1=>
 (app r1 ([a]:List ae)).bind fun l2=>
 (zt l2 a).bind fun r3=>
 (ii a name r3 name a e ([]:List ac)).bind fun r4=>
 some r4
theorem Gh{e:ag}{name:ae}{a:ae}{r:ag}(h:DX e name a=some r):CC Pg GE 13 [.agg (af e),.str name,.str a] (.agg (af r)) [(3,28),(4,85),(5,89),(6,60)]:=by
 obtain⟨r1,br1,h⟩:=aG h
 obtain⟨l2,bl2,h⟩:=aG h
 obtain⟨r3,br3,h⟩:=aG h
 obtain⟨r4,br4,h⟩:=aG h
 obtain rfl:=lf h
 have z:=se (dM e)<|se (Mj name)<|se (Mj a)<|sx yx<|IY [0,1,0,4,15,0,63,0,255]<|sv (cu e)<|du (I1 br1)<|sv (de GB (.str a) [])<|sv (eu.mk' (v:=PVal.str) Mj ([a]:List ae) 1 (by kernel_rfl))<|sv (eu.ap bl2)<|sv (de GB (.str a) [])<|du (zw br3)<|W3 (rfl:co (.str r3)=some [.str r3])<|V6 4 [[.str r3]] [3,4,5,6,7] [] (VL (m:=0) (b:=4) rfl [.str r3] rfl) (VM 4 (l:=[.str r3]) (aI trivial trivial)) (VN (V1 [.str r3]))<|sf (F9 4 (az e))<|sf (F9 4 (bO name))<|sf (F9 4 (bO a))<|sf (HB 4 (p:=sl af ([]:List ag)) (am az ([]:List ag)))<|sf (HB 4 (p:=sl av ([]:List aw)) (am ba ([]:List aw)))<|sf (HB 4 (p:=sl ay ([]:List aF)) (am bL ([]:List aF)))<|sf (HB 4 (p:=sl ai ([]:List ah)) (am aE ([]:List ah)))<|sv (show dB Pg 95 [(1,.func (.func 54) [] [.eptr (cS name),.eptr (cS a)]),(0,.func (.func 55) [] [.eptr (cS a),.eptr (cS name),.eptr (cS r3)])]=some (.agg [.func (.func 55) [] [.eptr (cS a),.eptr (cS name),.eptr (cS r3)],.func (.func 54) [] [.eptr (cS name),.eptr (cS a)]]) by kernel_rfl)<|sx UL<|sx (UF [.func (.func 55) [] [.eptr (cS a),.eptr (cS name),.eptr (cS r3)],.func (.func 54) [] [.eptr (cS name),.eptr (cS a)]])<|sv (show be Pg 95 [.func (.func 55) [] [.eptr (cS a),.eptr (cS name),.eptr (cS r3)],.func (.func 54) [] [.eptr (cS name),.eptr (cS a)]]=some (.agg [.func (.func 55) [] [.eptr (cS a),.eptr (cS name),.eptr (cS r3)],.func (.func 54) [] [.eptr (cS name),.eptr (cS a)]]) by kernel_rfl)<|sv (cu e)<|du (mr br4)<|sy (bz r4)<|en (aI (qF r4)<|aI (az r4)<|rT)
 exact cH Wp call13 func13 (c:=WE) rfl (aI (az e) (aI trivial (aI trivial trivial))) z<|by kernel_rfl
abbrev fI:=(ag->Int->Option (Bool×Int))
abbrev fG(R:fI):Prop:=∀(e:ag) (k0:Int) (r:Bool×Int),R e k0=some r->C Pg GE 64 [.agg (af e),.func (.func 68) [] [.bptr 0 0]] [] [.cells [.int .i64 k0] []] (.bool r.1) [] [.cells [.int .i64 r.2] []]
noncomputable def WP:Code:=f68.body.getD .skip
def WA:List Nat:=[]
def zS(a:ag)(k0:Int):Option (Bool×Int):=
 some (true,ca (k0+1))
theorem DW{a:ag}{k0:Int}{r:Bool×Int}(h:zS a k0=some r):C Pg GE 68 [.agg (af a),.bptr 0 0] [] [.cells [.int .i64 k0] []] (.bool r.1) [] [.cells [.int .i64 r.2] []]:=by
 obtain rfl:=lf h
 have z:=se (dM a)<|ss<|ss<|en (aI (rP (.bool true))<|aI trivial<|aI (rL [.cells [.int .i64 (ca (k0+1))] []])<|(aI (aI trivial trivial) trivial))
 exact C.evGp (A:=WA) mixed (m:=1) (c:=WP) rfl call68 func68 rfl z<|by kernel_rfl
end Go.Proofs.YtkdahfeiedaahaaGreatDoor
