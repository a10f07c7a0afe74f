/- PROVED: a part of the proof. Conditions: none. -/
import Derived.Test.YtkdahfeiedaahaaGreatDoorPkA12
noncomputable section
namespace Go.Proofs.YtkdahfeiedaahaaGreatDoor
open Go Go.Proofs.Tryz
set_option linter.unusedVariables false
set_option maxRecDepth 100000
noncomputable def ZX:Code:=f99.body.getD .skip
def XD:List Nat:=[]
section
variable(v:af)(m2:(List (ah×Bool)))
def zA:aB:=aZ 38 [(1,.bptr 0 0),(2,.eptr (ac v))] [.cells [.func (.func 81) [.bptr 1 0] []] [],.cells [.mapr 2] [],.map (aW PVal.bool m2),.dead] []
def j9(o:Bool):aB:=aZ 38 [(1,.bptr 0 0),(2,.eptr (ac v)),(12,.bool o)] [.cells [.func (.func 81) [.bptr 1 0] []] [],.cells [.mapr 2] [],.map (aW PVal.bool m2),.dead] []
def sJ:Option Bool:=
 (nl v).bind fun r1=>
 if r1=true then
  some true
 else
  some (v.Op==7)
theorem zd{x:Bool}(h:sJ v=some x):aU Pg GE 3 (cA ZX 12) (EX .normal (j9 v m2 x)) (zA v m2):=by
 obtain⟨r1,br1,h⟩:=aG h
 have p3:=fun{sc F} (r:PS sc F)=>sv (aX v)<|cm (mC br1)<|r
 rcases aH h with⟨c2,h⟩|⟨c2,h⟩
 ·obtain rfl:=lf h
  exact aY XD (p3<|sg 3 c2<|eF .normal (j9 v m2 true))<|by kernel_rfl
 ·obtain rfl:=lf h
  exact aY XD (p3<|sg 3 c2<|sv (cp v)<|sv (cq v)<|eF .normal (j9 v m2 (v.Op==7)))<|by kernel_rfl
end
section
variable(v:af)(m2:(List (ah×Bool)))
def zy:aB:=aZ 38 [(1,.bptr 0 0),(2,.eptr (ac v))] [.cells [.func (.func 81) [.bptr 1 0] []] [],.cells [.mapr 2] [],.map (aW PVal.bool m2),.dead] []
def j8(o:(List (ah×Bool))):aB:=aZ 38 [(1,.bptr 0 0),(2,.eptr (ac v))] [.cells [.func (.func 81) [.bptr 1 0] []] [],.cells [.mapr 2] [],.map (aW PVal.bool o),.dead] []
def sI:Option (((List (ah×Bool)))):=
 (sJ v).bind fun o4=>
 if o4=true then
  (lT ([v.Name]:List ah) m2).bind fun r7=>
  some r7
 else
  some m2
theorem zc{x:((List (ah×Bool)))}(h:sI v m2=some x):aU Pg GE 3 (cA ZX 6) (EX .normal (j8 v x)) (zy v m2):=by
 obtain⟨o4,bo4,h⟩:=aG h
 have p6:=fun{sc F} (r:PS sc F)=>nN 0<|cK (zd v m2 bo4)<|r
 rcases aH h with⟨c5,h⟩|⟨c5,h⟩
 ·obtain⟨r7,br7,h⟩:=aG h
  obtain rfl:=lf h
  exact aY XD (p6<|sg 0 c5<|ss<|sv (dq v)<|sv (d8 v)<|sv (cO.mk' (v:=PVal.str) OF ([v.Name]:List ah) 1 (by kernel_rfl))<|si (.cg ⟨[1,2],[.bptr 0 0,sl cS ([v.Name]:List ah)],[],[.cells [.mapr 2] [],.map (aW PVal.bool m2)],[.cells [.mapr 1] [],.map (aW PVal.bool m2)],[.cells [.mapr 2] [],.map (aW PVal.bool r7)],[.cells [.mapr 1] [],.map (aW PVal.bool r7)],.tuple [],.tuple [],[]⟩) (kO br7)<|sf (aI (xB [1,2] 0 1 0 rfl) (aI (xR [1,2] (sl cS ([v.Name]:List ah)) (aw cy ([v.Name]:List ah))) trivial))<|sf (aI (aI (rB (.cells [.mapr 2] [])) (aI (rW []) (aI (xM [1,2] 1 2 rfl) trivial))) (aI (aI (rB (.map (aW PVal.bool m2))) (aI (rM (aW PVal.bool m2)) (yk (n:=0) PVal.bool (fun x=>trivial) m2))) trivial))<|sf (aI (aI (rW []) (aI (xM [1,2] 1 2 rfl) trivial)) (aI (aI (rM (aW PVal.bool r7)) (yk (n:=0) PVal.bool (fun x=>trivial) r7)) trivial))<|sf (xR [1,2] (.tuple []) trivial)<|eF .normal (j8 v r7))<|by kernel_rfl
 ·obtain rfl:=lf h
  exact aY XD (p6<|sg 0 c5<|eF .normal (j8 v m2))<|by kernel_rfl
end
section
variable(v:af)(m2:(List (ah×Bool)))
def zB:aB:=aZ 38 [(1,.bptr 0 0),(2,.eptr (ac v))] [.cells [.func (.func 81) [.bptr 1 0] []] [],.cells [.mapr 2] [],.map (aW PVal.bool m2),.dead] []
def ka(o:(List (ah×Bool))):aB:=aZ 38 [(1,.bptr 0 0),(2,.eptr (ac v))] [.cells [.func (.func 81) [.bptr 1 0] []] [],.cells [.mapr 2] [],.map (aW PVal.bool o),.dead] []
def sK:Option (((List (ah×Bool)))):=
 if(v.Op==6)=true then
  (mz v.Params).bind fun r11=>
  (lT r11 m2).bind fun r12=>
  some r12
 else
  some m2
theorem ze{x:((List (ah×Bool)))}(h:sK v m2=some x):aU Pg GE 3 (cA ZX 14) (EX .normal (ka v x)) (zB v m2):=by
 have p10:=fun{sc F} (r:PS sc F)=>sv (cp v)<|sv (cq v)<|r
 rcases aH h with⟨c9,h⟩|⟨c9,h⟩
 ·obtain⟨r11,br11,h⟩:=aG h
  obtain⟨r12,br12,h⟩:=aG h
  obtain rfl:=lf h
  exact aY XD (p10<|sg 0 c9<|sk<|qbt (.dx [0,0,2,6] [] [] [])<|ss<|sv (ba v)<|sv (bh v)<|cm (rH br11)<|si (.cg ⟨[1,2],[.bptr 0 0,sl cS r11],[],[.cells [.mapr 2] [],.map (aW PVal.bool m2)],[.cells [.mapr 1] [],.map (aW PVal.bool m2)],[.cells [.mapr 2] [],.map (aW PVal.bool r12)],[.cells [.mapr 1] [],.map (aW PVal.bool r12)],.tuple [],.tuple [],[]⟩) (kO br12)<|sf (aI (xB [1,2] 0 1 0 rfl) (aI (xR [1,2] (sl cS r11) (aw cy r11)) trivial))<|sf (aI (aI (rB (.cells [.mapr 2] [])) (aI (rW []) (aI (xM [1,2] 1 2 rfl) trivial))) (aI (aI (rB (.map (aW PVal.bool m2))) (aI (rM (aW PVal.bool m2)) (yk (n:=0) PVal.bool (fun x=>trivial) m2))) trivial))<|sf (aI (aI (rW []) (aI (xM [1,2] 1 2 rfl) trivial)) (aI (aI (rM (aW PVal.bool r12)) (yk (n:=0) PVal.bool (fun x=>trivial) r12)) trivial))<|sf (xR [1,2] (.tuple []) trivial)<|eF .normal (ka v r12))<|by kernel_rfl
 ·obtain rfl:=lf h
  exact aY XD (p10<|sg 0 c9<|eF .normal (ka v m2))<|by kernel_rfl
end
section
variable(t27:waC)(t28:Int)(t29:Int)(m2:(List (ah×Bool)))
def fe:aB:=aZ 38 [(1,.bptr 0 0),(27,sl aF t27),(28,.int .i64 t28),(29,.int .i64 t29)] [.cells [.func (.func 81) [.bptr 1 0] []] [],.cells [.mapr 2] [],.map (aW PVal.bool m2),.dead] []
def kb(o:(List (ah×Bool))):aB:=aZ 38 [] [.cells [.func (.func 81) [.bptr 1 0] []] [],.cells [.mapr 2] [],.map (aW PVal.bool o),.dead] []
def qb:Option ((Int×(List (ah×Bool)))⊕(((List (ah×Bool))))):=
 if(decide (t29<t28))=true then
  (fy t27 t29).bind fun x15=>
  (lT x15.Names m2).bind fun r16=>
  some (.inl (bN (t29+1),r16))
 else
  some (.inr m2)
def sL:Option (((List (ah×Bool)))):=loop (fun(zz:Int×(List (ah×Bool)))=>qb t27 t28 zz.1 zz.2) (t29,m2)
theorem yb{y:(Int×(List (ah×Bool)))⊕(((List (ah×Bool))))}(h:qb t27 t28 t29 m2=some y):aU Pg GE 3 (cA ZX 247) (LQ (fun(zz:Int×(List (ah×Bool)))=>fe t27 t28 zz.1 zz.2) (fun _=>.exit 0) kb y) (fe t27 t28 t29 m2):=by
 rcases aH h with⟨c14,h⟩|⟨c14,h⟩
 ·obtain⟨x15,bx15,h⟩:=aG h
  obtain⟨r16,br16,h⟩:=aG h
  obtain rfl:=lf h
  have z:=sg 0 c14<|sv (dZ.ia (k:=.i64) bx15)<|sv (mt x15)<|sx Ip<|sx (iV x15)<|ss<|ss<|si (.cg ⟨[1,2],[.bptr 0 0,sl cS x15.Names],[],[.cells [.mapr 2] [],.map (aW PVal.bool m2)],[.cells [.mapr 1] [],.map (aW PVal.bool m2)],[.cells [.mapr 2] [],.map (aW PVal.bool r16)],[.cells [.mapr 1] [],.map (aW PVal.bool r16)],.tuple [],.tuple [],[]⟩) (kO br16)<|sf (aI (xB [1,2] 0 1 0 rfl) (aI (xR [1,2] (sl cS x15.Names) (aw cy x15.Names)) trivial))<|sf (aI (aI (rB (.cells [.mapr 2] [])) (aI (rW []) (aI (xM [1,2] 1 2 rfl) trivial))) (aI (aI (rB (.map (aW PVal.bool m2))) (aI (rM (aW PVal.bool m2)) (yk (n:=0) PVal.bool (fun x=>trivial) m2))) trivial))<|sf (aI (aI (rW []) (aI (xM [1,2] 1 2 rfl) trivial)) (aI (aI (rM (aW PVal.bool r16)) (yk (n:=0) PVal.bool (fun x=>trivial) r16)) trivial))<|sf (xR [1,2] (.tuple []) trivial)<|vY 3 .normal (fe t27 t28 (bN (t29+1)) r16) rfl (dI (aI (bR rfl) (aI (up (aw bE t27)) (aI trivial (aI trivial trivial))))) (aI (aI (aI (aI (bR rfl) trivial) trivial) trivial) (aI (aI (bR rfl) trivial) (aI (yk PVal.bool (fun x=>trivial) r16) (aI trivial trivial))))
  exact eA (A:=XD) mixed z<|by kernel_rfl
 ·obtain rfl:=lf h
  have z:=sg 0 c14<|eF (.exit 0) (kb m2)
  exact gu XD (by intro hx;cases hx) z<|by kernel_rfl
theorem zf{x:((List (ah×Bool)))}(h:sL t27 t28 t29 m2=some x):aU Pg GE 3 (.loop (cA ZX 247)) (EX (.exit 0) (kb x)) (fe t27 t28 t29 m2):=
 aU.loop (S:=fun(zz:Int×(List (ah×Bool)))=>fe t27 t28 zz.1 zz.2) (ex:=(fun _=>.exit 0)) (s:=(t29,m2)) h fun zz y hy=>yb t27 t28 zz.1 zz.2 hy
end
def wq(a:af)(k2:(List (ah×Bool))):Option (Bool×(List (ah×Bool))):=
 (sI a k2).bind fun o8=>
 (sK a o8).bind fun o13=>
 (sL a.Alts (a.Alts.length:Int) 0 o13).bind fun o17=>
 some (true,o17)
theorem BL{a:af}{k2:(List (ah×Bool))}{r:Bool×(List (ah×Bool))}(h:wq a k2=some r):C Pg GE 99 [.agg (ac a),.bptr 0 0] [] [.cells [.func (.func 81) [.bptr 1 0] []] [],.cells [.mapr 2] [],.map (aW PVal.bool k2)] (.bool r.1) [] [.cells [.func (.func 81) [.bptr 1 0] []] [],.cells [.mapr 2] [],.map (aW PVal.bool r.2)]:=by
 obtain⟨o8,bo8,h⟩:=aG h
 obtain⟨o13,bo13,h⟩:=aG h
 obtain⟨o17,bo17,h⟩:=aG h
 obtain rfl:=lf h
 have z:=se (bX a)<|nN 0<|cK (zc a k2 bo8)<|nN 0<|cK (ze a o8 bo13)<|sv (aD a)<|sv (aE a)<|bF (dZ.ln a.Alts)<|cK (zf a.Alts (a.Alts.length:Int) 0 o13 bo17)<|en (aI (rP (.bool true))<|aI trivial<|aI (rL [.cells [.func (.func 81) [.bptr 1 0] []] [],.cells [.mapr 2] [],.map (aW PVal.bool o17)])<|(aI (aI (aI (aI (bR (i:=1) (n:=3) rfl) trivial) trivial) trivial) (aI (aI (bR (i:=2) (n:=3) rfl) trivial) (aI (yk (n:=3) PVal.bool (fun x=>trivial) o17) trivial))))
 exact C.evGp (A:=XD) mixed (m:=3) (c:=ZX) rfl call99 func99 rfl z<|by kernel_rfl
noncomputable def LC:Code:=f64.body.getD .skip
def Hf:List Nat:=[]
section
variable(R43:eJ)(e:af)(t14:waD)(t15:Int)(t16:Int)(m2:(List (ah×Bool)))
def dU:aB:=aZ 38 [(1,.func (.func 99) [] [.bptr 0 0]),(2,.eptr (ac e)),(14,sl ac t14),(15,.int .i64 t15),(16,.int .i64 t16)] [.cells [.func (.func 81) [.bptr 1 0] []] [],.cells [.mapr 2] [],.map (aW PVal.bool m2),.dead] []
def dV(o:((List (ah×Bool)))⊕((List (ah×Bool)))):Exit:=match o with
 |(.inl _)=>.ret
 |(.inr _)=>.exit 0
def cC(o:((List (ah×Bool)))⊕((List (ah×Bool)))):aB:=match o with
 |(.inl o)=>aZ 38 [(4,.bool false)] [.cells [.func (.func 81) [.bptr 1 0] []] [],.cells [.mapr 2] [],.map (aW PVal.bool o),.dead] []
 |(.inr o)=>aZ 38 [(1,.func (.func 99) [] [.bptr 0 0]),(2,.eptr (ac e))] [.cells [.func (.func 81) [.bptr 1 0] []] [],.cells [.mapr 2] [],.map (aW PVal.bool o),.dead] []
def lU:Option ((Int×(List (ah×Bool)))⊕(((List (ah×Bool)))⊕((List (ah×Bool))))):=
 if(decide (t16<t15))=true then
  (fy t14 t16).bind fun x5=>
  (R43 x5 m2).bind fun r6=>
  if(!r6.1)=true then
   some (.inr (.inl r6.2))
  else
   some (.inl (bN (t16+1),r6.2))
 else
  some (.inr (.inr m2))
def nn:Option (((List (ah×Bool)))⊕((List (ah×Bool)))):=loop (fun(zz:Int×(List (ah×Bool)))=>lU R43 t14 t15 zz.1 zz.2) (t16,m2)
theorem tZ(hR43:eH R43){y:(Int×(List (ah×Bool)))⊕(((List (ah×Bool)))⊕((List (ah×Bool))))}(h:lU R43 t14 t15 t16 m2=some y):aU Pg GE 3 (cA LC 119) (LQ (fun(zz:Int×(List (ah×Bool)))=>dU e t14 t15 zz.1 zz.2) dV (cC e) y) (dU e t14 t15 t16 m2):=by
 rcases aH h with⟨c4,h⟩|⟨c4,h⟩
 ·obtain⟨x5,bx5,h⟩:=aG h
  obtain⟨r6,br6,h⟩:=aG h
  have p8:=fun{sc F} (r:PS sc F)=>sg 0 c4<|sv (eP.ia (k:=.i64) bx5)<|sv (aX x5)<|sx BJ<|sx (kl x5)<|sv (cz x5 [])<|si (.cg ⟨[0,1,2],[.agg (ac x5),.func (.func 99) [] [.bptr 0 0]],[],[.cells [.func (.func 81) [.bptr 1 0] []] [],.cells [.mapr 2] [],.map (aW PVal.bool m2)],[.cells [.func (.func 81) [.bptr 1 0] []] [],.cells [.mapr 2] [],.map (aW PVal.bool m2)],[.cells [.func (.func 81) [.bptr 1 0] []] [],.cells [.mapr 2] [],.map (aW PVal.bool r6.2)],[.cells [.func (.func 81) [.bptr 1 0] []] [],.cells [.mapr 2] [],.map (aW PVal.bool r6.2)],.bool r6.1,.bool r6.1,[]⟩) (hR43 _ _ _ br6)<|sf (aI (xR [0,1,2] (.agg (ac x5)) (al x5)) (aI (xF [0,1,2] (.func 99) [] [.bptr 0 0] [] [.bptr 0 0] trivial (aI (xB [0,1,2] 0 0 0 rfl) trivial)) trivial))<|sf (aI (aI (rB (.cells [.func (.func 81) [.bptr 1 0] []] [])) (aI (rW []) (aI (xF [0,1,2] (.func 81) [.bptr 1 0] [] [.bptr 1 0] [] (aI (xB [0,1,2] 1 1 0 rfl) trivial) trivial) trivial))) (aI (aI (rB (.cells [.mapr 2] [])) (aI (rW []) (aI (xM [0,1,2] 2 2 rfl) trivial))) (aI (aI (rB (.map (aW PVal.bool m2))) (aI (rM (aW PVal.bool m2)) (yk (n:=0) PVal.bool (fun x=>trivial) m2))) trivial)))<|sf (aI (aI (rW []) (aI (xF [0,1,2] (.func 81) [.bptr 1 0] [] [.bptr 1 0] [] (aI (xB [0,1,2] 1 1 0 rfl) trivial) trivial) trivial)) (aI (aI (rW []) (aI (xM [0,1,2] 2 2 rfl) trivial)) (aI (aI (rM (aW PVal.bool r6.2)) (yk (n:=0) PVal.bool (fun x=>trivial) r6.2)) trivial)))<|sf (xR [0,1,2] (.bool r6.1) trivial)<|r
  rcases aH h with⟨c7,h⟩|⟨c7,h⟩
  ·obtain rfl:=lf h
   have z:=p8<|sg 0 c7<|vY 3 (dV (.inl r6.2)) (cC e (.inl r6.2)) rfl (dI (aI trivial trivial)) (aI (aI (aI (aI (bR rfl) trivial) trivial) trivial) (aI (aI (bR rfl) trivial) (aI (yk PVal.bool (fun x=>trivial) r6.2) (aI trivial trivial))))
   exact ql (A:=Hf) mixed (by intro hx;cases hx) z<|by kernel_rfl
  ·obtain rfl:=lf h
   have z:=p8<|sg 0 c7<|vY 3 .normal (dU e t14 t15 (bN (t16+1)) r6.2) rfl (dI (aI (aI trivial (aI (bR rfl) trivial)) (aI (bH (al e)) (aI (up (aw al t14)) (aI trivial (aI trivial trivial)))))) (aI (aI (aI (aI (bR rfl) trivial) trivial) trivial) (aI (aI (bR rfl) trivial) (aI (yk PVal.bool (fun x=>trivial) r6.2) (aI trivial trivial))))
   exact eA (A:=Hf) mixed z<|by kernel_rfl
 ·obtain rfl:=lf h
  have z:=sg 0 c4<|eF (dV (.inr m2)) (cC e (.inr m2))
  exact gu Hf (by intro hx;cases hx) z<|by kernel_rfl
theorem gm(hR43:eH R43){x:((List (ah×Bool)))⊕((List (ah×Bool)))}(h:nn R43 t14 t15 t16 m2=some x):aU Pg GE 3 (.loop (cA LC 119)) (EX (dV x) (cC e x)) (dU e t14 t15 t16 m2):=
 aU.loop (S:=fun(zz:Int×(List (ah×Bool)))=>dU e t14 t15 zz.1 zz.2) (ex:=dV) (s:=(t16,m2)) h fun zz y hy=>tZ R43 e t14 t15 zz.1 zz.2 hR43 hy
end
section
variable(R43:eJ)(t26:waC)(t27:Int)(t28:Int)(m2:(List (ah×Bool)))
def dW:aB:=aZ 38 [(1,.func (.func 99) [] [.bptr 0 0]),(26,sl aF t26),(27,.int .i64 t27),(28,.int .i64 t28)] [.cells [.func (.func 81) [.bptr 1 0] []] [],.cells [.mapr 2] [],.map (aW PVal.bool m2),.dead] []
def dX(o:((List (ah×Bool)))⊕((List (ah×Bool)))):Exit:=match o with
 |(.inl _)=>.ret
 |(.inr _)=>.exit 2
def cZ(o:((List (ah×Bool)))⊕((List (ah×Bool)))):aB:=match o with
 |(.inl o)=>aZ 38 [(4,.bool false)] [.cells [.func (.func 81) [.bptr 1 0] []] [],.cells [.mapr 2] [],.map (aW PVal.bool o),.dead] []
 |(.inr o)=>aZ 38 [] [.cells [.func (.func 81) [.bptr 1 0] []] [],.cells [.mapr 2] [],.map (aW PVal.bool o),.dead] []
def lV:Option ((Int×(List (ah×Bool)))⊕(((List (ah×Bool)))⊕((List (ah×Bool))))):=
 if(decide (t28<t27))=true then
  (fy t26 t28).bind fun x11=>
  (R43 x11.Body m2).bind fun r12=>
  if(!r12.1)=true then
   some (.inr (.inl r12.2))
  else
   some (.inl (bN (t28+1),r12.2))
 else
  some (.inr (.inr m2))
def np:Option (((List (ah×Bool)))⊕((List (ah×Bool)))):=loop (fun(zz:Int×(List (ah×Bool)))=>lV R43 t26 t27 zz.1 zz.2) (t28,m2)
theorem ub(hR43:eH R43){y:(Int×(List (ah×Bool)))⊕(((List (ah×Bool)))⊕((List (ah×Bool))))}(h:lV R43 t26 t27 t28 m2=some y):aU Pg GE 3 (cA LC 247) (LQ (fun(zz:Int×(List (ah×Bool)))=>dW t26 t27 zz.1 zz.2) dX cZ y) (dW t26 t27 t28 m2):=by
 rcases aH h with⟨c10,h⟩|⟨c10,h⟩
 ·obtain⟨x11,bx11,h⟩:=aG h
  obtain⟨r12,br12,h⟩:=aG h
  have p14:=fun{sc F} (r:PS sc F)=>sg 0 c10<|sv (dZ.ia (k:=.i64) bx11)<|sv (mt x11)<|sx Ip<|sx (iV x11)<|sv (cz x11.Body [])<|si (.cg ⟨[0,1,2],[.agg (ac x11.Body),.func (.func 99) [] [.bptr 0 0]],[],[.cells [.func (.func 81) [.bptr 1 0] []] [],.cells [.mapr 2] [],.map (aW PVal.bool m2)],[.cells [.func (.func 81) [.bptr 1 0] []] [],.cells [.mapr 2] [],.map (aW PVal.bool m2)],[.cells [.func (.func 81) [.bptr 1 0] []] [],.cells [.mapr 2] [],.map (aW PVal.bool r12.2)],[.cells [.func (.func 81) [.bptr 1 0] []] [],.cells [.mapr 2] [],.map (aW PVal.bool r12.2)],.bool r12.1,.bool r12.1,[]⟩) (hR43 _ _ _ br12)<|sf (aI (xR [0,1,2] (.agg (ac x11.Body)) (al x11.Body)) (aI (xF [0,1,2] (.func 99) [] [.bptr 0 0] [] [.bptr 0 0] trivial (aI (xB [0,1,2] 0 0 0 rfl) trivial)) trivial))<|sf (aI (aI (rB (.cells [.func (.func 81) [.bptr 1 0] []] [])) (aI (rW []) (aI (xF [0,1,2] (.func 81) [.bptr 1 0] [] [.bptr 1 0] [] (aI (xB [0,1,2] 1 1 0 rfl) trivial) trivial) trivial))) (aI (aI (rB (.cells [.mapr 2] [])) (aI (rW []) (aI (xM [0,1,2] 2 2 rfl) trivial))) (aI (aI (rB (.map (aW PVal.bool m2))) (aI (rM (aW PVal.bool m2)) (yk (n:=0) PVal.bool (fun x=>trivial) m2))) trivial)))<|sf (aI (aI (rW []) (aI (xF [0,1,2] (.func 81) [.bptr 1 0] [] [.bptr 1 0] [] (aI (xB [0,1,2] 1 1 0 rfl) trivial) trivial) trivial)) (aI (aI (rW []) (aI (xM [0,1,2] 2 2 rfl) trivial)) (aI (aI (rM (aW PVal.bool r12.2)) (yk (n:=0) PVal.bool (fun x=>trivial) r12.2)) trivial)))<|sf (xR [0,1,2] (.bool r12.1) trivial)<|r
  rcases aH h with⟨c13,h⟩|⟨c13,h⟩
  ·obtain rfl:=lf h
   have z:=p14<|sg 0 c13<|vY 3 (dX (.inl r12.2)) (cZ (.inl r12.2)) rfl (dI (aI trivial trivial)) (aI (aI (aI (aI (bR rfl) trivial) trivial) trivial) (aI (aI (bR rfl) trivial) (aI (yk PVal.bool (fun x=>trivial) r12.2) (aI trivial trivial))))
   exact ql (A:=Hf) mixed (by intro hx;cases hx) z<|by kernel_rfl
  ·obtain rfl:=lf h
   have z:=p14<|sg 0 c13<|vY 3 .normal (dW t26 t27 (bN (t28+1)) r12.2) rfl (dI (aI (aI trivial (aI (bR rfl) trivial)) (aI (up (aw bE t26)) (aI trivial (aI trivial trivial))))) (aI (aI (aI (aI (bR rfl) trivial) trivial) trivial) (aI (aI (bR rfl) trivial) (aI (yk PVal.bool (fun x=>trivial) r12.2) (aI trivial trivial))))
   exact eA (A:=Hf) mixed z<|by kernel_rfl
 ·obtain rfl:=lf h
  have z:=sg 0 c10<|eF (dX (.inr m2)) (cZ (.inr m2))
  exact gu Hf (by intro hx;cases hx) z<|by kernel_rfl
theorem li(hR43:eH R43){x:((List (ah×Bool)))⊕((List (ah×Bool)))}(h:np R43 t26 t27 t28 m2=some x):aU Pg GE 3 (.loop (cA LC 247)) (EX (dX x) (cZ x)) (dW t26 t27 t28 m2):=
 aU.loop (S:=fun(zz:Int×(List (ah×Bool)))=>dW t26 t27 zz.1 zz.2) (ex:=dX) (s:=(t28,m2)) h fun zz y hy=>ub R43 t26 t27 zz.1 zz.2 hR43 hy
end
def oq(R43:eJ)(e:af)(k2:(List (ah×Bool))):Option (Bool×(List (ah×Bool))):=
 (wq e k2).bind fun r1=>
 if(!r1.1)=true then
  some (false,r1.2)
 else
  (nn R43 e.Kids (e.Kids.length:Int) 0 r1.2).bind fun o9=>match o9 with
  |(.inl o9)=>
   some (false,o9)
  | (.inr o9) =>
   (np R43 e.Alts (e.Alts.length:Int) 0 o9).bind fun o15=>match o15 with
   |(.inl o15)=>
    some (false,o15)
   |(.inr o15)=>
    some (true,o15)
theorem wt(R43:eJ)(hR43:eH R43){e:af}{k2:(List (ah×Bool))}{r:Bool×(List (ah×Bool))}(h:oq R43 e k2=some r):C Pg GE 64 [.agg (ac e),.func (.func 99) [] [.bptr 0 0]] [] [.cells [.func (.func 81) [.bptr 1 0] []] [],.cells [.mapr 2] [],.map (aW PVal.bool k2)] (.bool r.1) [] [.cells [.func (.func 81) [.bptr 1 0] []] [],.cells [.mapr 2] [],.map (aW PVal.bool r.2)]:=by
 obtain⟨r1,br1,h⟩:=aG h
 have p3:=fun{sc F} (r:PS sc F)=>se (bX e)<|sv (aX e)<|si (.cg ⟨[0,1,2],[.agg (ac e),.bptr 0 0],[],[.cells [.func (.func 81) [.bptr 1 0] []] [],.cells [.mapr 2] [],.map (aW PVal.bool k2)],[.cells [.func (.func 81) [.bptr 1 0] []] [],.cells [.mapr 2] [],.map (aW PVal.bool k2)],[.cells [.func (.func 81) [.bptr 1 0] []] [],.cells [.mapr 2] [],.map (aW PVal.bool r1.2)],[.cells [.func (.func 81) [.bptr 1 0] []] [],.cells [.mapr 2] [],.map (aW PVal.bool r1.2)],.bool r1.1,.bool r1.1,[]⟩) (BL br1)<|sf (aI (xR [0,1,2] (.agg (ac e)) (al e)) (aI (xB [0,1,2] 0 0 0 rfl) trivial))<|sf (aI (aI (rB (.cells [.func (.func 81) [.bptr 1 0] []] [])) (aI (rW []) (aI (xF [0,1,2] (.func 81) [.bptr 1 0] [] [.bptr 1 0] [] (aI (xB [0,1,2] 1 1 0 rfl) trivial) trivial) trivial))) (aI (aI (rB (.cells [.mapr 2] [])) (aI (rW []) (aI (xM [0,1,2] 2 2 rfl) trivial))) (aI (aI (rB (.map (aW PVal.bool k2))) (aI (rM (aW PVal.bool k2)) (yk (n:=0) PVal.bool (fun x=>trivial) k2))) trivial)))<|sf (aI (aI (rW []) (aI (xF [0,1,2] (.func 81) [.bptr 1 0] [] [.bptr 1 0] [] (aI (xB [0,1,2] 1 1 0 rfl) trivial) trivial) trivial)) (aI (aI (rW []) (aI (xM [0,1,2] 2 2 rfl) trivial)) (aI (aI (rM (aW PVal.bool r1.2)) (yk (n:=0) PVal.bool (fun x=>trivial) r1.2)) trivial)))<|sf (xR [0,1,2] (.bool r1.1) trivial)<|r
 rcases aH h with⟨c2,h⟩|⟨c2,h⟩
 ·obtain rfl:=lf h
  have z:=p3<|sg 0 c2<|en (aI (rP (.bool false))<|aI trivial<|aI (rL [.cells [.func (.func 81) [.bptr 1 0] []] [],.cells [.mapr 2] [],.map (aW PVal.bool r1.2)])<|(aI (aI (aI (aI (bR (i:=1) (n:=3) rfl) trivial) trivial) trivial) (aI (aI (bR (i:=2) (n:=3) rfl) trivial) (aI (yk (n:=3) PVal.bool (fun x=>trivial) r1.2) trivial))))
  exact C.evGp (A:=Hf) mixed (m:=3) (c:=LC) rfl call64 func64 rfl z<|by kernel_rfl
 ·obtain⟨o9,bo9,h⟩:=aG h
  rcases o9 with o9|o9
  ·obtain rfl:=lf h
   have z:=p3<|sg 0 c2<|sv (a8 e)<|sv (be e)<|bF (eP.ln e.Kids)<|cK (e:=.ret) (s1:=cC e (.inl o9)) (gm R43 e e.Kids (e.Kids.length:Int) 0 r1.2 hR43 bo9)<|en (aI (rP (.bool false))<|aI trivial<|aI (rL [.cells [.func (.func 81) [.bptr 1 0] []] [],.cells [.mapr 2] [],.map (aW PVal.bool o9)])<|(aI (aI (aI (aI (bR (i:=1) (n:=3) rfl) trivial) trivial) trivial) (aI (aI (bR (i:=2) (n:=3) rfl) trivial) (aI (yk (n:=3) PVal.bool (fun x=>trivial) o9) trivial))))
   exact C.evGp (A:=Hf) mixed (m:=3) (c:=LC) rfl call64 func64 rfl z<|by kernel_rfl
  ·obtain⟨o15,bo15,h⟩:=aG h
   rcases o15 with o15|o15
   ·obtain rfl:=lf h
    have z:=p3<|sg 0 c2<|sv (a8 e)<|sv (be e)<|bF (eP.ln e.Kids)<|cK (e:=.exit 0) (s1:=cC e (.inr o9)) (gm R43 e e.Kids (e.Kids.length:Int) 0 r1.2 hR43 bo9)<|sv (aD e)<|sv (aE e)<|bF (dZ.ln e.Alts)<|cK (e:=.ret) (s1:=cZ (.inl o15)) (li R43 e.Alts (e.Alts.length:Int) 0 o9 hR43 bo15)<|en (aI (rP (.bool false))<|aI trivial<|aI (rL [.cells [.func (.func 81) [.bptr 1 0] []] [],.cells [.mapr 2] [],.map (aW PVal.bool o15)])<|(aI (aI (aI (aI (bR (i:=1) (n:=3) rfl) trivial) trivial) trivial) (aI (aI (bR (i:=2) (n:=3) rfl) trivial) (aI (yk (n:=3) PVal.bool (fun x=>trivial) o15) trivial))))
    exact C.evGp (A:=Hf) mixed (m:=3) (c:=LC) rfl call64 func64 rfl z<|by kernel_rfl
   ·obtain rfl:=lf h
    have z:=p3<|sg 0 c2<|sv (a8 e)<|sv (be e)<|bF (eP.ln e.Kids)<|cK (e:=.exit 0) (s1:=cC e (.inr o9)) (gm R43 e e.Kids (e.Kids.length:Int) 0 r1.2 hR43 bo9)<|sv (aD e)<|sv (aE e)<|bF (dZ.ln e.Alts)<|cK (e:=.exit 2) (s1:=cZ (.inr o15)) (li R43 e.Alts (e.Alts.length:Int) 0 o9 hR43 bo15)<|en (aI (rP (.bool true))<|aI trivial<|aI (rL [.cells [.func (.func 81) [.bptr 1 0] []] [],.cells [.mapr 2] [],.map (aW PVal.bool o15)])<|(aI (aI (aI (aI (bR (i:=1) (n:=3) rfl) trivial) trivial) trivial) (aI (aI (bR (i:=2) (n:=3) rfl) trivial) (aI (yk (n:=3) PVal.bool (fun x=>trivial) o15) trivial))))
    exact C.evGp (A:=Hf) mixed (m:=3) (c:=LC) rfl call64 func64 rfl z<|by kernel_rfl
def ou:((af×(List (ah×Bool)))->Option (Bool×(List (ah×Bool))))->(af×(List (ah×Bool)))->Option (Bool×(List (ah×Bool))):=fun(rec:(af×(List (ah×Bool)))->Option (Bool×(List (ah×Bool)))) (x:af×(List (ah×Bool)))=>oq (fun e k2=>rec (e,k2)) x.1 x.2
def qf(e:af)(k2:(List (ah×Bool))):Option (Bool×(List (ah×Bool))):=sS ou (e,k2)
theorem w8{e:af}{k2:(List (ah×Bool))}{r:Bool×(List (ah×Bool))}(h:qf e k2=some r):C Pg GE 64 [.agg (ac e),.func (.func 99) [] [.bptr 0 0]] [] [.cells [.func (.func 81) [.bptr 1 0] []] [],.cells [.mapr 2] [],.map (aW PVal.bool k2)] (.bool r.1) [] [.cells [.func (.func 81) [.bptr 1 0] []] [],.cells [.mapr 2] [],.map (aW PVal.bool r.2)]:=
 eg (F:=ou) (M:=fun(x:af×(List (ah×Bool))) (r:Bool×(List (ah×Bool)))=>C Pg GE 64 [.agg (ac x.1),.func (.func 99) [] [.bptr 0 0]] [] [.cells [.func (.func 81) [.bptr 1 0] []] [],.cells [.mapr 2] [],.map (aW PVal.bool x.2)] (.bool r.1) [] [.cells [.func (.func 81) [.bptr 1 0] []] [],.cells [.mapr 2] [],.map (aW PVal.bool r.2)]) (fun rec hrec x r h=>wt _ (fun e k2 r h=>hrec (e,k2) r h) h) h
noncomputable def qdJ:Code:=f53.body.getD .skip
def qdt:List Nat:=[]
def NC(e:af):Option waA:=
 (AZ ([]:List ah)).bind fun r1=>
 (qf e r1).bind fun r2=>
 (GU r2.2).bind fun r3=>
 some r3
theorem OP{e:af}{r:waA}(h:NC e=some r):CC Pg GE 53 [.agg (ac e)] (sl cS r) [(0,9)]:=by
 obtain⟨r1,br1,h⟩:=aG h
 obtain⟨r2,br2,h⟩:=aG h
 obtain⟨r3,br3,h⟩:=aG h
 obtain rfl:=lf h
 have z:=se (bX e)<|si (.cn ⟨[1,2],[],[],[],[],[.map (aW PVal.bool r1),.cells [.mapr 1] []],[.map (aW PVal.bool r1),.cells [.mapr 0] []],.bptr 2 0,.bptr 1 0,[]⟩) (BN br1)<|sf (aI (aw cy ([]:List ah)) trivial)<|sf (aI (aI (rM (aW PVal.bool r1)) (yk (n:=0) PVal.bool (fun x=>trivial) r1)) (aI (aI (rW []) (aI (xM [1,2] 0 1 rfl) trivial)) trivial))<|sf (xB [1,2] 1 2 0 rfl)<|sx qbm<|ss<|sv (aX e)<|si (.cg ⟨[3,2,1],[.agg (ac e),.func (.func 99) [] [.bptr 0 0]],[],[.cells [.func (.func 81) [.bptr 2 0] []] [],.cells [.mapr 1] [],.map (aW PVal.bool r1)],[.cells [.func (.func 81) [.bptr 1 0] []] [],.cells [.mapr 2] [],.map (aW PVal.bool r1)],[.cells [.func (.func 81) [.bptr 2 0] []] [],.cells [.mapr 1] [],.map (aW PVal.bool r2.2)],[.cells [.func (.func 81) [.bptr 1 0] []] [],.cells [.mapr 2] [],.map (aW PVal.bool r2.2)],.bool r2.1,.bool r2.1,[]⟩) (w8 br2)<|sf (aI (xR [3,2,1] (.agg (ac e)) (al e)) (aI (xF [3,2,1] (.func 99) [] [.bptr 3 0] [] [.bptr 0 0] trivial (aI (xB [3,2,1] 0 3 0 rfl) trivial)) trivial))<|sf (aI (aI (rB (.cells [.func (.func 81) [.bptr 2 0] []] [])) (aI (rW []) (aI (xF [3,2,1] (.func 81) [.bptr 2 0] [] [.bptr 1 0] [] (aI (xB [3,2,1] 1 2 0 rfl) trivial) trivial) trivial))) (aI (aI (rB (.cells [.mapr 1] [])) (aI (rW []) (aI (xM [3,2,1] 2 1 rfl) trivial))) (aI (aI (rB (.map (aW PVal.bool r1))) (aI (rM (aW PVal.bool r1)) (yk (n:=0) PVal.bool (fun x=>trivial) r1))) trivial)))<|sf (aI (aI (rW []) (aI (xF [3,2,1] (.func 81) [.bptr 2 0] [] [.bptr 1 0] [] (aI (xB [3,2,1] 1 2 0 rfl) trivial) trivial) trivial)) (aI (aI (rW []) (aI (xM [3,2,1] 2 1 rfl) trivial)) (aI (aI (rM (aW PVal.bool r2.2)) (yk (n:=0) PVal.bool (fun x=>trivial) r2.2)) trivial)))<|sf (xR [3,2,1] (.bool r2.1) trivial)<|si (.cg ⟨[2,1],[.bptr 0 0],[],[.cells [.mapr 1] [],.map (aW PVal.bool r2.2)],[.cells [.mapr 1] [],.map (aW PVal.bool r2.2)],[.cells [.mapr 1] [],.map (aW PVal.bool r2.2)],[.cells [.mapr 1] [],.map (aW PVal.bool r2.2)],sl cS r3,sl cS r3,[(0,9)]⟩) (Gg br3)<|sf (aI (xB [2,1] 0 2 0 rfl) trivial)<|sf (aI (aI (rB (.cells [.mapr 1] [])) (aI (rW []) (aI (xM [2,1] 1 1 rfl) trivial))) (aI (aI (rB (.map (aW PVal.bool r2.2))) (aI (rM (aW PVal.bool r2.2)) (yk (n:=0) PVal.bool (fun x=>trivial) r2.2))) trivial))<|sf (aI (aI (rW []) (aI (xM [2,1] 1 1 rfl) trivial)) (aI (aI (rM (aW PVal.bool r2.2)) (yk (n:=0) PVal.bool (fun x=>trivial) r2.2)) trivial))<|sf (xR [2,1] (sl cS r3) (aw cy r3))<|en (aI (rP (sl cS r3))<|(aw cy r3))
 exact bI qdt call53 func53 (c:=qdJ) rfl (aI (al e) trivial) z<|by kernel_rfl
abbrev bp:=(ah->ah->ah->ah->ah->af->(List ae)->Option af)
abbrev bK(R:bp):Prop:=∀(c:ah) (c2:ah) (c3:ah) (c4:ah) (c5:ah) (e:af) (scope:(List ae)) (r:af),R c c2 c3 c4 c5 e scope=some r->CC Pg GE 56 [.agg [.func (.func 55) [] [.eptr (cS c),.eptr (cS c2),.eptr (cS c3)],.func (.func 54) [] [.eptr (cS c4),.eptr (cS c5)]],.agg (ac e),sl aa scope] (.agg (ac r)) [(3,28),(4,85),(5,89),(6,60)]
noncomputable def qc8:Code:=f54.body.getD .skip
def qcX:List Nat:=[9]
def EH(s:ah)(a:ah)(a2:ah):Option ah:=
 if(s==a)=true then
  some a2
 else
  some s
theorem Iz{s:ah}{a:ah}{a2:ah}{r:ah}(h:EH s a a2=some r):CC Pg GE 54 [.str s,.eptr (cS a),.eptr (cS a2)] (.str r) []:=by
 rcases aH h with⟨c1,h⟩|⟨c1,h⟩
 ·obtain rfl:=lf h
  have z:=sv (cT GS (.str a) [])<|sg 0 c1<|sv (cT GS (.str a2) [])<|en (aI (rP (.str a2))<|trivial)
  exact bI qcX call54 func54 (c:=qc8) rfl (aI trivial (aI (cy a) (aI (cy a2) trivial))) z<|by kernel_rfl
 ·obtain rfl:=lf h
  have z:=sv (cT GS (.str a) [])<|sg 0 c1<|en (aI (rP (.str s))<|trivial)
  exact bI qcX call54 func54 (c:=qc8) rfl (aI trivial (aI (cy a) (aI (cy a2) trivial))) z<|by kernel_rfl
noncomputable def qck:Code:=f55.body.getD .skip
def qbx:List Nat:=[17]
section
variable(s:ah)(t2:ah)(t3:ah)(t4:ah)
def FK:aB:=aZ 18 [(0,.str s),(2,.eptr (cS t2)),(3,.eptr (cS t3)),(4,.eptr (cS t4))] [] []
def qp(o:Bool):aB:=aZ 18 [(0,.str s),(4,.eptr (cS t4)),(15,.bool o)] [] []
def An:Option Bool:=
 if(s==t2)=true then
  some (!(t3==t2))
 else
  some false
theorem EI{x:Bool}(h:An s t2 t3=some x):aU Pg GE 0 (cA qck 12) (EX .normal (qp s t4 x)) (FK s t2 t3 t4):=by
 rcases aH h with⟨c1,h⟩|⟨c1,h⟩
 ·obtain rfl:=lf h
  exact aY qbx (sv (cT GS (.str t2) [])<|sg 4 c1<|sv (cT GS (.str t3) [])<|sv (cT GS (.str t2) [])<|eF .normal (qp s t4 (!(t3==t2))))<|by kernel_rfl
 ·obtain rfl:=lf h
  exact aY qbx (sv (cT GS (.str t2) [])<|sg 4 c1<|eF .normal (qp s t4 false))<|by kernel_rfl
end
def zb(s:ah)(a:(List ae))(a2:ah)(a3:ah)(a4:ah):Option ah:=
 (An s a2 a3).bind fun o2=>
 if o2=true then
  some a4
 else
  some s
theorem Ao{s:ah}{a:(List ae)}{a2:ah}{a3:ah}{a4:ah}{r:ah}(h:zb s a a2 a3 a4=some r):CC Pg GE 55 [.str s,sl aa a,.eptr (cS a2),.eptr (cS a3),.eptr (cS a4)] (.str r) []:=by
 obtain⟨o2,bo2,h⟩:=aG h
 have p4:=fun{sc F} (r:PS sc F)=>nN 2<|cK (EI s a2 a3 a4 bo2)<|r
 rcases aH h with⟨c3,h⟩|⟨c3,h⟩
 ·obtain rfl:=lf h
  have z:=p4<|sg 0 c3<|sv (cT GS (.str a4) [])<|en (aI (rP (.str a4))<|trivial)
  exact bI qbx call55 func55 (c:=qck) rfl (aI trivial (aI (aw av a) (aI (cy a2) (aI (cy a3) (aI (cy a4) trivial))))) z<|by kernel_rfl
 ·obtain rfl:=lf h
  have z:=p4<|sg 0 c3<|en (aI (rP (.str s))<|trivial)
  exact bI qbx call55 func55 (c:=qck) rfl (aI trivial (aI (aw av a) (aI (cy a2) (aI (cy a3) (aI (cy a4) trivial))))) z<|by kernel_rfl
def e9(s:ah)(a:(List ae))(c:ah)(c2:ah)(c3:ah)(c4:ah)(c5:ah)(k1:(List ae)):Option (ah×(List ae)):=
 (zb s a c c2 c3).bind fun r1=>
 (app k1 ([(⟨s,r1⟩:ae)]:List ae)).bind fun l2=>
 some (r1,l2)
theorem gA{s:ah}{a:(List ae)}{c:ah}{c2:ah}{c3:ah}{c4:ah}{c5:ah}{k1:(List ae)}{r:ah×(List ae)}(h:e9 s a c c2 c3 c4 c5 k1=some r):C Pg GE 105 [.str s,.bptr 0 0,.eptr ((cL aa) a),.bptr 1 0] [] [.cells [.func (.func 55) [] [.eptr (cS c),.eptr (cS c2),.eptr (cS c3)],.func (.func 54) [] [.eptr (cS c4),.eptr (cS c5)]] [],.cells [sl aa k1] [(0,137)]] (.str r.1) [] [.cells [.func (.func 55) [] [.eptr (cS c),.eptr (cS c2),.eptr (cS c3)],.func (.func 54) [] [.eptr (cS c4),.eptr (cS c5)]] [],.cells [sl aa r.2] [(0,137)]]:=by
 obtain⟨r1,br1,h⟩:=aG h
 obtain⟨l2,bl2,h⟩:=aG h
 obtain rfl:=lf h
 have z:=ss<|sv (cT Lo (sl aa a) [])<|cm (Ao br1)<|sv (mq s r1)<|sv (Ny.mk' (v:=rj) rD ([(⟨s,r1⟩:ae)]:List ae) 1 (by kernel_rfl))<|sv (Ny.ap bl2)<|en (aI (rP (.str r1))<|aI trivial<|aI (rL [.cells [.func (.func 55) [] [.eptr (cS c),.eptr (cS c2),.eptr (cS c3)],.func (.func 54) [] [.eptr (cS c4),.eptr (cS c5)]] [],.cells [sl aa l2] [(0,137)]])<|(aI (aI (aI trivial (aI (bH (n:=2) (cy c)) (aI (bH (n:=2) (cy c2)) (aI (bH (n:=2) (cy c3)) trivial)))) (aI (aI trivial (aI (bH (n:=2) (cy c4)) (aI (bH (n:=2) (cy c5)) trivial))) trivial)) (aI (aI (up (n:=2) (aw av l2)) trivial) trivial)))
 exact C.evGp (A:=Z6) mixed (m:=2) (c:=qav) rfl call105 func105 rfl z<|by kernel_rfl
section
variable(t1:Bool)(v:(List ae))(v2:ah)(v3:ah)(v4:ah)(v5:ah)(v6:ah)(m:(List ae))(m2:ah)(m3:Int)(m4:ah)(m5:waB)(m6:waA)(m7:Int)(m8:ah)(m9:Int)(m10:waF)(m11:waF)(m12:waB)(m13:waF)
def g7:aB:=aZ 17 [(1,.eptr (cB t1)),(2,.bptr 0 0),(3,.bptr 3 0),(4,.bptr 4 0)] [.cells [.func (.func 105) [] [.bptr 1 0,.eptr ((cL aa) v),.bptr 2 0]] [],.cells [.func (.func 55) [] [.eptr (cS v2),.eptr (cS v3),.eptr (cS v4)],.func (.func 54) [] [.eptr (cS v5),.eptr (cS v6)]] [],.cells [sl aa m] [(0,137)],.cells [.str m2,.int .i64 m3,.str m4,sl aj m5,sl cS m6,.int .i64 m7,.str m8,.int .i64 m9,sl ay m10,sl ay m11] [],.cells [.str ([]:ah),.int .i64 0,.str ([]:ah),sl aj m12,sl cS ([]:List ah),.int .i64 0,.str ([]:ah),.int .i64 0,sl ay m13,sl ay m13] [(3,60),(4,9),(8,58),(9,58)]] []
def cG(o:(List ae)×ah):aB:=aZ 17 [(3,.bptr 3 0),(4,.bptr 4 0)] [.cells [.func (.func 105) [] [.bptr 1 0,.eptr ((cL aa) v),.bptr 2 0]] [],.cells [.func (.func 55) [] [.eptr (cS v2),.eptr (cS v3),.eptr (cS v4)],.func (.func 54) [] [.eptr (cS v5),.eptr (cS v6)]] [],.cells [sl aa o.1] [(0,137)],.cells [.str o.2,.int .i64 m3,.str m4,sl aj m5,sl cS m6,.int .i64 m7,.str m8,.int .i64 m9,sl ay m10,sl ay m11] [],.cells [.str ([]:ah),.int .i64 0,.str ([]:ah),sl aj m12,sl cS ([]:List ah),.int .i64 0,.str ([]:ah),.int .i64 0,sl ay m13,sl ay m13] [(3,60),(4,9),(8,58),(9,58)]] []
def ee:Option (((List ae)×ah)):=
 if t1=true then
  (e9 m2 v v2 v3 v4 v5 v6 m).bind fun r2=>
  some (r2.2,r2.1)
 else
  some (m,m2)
theorem gN{x:((List ae)×ah)}(h:ee t1 v v2 v3 v4 v5 v6 m m2=some x):aU Pg GE 3 (cA XK 6) (EX .normal (cG v v2 v3 v4 v5 v6 m3 m4 m5 m6 m7 m8 m9 m10 m11 m12 m13 x)) (g7 t1 v v2 v3 v4 v5 v6 m m2 m3 m4 m5 m6 m7 m8 m9 m10 m11 m12 m13):=by
 rcases aH h with⟨c1,h⟩|⟨c1,h⟩
 ·obtain⟨r2,br2,h⟩:=aG h
  obtain rfl:=lf h
  exact aY Uw (sv (cT qbH (.bool t1) [])<|sg 0 c1<|ss<|ss<|si (.cg ⟨[1,2],[.str m2,.bptr 0 0,.eptr ((cL aa) v),.bptr 1 0],[],[.cells [.func (.func 55) [] [.eptr (cS v2),.eptr (cS v3),.eptr (cS v4)],.func (.func 54) [] [.eptr (cS v5),.eptr (cS v6)]] [],.cells [sl aa m] [(0,137)]],[.cells [.func (.func 55) [] [.eptr (cS v2),.eptr (cS v3),.eptr (cS v4)],.func (.func 54) [] [.eptr (cS v5),.eptr (cS v6)]] [],.cells [sl aa m] [(0,137)]],[.cells [.func (.func 55) [] [.eptr (cS v2),.eptr (cS v3),.eptr (cS v4)],.func (.func 54) [] [.eptr (cS v5),.eptr (cS v6)]] [],.cells [sl aa r2.2] [(0,137)]],[.cells [.func (.func 55) [] [.eptr (cS v2),.eptr (cS v3),.eptr (cS v4)],.func (.func 54) [] [.eptr (cS v5),.eptr (cS v6)]] [],.cells [sl aa r2.2] [(0,137)]],.str r2.1,.str r2.1,[]⟩) (gA br2)<|sf (aI (xR [1,2] (.str m2) trivial) (aI (xB [1,2] 0 1 0 rfl) (aI (xR [1,2] (.eptr ((cL aa) v)) (oz av v)) (aI (xB [1,2] 1 2 0 rfl) trivial))))<|sf (aI (aI (rB (.cells [.func (.func 55) [] [.eptr (cS v2),.eptr (cS v3),.eptr (cS v4)],.func (.func 54) [] [.eptr (cS v5),.eptr (cS v6)]] [])) (aI (rW []) (aI (xR [1,2] (.func (.func 55) [] [.eptr (cS v2),.eptr (cS v3),.eptr (cS v4)]) (aI trivial (aI (cy v2) (aI (cy v3) (aI (cy v4) trivial))))) (aI (xR [1,2] (.func (.func 54) [] [.eptr (cS v5),.eptr (cS v6)]) (aI trivial (aI (cy v5) (aI (cy v6) trivial)))) trivial)))) (aI (aI (rB (.cells [sl aa m] [(0,137)])) (aI (rW [(0,137)]) (aI (xR [1,2] (sl aa m) (aw av m)) trivial))) trivial))<|sf (aI (aI (rW []) (aI (xR [1,2] (.func (.func 55) [] [.eptr (cS v2),.eptr (cS v3),.eptr (cS v4)]) (aI trivial (aI (cy v2) (aI (cy v3) (aI (cy v4) trivial))))) (aI (xR [1,2] (.func (.func 54) [] [.eptr (cS v5),.eptr (cS v6)]) (aI trivial (aI (cy v5) (aI (cy v6) trivial)))) trivial))) (aI (aI (rW [(0,137)]) (aI (xR [1,2] (sl aa r2.2) (aw av r2.2)) trivial)) trivial))<|sf (xR [1,2] (.str r2.1) trivial)<|ss<|eF .normal (cG v v2 v3 v4 v5 v6 m3 m4 m5 m6 m7 m8 m9 m10 m11 m12 m13 (r2.2,r2.1)))<|by kernel_rfl
 ·obtain rfl:=lf h
  exact aY Uw (sv (cT qbH (.bool t1) [])<|sg 0 c1<|eF .normal (cG v v2 v3 v4 v5 v6 m3 m4 m5 m6 m7 m8 m9 m10 m11 m12 m13 (m,m2)))<|by kernel_rfl
end
def eL(p:aA)(a:Bool)(c:(List ae))(c2:ah)(c3:ah)(c4:ah)(c5:ah)(c6:ah)(k2:(List ae)):Option (aA×(List ae)):=
 (ee a c c2 c3 c4 c5 c6 k2 p.Name).bind fun o3=>
 (pW eB p.Type_).bind fun r4=>
 some ((⟨o3.2,r4⟩:aA),o3.1)
theorem io{p:aA}{a:Bool}{c:(List ae)}{c2:ah}{c3:ah}{c4:ah}{c5:ah}{c6:ah}{k2:(List ae)}{r:aA×(List ae)}(h:eL p a c c2 c3 c4 c5 c6 k2=some r):C Pg GE 108 [.agg (ax p),.eptr (cB a),.bptr 0 0] [] [.cells [.func (.func 105) [] [.bptr 1 0,.eptr ((cL aa) c),.bptr 2 0]] [],.cells [.func (.func 55) [] [.eptr (cS c2),.eptr (cS c3),.eptr (cS c4)],.func (.func 54) [] [.eptr (cS c5),.eptr (cS c6)]] [],.cells [sl aa k2] [(0,137)]] (.agg (ax r.1)) [] [.cells [.func (.func 105) [] [.bptr 1 0,.eptr ((cL aa) c),.bptr 2 0]] [],.cells [.func (.func 55) [] [.eptr (cS c2),.eptr (cS c3),.eptr (cS c4)],.func (.func 54) [] [.eptr (cS c5),.eptr (cS c6)]] [],.cells [sl aa r.2] [(0,137)]]:=by
 obtain⟨o3,bo3,h⟩:=aG h
 obtain⟨r4,br4,h⟩:=aG h
 obtain rfl:=lf h
 have z:=sx (kW p)<|sx Sv<|nN 0<|cK (gN a c c2 c3 c4 c5 c6 k2 p.Name p.Type_.Op p.Type_.Name p.Type_.Args p.Type_.Names p.Type_.Pred.Op p.Type_.Pred.Name p.Type_.Pred.N p.Type_.Pred.Kids p.Type_.Preds ([]:List ak) ([]:List az) bo3)<|OO [0,1,0,4,12,31,63]<|ss<|sv (jr p.Type_ [])<|cm (qq eB (fun _ _ h=>g6 h) br4)<|sv (F2 o3.2 r4)<|sx (kW (⟨o3.2,r4⟩:aA))<|en (aI (Nw (⟨o3.2,r4⟩:aA))<|aI (qbu (n:=3) (bj (⟨o3.2,r4⟩:aA)))<|aI (rL [.cells [.func (.func 105) [] [.bptr 1 0,.eptr ((cL aa) c),.bptr 2 0]] [],.cells [.func (.func 55) [] [.eptr (cS c2),.eptr (cS c3),.eptr (cS c4)],.func (.func 54) [] [.eptr (cS c5),.eptr (cS c6)]] [],.cells [sl aa o3.1] [(0,137)]])<|(aI (aI (aI trivial (aI (bR (i:=1) (n:=3) rfl) (aI (bH (n:=3) (oz av c)) (aI (bR (i:=2) (n:=3) rfl) trivial)))) trivial) (aI (aI (aI trivial (aI (bH (n:=3) (cy c2)) (aI (bH (n:=3) (cy c3)) (aI (bH (n:=3) (cy c4)) trivial)))) (aI (aI trivial (aI (bH (n:=3) (cy c5)) (aI (bH (n:=3) (cy c6)) trivial))) trivial)) (aI (aI (up (n:=3) (aw av o3.1)) trivial) trivial))))
 exact C.evGp (A:=Uw) mixed (m:=3) (c:=XK) rfl call108 func108 rfl z<|by kernel_rfl
section
variable(v:Bool)(t8:waE)(t9:Int)(v2:(List ae))(v3:ah)(v4:ah)(v5:ah)(v6:ah)(v7:ah)(out:waE)(t10:Int)(m:(List ae))
def bk:aB:=aZ 22 [(1,.func (.func 108) [] [.eptr (cB v),.bptr 0 0]),(5,sl ax out),(8,sl ax t8),(9,.int .i64 t9),(10,.int .i64 t10)] [.cells [.func (.func 105) [] [.bptr 1 0,.eptr ((cL aa) v2),.bptr 2 0]] [],.cells [.func (.func 55) [] [.eptr (cS v3),.eptr (cS v4),.eptr (cS v5)],.func (.func 54) [] [.eptr (cS v6),.eptr (cS v7)]] [],.cells [sl aa m] [(0,137)]] [((5,0),85)]
def ch(o:waE×(List ae)):aB:=aZ 22 [(5,sl ax o.1)] [.cells [.func (.func 105) [] [.bptr 1 0,.eptr ((cL aa) v2),.bptr 2 0]] [],.cells [.func (.func 55) [] [.eptr (cS v3),.eptr (cS v4),.eptr (cS v5)],.func (.func 54) [] [.eptr (cS v6),.eptr (cS v7)]] [],.cells [sl aa o.2] [(0,137)]] [((5,0),85)]
def dn:Option ((waE×Int×(List ae))⊕((waE×(List ae)))):=
 if(decide (t10<t9))=true then
  (fy t8 t10).bind fun x2=>
  (eL x2 v v2 v3 v4 v5 v6 v7 m).bind fun r3=>
  (app out ([r3.1]:List aA)).bind fun l4=>
  some (.inl (l4,bN (t10+1),r3.2))
 else
  some (.inr (out,m))
def dF:Option ((waE×(List ae))):=loop (fun(zz:waE×Int×(List ae))=>dn v t8 t9 v2 v3 v4 v5 v6 v7 zz.1 zz.2.1 zz.2.2) (out,t10,m)
theorem fQ{y:(waE×Int×(List ae))⊕((waE×(List ae)))}(h:dn v t8 t9 v2 v3 v4 v5 v6 v7 out t10 m=some y):aU Pg GE 3 (cA UH 119) (LQ (fun(zz:waE×Int×(List ae))=>bk v t8 t9 v2 v3 v4 v5 v6 v7 zz.1 zz.2.1 zz.2.2) (fun _=>.exit 0) (ch v2 v3 v4 v5 v6 v7) y) (bk v t8 t9 v2 v3 v4 v5 v6 v7 out t10 m):=by
 rcases aH h with⟨c1,h⟩|⟨c1,h⟩
 ·obtain⟨x2,bx2,h⟩:=aG h
  obtain⟨r3,br3,h⟩:=aG h
  obtain⟨l4,bl4,h⟩:=aG h
  obtain rfl:=lf h
  have z:=sg 0 c1<|sv (il.ia (k:=.i64) bx2)<|sv (ym x2)<|sx Sv<|sx (kW x2)<|sv (Cn x2 [])<|si (.cg ⟨[0,1,2],[.agg (ax x2),.eptr (cB v),.bptr 0 0],[],[.cells [.func (.func 105) [] [.bptr 1 0,.eptr ((cL aa) v2),.bptr 2 0]] [],.cells [.func (.func 55) [] [.eptr (cS v3),.eptr (cS v4),.eptr (cS v5)],.func (.func 54) [] [.eptr (cS v6),.eptr (cS v7)]] [],.cells [sl aa m] [(0,137)]],[.cells [.func (.func 105) [] [.bptr 1 0,.eptr ((cL aa) v2),.bptr 2 0]] [],.cells [.func (.func 55) [] [.eptr (cS v3),.eptr (cS v4),.eptr (cS v5)],.func (.func 54) [] [.eptr (cS v6),.eptr (cS v7)]] [],.cells [sl aa m] [(0,137)]],[.cells [.func (.func 105) [] [.bptr 1 0,.eptr ((cL aa) v2),.bptr 2 0]] [],.cells [.func (.func 55) [] [.eptr (cS v3),.eptr (cS v4),.eptr (cS v5)],.func (.func 54) [] [.eptr (cS v6),.eptr (cS v7)]] [],.cells [sl aa r3.2] [(0,137)]],[.cells [.func (.func 105) [] [.bptr 1 0,.eptr ((cL aa) v2),.bptr 2 0]] [],.cells [.func (.func 55) [] [.eptr (cS v3),.eptr (cS v4),.eptr (cS v5)],.func (.func 54) [] [.eptr (cS v6),.eptr (cS v7)]] [],.cells [sl aa r3.2] [(0,137)]],.agg (ax r3.1),.agg (ax r3.1),[]⟩) (io br3)<|sf (aI (xR [0,1,2] (.agg (ax x2)) (bj x2)) (aI (xR [0,1,2] (.eptr (cB v)) (ZY v)) (aI (xB [0,1,2] 0 0 0 rfl) trivial)))<|sf (aI (aI (rB (.cells [.func (.func 105) [] [.bptr 1 0,.eptr ((cL aa) v2),.bptr 2 0]] [])) (aI (rW []) (aI (xF [0,1,2] (.func 105) [] [.bptr 1 0,.eptr ((cL aa) v2),.bptr 2 0] [] [.bptr 1 0,.eptr ((cL aa) v2),.bptr 2 0] trivial (aI (xB [0,1,2] 1 1 0 rfl) (aI (xR [0,1,2] (.eptr ((cL aa) v2)) (oz av v2)) (aI (xB [0,1,2] 2 2 0 rfl) trivial)))) trivial))) (aI (aI (rB (.cells [.func (.func 55) [] [.eptr (cS v3),.eptr (cS v4),.eptr (cS v5)],.func (.func 54) [] [.eptr (cS v6),.eptr (cS v7)]] [])) (aI (rW []) (aI (xR [0,1,2] (.func (.func 55) [] [.eptr (cS v3),.eptr (cS v4),.eptr (cS v5)]) (aI trivial (aI (cy v3) (aI (cy v4) (aI (cy v5) trivial))))) (aI (xR [0,1,2] (.func (.func 54) [] [.eptr (cS v6),.eptr (cS v7)]) (aI trivial (aI (cy v6) (aI (cy v7) trivial)))) trivial)))) (aI (aI (rB (.cells [sl aa m] [(0,137)])) (aI (rW [(0,137)]) (aI (xR [0,1,2] (sl aa m) (aw av m)) trivial))) trivial)))<|sf (aI (aI (rW []) (aI (xF [0,1,2] (.func 105) [] [.bptr 1 0,.eptr ((cL aa) v2),.bptr 2 0] [] [.bptr 1 0,.eptr ((cL aa) v2),.bptr 2 0] trivial (aI (xB [0,1,2] 1 1 0 rfl) (aI (xR [0,1,2] (.eptr ((cL aa) v2)) (oz av v2)) (aI (xB [0,1,2] 2 2 0 rfl) trivial)))) trivial)) (aI (aI (rW []) (aI (xR [0,1,2] (.func (.func 55) [] [.eptr (cS v3),.eptr (cS v4),.eptr (cS v5)]) (aI trivial (aI (cy v3) (aI (cy v4) (aI (cy v5) trivial))))) (aI (xR [0,1,2] (.func (.func 54) [] [.eptr (cS v6),.eptr (cS v7)]) (aI trivial (aI (cy v6) (aI (cy v7) trivial)))) trivial))) (aI (aI (rW [(0,137)]) (aI (xR [0,1,2] (sl aa r3.2) (aw av r3.2)) trivial)) trivial)))<|sf (xR [0,1,2] (.agg (ax r3.1)) (bj r3.1))<|sv (il.mk' (v:=EP) Ct ([r3.1]:List aA) 1 (by kernel_rfl))<|sv (il.ap bl4)<|vY 3 .normal (bk v t8 t9 v2 v3 v4 v5 v6 v7 l4 (bN (t10+1)) r3.2) rfl (dI (aI (aI trivial (aI (bH (ZY v)) (aI (bR rfl) trivial))) (aI (up (aw bj l4)) (aI (up (aw bj t8)) (aI trivial (aI trivial trivial)))))) (aI (aI (aI trivial (aI (bR rfl) (aI (bH (oz av v2)) (aI (bR rfl) trivial)))) trivial) (aI (aI (aI trivial (aI (bH (cy v3)) (aI (bH (cy v4)) (aI (bH (cy v5)) trivial)))) (aI (aI trivial (aI (bH (cy v6)) (aI (bH (cy v7)) trivial))) trivial)) (aI (aI (up (aw av r3.2)) trivial) trivial)))
  exact eA (A:=Uv) mixed z<|by kernel_rfl
 ·obtain rfl:=lf h
  have z:=sg 0 c1<|eF (.exit 0) (ch v2 v3 v4 v5 v6 v7 (out,m))
  exact gu Uv (by intro hx;cases hx) z<|by kernel_rfl
theorem fS{x:(waE×(List ae))}(h:dF v t8 t9 v2 v3 v4 v5 v6 v7 out t10 m=some x):aU Pg GE 3 (.loop (cA UH 119)) (EX (.exit 0) (ch v2 v3 v4 v5 v6 v7 x)) (bk v t8 t9 v2 v3 v4 v5 v6 v7 out t10 m):=
 aU.loop (S:=fun(zz:waE×Int×(List ae))=>bk v t8 t9 v2 v3 v4 v5 v6 v7 zz.1 zz.2.1 zz.2.2) (ex:=(fun _=>.exit 0)) (s:=(out,t10,m)) h fun zz y hy=>fQ v t8 t9 v2 v3 v4 v5 v6 v7 zz.1 zz.2.1 zz.2.2 hy
end
def dY(a:waE)(c:Bool)(c2:(List ae))(c3:ah)(c4:ah)(c5:ah)(c6:ah)(c7:ah)(k2:(List ae)):Option (waE×(List ae)):=
 (dF c a (a.length:Int) c2 c3 c4 c5 c6 c7 ([]:List aA) 0 k2).bind fun o5=>
 some (o5.1,o5.2)
theorem gk{a:waE}{c:Bool}{c2:(List ae)}{c3:ah}{c4:ah}{c5:ah}{c6:ah}{c7:ah}{k2:(List ae)}{r:waE×(List ae)}(h:dY a c c2 c3 c4 c5 c6 c7 k2=some r):C Pg GE 107 [sl ax a,.func (.func 108) [] [.eptr (cB c),.bptr 0 0]] [] [.cells [.func (.func 105) [] [.bptr 1 0,.eptr ((cL aa) c2),.bptr 2 0]] [],.cells [.func (.func 55) [] [.eptr (cS c3),.eptr (cS c4),.eptr (cS c5)],.func (.func 54) [] [.eptr (cS c6),.eptr (cS c7)]] [],.cells [sl aa k2] [(0,137)]] (sl ax r.1) [(0,85)] [.cells [.func (.func 105) [] [.bptr 1 0,.eptr ((cL aa) c2),.bptr 2 0]] [],.cells [.func (.func 55) [] [.eptr (cS c3),.eptr (cS c4),.eptr (cS c5)],.func (.func 54) [] [.eptr (cS c6),.eptr (cS c7)]] [],.cells [sl aa r.2] [(0,137)]]:=by
 obtain⟨o5,bo5,h⟩:=aG h
 obtain rfl:=lf h
 have z:=bF (il.ln a)<|cK (fS c a (a.length:Int) c2 c3 c4 c5 c6 c7 ([]:List aA) 0 k2 bo5)<|en (aI (rP (sl ax o5.1))<|aI (up (n:=3) (aw bj o5.1))<|aI (rL [.cells [.func (.func 105) [] [.bptr 1 0,.eptr ((cL aa) c2),.bptr 2 0]] [],.cells [.func (.func 55) [] [.eptr (cS c3),.eptr (cS c4),.eptr (cS c5)],.func (.func 54) [] [.eptr (cS c6),.eptr (cS c7)]] [],.cells [sl aa o5.2] [(0,137)]])<|(aI (aI (aI trivial (aI (bR (i:=1) (n:=3) rfl) (aI (bH (n:=3) (oz av c2)) (aI (bR (i:=2) (n:=3) rfl) trivial)))) trivial) (aI (aI (aI trivial (aI (bH (n:=3) (cy c3)) (aI (bH (n:=3) (cy c4)) (aI (bH (n:=3) (cy c5)) trivial)))) (aI (aI trivial (aI (bH (n:=3) (cy c6)) (aI (bH (n:=3) (cy c7)) trivial))) trivial)) (aI (aI (up (n:=3) (aw av o5.2)) trivial) trivial))))
 exact C.evGp (A:=Uv) mixed (m:=3) (c:=UH) rfl call107 func107 rfl z<|by kernel_rfl
section
variable(t1:(List ae))(v:aT)(t13:waA)(t14:Int)(v4:ah)(v5:ah)(v6:ah)(v7:ah)(v8:ah)(m:waD)(m2:waE)(m3:waC)(m4:waB)(v2:(List ae))(v3:waA)(t15:Int)
def cj:aB:=aZ 44 [(1,.eptr ((cL aa) t1)),(2,.bptr 0 0),(3,.eptr (aF v)),(4,.bptr 2 0),(5,sl aa v2),(6,sl cS v3),(13,sl cS t13),(14,.int .i64 t14),(15,.int .i64 t15)] [.cells [.func (.func 55) [] [.eptr (cS v4),.eptr (cS v5),.eptr (cS v6)],.func (.func 54) [] [.eptr (cS v7),.eptr (cS v8)]] [],.dead,.cells [.str ([]:ah),sl cS ([]:List ah),.int .i64 0,.str ([]:ah),.int .i64 0,sl ac m,sl ax m2,sl aF m3,sl aj m4] [(1,9),(5,28),(6,85),(7,89),(8,60)]] [((6,0),9),((5,0),137)]
def ec(o:(List ae)×waA):aB:=aZ 44 [(2,.bptr 0 0),(3,.eptr (aF v)),(4,.bptr 2 0),(5,sl aa o.1),(6,sl cS o.2)] [.cells [.func (.func 55) [] [.eptr (cS v4),.eptr (cS v5),.eptr (cS v6)],.func (.func 54) [] [.eptr (cS v7),.eptr (cS v8)]] [],.dead,.cells [.str ([]:ah),sl cS ([]:List ah),.int .i64 0,.str ([]:ah),.int .i64 0,sl ac m,sl ax m2,sl aF m3,sl aj m4] [(1,9),(5,28),(6,85),(7,89),(8,60)]] [((6,0),9),((5,0),137)]
def gb:Option (((List ae)×waA×Int)⊕(((List ae)×waA))):=
 if(decide (t15<t14))=true then
  (fy t13 t15).bind fun x3=>
  (zb x3 t1 v4 v5 v6).bind fun r4=>
  (app v3 ([r4]:List ah)).bind fun l5=>
  (app v2 ([(⟨x3,r4⟩:ae)]:List ae)).bind fun l6=>
  some (.inl (l6,l5,bN (t15+1)))
 else
  some (.inr (v2,v3))
def gC:Option (((List ae)×waA)):=loop (fun(zz:(List ae)×waA×Int)=>gb t1 t13 t14 v4 v5 v6 zz.1 zz.2.1 zz.2.2) (v2,v3,t15)
theorem lL{y:((List ae)×waA×Int)⊕(((List ae)×waA))}(h:gb t1 t13 t14 v4 v5 v6 v2 v3 t15=some y):aU Pg GE 1 (cA UJ 247) (LQ (fun(zz:(List ae)×waA×Int)=>cj t1 v t13 t14 v4 v5 v6 v7 v8 m m2 m3 m4 zz.1 zz.2.1 zz.2.2) (fun _=>.exit 0) (ec v v4 v5 v6 v7 v8 m m2 m3 m4) y) (cj t1 v t13 t14 v4 v5 v6 v7 v8 m m2 m3 m4 v2 v3 t15):=by
 rcases aH h with⟨c2,h⟩|⟨c2,h⟩
 ·obtain⟨x3,bx3,h⟩:=aG h
  obtain⟨r4,br4,h⟩:=aG h
  obtain⟨l5,bl5,h⟩:=aG h
  obtain⟨l6,bl6,h⟩:=aG h
  obtain rfl:=lf h
  exact wv Uy (sg 0 c2<|sv (cO.ia (k:=.i64) bx3)<|sv (cT GS (.str x3) [])<|ss<|sv (cT Lo (sl aa t1) [])<|cm (Ao br4)<|sv (cO.mk' (v:=PVal.str) OF ([r4]:List ah) 1 (by kernel_rfl))<|sv (cO.ap bl5)<|sv (mq x3 r4)<|sv (Ny.mk' (v:=rj) rD ([(⟨x3,r4⟩:ae)]:List ae) 1 (by kernel_rfl))<|sv (Ny.ap bl6)<|eF .normal (cj t1 v t13 t14 v4 v5 v6 v7 v8 m m2 m3 m4 l6 l5 (bN (t15+1))))<|by kernel_rfl
 ·obtain rfl:=lf h
  have z:=sg 0 c2<|eF (.exit 0) (ec v v4 v5 v6 v7 v8 m m2 m3 m4 (v2,v3))
  exact gu Uy (by intro hx;cases hx) z<|by kernel_rfl
theorem l7{x:((List ae)×waA)}(h:gC t1 t13 t14 v4 v5 v6 v2 v3 t15=some x):aU Pg GE 1 (.loop (cA UJ 247)) (EX (.exit 0) (ec v v4 v5 v6 v7 v8 m m2 m3 m4 x)) (cj t1 v t13 t14 v4 v5 v6 v7 v8 m m2 m3 m4 v2 v3 t15):=
 aU.loop (S:=fun(zz:(List ae)×waA×Int)=>cj t1 v t13 t14 v4 v5 v6 v7 v8 m m2 m3 m4 zz.1 zz.2.1 zz.2.2) (ex:=(fun _=>.exit 0)) (s:=(v2,v3,t15)) h fun zz y hy=>lL t1 v t13 t14 v4 v5 v6 v7 v8 m m2 m3 m4 zz.1 zz.2.1 zz.2.2 hy
end
def iJ(R45:bp)(a:aT)(a2:(List ae))(c:ah)(c2:ah)(c3:ah)(c4:ah)(c5:ah):Option aT:=
 (wI a2).bind fun r1=>
 (gC a2 a.Names (a.Names.length:Int) c c2 c3 r1 ([]:List ah) 0).bind fun o7=>
 (R45 c c2 c3 c4 c5 a.Body o7.1).bind fun r8=>
 some (⟨a.Con,o7.2,r8⟩:aT)
theorem nU(R45:bp)(hR45:bK R45){a:aT}{a2:(List ae)}{c:ah}{c2:ah}{c3:ah}{c4:ah}{c5:ah}{r:aT}(h:iJ R45 a a2 c c2 c3 c4 c5=some r):C Pg GE 110 [.agg (aF a),.eptr ((cL aa) a2),.bptr 0 0] [] [.cells [.func (.func 55) [] [.eptr (cS c),.eptr (cS c2),.eptr (cS c3)],.func (.func 54) [] [.eptr (cS c4),.eptr (cS c5)]] []] (.agg (aF r)) [] [.cells [.func (.func 55) [] [.eptr (cS c),.eptr (cS c2),.eptr (cS c3)],.func (.func 54) [] [.eptr (cS c4),.eptr (cS c5)]] []]:=by
 obtain⟨r1,br1,h⟩:=aG h
 obtain⟨o7,bo7,h⟩:=aG h
 obtain⟨r8,br8,h⟩:=aG h
 obtain rfl:=lf h
 have z:=se (Id a)<|sx Ip<|sv (cT Lo (sl aa a2) [])<|cm (z7 br1)<|sv (gX a)<|sv (gZ a)<|bF (cO.ln a.Names)<|cK (l7 a2 a a.Names (a.Names.length:Int) c c2 c3 c4 c5 ([]:List af) ([]:List aA) ([]:List aT) ([]:List ak) r1 ([]:List ah) 0 bo7)<|OO [0,1,0,0,0,16,0,120,255,511]<|sv (mr a)<|sv (po a)<|sv (show bM Pg 95 [.func (.func 55) [] [.eptr (cS c),.eptr (cS c2),.eptr (cS c3)],.func (.func 54) [] [.eptr (cS c4),.eptr (cS c5)]]=some (.agg [.func (.func 55) [] [.eptr (cS c),.eptr (cS c2),.eptr (cS c3)],.func (.func 54) [] [.eptr (cS c4),.eptr (cS c5)]]) by kernel_rfl)<|sv (pM a)<|sv (pO a)<|cm (hR45 _ _ _ _ _ _ _ _ br8)<|sv (F0 a.Con o7.2 r8)<|sx (iV (⟨a.Con,o7.2,r8⟩:aT))<|en (aI (SA (⟨a.Con,o7.2,r8⟩:aT))<|aI (qbu (n:=1) (bE (⟨a.Con,o7.2,r8⟩:aT)))<|aI (rL [.cells [.func (.func 55) [] [.eptr (cS c),.eptr (cS c2),.eptr (cS c3)],.func (.func 54) [] [.eptr (cS c4),.eptr (cS c5)]] []])<|(aI (aI (aI trivial (aI (bH (n:=1) (cy c)) (aI (bH (n:=1) (cy c2)) (aI (bH (n:=1) (cy c3)) trivial)))) (aI (aI trivial (aI (bH (n:=1) (cy c4)) (aI (bH (n:=1) (cy c5)) trivial))) trivial)) trivial))
 exact C.evGp (A:=Uy) mixed (m:=1) (c:=UJ) rfl call110 func110 rfl z<|by kernel_rfl
section
variable(R45:bp)(v:(List ae))(t8:waC)(t9:Int)(v2:ah)(v3:ah)(v4:ah)(v5:ah)(v6:ah)(out:waC)(t10:Int)
def bT:aB:=aZ 22 [(1,.func (.func 110) [] [.eptr ((cL aa) v),.bptr 0 0]),(5,sl aF out),(8,sl aF t8),(9,.int .i64 t9),(10,.int .i64 t10)] [.cells [.func (.func 55) [] [.eptr (cS v2),.eptr (cS v3),.eptr (cS v4)],.func (.func 54) [] [.eptr (cS v5),.eptr (cS v6)]] []] [((5,0),89)]
def dp(o:waC):aB:=aZ 22 [(5,sl aF o)] [.cells [.func (.func 55) [] [.eptr (cS v2),.eptr (cS v3),.eptr (cS v4)],.func (.func 54) [] [.eptr (cS v5),.eptr (cS v6)]] []] [((5,0),89)]
def ff:Option ((waC×Int)⊕(waC)):=
 if(decide (t10<t9))=true then
  (fy t8 t10).bind fun x2=>
  (iJ R45 x2 v v2 v3 v4 v5 v6).bind fun r3=>
  (app out ([r3]:List aT)).bind fun l4=>
  some (.inl (l4,bN (t10+1)))
 else
  some (.inr out)
def fG:Option waC:=loop (fun(zz:waC×Int)=>ff R45 v t8 t9 v2 v3 v4 v5 v6 zz.1 zz.2) (out,t10)
theorem j2(hR45:bK R45){y:(waC×Int)⊕(waC)}(h:ff R45 v t8 t9 v2 v3 v4 v5 v6 out t10=some y):aU Pg GE 1 (cA UI 119) (LQ (fun(zz:waC×Int)=>bT v t8 t9 v2 v3 v4 v5 v6 zz.1 zz.2) (fun _=>.exit 0) (dp v2 v3 v4 v5 v6) y) (bT v t8 t9 v2 v3 v4 v5 v6 out t10):=by
 rcases aH h with⟨c1,h⟩|⟨c1,h⟩
 ·obtain⟨x2,bx2,h⟩:=aG h
  obtain⟨r3,br3,h⟩:=aG h
  obtain⟨l4,bl4,h⟩:=aG h
  obtain rfl:=lf h
  have z:=sg 0 c1<|sv (dZ.ia (k:=.i64) bx2)<|sv (mt x2)<|sx Ip<|sx (iV x2)<|sv (HT x2 [])<|si (.cg ⟨[0],[.agg (aF x2),.eptr ((cL aa) v),.bptr 0 0],[],[.cells [.func (.func 55) [] [.eptr (cS v2),.eptr (cS v3),.eptr (cS v4)],.func (.func 54) [] [.eptr (cS v5),.eptr (cS v6)]] []],[.cells [.func (.func 55) [] [.eptr (cS v2),.eptr (cS v3),.eptr (cS v4)],.func (.func 54) [] [.eptr (cS v5),.eptr (cS v6)]] []],[.cells [.func (.func 55) [] [.eptr (cS v2),.eptr (cS v3),.eptr (cS v4)],.func (.func 54) [] [.eptr (cS v5),.eptr (cS v6)]] []],[.cells [.func (.func 55) [] [.eptr (cS v2),.eptr (cS v3),.eptr (cS v4)],.func (.func 54) [] [.eptr (cS v5),.eptr (cS v6)]] []],.agg (aF r3),.agg (aF r3),[]⟩) (nU R45 hR45 br3)<|sf (aI (xR [0] (.agg (aF x2)) (bE x2)) (aI (xR [0] (.eptr ((cL aa) v)) (oz av v)) (aI (xB [0] 0 0 0 rfl) trivial)))<|sf (aI (aI (rB (.cells [.func (.func 55) [] [.eptr (cS v2),.eptr (cS v3),.eptr (cS v4)],.func (.func 54) [] [.eptr (cS v5),.eptr (cS v6)]] [])) (aI (rW []) (aI (xR [0] (.func (.func 55) [] [.eptr (cS v2),.eptr (cS v3),.eptr (cS v4)]) (aI trivial (aI (cy v2) (aI (cy v3) (aI (cy v4) trivial))))) (aI (xR [0] (.func (.func 54) [] [.eptr (cS v5),.eptr (cS v6)]) (aI trivial (aI (cy v5) (aI (cy v6) trivial)))) trivial)))) trivial)<|sf (aI (aI (rW []) (aI (xR [0] (.func (.func 55) [] [.eptr (cS v2),.eptr (cS v3),.eptr (cS v4)]) (aI trivial (aI (cy v2) (aI (cy v3) (aI (cy v4) trivial))))) (aI (xR [0] (.func (.func 54) [] [.eptr (cS v5),.eptr (cS v6)]) (aI trivial (aI (cy v5) (aI (cy v6) trivial)))) trivial))) trivial)<|sf (xR [0] (.agg (aF r3)) (bE r3))<|sv (dZ.mk' (v:=TL) Sm ([r3]:List aT) 1 (by kernel_rfl))<|sv (dZ.ap bl4)<|vY 1 .normal (bT v t8 t9 v2 v3 v4 v5 v6 l4 (bN (t10+1))) rfl (dI (aI (aI trivial (aI (bH (oz av v)) (aI (bR rfl) trivial))) (aI (up (aw bE l4)) (aI (up (aw bE t8)) (aI trivial (aI trivial trivial)))))) (aI (aI (aI trivial (aI (bH (cy v2)) (aI (bH (cy v3)) (aI (bH (cy v4)) trivial)))) (aI (aI trivial (aI (bH (cy v5)) (aI (bH (cy v6)) trivial))) trivial)) trivial)
  exact eA (A:=Ux) mixed z<|by kernel_rfl
 ·obtain rfl:=lf h
  have z:=sg 0 c1<|eF (.exit 0) (dp v2 v3 v4 v5 v6 out)
  exact gu Ux (by intro hx;cases hx) z<|by kernel_rfl
theorem kc(hR45:bK R45){x:waC}(h:fG R45 v t8 t9 v2 v3 v4 v5 v6 out t10=some x):aU Pg GE 1 (.loop (cA UI 119)) (EX (.exit 0) (dp v2 v3 v4 v5 v6 x)) (bT v t8 t9 v2 v3 v4 v5 v6 out t10):=
 aU.loop (S:=fun(zz:waC×Int)=>bT v t8 t9 v2 v3 v4 v5 v6 zz.1 zz.2) (ex:=(fun _=>.exit 0)) (s:=(out,t10)) h fun zz y hy=>j2 R45 v t8 t9 v2 v3 v4 v5 v6 zz.1 zz.2 hR45 hy
end
def f9(R45:bp)(a:waC)(c:(List ae))(c2:ah)(c3:ah)(c4:ah)(c5:ah)(c6:ah):Option waC:=
 (fG R45 c a (a.length:Int) c2 c3 c4 c5 c6 ([]:List aT) 0).bind fun o5=>
 some o5
theorem lj(R45:bp)(hR45:bK R45){a:waC}{c:(List ae)}{c2:ah}{c3:ah}{c4:ah}{c5:ah}{c6:ah}{r:waC}(h:f9 R45 a c c2 c3 c4 c5 c6=some r):C Pg GE 109 [sl aF a,.func (.func 110) [] [.eptr ((cL aa) c),.bptr 0 0]] [] [.cells [.func (.func 55) [] [.eptr (cS c2),.eptr (cS c3),.eptr (cS c4)],.func (.func 54) [] [.eptr (cS c5),.eptr (cS c6)]] []] (sl aF r) [(0,89)] [.cells [.func (.func 55) [] [.eptr (cS c2),.eptr (cS c3),.eptr (cS c4)],.func (.func 54) [] [.eptr (cS c5),.eptr (cS c6)]] []]:=by
 obtain⟨o5,bo5,h⟩:=aG h
 obtain rfl:=lf h
 have z:=bF (dZ.ln a)<|cK (kc R45 c a (a.length:Int) c2 c3 c4 c5 c6 ([]:List aT) 0 hR45 bo5)<|en (aI (rP (sl aF o5))<|aI (up (n:=1) (aw bE o5))<|aI (rL [.cells [.func (.func 55) [] [.eptr (cS c2),.eptr (cS c3),.eptr (cS c4)],.func (.func 54) [] [.eptr (cS c5),.eptr (cS c6)]] []])<|(aI (aI (aI trivial (aI (bH (n:=1) (cy c2)) (aI (bH (n:=1) (cy c3)) (aI (bH (n:=1) (cy c4)) trivial)))) (aI (aI trivial (aI (bH (n:=1) (cy c5)) (aI (bH (n:=1) (cy c6)) trivial))) trivial)) trivial))
 exact C.evGp (A:=Ux) mixed (m:=1) (c:=UI) rfl call109 func109 rfl z<|by kernel_rfl
section
variable(scope:(List ae))(v:ah)(v2:ah)(v3:ah)(v4:ah)(v5:ah)(m:Int)(m2:ah)(m3:Int)(m4:waD)(m5:waE)(m6:waC)(m7:waB)(m8:waD)(m9:waE)(m10:waC)(m11:waB)(m12:(List ae))
def nW:aB:=aZ 96 [(3,.bptr 0 0),(4,.bptr 1 0),(5,.eptr ((cL aa) scope)),(6,.bptr 3 0),(7,.bptr 4 0),(8,.bptr 5 0)] [.cells [.func (.func 55) [] [.eptr (cS v),.eptr (cS v2),.eptr (cS v3)],.func (.func 54) [] [.eptr (cS v4),.eptr (cS v5)]] [],.cells [.int .i64 m,.str m2,.int .i64 m3,sl ac m4,sl ax m5,sl aF m6,sl aj m7] [(6,60)],.dead,.cells [.int .i64 0,.str ([]:ah),.int .i64 0,sl ac m8,sl ax m9,sl aF m10,sl aj m11] [(3,28),(4,85),(5,89),(6,60)],.cells [sl aa m12] [(0,137)],.cells [.func (.func 105) [] [.bptr 0 0,.eptr ((cL aa) scope),.bptr 4 0]] []] []
def cw(o:ah×(List ae)):aB:=aZ 96 [(3,.bptr 0 0),(4,.bptr 1 0),(5,.eptr ((cL aa) scope)),(6,.bptr 3 0),(7,.bptr 4 0),(8,.bptr 5 0)] [.cells [.func (.func 55) [] [.eptr (cS v),.eptr (cS v2),.eptr (cS v3)],.func (.func 54) [] [.eptr (cS v4),.eptr (cS v5)]] [],.cells [.int .i64 m,.str o.1,.int .i64 m3,sl ac m4,sl ax m5,sl aF m6,sl aj m7] [(6,60)],.dead,.cells [.int .i64 0,.str ([]:ah),.int .i64 0,sl ac m8,sl ax m9,sl aF m10,sl aj m11] [(3,28),(4,85),(5,89),(6,60)],.cells [sl aa o.2] [(0,137)],.cells [.func (.func 105) [] [.bptr 0 0,.eptr ((cL aa) scope),.bptr 4 0]] []] []
def ii:Option ((ah×(List ae))):=
 (nl (⟨m,m2,m3,m4,m5,m6,m7⟩:af)).bind fun r3=>
 if r3=true then
  (Ap scope m2).bind fun r6=>
  if r6.2=true then
   some (r6.1,m12)
  else
   (EH m2 v4 v5).bind fun r9=>
   some (r9,m12)
 else
  if(m==7)=true then
   (e9 m2 scope v v2 v3 v4 v5 m12).bind fun r12=>
   some (r12.1,r12.2)
  else
   some (m2,m12)
theorem nc{x:(ah×(List ae))}(h:ii scope v v2 v3 v4 v5 m m2 m3 m4 m5 m6 m7 m12=some x):aU Pg GE 0 (cA Xx 62) (EX .normal (cw scope v v2 v3 v4 v5 m m3 m4 m5 m6 m7 m8 m9 m10 m11 x)) (nW scope v v2 v3 v4 v5 m m2 m3 m4 m5 m6 m7 m8 m9 m10 m11 m12):=by
 obtain⟨r3,br3,h⟩:=aG h
 have p5:=fun{sc F} (r:PS sc F)=>sv (cz (⟨m,m2,m3,m4,m5,m6,m7⟩:af) [])<|cm (mC br3)<|r
 rcases aH h with⟨c4,h⟩|⟨c4,h⟩
 ·obtain⟨r6,br6,h⟩:=aG h
  have p8:=fun{sc F} (r:PS sc F)=>p5<|sg 0 c4<|sv (cT Lo (sl aa scope) [])<|ss<|cm (EK br6)<|r
  rcases aH h with⟨c7,h⟩|⟨c7,h⟩
  ·obtain rfl:=lf h
   exact aY OR (p8<|sg 0 c7<|ss<|eF .normal (cw scope v v2 v3 v4 v5 m m3 m4 m5 m6 m7 m8 m9 m10 m11 (r6.1,m12)))<|by kernel_rfl
  ·obtain⟨r9,br9,h⟩:=aG h
   obtain rfl:=lf h
   exact aY OR (p8<|sg 0 c7<|ss<|ss<|cm (Iz br9)<|ss<|eF .normal (cw scope v v2 v3 v4 v5 m m3 m4 m5 m6 m7 m8 m9 m10 m11 (r9,m12)))<|by kernel_rfl
 ·have p11:=fun{sc F} (r:PS sc F)=>p5<|sg 0 c4<|ss<|r
  rcases aH h with⟨c10,h⟩|⟨c10,h⟩
  ·obtain⟨r12,br12,h⟩:=aG h
   obtain rfl:=lf h
   exact aY OR (p11<|sg 0 c10<|ss<|ss<|si (.cg ⟨[0,4],[.str m2,.bptr 0 0,.eptr ((cL aa) scope),.bptr 1 0],[],[.cells [.func (.func 55) [] [.eptr (cS v),.eptr (cS v2),.eptr (cS v3)],.func (.func 54) [] [.eptr (cS v4),.eptr (cS v5)]] [],.cells [sl aa m12] [(0,137)]],[.cells [.func (.func 55) [] [.eptr (cS v),.eptr (cS v2),.eptr (cS v3)],.func (.func 54) [] [.eptr (cS v4),.eptr (cS v5)]] [],.cells [sl aa m12] [(0,137)]],[.cells [.func (.func 55) [] [.eptr (cS v),.eptr (cS v2),.eptr (cS v3)],.func (.func 54) [] [.eptr (cS v4),.eptr (cS v5)]] [],.cells [sl aa r12.2] [(0,137)]],[.cells [.func (.func 55) [] [.eptr (cS v),.eptr (cS v2),.eptr (cS v3)],.func (.func 54) [] [.eptr (cS v4),.eptr (cS v5)]] [],.cells [sl aa r12.2] [(0,137)]],.str r12.1,.str r12.1,[]⟩) (gA br12)<|sf (aI (xR [0,4] (.str m2) trivial) (aI (xB [0,4] 0 0 0 rfl) (aI (xR [0,4] (.eptr ((cL aa) scope)) (oz av scope)) (aI (xB [0,4] 1 4 0 rfl) trivial))))<|sf (aI (aI (rB (.cells [.func (.func 55) [] [.eptr (cS v),.eptr (cS v2),.eptr (cS v3)],.func (.func 54) [] [.eptr (cS v4),.eptr (cS v5)]] [])) (aI (rW []) (aI (xR [0,4] (.func (.func 55) [] [.eptr (cS v),.eptr (cS v2),.eptr (cS v3)]) (aI trivial (aI (cy v) (aI (cy v2) (aI (cy v3) trivial))))) (aI (xR [0,4] (.func (.func 54) [] [.eptr (cS v4),.eptr (cS v5)]) (aI trivial (aI (cy v4) (aI (cy v5) trivial)))) trivial)))) (aI (aI (rB (.cells [sl aa m12] [(0,137)])) (aI (rW [(0,137)]) (aI (xR [0,4] (sl aa m12) (aw av m12)) trivial))) trivial))<|sf (aI (aI (rW []) (aI (xR [0,4] (.func (.func 55) [] [.eptr (cS v),.eptr (cS v2),.eptr (cS v3)]) (aI trivial (aI (cy v) (aI (cy v2) (aI (cy v3) trivial))))) (aI (xR [0,4] (.func (.func 54) [] [.eptr (cS v4),.eptr (cS v5)]) (aI trivial (aI (cy v4) (aI (cy v5) trivial)))) trivial))) (aI (aI (rW [(0,137)]) (aI (xR [0,4] (sl aa r12.2) (aw av r12.2)) trivial)) trivial))<|sf (xR [0,4] (.str r12.1) trivial)<|ss<|eF .normal (cw scope v v2 v3 v4 v5 m m3 m4 m5 m6 m7 m8 m9 m10 m11 (r12.1,r12.2)))<|by kernel_rfl
  ·obtain rfl:=lf h
   exact aY OR (p11<|sg 0 c10<|eF .normal (cw scope v v2 v3 v4 v5 m m3 m4 m5 m6 m7 m8 m9 m10 m11 (m2,m12)))<|by kernel_rfl
end
section
variable(scope:(List ae))(kids:waD)(i:Int)(t59:waD)(t60:Int)(v:ah)(v2:ah)(v3:ah)(v4:ah)(v5:ah)(m:Int)(m2:ah)(m3:Int)(m4:waE)(m5:waC)(m6:waB)(m7:waD)(m8:waE)(m9:waC)(m10:waB)(m11:(List ae))(m12:Int)(m13:ah)(m14:Int)(m15:waD)(m16:waE)(m17:waC)(m18:waB)
def nX:aB:=aZ 96 [(3,.bptr 0 0),(4,.bptr 1 0),(5,.eptr ((cL aa) scope)),(6,.bptr 3 0),(7,.bptr 4 0),(12,sl ac kids),(13,.int .i64 i),(14,.bptr 7 0),(59,sl ac t59),(60,.int .i64 t60),(61,.int .i64 i)] [.cells [.func (.func 55) [] [.eptr (cS v),.eptr (cS v2),.eptr (cS v3)],.func (.func 54) [] [.eptr (cS v4),.eptr (cS v5)]] [],.cells [.int .i64 m,.str m2,.int .i64 m3,sl ac t59,sl ax m4,sl aF m5,sl aj m6] [(4,85),(6,60)],.dead,.cells [.int .i64 0,.str ([]:ah),.int .i64 0,sl ac m7,sl ax m8,sl aF m9,sl aj m10] [(3,28),(4,85),(5,89),(6,60)],.cells [sl aa m11] [(0,137)],.cells [.func (.func 105) [] [.bptr 0 0,.eptr ((cL aa) scope),.bptr 4 0]] [],.dead,.cells [.int .i64 m12,.str m13,.int .i64 m14,sl ac m15,sl ax m16,sl aF m17,sl aj m18] []] [((12,0),28)]
def eD(o:Bool):aB:=aZ 96 [(3,.bptr 0 0),(4,.bptr 1 0),(5,.eptr ((cL aa) scope)),(6,.bptr 3 0),(7,.bptr 4 0),(12,sl ac kids),(14,.bptr 7 0),(59,sl ac t59),(60,.int .i64 t60),(61,.int .i64 i),(72,.bool o)] [.cells [.func (.func 55) [] [.eptr (cS v),.eptr (cS v2),.eptr (cS v3)],.func (.func 54) [] [.eptr (cS v4),.eptr (cS v5)]] [],.cells [.int .i64 m,.str m2,.int .i64 m3,sl ac t59,sl ax m4,sl aF m5,sl aj m6] [(4,85),(6,60)],.dead,.cells [.int .i64 0,.str ([]:ah),.int .i64 0,sl ac m7,sl ax m8,sl aF m9,sl aj m10] [(3,28),(4,85),(5,89),(6,60)],.cells [sl aa m11] [(0,137)],.cells [.func (.func 105) [] [.bptr 0 0,.eptr ((cL aa) scope),.bptr 4 0]] [],.dead,.cells [.int .i64 m12,.str m13,.int .i64 m14,sl ac m15,sl ax m16,sl aF m17,sl aj m18] []] [((12,0),28)]
def ij:Option Bool:=
 if(m==7)=true then
  some (i==0)
 else
  some false
theorem nf{x:Bool}(h:ij i m=some x):aU Pg GE 0 (cA Xx 523766) (EX .normal (eD scope kids i t59 t60 v v2 v3 v4 v5 m m2 m3 m4 m5 m6 m7 m8 m9 m10 m11 m12 m13 m14 m15 m16 m17 m18 x)) (nX scope kids i t59 t60 v v2 v3 v4 v5 m m2 m3 m4 m5 m6 m7 m8 m9 m10 m11 m12 m13 m14 m15 m16 m17 m18):=by
 rcases aH h with⟨c17,h⟩|⟨c17,h⟩
 ·obtain rfl:=lf h
  exact aY OR (ss<|sg 4 c17<|eF .normal (eD scope kids i t59 t60 v v2 v3 v4 v5 m m2 m3 m4 m5 m6 m7 m8 m9 m10 m11 m12 m13 m14 m15 m16 m17 m18 (i==0)))<|by kernel_rfl
 ·obtain rfl:=lf h
  exact aY OR (ss<|sg 4 c17<|eF .normal (eD scope kids i t59 t60 v v2 v3 v4 v5 m m2 m3 m4 m5 m6 m7 m8 m9 m10 m11 m12 m13 m14 m15 m16 m17 m18 false))<|by kernel_rfl
end
section
variable(R45:bp)(scope:(List ae))(t59:waD)(t60:Int)(v:ah)(v2:ah)(v3:ah)(v4:ah)(v5:ah)(m:Int)(m2:ah)(m3:Int)(m4:waE)(m5:waC)(m6:waB)(m7:waD)(m8:waE)(m9:waC)(m10:waB)(m11:(List ae))(kids:waD)(t61:Int)
def bU:aB:=aZ 96 [(3,.bptr 0 0),(4,.bptr 1 0),(5,.eptr ((cL aa) scope)),(6,.bptr 3 0),(7,.bptr 4 0),(12,sl ac kids),(59,sl ac t59),(60,.int .i64 t60),(61,.int .i64 t61)] [.cells [.func (.func 55) [] [.eptr (cS v),.eptr (cS v2),.eptr (cS v3)],.func (.func 54) [] [.eptr (cS v4),.eptr (cS v5)]] [],.cells [.int .i64 m,.str m2,.int .i64 m3,sl ac t59,sl ax m4,sl aF m5,sl aj m6] [(4,85),(6,60)],.dead,.cells [.int .i64 0,.str ([]:ah),.int .i64 0,sl ac m7,sl ax m8,sl aF m9,sl aj m10] [(3,28),(4,85),(5,89),(6,60)],.cells [sl aa m11] [(0,137)],.cells [.func (.func 105) [] [.bptr 0 0,.eptr ((cL aa) scope),.bptr 4 0]] [],.dead] [((12,0),28)]
def eE(o:waD):aB:=aZ 96 [(3,.bptr 0 0),(4,.bptr 1 0),(5,.eptr ((cL aa) scope)),(6,.bptr 3 0),(12,sl ac o)] [.cells [.func (.func 55) [] [.eptr (cS v),.eptr (cS v2),.eptr (cS v3)],.func (.func 54) [] [.eptr (cS v4),.eptr (cS v5)]] [],.cells [.int .i64 m,.str m2,.int .i64 m3,sl ac t59,sl ax m4,sl aF m5,sl aj m6] [(4,85),(6,60)],.dead,.cells [.int .i64 0,.str ([]:ah),.int .i64 0,sl ac m7,sl ax m8,sl aF m9,sl aj m10] [(3,28),(4,85),(5,89),(6,60)],.cells [sl aa m11] [(0,137)],.cells [.func (.func 105) [] [.bptr 0 0,.eptr ((cL aa) scope),.bptr 4 0]] [],.dead] [((12,0),28)]
def gD:Option ((waD×Int)⊕(waD)):=
 if(decide (t61<t60))=true then
  (fy t59 t61).bind fun x16=>
  (ij t61 m).bind fun o18=>
  if o18=true then
   (R45 v v2 v3 v4 v5 x16 scope).bind fun r21=>
   (app kids ([r21]:List af)).bind fun l22=>
   some (.inl (l22,bN (t61+1)))
  else
   (R45 v v2 v3 v4 v5 x16 m11).bind fun r23=>
   (app kids ([r23]:List af)).bind fun l24=>
   some (.inl (l24,bN (t61+1)))
 else
  some (.inr kids)
def ik:Option waD:=loop (fun(zz:waD×Int)=>gD R45 scope t59 t60 v v2 v3 v4 v5 m m11 zz.1 zz.2) (kids,t61)
theorem mB(hR45:bK R45){y:(waD×Int)⊕(waD)}(h:gD R45 scope t59 t60 v v2 v3 v4 v5 m m11 kids t61=some y):aU Pg GE 0 (cA Xx 8183) (LQ (fun(zz:waD×Int)=>bU scope t59 t60 v v2 v3 v4 v5 m m2 m3 m4 m5 m6 m7 m8 m9 m10 m11 zz.1 zz.2) (fun _=>.exit 1) (eE scope t59 v v2 v3 v4 v5 m m2 m3 m4 m5 m6 m7 m8 m9 m10 m11) y) (bU scope t59 t60 v v2 v3 v4 v5 m m2 m3 m4 m5 m6 m7 m8 m9 m10 m11 kids t61):=by
 rcases aH h with⟨c15,h⟩|⟨c15,h⟩
 ·obtain⟨x16,bx16,h⟩:=aG h
  obtain⟨o18,bo18,h⟩:=aG h
  have p20:=fun{sc F} (r:PS sc F)=>sg 0 c15<|sv (eP.ia (k:=.i64) bx16)<|sv (aX x16)<|sx BJ<|sx (kl x16)<|nN 0<|cK (nf scope kids t61 t59 t60 v v2 v3 v4 v5 m m2 m3 m4 m5 m6 m7 m8 m9 m10 m11 x16.Op x16.Name x16.N x16.Kids x16.Params x16.Alts x16.Types bo18)<|r
  rcases aH h with⟨c19,h⟩|⟨c19,h⟩
  ·obtain⟨r21,br21,h⟩:=aG h
   obtain⟨l22,bl22,h⟩:=aG h
   obtain rfl:=lf h
   have z:=p20<|sg 0 c19<|sv (show bM Pg 95 [.func (.func 55) [] [.eptr (cS v),.eptr (cS v2),.eptr (cS v3)],.func (.func 54) [] [.eptr (cS v4),.eptr (cS v5)]]=some (.agg [.func (.func 55) [] [.eptr (cS v),.eptr (cS v2),.eptr (cS v3)],.func (.func 54) [] [.eptr (cS v4),.eptr (cS v5)]]) by kernel_rfl)<|sv (cz x16 [])<|sv (cT Lo (sl aa scope) [])<|cm (hR45 _ _ _ _ _ _ _ _ br21)<|sv (eP.mk' (v:=rJ) lI ([r21]:List af) 1 (by kernel_rfl))<|sv (eP.ap bl22)<|vY 0 .normal (bU scope t59 t60 v v2 v3 v4 v5 m m2 m3 m4 m5 m6 m7 m8 m9 m10 m11 l22 (bN (t61+1))) rfl (dI (aI (bR rfl) (aI (bR rfl) (aI (bH (oz av scope)) (aI (bR rfl) (aI (bR rfl) (aI (up (aw al l22)) (aI (up (aw al t59)) (aI trivial (aI trivial trivial)))))))))) (aI (aI (aI trivial (aI (bH (cy v)) (aI (bH (cy v2)) (aI (bH (cy v3)) trivial)))) (aI (aI trivial (aI (bH (cy v4)) (aI (bH (cy v5)) trivial))) trivial)) (aI (aI trivial (aI trivial (aI trivial (aI (up (aw al t59)) (aI (up (aw bj m4)) (aI (up (aw bE m5)) (aI (up (aw aO m6)) trivial))))))) (aI trivial (aI (aI trivial (aI trivial (aI trivial (aI (up (aw al m7)) (aI (up (aw bj m8)) (aI (up (aw bE m9)) (aI (up (aw aO m10)) trivial))))))) (aI (aI (up (aw av m11)) trivial) (aI (aI (aI trivial (aI (bR rfl) (aI (bH (oz av scope)) (aI (bR rfl) trivial)))) trivial) (aI trivial trivial)))))))
   exact eA (A:=OR) mixed z<|by kernel_rfl
  ·obtain⟨r23,br23,h⟩:=aG h
   obtain⟨l24,bl24,h⟩:=aG h
   obtain rfl:=lf h
   have z:=p20<|sg 0 c19<|sv (show bM Pg 95 [.func (.func 55) [] [.eptr (cS v),.eptr (cS v2),.eptr (cS v3)],.func (.func 54) [] [.eptr (cS v4),.eptr (cS v5)]]=some (.agg [.func (.func 55) [] [.eptr (cS v),.eptr (cS v2),.eptr (cS v3)],.func (.func 54) [] [.eptr (cS v4),.eptr (cS v5)]]) by kernel_rfl)<|sv (cz x16 [])<|ss<|cm (hR45 _ _ _ _ _ _ _ _ br23)<|sv (eP.mk' (v:=rJ) lI ([r23]:List af) 1 (by kernel_rfl))<|sv (eP.ap bl24)<|vY 0 .normal (bU scope t59 t60 v v2 v3 v4 v5 m m2 m3 m4 m5 m6 m7 m8 m9 m10 m11 l24 (bN (t61+1))) rfl (dI (aI (bR rfl) (aI (bR rfl) (aI (bH (oz av scope)) (aI (bR rfl) (aI (bR rfl) (aI (up (aw al l24)) (aI (up (aw al t59)) (aI trivial (aI trivial trivial)))))))))) (aI (aI (aI trivial (aI (bH (cy v)) (aI (bH (cy v2)) (aI (bH (cy v3)) trivial)))) (aI (aI trivial (aI (bH (cy v4)) (aI (bH (cy v5)) trivial))) trivial)) (aI (aI trivial (aI trivial (aI trivial (aI (up (aw al t59)) (aI (up (aw bj m4)) (aI (up (aw bE m5)) (aI (up (aw aO m6)) trivial))))))) (aI trivial (aI (aI trivial (aI trivial (aI trivial (aI (up (aw al m7)) (aI (up (aw bj m8)) (aI (up (aw bE m9)) (aI (up (aw aO m10)) trivial))))))) (aI (aI (up (aw av m11)) trivial) (aI (aI (aI trivial (aI (bR rfl) (aI (bH (oz av scope)) (aI (bR rfl) trivial)))) trivial) (aI trivial trivial)))))))
   exact eA (A:=OR) mixed z<|by kernel_rfl
 ·obtain rfl:=lf h
  have z:=sg 0 c15<|eF (.exit 1) (eE scope t59 v v2 v3 v4 v5 m m2 m3 m4 m5 m6 m7 m8 m9 m10 m11 kids)
  exact gu OR (by intro hx;cases hx) z<|by kernel_rfl
theorem ng(hR45:bK R45){x:waD}(h:ik R45 scope t59 t60 v v2 v3 v4 v5 m m11 kids t61=some x):aU Pg GE 0 (.loop (cA Xx 8183)) (EX (.exit 1) (eE scope t59 v v2 v3 v4 v5 m m2 m3 m4 m5 m6 m7 m8 m9 m10 m11 x)) (bU scope t59 t60 v v2 v3 v4 v5 m m2 m3 m4 m5 m6 m7 m8 m9 m10 m11 kids t61):=
 aU.loop (S:=fun(zz:waD×Int)=>bU scope t59 t60 v v2 v3 v4 v5 m m2 m3 m4 m5 m6 m7 m8 m9 m10 m11 zz.1 zz.2) (ex:=(fun _=>.exit 1)) (s:=(kids,t61)) h fun zz y hy=>mB R45 scope t59 t60 v v2 v3 v4 v5 m m2 m3 m4 m5 m6 m7 m8 m9 m10 m11 zz.1 zz.2 hR45 hy
end
def iK(R45:bp)(c:ah)(c2:ah)(c3:ah)(c4:ah)(c5:ah)(e:af)(scope:(List ae)):Option af:=
 (eB e.Types).bind fun r1=>
 (wI scope).bind fun r2=>
 (ii scope c c2 c3 c4 c5 e.Op e.Name e.N e.Kids e.Params e.Alts r1 r2).bind fun o13=>
 (dY e.Params (e.Op==6) scope c c2 c3 c4 c5 o13.2).bind fun r14=>
 (ik R45 scope e.Kids (e.Kids.length:Int) c c2 c3 c4 c5 e.Op r14.2 ([]:List af) 0).bind fun o25=>
 (f9 R45 e.Alts scope c c2 c3 c4 c5).bind fun r26=>
 some (⟨e.Op,o13.1,e.N,o25,r14.1,r26,r1⟩:af)
theorem oD(R45:bp)(hR45:bK R45){c:ah}{c2:ah}{c3:ah}{c4:ah}{c5:ah}{e:af}{scope:(List ae)}{r:af}(h:iK R45 c c2 c3 c4 c5 e scope=some r):CC Pg GE 56 [.agg [.func (.func 55) [] [.eptr (cS c),.eptr (cS c2),.eptr (cS c3)],.func (.func 54) [] [.eptr (cS c4),.eptr (cS c5)]],.agg (ac e),sl aa scope] (.agg (ac r)) [(3,28),(4,85),(5,89),(6,60)]:=by
 obtain⟨r1,br1,h⟩:=aG h
 obtain⟨r2,br2,h⟩:=aG h
 obtain⟨o13,bo13,h⟩:=aG h
 obtain⟨r14,br14,h⟩:=aG h
 obtain⟨o25,bo25,h⟩:=aG h
 obtain⟨r26,br26,h⟩:=aG h
 obtain rfl:=lf h
 have z:=sx (qbk [.func (.func 55) [] [.eptr (cS c),.eptr (cS c2),.eptr (cS c3)],.func (.func 54) [] [.eptr (cS c4),.eptr (cS c5)]])<|sx (kl e)<|se (qdh aa scope)<|sx BJ<|ss<|cm (g6 br1)<|sv (cT Lo (sl aa scope) [])<|cm (z7 br2)<|sx qbo<|sx qbn<|ss<|nN 0<|cK (nc scope c c2 c3 c4 c5 e.Op e.Name e.N e.Kids e.Params e.Alts r1 ([]:List af) ([]:List aA) ([]:List aT) ([]:List ak) r2 bo13)<|ss<|sx qdi<|ss<|qcT 6 [[.bool (e.Op==6)]] [3,4,5,6,7,8,11] [] (qcA (m:=0) (b:=6) rfl [.bool (e.Op==6)] rfl) (qcB 6 (l:=[.bool (e.Op==6)]) (aI trivial trivial)) (qcC (qcO [.bool (e.Op==6)]))<|sf (Lk 6 (oz av scope))<|sf (Lk 6 (cy c))<|sf (Lk 6 (cy c2))<|sf (Lk 6 (cy c3))<|sf (Lk 6 (cy c4))<|sf (Lk 6 (cy c5))<|sf (Nd 6 (p:=sl ac e.Kids) (aw al e.Kids))<|sf (Nd 6 (p:=sl ax e.Params) (aw bj e.Params))<|sf (Nd 6 (p:=sl aF e.Alts) (aw bE e.Alts))<|sf (Nd 6 (p:=sl aj r1) (aw aO r1))<|sf (Nd 6 (p:=sl ac ([]:List af)) (aw al ([]:List af)))<|sf (Nd 6 (p:=sl ax ([]:List aA)) (aw bj ([]:List aA)))<|sf (Nd 6 (p:=sl aF ([]:List aT)) (aw bE ([]:List aT)))<|sf (Nd 6 (p:=sl aj ([]:List ak)) (aw aO ([]:List ak)))<|sf (Nd 6 (p:=sl aa o13.2) (aw av o13.2))<|sf (Lk 6 (oz av scope))<|ss<|si (.cg ⟨[5,0,4],[sl ax e.Params,.func (.func 108) [] [.eptr (cB (e.Op==6)),.bptr 0 0]],[],[.cells [.func (.func 105) [] [.bptr 0 0,.eptr ((cL aa) scope),.bptr 4 0]] [],.cells [.func (.func 55) [] [.eptr (cS c),.eptr (cS c2),.eptr (cS c3)],.func (.func 54) [] [.eptr (cS c4),.eptr (cS c5)]] [],.cells [sl aa o13.2] [(0,137)]],[.cells [.func (.func 105) [] [.bptr 1 0,.eptr ((cL aa) scope),.bptr 2 0]] [],.cells [.func (.func 55) [] [.eptr (cS c),.eptr (cS c2),.eptr (cS c3)],.func (.func 54) [] [.eptr (cS c4),.eptr (cS c5)]] [],.cells [sl aa o13.2] [(0,137)]],[.cells [.func (.func 105) [] [.bptr 0 0,.eptr ((cL aa) scope),.bptr 4 0]] [],.cells [.func (.func 55) [] [.eptr (cS c),.eptr (cS c2),.eptr (cS c3)],.func (.func 54) [] [.eptr (cS c4),.eptr (cS c5)]] [],.cells [sl aa r14.2] [(0,137)]],[.cells [.func (.func 105) [] [.bptr 1 0,.eptr ((cL aa) scope),.bptr 2 0]] [],.cells [.func (.func 55) [] [.eptr (cS c),.eptr (cS c2),.eptr (cS c3)],.func (.func 54) [] [.eptr (cS c4),.eptr (cS c5)]] [],.cells [sl aa r14.2] [(0,137)]],sl ax r14.1,sl ax r14.1,[(0,85)]⟩) (gk br14)<|sf (aI (xR [5,0,4] (sl ax e.Params) (aw bj e.Params)) (aI (xF [5,0,4] (.func 108) [] [.eptr (cB (e.Op==6)),.bptr 5 0] [] [.eptr (cB (e.Op==6)),.bptr 0 0] trivial (aI (xR [5,0,4] (.eptr (cB (e.Op==6))) (ZY (e.Op==6))) (aI (xB [5,0,4] 0 5 0 rfl) trivial))) trivial))<|sf (aI (aI (rB (.cells [.func (.func 105) [] [.bptr 0 0,.eptr ((cL aa) scope),.bptr 4 0]] [])) (aI (rW []) (aI (xF [5,0,4] (.func 105) [] [.bptr 0 0,.eptr ((cL aa) scope),.bptr 4 0] [] [.bptr 1 0,.eptr ((cL aa) scope),.bptr 2 0] trivial (aI (xB [5,0,4] 1 0 0 rfl) (aI (xR [5,0,4] (.eptr ((cL aa) scope)) (oz av scope)) (aI (xB [5,0,4] 2 4 0 rfl) trivial)))) trivial))) (aI (aI (rB (.cells [.func (.func 55) [] [.eptr (cS c),.eptr (cS c2),.eptr (cS c3)],.func (.func 54) [] [.eptr (cS c4),.eptr (cS c5)]] [])) (aI (rW []) (aI (xR [5,0,4] (.func (.func 55) [] [.eptr (cS c),.eptr (cS c2),.eptr (cS c3)]) (aI trivial (aI (cy c) (aI (cy c2) (aI (cy c3) trivial))))) (aI (xR [5,0,4] (.func (.func 54) [] [.eptr (cS c4),.eptr (cS c5)]) (aI trivial (aI (cy c4) (aI (cy c5) trivial)))) trivial)))) (aI (aI (rB (.cells [sl aa o13.2] [(0,137)])) (aI (rW [(0,137)]) (aI (xR [5,0,4] (sl aa o13.2) (aw av o13.2)) trivial))) trivial)))<|sf (aI (aI (rW []) (aI (xF [5,0,4] (.func 105) [] [.bptr 0 0,.eptr ((cL aa) scope),.bptr 4 0] [] [.bptr 1 0,.eptr ((cL aa) scope),.bptr 2 0] trivial (aI (xB [5,0,4] 1 0 0 rfl) (aI (xR [5,0,4] (.eptr ((cL aa) scope)) (oz av scope)) (aI (xB [5,0,4] 2 4 0 rfl) trivial)))) trivial)) (aI (aI (rW []) (aI (xR [5,0,4] (.func (.func 55) [] [.eptr (cS c),.eptr (cS c2),.eptr (cS c3)]) (aI trivial (aI (cy c) (aI (cy c2) (aI (cy c3) trivial))))) (aI (xR [5,0,4] (.func (.func 54) [] [.eptr (cS c4),.eptr (cS c5)]) (aI trivial (aI (cy c4) (aI (cy c5) trivial)))) trivial))) (aI (aI (rW [(0,137)]) (aI (xR [5,0,4] (sl aa r14.2) (aw av r14.2)) trivial)) trivial)))<|sf (xR [5,0,4] (sl ax r14.1) (aw bj r14.1))<|ss<|bF (eP.ln e.Kids)<|cK (ng R45 scope e.Kids (e.Kids.length:Int) c c2 c3 c4 c5 e.Op o13.1 e.N r14.1 e.Alts r1 ([]:List af) ([]:List aA) ([]:List aT) ([]:List ak) r14.2 ([]:List af) 0 hR45 bo25)<|ss<|si (.cg ⟨[0],[sl aF e.Alts,.func (.func 110) [] [.eptr ((cL aa) scope),.bptr 0 0]],[],[.cells [.func (.func 55) [] [.eptr (cS c),.eptr (cS c2),.eptr (cS c3)],.func (.func 54) [] [.eptr (cS c4),.eptr (cS c5)]] []],[.cells [.func (.func 55) [] [.eptr (cS c),.eptr (cS c2),.eptr (cS c3)],.func (.func 54) [] [.eptr (cS c4),.eptr (cS c5)]] []],[.cells [.func (.func 55) [] [.eptr (cS c),.eptr (cS c2),.eptr (cS c3)],.func (.func 54) [] [.eptr (cS c4),.eptr (cS c5)]] []],[.cells [.func (.func 55) [] [.eptr (cS c),.eptr (cS c2),.eptr (cS c3)],.func (.func 54) [] [.eptr (cS c4),.eptr (cS c5)]] []],sl aF r26,sl aF r26,[(0,89)]⟩) (lj R45 hR45 br26)<|sf (aI (xR [0] (sl aF e.Alts) (aw bE e.Alts)) (aI (xF [0] (.func 110) [] [.eptr ((cL aa) scope),.bptr 0 0] [] [.eptr ((cL aa) scope),.bptr 0 0] trivial (aI (xR [0] (.eptr ((cL aa) scope)) (oz av scope)) (aI (xB [0] 0 0 0 rfl) trivial))) trivial))<|sf (aI (aI (rB (.cells [.func (.func 55) [] [.eptr (cS c),.eptr (cS c2),.eptr (cS c3)],.func (.func 54) [] [.eptr (cS c4),.eptr (cS c5)]] [])) (aI (rW []) (aI (xR [0] (.func (.func 55) [] [.eptr (cS c),.eptr (cS c2),.eptr (cS c3)]) (aI trivial (aI (cy c) (aI (cy c2) (aI (cy c3) trivial))))) (aI (xR [0] (.func (.func 54) [] [.eptr (cS c4),.eptr (cS c5)]) (aI trivial (aI (cy c4) (aI (cy c5) trivial)))) trivial)))) trivial)<|sf (aI (aI (rW []) (aI (xR [0] (.func (.func 55) [] [.eptr (cS c),.eptr (cS c2),.eptr (cS c3)]) (aI trivial (aI (cy c) (aI (cy c2) (aI (cy c3) trivial))))) (aI (xR [0] (.func (.func 54) [] [.eptr (cS c4),.eptr (cS c5)]) (aI trivial (aI (cy c4) (aI (cy c5) trivial)))) trivial))) trivial)<|sf (xR [0] (sl aF r26) (aw bE r26))<|sz (cz (⟨e.Op,o13.1,e.N,o25,r14.1,r26,r1⟩:af) [])<|sy (cc (⟨e.Op,o13.1,e.N,o25,r14.1,r26,r1⟩:af))<|en (aI (uN (⟨e.Op,o13.1,e.N,o25,r14.1,r26,r1⟩:af))<|aI (al (⟨e.Op,o13.1,e.N,o25,r14.1,r26,r1⟩:af))<|rT)
 exact bI OR call56 func56 (c:=Xx) rfl (aI (aI (aI trivial (aI (cy c) (aI (cy c2) (aI (cy c3) trivial)))) (aI (aI trivial (aI (cy c4) (aI (cy c5) trivial))) trivial)) (aI (al e) (aI (aw av scope) trivial))) z<|by kernel_rfl
def iL:((ah×ah×ah×ah×ah×af×(List ae))->Option af)->(ah×ah×ah×ah×ah×af×(List ae))->Option af:=fun(rec:(ah×ah×ah×ah×ah×af×(List ae))->Option af) (x:ah×ah×ah×ah×ah×af×(List ae))=>iK (fun c c2 c3 c4 c5 e scope=>rec (c,c2,c3,c4,c5,e,scope)) x.1 x.2.1 x.2.2.1 x.2.2.2.1 x.2.2.2.2.1 x.2.2.2.2.2.1 x.2.2.2.2.2.2
def jn(c:ah)(c2:ah)(c3:ah)(c4:ah)(c5:ah)(e:af)(scope:(List ae)):Option af:=sS iL (c,c2,c3,c4,c5,e,scope)
theorem pF{c:ah}{c2:ah}{c3:ah}{c4:ah}{c5:ah}{e:af}{scope:(List ae)}{r:af}(h:jn c c2 c3 c4 c5 e scope=some r):CC Pg GE 56 [.agg [.func (.func 55) [] [.eptr (cS c),.eptr (cS c2),.eptr (cS c3)],.func (.func 54) [] [.eptr (cS c4),.eptr (cS c5)]],.agg (ac e),sl aa scope] (.agg (ac r)) [(3,28),(4,85),(5,89),(6,60)]:=
 eg (F:=iL) (M:=fun(x:ah×ah×ah×ah×ah×af×(List ae)) (r:af)=>CC Pg GE 56 [.agg [.func (.func 55) [] [.eptr (cS x.1),.eptr (cS x.2.1),.eptr (cS x.2.2.1)],.func (.func 54) [] [.eptr (cS x.2.2.2.1),.eptr (cS x.2.2.2.2.1)]],.agg (ac x.2.2.2.2.2.1),sl aa x.2.2.2.2.2.2] (.agg (ac r)) [(3,28),(4,85),(5,89),(6,60)]) (fun rec hrec x r h=>oD _ (fun c c2 c3 c4 c5 e scope r h=>hrec (c,c2,c3,c4,c5,e,scope) r h) h) h
noncomputable def qdC:Code:=f13.body.getD .skip
def qdm:List Nat:=[]
def Iy(e:af)(name:ah)(a:ah):Option af:=
 (NC e).bind fun r1=>
 (app r1 ([a]:List ah)).bind fun l2=>
 (El l2 a).bind fun r3=>
 (jn a name r3 name a e ([]:List ae)).bind fun r4=>
 some r4
theorem Lr{e:af}{name:ah}{a:ah}{r:af}(h:Iy e name a=some r):CC Pg GE 13 [.agg (ac e),.str name,.str a] (.agg (ac r)) [(3,28),(4,85),(5,89),(6,60)]:=by
 obtain⟨r1,br1,h⟩:=aG h
 obtain⟨l2,bl2,h⟩:=aG h
 obtain⟨r3,br3,h⟩:=aG h
 obtain⟨r4,br4,h⟩:=aG h
 obtain rfl:=lf h
 have z:=se (bX e)<|se (OF name)<|se (OF a)<|sx BJ<|OO [0,1,0,4,15,0,63,0,255]<|sv (aX e)<|cm (OP br1)<|sv (cT GS (.str a) [])<|sv (cO.mk' (v:=PVal.str) OF ([a]:List ah) 1 (by kernel_rfl))<|sv (cO.ap bl2)<|sv (cT GS (.str a) [])<|cm (Eo br3)<|qd1 (rfl:cQ (.str r3)=some [.str r3])<|qcT 4 [[.str r3]] [3,4,5,6,7] [] (qcA (m:=0) (b:=4) rfl [.str r3] rfl) (qcB 4 (l:=[.str r3]) (aI trivial trivial)) (qcC (qcO [.str r3]))<|sf (Lk 4 (al e))<|sf (Lk 4 (cy name))<|sf (Lk 4 (cy a))<|sf (Nd 4 (p:=sl ac ([]:List af)) (aw al ([]:List af)))<|sf (Nd 4 (p:=sl ax ([]:List aA)) (aw bj ([]:List aA)))<|sf (Nd 4 (p:=sl aF ([]:List aT)) (aw bE ([]:List aT)))<|sf (Nd 4 (p:=sl aj ([]:List ak)) (aw aO ([]:List ak)))<|sv (show cR Pg 95 [(1,.func (.func 54) [] [.eptr (cS name),.eptr (cS a)]),(0,.func (.func 55) [] [.eptr (cS a),.eptr (cS name),.eptr (cS r3)])]=some (.agg [.func (.func 55) [] [.eptr (cS a),.eptr (cS name),.eptr (cS r3)],.func (.func 54) [] [.eptr (cS name),.eptr (cS a)]]) by kernel_rfl)<|sx qbp<|sx (qbk [.func (.func 55) [] [.eptr (cS a),.eptr (cS name),.eptr (cS r3)],.func (.func 54) [] [.eptr (cS name),.eptr (cS a)]])<|sv (show bM Pg 95 [.func (.func 55) [] [.eptr (cS a),.eptr (cS name),.eptr (cS r3)],.func (.func 54) [] [.eptr (cS name),.eptr (cS a)]]=some (.agg [.func (.func 55) [] [.eptr (cS a),.eptr (cS name),.eptr (cS r3)],.func (.func 54) [] [.eptr (cS name),.eptr (cS a)]]) by kernel_rfl)<|sv (aX e)<|cm (pF br4)<|sy (cc r4)<|en (aI (uN r4)<|aI (al r4)<|rT)
 exact bI qdm call13 func13 (c:=qdC) rfl (aI (al e) (aI trivial (aI trivial trivial))) z<|by kernel_rfl
abbrev gr:=(af->Int->Option (Bool×Int))
abbrev gp(R:gr):Prop:=∀(e:af) (k0:Int) (r:Bool×Int),R e k0=some r->C Pg GE 64 [.agg (ac e),.func (.func 68) [] [.bptr 0 0]] [] [.cells [.int .i64 k0] []] (.bool r.1) [] [.cells [.int .i64 r.2] []]
noncomputable def qdN:Code:=f68.body.getD .skip
def qdx:List Nat:=[]
def jR(a:af)(k0:Int):Option (Bool×Int):=
 some (true,bN (k0+1))
theorem Ix{a:af}{k0:Int}{r:Bool×Int}(h:jR a k0=some r):C Pg GE 68 [.agg (ac a),.bptr 0 0] [] [.cells [.int .i64 k0] []] (.bool r.1) [] [.cells [.int .i64 r.2] []]:=by
 obtain rfl:=lf h
 have z:=se (bX a)<|ss<|ss<|en (aI (rP (.bool true))<|aI trivial<|aI (rL [.cells [.int .i64 (bN (k0+1))] []])<|(aI (aI trivial trivial) trivial))
 exact C.evGp (A:=qdx) mixed (m:=1) (c:=qdN) rfl call68 func68 rfl z<|by kernel_rfl
end Go.Proofs.YtkdahfeiedaahaaGreatDoor
