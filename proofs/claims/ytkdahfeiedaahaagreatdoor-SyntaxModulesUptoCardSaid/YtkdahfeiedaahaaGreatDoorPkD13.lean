/- PROVED: a part of the proof. Conditions: none. -/
import Derived.Test.YtkdahfeiedaahaaGreatDoorPkD12
noncomputable section
namespace Go.Proofs.YtkdahfeiedaahaaGreatDoor
open Go Go.Proofs.Tryz
set_option linter.unusedVariables false
set_option maxRecDepth 100000
noncomputable def Yn:Code:=f99.body.getD .skip
def V2:List Nat:=[]
theorem Z99:ZF V2 99 f99 Yn:=⟨call99,func99,rfl⟩
section
variable(v:af)(m2:(List (ae×Bool)))
def xn:aB:=aS 38 [(1,.bptr 0 0),(2,.eptr (ac v))] [.cells [.func (.func 81) [.bptr 1 0] []] [],.cells [.mapr 2] [],.map (aL PVal.bool m2),.dead] []
def jC(o:Bool):aB:=aS 38 [(1,.bptr 0 0),(2,.eptr (ac v)),(12,.bool o)] [.cells [.func (.func 81) [.bptr 1 0] []] [],.cells [.mapr 2] [],.map (aL PVal.bool m2),.dead] []
def pW:Option Bool:=
 (fj v).bind fun r1=>
 if r1=true then
  some true
 else
  some (v.Op==7)
theorem wV{x:Bool}(h:pW v=some x):aW Pg GE 3 (cA Yn 12) (EX .normal (jC v m2 x)) (xn v m2):=by
 obtain⟨r1,br1,h⟩:=ck h
 have p3:=fun{sc F} (r:PS sc F)=>sv (bM v)<|cD (jj br1)<|r
 rcases aO h with⟨c2,h⟩|⟨c2,h⟩
 ·obtain rfl:=lf h
  exact bv V2 (p3<|sg 3 c2<|eF .normal (jC v m2 true))<|by kernel_rfl
 ·obtain rfl:=lf h
  exact bv V2 (p3<|sg 3 c2<|sv (cK v)<|sv (cM v)<|eF .normal (jC v m2 (v.Op==7)))<|by kernel_rfl
end
section
variable(v:af)(m2:(List (ae×Bool)))
def xm:aB:=aS 38 [(1,.bptr 0 0),(2,.eptr (ac v))] [.cells [.func (.func 81) [.bptr 1 0] []] [],.cells [.mapr 2] [],.map (aL PVal.bool m2),.dead] []
def jB(o:(List (ae×Bool))):aB:=aS 38 [(1,.bptr 0 0),(2,.eptr (ac v))] [.cells [.func (.func 81) [.bptr 1 0] []] [],.cells [.mapr 2] [],.map (aL PVal.bool o),.dead] []
def pV:Option (((List (ae×Bool)))):=
 (pW v).bind fun o4=>
 if o4=true then
  (fH ([v.Name]:List ae) m2).bind fun r7=>
  some r7
 else
  some m2
theorem wU{x:((List (ae×Bool)))}(h:pV v m2=some x):aW Pg GE 3 (cA Yn 6) (EX .normal (jB v x)) (xm v m2):=by
 obtain⟨o4,bo4,h⟩:=ck h
 have p6:=fun{sc F} (r:PS sc F)=>nF 0<|cT (wV v m2 bo4)<|r
 rcases aO h with⟨c5,h⟩|⟨c5,h⟩
 ·obtain⟨r7,br7,h⟩:=ck h
  obtain rfl:=lf h
  exact bv V2 (p6<|sg 0 c5<|ss<|sv (da v)<|sv (dv v)<|sv (bN.mk' (v:=PVal.str) Ij ([v.Name]:List ae) 1 (by kernel_rfl))<|si (.cg ⟨[1,2],[.bptr 0 0,sl cS ([v.Name]:List ae)],[],[.cells [.mapr 2] [],.map (aL PVal.bool m2)],[.cells [.mapr 1] [],.map (aL PVal.bool m2)],[.cells [.mapr 2] [],.map (aL PVal.bool r7)],[.cells [.mapr 1] [],.map (aL PVal.bool r7)],.tuple [],.tuple [],[]⟩) (iw br7)<|sf (aI (xB [1,2] 0 1 0 rfl) (aI (xR [1,2] (sl cS ([v.Name]:List ae)) (aj bz ([v.Name]:List ae))) trivial))<|sf (aI (aI (rB (.cells [.mapr 2] [])) (aI (rW []) (aI (xM [1,2] 1 2 rfl) trivial))) (aI (aI (rB (.map (aL PVal.bool m2))) (aI (rM (aL PVal.bool m2)) (qb (n:=0) PVal.bool (fun x=>trivial) m2))) trivial))<|sf (aI (aI (rW []) (aI (xM [1,2] 1 2 rfl) trivial)) (aI (aI (rM (aL PVal.bool r7)) (qb (n:=0) PVal.bool (fun x=>trivial) r7)) trivial))<|sf (xR [1,2] (.tuple []) trivial)<|eF .normal (jB v r7))<|by kernel_rfl
 ·obtain rfl:=lf h
  exact bv V2 (p6<|sg 0 c5<|eF .normal (jB v m2))<|by kernel_rfl
end
section
variable(v:af)(m2:(List (ae×Bool)))
def xo:aB:=aS 38 [(1,.bptr 0 0),(2,.eptr (ac v))] [.cells [.func (.func 81) [.bptr 1 0] []] [],.cells [.mapr 2] [],.map (aL PVal.bool m2),.dead] []
def jD(o:(List (ae×Bool))):aB:=aS 38 [(1,.bptr 0 0),(2,.eptr (ac v))] [.cells [.func (.func 81) [.bptr 1 0] []] [],.cells [.mapr 2] [],.map (aL PVal.bool o),.dead] []
def pX:Option (((List (ae×Bool)))):=
 if(v.Op==6)=true then
  (lx v.Params).bind fun r11=>
  (fH r11 m2).bind fun r12=>
  some r12
 else
  some m2
theorem wW{x:((List (ae×Bool)))}(h:pX v m2=some x):aW Pg GE 3 (cA Yn 14) (EX .normal (jD v x)) (xo v m2):=by
 have p10:=fun{sc F} (r:PS sc F)=>sv (cK v)<|sv (cM v)<|r
 rcases aO h with⟨c9,h⟩|⟨c9,h⟩
 ·obtain⟨r11,br11,r12,br12,h⟩:=Zb2 h
  obtain rfl:=lf h
  exact bv V2 (p10<|sg 0 c9<|sk<|X8 (.dx [0,0,2,6] [] [] [])<|ss<|sv (bH v)<|sv (bJ v)<|cD (px br11)<|si (.cg ⟨[1,2],[.bptr 0 0,sl cS r11],[],[.cells [.mapr 2] [],.map (aL PVal.bool m2)],[.cells [.mapr 1] [],.map (aL PVal.bool m2)],[.cells [.mapr 2] [],.map (aL PVal.bool r12)],[.cells [.mapr 1] [],.map (aL PVal.bool r12)],.tuple [],.tuple [],[]⟩) (iw br12)<|sf (aI (xB [1,2] 0 1 0 rfl) (aI (xR [1,2] (sl cS r11) (aj bz r11)) trivial))<|sf (aI (aI (rB (.cells [.mapr 2] [])) (aI (rW []) (aI (xM [1,2] 1 2 rfl) trivial))) (aI (aI (rB (.map (aL PVal.bool m2))) (aI (rM (aL PVal.bool m2)) (qb (n:=0) PVal.bool (fun x=>trivial) m2))) trivial))<|sf (aI (aI (rW []) (aI (xM [1,2] 1 2 rfl) trivial)) (aI (aI (rM (aL PVal.bool r12)) (qb (n:=0) PVal.bool (fun x=>trivial) r12)) trivial))<|sf (xR [1,2] (.tuple []) trivial)<|eF .normal (jD v r12))<|by kernel_rfl
 ·obtain rfl:=lf h
  exact bv V2 (p10<|sg 0 c9<|eF .normal (jD v m2))<|by kernel_rfl
end
section
variable(t27:waD)(t28:Int)(t29:Int)(m2:(List (ae×Bool)))
def fX:aB:=aS 38 [(1,.bptr 0 0),(27,sl aA t27),(28,.int .i64 t28),(29,.int .i64 t29)] [.cells [.func (.func 81) [.bptr 1 0] []] [],.cells [.mapr 2] [],.map (aL PVal.bool m2),.dead] []
def jE(o:(List (ae×Bool))):aB:=aS 38 [] [.cells [.func (.func 81) [.bptr 1 0] []] [],.cells [.mapr 2] [],.map (aL PVal.bool o),.dead] []
def nW:Option ((Int×(List (ae×Bool)))⊕(((List (ae×Bool))))):=
 if(decide (t29<t28))=true then
  (eT t27 t29).bind fun x15=>
  (fH x15.Names m2).bind fun r16=>
  some (.inl (bB (t29+1),r16))
 else
  some (.inr m2)
def pY:Option (((List (ae×Bool)))):=loop (fun(zz:Int×(List (ae×Bool)))=>nW t27 t28 zz.1 zz.2) (t29,m2)
theorem vK{y:(Int×(List (ae×Bool)))⊕(((List (ae×Bool))))}(h:nW t27 t28 t29 m2=some y):aW Pg GE 3 (cA Yn 247) (LQ (fun(zz:Int×(List (ae×Bool)))=>fX t27 t28 zz.1 zz.2) (fun _=>.exit 0) jE y) (fX t27 t28 t29 m2):=by
 rcases aO h with⟨c14,h⟩|⟨c14,h⟩
 ·obtain⟨x15,bx15,r16,br16,h⟩:=Zb2 h
  obtain rfl:=lf h
  have z:=sg 0 c14<|sv (eZ.ia (k:=.i64) bx15)<|sv (mA x15)<|sx Io<|sx (i7 x15)<|ss<|ss<|si (.cg ⟨[1,2],[.bptr 0 0,sl cS x15.Names],[],[.cells [.mapr 2] [],.map (aL PVal.bool m2)],[.cells [.mapr 1] [],.map (aL PVal.bool m2)],[.cells [.mapr 2] [],.map (aL PVal.bool r16)],[.cells [.mapr 1] [],.map (aL PVal.bool r16)],.tuple [],.tuple [],[]⟩) (iw br16)<|sf (aI (xB [1,2] 0 1 0 rfl) (aI (xR [1,2] (sl cS x15.Names) (aj bz x15.Names)) trivial))<|sf (aI (aI (rB (.cells [.mapr 2] [])) (aI (rW []) (aI (xM [1,2] 1 2 rfl) trivial))) (aI (aI (rB (.map (aL PVal.bool m2))) (aI (rM (aL PVal.bool m2)) (qb (n:=0) PVal.bool (fun x=>trivial) m2))) trivial))<|sf (aI (aI (rW []) (aI (xM [1,2] 1 2 rfl) trivial)) (aI (aI (rM (aL PVal.bool r16)) (qb (n:=0) PVal.bool (fun x=>trivial) r16)) trivial))<|sf (xR [1,2] (.tuple []) trivial)<|tr 3 .normal (fX t27 t28 (bB (t29+1)) r16) rfl (du (aI (aT rfl) (aI (up (aj bF t27)) (aI trivial (aI trivial trivial))))) (aI (aI (aI (aI (aT rfl) trivial) trivial) trivial) (aI (aI (aT rfl) trivial) (aI (qb PVal.bool (fun x=>trivial) r16) (aI trivial trivial))))
  exact dy (A:=V2) mixed z<|by kernel_rfl
 ·obtain rfl:=lf h
  have z:=sg 0 c14<|eF (.exit 0) (jE m2)
  exact hU V2 (Zn rfl) z<|by kernel_rfl
theorem wX{x:((List (ae×Bool)))}(h:pY t27 t28 t29 m2=some x):aW Pg GE 3 (.loop (cA Yn 247)) (EX (.exit 0) (jE x)) (fX t27 t28 t29 m2):=
 ZL h fun _ _ hy=>vK _ _ _ _ hy
end
def tV(a:af)(k2:(List (ae×Bool))):Option (Bool×(List (ae×Bool))):=
 (pV a k2).bind fun o8=>
 (pX a o8).bind fun o13=>
 (pY a.Alts (a.Alts.length:Int) 0 o13).bind fun o17=>
 some (true,o17)
theorem zx{a:af}{k2:(List (ae×Bool))}{r:Bool×(List (ae×Bool))}(h:tV a k2=some r):C Pg GE 99 [.agg (ac a),.bptr 0 0] [] [.cells [.func (.func 81) [.bptr 1 0] []] [],.cells [.mapr 2] [],.map (aL PVal.bool k2)] (.bool r.1) [] [.cells [.func (.func 81) [.bptr 1 0] []] [],.cells [.mapr 2] [],.map (aL PVal.bool r.2)]:=by
 obtain⟨o8,bo8,o13,bo13,o17,bo17,h⟩:=Zb3 h
 obtain rfl:=lf h
 have z:=se (cF a)<|nF 0<|cT (wU a k2 bo8)<|nF 0<|cT (wW a o8 bo13)<|sv (aG a)<|sv (aH a)<|bQ (eZ.ln a.Alts)<|cT (wX a.Alts (a.Alts.length:Int) 0 o13 bo17)<|en (aI (rP (.bool true))<|aI trivial<|aI (rL [.cells [.func (.func 81) [.bptr 1 0] []] [],.cells [.mapr 2] [],.map (aL PVal.bool o17)])<|(aI (aI (aI (aI (aT (i:=1) (n:=3) rfl) trivial) trivial) trivial) (aI (aI (aT (i:=2) (n:=3) rfl) trivial) (aI (qb (n:=3) PVal.bool (fun x=>trivial) o17) trivial))))
 exact Z99.g (m:=3) rfl z<|by kernel_rfl
noncomputable def MR:Code:=f64.body.getD .skip
def Hv:List Nat:=[]
theorem Z64:ZF Hv 64 f64 MR:=⟨call64,func64,rfl⟩
section
variable(R43:ea)(e:af)(t14:waF)(t15:Int)(t16:Int)(m2:(List (ae×Bool)))
def eK:aB:=aS 38 [(1,.func (.func 99) [] [.bptr 0 0]),(2,.eptr (ac e)),(14,sl ac t14),(15,.int .i64 t15),(16,.int .i64 t16)] [.cells [.func (.func 81) [.bptr 1 0] []] [],.cells [.mapr 2] [],.map (aL PVal.bool m2),.dead] []
def eL(o:((List (ae×Bool)))⊕((List (ae×Bool)))):Exit:=match o with
 |(.inl _)=>.ret
 |(.inr _)=>.exit 0
def cd(o:((List (ae×Bool)))⊕((List (ae×Bool)))):aB:=match o with
 |(.inl o)=>aS 38 [(4,.bool false)] [.cells [.func (.func 81) [.bptr 1 0] []] [],.cells [.mapr 2] [],.map (aL PVal.bool o),.dead] []
 |(.inr o)=>aS 38 [(1,.func (.func 99) [] [.bptr 0 0]),(2,.eptr (ac e))] [.cells [.func (.func 81) [.bptr 1 0] []] [],.cells [.mapr 2] [],.map (aL PVal.bool o),.dead] []
def kO:Option ((Int×(List (ae×Bool)))⊕(((List (ae×Bool)))⊕((List (ae×Bool))))):=
 if(decide (t16<t15))=true then
  (eT t14 t16).bind fun x5=>
  (R43 x5 m2).bind fun r6=>
  if(!r6.1)=true then
   some (.inr (.inl r6.2))
  else
   some (.inl (bB (t16+1),r6.2))
 else
  some (.inr (.inr m2))
def lU:Option (((List (ae×Bool)))⊕((List (ae×Bool)))):=loop (fun(zz:Int×(List (ae×Bool)))=>kO R43 t14 t15 zz.1 zz.2) (t16,m2)
theorem rz(hR43:d8 R43){y:(Int×(List (ae×Bool)))⊕(((List (ae×Bool)))⊕((List (ae×Bool))))}(h:kO R43 t14 t15 t16 m2=some y):aW Pg GE 3 (cA MR 119) (LQ (fun(zz:Int×(List (ae×Bool)))=>eK e t14 t15 zz.1 zz.2) eL (cd e) y) (eK e t14 t15 t16 m2):=by
 rcases aO h with⟨c4,h⟩|⟨c4,h⟩
 ·obtain⟨x5,bx5,r6,br6,h⟩:=Zb2 h
  have p8:=fun{sc F} (r:PS sc F)=>sg 0 c4<|sv (fQ.ia (k:=.i64) bx5)<|sv (bM x5)<|sx AD<|sx (kF x5)<|sv (bW x5 [])<|si (.cg ⟨[0,1,2],[.agg (ac x5),.func (.func 99) [] [.bptr 0 0]],[],[.cells [.func (.func 81) [.bptr 1 0] []] [],.cells [.mapr 2] [],.map (aL PVal.bool m2)],[.cells [.func (.func 81) [.bptr 1 0] []] [],.cells [.mapr 2] [],.map (aL PVal.bool m2)],[.cells [.func (.func 81) [.bptr 1 0] []] [],.cells [.mapr 2] [],.map (aL PVal.bool r6.2)],[.cells [.func (.func 81) [.bptr 1 0] []] [],.cells [.mapr 2] [],.map (aL PVal.bool r6.2)],.bool r6.1,.bool r6.1,[]⟩) (hR43 _ _ _ br6)<|sf (aI (xR [0,1,2] (.agg (ac x5)) (az x5)) (aI (xF [0,1,2] (.func 99) [] [.bptr 0 0] [] [.bptr 0 0] trivial (aI (xB [0,1,2] 0 0 0 rfl) trivial)) trivial))<|sf (aI (aI (rB (.cells [.func (.func 81) [.bptr 1 0] []] [])) (aI (rW []) (aI (xF [0,1,2] (.func 81) [.bptr 1 0] [] [.bptr 1 0] [] (aI (xB [0,1,2] 1 1 0 rfl) trivial) trivial) trivial))) (aI (aI (rB (.cells [.mapr 2] [])) (aI (rW []) (aI (xM [0,1,2] 2 2 rfl) trivial))) (aI (aI (rB (.map (aL PVal.bool m2))) (aI (rM (aL PVal.bool m2)) (qb (n:=0) PVal.bool (fun x=>trivial) m2))) trivial)))<|sf (aI (aI (rW []) (aI (xF [0,1,2] (.func 81) [.bptr 1 0] [] [.bptr 1 0] [] (aI (xB [0,1,2] 1 1 0 rfl) trivial) trivial) trivial)) (aI (aI (rW []) (aI (xM [0,1,2] 2 2 rfl) trivial)) (aI (aI (rM (aL PVal.bool r6.2)) (qb (n:=0) PVal.bool (fun x=>trivial) r6.2)) trivial)))<|sf (xR [0,1,2] (.bool r6.1) trivial)<|r
  rcases aO h with⟨c7,h⟩|⟨c7,h⟩
  ·obtain rfl:=lf h
   have z:=p8<|sg 0 c7<|tr 3 (eL (.inl r6.2)) (cd e (.inl r6.2)) rfl (du (aI trivial trivial)) (aI (aI (aI (aI (aT rfl) trivial) trivial) trivial) (aI (aI (aT rfl) trivial) (aI (qb PVal.bool (fun x=>trivial) r6.2) (aI trivial trivial))))
   exact sF (A:=Hv) mixed (Zn rfl) z<|by kernel_rfl
  ·obtain rfl:=lf h
   have z:=p8<|sg 0 c7<|tr 3 .normal (eK e t14 t15 (bB (t16+1)) r6.2) rfl (du (aI (aI trivial (aI (aT rfl) trivial)) (aI (a8 (az e)) (aI (up (aj az t14)) (aI trivial (aI trivial trivial)))))) (aI (aI (aI (aI (aT rfl) trivial) trivial) trivial) (aI (aI (aT rfl) trivial) (aI (qb PVal.bool (fun x=>trivial) r6.2) (aI trivial trivial))))
   exact dy (A:=Hv) mixed z<|by kernel_rfl
 ·obtain rfl:=lf h
  have z:=sg 0 c4<|eF (eL (.inr m2)) (cd e (.inr m2))
  exact hU Hv (Zn rfl) z<|by kernel_rfl
theorem fW(hR43:d8 R43){x:((List (ae×Bool)))⊕((List (ae×Bool)))}(h:lU R43 t14 t15 t16 m2=some x):aW Pg GE 3 (.loop (cA MR 119)) (EX (eL x) (cd e x)) (eK e t14 t15 t16 m2):=
 ZL h fun _ _ hy=>rz _ _ _ _ _ _ hR43 hy
end
section
variable(R43:ea)(t26:waD)(t27:Int)(t28:Int)(m2:(List (ae×Bool)))
def eM:aB:=aS 38 [(1,.func (.func 99) [] [.bptr 0 0]),(26,sl aA t26),(27,.int .i64 t27),(28,.int .i64 t28)] [.cells [.func (.func 81) [.bptr 1 0] []] [],.cells [.mapr 2] [],.map (aL PVal.bool m2),.dead] []
def eN(o:((List (ae×Bool)))⊕((List (ae×Bool)))):Exit:=match o with
 |(.inl _)=>.ret
 |(.inr _)=>.exit 2
def cU(o:((List (ae×Bool)))⊕((List (ae×Bool)))):aB:=match o with
 |(.inl o)=>aS 38 [(4,.bool false)] [.cells [.func (.func 81) [.bptr 1 0] []] [],.cells [.mapr 2] [],.map (aL PVal.bool o),.dead] []
 |(.inr o)=>aS 38 [] [.cells [.func (.func 81) [.bptr 1 0] []] [],.cells [.mapr 2] [],.map (aL PVal.bool o),.dead] []
def kP:Option ((Int×(List (ae×Bool)))⊕(((List (ae×Bool)))⊕((List (ae×Bool))))):=
 if(decide (t28<t27))=true then
  (eT t26 t28).bind fun x11=>
  (R43 x11.Body m2).bind fun r12=>
  if(!r12.1)=true then
   some (.inr (.inl r12.2))
  else
   some (.inl (bB (t28+1),r12.2))
 else
  some (.inr (.inr m2))
def lV:Option (((List (ae×Bool)))⊕((List (ae×Bool)))):=loop (fun(zz:Int×(List (ae×Bool)))=>kP R43 t26 t27 zz.1 zz.2) (t28,m2)
theorem rA(hR43:d8 R43){y:(Int×(List (ae×Bool)))⊕(((List (ae×Bool)))⊕((List (ae×Bool))))}(h:kP R43 t26 t27 t28 m2=some y):aW Pg GE 3 (cA MR 247) (LQ (fun(zz:Int×(List (ae×Bool)))=>eM t26 t27 zz.1 zz.2) eN cU y) (eM t26 t27 t28 m2):=by
 rcases aO h with⟨c10,h⟩|⟨c10,h⟩
 ·obtain⟨x11,bx11,r12,br12,h⟩:=Zb2 h
  have p14:=fun{sc F} (r:PS sc F)=>sg 0 c10<|sv (eZ.ia (k:=.i64) bx11)<|sv (mA x11)<|sx Io<|sx (i7 x11)<|sv (bW x11.Body [])<|si (.cg ⟨[0,1,2],[.agg (ac x11.Body),.func (.func 99) [] [.bptr 0 0]],[],[.cells [.func (.func 81) [.bptr 1 0] []] [],.cells [.mapr 2] [],.map (aL PVal.bool m2)],[.cells [.func (.func 81) [.bptr 1 0] []] [],.cells [.mapr 2] [],.map (aL PVal.bool m2)],[.cells [.func (.func 81) [.bptr 1 0] []] [],.cells [.mapr 2] [],.map (aL PVal.bool r12.2)],[.cells [.func (.func 81) [.bptr 1 0] []] [],.cells [.mapr 2] [],.map (aL PVal.bool r12.2)],.bool r12.1,.bool r12.1,[]⟩) (hR43 _ _ _ br12)<|sf (aI (xR [0,1,2] (.agg (ac x11.Body)) (az x11.Body)) (aI (xF [0,1,2] (.func 99) [] [.bptr 0 0] [] [.bptr 0 0] trivial (aI (xB [0,1,2] 0 0 0 rfl) trivial)) trivial))<|sf (aI (aI (rB (.cells [.func (.func 81) [.bptr 1 0] []] [])) (aI (rW []) (aI (xF [0,1,2] (.func 81) [.bptr 1 0] [] [.bptr 1 0] [] (aI (xB [0,1,2] 1 1 0 rfl) trivial) trivial) trivial))) (aI (aI (rB (.cells [.mapr 2] [])) (aI (rW []) (aI (xM [0,1,2] 2 2 rfl) trivial))) (aI (aI (rB (.map (aL PVal.bool m2))) (aI (rM (aL PVal.bool m2)) (qb (n:=0) PVal.bool (fun x=>trivial) m2))) trivial)))<|sf (aI (aI (rW []) (aI (xF [0,1,2] (.func 81) [.bptr 1 0] [] [.bptr 1 0] [] (aI (xB [0,1,2] 1 1 0 rfl) trivial) trivial) trivial)) (aI (aI (rW []) (aI (xM [0,1,2] 2 2 rfl) trivial)) (aI (aI (rM (aL PVal.bool r12.2)) (qb (n:=0) PVal.bool (fun x=>trivial) r12.2)) trivial)))<|sf (xR [0,1,2] (.bool r12.1) trivial)<|r
  rcases aO h with⟨c13,h⟩|⟨c13,h⟩
  ·obtain rfl:=lf h
   have z:=p14<|sg 0 c13<|tr 3 (eN (.inl r12.2)) (cU (.inl r12.2)) rfl (du (aI trivial trivial)) (aI (aI (aI (aI (aT rfl) trivial) trivial) trivial) (aI (aI (aT rfl) trivial) (aI (qb PVal.bool (fun x=>trivial) r12.2) (aI trivial trivial))))
   exact sF (A:=Hv) mixed (Zn rfl) z<|by kernel_rfl
  ·obtain rfl:=lf h
   have z:=p14<|sg 0 c13<|tr 3 .normal (eM t26 t27 (bB (t28+1)) r12.2) rfl (du (aI (aI trivial (aI (aT rfl) trivial)) (aI (up (aj bF t26)) (aI trivial (aI trivial trivial))))) (aI (aI (aI (aI (aT rfl) trivial) trivial) trivial) (aI (aI (aT rfl) trivial) (aI (qb PVal.bool (fun x=>trivial) r12.2) (aI trivial trivial))))
   exact dy (A:=Hv) mixed z<|by kernel_rfl
 ·obtain rfl:=lf h
  have z:=sg 0 c10<|eF (eN (.inr m2)) (cU (.inr m2))
  exact hU Hv (Zn rfl) z<|by kernel_rfl
theorem ki(hR43:d8 R43){x:((List (ae×Bool)))⊕((List (ae×Bool)))}(h:lV R43 t26 t27 t28 m2=some x):aW Pg GE 3 (.loop (cA MR 247)) (EX (eN x) (cU x)) (eM t26 t27 t28 m2):=
 ZL h fun _ _ hy=>rA _ _ _ _ _ hR43 hy
end
def mN(R43:ea)(e:af)(k2:(List (ae×Bool))):Option (Bool×(List (ae×Bool))):=
 (tV e k2).bind fun r1=>
 if(!r1.1)=true then
  some (false,r1.2)
 else
  (lU R43 e.Kids (e.Kids.length:Int) 0 r1.2).bind fun o9=>match o9 with
  |(.inl o9)=>
   some (false,o9)
  | (.inr o9) =>
   (lV R43 e.Alts (e.Alts.length:Int) 0 o9).bind fun o15=>match o15 with
   |(.inl o15)=>
    some (false,o15)
   |(.inr o15)=>
    some (true,o15)
theorem tY(R43:ea)(hR43:d8 R43){e:af}{k2:(List (ae×Bool))}{r:Bool×(List (ae×Bool))}(h:mN R43 e k2=some r):C Pg GE 64 [.agg (ac e),.func (.func 99) [] [.bptr 0 0]] [] [.cells [.func (.func 81) [.bptr 1 0] []] [],.cells [.mapr 2] [],.map (aL PVal.bool k2)] (.bool r.1) [] [.cells [.func (.func 81) [.bptr 1 0] []] [],.cells [.mapr 2] [],.map (aL PVal.bool r.2)]:=by
 obtain⟨r1,br1,h⟩:=ck h
 have p3:=fun{sc F} (r:PS sc F)=>se (cF e)<|sv (bM e)<|si (.cg ⟨[0,1,2],[.agg (ac e),.bptr 0 0],[],[.cells [.func (.func 81) [.bptr 1 0] []] [],.cells [.mapr 2] [],.map (aL PVal.bool k2)],[.cells [.func (.func 81) [.bptr 1 0] []] [],.cells [.mapr 2] [],.map (aL PVal.bool k2)],[.cells [.func (.func 81) [.bptr 1 0] []] [],.cells [.mapr 2] [],.map (aL PVal.bool r1.2)],[.cells [.func (.func 81) [.bptr 1 0] []] [],.cells [.mapr 2] [],.map (aL PVal.bool r1.2)],.bool r1.1,.bool r1.1,[]⟩) (zx br1)<|sf (aI (xR [0,1,2] (.agg (ac e)) (az e)) (aI (xB [0,1,2] 0 0 0 rfl) trivial))<|sf (aI (aI (rB (.cells [.func (.func 81) [.bptr 1 0] []] [])) (aI (rW []) (aI (xF [0,1,2] (.func 81) [.bptr 1 0] [] [.bptr 1 0] [] (aI (xB [0,1,2] 1 1 0 rfl) trivial) trivial) trivial))) (aI (aI (rB (.cells [.mapr 2] [])) (aI (rW []) (aI (xM [0,1,2] 2 2 rfl) trivial))) (aI (aI (rB (.map (aL PVal.bool k2))) (aI (rM (aL PVal.bool k2)) (qb (n:=0) PVal.bool (fun x=>trivial) k2))) trivial)))<|sf (aI (aI (rW []) (aI (xF [0,1,2] (.func 81) [.bptr 1 0] [] [.bptr 1 0] [] (aI (xB [0,1,2] 1 1 0 rfl) trivial) trivial) trivial)) (aI (aI (rW []) (aI (xM [0,1,2] 2 2 rfl) trivial)) (aI (aI (rM (aL PVal.bool r1.2)) (qb (n:=0) PVal.bool (fun x=>trivial) r1.2)) trivial)))<|sf (xR [0,1,2] (.bool r1.1) trivial)<|r
 rcases aO h with⟨c2,h⟩|⟨c2,h⟩
 ·obtain rfl:=lf h
  have z:=p3<|sg 0 c2<|en (aI (rP (.bool false))<|aI trivial<|aI (rL [.cells [.func (.func 81) [.bptr 1 0] []] [],.cells [.mapr 2] [],.map (aL PVal.bool r1.2)])<|(aI (aI (aI (aI (aT (i:=1) (n:=3) rfl) trivial) trivial) trivial) (aI (aI (aT (i:=2) (n:=3) rfl) trivial) (aI (qb (n:=3) PVal.bool (fun x=>trivial) r1.2) trivial))))
  exact Z64.g (m:=3) rfl z<|by kernel_rfl
 ·obtain⟨o9,bo9,h⟩:=ck h
  rcases o9 with o9|o9
  ·obtain rfl:=lf h
   have z:=p3<|sg 0 c2<|sv (ba e)<|sv (be e)<|bQ (fQ.ln e.Kids)<|cT (e:=.ret) (s1:=cd e (.inl o9)) (fW R43 e e.Kids (e.Kids.length:Int) 0 r1.2 hR43 bo9)<|en (aI (rP (.bool false))<|aI trivial<|aI (rL [.cells [.func (.func 81) [.bptr 1 0] []] [],.cells [.mapr 2] [],.map (aL PVal.bool o9)])<|(aI (aI (aI (aI (aT (i:=1) (n:=3) rfl) trivial) trivial) trivial) (aI (aI (aT (i:=2) (n:=3) rfl) trivial) (aI (qb (n:=3) PVal.bool (fun x=>trivial) o9) trivial))))
   exact Z64.g (m:=3) rfl z<|by kernel_rfl
  ·obtain⟨o15,bo15,h⟩:=ck h
   rcases o15 with o15|o15
   ·obtain rfl:=lf h
    have z:=p3<|sg 0 c2<|sv (ba e)<|sv (be e)<|bQ (fQ.ln e.Kids)<|cT (e:=.exit 0) (s1:=cd e (.inr o9)) (fW R43 e e.Kids (e.Kids.length:Int) 0 r1.2 hR43 bo9)<|sv (aG e)<|sv (aH e)<|bQ (eZ.ln e.Alts)<|cT (e:=.ret) (s1:=cU (.inl o15)) (ki R43 e.Alts (e.Alts.length:Int) 0 o9 hR43 bo15)<|en (aI (rP (.bool false))<|aI trivial<|aI (rL [.cells [.func (.func 81) [.bptr 1 0] []] [],.cells [.mapr 2] [],.map (aL PVal.bool o15)])<|(aI (aI (aI (aI (aT (i:=1) (n:=3) rfl) trivial) trivial) trivial) (aI (aI (aT (i:=2) (n:=3) rfl) trivial) (aI (qb (n:=3) PVal.bool (fun x=>trivial) o15) trivial))))
    exact Z64.g (m:=3) rfl z<|by kernel_rfl
   ·obtain rfl:=lf h
    have z:=p3<|sg 0 c2<|sv (ba e)<|sv (be e)<|bQ (fQ.ln e.Kids)<|cT (e:=.exit 0) (s1:=cd e (.inr o9)) (fW R43 e e.Kids (e.Kids.length:Int) 0 r1.2 hR43 bo9)<|sv (aG e)<|sv (aH e)<|bQ (eZ.ln e.Alts)<|cT (e:=.exit 2) (s1:=cU (.inr o15)) (ki R43 e.Alts (e.Alts.length:Int) 0 o9 hR43 bo15)<|en (aI (rP (.bool true))<|aI trivial<|aI (rL [.cells [.func (.func 81) [.bptr 1 0] []] [],.cells [.mapr 2] [],.map (aL PVal.bool o15)])<|(aI (aI (aI (aI (aT (i:=1) (n:=3) rfl) trivial) trivial) trivial) (aI (aI (aT (i:=2) (n:=3) rfl) trivial) (aI (qb (n:=3) PVal.bool (fun x=>trivial) o15) trivial))))
    exact Z64.g (m:=3) rfl z<|by kernel_rfl
def mO:((af×(List (ae×Bool)))->Option (Bool×(List (ae×Bool))))->(af×(List (ae×Bool)))->Option (Bool×(List (ae×Bool))):=fun(rec:(af×(List (ae×Bool)))->Option (Bool×(List (ae×Bool)))) (x:af×(List (ae×Bool)))=>mN (fun e k2=>rec (e,k2)) x.1 x.2
def n7(e:af)(k2:(List (ae×Bool))):Option (Bool×(List (ae×Bool))):=rE mO (e,k2)
theorem uz{e:af}{k2:(List (ae×Bool))}{r:Bool×(List (ae×Bool))}(h:n7 e k2=some r):C Pg GE 64 [.agg (ac e),.func (.func 99) [] [.bptr 0 0]] [] [.cells [.func (.func 81) [.bptr 1 0] []] [],.cells [.mapr 2] [],.map (aL PVal.bool k2)] (.bool r.1) [] [.cells [.func (.func 81) [.bptr 1 0] []] [],.cells [.mapr 2] [],.map (aL PVal.bool r.2)]:=
 ek (F:=mO) (M:=fun(x:af×(List (ae×Bool))) (r:Bool×(List (ae×Bool)))=>C Pg GE 64 [.agg (ac x.1),.func (.func 99) [] [.bptr 0 0]] [] [.cells [.func (.func 81) [.bptr 1 0] []] [],.cells [.mapr 2] [],.map (aL PVal.bool x.2)] (.bool r.1) [] [.cells [.func (.func 81) [.bptr 1 0] []] [],.cells [.mapr 2] [],.map (aL PVal.bool r.2)]) (fun rec hrec x r h=>tY _ (fun e k2 r h=>hrec (e,k2) r h) h) h
noncomputable def qcw:Code:=f53.body.getD .skip
def qb6:List Nat:=[]
theorem Z53:ZF qb6 53 f53 qcw:=⟨call53,func53,rfl⟩
def Mj(e:af):Option waA:=
 (mj ([]:List ae)).bind fun r1=>
 (n7 e r1).bind fun r2=>
 (sL r2.2).bind fun r3=>
 some r3
theorem Nj{e:af}{r:waA}(h:Mj e=some r):CC Pg GE 53 [.agg (ac e)] (sl cS r) [(0,9)]:=by
 obtain⟨r1,br1,r2,br2,r3,br3,h⟩:=Zb3 h
 obtain rfl:=lf h
 have z:=se (cF e)<|si (.cn ⟨[1,2],[],[],[],[],[.map (aL PVal.bool r1),.cells [.mapr 1] []],[.map (aL PVal.bool r1),.cells [.mapr 0] []],.bptr 2 0,.bptr 1 0,[]⟩) (sQ br1)<|sf (aI (aj bz ([]:List ae)) trivial)<|sf (aI (aI (rM (aL PVal.bool r1)) (qb (n:=0) PVal.bool (fun x=>trivial) r1)) (aI (aI (rW []) (aI (xM [1,2] 0 1 rfl) trivial)) trivial))<|sf (xB [1,2] 1 2 0 rfl)<|sx Zt<|ss<|sv (bM e)<|si (.cg ⟨[3,2,1],[.agg (ac e),.func (.func 99) [] [.bptr 0 0]],[],[.cells [.func (.func 81) [.bptr 2 0] []] [],.cells [.mapr 1] [],.map (aL PVal.bool r1)],[.cells [.func (.func 81) [.bptr 1 0] []] [],.cells [.mapr 2] [],.map (aL PVal.bool r1)],[.cells [.func (.func 81) [.bptr 2 0] []] [],.cells [.mapr 1] [],.map (aL PVal.bool r2.2)],[.cells [.func (.func 81) [.bptr 1 0] []] [],.cells [.mapr 2] [],.map (aL PVal.bool r2.2)],.bool r2.1,.bool r2.1,[]⟩) (uz br2)<|sf (aI (xR [3,2,1] (.agg (ac e)) (az e)) (aI (xF [3,2,1] (.func 99) [] [.bptr 3 0] [] [.bptr 0 0] trivial (aI (xB [3,2,1] 0 3 0 rfl) trivial)) trivial))<|sf (aI (aI (rB (.cells [.func (.func 81) [.bptr 2 0] []] [])) (aI (rW []) (aI (xF [3,2,1] (.func 81) [.bptr 2 0] [] [.bptr 1 0] [] (aI (xB [3,2,1] 1 2 0 rfl) trivial) trivial) trivial))) (aI (aI (rB (.cells [.mapr 1] [])) (aI (rW []) (aI (xM [3,2,1] 2 1 rfl) trivial))) (aI (aI (rB (.map (aL PVal.bool r1))) (aI (rM (aL PVal.bool r1)) (qb (n:=0) PVal.bool (fun x=>trivial) r1))) trivial)))<|sf (aI (aI (rW []) (aI (xF [3,2,1] (.func 81) [.bptr 2 0] [] [.bptr 1 0] [] (aI (xB [3,2,1] 1 2 0 rfl) trivial) trivial) trivial)) (aI (aI (rW []) (aI (xM [3,2,1] 2 1 rfl) trivial)) (aI (aI (rM (aL PVal.bool r2.2)) (qb (n:=0) PVal.bool (fun x=>trivial) r2.2)) trivial)))<|sf (xR [3,2,1] (.bool r2.1) trivial)<|si (.cg ⟨[2,1],[.bptr 0 0],[],[.cells [.mapr 1] [],.map (aL PVal.bool r2.2)],[.cells [.mapr 1] [],.map (aL PVal.bool r2.2)],[.cells [.mapr 1] [],.map (aL PVal.bool r2.2)],[.cells [.mapr 1] [],.map (aL PVal.bool r2.2)],sl cS r3,sl cS r3,[(0,9)]⟩) (yP br3)<|sf (aI (xB [2,1] 0 2 0 rfl) trivial)<|sf (aI (aI (rB (.cells [.mapr 1] [])) (aI (rW []) (aI (xM [2,1] 1 1 rfl) trivial))) (aI (aI (rB (.map (aL PVal.bool r2.2))) (aI (rM (aL PVal.bool r2.2)) (qb (n:=0) PVal.bool (fun x=>trivial) r2.2))) trivial))<|sf (aI (aI (rW []) (aI (xM [2,1] 1 1 rfl) trivial)) (aI (aI (rM (aL PVal.bool r2.2)) (qb (n:=0) PVal.bool (fun x=>trivial) r2.2)) trivial))<|sf (xR [2,1] (sl cS r3) (aj bz r3))<|en (aI (rP (sl cS r3))<|(aj bz r3))
 exact Z53.v (aI (az e) trivial) z<|by kernel_rfl
abbrev aV:=(ae->ae->ae->ae->ae->af->(List ag)->Option af)
abbrev bA(R:aV):Prop:=∀(c:ae) (c2:ae) (c3:ae) (c4:ae) (c5:ae) (e:af) (scope:(List ag)) (r:af),R c c2 c3 c4 c5 e scope=some r->CC Pg GE 56 [.agg [.func (.func 55) [] [.eptr (cS c),.eptr (cS c2),.eptr (cS c3)],.func (.func 54) [] [.eptr (cS c4),.eptr (cS c5)]],.agg (ac e),sl aa scope] (.agg (ac r)) [(3,28),(4,85),(5,89),(6,60)]
noncomputable def qcx:Code:=f54.body.getD .skip
def qb7:List Nat:=[9]
theorem Z54:ZF qb7 54 f54 qcx:=⟨call54,func54,rfl⟩
def CT(s:ae)(a:ae)(a2:ae):Option ae:=
 if(s==a)=true then
  some a2
 else
  some s
theorem Hb{s:ae}{a:ae}{a2:ae}{r:ae}(h:CT s a a2=some r):CC Pg GE 54 [.str s,.eptr (cS a),.eptr (cS a2)] (.str r) []:=by
 rcases aO h with⟨c1,h⟩|⟨c1,h⟩
 ·obtain rfl:=lf h
  have z:=sv (b8 AF (.str a) [])<|sg 0 c1<|sv (b8 AF (.str a2) [])<|en (aI (rP (.str a2))<|trivial)
  exact Z54.v (aI trivial (aI (bz a) (aI (bz a2) trivial))) z<|by kernel_rfl
 ·obtain rfl:=lf h
  have z:=sv (b8 AF (.str a) [])<|sg 0 c1<|en (aI (rP (.str s))<|trivial)
  exact Z54.v (aI trivial (aI (bz a) (aI (bz a2) trivial))) z<|by kernel_rfl
noncomputable def qbz:Code:=f55.body.getD .skip
def qan:List Nat:=[17]
theorem Z55:ZF qan 55 f55 qbz:=⟨call55,func55,rfl⟩
section
variable(s:ae)(t2:ae)(t3:ae)(t4:ae)
def DX:aB:=aS 18 [(0,.str s),(2,.eptr (cS t2)),(3,.eptr (cS t3)),(4,.eptr (cS t4))] [] []
def ol(o:Bool):aB:=aS 18 [(0,.str s),(4,.eptr (cS t4)),(15,.bool o)] [] []
def yi:Option Bool:=
 if(s==t2)=true then
  some (!(t3==t2))
 else
  some false
theorem CU{x:Bool}(h:yi s t2 t3=some x):aW Pg GE 0 (cA qbz 12) (EX .normal (ol s t4 x)) (DX s t2 t3 t4):=by
 rcases aO h with⟨c1,h⟩|⟨c1,h⟩
 ·obtain rfl:=lf h
  exact bv qan (sv (b8 AF (.str t2) [])<|sg 4 c1<|sv (b8 AF (.str t3) [])<|sv (b8 AF (.str t2) [])<|eF .normal (ol s t4 (!(t3==t2))))<|by kernel_rfl
 ·obtain rfl:=lf h
  exact bv qan (sv (b8 AF (.str t2) [])<|sg 4 c1<|eF .normal (ol s t4 false))<|by kernel_rfl
end
def wS(s:ae)(a:(List ag))(a2:ae)(a3:ae)(a4:ae):Option ae:=
 (yi s a2 a3).bind fun o2=>
 if o2=true then
  some a4
 else
  some s
theorem yj{s:ae}{a:(List ag)}{a2:ae}{a3:ae}{a4:ae}{r:ae}(h:wS s a a2 a3 a4=some r):CC Pg GE 55 [.str s,sl aa a,.eptr (cS a2),.eptr (cS a3),.eptr (cS a4)] (.str r) []:=by
 obtain⟨o2,bo2,h⟩:=ck h
 have p4:=fun{sc F} (r:PS sc F)=>nF 2<|cT (CU s a2 a3 a4 bo2)<|r
 rcases aO h with⟨c3,h⟩|⟨c3,h⟩
 ·obtain rfl:=lf h
  have z:=p4<|sg 0 c3<|sv (b8 AF (.str a4) [])<|en (aI (rP (.str a4))<|trivial)
  exact Z55.v (aI trivial (aI (aj av a) (aI (bz a2) (aI (bz a3) (aI (bz a4) trivial))))) z<|by kernel_rfl
 ·obtain rfl:=lf h
  have z:=p4<|sg 0 c3<|en (aI (rP (.str s))<|trivial)
  exact Z55.v (aI trivial (aI (aj av a) (aI (bz a2) (aI (bz a3) (aI (bz a4) trivial))))) z<|by kernel_rfl
def eH(s:ae)(a:(List ag))(c:ae)(c2:ae)(c3:ae)(c4:ae)(c5:ae)(k1:(List ag)):Option (ae×(List ag)):=
 (wS s a c c2 c3).bind fun r1=>
 (app k1 ([(⟨s,r1⟩:ag)]:List ag)).bind fun l2=>
 some (r1,l2)
theorem gf{s:ae}{a:(List ag)}{c:ae}{c2:ae}{c3:ae}{c4:ae}{c5:ae}{k1:(List ag)}{r:ae×(List ag)}(h:eH s a c c2 c3 c4 c5 k1=some r):C Pg GE 105 [.str s,.bptr 0 0,.eptr ((cL aa) a),.bptr 1 0] [] [.cells [.func (.func 55) [] [.eptr (cS c),.eptr (cS c2),.eptr (cS c3)],.func (.func 54) [] [.eptr (cS c4),.eptr (cS c5)]] [],.cells [sl aa k1] [(0,137)]] (.str r.1) [] [.cells [.func (.func 55) [] [.eptr (cS c),.eptr (cS c2),.eptr (cS c3)],.func (.func 54) [] [.eptr (cS c4),.eptr (cS c5)]] [],.cells [sl aa r.2] [(0,137)]]:=by
 obtain⟨r1,br1,l2,bl2,h⟩:=Zb2 h
 obtain rfl:=lf h
 have z:=ss<|sv (b8 J7 (sl aa a) [])<|cD (yj br1)<|sv (lj s r1)<|sv (Mc.mk' (v:=oT) pn ([(⟨s,r1⟩:ag)]:List ag) 1 (by kernel_rfl))<|sv (Mc.ap bl2)<|en (aI (rP (.str r1))<|aI trivial<|aI (rL [.cells [.func (.func 55) [] [.eptr (cS c),.eptr (cS c2),.eptr (cS c3)],.func (.func 54) [] [.eptr (cS c4),.eptr (cS c5)]] [],.cells [sl aa l2] [(0,137)]])<|(aI (aI (aI trivial (aI (a8 (n:=2) (bz c)) (aI (a8 (n:=2) (bz c2)) (aI (a8 (n:=2) (bz c3)) trivial)))) (aI (aI trivial (aI (a8 (n:=2) (bz c4)) (aI (a8 (n:=2) (bz c5)) trivial))) trivial)) (aI (aI (up (n:=2) (aj av l2)) trivial) trivial)))
 exact C.evGp (A:=Yv) mixed (m:=2) (c:=YK) rfl call105 func105 rfl z<|by kernel_rfl
section
variable(t1:Bool)(v:(List ag))(v2:ae)(v3:ae)(v4:ae)(v5:ae)(v6:ae)(m:(List ag))(m2:ae)(m3:Int)(m4:ae)(m5:waC)(m6:waA)(m7:Int)(m8:ae)(m9:Int)(m10:waB)(m11:waB)(m12:waC)(m13:waB)
def gM:aB:=aS 17 [(1,.eptr (cB t1)),(2,.bptr 0 0),(3,.bptr 3 0),(4,.bptr 4 0)] [.cells [.func (.func 105) [] [.bptr 1 0,.eptr ((cL aa) v),.bptr 2 0]] [],.cells [.func (.func 55) [] [.eptr (cS v2),.eptr (cS v3),.eptr (cS v4)],.func (.func 54) [] [.eptr (cS v5),.eptr (cS v6)]] [],.cells [sl aa m] [(0,137)],.cells [.str m2,.int .i64 m3,.str m4,sl ah m5,sl cS m6,.int .i64 m7,.str m8,.int .i64 m9,sl al m10,sl al m11] [],.cells [.str ([]:ae),.int .i64 0,.str ([]:ae),sl ah m12,sl cS ([]:List ae),.int .i64 0,.str ([]:ae),.int .i64 0,sl al m13,sl al m13] [(3,60),(4,9),(8,58),(9,58)]] []
def cj(o:(List ag)×ae):aB:=aS 17 [(3,.bptr 3 0),(4,.bptr 4 0)] [.cells [.func (.func 105) [] [.bptr 1 0,.eptr ((cL aa) v),.bptr 2 0]] [],.cells [.func (.func 55) [] [.eptr (cS v2),.eptr (cS v3),.eptr (cS v4)],.func (.func 54) [] [.eptr (cS v5),.eptr (cS v6)]] [],.cells [sl aa o.1] [(0,137)],.cells [.str o.2,.int .i64 m3,.str m4,sl ah m5,sl cS m6,.int .i64 m7,.str m8,.int .i64 m9,sl al m10,sl al m11] [],.cells [.str ([]:ae),.int .i64 0,.str ([]:ae),sl ah m12,sl cS ([]:List ae),.int .i64 0,.str ([]:ae),.int .i64 0,sl al m13,sl al m13] [(3,60),(4,9),(8,58),(9,58)]] []
def dL:Option (((List ag)×ae)):=
 if t1=true then
  (eH m2 v v2 v3 v4 v5 v6 m).bind fun r2=>
  some (r2.2,r2.1)
 else
  some (m,m2)
theorem gw{x:((List ag)×ae)}(h:dL t1 v v2 v3 v4 v5 v6 m m2=some x):aW Pg GE 3 (cA Wa 6) (EX .normal (cj v v2 v3 v4 v5 v6 m3 m4 m5 m6 m7 m8 m9 m10 m11 m12 m13 x)) (gM t1 v v2 v3 v4 v5 v6 m m2 m3 m4 m5 m6 m7 m8 m9 m10 m11 m12 m13):=by
 rcases aO h with⟨c1,h⟩|⟨c1,h⟩
 ·obtain⟨r2,br2,h⟩:=ck h
  obtain rfl:=lf h
  exact bv SV (sv (b8 Z1 (.bool t1) [])<|sg 0 c1<|ss<|ss<|si (.cg ⟨[1,2],[.str m2,.bptr 0 0,.eptr ((cL aa) v),.bptr 1 0],[],[.cells [.func (.func 55) [] [.eptr (cS v2),.eptr (cS v3),.eptr (cS v4)],.func (.func 54) [] [.eptr (cS v5),.eptr (cS v6)]] [],.cells [sl aa m] [(0,137)]],[.cells [.func (.func 55) [] [.eptr (cS v2),.eptr (cS v3),.eptr (cS v4)],.func (.func 54) [] [.eptr (cS v5),.eptr (cS v6)]] [],.cells [sl aa m] [(0,137)]],[.cells [.func (.func 55) [] [.eptr (cS v2),.eptr (cS v3),.eptr (cS v4)],.func (.func 54) [] [.eptr (cS v5),.eptr (cS v6)]] [],.cells [sl aa r2.2] [(0,137)]],[.cells [.func (.func 55) [] [.eptr (cS v2),.eptr (cS v3),.eptr (cS v4)],.func (.func 54) [] [.eptr (cS v5),.eptr (cS v6)]] [],.cells [sl aa r2.2] [(0,137)]],.str r2.1,.str r2.1,[]⟩) (gf br2)<|sf (aI (xR [1,2] (.str m2) trivial) (aI (xB [1,2] 0 1 0 rfl) (aI (xR [1,2] (.eptr ((cL aa) v)) (mP av v)) (aI (xB [1,2] 1 2 0 rfl) trivial))))<|sf (aI (aI (rB (.cells [.func (.func 55) [] [.eptr (cS v2),.eptr (cS v3),.eptr (cS v4)],.func (.func 54) [] [.eptr (cS v5),.eptr (cS v6)]] [])) (aI (rW []) (aI (xR [1,2] (.func (.func 55) [] [.eptr (cS v2),.eptr (cS v3),.eptr (cS v4)]) (aI trivial (aI (bz v2) (aI (bz v3) (aI (bz v4) trivial))))) (aI (xR [1,2] (.func (.func 54) [] [.eptr (cS v5),.eptr (cS v6)]) (aI trivial (aI (bz v5) (aI (bz v6) trivial)))) trivial)))) (aI (aI (rB (.cells [sl aa m] [(0,137)])) (aI (rW [(0,137)]) (aI (xR [1,2] (sl aa m) (aj av m)) trivial))) trivial))<|sf (aI (aI (rW []) (aI (xR [1,2] (.func (.func 55) [] [.eptr (cS v2),.eptr (cS v3),.eptr (cS v4)]) (aI trivial (aI (bz v2) (aI (bz v3) (aI (bz v4) trivial))))) (aI (xR [1,2] (.func (.func 54) [] [.eptr (cS v5),.eptr (cS v6)]) (aI trivial (aI (bz v5) (aI (bz v6) trivial)))) trivial))) (aI (aI (rW [(0,137)]) (aI (xR [1,2] (sl aa r2.2) (aj av r2.2)) trivial)) trivial))<|sf (xR [1,2] (.str r2.1) trivial)<|ss<|eF .normal (cj v v2 v3 v4 v5 v6 m3 m4 m5 m6 m7 m8 m9 m10 m11 m12 m13 (r2.2,r2.1)))<|by kernel_rfl
 ·obtain rfl:=lf h
  exact bv SV (sv (b8 Z1 (.bool t1) [])<|sg 0 c1<|eF .normal (cj v v2 v3 v4 v5 v6 m3 m4 m5 m6 m7 m8 m9 m10 m11 m12 m13 (m,m2)))<|by kernel_rfl
end
def ed(p:aw)(a:Bool)(c:(List ag))(c2:ae)(c3:ae)(c4:ae)(c5:ae)(c6:ae)(k2:(List ag)):Option (aw×(List ag)):=
 (dL a c c2 c3 c4 c5 c6 k2 p.Name).bind fun o3=>
 (nJ dW p.Type_).bind fun r4=>
 some ((⟨o3.2,r4⟩:aw),o3.1)
theorem hZ{p:aw}{a:Bool}{c:(List ag)}{c2:ae}{c3:ae}{c4:ae}{c5:ae}{c6:ae}{k2:(List ag)}{r:aw×(List ag)}(h:ed p a c c2 c3 c4 c5 c6 k2=some r):C Pg GE 108 [.agg (au p),.eptr (cB a),.bptr 0 0] [] [.cells [.func (.func 105) [] [.bptr 1 0,.eptr ((cL aa) c),.bptr 2 0]] [],.cells [.func (.func 55) [] [.eptr (cS c2),.eptr (cS c3),.eptr (cS c4)],.func (.func 54) [] [.eptr (cS c5),.eptr (cS c6)]] [],.cells [sl aa k2] [(0,137)]] (.agg (au r.1)) [] [.cells [.func (.func 105) [] [.bptr 1 0,.eptr ((cL aa) c),.bptr 2 0]] [],.cells [.func (.func 55) [] [.eptr (cS c2),.eptr (cS c3),.eptr (cS c4)],.func (.func 54) [] [.eptr (cS c5),.eptr (cS c6)]] [],.cells [sl aa r.2] [(0,137)]]:=by
 obtain⟨o3,bo3,r4,br4,h⟩:=Zb2 h
 obtain rfl:=lf h
 have z:=sx (nb p)<|sx TU<|nF 0<|cT (gw a c c2 c3 c4 c5 c6 k2 p.Name p.Type_.Op p.Type_.Name p.Type_.Args p.Type_.Names p.Type_.Pred.Op p.Type_.Pred.Name p.Type_.Pred.N p.Type_.Pred.Kids p.Type_.Preds ([]:List ai) ([]:List am) bo3)<|G0 [0,1,0,4,12,31,63]<|ss<|sv (kz p.Type_ [])<|cD (om dW (fun _ _ h=>gL h) br4)<|sv (Eg o3.2 r4)<|sx (nb (⟨o3.2,r4⟩:aw))<|en (aI (Ma (⟨o3.2,r4⟩:aw))<|aI (ZD (n:=3) (aZ (⟨o3.2,r4⟩:aw)))<|aI (rL [.cells [.func (.func 105) [] [.bptr 1 0,.eptr ((cL aa) c),.bptr 2 0]] [],.cells [.func (.func 55) [] [.eptr (cS c2),.eptr (cS c3),.eptr (cS c4)],.func (.func 54) [] [.eptr (cS c5),.eptr (cS c6)]] [],.cells [sl aa o3.1] [(0,137)]])<|(aI (aI (aI trivial (aI (aT (i:=1) (n:=3) rfl) (aI (a8 (n:=3) (mP av c)) (aI (aT (i:=2) (n:=3) rfl) trivial)))) trivial) (aI (aI (aI trivial (aI (a8 (n:=3) (bz c2)) (aI (a8 (n:=3) (bz c3)) (aI (a8 (n:=3) (bz c4)) trivial)))) (aI (aI trivial (aI (a8 (n:=3) (bz c5)) (aI (a8 (n:=3) (bz c6)) trivial))) trivial)) (aI (aI (up (n:=3) (aj av o3.1)) trivial) trivial))))
 exact C.evGp (A:=SV) mixed (m:=3) (c:=Wa) rfl call108 func108 rfl z<|by kernel_rfl
section
variable(v:Bool)(t8:waE)(t9:Int)(v2:(List ag))(v3:ae)(v4:ae)(v5:ae)(v6:ae)(v7:ae)(out:waE)(t10:Int)(m:(List ag))
def bk:aB:=aS 22 [(1,.func (.func 108) [] [.eptr (cB v),.bptr 0 0]),(5,sl au out),(8,sl au t8),(9,.int .i64 t9),(10,.int .i64 t10)] [.cells [.func (.func 105) [] [.bptr 1 0,.eptr ((cL aa) v2),.bptr 2 0]] [],.cells [.func (.func 55) [] [.eptr (cS v3),.eptr (cS v4),.eptr (cS v5)],.func (.func 54) [] [.eptr (cS v6),.eptr (cS v7)]] [],.cells [sl aa m] [(0,137)]] [((5,0),85)]
def bV(o:waE×(List ag)):aB:=aS 22 [(5,sl au o.1)] [.cells [.func (.func 105) [] [.bptr 1 0,.eptr ((cL aa) v2),.bptr 2 0]] [],.cells [.func (.func 55) [] [.eptr (cS v3),.eptr (cS v4),.eptr (cS v5)],.func (.func 54) [] [.eptr (cS v6),.eptr (cS v7)]] [],.cells [sl aa o.2] [(0,137)]] [((5,0),85)]
def df:Option ((waE×Int×(List ag))⊕((waE×(List ag)))):=
 if(decide (t10<t9))=true then
  (eT t8 t10).bind fun x2=>
  (ed x2 v v2 v3 v4 v5 v6 v7 m).bind fun r3=>
  (app out ([r3.1]:List aw)).bind fun l4=>
  some (.inl (l4,bB (t10+1),r3.2))
 else
  some (.inr (out,m))
def dq:Option ((waE×(List ag))):=loop (fun(zz:waE×Int×(List ag))=>df v t8 t9 v2 v3 v4 v5 v6 v7 zz.1 zz.2.1 zz.2.2) (out,t10,m)
theorem fu{y:(waE×Int×(List ag))⊕((waE×(List ag)))}(h:df v t8 t9 v2 v3 v4 v5 v6 v7 out t10 m=some y):aW Pg GE 3 (cA S2 119) (LQ (fun(zz:waE×Int×(List ag))=>bk v t8 t9 v2 v3 v4 v5 v6 v7 zz.1 zz.2.1 zz.2.2) (fun _=>.exit 0) (bV v2 v3 v4 v5 v6 v7) y) (bk v t8 t9 v2 v3 v4 v5 v6 v7 out t10 m):=by
 rcases aO h with⟨c1,h⟩|⟨c1,h⟩
 ·obtain⟨x2,bx2,r3,br3,l4,bl4,h⟩:=Zb3 h
  obtain rfl:=lf h
  have z:=sg 0 c1<|sv (lH.ia (k:=.i64) bx2)<|sv (Dr x2)<|sx TU<|sx (nb x2)<|sv (LF x2 [])<|si (.cg ⟨[0,1,2],[.agg (au x2),.eptr (cB v),.bptr 0 0],[],[.cells [.func (.func 105) [] [.bptr 1 0,.eptr ((cL aa) v2),.bptr 2 0]] [],.cells [.func (.func 55) [] [.eptr (cS v3),.eptr (cS v4),.eptr (cS v5)],.func (.func 54) [] [.eptr (cS v6),.eptr (cS v7)]] [],.cells [sl aa m] [(0,137)]],[.cells [.func (.func 105) [] [.bptr 1 0,.eptr ((cL aa) v2),.bptr 2 0]] [],.cells [.func (.func 55) [] [.eptr (cS v3),.eptr (cS v4),.eptr (cS v5)],.func (.func 54) [] [.eptr (cS v6),.eptr (cS v7)]] [],.cells [sl aa m] [(0,137)]],[.cells [.func (.func 105) [] [.bptr 1 0,.eptr ((cL aa) v2),.bptr 2 0]] [],.cells [.func (.func 55) [] [.eptr (cS v3),.eptr (cS v4),.eptr (cS v5)],.func (.func 54) [] [.eptr (cS v6),.eptr (cS v7)]] [],.cells [sl aa r3.2] [(0,137)]],[.cells [.func (.func 105) [] [.bptr 1 0,.eptr ((cL aa) v2),.bptr 2 0]] [],.cells [.func (.func 55) [] [.eptr (cS v3),.eptr (cS v4),.eptr (cS v5)],.func (.func 54) [] [.eptr (cS v6),.eptr (cS v7)]] [],.cells [sl aa r3.2] [(0,137)]],.agg (au r3.1),.agg (au r3.1),[]⟩) (hZ br3)<|sf (aI (xR [0,1,2] (.agg (au x2)) (aZ x2)) (aI (xR [0,1,2] (.eptr (cB v)) (Yo v)) (aI (xB [0,1,2] 0 0 0 rfl) trivial)))<|sf (aI (aI (rB (.cells [.func (.func 105) [] [.bptr 1 0,.eptr ((cL aa) v2),.bptr 2 0]] [])) (aI (rW []) (aI (xF [0,1,2] (.func 105) [] [.bptr 1 0,.eptr ((cL aa) v2),.bptr 2 0] [] [.bptr 1 0,.eptr ((cL aa) v2),.bptr 2 0] trivial (aI (xB [0,1,2] 1 1 0 rfl) (aI (xR [0,1,2] (.eptr ((cL aa) v2)) (mP av v2)) (aI (xB [0,1,2] 2 2 0 rfl) trivial)))) trivial))) (aI (aI (rB (.cells [.func (.func 55) [] [.eptr (cS v3),.eptr (cS v4),.eptr (cS v5)],.func (.func 54) [] [.eptr (cS v6),.eptr (cS v7)]] [])) (aI (rW []) (aI (xR [0,1,2] (.func (.func 55) [] [.eptr (cS v3),.eptr (cS v4),.eptr (cS v5)]) (aI trivial (aI (bz v3) (aI (bz v4) (aI (bz v5) trivial))))) (aI (xR [0,1,2] (.func (.func 54) [] [.eptr (cS v6),.eptr (cS v7)]) (aI trivial (aI (bz v6) (aI (bz v7) trivial)))) trivial)))) (aI (aI (rB (.cells [sl aa m] [(0,137)])) (aI (rW [(0,137)]) (aI (xR [0,1,2] (sl aa m) (aj av m)) trivial))) trivial)))<|sf (aI (aI (rW []) (aI (xF [0,1,2] (.func 105) [] [.bptr 1 0,.eptr ((cL aa) v2),.bptr 2 0] [] [.bptr 1 0,.eptr ((cL aa) v2),.bptr 2 0] trivial (aI (xB [0,1,2] 1 1 0 rfl) (aI (xR [0,1,2] (.eptr ((cL aa) v2)) (mP av v2)) (aI (xB [0,1,2] 2 2 0 rfl) trivial)))) trivial)) (aI (aI (rW []) (aI (xR [0,1,2] (.func (.func 55) [] [.eptr (cS v3),.eptr (cS v4),.eptr (cS v5)]) (aI trivial (aI (bz v3) (aI (bz v4) (aI (bz v5) trivial))))) (aI (xR [0,1,2] (.func (.func 54) [] [.eptr (cS v6),.eptr (cS v7)]) (aI trivial (aI (bz v6) (aI (bz v7) trivial)))) trivial))) (aI (aI (rW [(0,137)]) (aI (xR [0,1,2] (sl aa r3.2) (aj av r3.2)) trivial)) trivial)))<|sf (xR [0,1,2] (.agg (au r3.1)) (aZ r3.1))<|sv (lH.mk' (v:=Da) AA ([r3.1]:List aw) 1 (by kernel_rfl))<|sv (lH.ap bl4)<|tr 3 .normal (bk v t8 t9 v2 v3 v4 v5 v6 v7 l4 (bB (t10+1)) r3.2) rfl (du (aI (aI trivial (aI (a8 (Yo v)) (aI (aT rfl) trivial))) (aI (up (aj aZ l4)) (aI (up (aj aZ t8)) (aI trivial (aI trivial trivial)))))) (aI (aI (aI trivial (aI (aT rfl) (aI (a8 (mP av v2)) (aI (aT rfl) trivial)))) trivial) (aI (aI (aI trivial (aI (a8 (bz v3)) (aI (a8 (bz v4)) (aI (a8 (bz v5)) trivial)))) (aI (aI trivial (aI (a8 (bz v6)) (aI (a8 (bz v7)) trivial))) trivial)) (aI (aI (up (aj av r3.2)) trivial) trivial)))
  exact dy (A:=SU) mixed z<|by kernel_rfl
 ·obtain rfl:=lf h
  have z:=sg 0 c1<|eF (.exit 0) (bV v2 v3 v4 v5 v6 v7 (out,m))
  exact hU SU (Zn rfl) z<|by kernel_rfl
theorem fx{x:(waE×(List ag))}(h:dq v t8 t9 v2 v3 v4 v5 v6 v7 out t10 m=some x):aW Pg GE 3 (.loop (cA S2 119)) (EX (.exit 0) (bV v2 v3 v4 v5 v6 v7 x)) (bk v t8 t9 v2 v3 v4 v5 v6 v7 out t10 m):=
 ZL h fun _ _ hy=>fu _ _ _ _ _ _ _ _ _ _ _ _ hy
end
def dC(a:waE)(c:Bool)(c2:(List ag))(c3:ae)(c4:ae)(c5:ae)(c6:ae)(c7:ae)(k2:(List ag)):Option (waE×(List ag)):=
 (dq c a (a.length:Int) c2 c3 c4 c5 c6 c7 ([]:List aw) 0 k2).bind fun o5=>
 some (o5.1,o5.2)
theorem fR{a:waE}{c:Bool}{c2:(List ag)}{c3:ae}{c4:ae}{c5:ae}{c6:ae}{c7:ae}{k2:(List ag)}{r:waE×(List ag)}(h:dC a c c2 c3 c4 c5 c6 c7 k2=some r):C Pg GE 107 [sl au a,.func (.func 108) [] [.eptr (cB c),.bptr 0 0]] [] [.cells [.func (.func 105) [] [.bptr 1 0,.eptr ((cL aa) c2),.bptr 2 0]] [],.cells [.func (.func 55) [] [.eptr (cS c3),.eptr (cS c4),.eptr (cS c5)],.func (.func 54) [] [.eptr (cS c6),.eptr (cS c7)]] [],.cells [sl aa k2] [(0,137)]] (sl au r.1) [(0,85)] [.cells [.func (.func 105) [] [.bptr 1 0,.eptr ((cL aa) c2),.bptr 2 0]] [],.cells [.func (.func 55) [] [.eptr (cS c3),.eptr (cS c4),.eptr (cS c5)],.func (.func 54) [] [.eptr (cS c6),.eptr (cS c7)]] [],.cells [sl aa r.2] [(0,137)]]:=by
 obtain⟨o5,bo5,h⟩:=ck h
 obtain rfl:=lf h
 have z:=bQ (lH.ln a)<|cT (fx c a (a.length:Int) c2 c3 c4 c5 c6 c7 ([]:List aw) 0 k2 bo5)<|en (aI (rP (sl au o5.1))<|aI (up (n:=3) (aj aZ o5.1))<|aI (rL [.cells [.func (.func 105) [] [.bptr 1 0,.eptr ((cL aa) c2),.bptr 2 0]] [],.cells [.func (.func 55) [] [.eptr (cS c3),.eptr (cS c4),.eptr (cS c5)],.func (.func 54) [] [.eptr (cS c6),.eptr (cS c7)]] [],.cells [sl aa o5.2] [(0,137)]])<|(aI (aI (aI trivial (aI (aT (i:=1) (n:=3) rfl) (aI (a8 (n:=3) (mP av c2)) (aI (aT (i:=2) (n:=3) rfl) trivial)))) trivial) (aI (aI (aI trivial (aI (a8 (n:=3) (bz c3)) (aI (a8 (n:=3) (bz c4)) (aI (a8 (n:=3) (bz c5)) trivial)))) (aI (aI trivial (aI (a8 (n:=3) (bz c6)) (aI (a8 (n:=3) (bz c7)) trivial))) trivial)) (aI (aI (up (n:=3) (aj av o5.2)) trivial) trivial))))
 exact C.evGp (A:=SU) mixed (m:=3) (c:=S2) rfl call107 func107 rfl z<|by kernel_rfl
section
variable(t1:(List ag))(v:aJ)(t13:waA)(t14:Int)(v4:ae)(v5:ae)(v6:ae)(v7:ae)(v8:ae)(m:waF)(m2:waE)(m3:waD)(m4:waC)(v2:(List ag))(v3:waA)(t15:Int)
def cG:aB:=aS 44 [(1,.eptr ((cL aa) t1)),(2,.bptr 0 0),(3,.eptr (aA v)),(4,.bptr 2 0),(5,sl aa v2),(6,sl cS v3),(13,sl cS t13),(14,.int .i64 t14),(15,.int .i64 t15)] [.cells [.func (.func 55) [] [.eptr (cS v4),.eptr (cS v5),.eptr (cS v6)],.func (.func 54) [] [.eptr (cS v7),.eptr (cS v8)]] [],.dead,.cells [.str ([]:ae),sl cS ([]:List ae),.int .i64 0,.str ([]:ae),.int .i64 0,sl ac m,sl au m2,sl aA m3,sl ah m4] [(1,9),(5,28),(6,85),(7,89),(8,60)]] [((6,0),9),((5,0),137)]
def dJ(o:(List ag)×waA):aB:=aS 44 [(2,.bptr 0 0),(3,.eptr (aA v)),(4,.bptr 2 0),(5,sl aa o.1),(6,sl cS o.2)] [.cells [.func (.func 55) [] [.eptr (cS v4),.eptr (cS v5),.eptr (cS v6)],.func (.func 54) [] [.eptr (cS v7),.eptr (cS v8)]] [],.dead,.cells [.str ([]:ae),sl cS ([]:List ae),.int .i64 0,.str ([]:ae),.int .i64 0,sl ac m,sl au m2,sl aA m3,sl ah m4] [(1,9),(5,28),(6,85),(7,89),(8,60)]] [((6,0),9),((5,0),137)]
def fG:Option (((List ag)×waA×Int)⊕(((List ag)×waA))):=
 if(decide (t15<t14))=true then
  (eT t13 t15).bind fun x3=>
  (wS x3 t1 v4 v5 v6).bind fun r4=>
  (app v3 ([r4]:List ae)).bind fun l5=>
  (app v2 ([(⟨x3,r4⟩:ag)]:List ag)).bind fun l6=>
  some (.inl (l6,l5,bB (t15+1)))
 else
  some (.inr (v2,v3))
def gh:Option (((List ag)×waA)):=loop (fun(zz:(List ag)×waA×Int)=>fG t1 t13 t14 v4 v5 v6 zz.1 zz.2.1 zz.2.2) (v2,v3,t15)
theorem kL{y:((List ag)×waA×Int)⊕(((List ag)×waA))}(h:fG t1 t13 t14 v4 v5 v6 v2 v3 t15=some y):aW Pg GE 1 (cA S4 247) (LQ (fun(zz:(List ag)×waA×Int)=>cG t1 v t13 t14 v4 v5 v6 v7 v8 m m2 m3 m4 zz.1 zz.2.1 zz.2.2) (fun _=>.exit 0) (dJ v v4 v5 v6 v7 v8 m m2 m3 m4) y) (cG t1 v t13 t14 v4 v5 v6 v7 v8 m m2 m3 m4 v2 v3 t15):=by
 rcases aO h with⟨c2,h⟩|⟨c2,h⟩
 ·obtain⟨x3,bx3,r4,br4,l5,bl5,l6,bl6,h⟩:=Zb4 h
  obtain rfl:=lf h
  exact wJ SX (sg 0 c2<|sv (bN.ia (k:=.i64) bx3)<|sv (b8 AF (.str x3) [])<|ss<|sv (b8 J7 (sl aa t1) [])<|cD (yj br4)<|sv (bN.mk' (v:=PVal.str) Ij ([r4]:List ae) 1 (by kernel_rfl))<|sv (bN.ap bl5)<|sv (lj x3 r4)<|sv (Mc.mk' (v:=oT) pn ([(⟨x3,r4⟩:ag)]:List ag) 1 (by kernel_rfl))<|sv (Mc.ap bl6)<|eF .normal (cG t1 v t13 t14 v4 v5 v6 v7 v8 m m2 m3 m4 l6 l5 (bB (t15+1))))<|by kernel_rfl
 ·obtain rfl:=lf h
  have z:=sg 0 c2<|eF (.exit 0) (dJ v v4 v5 v6 v7 v8 m m2 m3 m4 (v2,v3))
  exact hU SX (Zn rfl) z<|by kernel_rfl
theorem kT{x:((List ag)×waA)}(h:gh t1 t13 t14 v4 v5 v6 v2 v3 t15=some x):aW Pg GE 1 (.loop (cA S4 247)) (EX (.exit 0) (dJ v v4 v5 v6 v7 v8 m m2 m3 m4 x)) (cG t1 v t13 t14 v4 v5 v6 v7 v8 m m2 m3 m4 v2 v3 t15):=
 ZL h fun _ _ hy=>kL _ _ _ _ _ _ _ _ _ _ _ _ _ _ _ _ hy
end
def iq(R45:aV)(a:aJ)(a2:(List ag))(c:ae)(c2:ae)(c3:ae)(c4:ae)(c5:ae):Option aJ:=
 (pC a2).bind fun r1=>
 (gh a2 a.Names (a.Names.length:Int) c c2 c3 r1 ([]:List ae) 0).bind fun o7=>
 (R45 c c2 c3 c4 c5 a.Body o7.1).bind fun r8=>
 some (⟨a.Con,o7.2,r8⟩:aJ)
theorem mm(R45:aV)(hR45:bA R45){a:aJ}{a2:(List ag)}{c:ae}{c2:ae}{c3:ae}{c4:ae}{c5:ae}{r:aJ}(h:iq R45 a a2 c c2 c3 c4 c5=some r):C Pg GE 110 [.agg (aA a),.eptr ((cL aa) a2),.bptr 0 0] [] [.cells [.func (.func 55) [] [.eptr (cS c),.eptr (cS c2),.eptr (cS c3)],.func (.func 54) [] [.eptr (cS c4),.eptr (cS c5)]] []] (.agg (aA r)) [] [.cells [.func (.func 55) [] [.eptr (cS c),.eptr (cS c2),.eptr (cS c3)],.func (.func 54) [] [.eptr (cS c4),.eptr (cS c5)]] []]:=by
 obtain⟨r1,br1,o7,bo7,r8,br8,h⟩:=Zb3 h
 obtain rfl:=lf h
 have z:=se (Ph a)<|sx Io<|sv (b8 J7 (sl aa a2) [])<|cD (xN br1)<|sv (qy a)<|sv (qE a)<|bQ (bN.ln a.Names)<|cT (kT a2 a a.Names (a.Names.length:Int) c c2 c3 c4 c5 ([]:List af) ([]:List aw) ([]:List aJ) ([]:List ai) r1 ([]:List ae) 0 bo7)<|G0 [0,1,0,0,0,16,0,120,255,511]<|sv (Aq a)<|sv (Cn a)<|sv (show bo Pg 95 [.func (.func 55) [] [.eptr (cS c),.eptr (cS c2),.eptr (cS c3)],.func (.func 54) [] [.eptr (cS c4),.eptr (cS c5)]]=some (.agg [.func (.func 55) [] [.eptr (cS c),.eptr (cS c2),.eptr (cS c3)],.func (.func 54) [] [.eptr (cS c4),.eptr (cS c5)]]) by kernel_rfl)<|sv (qz a)<|sv (qF a)<|cD (hR45 _ _ _ _ _ _ _ _ br8)<|sv (Ef a.Con o7.2 r8)<|sx (i7 (⟨a.Con,o7.2,r8⟩:aJ))<|en (aI (QV (⟨a.Con,o7.2,r8⟩:aJ))<|aI (ZD (n:=1) (bF (⟨a.Con,o7.2,r8⟩:aJ)))<|aI (rL [.cells [.func (.func 55) [] [.eptr (cS c),.eptr (cS c2),.eptr (cS c3)],.func (.func 54) [] [.eptr (cS c4),.eptr (cS c5)]] []])<|(aI (aI (aI trivial (aI (a8 (n:=1) (bz c)) (aI (a8 (n:=1) (bz c2)) (aI (a8 (n:=1) (bz c3)) trivial)))) (aI (aI trivial (aI (a8 (n:=1) (bz c4)) (aI (a8 (n:=1) (bz c5)) trivial))) trivial)) trivial))
 exact C.evGp (A:=SX) mixed (m:=1) (c:=S4) rfl call110 func110 rfl z<|by kernel_rfl
section
variable(R45:aV)(v:(List ag))(t8:waD)(t9:Int)(v2:ae)(v3:ae)(v4:ae)(v5:ae)(v6:ae)(out:waD)(t10:Int)
def cc:aB:=aS 22 [(1,.func (.func 110) [] [.eptr ((cL aa) v),.bptr 0 0]),(5,sl aA out),(8,sl aA t8),(9,.int .i64 t9),(10,.int .i64 t10)] [.cells [.func (.func 55) [] [.eptr (cS v2),.eptr (cS v3),.eptr (cS v4)],.func (.func 54) [] [.eptr (cS v5),.eptr (cS v6)]] []] [((5,0),89)]
def dg(o:waD):aB:=aS 22 [(5,sl aA o)] [.cells [.func (.func 55) [] [.eptr (cS v2),.eptr (cS v3),.eptr (cS v4)],.func (.func 54) [] [.eptr (cS v5),.eptr (cS v6)]] []] [((5,0),89)]
def eW:Option ((waD×Int)⊕(waD)):=
 if(decide (t10<t9))=true then
  (eT t8 t10).bind fun x2=>
  (iq R45 x2 v v2 v3 v4 v5 v6).bind fun r3=>
  (app out ([r3]:List aJ)).bind fun l4=>
  some (.inl (l4,bB (t10+1)))
 else
  some (.inr out)
def fm:Option waD:=loop (fun(zz:waD×Int)=>eW R45 v t8 t9 v2 v3 v4 v5 v6 zz.1 zz.2) (out,t10)
theorem jt(hR45:bA R45){y:(waD×Int)⊕(waD)}(h:eW R45 v t8 t9 v2 v3 v4 v5 v6 out t10=some y):aW Pg GE 1 (cA S3 119) (LQ (fun(zz:waD×Int)=>cc v t8 t9 v2 v3 v4 v5 v6 zz.1 zz.2) (fun _=>.exit 0) (dg v2 v3 v4 v5 v6) y) (cc v t8 t9 v2 v3 v4 v5 v6 out t10):=by
 rcases aO h with⟨c1,h⟩|⟨c1,h⟩
 ·obtain⟨x2,bx2,r3,br3,l4,bl4,h⟩:=Zb3 h
  obtain rfl:=lf h
  have z:=sg 0 c1<|sv (eZ.ia (k:=.i64) bx2)<|sv (mA x2)<|sx Io<|sx (i7 x2)<|sv (Qq x2 [])<|si (.cg ⟨[0],[.agg (aA x2),.eptr ((cL aa) v),.bptr 0 0],[],[.cells [.func (.func 55) [] [.eptr (cS v2),.eptr (cS v3),.eptr (cS v4)],.func (.func 54) [] [.eptr (cS v5),.eptr (cS v6)]] []],[.cells [.func (.func 55) [] [.eptr (cS v2),.eptr (cS v3),.eptr (cS v4)],.func (.func 54) [] [.eptr (cS v5),.eptr (cS v6)]] []],[.cells [.func (.func 55) [] [.eptr (cS v2),.eptr (cS v3),.eptr (cS v4)],.func (.func 54) [] [.eptr (cS v5),.eptr (cS v6)]] []],[.cells [.func (.func 55) [] [.eptr (cS v2),.eptr (cS v3),.eptr (cS v4)],.func (.func 54) [] [.eptr (cS v5),.eptr (cS v6)]] []],.agg (aA r3),.agg (aA r3),[]⟩) (mm R45 hR45 br3)<|sf (aI (xR [0] (.agg (aA x2)) (bF x2)) (aI (xR [0] (.eptr ((cL aa) v)) (mP av v)) (aI (xB [0] 0 0 0 rfl) trivial)))<|sf (aI (aI (rB (.cells [.func (.func 55) [] [.eptr (cS v2),.eptr (cS v3),.eptr (cS v4)],.func (.func 54) [] [.eptr (cS v5),.eptr (cS v6)]] [])) (aI (rW []) (aI (xR [0] (.func (.func 55) [] [.eptr (cS v2),.eptr (cS v3),.eptr (cS v4)]) (aI trivial (aI (bz v2) (aI (bz v3) (aI (bz v4) trivial))))) (aI (xR [0] (.func (.func 54) [] [.eptr (cS v5),.eptr (cS v6)]) (aI trivial (aI (bz v5) (aI (bz v6) trivial)))) trivial)))) trivial)<|sf (aI (aI (rW []) (aI (xR [0] (.func (.func 55) [] [.eptr (cS v2),.eptr (cS v3),.eptr (cS v4)]) (aI trivial (aI (bz v2) (aI (bz v3) (aI (bz v4) trivial))))) (aI (xR [0] (.func (.func 54) [] [.eptr (cS v5),.eptr (cS v6)]) (aI trivial (aI (bz v5) (aI (bz v6) trivial)))) trivial))) trivial)<|sf (xR [0] (.agg (aA r3)) (bF r3))<|sv (eZ.mk' (v:=Sb) QD ([r3]:List aJ) 1 (by kernel_rfl))<|sv (eZ.ap bl4)<|tr 1 .normal (cc v t8 t9 v2 v3 v4 v5 v6 l4 (bB (t10+1))) rfl (du (aI (aI trivial (aI (a8 (mP av v)) (aI (aT rfl) trivial))) (aI (up (aj bF l4)) (aI (up (aj bF t8)) (aI trivial (aI trivial trivial)))))) (aI (aI (aI trivial (aI (a8 (bz v2)) (aI (a8 (bz v3)) (aI (a8 (bz v4)) trivial)))) (aI (aI trivial (aI (a8 (bz v5)) (aI (a8 (bz v6)) trivial))) trivial)) trivial)
  exact dy (A:=SW) mixed z<|by kernel_rfl
 ·obtain rfl:=lf h
  have z:=sg 0 c1<|eF (.exit 0) (dg v2 v3 v4 v5 v6 out)
  exact hU SW (Zn rfl) z<|by kernel_rfl
theorem jF(hR45:bA R45){x:waD}(h:fm R45 v t8 t9 v2 v3 v4 v5 v6 out t10=some x):aW Pg GE 1 (.loop (cA S3 119)) (EX (.exit 0) (dg v2 v3 v4 v5 v6 x)) (cc v t8 t9 v2 v3 v4 v5 v6 out t10):=
 ZL h fun _ _ hy=>jt _ _ _ _ _ _ _ _ _ _ _ hR45 hy
end
def fF(R45:aV)(a:waD)(c:(List ag))(c2:ae)(c3:ae)(c4:ae)(c5:ae)(c6:ae):Option waD:=
 (fm R45 c a (a.length:Int) c2 c3 c4 c5 c6 ([]:List aJ) 0).bind fun o5=>
 some o5
theorem kj(R45:aV)(hR45:bA R45){a:waD}{c:(List ag)}{c2:ae}{c3:ae}{c4:ae}{c5:ae}{c6:ae}{r:waD}(h:fF R45 a c c2 c3 c4 c5 c6=some r):C Pg GE 109 [sl aA a,.func (.func 110) [] [.eptr ((cL aa) c),.bptr 0 0]] [] [.cells [.func (.func 55) [] [.eptr (cS c2),.eptr (cS c3),.eptr (cS c4)],.func (.func 54) [] [.eptr (cS c5),.eptr (cS c6)]] []] (sl aA r) [(0,89)] [.cells [.func (.func 55) [] [.eptr (cS c2),.eptr (cS c3),.eptr (cS c4)],.func (.func 54) [] [.eptr (cS c5),.eptr (cS c6)]] []]:=by
 obtain⟨o5,bo5,h⟩:=ck h
 obtain rfl:=lf h
 have z:=bQ (eZ.ln a)<|cT (jF R45 c a (a.length:Int) c2 c3 c4 c5 c6 ([]:List aJ) 0 hR45 bo5)<|en (aI (rP (sl aA o5))<|aI (up (n:=1) (aj bF o5))<|aI (rL [.cells [.func (.func 55) [] [.eptr (cS c2),.eptr (cS c3),.eptr (cS c4)],.func (.func 54) [] [.eptr (cS c5),.eptr (cS c6)]] []])<|(aI (aI (aI trivial (aI (a8 (n:=1) (bz c2)) (aI (a8 (n:=1) (bz c3)) (aI (a8 (n:=1) (bz c4)) trivial)))) (aI (aI trivial (aI (a8 (n:=1) (bz c5)) (aI (a8 (n:=1) (bz c6)) trivial))) trivial)) trivial))
 exact C.evGp (A:=SW) mixed (m:=1) (c:=S3) rfl call109 func109 rfl z<|by kernel_rfl
section
variable(scope:(List ag))(v:ae)(v2:ae)(v3:ae)(v4:ae)(v5:ae)(m:Int)(m2:ae)(m3:Int)(m4:waF)(m5:waE)(m6:waD)(m7:waC)(m8:waF)(m9:waE)(m10:waD)(m11:waC)(m12:(List ag))
def mo:aB:=aS 96 [(3,.bptr 0 0),(4,.bptr 1 0),(5,.eptr ((cL aa) scope)),(6,.bptr 3 0),(7,.bptr 4 0),(8,.bptr 5 0)] [.cells [.func (.func 55) [] [.eptr (cS v),.eptr (cS v2),.eptr (cS v3)],.func (.func 54) [] [.eptr (cS v4),.eptr (cS v5)]] [],.cells [.int .i64 m,.str m2,.int .i64 m3,sl ac m4,sl au m5,sl aA m6,sl ah m7] [(6,60)],.dead,.cells [.int .i64 0,.str ([]:ae),.int .i64 0,sl ac m8,sl au m9,sl aA m10,sl ah m11] [(3,28),(4,85),(5,89),(6,60)],.cells [sl aa m12] [(0,137)],.cells [.func (.func 105) [] [.bptr 0 0,.eptr ((cL aa) scope),.bptr 4 0]] []] []
def ca(o:ae×(List ag)):aB:=aS 96 [(3,.bptr 0 0),(4,.bptr 1 0),(5,.eptr ((cL aa) scope)),(6,.bptr 3 0),(7,.bptr 4 0),(8,.bptr 5 0)] [.cells [.func (.func 55) [] [.eptr (cS v),.eptr (cS v2),.eptr (cS v3)],.func (.func 54) [] [.eptr (cS v4),.eptr (cS v5)]] [],.cells [.int .i64 m,.str o.1,.int .i64 m3,sl ac m4,sl au m5,sl aA m6,sl ah m7] [(6,60)],.dead,.cells [.int .i64 0,.str ([]:ae),.int .i64 0,sl ac m8,sl au m9,sl aA m10,sl ah m11] [(3,28),(4,85),(5,89),(6,60)],.cells [sl aa o.2] [(0,137)],.cells [.func (.func 105) [] [.bptr 0 0,.eptr ((cL aa) scope),.bptr 4 0]] []] []
def g6:Option ((ae×(List ag))):=
 (fj (⟨m,m2,m3,m4,m5,m6,m7⟩:af)).bind fun r3=>
 if r3=true then
  (yk scope m2).bind fun r6=>
  if r6.2=true then
   some (r6.1,m12)
  else
   (CT m2 v4 v5).bind fun r9=>
   some (r9,m12)
 else
  if(m==7)=true then
   (eH m2 scope v v2 v3 v4 v5 m12).bind fun r12=>
   some (r12.1,r12.2)
  else
   some (m2,m12)
theorem lN{x:(ae×(List ag))}(h:g6 scope v v2 v3 v4 v5 m m2 m3 m4 m5 m6 m7 m12=some x):aW Pg GE 0 (cA VP 62) (EX .normal (ca scope v v2 v3 v4 v5 m m3 m4 m5 m6 m7 m8 m9 m10 m11 x)) (mo scope v v2 v3 v4 v5 m m2 m3 m4 m5 m6 m7 m8 m9 m10 m11 m12):=by
 obtain⟨r3,br3,h⟩:=ck h
 have p5:=fun{sc F} (r:PS sc F)=>sv (bW (⟨m,m2,m3,m4,m5,m6,m7⟩:af) [])<|cD (jj br3)<|r
 rcases aO h with⟨c4,h⟩|⟨c4,h⟩
 ·obtain⟨r6,br6,h⟩:=ck h
  have p8:=fun{sc F} (r:PS sc F)=>p5<|sg 0 c4<|sv (b8 J7 (sl aa scope) [])<|ss<|cD (CW br6)<|r
  rcases aO h with⟨c7,h⟩|⟨c7,h⟩
  ·obtain rfl:=lf h
   exact bv Nl (p8<|sg 0 c7<|ss<|eF .normal (ca scope v v2 v3 v4 v5 m m3 m4 m5 m6 m7 m8 m9 m10 m11 (r6.1,m12)))<|by kernel_rfl
  ·obtain⟨r9,br9,h⟩:=ck h
   obtain rfl:=lf h
   exact bv Nl (p8<|sg 0 c7<|ss<|ss<|cD (Hb br9)<|ss<|eF .normal (ca scope v v2 v3 v4 v5 m m3 m4 m5 m6 m7 m8 m9 m10 m11 (r9,m12)))<|by kernel_rfl
 ·have p11:=fun{sc F} (r:PS sc F)=>p5<|sg 0 c4<|ss<|r
  rcases aO h with⟨c10,h⟩|⟨c10,h⟩
  ·obtain⟨r12,br12,h⟩:=ck h
   obtain rfl:=lf h
   exact bv Nl (p11<|sg 0 c10<|ss<|ss<|si (.cg ⟨[0,4],[.str m2,.bptr 0 0,.eptr ((cL aa) scope),.bptr 1 0],[],[.cells [.func (.func 55) [] [.eptr (cS v),.eptr (cS v2),.eptr (cS v3)],.func (.func 54) [] [.eptr (cS v4),.eptr (cS v5)]] [],.cells [sl aa m12] [(0,137)]],[.cells [.func (.func 55) [] [.eptr (cS v),.eptr (cS v2),.eptr (cS v3)],.func (.func 54) [] [.eptr (cS v4),.eptr (cS v5)]] [],.cells [sl aa m12] [(0,137)]],[.cells [.func (.func 55) [] [.eptr (cS v),.eptr (cS v2),.eptr (cS v3)],.func (.func 54) [] [.eptr (cS v4),.eptr (cS v5)]] [],.cells [sl aa r12.2] [(0,137)]],[.cells [.func (.func 55) [] [.eptr (cS v),.eptr (cS v2),.eptr (cS v3)],.func (.func 54) [] [.eptr (cS v4),.eptr (cS v5)]] [],.cells [sl aa r12.2] [(0,137)]],.str r12.1,.str r12.1,[]⟩) (gf br12)<|sf (aI (xR [0,4] (.str m2) trivial) (aI (xB [0,4] 0 0 0 rfl) (aI (xR [0,4] (.eptr ((cL aa) scope)) (mP av scope)) (aI (xB [0,4] 1 4 0 rfl) trivial))))<|sf (aI (aI (rB (.cells [.func (.func 55) [] [.eptr (cS v),.eptr (cS v2),.eptr (cS v3)],.func (.func 54) [] [.eptr (cS v4),.eptr (cS v5)]] [])) (aI (rW []) (aI (xR [0,4] (.func (.func 55) [] [.eptr (cS v),.eptr (cS v2),.eptr (cS v3)]) (aI trivial (aI (bz v) (aI (bz v2) (aI (bz v3) trivial))))) (aI (xR [0,4] (.func (.func 54) [] [.eptr (cS v4),.eptr (cS v5)]) (aI trivial (aI (bz v4) (aI (bz v5) trivial)))) trivial)))) (aI (aI (rB (.cells [sl aa m12] [(0,137)])) (aI (rW [(0,137)]) (aI (xR [0,4] (sl aa m12) (aj av m12)) trivial))) trivial))<|sf (aI (aI (rW []) (aI (xR [0,4] (.func (.func 55) [] [.eptr (cS v),.eptr (cS v2),.eptr (cS v3)]) (aI trivial (aI (bz v) (aI (bz v2) (aI (bz v3) trivial))))) (aI (xR [0,4] (.func (.func 54) [] [.eptr (cS v4),.eptr (cS v5)]) (aI trivial (aI (bz v4) (aI (bz v5) trivial)))) trivial))) (aI (aI (rW [(0,137)]) (aI (xR [0,4] (sl aa r12.2) (aj av r12.2)) trivial)) trivial))<|sf (xR [0,4] (.str r12.1) trivial)<|ss<|eF .normal (ca scope v v2 v3 v4 v5 m m3 m4 m5 m6 m7 m8 m9 m10 m11 (r12.1,r12.2)))<|by kernel_rfl
  ·obtain rfl:=lf h
   exact bv Nl (p11<|sg 0 c10<|eF .normal (ca scope v v2 v3 v4 v5 m m3 m4 m5 m6 m7 m8 m9 m10 m11 (m2,m12)))<|by kernel_rfl
end
section
variable(scope:(List ag))(kids:waF)(i:Int)(t59:waF)(t60:Int)(v:ae)(v2:ae)(v3:ae)(v4:ae)(v5:ae)(m:Int)(m2:ae)(m3:Int)(m4:waE)(m5:waD)(m6:waC)(m7:waF)(m8:waE)(m9:waD)(m10:waC)(m11:(List ag))(m12:Int)(m13:ae)(m14:Int)(m15:waF)(m16:waE)(m17:waD)(m18:waC)
def mq:aB:=aS 96 [(3,.bptr 0 0),(4,.bptr 1 0),(5,.eptr ((cL aa) scope)),(6,.bptr 3 0),(7,.bptr 4 0),(12,sl ac kids),(13,.int .i64 i),(14,.bptr 7 0),(59,sl ac t59),(60,.int .i64 t60),(61,.int .i64 i)] [.cells [.func (.func 55) [] [.eptr (cS v),.eptr (cS v2),.eptr (cS v3)],.func (.func 54) [] [.eptr (cS v4),.eptr (cS v5)]] [],.cells [.int .i64 m,.str m2,.int .i64 m3,sl ac t59,sl au m4,sl aA m5,sl ah m6] [(4,85),(6,60)],.dead,.cells [.int .i64 0,.str ([]:ae),.int .i64 0,sl ac m7,sl au m8,sl aA m9,sl ah m10] [(3,28),(4,85),(5,89),(6,60)],.cells [sl aa m11] [(0,137)],.cells [.func (.func 105) [] [.bptr 0 0,.eptr ((cL aa) scope),.bptr 4 0]] [],.dead,.cells [.int .i64 m12,.str m13,.int .i64 m14,sl ac m15,sl au m16,sl aA m17,sl ah m18] []] [((12,0),28)]
def dY(o:Bool):aB:=aS 96 [(3,.bptr 0 0),(4,.bptr 1 0),(5,.eptr ((cL aa) scope)),(6,.bptr 3 0),(7,.bptr 4 0),(12,sl ac kids),(14,.bptr 7 0),(59,sl ac t59),(60,.int .i64 t60),(61,.int .i64 i),(72,.bool o)] [.cells [.func (.func 55) [] [.eptr (cS v),.eptr (cS v2),.eptr (cS v3)],.func (.func 54) [] [.eptr (cS v4),.eptr (cS v5)]] [],.cells [.int .i64 m,.str m2,.int .i64 m3,sl ac t59,sl au m4,sl aA m5,sl ah m6] [(4,85),(6,60)],.dead,.cells [.int .i64 0,.str ([]:ae),.int .i64 0,sl ac m7,sl au m8,sl aA m9,sl ah m10] [(3,28),(4,85),(5,89),(6,60)],.cells [sl aa m11] [(0,137)],.cells [.func (.func 105) [] [.bptr 0 0,.eptr ((cL aa) scope),.bptr 4 0]] [],.dead,.cells [.int .i64 m12,.str m13,.int .i64 m14,sl ac m15,sl au m16,sl aA m17,sl ah m18] []] [((12,0),28)]
def g7:Option Bool:=
 if(m==7)=true then
  some (i==0)
 else
  some false
theorem lO{x:Bool}(h:g7 i m=some x):aW Pg GE 0 (cA VP 523766) (EX .normal (dY scope kids i t59 t60 v v2 v3 v4 v5 m m2 m3 m4 m5 m6 m7 m8 m9 m10 m11 m12 m13 m14 m15 m16 m17 m18 x)) (mq scope kids i t59 t60 v v2 v3 v4 v5 m m2 m3 m4 m5 m6 m7 m8 m9 m10 m11 m12 m13 m14 m15 m16 m17 m18):=by
 rcases aO h with⟨c17,h⟩|⟨c17,h⟩
 ·obtain rfl:=lf h
  exact bv Nl (ss<|sg 4 c17<|eF .normal (dY scope kids i t59 t60 v v2 v3 v4 v5 m m2 m3 m4 m5 m6 m7 m8 m9 m10 m11 m12 m13 m14 m15 m16 m17 m18 (i==0)))<|by kernel_rfl
 ·obtain rfl:=lf h
  exact bv Nl (ss<|sg 4 c17<|eF .normal (dY scope kids i t59 t60 v v2 v3 v4 v5 m m2 m3 m4 m5 m6 m7 m8 m9 m10 m11 m12 m13 m14 m15 m16 m17 m18 false))<|by kernel_rfl
end
section
variable(R45:aV)(scope:(List ag))(t59:waF)(t60:Int)(v:ae)(v2:ae)(v3:ae)(v4:ae)(v5:ae)(m:Int)(m2:ae)(m3:Int)(m4:waE)(m5:waD)(m6:waC)(m7:waF)(m8:waE)(m9:waD)(m10:waC)(m11:(List ag))(kids:waF)(t61:Int)
def cb:aB:=aS 96 [(3,.bptr 0 0),(4,.bptr 1 0),(5,.eptr ((cL aa) scope)),(6,.bptr 3 0),(7,.bptr 4 0),(12,sl ac kids),(59,sl ac t59),(60,.int .i64 t60),(61,.int .i64 t61)] [.cells [.func (.func 55) [] [.eptr (cS v),.eptr (cS v2),.eptr (cS v3)],.func (.func 54) [] [.eptr (cS v4),.eptr (cS v5)]] [],.cells [.int .i64 m,.str m2,.int .i64 m3,sl ac t59,sl au m4,sl aA m5,sl ah m6] [(4,85),(6,60)],.dead,.cells [.int .i64 0,.str ([]:ae),.int .i64 0,sl ac m7,sl au m8,sl aA m9,sl ah m10] [(3,28),(4,85),(5,89),(6,60)],.cells [sl aa m11] [(0,137)],.cells [.func (.func 105) [] [.bptr 0 0,.eptr ((cL aa) scope),.bptr 4 0]] [],.dead] [((12,0),28)]
def dZ(o:waF):aB:=aS 96 [(3,.bptr 0 0),(4,.bptr 1 0),(5,.eptr ((cL aa) scope)),(6,.bptr 3 0),(12,sl ac o)] [.cells [.func (.func 55) [] [.eptr (cS v),.eptr (cS v2),.eptr (cS v3)],.func (.func 54) [] [.eptr (cS v4),.eptr (cS v5)]] [],.cells [.int .i64 m,.str m2,.int .i64 m3,sl ac t59,sl au m4,sl aA m5,sl ah m6] [(4,85),(6,60)],.dead,.cells [.int .i64 0,.str ([]:ae),.int .i64 0,sl ac m7,sl au m8,sl aA m9,sl ah m10] [(3,28),(4,85),(5,89),(6,60)],.cells [sl aa m11] [(0,137)],.cells [.func (.func 105) [] [.bptr 0 0,.eptr ((cL aa) scope),.bptr 4 0]] [],.dead] [((12,0),28)]
def gi:Option ((waF×Int)⊕(waF)):=
 if(decide (t61<t60))=true then
  (eT t59 t61).bind fun x16=>
  (g7 t61 m).bind fun o18=>
  if o18=true then
   (R45 v v2 v3 v4 v5 x16 scope).bind fun r21=>
   (app kids ([r21]:List af)).bind fun l22=>
   some (.inl (l22,bB (t61+1)))
  else
   (R45 v v2 v3 v4 v5 x16 m11).bind fun r23=>
   (app kids ([r23]:List af)).bind fun l24=>
   some (.inl (l24,bB (t61+1)))
 else
  some (.inr kids)
def g8:Option waF:=loop (fun(zz:waF×Int)=>gi R45 scope t59 t60 v v2 v3 v4 v5 m m11 zz.1 zz.2) (kids,t61)
theorem lz(hR45:bA R45){y:(waF×Int)⊕(waF)}(h:gi R45 scope t59 t60 v v2 v3 v4 v5 m m11 kids t61=some y):aW Pg GE 0 (cA VP 8183) (LQ (fun(zz:waF×Int)=>cb scope t59 t60 v v2 v3 v4 v5 m m2 m3 m4 m5 m6 m7 m8 m9 m10 m11 zz.1 zz.2) (fun _=>.exit 1) (dZ scope t59 v v2 v3 v4 v5 m m2 m3 m4 m5 m6 m7 m8 m9 m10 m11) y) (cb scope t59 t60 v v2 v3 v4 v5 m m2 m3 m4 m5 m6 m7 m8 m9 m10 m11 kids t61):=by
 rcases aO h with⟨c15,h⟩|⟨c15,h⟩
 ·obtain⟨x16,bx16,o18,bo18,h⟩:=Zb2 h
  have p20:=fun{sc F} (r:PS sc F)=>sg 0 c15<|sv (fQ.ia (k:=.i64) bx16)<|sv (bM x16)<|sx AD<|sx (kF x16)<|nF 0<|cT (lO scope kids t61 t59 t60 v v2 v3 v4 v5 m m2 m3 m4 m5 m6 m7 m8 m9 m10 m11 x16.Op x16.Name x16.N x16.Kids x16.Params x16.Alts x16.Types bo18)<|r
  rcases aO h with⟨c19,h⟩|⟨c19,h⟩
  ·obtain⟨r21,br21,l22,bl22,h⟩:=Zb2 h
   obtain rfl:=lf h
   have z:=p20<|sg 0 c19<|sv (show bo Pg 95 [.func (.func 55) [] [.eptr (cS v),.eptr (cS v2),.eptr (cS v3)],.func (.func 54) [] [.eptr (cS v4),.eptr (cS v5)]]=some (.agg [.func (.func 55) [] [.eptr (cS v),.eptr (cS v2),.eptr (cS v3)],.func (.func 54) [] [.eptr (cS v4),.eptr (cS v5)]]) by kernel_rfl)<|sv (bW x16 [])<|sv (b8 J7 (sl aa scope) [])<|cD (hR45 _ _ _ _ _ _ _ _ br21)<|sv (fQ.mk' (v:=pA) kE ([r21]:List af) 1 (by kernel_rfl))<|sv (fQ.ap bl22)<|tr 0 .normal (cb scope t59 t60 v v2 v3 v4 v5 m m2 m3 m4 m5 m6 m7 m8 m9 m10 m11 l22 (bB (t61+1))) rfl (du (aI (aT rfl) (aI (aT rfl) (aI (a8 (mP av scope)) (aI (aT rfl) (aI (aT rfl) (aI (up (aj az l22)) (aI (up (aj az t59)) (aI trivial (aI trivial trivial)))))))))) (aI (aI (aI trivial (aI (a8 (bz v)) (aI (a8 (bz v2)) (aI (a8 (bz v3)) trivial)))) (aI (aI trivial (aI (a8 (bz v4)) (aI (a8 (bz v5)) trivial))) trivial)) (aI (aI trivial (aI trivial (aI trivial (aI (up (aj az t59)) (aI (up (aj aZ m4)) (aI (up (aj bF m5)) (aI (up (aj aF m6)) trivial))))))) (aI trivial (aI (aI trivial (aI trivial (aI trivial (aI (up (aj az m7)) (aI (up (aj aZ m8)) (aI (up (aj bF m9)) (aI (up (aj aF m10)) trivial))))))) (aI (aI (up (aj av m11)) trivial) (aI (aI (aI trivial (aI (aT rfl) (aI (a8 (mP av scope)) (aI (aT rfl) trivial)))) trivial) (aI trivial trivial)))))))
   exact dy (A:=Nl) mixed z<|by kernel_rfl
  ·obtain⟨r23,br23,l24,bl24,h⟩:=Zb2 h
   obtain rfl:=lf h
   have z:=p20<|sg 0 c19<|sv (show bo Pg 95 [.func (.func 55) [] [.eptr (cS v),.eptr (cS v2),.eptr (cS v3)],.func (.func 54) [] [.eptr (cS v4),.eptr (cS v5)]]=some (.agg [.func (.func 55) [] [.eptr (cS v),.eptr (cS v2),.eptr (cS v3)],.func (.func 54) [] [.eptr (cS v4),.eptr (cS v5)]]) by kernel_rfl)<|sv (bW x16 [])<|ss<|cD (hR45 _ _ _ _ _ _ _ _ br23)<|sv (fQ.mk' (v:=pA) kE ([r23]:List af) 1 (by kernel_rfl))<|sv (fQ.ap bl24)<|tr 0 .normal (cb scope t59 t60 v v2 v3 v4 v5 m m2 m3 m4 m5 m6 m7 m8 m9 m10 m11 l24 (bB (t61+1))) rfl (du (aI (aT rfl) (aI (aT rfl) (aI (a8 (mP av scope)) (aI (aT rfl) (aI (aT rfl) (aI (up (aj az l24)) (aI (up (aj az t59)) (aI trivial (aI trivial trivial)))))))))) (aI (aI (aI trivial (aI (a8 (bz v)) (aI (a8 (bz v2)) (aI (a8 (bz v3)) trivial)))) (aI (aI trivial (aI (a8 (bz v4)) (aI (a8 (bz v5)) trivial))) trivial)) (aI (aI trivial (aI trivial (aI trivial (aI (up (aj az t59)) (aI (up (aj aZ m4)) (aI (up (aj bF m5)) (aI (up (aj aF m6)) trivial))))))) (aI trivial (aI (aI trivial (aI trivial (aI trivial (aI (up (aj az m7)) (aI (up (aj aZ m8)) (aI (up (aj bF m9)) (aI (up (aj aF m10)) trivial))))))) (aI (aI (up (aj av m11)) trivial) (aI (aI (aI trivial (aI (aT rfl) (aI (a8 (mP av scope)) (aI (aT rfl) trivial)))) trivial) (aI trivial trivial)))))))
   exact dy (A:=Nl) mixed z<|by kernel_rfl
 ·obtain rfl:=lf h
  have z:=sg 0 c15<|eF (.exit 1) (dZ scope t59 v v2 v3 v4 v5 m m2 m3 m4 m5 m6 m7 m8 m9 m10 m11 kids)
  exact hU Nl (Zn rfl) z<|by kernel_rfl
theorem lP(hR45:bA R45){x:waF}(h:g8 R45 scope t59 t60 v v2 v3 v4 v5 m m11 kids t61=some x):aW Pg GE 0 (.loop (cA VP 8183)) (EX (.exit 1) (dZ scope t59 v v2 v3 v4 v5 m m2 m3 m4 m5 m6 m7 m8 m9 m10 m11 x)) (cb scope t59 t60 v v2 v3 v4 v5 m m2 m3 m4 m5 m6 m7 m8 m9 m10 m11 kids t61):=
 ZL h fun _ _ hy=>lz _ _ _ _ _ _ _ _ _ _ _ _ _ _ _ _ _ _ _ _ _ _ hR45 hy
end
def ir(R45:aV)(c:ae)(c2:ae)(c3:ae)(c4:ae)(c5:ae)(e:af)(scope:(List ag)):Option af:=
 (dW e.Types).bind fun r1=>
 (pC scope).bind fun r2=>
 (g6 scope c c2 c3 c4 c5 e.Op e.Name e.N e.Kids e.Params e.Alts r1 r2).bind fun o13=>
 (dC e.Params (e.Op==6) scope c c2 c3 c4 c5 o13.2).bind fun r14=>
 (g8 R45 scope e.Kids (e.Kids.length:Int) c c2 c3 c4 c5 e.Op r14.2 ([]:List af) 0).bind fun o25=>
 (fF R45 e.Alts scope c c2 c3 c4 c5).bind fun r26=>
 some (⟨e.Op,o13.1,e.N,o25,r14.1,r26,r1⟩:af)
theorem mT(R45:aV)(hR45:bA R45){c:ae}{c2:ae}{c3:ae}{c4:ae}{c5:ae}{e:af}{scope:(List ag)}{r:af}(h:ir R45 c c2 c3 c4 c5 e scope=some r):CC Pg GE 56 [.agg [.func (.func 55) [] [.eptr (cS c),.eptr (cS c2),.eptr (cS c3)],.func (.func 54) [] [.eptr (cS c4),.eptr (cS c5)]],.agg (ac e),sl aa scope] (.agg (ac r)) [(3,28),(4,85),(5,89),(6,60)]:=by
 obtain⟨r1,br1,r2,br2,o13,bo13,r14,br14,h⟩:=Zb4 h
 obtain⟨o25,bo25,r26,br26,h⟩:=Zb2 h
 obtain rfl:=lf h
 have z:=sx (Zs [.func (.func 55) [] [.eptr (cS c),.eptr (cS c2),.eptr (cS c3)],.func (.func 54) [] [.eptr (cS c4),.eptr (cS c5)]])<|sx (kF e)<|se (qbL aa scope)<|sx AD<|ss<|cD (gL br1)<|sv (b8 J7 (sl aa scope) [])<|cD (xN br2)<|sx Zy<|sx Zx<|ss<|nF 0<|cT (lN scope c c2 c3 c4 c5 e.Op e.Name e.N e.Kids e.Params e.Alts r1 ([]:List af) ([]:List aw) ([]:List aJ) ([]:List ai) r2 bo13)<|ss<|sx qbN<|ss<|qbv 6 [[.bool (e.Op==6)]] [3,4,5,6,7,8,11] [] (qba (m:=0) (b:=6) rfl [.bool (e.Op==6)] rfl) (qbb 6 (l:=[.bool (e.Op==6)]) (aI trivial trivial)) (qbc (qbp [.bool (e.Op==6)]))<|sf (J3 6 (mP av scope))<|sf (J3 6 (bz c))<|sf (J3 6 (bz c2))<|sf (J3 6 (bz c3))<|sf (J3 6 (bz c4))<|sf (J3 6 (bz c5))<|sf (LS 6 (p:=sl ac e.Kids) (aj az e.Kids))<|sf (LS 6 (p:=sl au e.Params) (aj aZ e.Params))<|sf (LS 6 (p:=sl aA e.Alts) (aj bF e.Alts))<|sf (LS 6 (p:=sl ah r1) (aj aF r1))<|sf (LS 6 (p:=sl ac ([]:List af)) (aj az ([]:List af)))<|sf (LS 6 (p:=sl au ([]:List aw)) (aj aZ ([]:List aw)))<|sf (LS 6 (p:=sl aA ([]:List aJ)) (aj bF ([]:List aJ)))<|sf (LS 6 (p:=sl ah ([]:List ai)) (aj aF ([]:List ai)))<|sf (LS 6 (p:=sl aa o13.2) (aj av o13.2))<|sf (J3 6 (mP av scope))<|ss<|si (.cg ⟨[5,0,4],[sl au e.Params,.func (.func 108) [] [.eptr (cB (e.Op==6)),.bptr 0 0]],[],[.cells [.func (.func 105) [] [.bptr 0 0,.eptr ((cL aa) scope),.bptr 4 0]] [],.cells [.func (.func 55) [] [.eptr (cS c),.eptr (cS c2),.eptr (cS c3)],.func (.func 54) [] [.eptr (cS c4),.eptr (cS c5)]] [],.cells [sl aa o13.2] [(0,137)]],[.cells [.func (.func 105) [] [.bptr 1 0,.eptr ((cL aa) scope),.bptr 2 0]] [],.cells [.func (.func 55) [] [.eptr (cS c),.eptr (cS c2),.eptr (cS c3)],.func (.func 54) [] [.eptr (cS c4),.eptr (cS c5)]] [],.cells [sl aa o13.2] [(0,137)]],[.cells [.func (.func 105) [] [.bptr 0 0,.eptr ((cL aa) scope),.bptr 4 0]] [],.cells [.func (.func 55) [] [.eptr (cS c),.eptr (cS c2),.eptr (cS c3)],.func (.func 54) [] [.eptr (cS c4),.eptr (cS c5)]] [],.cells [sl aa r14.2] [(0,137)]],[.cells [.func (.func 105) [] [.bptr 1 0,.eptr ((cL aa) scope),.bptr 2 0]] [],.cells [.func (.func 55) [] [.eptr (cS c),.eptr (cS c2),.eptr (cS c3)],.func (.func 54) [] [.eptr (cS c4),.eptr (cS c5)]] [],.cells [sl aa r14.2] [(0,137)]],sl au r14.1,sl au r14.1,[(0,85)]⟩) (fR br14)<|sf (aI (xR [5,0,4] (sl au e.Params) (aj aZ e.Params)) (aI (xF [5,0,4] (.func 108) [] [.eptr (cB (e.Op==6)),.bptr 5 0] [] [.eptr (cB (e.Op==6)),.bptr 0 0] trivial (aI (xR [5,0,4] (.eptr (cB (e.Op==6))) (Yo (e.Op==6))) (aI (xB [5,0,4] 0 5 0 rfl) trivial))) trivial))<|sf (aI (aI (rB (.cells [.func (.func 105) [] [.bptr 0 0,.eptr ((cL aa) scope),.bptr 4 0]] [])) (aI (rW []) (aI (xF [5,0,4] (.func 105) [] [.bptr 0 0,.eptr ((cL aa) scope),.bptr 4 0] [] [.bptr 1 0,.eptr ((cL aa) scope),.bptr 2 0] trivial (aI (xB [5,0,4] 1 0 0 rfl) (aI (xR [5,0,4] (.eptr ((cL aa) scope)) (mP av scope)) (aI (xB [5,0,4] 2 4 0 rfl) trivial)))) trivial))) (aI (aI (rB (.cells [.func (.func 55) [] [.eptr (cS c),.eptr (cS c2),.eptr (cS c3)],.func (.func 54) [] [.eptr (cS c4),.eptr (cS c5)]] [])) (aI (rW []) (aI (xR [5,0,4] (.func (.func 55) [] [.eptr (cS c),.eptr (cS c2),.eptr (cS c3)]) (aI trivial (aI (bz c) (aI (bz c2) (aI (bz c3) trivial))))) (aI (xR [5,0,4] (.func (.func 54) [] [.eptr (cS c4),.eptr (cS c5)]) (aI trivial (aI (bz c4) (aI (bz c5) trivial)))) trivial)))) (aI (aI (rB (.cells [sl aa o13.2] [(0,137)])) (aI (rW [(0,137)]) (aI (xR [5,0,4] (sl aa o13.2) (aj av o13.2)) trivial))) trivial)))<|sf (aI (aI (rW []) (aI (xF [5,0,4] (.func 105) [] [.bptr 0 0,.eptr ((cL aa) scope),.bptr 4 0] [] [.bptr 1 0,.eptr ((cL aa) scope),.bptr 2 0] trivial (aI (xB [5,0,4] 1 0 0 rfl) (aI (xR [5,0,4] (.eptr ((cL aa) scope)) (mP av scope)) (aI (xB [5,0,4] 2 4 0 rfl) trivial)))) trivial)) (aI (aI (rW []) (aI (xR [5,0,4] (.func (.func 55) [] [.eptr (cS c),.eptr (cS c2),.eptr (cS c3)]) (aI trivial (aI (bz c) (aI (bz c2) (aI (bz c3) trivial))))) (aI (xR [5,0,4] (.func (.func 54) [] [.eptr (cS c4),.eptr (cS c5)]) (aI trivial (aI (bz c4) (aI (bz c5) trivial)))) trivial))) (aI (aI (rW [(0,137)]) (aI (xR [5,0,4] (sl aa r14.2) (aj av r14.2)) trivial)) trivial)))<|sf (xR [5,0,4] (sl au r14.1) (aj aZ r14.1))<|ss<|bQ (fQ.ln e.Kids)<|cT (lP R45 scope e.Kids (e.Kids.length:Int) c c2 c3 c4 c5 e.Op o13.1 e.N r14.1 e.Alts r1 ([]:List af) ([]:List aw) ([]:List aJ) ([]:List ai) r14.2 ([]:List af) 0 hR45 bo25)<|ss<|si (.cg ⟨[0],[sl aA e.Alts,.func (.func 110) [] [.eptr ((cL aa) scope),.bptr 0 0]],[],[.cells [.func (.func 55) [] [.eptr (cS c),.eptr (cS c2),.eptr (cS c3)],.func (.func 54) [] [.eptr (cS c4),.eptr (cS c5)]] []],[.cells [.func (.func 55) [] [.eptr (cS c),.eptr (cS c2),.eptr (cS c3)],.func (.func 54) [] [.eptr (cS c4),.eptr (cS c5)]] []],[.cells [.func (.func 55) [] [.eptr (cS c),.eptr (cS c2),.eptr (cS c3)],.func (.func 54) [] [.eptr (cS c4),.eptr (cS c5)]] []],[.cells [.func (.func 55) [] [.eptr (cS c),.eptr (cS c2),.eptr (cS c3)],.func (.func 54) [] [.eptr (cS c4),.eptr (cS c5)]] []],sl aA r26,sl aA r26,[(0,89)]⟩) (kj R45 hR45 br26)<|sf (aI (xR [0] (sl aA e.Alts) (aj bF e.Alts)) (aI (xF [0] (.func 110) [] [.eptr ((cL aa) scope),.bptr 0 0] [] [.eptr ((cL aa) scope),.bptr 0 0] trivial (aI (xR [0] (.eptr ((cL aa) scope)) (mP av scope)) (aI (xB [0] 0 0 0 rfl) trivial))) trivial))<|sf (aI (aI (rB (.cells [.func (.func 55) [] [.eptr (cS c),.eptr (cS c2),.eptr (cS c3)],.func (.func 54) [] [.eptr (cS c4),.eptr (cS c5)]] [])) (aI (rW []) (aI (xR [0] (.func (.func 55) [] [.eptr (cS c),.eptr (cS c2),.eptr (cS c3)]) (aI trivial (aI (bz c) (aI (bz c2) (aI (bz c3) trivial))))) (aI (xR [0] (.func (.func 54) [] [.eptr (cS c4),.eptr (cS c5)]) (aI trivial (aI (bz c4) (aI (bz c5) trivial)))) trivial)))) trivial)<|sf (aI (aI (rW []) (aI (xR [0] (.func (.func 55) [] [.eptr (cS c),.eptr (cS c2),.eptr (cS c3)]) (aI trivial (aI (bz c) (aI (bz c2) (aI (bz c3) trivial))))) (aI (xR [0] (.func (.func 54) [] [.eptr (cS c4),.eptr (cS c5)]) (aI trivial (aI (bz c4) (aI (bz c5) trivial)))) trivial))) trivial)<|sf (xR [0] (sl aA r26) (aj bF r26))<|sz (bW (⟨e.Op,o13.1,e.N,o25,r14.1,r26,r1⟩:af) [])<|sy (bE (⟨e.Op,o13.1,e.N,o25,r14.1,r26,r1⟩:af))<|en (aI (sK (⟨e.Op,o13.1,e.N,o25,r14.1,r26,r1⟩:af))<|aI (az (⟨e.Op,o13.1,e.N,o25,r14.1,r26,r1⟩:af))<|rT)
 exact ZW Nl call56 func56 (c:=VP) rfl (aI (aI (aI trivial (aI (bz c) (aI (bz c2) (aI (bz c3) trivial)))) (aI (aI trivial (aI (bz c4) (aI (bz c5) trivial))) trivial)) (aI (az e) (aI (aj av scope) trivial))) z<|by kernel_rfl
def iu:((ae×ae×ae×ae×ae×af×(List ag))->Option af)->(ae×ae×ae×ae×ae×af×(List ag))->Option af:=fun(rec:(ae×ae×ae×ae×ae×af×(List ag))->Option af) (x:ae×ae×ae×ae×ae×af×(List ag))=>ir (fun c c2 c3 c4 c5 e scope=>rec (c,c2,c3,c4,c5,e,scope)) x.1 x.2.1 x.2.2.1 x.2.2.2.1 x.2.2.2.2.1 x.2.2.2.2.2.1 x.2.2.2.2.2.2
def iU(c:ae)(c2:ae)(c3:ae)(c4:ae)(c5:ae)(e:af)(scope:(List ag)):Option af:=rE iu (c,c2,c3,c4,c5,e,scope)
theorem nk{c:ae}{c2:ae}{c3:ae}{c4:ae}{c5:ae}{e:af}{scope:(List ag)}{r:af}(h:iU c c2 c3 c4 c5 e scope=some r):CC Pg GE 56 [.agg [.func (.func 55) [] [.eptr (cS c),.eptr (cS c2),.eptr (cS c3)],.func (.func 54) [] [.eptr (cS c4),.eptr (cS c5)]],.agg (ac e),sl aa scope] (.agg (ac r)) [(3,28),(4,85),(5,89),(6,60)]:=
 ek (F:=iu) (M:=fun(x:ae×ae×ae×ae×ae×af×(List ag)) (r:af)=>CC Pg GE 56 [.agg [.func (.func 55) [] [.eptr (cS x.1),.eptr (cS x.2.1),.eptr (cS x.2.2.1)],.func (.func 54) [] [.eptr (cS x.2.2.2.1),.eptr (cS x.2.2.2.2.1)]],.agg (ac x.2.2.2.2.2.1),sl aa x.2.2.2.2.2.2] (.agg (ac r)) [(3,28),(4,85),(5,89),(6,60)]) (fun rec hrec x r h=>mT _ (fun c c2 c3 c4 c5 e scope r h=>hrec (c,c2,c3,c4,c5,e,scope) r h) h) h
noncomputable def qcj:Code:=f13.body.getD .skip
def qbT:List Nat:=[]
theorem Z13:ZF qbT 13 f13 qcj:=⟨call13,func13,rfl⟩
def Ha(e:af)(name:ae)(a:ae):Option af:=
 (Mj e).bind fun r1=>
 (app r1 ([a]:List ae)).bind fun l2=>
 (Cs l2 a).bind fun r3=>
 (iU a name r3 name a e ([]:List ag)).bind fun r4=>
 some r4
theorem Kc{e:af}{name:ae}{a:ae}{r:af}(h:Ha e name a=some r):CC Pg GE 13 [.agg (ac e),.str name,.str a] (.agg (ac r)) [(3,28),(4,85),(5,89),(6,60)]:=by
 obtain⟨r1,br1,l2,bl2,r3,br3,r4,br4,h⟩:=Zb4 h
 obtain rfl:=lf h
 have z:=se (cF e)<|se (Ij name)<|se (Ij a)<|sx AD<|G0 [0,1,0,4,15,0,63,0,255]<|sv (bM e)<|cD (Nj br1)<|sv (b8 AF (.str a) [])<|sv (bN.mk' (v:=PVal.str) Ij ([a]:List ae) 1 (by kernel_rfl))<|sv (bN.ap bl2)<|sv (b8 AF (.str a) [])<|cD (Cv br3)<|qbQ (rfl:ct (.str r3)=some [.str r3])<|qbv 4 [[.str r3]] [3,4,5,6,7] [] (qba (m:=0) (b:=4) rfl [.str r3] rfl) (qbb 4 (l:=[.str r3]) (aI trivial trivial)) (qbc (qbp [.str r3]))<|sf (J3 4 (az e))<|sf (J3 4 (bz name))<|sf (J3 4 (bz a))<|sf (LS 4 (p:=sl ac ([]:List af)) (aj az ([]:List af)))<|sf (LS 4 (p:=sl au ([]:List aw)) (aj aZ ([]:List aw)))<|sf (LS 4 (p:=sl aA ([]:List aJ)) (aj bF ([]:List aJ)))<|sf (LS 4 (p:=sl ah ([]:List ai)) (aj aF ([]:List ai)))<|sv (show dG Pg 95 [(1,.func (.func 54) [] [.eptr (cS name),.eptr (cS a)]),(0,.func (.func 55) [] [.eptr (cS a),.eptr (cS name),.eptr (cS r3)])]=some (.agg [.func (.func 55) [] [.eptr (cS a),.eptr (cS name),.eptr (cS r3)],.func (.func 54) [] [.eptr (cS name),.eptr (cS a)]]) by kernel_rfl)<|sx Zz<|sx (Zs [.func (.func 55) [] [.eptr (cS a),.eptr (cS name),.eptr (cS r3)],.func (.func 54) [] [.eptr (cS name),.eptr (cS a)]])<|sv (show bo Pg 95 [.func (.func 55) [] [.eptr (cS a),.eptr (cS name),.eptr (cS r3)],.func (.func 54) [] [.eptr (cS name),.eptr (cS a)]]=some (.agg [.func (.func 55) [] [.eptr (cS a),.eptr (cS name),.eptr (cS r3)],.func (.func 54) [] [.eptr (cS name),.eptr (cS a)]]) by kernel_rfl)<|sv (bM e)<|cD (nk br4)<|sy (bE r4)<|en (aI (sK r4)<|aI (az r4)<|rT)
 exact Z13.v (aI (az e) (aI trivial (aI trivial trivial))) z<|by kernel_rfl
abbrev ga:=(af->Int->Option (Bool×Int))
abbrev f7(R:ga):Prop:=∀(e:af) (k0:Int) (r:Bool×Int),R e k0=some r->C Pg GE 64 [.agg (ac e),.func (.func 68) [] [.bptr 0 0]] [] [.cells [.int .i64 k0] []] (.bool r.1) [] [.cells [.int .i64 r.2] []]
noncomputable def qcB:Code:=f68.body.getD .skip
def qcb:List Nat:=[]
theorem Z68:ZF qcb 68 f68 qcB:=⟨call68,func68,rfl⟩
def ja(a:af)(k0:Int):Option (Bool×Int):=
 some (true,bB (k0+1))
theorem G8{a:af}{k0:Int}{r:Bool×Int}(h:ja a k0=some r):C Pg GE 68 [.agg (ac a),.bptr 0 0] [] [.cells [.int .i64 k0] []] (.bool r.1) [] [.cells [.int .i64 r.2] []]:=by
 obtain rfl:=lf h
 have z:=se (cF a)<|ss<|ss<|en (aI (rP (.bool true))<|aI trivial<|aI (rL [.cells [.int .i64 (bB (k0+1))] []])<|(aI (aI trivial trivial) trivial))
 exact Z68.g (m:=1) rfl z<|by kernel_rfl
end Go.Proofs.YtkdahfeiedaahaaGreatDoor
