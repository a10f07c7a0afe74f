/- PROVED: a part of the proof. Conditions: none. -/
import Derived.Test.YtkdahfeiedaahaaGreatDoorPkD13
noncomputable section
namespace Go.Proofs.YtkdahfeiedaahaaGreatDoor
open Go Go.Proofs.Tryz
set_option linter.unusedVariables false
set_option maxRecDepth 100000
section
variable(R55:ga)(e:af)(t14:waF)(t15:Int)(t16:Int)(m:Int)
def gR:aB:=aS 38 [(1,.func (.func 68) [] [.bptr 0 0]),(2,.eptr (ac e)),(14,sl ac t14),(15,.int .i64 t15),(16,.int .i64 t16)] [.cells [.int .i64 m] [],.dead] []
def gS(o:Int⊕(Int)):Exit:=match o with
 |(.inl _)=>.ret
 |(.inr _)=>.exit 0
def dj(o:Int⊕(Int)):aB:=match o with
 |(.inl o)=>aS 38 [(4,.bool false)] [.cells [.int .i64 o] [],.dead] []
 |(.inr o)=>aS 38 [(1,.func (.func 68) [] [.bptr 0 0]),(2,.eptr (ac e))] [.cells [.int .i64 o] [],.dead] []
def di:Option ((Int×Int)⊕(Int⊕(Int))):=
 if(decide (t16<t15))=true then
  (eT t14 t16).bind fun x5=>
  (R55 x5 m).bind fun r6=>
  if(!r6.1)=true then
   some (.inr (.inl r6.2))
  else
   some (.inl (bB (t16+1),r6.2))
 else
  some (.inr (.inr m))
def rx:Option (Int⊕(Int)):=loop (fun(zz:Int×Int)=>di R55 t14 t15 zz.1 zz.2) (t16,m)
theorem xc(hR55:f7 R55){y:(Int×Int)⊕(Int⊕(Int))}(h:di R55 t14 t15 t16 m=some y):aW Pg GE 1 (cA MR 119) (LQ (fun(zz:Int×Int)=>gR e t14 t15 zz.1 zz.2) gS (dj e) y) (gR e t14 t15 t16 m):=by
 rcases aO h with⟨c4,h⟩|⟨c4,h⟩
 ·obtain⟨x5,bx5,r6,br6,h⟩:=Zb2 h
  have p8:=fun{sc F} (r:PS sc F)=>sg 0 c4<|sv (fQ.ia (k:=.i64) bx5)<|sv (bM x5)<|sx AD<|sx (kF x5)<|sv (bW x5 [])<|si (.cg ⟨[0],[.agg (ac x5),.func (.func 68) [] [.bptr 0 0]],[],[.cells [.int .i64 m] []],[.cells [.int .i64 m] []],[.cells [.int .i64 r6.2] []],[.cells [.int .i64 r6.2] []],.bool r6.1,.bool r6.1,[]⟩) (hR55 _ _ _ br6)<|sf (aI (xR [0] (.agg (ac x5)) (az x5)) (aI (xF [0] (.func 68) [] [.bptr 0 0] [] [.bptr 0 0] trivial (aI (xB [0] 0 0 0 rfl) trivial)) trivial))<|sf (aI (aI (rB (.cells [.int .i64 m] [])) (aI (rW []) (aI (xR [0] (.int .i64 m) trivial) trivial))) trivial)<|sf (aI (aI (rW []) (aI (xR [0] (.int .i64 r6.2) trivial) trivial)) trivial)<|sf (xR [0] (.bool r6.1) trivial)<|r
  rcases aO h with⟨c7,h⟩|⟨c7,h⟩
  ·obtain rfl:=lf h
   have z:=p8<|sg 0 c7<|tr 1 (gS (.inl r6.2)) (dj e (.inl r6.2)) rfl (du (aI trivial trivial)) (aI (aI trivial trivial) (aI trivial trivial))
   exact sF (A:=Hv) mixed (Zn rfl) z<|by kernel_rfl
  ·obtain rfl:=lf h
   have z:=p8<|sg 0 c7<|tr 1 .normal (gR e t14 t15 (bB (t16+1)) r6.2) rfl (du (aI (aI trivial (aI (aT rfl) trivial)) (aI (a8 (az e)) (aI (up (aj az t14)) (aI trivial (aI trivial trivial)))))) (aI (aI trivial trivial) (aI trivial trivial))
   exact dy (A:=Hv) mixed z<|by kernel_rfl
 ·obtain rfl:=lf h
  have z:=sg 0 c4<|eF (gS (.inr m)) (dj e (.inr m))
  exact hU Hv (Zn rfl) z<|by kernel_rfl
theorem jH(hR55:f7 R55){x:Int⊕(Int)}(h:rx R55 t14 t15 t16 m=some x):aW Pg GE 1 (.loop (cA MR 119)) (EX (gS x) (dj e x)) (gR e t14 t15 t16 m):=
 ZL h fun _ _ hy=>xc _ _ _ _ _ _ hR55 hy
end
section
variable(R55:ga)(t26:waD)(t27:Int)(t28:Int)(m:Int)
def gT:aB:=aS 38 [(1,.func (.func 68) [] [.bptr 0 0]),(26,sl aA t26),(27,.int .i64 t27),(28,.int .i64 t28)] [.cells [.int .i64 m] [],.dead] []
def gU(o:Int⊕(Int)):Exit:=match o with
 |(.inl _)=>.ret
 |(.inr _)=>.exit 2
def dU(o:Int⊕(Int)):aB:=match o with
 |(.inl o)=>aS 38 [(4,.bool false)] [.cells [.int .i64 o] [],.dead] []
 |(.inr o)=>aS 38 [] [.cells [.int .i64 o] [],.dead] []
def dl:Option ((Int×Int)⊕(Int⊕(Int))):=
 if(decide (t28<t27))=true then
  (eT t26 t28).bind fun x11=>
  (R55 x11.Body m).bind fun r12=>
  if(!r12.1)=true then
   some (.inr (.inl r12.2))
  else
   some (.inl (bB (t28+1),r12.2))
 else
  some (.inr (.inr m))
def ry:Option (Int⊕(Int)):=loop (fun(zz:Int×Int)=>dl R55 t26 t27 zz.1 zz.2) (t28,m)
theorem xd(hR55:f7 R55){y:(Int×Int)⊕(Int⊕(Int))}(h:dl R55 t26 t27 t28 m=some y):aW Pg GE 1 (cA MR 247) (LQ (fun(zz:Int×Int)=>gT t26 t27 zz.1 zz.2) gU dU y) (gT t26 t27 t28 m):=by
 rcases aO h with⟨c10,h⟩|⟨c10,h⟩
 ·obtain⟨x11,bx11,r12,br12,h⟩:=Zb2 h
  have p14:=fun{sc F} (r:PS sc F)=>sg 0 c10<|sv (eZ.ia (k:=.i64) bx11)<|sv (mA x11)<|sx Io<|sx (i7 x11)<|sv (bW x11.Body [])<|si (.cg ⟨[0],[.agg (ac x11.Body),.func (.func 68) [] [.bptr 0 0]],[],[.cells [.int .i64 m] []],[.cells [.int .i64 m] []],[.cells [.int .i64 r12.2] []],[.cells [.int .i64 r12.2] []],.bool r12.1,.bool r12.1,[]⟩) (hR55 _ _ _ br12)<|sf (aI (xR [0] (.agg (ac x11.Body)) (az x11.Body)) (aI (xF [0] (.func 68) [] [.bptr 0 0] [] [.bptr 0 0] trivial (aI (xB [0] 0 0 0 rfl) trivial)) trivial))<|sf (aI (aI (rB (.cells [.int .i64 m] [])) (aI (rW []) (aI (xR [0] (.int .i64 m) trivial) trivial))) trivial)<|sf (aI (aI (rW []) (aI (xR [0] (.int .i64 r12.2) trivial) trivial)) trivial)<|sf (xR [0] (.bool r12.1) trivial)<|r
  rcases aO h with⟨c13,h⟩|⟨c13,h⟩
  ·obtain rfl:=lf h
   have z:=p14<|sg 0 c13<|tr 1 (gU (.inl r12.2)) (dU (.inl r12.2)) rfl (du (aI trivial trivial)) (aI (aI trivial trivial) (aI trivial trivial))
   exact sF (A:=Hv) mixed (Zn rfl) z<|by kernel_rfl
  ·obtain rfl:=lf h
   have z:=p14<|sg 0 c13<|tr 1 .normal (gT t26 t27 (bB (t28+1)) r12.2) rfl (du (aI (aI trivial (aI (aT rfl) trivial)) (aI (up (aj bF t26)) (aI trivial (aI trivial trivial))))) (aI (aI trivial trivial) (aI trivial trivial))
   exact dy (A:=Hv) mixed z<|by kernel_rfl
 ·obtain rfl:=lf h
  have z:=sg 0 c10<|eF (gU (.inr m)) (dU (.inr m))
  exact hU Hv (Zn rfl) z<|by kernel_rfl
theorem nZ(hR55:f7 R55){x:Int⊕(Int)}(h:ry R55 t26 t27 t28 m=some x):aW Pg GE 1 (.loop (cA MR 247)) (EX (gU x) (dU x)) (gT t26 t27 t28 m):=
 ZL h fun _ _ hy=>xd _ _ _ _ _ hR55 hy
end
def jq(R55:ga)(e:af)(k0:Int):Option (Bool×Int):=
 (ja e k0).bind fun r1=>
 if(!r1.1)=true then
  some (false,r1.2)
 else
  (rx R55 e.Kids (e.Kids.length:Int) 0 r1.2).bind fun o9=>match o9 with
  |(.inl o9)=>
   some (false,o9)
  | (.inr o9) =>
   (ry R55 e.Alts (e.Alts.length:Int) 0 o9).bind fun o15=>match o15 with
   |(.inl o15)=>
    some (false,o15)
   |(.inr o15)=>
    some (true,o15)
theorem zI(R55:ga)(hR55:f7 R55){e:af}{k0:Int}{r:Bool×Int}(h:jq R55 e k0=some r):C Pg GE 64 [.agg (ac e),.func (.func 68) [] [.bptr 0 0]] [] [.cells [.int .i64 k0] []] (.bool r.1) [] [.cells [.int .i64 r.2] []]:=by
 obtain⟨r1,br1,h⟩:=ck h
 have p3:=fun{sc F} (r:PS sc F)=>se (cF e)<|sv (bM e)<|si (.cg ⟨[0],[.agg (ac e),.bptr 0 0],[],[.cells [.int .i64 k0] []],[.cells [.int .i64 k0] []],[.cells [.int .i64 r1.2] []],[.cells [.int .i64 r1.2] []],.bool r1.1,.bool r1.1,[]⟩) (G8 br1)<|sf (aI (xR [0] (.agg (ac e)) (az e)) (aI (xB [0] 0 0 0 rfl) trivial))<|sf (aI (aI (rB (.cells [.int .i64 k0] [])) (aI (rW []) (aI (xR [0] (.int .i64 k0) trivial) trivial))) trivial)<|sf (aI (aI (rW []) (aI (xR [0] (.int .i64 r1.2) trivial) trivial)) trivial)<|sf (xR [0] (.bool r1.1) trivial)<|r
 rcases aO h with⟨c2,h⟩|⟨c2,h⟩
 ·obtain rfl:=lf h
  have z:=p3<|sg 0 c2<|en (aI (rP (.bool false))<|aI trivial<|aI (rL [.cells [.int .i64 r1.2] []])<|(aI (aI trivial trivial) trivial))
  exact C.evGp (A:=Hv) mixed (m:=1) (c:=MR) rfl call64 func64 rfl z<|by kernel_rfl
 ·obtain⟨o9,bo9,h⟩:=ck h
  rcases o9 with o9|o9
  ·obtain rfl:=lf h
   have z:=p3<|sg 0 c2<|sv (ba e)<|sv (be e)<|bQ (fQ.ln e.Kids)<|cT (e:=.ret) (s1:=dj e (.inl o9)) (jH R55 e e.Kids (e.Kids.length:Int) 0 r1.2 hR55 bo9)<|en (aI (rP (.bool false))<|aI trivial<|aI (rL [.cells [.int .i64 o9] []])<|(aI (aI trivial trivial) trivial))
   exact C.evGp (A:=Hv) mixed (m:=1) (c:=MR) rfl call64 func64 rfl z<|by kernel_rfl
  ·obtain⟨o15,bo15,h⟩:=ck h
   rcases o15 with o15|o15
   ·obtain rfl:=lf h
    have z:=p3<|sg 0 c2<|sv (ba e)<|sv (be e)<|bQ (fQ.ln e.Kids)<|cT (e:=.exit 0) (s1:=dj e (.inr o9)) (jH R55 e e.Kids (e.Kids.length:Int) 0 r1.2 hR55 bo9)<|sv (aG e)<|sv (aH e)<|bQ (eZ.ln e.Alts)<|cT (e:=.ret) (s1:=dU (.inl o15)) (nZ R55 e.Alts (e.Alts.length:Int) 0 o9 hR55 bo15)<|en (aI (rP (.bool false))<|aI trivial<|aI (rL [.cells [.int .i64 o15] []])<|(aI (aI trivial trivial) trivial))
    exact C.evGp (A:=Hv) mixed (m:=1) (c:=MR) rfl call64 func64 rfl z<|by kernel_rfl
   ·obtain rfl:=lf h
    have z:=p3<|sg 0 c2<|sv (ba e)<|sv (be e)<|bQ (fQ.ln e.Kids)<|cT (e:=.exit 0) (s1:=dj e (.inr o9)) (jH R55 e e.Kids (e.Kids.length:Int) 0 r1.2 hR55 bo9)<|sv (aG e)<|sv (aH e)<|bQ (eZ.ln e.Alts)<|cT (e:=.exit 2) (s1:=dU (.inr o15)) (nZ R55 e.Alts (e.Alts.length:Int) 0 o9 hR55 bo15)<|en (aI (rP (.bool true))<|aI trivial<|aI (rL [.cells [.int .i64 o15] []])<|(aI (aI trivial trivial) trivial))
    exact C.evGp (A:=Hv) mixed (m:=1) (c:=MR) rfl call64 func64 rfl z<|by kernel_rfl
def mr:((af×Int)->Option (Bool×Int))->(af×Int)->Option (Bool×Int):=fun(rec:(af×Int)->Option (Bool×Int)) (x:af×Int)=>jq (fun e k0=>rec (e,k0)) x.1 x.2
def ou(e:af)(k0:Int):Option (Bool×Int):=rE mr (e,k0)
theorem AO{e:af}{k0:Int}{r:Bool×Int}(h:ou e k0=some r):C Pg GE 64 [.agg (ac e),.func (.func 68) [] [.bptr 0 0]] [] [.cells [.int .i64 k0] []] (.bool r.1) [] [.cells [.int .i64 r.2] []]:=
 ek (F:=mr) (M:=fun(x:af×Int) (r:Bool×Int)=>C Pg GE 64 [.agg (ac x.1),.func (.func 68) [] [.bptr 0 0]] [] [.cells [.int .i64 x.2] []] (.bool r.1) [] [.cells [.int .i64 r.2] []]) (fun rec hrec x r h=>zI _ (fun e k0 r h=>hrec (e,k0) r h) h) h
noncomputable def qcm:Code:=f19.body.getD .skip
def qbW:List Nat:=[]
theorem Z19:ZF qbW 19 f19 qcm:=⟨call19,func19,rfl⟩
def lu(e:af):Option Int:=
 (ou e 0).bind fun r1=>
 some r1.2
theorem um{e:af}{r:Int}(h:lu e=some r):CC Pg GE 19 [.agg (ac e)] (.int .i64 r) []:=by
 obtain⟨r1,br1,h⟩:=ck h
 obtain rfl:=lf h
 have z:=se (cF e)<|sx qbM<|ss<|sv (bM e)<|si (.cg ⟨[1],[.agg (ac e),.func (.func 68) [] [.bptr 0 0]],[],[.cells [.int .i64 0] []],[.cells [.int .i64 0] []],[.cells [.int .i64 r1.2] []],[.cells [.int .i64 r1.2] []],.bool r1.1,.bool r1.1,[]⟩) (AO br1)<|sf (aI (xR [1] (.agg (ac e)) (az e)) (aI (xF [1] (.func 68) [] [.bptr 1 0] [] [.bptr 0 0] trivial (aI (xB [1] 0 1 0 rfl) trivial)) trivial))<|sf (aI (aI (rB (.cells [.int .i64 0] [])) (aI (rW []) (aI (xR [1] (.int .i64 0) trivial) trivial))) trivial)<|sf (aI (aI (rW []) (aI (xR [1] (.int .i64 r1.2) trivial) trivial)) trivial)<|sf (xR [1] (.bool r1.1) trivial)<|ss<|en (aI (rP (.int .i64 r1.2))<|trivial)
 exact Z19.v (aI (az e) trivial) z<|by kernel_rfl
abbrev mX:=(af->Option Int)
abbrev mU(R:mX):Prop:=∀(e:af) (r:Int),R e=some r->CC Pg GE 21 [.agg (ac e)] (.int .i64 r) []
noncomputable def YO:Code:=f21.body.getD .skip
def Yw:List Nat:=[]
theorem Z21:ZF Yw 21 f21 YO:=⟨call21,func21,rfl⟩
section
variable(R57:mX)(e:af)(t9:waF)(t10:Int)(n:Int)(t11:Int)
def mH:aB:=aS 35 [(1,.eptr (ac e)),(3,.int .i64 n),(9,sl ac t9),(10,.int .i64 t10),(11,.int .i64 t11)] [.dead] []
def qX(o:Int):aB:=aS 35 [(1,.eptr (ac e)),(3,.int .i64 o)] [.dead] []
def yf:Option ((Int×Int)⊕(Int)):=
 if(decide (t11<t10))=true then
  (eT t9 t11).bind fun x2=>
  (R57 x2).bind fun r3=>
  some (.inl ((if r3>n then r3 else n),bB (t11+1)))
 else
  some (.inr n)
def Bd:Option Int:=loop (fun(zz:Int×Int)=>yf R57 t9 t10 zz.1 zz.2) (n,t11)
theorem DU(hR57:mU R57){y:(Int×Int)⊕(Int)}(h:yf R57 t9 t10 n t11=some y):aW Pg GE 0 (cA YO 119) (LQ (fun(zz:Int×Int)=>mH e t9 t10 zz.1 zz.2) (fun _=>.exit 0) (qX e) y) (mH e t9 t10 n t11):=by
 rcases aO h with⟨c1,h⟩|⟨c1,h⟩
 ·obtain⟨x2,bx2,r3,br3,h⟩:=Zb2 h
  obtain rfl:=lf h
  have z:=sg 0 c1<|sv (fQ.ia (k:=.i64) bx2)<|sv (bM x2)<|sx AD<|sx (kF x2)<|sv (bW x2 [])<|cD (hR57 _ _ br3)<|tr 0 .normal (mH e t9 t10 (if r3>n then r3 else n) (bB (t11+1))) rfl (du (aI (a8 (az e)) (aI trivial (aI (up (aj az t9)) (aI trivial (aI trivial trivial)))))) (aI trivial trivial)
  exact dy (A:=Yw) mixed z<|by kernel_rfl
 ·obtain rfl:=lf h
  have z:=sg 0 c1<|eF (.exit 0) (qX e n)
  exact hU Yw (Zn rfl) z<|by kernel_rfl
theorem Fv(hR57:mU R57){x:Int}(h:Bd R57 t9 t10 n t11=some x):aW Pg GE 0 (.loop (cA YO 119)) (EX (.exit 0) (qX e x)) (mH e t9 t10 n t11):=
 ZL h fun _ _ hy=>DU _ _ _ _ _ _ hR57 hy
end
section
variable(R57:mX)(t21:waD)(t22:Int)(n:Int)(t23:Int)
def mI:aB:=aS 35 [(3,.int .i64 n),(21,sl aA t21),(22,.int .i64 t22),(23,.int .i64 t23)] [.dead] []
def qY(o:Int):aB:=aS 35 [(3,.int .i64 o)] [.dead] []
def yg:Option ((Int×Int)⊕(Int)):=
 if(decide (t23<t22))=true then
  (eT t21 t23).bind fun x6=>
  (R57 x6.Body).bind fun r7=>
  some (.inl ((if r7>n then r7 else n),bB (t23+1)))
 else
  some (.inr n)
def Be:Option Int:=loop (fun(zz:Int×Int)=>yg R57 t21 t22 zz.1 zz.2) (n,t23)
theorem DV(hR57:mU R57){y:(Int×Int)⊕(Int)}(h:yg R57 t21 t22 n t23=some y):aW Pg GE 0 (cA YO 247) (LQ (fun(zz:Int×Int)=>mI t21 t22 zz.1 zz.2) (fun _=>.exit 2) qY y) (mI t21 t22 n t23):=by
 rcases aO h with⟨c5,h⟩|⟨c5,h⟩
 ·obtain⟨x6,bx6,r7,br7,h⟩:=Zb2 h
  obtain rfl:=lf h
  have z:=sg 0 c5<|sv (eZ.ia (k:=.i64) bx6)<|sv (mA x6)<|sx Io<|sx (i7 x6)<|sv (bW x6.Body [])<|cD (hR57 _ _ br7)<|tr 0 .normal (mI t21 t22 (if r7>n then r7 else n) (bB (t23+1))) rfl (du (aI trivial (aI (up (aj bF t21)) (aI trivial (aI trivial trivial))))) (aI trivial trivial)
  exact dy (A:=Yw) mixed z<|by kernel_rfl
 ·obtain rfl:=lf h
  have z:=sg 0 c5<|eF (.exit 2) (qY n)
  exact hU Yw (Zn rfl) z<|by kernel_rfl
theorem Fw(hR57:mU R57){x:Int}(h:Be R57 t21 t22 n t23=some x):aW Pg GE 0 (.loop (cA YO 247)) (EX (.exit 2) (qY x)) (mI t21 t22 n t23):=
 ZL h fun _ _ hy=>DV _ _ _ _ _ hR57 hy
end
def CO(R57:mX)(e:af):Option Int:=
 (Bd R57 e.Kids (e.Kids.length:Int) 0 0).bind fun o4=>
 (Be R57 e.Alts (e.Alts.length:Int) o4 0).bind fun o8=>
 some (bB (o8+1))
theorem Iu(R57:mX)(hR57:mU R57){e:af}{r:Int}(h:CO R57 e=some r):CC Pg GE 21 [.agg (ac e)] (.int .i64 r) []:=by
 obtain⟨o4,bo4,o8,bo8,h⟩:=Zb2 h
 obtain rfl:=lf h
 have z:=se (cF e)<|sv (ba e)<|sv (be e)<|bQ (fQ.ln e.Kids)<|cT (Fv R57 e e.Kids (e.Kids.length:Int) 0 0 hR57 bo4)<|sv (aG e)<|sv (aH e)<|bQ (eZ.ln e.Alts)<|cT (Fw R57 e.Alts (e.Alts.length:Int) o4 0 hR57 bo8)<|en (aI (rP (.int .i64 (bB (o8+1))))<|trivial)
 exact Z21.v (aI (az e) trivial) z<|by kernel_rfl
def CP:(af->Option Int)->(af)->Option Int:=fun(rec:af->Option Int) (x:af)=>CO (fun e=>rec e) x
def AL(e:af):Option Int:=rE CP e
theorem Bf{e:af}{r:Int}(h:AL e=some r):CC Pg GE 21 [.agg (ac e)] (.int .i64 r) []:=
 ek (F:=CP) (M:=fun(x:af) (r:Int)=>CC Pg GE 21 [.agg (ac x)] (.int .i64 r) []) (fun rec hrec x r h=>Iu _ (fun e r h=>hrec e r h) h) h
abbrev f8:=(af->Int->Option (Bool×Int))
abbrev fZ(R:f8):Prop:=∀(e:af) (k0:Int) (r:Bool×Int),R e k0=some r->C Pg GE 64 [.agg (ac e),.func (.func 65) [] [.bptr 0 0]] [] [.cells [.int .i64 k0] []] (.bool r.1) [] [.cells [.int .i64 r.2] []]
noncomputable def Wb:Code:=f116.body.getD .skip
def Bn:List Nat:=[]
theorem Z116:ZF Bn 116 f116 Wb:=⟨call116,func116,rfl⟩
section
variable(t4:Int)
def FO:aB:=aS 56 [(2,.bptr 0 0),(4,.int .i64 t4)] [.cells [.bool false,.bool false,.int .i64 0,.int .i64 0,.bool false,.bool false,.int .i64 0,.int .i64 0,.bool false] []] []
def pL(o:Bool):aB:=aS 56 [(2,.bptr 0 0),(4,.int .i64 t4),(5,.bool o)] [.cells [.bool false,.bool false,.int .i64 0,.int .i64 0,.bool false,.bool false,.int .i64 0,.int .i64 0,.bool false] []] []
def zE:Option Bool:=
 if(t4==1)=true then
  some (t4==1)
 else
  some (t4==2)
theorem D4{x:Bool}(h:zE t4=some x):aW Pg GE 0 (cA Wb 54) (EX .normal (pL t4 x)) (FO t4):=by
 rcases aO h with⟨c1,h⟩|⟨c1,h⟩
 ·obtain rfl:=lf h
  exact bv Bn (sg 0 c1<|eF .normal (pL t4 (t4==1)))<|by kernel_rfl
 ·obtain rfl:=lf h
  exact bv Bn (sg 0 c1<|eF .normal (pL t4 (t4==2)))<|by kernel_rfl
end
section
variable(t4:Int)
def FP:aB:=aS 56 [(2,.bptr 0 0),(4,.int .i64 t4)] [.cells [.bool false,.bool false,.int .i64 0,.int .i64 0,.bool false,.bool false,.int .i64 0,.int .i64 0,.bool false] []] []
def cz(o:Bool):aB:=aS 56 [(2,.bptr 0 0),(4,.int .i64 t4),(30,.bool o)] [.cells [.bool false,.bool false,.int .i64 0,.int .i64 0,.bool false,.bool false,.int .i64 0,.int .i64 0,.bool false] []] []
def zF:Option Bool:=
 if(t4==10)=true then
  some (t4==10)
 else
  if(t4==11)=true then
   some (t4==11)
  else
   if(t4==12)=true then
    some (t4==12)
   else
    if(t4==13)=true then
     some (t4==13)
    else
     if(t4==14)=true then
      some (t4==14)
     else
      if(t4==16)=true then
       some (t4==16)
      else
       if(t4==17)=true then
        some (t4==17)
       else
        if(t4==18)=true then
         some (t4==18)
        else
         if(t4==19)=true then
          some (t4==19)
         else
          if(t4==20)=true then
           some (t4==20)
          else
           some (t4==24)
theorem D5 {x:Bool} (h:zF t4 = some x) :aW Pg GE 0 (cA Wb 3670014) (EX .normal (cz t4 x)) (FP t4):=by
 rcases aO h with⟨c19,h⟩|⟨c19,h⟩
 ·obtain rfl:=lf h
  exact bv Bn (sg 0 c19<|eF .normal (cz t4 (t4==10)))<|by kernel_rfl
 ·rcases aO h with⟨c20,h⟩|⟨c20,h⟩
  ·obtain rfl:=lf h
   exact bv Bn (sg 0 c19<|sg 0 c20<|eF .normal (cz t4 (t4==11)))<|by kernel_rfl
  ·have p22:=fun{sc F} (r:PS sc F)=>sg 0 c19<|sg 0 c20<|r
   rcases aO h with⟨c21,h⟩|⟨c21,h⟩
   ·obtain rfl:=lf h
    exact bv Bn (p22<|sg 0 c21<|eF .normal (cz t4 (t4==12)))<|by kernel_rfl
   ·have p24:=fun{sc F} (r:PS sc F)=>p22<|sg 0 c21<|r
    rcases aO h with⟨c23,h⟩|⟨c23,h⟩
    ·obtain rfl:=lf h
     exact bv Bn (p24<|sg 0 c23<|eF .normal (cz t4 (t4==13)))<|by kernel_rfl
    ·have p26:=fun{sc F} (r:PS sc F)=>p24<|sg 0 c23<|r
     rcases aO h with⟨c25,h⟩|⟨c25,h⟩
     ·obtain rfl:=lf h
      exact bv Bn (p26<|sg 0 c25<|eF .normal (cz t4 (t4==14)))<|by kernel_rfl
     ·have p28:=fun{sc F} (r:PS sc F)=>p26<|sg 0 c25<|r
      rcases aO h with⟨c27,h⟩|⟨c27,h⟩
      ·obtain rfl:=lf h
       exact bv Bn (p28<|sg 0 c27<|eF .normal (cz t4 (t4==16)))<|by kernel_rfl
      ·have p30:=fun{sc F} (r:PS sc F)=>p28<|sg 0 c27<|r
       rcases aO h with⟨c29,h⟩|⟨c29,h⟩
       ·obtain rfl:=lf h
        exact bv Bn (p30<|sg 0 c29<|eF .normal (cz t4 (t4==17)))<|by kernel_rfl
       ·have p32:=fun{sc F} (r:PS sc F)=>p30<|sg 0 c29<|r
        rcases aO h with⟨c31,h⟩|⟨c31,h⟩
        ·obtain rfl:=lf h
         exact bv Bn (p32<|sg 0 c31<|eF .normal (cz t4 (t4==18)))<|by kernel_rfl
        ·have p34:=fun{sc F} (r:PS sc F)=>p32<|sg 0 c31<|r
         rcases aO h with⟨c33,h⟩|⟨c33,h⟩
         ·obtain rfl:=lf h
          exact bv Bn (p34<|sg 0 c33<|eF .normal (cz t4 (t4==19)))<|by kernel_rfl
         ·have p36:=fun{sc F} (r:PS sc F)=>p34<|sg 0 c33<|r
          rcases aO h with⟨c35,h⟩|⟨c35,h⟩
          ·obtain rfl:=lf h
           exact bv Bn (p36<|sg 0 c35<|eF .normal (cz t4 (t4==20)))<|by kernel_rfl
          ·obtain rfl:=lf h
           exact bv Bn (p36<|sg 0 c35<|eF .normal (cz t4 (t4==24)))<|by kernel_rfl
end
section
variable(t4:Int)
def FQ:aB:=aS 56 [(2,.bptr 0 0),(4,.int .i64 t4)] [.cells [.bool false,.bool false,.int .i64 0,.int .i64 0,.bool false,.bool false,.int .i64 0,.int .i64 0,.bool false] []] []
def ji(o:Bool):aB:=aS 56 [(2,.bptr 0 0),(4,.int .i64 t4),(43,.bool o)] [.cells [.bool false,.bool false,.int .i64 0,.int .i64 0,.bool false,.bool false,.int .i64 0,.int .i64 0,.bool false] []] []
def zG:Option Bool:=
 if(t4==15)=true then
  some (t4==15)
 else
  if(t4==21)=true then
   some (t4==21)
  else
   if(t4==22)=true then
    some (t4==22)
   else
    some (t4==23)
theorem D6{x:Bool}(h:zG t4=some x):aW Pg GE 0 (cA Wb 14680062) (EX .normal (ji t4 x)) (FQ t4):=by
 rcases aO h with⟨c40,h⟩|⟨c40,h⟩
 ·obtain rfl:=lf h
  exact bv Bn (sg 0 c40<|eF .normal (ji t4 (t4==15)))<|by kernel_rfl
 ·rcases aO h with⟨c41,h⟩|⟨c41,h⟩
  ·obtain rfl:=lf h
   exact bv Bn (sg 0 c40<|sg 0 c41<|eF .normal (ji t4 (t4==21)))<|by kernel_rfl
  ·have p43:=fun{sc F} (r:PS sc F)=>sg 0 c40<|sg 0 c41<|r
   rcases aO h with⟨c42,h⟩|⟨c42,h⟩
   ·obtain rfl:=lf h
    exact bv Bn (p43<|sg 0 c42<|eF .normal (ji t4 (t4==22)))<|by kernel_rfl
   ·obtain rfl:=lf h
    exact bv Bn (p43<|sg 0 c42<|eF .normal (ji t4 (t4==23)))<|by kernel_rfl
end
def EH (op:Int):Option (ax×Bool) :=
 (zE op).bind fun o2=>
 if o2=true then
  some ((⟨true,false,0,0,false,false,0,0,false⟩:ax),true)
 else
  if(op==3)=true then
   some ((⟨false,true,0,0,false,false,0,0,false⟩:ax),true)
  else
   if(op==4)=true then
    some ((⟨false,true,0,6,false,false,0,1073741824,true⟩:ax),true)
   else
    if(op==5)=true then
     some ((⟨false,true,1,6,false,false,0,1073741824,true⟩:ax),true)
    else
     if(op==6)=true then
      some ((⟨false,false,1,1,true,false,0,0,false⟩:ax),true)
     else
      if(op==7)=true then
       some ((⟨false,true,2,2,false,false,0,1,true⟩:ax),true)
      else
       if(op==8)=true then
        some ((⟨false,false,3,3,false,false,0,0,false⟩:ax),true)
       else
        if(op==9)=true then
         some ((⟨false,false,1,1,false,true,0,0,false⟩:ax),true)
        else
         (zF op).bind fun o37=>
         if o37=true then
          some ((⟨false,false,2,2,false,false,0,0,false⟩:ax),true)
         else
          (zG op).bind fun o44=>
          if o44=true then
           some ((⟨false,false,1,1,false,false,0,0,false⟩:ax),true)
          else
           if(op==25)=true then
            some ((⟨false,true,2,7,false,false,0,0,false⟩:ax),true)
           else
            if(op==26)=true then
             some ((⟨false,false,1,1,false,false,1,1,true⟩:ax),true)
            else
             some ((⟨false,false,0,0,false,false,0,0,false⟩:ax),false)
theorem ID {op:Int} {r:ax×Bool} (h:EH op = some r):CC Pg GE 116 [.int .i64 op] (.tuple [.agg (aD r.1),.bool r.2]) []:=by
 obtain⟨o2,bo2,h⟩:=ck h
 have p4:=fun{sc F} (r:PS sc F)=>sx Xc<|nF 2<|cT (D4 op bo2)<|r
 rcases aO h with⟨c3,h⟩|⟨c3,h⟩
 ·obtain rfl:=lf h
  have z:=p4<|sg 0 c3<|sv (Ge true)<|sx (cy (⟨true,false,0,0,false,false,0,0,false⟩:ax))<|en (aI (va6 PVal.tuple (ij (cO (⟨true,false,0,0,false,false,0,0,false⟩:ax)) (ij (rP (.bool true)) (rfl:([]:List PVal)=[]))))<|(aI (bK (⟨true,false,0,0,false,false,0,0,false⟩:ax)) (aI trivial trivial)))
  exact Z116.v (aI trivial trivial) z<|by kernel_rfl
 ·have p6:=fun{sc F} (r:PS sc F)=>p4<|sg 0 c3<|r
  rcases aO h with⟨c5,h⟩|⟨c5,h⟩
  ·obtain rfl:=lf h
   have z:=p6<|sg 0 c5<|sv (Gf true)<|sx (cy (⟨false,true,0,0,false,false,0,0,false⟩:ax))<|en (aI (va6 PVal.tuple (ij (cO (⟨false,true,0,0,false,false,0,0,false⟩:ax)) (ij (rP (.bool true)) (rfl:([]:List PVal)=[]))))<|(aI (bK (⟨false,true,0,0,false,false,0,0,false⟩:ax)) (aI trivial trivial)))
   exact Z116.v (aI trivial trivial) z<|by kernel_rfl
  ·have p8:=fun{sc F} (r:PS sc F)=>p6<|sg 0 c5<|r
   rcases aO h with⟨c7,h⟩|⟨c7,h⟩
   ·obtain rfl:=lf h
    have z:=p8<|sg 0 c7<|sv (yX true 6 true 1073741824)<|sx (cy (⟨false,true,0,6,false,false,0,1073741824,true⟩:ax))<|en (aI (va6 PVal.tuple (ij (cO (⟨false,true,0,6,false,false,0,1073741824,true⟩:ax)) (ij (rP (.bool true)) (rfl:([]:List PVal)=[]))))<|(aI (bK (⟨false,true,0,6,false,false,0,1073741824,true⟩:ax)) (aI trivial trivial)))
    exact Z116.v (aI trivial trivial) z<|by kernel_rfl
   ·have p10:=fun{sc F} (r:PS sc F)=>p8<|sg 0 c7<|r
    rcases aO h with⟨c9,h⟩|⟨c9,h⟩
    ·obtain rfl:=lf h
     have z:=p10<|sg 0 c9<|sv (nT true 1 6 true 1073741824)<|sx (cy (⟨false,true,1,6,false,false,0,1073741824,true⟩:ax))<|en (aI (va6 PVal.tuple (ij (cO (⟨false,true,1,6,false,false,0,1073741824,true⟩:ax)) (ij (rP (.bool true)) (rfl:([]:List PVal)=[]))))<|(aI (bK (⟨false,true,1,6,false,false,0,1073741824,true⟩:ax)) (aI trivial trivial)))
     exact Z116.v (aI trivial trivial) z<|by kernel_rfl
    ·have p12:=fun{sc F} (r:PS sc F)=>p10<|sg 0 c9<|r
     rcases aO h with⟨c11,h⟩|⟨c11,h⟩
     ·obtain rfl:=lf h
      have z:=p12<|sg 0 c11<|sv (Bt true 1 1)<|sx (cy (⟨false,false,1,1,true,false,0,0,false⟩:ax))<|en (aI (va6 PVal.tuple (ij (cO (⟨false,false,1,1,true,false,0,0,false⟩:ax)) (ij (rP (.bool true)) (rfl:([]:List PVal)=[]))))<|(aI (bK (⟨false,false,1,1,true,false,0,0,false⟩:ax)) (aI trivial trivial)))
      exact Z116.v (aI trivial trivial) z<|by kernel_rfl
     ·have p14:=fun{sc F} (r:PS sc F)=>p12<|sg 0 c11<|r
      rcases aO h with⟨c13,h⟩|⟨c13,h⟩
      ·obtain rfl:=lf h
       have z:=p14<|sg 0 c13<|sv (nT true 2 2 true 1)<|sx (cy (⟨false,true,2,2,false,false,0,1,true⟩:ax))<|en (aI (va6 PVal.tuple (ij (cO (⟨false,true,2,2,false,false,0,1,true⟩:ax)) (ij (rP (.bool true)) (rfl:([]:List PVal)=[]))))<|(aI (bK (⟨false,true,2,2,false,false,0,1,true⟩:ax)) (aI trivial trivial)))
       exact Z116.v (aI trivial trivial) z<|by kernel_rfl
      ·have p16:=fun{sc F} (r:PS sc F)=>p14<|sg 0 c13<|r
       rcases aO h with⟨c15,h⟩|⟨c15,h⟩
       ·obtain rfl:=lf h
        have z:=p16<|sg 0 c15<|sv (n9 3 3)<|sx (cy (⟨false,false,3,3,false,false,0,0,false⟩:ax))<|en (aI (va6 PVal.tuple (ij (cO (⟨false,false,3,3,false,false,0,0,false⟩:ax)) (ij (rP (.bool true)) (rfl:([]:List PVal)=[]))))<|(aI (bK (⟨false,false,3,3,false,false,0,0,false⟩:ax)) (aI trivial trivial)))
        exact Z116.v (aI trivial trivial) z<|by kernel_rfl
       ·have p18:=fun{sc F} (r:PS sc F)=>p16<|sg 0 c15<|r
        rcases aO h with⟨c17,h⟩|⟨c17,h⟩
        ·obtain rfl:=lf h
         have z:=p18<|sg 0 c17<|sv (Bu true 1 1)<|sx (cy (⟨false,false,1,1,false,true,0,0,false⟩:ax))<|en (aI (va6 PVal.tuple (ij (cO (⟨false,false,1,1,false,true,0,0,false⟩:ax)) (ij (rP (.bool true)) (rfl:([]:List PVal)=[]))))<|(aI (bK (⟨false,false,1,1,false,true,0,0,false⟩:ax)) (aI trivial trivial)))
         exact Z116.v (aI trivial trivial) z<|by kernel_rfl
        ·obtain⟨o37,bo37,h⟩:=ck h
         have p39:=fun{sc F} (r:PS sc F)=>p18<|sg 0 c17<|nF 0<|cT (D5 op bo37)<|r
         rcases aO h with⟨c38,h⟩|⟨c38,h⟩
         ·obtain rfl:=lf h
          have z:=p39<|sg 0 c38<|sv (n9 2 2)<|sx (cy (⟨false,false,2,2,false,false,0,0,false⟩:ax))<|en (aI (va6 PVal.tuple (ij (cO (⟨false,false,2,2,false,false,0,0,false⟩:ax)) (ij (rP (.bool true)) (rfl:([]:List PVal)=[]))))<|(aI (bK (⟨false,false,2,2,false,false,0,0,false⟩:ax)) (aI trivial trivial)))
          exact Z116.v (aI trivial trivial) z<|by kernel_rfl
         ·obtain⟨o44,bo44,h⟩:=ck h
          have p46:=fun{sc F} (r:PS sc F)=>p39<|sg 0 c38<|nF 0<|cT (D6 op bo44)<|r
          rcases aO h with⟨c45,h⟩|⟨c45,h⟩
          ·obtain rfl:=lf h
           have z:=p46<|sg 0 c45<|sv (n9 1 1)<|sx (cy (⟨false,false,1,1,false,false,0,0,false⟩:ax))<|en (aI (va6 PVal.tuple (ij (cO (⟨false,false,1,1,false,false,0,0,false⟩:ax)) (ij (rP (.bool true)) (rfl:([]:List PVal)=[]))))<|(aI (bK (⟨false,false,1,1,false,false,0,0,false⟩:ax)) (aI trivial trivial)))
           exact Z116.v (aI trivial trivial) z<|by kernel_rfl
          ·have p48:=fun{sc F} (r:PS sc F)=>p46<|sg 0 c45<|r
           rcases aO h with⟨c47,h⟩|⟨c47,h⟩
           ·obtain rfl:=lf h
            have z:=p48<|sg 0 c47<|sv (Br true 2 7)<|sx (cy (⟨false,true,2,7,false,false,0,0,false⟩:ax))<|en (aI (va6 PVal.tuple (ij (cO (⟨false,true,2,7,false,false,0,0,false⟩:ax)) (ij (rP (.bool true)) (rfl:([]:List PVal)=[]))))<|(aI (bK (⟨false,true,2,7,false,false,0,0,false⟩:ax)) (aI trivial trivial)))
            exact Z116.v (aI trivial trivial) z<|by kernel_rfl
           ·have p50:=fun{sc F} (r:PS sc F)=>p48<|sg 0 c47<|r
            rcases aO h with⟨c49,h⟩|⟨c49,h⟩
            ·obtain rfl:=lf h
             have z:=p50<|sg 0 c49<|sv (xg 1 1 true 1 1)<|sx (cy (⟨false,false,1,1,false,false,1,1,true⟩:ax))<|en (aI (va6 PVal.tuple (ij (cO (⟨false,false,1,1,false,false,1,1,true⟩:ax)) (ij (rP (.bool true)) (rfl:([]:List PVal)=[]))))<|(aI (bK (⟨false,false,1,1,false,false,1,1,true⟩:ax)) (aI trivial trivial)))
             exact Z116.v (aI trivial trivial) z<|by kernel_rfl
            ·obtain rfl:=lf h
             have z:=p50<|sg 0 c49<|sv (Gg)<|sx (cy (⟨false,false,0,0,false,false,0,0,false⟩:ax))<|en (aI (va6 PVal.tuple (ij (cO (⟨false,false,0,0,false,false,0,0,false⟩:ax)) (ij (rP (.bool false)) (rfl:([]:List PVal)=[]))))<|(aI (bK (⟨false,false,0,0,false,false,0,0,false⟩:ax)) (aI trivial trivial)))
             exact Z116.v (aI trivial trivial) z<|by kernel_rfl
noncomputable def qaE:Code:=f139.body.getD .skip
def qad:List Nat:=[]
theorem Z139:ZF qad 139 f139 qaE:=⟨call139,func139,rfl⟩
def Bh(a:aJ):Option Bool:=
 some (decide ((a.Names.length:Int)>6))
theorem FC{a:aJ}{r:Bool}(h:Bh a=some r):CC Pg GE 139 [.agg (aA a)] (.bool r) []:=by
 obtain rfl:=lf h
 have z:=se (Ph a)<|sv (qy a)<|sv (qE a)<|bQ (bN.ln a.Names)<|en (aI (rP (.bool (decide ((a.Names.length:Int)>6))))<|trivial)
 exact Z139.v (aI (bF a) trivial) z<|by kernel_rfl
noncomputable def XE:Code:=f158.body.getD .skip
def VW:List Nat:=[10,17]
theorem Z158:ZF VW 158 f158 XE:=⟨call158,func158,rfl⟩
section
variable(s:waD)(t7:Int)(t8:Int)
def eE:aB:=aS 19 [(0,sl aA s),(1,.func (.func 139) [] []),(7,.int .i64 t7),(8,.int .i64 t8)] [] []
def eG(o:Int⊕(Unit)):Exit:=match o with
 |(.inl _)=>.ret
 |(.inr _)=>.exit 0
def cR(o:Int⊕(Unit)):aB:=match o with
 |(.inl o)=>aS 19 [(4,.int .i64 o)] [] []
 |(.inr o)=>aS 19 [] [] []
def kI:Option (Int⊕(Int⊕(Unit))):=
 if(decide (t8<t7))=true then
  (eT s t8).bind fun x2=>
  (Bh x2).bind fun r3=>
  if r3=true then
   some (.inr (.inl t8))
  else
   some (.inl (bB (t8+1)))
 else
  some (.inr (.inr ()))
def lL:Option (Int⊕(Unit)):=loop (fun(zz:Int)=>kI s t7 zz) t8
theorem qV{y:Int⊕(Int⊕(Unit))}(h:kI s t7 t8=some y):aW Pg GE 0 (cA XE 55) (LQ (fun(zz:Int)=>eE s t7 zz) eG cR y) (eE s t7 t8):=by
 rcases aO h with⟨c1,h⟩|⟨c1,h⟩
 ·obtain⟨x2,bx2,r3,br3,h⟩:=Zb2 h
  have p5:=fun{sc F} (r:PS sc F)=>sg 0 c1<|sv (eZ.ia (k:=.i64) bx2)<|sv (mA x2)<|cD (FC br3)<|r
  rcases aO h with⟨c4,h⟩|⟨c4,h⟩
  ·obtain rfl:=lf h
   have z:=p5<|sg 0 c4<|eF (eG (.inl t8)) (cR (.inl t8))
   exact hU VW (Zn rfl) z<|by kernel_rfl
  ·obtain rfl:=lf h
   exact wJ VW (p5<|sg 0 c4<|eF .normal (eE s t7 (bB (t8+1))))<|by kernel_rfl
 ·obtain rfl:=lf h
  have z:=sg 0 c1<|eF (eG (.inr ())) (cR (.inr ()))
  exact hU VW (Zn rfl) z<|by kernel_rfl
theorem kh{x:Int⊕(Unit)}(h:lL s t7 t8=some x):aW Pg GE 0 (.loop (cA XE 55)) (EX (eG x) (cR x)) (eE s t7 t8):=
 ZL h fun _ _ hy=>qV _ _ _ hy
end
def nV(s:waD):Option Int:=
 (lL s (s.length:Int) 0).bind fun o6=>match o6 with
 |(.inl o6)=>
  some o6
 |(.inr o6)=>
  some (-1)
theorem uk{s:waD}{r:Int}(h:nV s=some r):CC Pg GE 158 [sl aA s,.func (.func 139) [] []] (.int .i64 r) []:=by
 obtain⟨o6,bo6,h⟩:=ck h
 rcases o6 with o6|o6
 ·obtain rfl:=lf h
  have z:=bQ (eZ.ln s)<|cT (e:=.ret) (s1:=cR (.inl o6)) (kh s (s.length:Int) 0 bo6)<|en (aI (rP (.int .i64 o6))<|trivial)
  exact Z158.v (aI (aj bF s) (aI (aI trivial trivial) trivial)) z<|by kernel_rfl
 ·obtain rfl:=lf h
  have z:=bQ (eZ.ln s)<|cT (e:=.exit 0) (s1:=cR (.inr o6)) (kh s (s.length:Int) 0 bo6)<|en (aI (rP (.int .i64 (-1)))<|trivial)
  exact Z158.v (aI (aj bF s) (aI (aI trivial trivial) trivial)) z<|by kernel_rfl
noncomputable def qaD:Code:=f138.body.getD .skip
def qac:List Nat:=[]
theorem Z138:ZF qac 138 f138 qaD:=⟨call138,func138,rfl⟩
def lJ(s:waD):Option Bool:=
 (nV s).bind fun r1=>
 some (decide (r1>=0))
theorem rG{s:waD}{r:Bool}(h:lJ s=some r):CC Pg GE 138 [sl aA s,.func (.func 139) [] []] (.bool r) []:=by
 obtain⟨r1,br1,h⟩:=ck h
 obtain rfl:=lf h
 have z:=cD (uk br1)<|en (aI (rP (.bool (decide (r1>=0))))<|trivial)
 exact Z138.v (aI (aj bF s) (aI (aI trivial trivial) trivial)) z<|by kernel_rfl
noncomputable def Xy:Code:=f117.body.getD .skip
def Hu:List Nat:=[]
theorem Z117:ZF Hu 117 f117 Xy:=⟨call117,func117,rfl⟩
section
variable(e:af)(s:ax)
def FD:aB:=aS 69 [(2,.eptr (ac e)),(3,.eptr (aD s))] [.dead,.dead] []
def jd(o:Bool):aB:=aS 69 [(2,.eptr (ac e)),(3,.eptr (aD s)),(34,.bool o)] [.dead,.dead] []
def zy:Option Bool:=
 if(decide ((e.Kids.length:Int)<s.least))=true then
  some true
 else
  if(decide ((e.Kids.length:Int)>s.most))=true then
   some true
  else
   if(decide ((e.Types.length:Int)<s.typesLeast))=true then
    some true
   else
    some (decide ((e.Types.length:Int)>s.typesMost))
theorem DZ{x:Bool}(h:zy e s=some x):aW Pg GE 0 (cA Xy 12) (EX .normal (jd e s x)) (FD e s):=by
 have p2:=fun{sc F} (r:PS sc F)=>sv (ba e)<|sv (be e)<|bQ (fQ.ln e.Kids)<|sv (Bw s)<|sv (DL s)<|r
 rcases aO h with⟨c1,h⟩|⟨c1,h⟩
 ·obtain rfl:=lf h
  exact bv Hu (p2<|sg 7 c1<|eF .normal (jd e s true))<|by kernel_rfl
 ·have p4:=fun{sc F} (r:PS sc F)=>p2<|sg 7 c1<|sv (ba e)<|sv (be e)<|bQ (fQ.ln e.Kids)<|sv (Bx s)<|sv (DM s)<|r
  rcases aO h with⟨c3,h⟩|⟨c3,h⟩
  ·obtain rfl:=lf h
   exact bv Hu (p4<|sg 15 c3<|eF .normal (jd e s true))<|by kernel_rfl
  ·have p6:=fun{sc F} (r:PS sc F)=>p4<|sg 15 c3<|sv (aM e)<|sv (aN e)<|bQ (ee.ln e.Types)<|sv (Bz s)<|sv (DO s)<|r
   rcases aO h with⟨c5,h⟩|⟨c5,h⟩
   ·obtain rfl:=lf h
    exact bv Hu (p6<|sg 23 c5<|eF .normal (jd e s true))<|by kernel_rfl
   ·obtain rfl:=lf h
    exact bv Hu (p6<|sg 23 c5<|sv (aM e)<|sv (aN e)<|bQ (ee.ln e.Types)<|sv (BA s)<|sv (DP s)<|eF .normal (jd e s (decide ((e.Types.length:Int)>s.typesMost))))<|by kernel_rfl
end
section
variable(e:af)(s:ax)
def FE:aB:=aS 69 [(2,.eptr (ac e)),(3,.eptr (aD s))] [.dead,.dead] []
def dI(o:Bool):aB:=aS 69 [(2,.eptr (ac e)),(64,.bool o)] [.dead,.dead] []
def zA:Option Bool:=
 if s.params=true then
  if(decide ((e.Params.length:Int)<1))=true then
   some true
  else
   if(decide ((e.Params.length:Int)>6))=true then
    some true
   else
    if s.alts=true then
     if(decide ((e.Alts.length:Int)<1))=true then
      some true
     else
      some (decide ((e.Alts.length:Int)>8))
    else
     some false
 else
  if s.alts=true then
   if(decide ((e.Alts.length:Int)<1))=true then
    some true
   else
    some (decide ((e.Alts.length:Int)>8))
  else
   some false
theorem D0{x:Bool}(h:zA e s=some x):aW Pg GE 0 (cA Xy 28) (EX .normal (dI e x)) (FE e s):=by
 have p11:=fun{sc F} (r:PS sc F)=>sv (By s)<|sv (DN s)<|r
 rcases aO h with⟨c10,h⟩|⟨c10,h⟩
 ·have p13:=fun{sc F} (r:PS sc F)=>p11<|sg 3 c10<|sv (bH e)<|sv (bJ e)<|bQ (lH.ln e.Params)<|r
  rcases aO h with⟨c12,h⟩|⟨c12,h⟩
  ·obtain rfl:=lf h
   exact bv Hu (p13<|sg 8 c12<|eF .normal (dI e true))<|by kernel_rfl
  ·have p15:=fun{sc F} (r:PS sc F)=>p13<|sg 8 c12<|sv (bH e)<|sv (bJ e)<|bQ (lH.ln e.Params)<|r
   rcases aO h with⟨c14,h⟩|⟨c14,h⟩
   ·obtain rfl:=lf h
    exact bv Hu (p15<|sg 15 c14<|eF .normal (dI e true))<|by kernel_rfl
   ·have p17:=fun{sc F} (r:PS sc F)=>p15<|sg 15 c14<|sv (rR s)<|sv (uI s)<|r
    rcases aO h with⟨c16,h⟩|⟨c16,h⟩
    ·have p19:=fun{sc F} (r:PS sc F)=>p17<|sg 18 c16<|sv (aG e)<|sv (aH e)<|bQ (eZ.ln e.Alts)<|r
     rcases aO h with⟨c18,h⟩|⟨c18,h⟩
     ·obtain rfl:=lf h
      exact bv Hu (p19<|sg 23 c18<|eF .normal (dI e true))<|by kernel_rfl
     ·obtain rfl:=lf h
      exact bv Hu (p19<|sg 23 c18<|sv (aG e)<|sv (aH e)<|bQ (eZ.ln e.Alts)<|eF .normal (dI e (decide ((e.Alts.length:Int)>8))))<|by kernel_rfl
    ·obtain rfl:=lf h
     exact bv Hu (p17<|sg 18 c16<|eF .normal (dI e false))<|by kernel_rfl
 ·have p21:=fun{sc F} (r:PS sc F)=>p11<|sg 3 c10<|sv (rR s)<|sv (uI s)<|r
  rcases aO h with⟨c20,h⟩|⟨c20,h⟩
  ·have p23:=fun{sc F} (r:PS sc F)=>p21<|sg 18 c20<|sv (aG e)<|sv (aH e)<|bQ (eZ.ln e.Alts)<|r
   rcases aO h with⟨c22,h⟩|⟨c22,h⟩
   ·obtain rfl:=lf h
    exact bv Hu (p23<|sg 23 c22<|eF .normal (dI e true))<|by kernel_rfl
   ·obtain rfl:=lf h
    exact bv Hu (p23<|sg 23 c22<|sv (aG e)<|sv (aH e)<|bQ (eZ.ln e.Alts)<|eF .normal (dI e (decide ((e.Alts.length:Int)>8))))<|by kernel_rfl
  ·obtain rfl:=lf h
   exact bv Hu (p21<|sg 18 c20<|eF .normal (dI e false))<|by kernel_rfl
end
def EG(e:af)(s:ax):Option Bool:=
 (zy e s).bind fun o7=>
 if o7=true then
  some false
 else
  (zA e s).bind fun o24=>
  if o24=true then
   some false
  else
   (lJ e.Alts).bind fun r27=>
   some (!r27)
theorem Iy{e:af}{s:ax}{r:Bool}(h:EG e s=some r):CC Pg GE 117 [.agg (ac e),.agg (aD s)] (.bool r) []:=by
 obtain⟨o7,bo7,h⟩:=ck h
 have p9:=fun{sc F} (r:PS sc F)=>se (cF e)<|se (A6 s)<|nF 1<|cT (DZ e s bo7)<|r
 rcases aO h with⟨c8,h⟩|⟨c8,h⟩
 ·obtain rfl:=lf h
  have z:=p9<|sg 0 c8<|en (aI (rP (.bool false))<|trivial)
  exact Z117.v (aI (az e) (aI (bK s) trivial)) z<|by kernel_rfl
 ·obtain⟨o24,bo24,h⟩:=ck h
  have p26:=fun{sc F} (r:PS sc F)=>p9<|sg 0 c8<|nF 1<|cT (D0 e s bo24)<|r
  rcases aO h with⟨c25,h⟩|⟨c25,h⟩
  ·obtain rfl:=lf h
   have z:=p26<|sg 0 c25<|en (aI (rP (.bool false))<|trivial)
   exact Z117.v (aI (az e) (aI (bK s) trivial)) z<|by kernel_rfl
  ·obtain⟨r27,br27,h⟩:=ck h
   obtain rfl:=lf h
   have z:=p26<|sg 0 c25<|sv (aG e)<|sv (aH e)<|cD (rG br27)<|en (aI (rP (.bool (!r27)))<|trivial)
   exact Z117.v (aI (az e) (aI (bK s) trivial)) z<|by kernel_rfl
noncomputable def qax:Code:=f118.body.getD .skip
def Z5:List Nat:=[]
theorem Z118:ZF Z5 118 f118 qax:=⟨call118,func118,rfl⟩
def Vc(n:Int):Option Bool:=
 if(decide (n>=(-1000000000000)))=true then
  some (decide (n<=1000000000000))
 else
  some false
theorem TD{n:Int}{r:Bool}(h:Vc n=some r):CC Pg GE 118 [.int .i64 n] (.bool r) []:=by
 rcases aO h with⟨c1,h⟩|⟨c1,h⟩
 ·obtain rfl:=lf h
  have z:=sg 3 c1<|en (aI (rP (.bool (decide (n<=1000000000000))))<|trivial)
  exact Z118.v (aI trivial trivial) z<|by kernel_rfl
 ·obtain rfl:=lf h
  have z:=sg 3 c1<|en (aI (rP (.bool false))<|trivial)
  exact Z118.v (aI trivial trivial) z<|by kernel_rfl
noncomputable def XF:Code:=f159.body.getD .skip
def VX:List Nat:=[]
theorem Z159:ZF VX 159 f159 XF:=⟨call159,func159,rfl⟩
section
variable(t7:waA)(t8:Int)(t9:Int)(m0:(List (ae×Bool)))
def kn:aB:=aS 19 [(3,.mapr 0),(7,sl cS t7),(8,.int .i64 t8),(9,.int .i64 t9)] [.map (aL PVal.bool m0)] []
def ko(o:((List (ae×Bool)))⊕((List (ae×Bool)))):Exit:=match o with
 |(.inl _)=>.ret
 |(.inr _)=>.exit 0
def fK(o:((List (ae×Bool)))⊕((List (ae×Bool)))):aB:=match o with
 |(.inl o)=>aS 19 [(2,.bool false)] [.map (aL PVal.bool o)] []
 |(.inr o)=>aS 19 [] [.map (aL PVal.bool o)] []
def uK:Option ((Int×(List (ae×Bool)))⊕(((List (ae×Bool)))⊕((List (ae×Bool))))):=
 if(decide (t9<t8))=true then
  (eT t7 t9).bind fun x2=>
  if((yK m0 x2).getD false)=true then
   some (.inr (.inl m0))
  else
   some (.inl (bB (t9+1),tN m0 x2 true))
 else
  some (.inr (.inr m0))
def xW:Option (((List (ae×Bool)))⊕((List (ae×Bool)))):=loop (fun(zz:Int×(List (ae×Bool)))=>uK t7 t8 zz.1 zz.2) (t9,m0)
theorem BB{y:(Int×(List (ae×Bool)))⊕(((List (ae×Bool)))⊕((List (ae×Bool))))}(h:uK t7 t8 t9 m0=some y):aW Pg GE 0 (cA XF 119) (LQ (fun(zz:Int×(List (ae×Bool)))=>kn t7 t8 zz.1 zz.2) ko fK y) (kn t7 t8 t9 m0):=by
 rcases aO h with⟨c1,h⟩|⟨c1,h⟩
 ·obtain⟨x2,bx2,h⟩:=ck h
  have p4:=fun{sc F} (r:PS sc F)=>sg 0 c1<|sv (bN.ia (k:=.i64) bx2)<|sv (b8 AF (.str x2) [])<|sv (O9 (f:=PVal.bool) underlying124 underlying9 Z2 m0 x2)<|r
  rcases aO h with⟨c3,h⟩|⟨c3,h⟩
  ·obtain rfl:=lf h
   have z:=p4<|sg 0 c3<|eF (ko (.inl m0)) (fK (.inl m0))
   exact hU VX (Zn rfl) z<|by kernel_rfl
  ·obtain rfl:=lf h
   exact wJ VX (p4<|sg 0 c3<|qbw (RL (f:=PVal.bool) underlying124 underlying9 m0 x2 true)<|eF .normal (kn t7 t8 (bB (t9+1)) (tN m0 x2 true)))<|by kernel_rfl
 ·obtain rfl:=lf h
  have z:=sg 0 c1<|eF (ko (.inr m0)) (fK (.inr m0))
  exact hU VX (Zn rfl) z<|by kernel_rfl
theorem tO{x:((List (ae×Bool)))⊕((List (ae×Bool)))}(h:xW t7 t8 t9 m0=some x):aW Pg GE 0 (.loop (cA XF 119)) (EX (ko x) (fK x)) (kn t7 t8 t9 m0):=
 ZL h fun _ _ hy=>BB _ _ _ _ hy
end
def Cr(a:waA):Option Bool:=
 (xW a (a.length:Int) 0 ([]:List (ae×Bool))).bind fun o5=>match o5 with
 |(.inl o5)=>
  some false
 |(.inr o5)=>
  some true
theorem Gy{a:waA}{r:Bool}(h:Cr a=some r):CC Pg GE 159 [sl cS a] (.bool r) []:=by
 obtain⟨o5,bo5,h⟩:=ck h
 rcases o5 with o5|o5
 ·obtain rfl:=lf h
  have z:=bQ (bN.ln a)<|cT (e:=.ret) (s1:=fK (.inl o5)) (tO a (a.length:Int) 0 ([]:List (ae×Bool)) bo5)<|en (aI (rP (.bool false))<|trivial)
  exact Z159.v (aI (aj bz a) trivial) z<|by kernel_rfl
 ·obtain rfl:=lf h
  have z:=bQ (bN.ln a)<|cT (e:=.exit 0) (s1:=fK (.inr o5)) (tO a (a.length:Int) 0 ([]:List (ae×Bool)) bo5)<|en (aI (rP (.bool true))<|trivial)
  exact Z159.v (aI (aj bz a) trivial) z<|by kernel_rfl
noncomputable def qaF:Code:=f140.body.getD .skip
def qae:List Nat:=[]
theorem Z140:ZF qae 140 f140 qaF:=⟨call140,func140,rfl⟩
def vN(a:waA):Option Bool:=
 (Cr a).bind fun r1=>
 some (!r1)
theorem uy{a:waA}{r:Bool}(h:vN a=some r):CC Pg GE 140 [sl cS a] (.bool r) []:=by
 obtain⟨r1,br1,h⟩:=ck h
 obtain rfl:=lf h
 have z:=cD (Gy br1)<|en (aI (rP (.bool (!r1)))<|trivial)
 exact Z140.v (aI (aj bz a) trivial) z<|by kernel_rfl
end Go.Proofs.YtkdahfeiedaahaaGreatDoor
