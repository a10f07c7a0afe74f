/- PROVED: a part of the proof. Conditions: none. -/
import Derived.Test.YtkdahfeiedaahaaGreatDoorPkB13
noncomputable section
namespace Go.Proofs.YtkdahfeiedaahaaGreatDoor
open Go Go.Proofs.Tryz
set_option linter.unusedVariables false
set_option maxRecDepth 100000
section
variable(R55:fN)(e:af)(t14:waE)(t15:Int)(t16:Int)(m:Int)
def eK:az:=aZ 38 [(1,.func (.func 68) [] [.bptr 0 0]),(2,.eptr (ac e)),(14,sl ac t14),(15,.int .i64 t15),(16,.int .i64 t16)] [.cells [.int .i64 m] [],.dead] []
def eL(o:Int⊕(Int)):Exit:=match o with
 |(.inl _)=>.ret
 |(.inr _)=>.exit 0
def cT(o:Int⊕(Int)):az:=match o with
 |(.inl o)=>aZ 38 [(4,.bool false)] [.cells [.int .i64 o] [],.dead] []
 |(.inr o)=>aZ 38 [(1,.func (.func 68) [] [.bptr 0 0]),(2,.eptr (ac e))] [.cells [.int .i64 o] [],.dead] []
def nT:Option ((Int×Int)⊕(Int⊕(Int))):=
 if(decide (t16<t15))=true then
  (fO t14 t16).bind fun x5=>
  (R55 x5 m).bind fun r6=>
  if(!r6.1)=true then
   some (.inr (.inl r6.2))
  else
   some (.inl (bZ (t16+1),r6.2))
 else
  some (.inr (.inr m))
def pX:Option (Int⊕(Int)):=loop (fun(zz:Int×Int)=>nT R55 t14 t15 zz.1 zz.2) (t16,m)
theorem uu(hR55:fL R55){y:(Int×Int)⊕(Int⊕(Int))}(h:nT R55 t14 t15 t16 m=some y):aP Pg GE 1 (cA Bu 119) (LQ (fun(zz:Int×Int)=>eK e t14 t15 zz.1 zz.2) eL (cT e) y) (eK e t14 t15 t16 m):=by
 rcases aN h with⟨c4,h⟩|⟨c4,h⟩
 ·obtain⟨x5,bx5,h⟩:=aG h
  obtain⟨r6,br6,h⟩:=aG h
  have p8:=fun{sc F} (r:PS sc F)=>sg 0 c4<|sv (fi.ia (k:=.i64) bx5)<|sv (aW x5)<|sx wR<|sx (jj x5)<|sv (bQ x5 [])<|si (.cg ⟨[0],[.agg (ac x5),.func (.func 68) [] [.bptr 0 0]],[],[.cells [.int .i64 m] []],[.cells [.int .i64 m] []],[.cells [.int .i64 r6.2] []],[.cells [.int .i64 r6.2] []],.bool r6.1,.bool r6.1,[]⟩) (hR55 _ _ _ br6)<|sf (aI (xR [0] (.agg (ac x5)) (av x5)) (aI (xF [0] (.func 68) [] [.bptr 0 0] [] [.bptr 0 0] trivial (aI (xB [0] 0 0 0 rfl) trivial)) trivial))<|sf (aI (aI (rB (.cells [.int .i64 m] [])) (aI (rW []) (aI (xR [0] (.int .i64 m) trivial) trivial))) trivial)<|sf (aI (aI (rW []) (aI (xR [0] (.int .i64 r6.2) trivial) trivial)) trivial)<|sf (xR [0] (.bool r6.1) trivial)<|r
  rcases aN h with⟨c7,h⟩|⟨c7,h⟩
  ·obtain rfl:=lf h
   have z:=p8<|sg 0 c7<|sK 1 (eL (.inl r6.2)) (cT e (.inl r6.2)) rfl (dF (aI trivial trivial)) (aI (aI trivial trivial) (aI trivial trivial))
   exact pw (A:=xj) mixed (by intro hx;cases hx) z<|by kernel_rfl
  ·obtain rfl:=lf h
   have z:=p8<|sg 0 c7<|sK 1 .normal (eK e t14 t15 (bZ (t16+1)) r6.2) rfl (dF (aI (aI trivial (aI (aX rfl) trivial)) (aI (ba (av e)) (aI (up (aj av t14)) (aI trivial (aI trivial trivial)))))) (aI (aI trivial trivial) (aI trivial trivial))
   exact dZ (A:=xj) mixed z<|by kernel_rfl
 ·obtain rfl:=lf h
  have z:=sg 0 c4<|eF (eL (.inr m)) (cT e (.inr m))
  exact iZ xj (by intro hx;cases hx) z<|by kernel_rfl
theorem je(hR55:fL R55){x:Int⊕(Int)}(h:pX R55 t14 t15 t16 m=some x):aP Pg GE 1 (.loop (cA Bu 119)) (EX (eL x) (cT e x)) (eK e t14 t15 t16 m):=
 aP.loop (S:=fun(zz:Int×Int)=>eK e t14 t15 zz.1 zz.2) (ex:=eL) (s:=(t16,m)) h fun zz y hy=>uu R55 e t14 t15 zz.1 zz.2 hR55 hy
end
section
variable(R55:fN)(t26:waC)(t27:Int)(t28:Int)(m:Int)
def eM:az:=aZ 38 [(1,.func (.func 68) [] [.bptr 0 0]),(26,sl aA t26),(27,.int .i64 t27),(28,.int .i64 t28)] [.cells [.int .i64 m] [],.dead] []
def eN(o:Int⊕(Int)):Exit:=match o with
 |(.inl _)=>.ret
 |(.inr _)=>.exit 2
def dO(o:Int⊕(Int)):az:=match o with
 |(.inl o)=>aZ 38 [(4,.bool false)] [.cells [.int .i64 o] [],.dead] []
 |(.inr o)=>aZ 38 [] [.cells [.int .i64 o] [],.dead] []
def nU:Option ((Int×Int)⊕(Int⊕(Int))):=
 if(decide (t28<t27))=true then
  (fO t26 t28).bind fun x11=>
  (R55 x11.Body m).bind fun r12=>
  if(!r12.1)=true then
   some (.inr (.inl r12.2))
  else
   some (.inl (bZ (t28+1),r12.2))
 else
  some (.inr (.inr m))
def pY:Option (Int⊕(Int)):=loop (fun(zz:Int×Int)=>nU R55 t26 t27 zz.1 zz.2) (t28,m)
theorem uv(hR55:fL R55){y:(Int×Int)⊕(Int⊕(Int))}(h:nU R55 t26 t27 t28 m=some y):aP Pg GE 1 (cA Bu 247) (LQ (fun(zz:Int×Int)=>eM t26 t27 zz.1 zz.2) eN dO y) (eM t26 t27 t28 m):=by
 rcases aN h with⟨c10,h⟩|⟨c10,h⟩
 ·obtain⟨x11,bx11,h⟩:=aG h
  obtain⟨r12,br12,h⟩:=aG h
  have p14:=fun{sc F} (r:PS sc F)=>sg 0 c10<|sv (ea.ia (k:=.i64) bx11)<|sv (ku x11)<|sx D2<|sx (hX x11)<|sv (bQ x11.Body [])<|si (.cg ⟨[0],[.agg (ac x11.Body),.func (.func 68) [] [.bptr 0 0]],[],[.cells [.int .i64 m] []],[.cells [.int .i64 m] []],[.cells [.int .i64 r12.2] []],[.cells [.int .i64 r12.2] []],.bool r12.1,.bool r12.1,[]⟩) (hR55 _ _ _ br12)<|sf (aI (xR [0] (.agg (ac x11.Body)) (av x11.Body)) (aI (xF [0] (.func 68) [] [.bptr 0 0] [] [.bptr 0 0] trivial (aI (xB [0] 0 0 0 rfl) trivial)) trivial))<|sf (aI (aI (rB (.cells [.int .i64 m] [])) (aI (rW []) (aI (xR [0] (.int .i64 m) trivial) trivial))) trivial)<|sf (aI (aI (rW []) (aI (xR [0] (.int .i64 r12.2) trivial) trivial)) trivial)<|sf (xR [0] (.bool r12.1) trivial)<|r
  rcases aN h with⟨c13,h⟩|⟨c13,h⟩
  ·obtain rfl:=lf h
   have z:=p14<|sg 0 c13<|sK 1 (eN (.inl r12.2)) (dO (.inl r12.2)) rfl (dF (aI trivial trivial)) (aI (aI trivial trivial) (aI trivial trivial))
   exact pw (A:=xj) mixed (by intro hx;cases hx) z<|by kernel_rfl
  ·obtain rfl:=lf h
   have z:=p14<|sg 0 c13<|sK 1 .normal (eM t26 t27 (bZ (t28+1)) r12.2) rfl (dF (aI (aI trivial (aI (aX rfl) trivial)) (aI (up (aj bL t26)) (aI trivial (aI trivial trivial))))) (aI (aI trivial trivial) (aI trivial trivial))
   exact dZ (A:=xj) mixed z<|by kernel_rfl
 ·obtain rfl:=lf h
  have z:=sg 0 c10<|eF (eN (.inr m)) (dO (.inr m))
  exact iZ xj (by intro hx;cases hx) z<|by kernel_rfl
theorem mR(hR55:fL R55){x:Int⊕(Int)}(h:pY R55 t26 t27 t28 m=some x):aP Pg GE 1 (.loop (cA Bu 247)) (EX (eN x) (dO x)) (eM t26 t27 t28 m):=
 aP.loop (S:=fun(zz:Int×Int)=>eM t26 t27 zz.1 zz.2) (ex:=eN) (s:=(t28,m)) h fun zz y hy=>uv R55 t26 t27 zz.1 zz.2 hR55 hy
end
def qy(R55:fN)(e:af)(k0:Int):Option (Bool×Int):=
 (zY e k0).bind fun r1=>
 if(!r1.1)=true then
  some (false,r1.2)
 else
  (pX R55 e.Kids (e.Kids.length:Int) 0 r1.2).bind fun o9=>match o9 with
  |(.inl o9)=>
   some (false,o9)
  | (.inr o9) =>
   (pY R55 e.Alts (e.Alts.length:Int) 0 o9).bind fun o15=>match o15 with
   |(.inl o15)=>
    some (false,o15)
   |(.inr o15)=>
    some (true,o15)
theorem xf(R55:fN)(hR55:fL R55){e:af}{k0:Int}{r:Bool×Int}(h:qy R55 e k0=some r):C Pg GE 64 [.agg (ac e),.func (.func 68) [] [.bptr 0 0]] [] [.cells [.int .i64 k0] []] (.bool r.1) [] [.cells [.int .i64 r.2] []]:=by
 obtain⟨r1,br1,h⟩:=aG h
 have p3:=fun{sc F} (r:PS sc F)=>se (bK e)<|sv (aW e)<|si (.cg ⟨[0],[.agg (ac e),.bptr 0 0],[],[.cells [.int .i64 k0] []],[.cells [.int .i64 k0] []],[.cells [.int .i64 r1.2] []],[.cells [.int .i64 r1.2] []],.bool r1.1,.bool r1.1,[]⟩) (Eb br1)<|sf (aI (xR [0] (.agg (ac e)) (av e)) (aI (xB [0] 0 0 0 rfl) trivial))<|sf (aI (aI (rB (.cells [.int .i64 k0] [])) (aI (rW []) (aI (xR [0] (.int .i64 k0) trivial) trivial))) trivial)<|sf (aI (aI (rW []) (aI (xR [0] (.int .i64 r1.2) trivial) trivial)) trivial)<|sf (xR [0] (.bool r1.1) trivial)<|r
 rcases aN h with⟨c2,h⟩|⟨c2,h⟩
 ·obtain rfl:=lf h
  have z:=p3<|sg 0 c2<|en (aI (rP (.bool false))<|aI trivial<|aI (rL [.cells [.int .i64 r1.2] []])<|(aI (aI trivial trivial) trivial))
  exact C.evGp (A:=xj) mixed (m:=1) (c:=Bu) rfl call64 func64 rfl z<|by kernel_rfl
 ·obtain⟨o9,bo9,h⟩:=aG h
  rcases o9 with o9|o9
  ·obtain rfl:=lf h
   have z:=p3<|sg 0 c2<|sv (aR e)<|sv (aS e)<|bW (fi.ln e.Kids)<|cU (e:=.ret) (s1:=cT e (.inl o9)) (je R55 e e.Kids (e.Kids.length:Int) 0 r1.2 hR55 bo9)<|en (aI (rP (.bool false))<|aI trivial<|aI (rL [.cells [.int .i64 o9] []])<|(aI (aI trivial trivial) trivial))
   exact C.evGp (A:=xj) mixed (m:=1) (c:=Bu) rfl call64 func64 rfl z<|by kernel_rfl
  ·obtain⟨o15,bo15,h⟩:=aG h
   rcases o15 with o15|o15
   ·obtain rfl:=lf h
    have z:=p3<|sg 0 c2<|sv (aR e)<|sv (aS e)<|bW (fi.ln e.Kids)<|cU (e:=.exit 0) (s1:=cT e (.inr o9)) (je R55 e e.Kids (e.Kids.length:Int) 0 r1.2 hR55 bo9)<|sv (aB e)<|sv (aC e)<|bW (ea.ln e.Alts)<|cU (e:=.ret) (s1:=dO (.inl o15)) (mR R55 e.Alts (e.Alts.length:Int) 0 o9 hR55 bo15)<|en (aI (rP (.bool false))<|aI trivial<|aI (rL [.cells [.int .i64 o15] []])<|(aI (aI trivial trivial) trivial))
    exact C.evGp (A:=xj) mixed (m:=1) (c:=Bu) rfl call64 func64 rfl z<|by kernel_rfl
   ·obtain rfl:=lf h
    have z:=p3<|sg 0 c2<|sv (aR e)<|sv (aS e)<|bW (fi.ln e.Kids)<|cU (e:=.exit 0) (s1:=cT e (.inr o9)) (je R55 e e.Kids (e.Kids.length:Int) 0 r1.2 hR55 bo9)<|sv (aB e)<|sv (aC e)<|bW (ea.ln e.Alts)<|cU (e:=.exit 2) (s1:=dO (.inr o15)) (mR R55 e.Alts (e.Alts.length:Int) 0 o9 hR55 bo15)<|en (aI (rP (.bool true))<|aI trivial<|aI (rL [.cells [.int .i64 o15] []])<|(aI (aI trivial trivial) trivial))
    exact C.evGp (A:=xj) mixed (m:=1) (c:=Bu) rfl call64 func64 rfl z<|by kernel_rfl
def qz:((af×Int)->Option (Bool×Int))->(af×Int)->Option (Bool×Int):=fun(rec:(af×Int)->Option (Bool×Int)) (x:af×Int)=>qy (fun e k0=>rec (e,k0)) x.1 x.2
def sU(e:af)(k0:Int):Option (Bool×Int):=qc qz (e,k0)
theorem yg{e:af}{k0:Int}{r:Bool×Int}(h:sU e k0=some r):C Pg GE 64 [.agg (ac e),.func (.func 68) [] [.bptr 0 0]] [] [.cells [.int .i64 k0] []] (.bool r.1) [] [.cells [.int .i64 r.2] []]:=
 d9 (F:=qz) (M:=fun(x:af×Int) (r:Bool×Int)=>C Pg GE 64 [.agg (ac x.1),.func (.func 68) [] [.bptr 0 0]] [] [.cells [.int .i64 x.2] []] (.bool r.1) [] [.cells [.int .i64 r.2] []]) (fun rec hrec x r h=>xf _ (fun e k0 r h=>hrec (e,k0) r h) h) h
noncomputable def WH:Code:=f19.body.getD .skip
def Wl:List Nat:=[]
def yd(e:af):Option Int:=
 (sU e 0).bind fun r1=>
 some r1.2
theorem yz{e:af}{r:Int}(h:yd e=some r):CC Pg GE 19 [.agg (ac e)] (.int .i64 r) []:=by
 obtain⟨r1,br1,h⟩:=aG h
 obtain rfl:=lf h
 have z:=se (bK e)<|sx W7<|ss<|sv (aW e)<|si (.cg ⟨[1],[.agg (ac e),.func (.func 68) [] [.bptr 0 0]],[],[.cells [.int .i64 0] []],[.cells [.int .i64 0] []],[.cells [.int .i64 r1.2] []],[.cells [.int .i64 r1.2] []],.bool r1.1,.bool r1.1,[]⟩) (yg br1)<|sf (aI (xR [1] (.agg (ac e)) (av e)) (aI (xF [1] (.func 68) [] [.bptr 1 0] [] [.bptr 0 0] trivial (aI (xB [1] 0 1 0 rfl) trivial)) trivial))<|sf (aI (aI (rB (.cells [.int .i64 0] [])) (aI (rW []) (aI (xR [1] (.int .i64 0) trivial) trivial))) trivial)<|sf (aI (aI (rW []) (aI (xR [1] (.int .i64 r1.2) trivial) trivial)) trivial)<|sf (xR [1] (.bool r1.1) trivial)<|ss<|en (aI (rP (.int .i64 r1.2))<|trivial)
 exact cC Wl call19 func19 (c:=WH) rfl (aI (av e) trivial) z<|by kernel_rfl
abbrev mi:=(af->Option Int)
abbrev lY(R:mi):Prop:=∀(e:af) (r:Int),R e=some r->CC Pg GE 21 [.agg (ac e)] (.int .i64 r) []
noncomputable def T2:Code:=f21.body.getD .skip
def TI:List Nat:=[]
section
variable(R57:mi)(e:af)(t9:waE)(t10:Int)(n:Int)(t11:Int)
def jB:az:=aZ 35 [(1,.eptr (ac e)),(3,.int .i64 n),(9,sl ac t9),(10,.int .i64 t10),(11,.int .i64 t11)] [.dead] []
def pH(o:Int):az:=aZ 35 [(1,.eptr (ac e)),(3,.int .i64 o)] [.dead] []
def vF:Option ((Int×Int)⊕(Int)):=
 if(decide (t11<t10))=true then
  (fO t9 t11).bind fun x2=>
  (R57 x2).bind fun r3=>
  some (.inl ((if r3>n then r3 else n),bZ (t11+1)))
 else
  some (.inr n)
def yw:Option Int:=loop (fun(zz:Int×Int)=>vF R57 t9 t10 zz.1 zz.2) (n,t11)
theorem Be(hR57:lY R57){y:(Int×Int)⊕(Int)}(h:vF R57 t9 t10 n t11=some y):aP Pg GE 0 (cA T2 119) (LQ (fun(zz:Int×Int)=>jB e t9 t10 zz.1 zz.2) (fun _=>.exit 0) (pH e) y) (jB e t9 t10 n t11):=by
 rcases aN h with⟨c1,h⟩|⟨c1,h⟩
 ·obtain⟨x2,bx2,h⟩:=aG h
  obtain⟨r3,br3,h⟩:=aG h
  obtain rfl:=lf h
  have z:=sg 0 c1<|sv (fi.ia (k:=.i64) bx2)<|sv (aW x2)<|sx wR<|sx (jj x2)<|sv (bQ x2 [])<|cH (hR57 _ _ br3)<|sK 0 .normal (jB e t9 t10 (if r3>n then r3 else n) (bZ (t11+1))) rfl (dF (aI (ba (av e)) (aI trivial (aI (up (aj av t9)) (aI trivial (aI trivial trivial)))))) (aI trivial trivial)
  exact dZ (A:=TI) mixed z<|by kernel_rfl
 ·obtain rfl:=lf h
  have z:=sg 0 c1<|eF (.exit 0) (pH e n)
  exact iZ TI (by intro hx;cases hx) z<|by kernel_rfl
theorem CJ(hR57:lY R57){x:Int}(h:yw R57 t9 t10 n t11=some x):aP Pg GE 0 (.loop (cA T2 119)) (EX (.exit 0) (pH e x)) (jB e t9 t10 n t11):=
 aP.loop (S:=fun(zz:Int×Int)=>jB e t9 t10 zz.1 zz.2) (ex:=(fun _=>.exit 0)) (s:=(n,t11)) h fun zz y hy=>Be R57 e t9 t10 zz.1 zz.2 hR57 hy
end
section
variable(R57:mi)(t21:waC)(t22:Int)(n:Int)(t23:Int)
def jC:az:=aZ 35 [(3,.int .i64 n),(21,sl aA t21),(22,.int .i64 t22),(23,.int .i64 t23)] [.dead] []
def pI(o:Int):az:=aZ 35 [(3,.int .i64 o)] [.dead] []
def vG:Option ((Int×Int)⊕(Int)):=
 if(decide (t23<t22))=true then
  (fO t21 t23).bind fun x6=>
  (R57 x6.Body).bind fun r7=>
  some (.inl ((if r7>n then r7 else n),bZ (t23+1)))
 else
  some (.inr n)
def yx:Option Int:=loop (fun(zz:Int×Int)=>vG R57 t21 t22 zz.1 zz.2) (n,t23)
theorem Bf(hR57:lY R57){y:(Int×Int)⊕(Int)}(h:vG R57 t21 t22 n t23=some y):aP Pg GE 0 (cA T2 247) (LQ (fun(zz:Int×Int)=>jC t21 t22 zz.1 zz.2) (fun _=>.exit 2) pI y) (jC t21 t22 n t23):=by
 rcases aN h with⟨c5,h⟩|⟨c5,h⟩
 ·obtain⟨x6,bx6,h⟩:=aG h
  obtain⟨r7,br7,h⟩:=aG h
  obtain rfl:=lf h
  have z:=sg 0 c5<|sv (ea.ia (k:=.i64) bx6)<|sv (ku x6)<|sx D2<|sx (hX x6)<|sv (bQ x6.Body [])<|cH (hR57 _ _ br7)<|sK 0 .normal (jC t21 t22 (if r7>n then r7 else n) (bZ (t23+1))) rfl (dF (aI trivial (aI (up (aj bL t21)) (aI trivial (aI trivial trivial))))) (aI trivial trivial)
  exact dZ (A:=TI) mixed z<|by kernel_rfl
 ·obtain rfl:=lf h
  have z:=sg 0 c5<|eF (.exit 2) (pI n)
  exact iZ TI (by intro hx;cases hx) z<|by kernel_rfl
theorem CK(hR57:lY R57){x:Int}(h:yx R57 t21 t22 n t23=some x):aP Pg GE 0 (.loop (cA T2 247)) (EX (.exit 2) (pI x)) (jC t21 t22 n t23):=
 aP.loop (S:=fun(zz:Int×Int)=>jC t21 t22 zz.1 zz.2) (ex:=(fun _=>.exit 2)) (s:=(n,t23)) h fun zz y hy=>Bf R57 t21 t22 zz.1 zz.2 hR57 hy
end
def zW(R57:mi)(e:af):Option Int:=
 (yw R57 e.Kids (e.Kids.length:Int) 0 0).bind fun o4=>
 (yx R57 e.Alts (e.Alts.length:Int) o4 0).bind fun o8=>
 some (bZ (o8+1))
theorem Fg(R57:mi)(hR57:lY R57){e:af}{r:Int}(h:zW R57 e=some r):CC Pg GE 21 [.agg (ac e)] (.int .i64 r) []:=by
 obtain⟨o4,bo4,h⟩:=aG h
 obtain⟨o8,bo8,h⟩:=aG h
 obtain rfl:=lf h
 have z:=se (bK e)<|sv (aR e)<|sv (aS e)<|bW (fi.ln e.Kids)<|cU (CJ R57 e e.Kids (e.Kids.length:Int) 0 0 hR57 bo4)<|sv (aB e)<|sv (aC e)<|bW (ea.ln e.Alts)<|cU (CK R57 e.Alts (e.Alts.length:Int) o4 0 hR57 bo8)<|en (aI (rP (.int .i64 (bZ (o8+1))))<|trivial)
 exact cC TI call21 func21 (c:=T2) rfl (aI (av e) trivial) z<|by kernel_rfl
def zX:(af->Option Int)->(af)->Option Int:=fun(rec:af->Option Int) (x:af)=>zW (fun e=>rec e) x
def yc(e:af):Option Int:=qc zX e
theorem yy{e:af}{r:Int}(h:yc e=some r):CC Pg GE 21 [.agg (ac e)] (.int .i64 r) []:=
 d9 (F:=zX) (M:=fun(x:af) (r:Int)=>CC Pg GE 21 [.agg (ac x)] (.int .i64 r) []) (fun rec hrec x r h=>Fg _ (fun e r h=>hrec e r h) h) h
abbrev fM:=(af->Int->Option (Bool×Int))
abbrev fK(R:fM):Prop:=∀(e:af) (k0:Int) (r:Bool×Int),R e k0=some r->C Pg GE 64 [.agg (ac e),.func (.func 65) [] [.bptr 0 0]] [] [.cells [.int .i64 k0] []] (.bool r.1) [] [.cells [.int .i64 r.2] []]
noncomputable def AT:Code:=f116.body.getD .skip
def oU:List Nat:=[]
section
variable(t4:Int)
def CX:az:=aZ 56 [(2,.bptr 0 0),(4,.int .i64 t4)] [.cells [.bool false,.bool false,.int .i64 0,.int .i64 0,.bool false,.bool false,.int .i64 0,.int .i64 0,.bool false] []] []
def oC(o:Bool):az:=aZ 56 [(2,.bptr 0 0),(4,.int .i64 t4),(5,.bool o)] [.cells [.bool false,.bool false,.int .i64 0,.int .i64 0,.bool false,.bool false,.int .i64 0,.int .i64 0,.bool false] []] []
def xa:Option Bool:=
 if(t4==1)=true then
  some (t4==1)
 else
  some (t4==2)
theorem Bn{x:Bool}(h:xa t4=some x):aP Pg GE 0 (cA AT 54) (EX .normal (oC t4 x)) (CX t4):=by
 rcases aN h with⟨c1,h⟩|⟨c1,h⟩
 ·obtain rfl:=lf h
  exact bk oU (sg 0 c1<|eF .normal (oC t4 (t4==1)))<|by kernel_rfl
 ·obtain rfl:=lf h
  exact bk oU (sg 0 c1<|eF .normal (oC t4 (t4==2)))<|by kernel_rfl
end
section
variable(t4:Int)
def CY:az:=aZ 56 [(2,.bptr 0 0),(4,.int .i64 t4)] [.cells [.bool false,.bool false,.int .i64 0,.int .i64 0,.bool false,.bool false,.int .i64 0,.int .i64 0,.bool false] []] []
def cq(o:Bool):az:=aZ 56 [(2,.bptr 0 0),(4,.int .i64 t4),(30,.bool o)] [.cells [.bool false,.bool false,.int .i64 0,.int .i64 0,.bool false,.bool false,.int .i64 0,.int .i64 0,.bool false] []] []
def xc:Option Bool:=
 if(t4==10)=true then
  some (t4==10)
 else
  if(t4==11)=true then
   some (t4==11)
  else
   if(t4==12)=true then
    some (t4==12)
   else
    if(t4==13)=true then
     some (t4==13)
    else
     if(t4==14)=true then
      some (t4==14)
     else
      if(t4==16)=true then
       some (t4==16)
      else
       if(t4==17)=true then
        some (t4==17)
       else
        if(t4==18)=true then
         some (t4==18)
        else
         if(t4==19)=true then
          some (t4==19)
         else
          if(t4==20)=true then
           some (t4==20)
          else
           some (t4==24)
theorem Bo {x:Bool} (h:xc t4 = some x) :aP Pg GE 0 (cA AT 3670014) (EX .normal (cq t4 x)) (CY t4):=by
 rcases aN h with⟨c19,h⟩|⟨c19,h⟩
 ·obtain rfl:=lf h
  exact bk oU (sg 0 c19<|eF .normal (cq t4 (t4==10)))<|by kernel_rfl
 ·rcases aN h with⟨c20,h⟩|⟨c20,h⟩
  ·obtain rfl:=lf h
   exact bk oU (sg 0 c19<|sg 0 c20<|eF .normal (cq t4 (t4==11)))<|by kernel_rfl
  ·have p22:=fun{sc F} (r:PS sc F)=>sg 0 c19<|sg 0 c20<|r
   rcases aN h with⟨c21,h⟩|⟨c21,h⟩
   ·obtain rfl:=lf h
    exact bk oU (p22<|sg 0 c21<|eF .normal (cq t4 (t4==12)))<|by kernel_rfl
   ·have p24:=fun{sc F} (r:PS sc F)=>p22<|sg 0 c21<|r
    rcases aN h with⟨c23,h⟩|⟨c23,h⟩
    ·obtain rfl:=lf h
     exact bk oU (p24<|sg 0 c23<|eF .normal (cq t4 (t4==13)))<|by kernel_rfl
    ·have p26:=fun{sc F} (r:PS sc F)=>p24<|sg 0 c23<|r
     rcases aN h with⟨c25,h⟩|⟨c25,h⟩
     ·obtain rfl:=lf h
      exact bk oU (p26<|sg 0 c25<|eF .normal (cq t4 (t4==14)))<|by kernel_rfl
     ·have p28:=fun{sc F} (r:PS sc F)=>p26<|sg 0 c25<|r
      rcases aN h with⟨c27,h⟩|⟨c27,h⟩
      ·obtain rfl:=lf h
       exact bk oU (p28<|sg 0 c27<|eF .normal (cq t4 (t4==16)))<|by kernel_rfl
      ·have p30:=fun{sc F} (r:PS sc F)=>p28<|sg 0 c27<|r
       rcases aN h with⟨c29,h⟩|⟨c29,h⟩
       ·obtain rfl:=lf h
        exact bk oU (p30<|sg 0 c29<|eF .normal (cq t4 (t4==17)))<|by kernel_rfl
       ·have p32:=fun{sc F} (r:PS sc F)=>p30<|sg 0 c29<|r
        rcases aN h with⟨c31,h⟩|⟨c31,h⟩
        ·obtain rfl:=lf h
         exact bk oU (p32<|sg 0 c31<|eF .normal (cq t4 (t4==18)))<|by kernel_rfl
        ·have p34:=fun{sc F} (r:PS sc F)=>p32<|sg 0 c31<|r
         rcases aN h with⟨c33,h⟩|⟨c33,h⟩
         ·obtain rfl:=lf h
          exact bk oU (p34<|sg 0 c33<|eF .normal (cq t4 (t4==19)))<|by kernel_rfl
         ·have p36:=fun{sc F} (r:PS sc F)=>p34<|sg 0 c33<|r
          rcases aN h with⟨c35,h⟩|⟨c35,h⟩
          ·obtain rfl:=lf h
           exact bk oU (p36<|sg 0 c35<|eF .normal (cq t4 (t4==20)))<|by kernel_rfl
          ·obtain rfl:=lf h
           exact bk oU (p36<|sg 0 c35<|eF .normal (cq t4 (t4==24)))<|by kernel_rfl
end
section
variable(t4:Int)
def CZ:az:=aZ 56 [(2,.bptr 0 0),(4,.int .i64 t4)] [.cells [.bool false,.bool false,.int .i64 0,.int .i64 0,.bool false,.bool false,.int .i64 0,.int .i64 0,.bool false] []] []
def iS(o:Bool):az:=aZ 56 [(2,.bptr 0 0),(4,.int .i64 t4),(43,.bool o)] [.cells [.bool false,.bool false,.int .i64 0,.int .i64 0,.bool false,.bool false,.int .i64 0,.int .i64 0,.bool false] []] []
def xd:Option Bool:=
 if(t4==15)=true then
  some (t4==15)
 else
  if(t4==21)=true then
   some (t4==21)
  else
   if(t4==22)=true then
    some (t4==22)
   else
    some (t4==23)
theorem Bp{x:Bool}(h:xd t4=some x):aP Pg GE 0 (cA AT 14680062) (EX .normal (iS t4 x)) (CZ t4):=by
 rcases aN h with⟨c40,h⟩|⟨c40,h⟩
 ·obtain rfl:=lf h
  exact bk oU (sg 0 c40<|eF .normal (iS t4 (t4==15)))<|by kernel_rfl
 ·rcases aN h with⟨c41,h⟩|⟨c41,h⟩
  ·obtain rfl:=lf h
   exact bk oU (sg 0 c40<|sg 0 c41<|eF .normal (iS t4 (t4==21)))<|by kernel_rfl
  ·have p43:=fun{sc F} (r:PS sc F)=>sg 0 c40<|sg 0 c41<|r
   rcases aN h with⟨c42,h⟩|⟨c42,h⟩
   ·obtain rfl:=lf h
    exact bk oU (p43<|sg 0 c42<|eF .normal (iS t4 (t4==22)))<|by kernel_rfl
   ·obtain rfl:=lf h
    exact bk oU (p43<|sg 0 c42<|eF .normal (iS t4 (t4==23)))<|by kernel_rfl
end
def BY (op:Int):Option (aq×Bool) :=
 (xa op).bind fun o2=>
 if o2=true then
  some ((⟨true,false,0,0,false,false,0,0,false⟩:aq),true)
 else
  if(op==3)=true then
   some ((⟨false,true,0,0,false,false,0,0,false⟩:aq),true)
  else
   if(op==4)=true then
    some ((⟨false,true,0,6,false,false,0,1073741824,true⟩:aq),true)
   else
    if(op==5)=true then
     some ((⟨false,true,1,6,false,false,0,1073741824,true⟩:aq),true)
    else
     if(op==6)=true then
      some ((⟨false,false,1,1,true,false,0,0,false⟩:aq),true)
     else
      if(op==7)=true then
       some ((⟨false,true,2,2,false,false,0,1,true⟩:aq),true)
      else
       if(op==8)=true then
        some ((⟨false,false,3,3,false,false,0,0,false⟩:aq),true)
       else
        if(op==9)=true then
         some ((⟨false,false,1,1,false,true,0,0,false⟩:aq),true)
        else
         (xc op).bind fun o37=>
         if o37=true then
          some ((⟨false,false,2,2,false,false,0,0,false⟩:aq),true)
         else
          (xd op).bind fun o44=>
          if o44=true then
           some ((⟨false,false,1,1,false,false,0,0,false⟩:aq),true)
          else
           if(op==25)=true then
            some ((⟨false,true,2,7,false,false,0,0,false⟩:aq),true)
           else
            if(op==26)=true then
             some ((⟨false,false,1,1,false,false,1,1,true⟩:aq),true)
            else
             some ((⟨false,false,0,0,false,false,0,0,false⟩:aq),false)
theorem Fp {op:Int} {r:aq×Bool} (h:BY op = some r):CC Pg GE 116 [.int .i64 op] (.tuple [.agg (aE r.1),.bool r.2]) []:=by
 obtain⟨o2,bo2,h⟩:=aG h
 have p4:=fun{sc F} (r:PS sc F)=>sx Ss<|oz 2<|cU (Bn op bo2)<|r
 rcases aN h with⟨c3,h⟩|⟨c3,h⟩
 ·obtain rfl:=lf h
  have z:=p4<|sg 0 c3<|sv (Do true)<|sx (co (⟨true,false,0,0,false,false,0,0,false⟩:aq))<|en (aI (va3 PVal.tuple (kn (cr (⟨true,false,0,0,false,false,0,0,false⟩:aq)) (kn (rP (.bool true)) (rfl:([]:List PVal)=[]))))<|(aI (bB (⟨true,false,0,0,false,false,0,0,false⟩:aq)) (aI trivial trivial)))
  exact cC oU call116 func116 (c:=AT) rfl (aI trivial trivial) z<|by kernel_rfl
 ·have p6:=fun{sc F} (r:PS sc F)=>p4<|sg 0 c3<|r
  rcases aN h with⟨c5,h⟩|⟨c5,h⟩
  ·obtain rfl:=lf h
   have z:=p6<|sg 0 c5<|sv (Dp true)<|sx (co (⟨false,true,0,0,false,false,0,0,false⟩:aq))<|en (aI (va3 PVal.tuple (kn (cr (⟨false,true,0,0,false,false,0,0,false⟩:aq)) (kn (rP (.bool true)) (rfl:([]:List PVal)=[]))))<|(aI (bB (⟨false,true,0,0,false,false,0,0,false⟩:aq)) (aI trivial trivial)))
   exact cC oU call116 func116 (c:=AT) rfl (aI trivial trivial) z<|by kernel_rfl
  ·have p8:=fun{sc F} (r:PS sc F)=>p6<|sg 0 c5<|r
   rcases aN h with⟨c7,h⟩|⟨c7,h⟩
   ·obtain rfl:=lf h
    have z:=p8<|sg 0 c7<|sv (wv true 6 true 1073741824)<|sx (co (⟨false,true,0,6,false,false,0,1073741824,true⟩:aq))<|en (aI (va3 PVal.tuple (kn (cr (⟨false,true,0,6,false,false,0,1073741824,true⟩:aq)) (kn (rP (.bool true)) (rfl:([]:List PVal)=[]))))<|(aI (bB (⟨false,true,0,6,false,false,0,1073741824,true⟩:aq)) (aI trivial trivial)))
    exact cC oU call116 func116 (c:=AT) rfl (aI trivial trivial) z<|by kernel_rfl
   ·have p10:=fun{sc F} (r:PS sc F)=>p8<|sg 0 c7<|r
    rcases aN h with⟨c9,h⟩|⟨c9,h⟩
    ·obtain rfl:=lf h
     have z:=p10<|sg 0 c9<|sv (mM true 1 6 true 1073741824)<|sx (co (⟨false,true,1,6,false,false,0,1073741824,true⟩:aq))<|en (aI (va3 PVal.tuple (kn (cr (⟨false,true,1,6,false,false,0,1073741824,true⟩:aq)) (kn (rP (.bool true)) (rfl:([]:List PVal)=[]))))<|(aI (bB (⟨false,true,1,6,false,false,0,1073741824,true⟩:aq)) (aI trivial trivial)))
     exact cC oU call116 func116 (c:=AT) rfl (aI trivial trivial) z<|by kernel_rfl
    ·have p12:=fun{sc F} (r:PS sc F)=>p10<|sg 0 c9<|r
     rcases aN h with⟨c11,h⟩|⟨c11,h⟩
     ·obtain rfl:=lf h
      have z:=p12<|sg 0 c11<|sv (yJ true 1 1)<|sx (co (⟨false,false,1,1,true,false,0,0,false⟩:aq))<|en (aI (va3 PVal.tuple (kn (cr (⟨false,false,1,1,true,false,0,0,false⟩:aq)) (kn (rP (.bool true)) (rfl:([]:List PVal)=[]))))<|(aI (bB (⟨false,false,1,1,true,false,0,0,false⟩:aq)) (aI trivial trivial)))
      exact cC oU call116 func116 (c:=AT) rfl (aI trivial trivial) z<|by kernel_rfl
     ·have p14:=fun{sc F} (r:PS sc F)=>p12<|sg 0 c11<|r
      rcases aN h with⟨c13,h⟩|⟨c13,h⟩
      ·obtain rfl:=lf h
       have z:=p14<|sg 0 c13<|sv (mM true 2 2 true 1)<|sx (co (⟨false,true,2,2,false,false,0,1,true⟩:aq))<|en (aI (va3 PVal.tuple (kn (cr (⟨false,true,2,2,false,false,0,1,true⟩:aq)) (kn (rP (.bool true)) (rfl:([]:List PVal)=[]))))<|(aI (bB (⟨false,true,2,2,false,false,0,1,true⟩:aq)) (aI trivial trivial)))
       exact cC oU call116 func116 (c:=AT) rfl (aI trivial trivial) z<|by kernel_rfl
      ·have p16:=fun{sc F} (r:PS sc F)=>p14<|sg 0 c13<|r
       rcases aN h with⟨c15,h⟩|⟨c15,h⟩
       ·obtain rfl:=lf h
        have z:=p16<|sg 0 c15<|sv (mU 3 3)<|sx (co (⟨false,false,3,3,false,false,0,0,false⟩:aq))<|en (aI (va3 PVal.tuple (kn (cr (⟨false,false,3,3,false,false,0,0,false⟩:aq)) (kn (rP (.bool true)) (rfl:([]:List PVal)=[]))))<|(aI (bB (⟨false,false,3,3,false,false,0,0,false⟩:aq)) (aI trivial trivial)))
        exact cC oU call116 func116 (c:=AT) rfl (aI trivial trivial) z<|by kernel_rfl
       ·have p18:=fun{sc F} (r:PS sc F)=>p16<|sg 0 c15<|r
        rcases aN h with⟨c17,h⟩|⟨c17,h⟩
        ·obtain rfl:=lf h
         have z:=p18<|sg 0 c17<|sv (yK true 1 1)<|sx (co (⟨false,false,1,1,false,true,0,0,false⟩:aq))<|en (aI (va3 PVal.tuple (kn (cr (⟨false,false,1,1,false,true,0,0,false⟩:aq)) (kn (rP (.bool true)) (rfl:([]:List PVal)=[]))))<|(aI (bB (⟨false,false,1,1,false,true,0,0,false⟩:aq)) (aI trivial trivial)))
         exact cC oU call116 func116 (c:=AT) rfl (aI trivial trivial) z<|by kernel_rfl
        ·obtain⟨o37,bo37,h⟩:=aG h
         have p39:=fun{sc F} (r:PS sc F)=>p18<|sg 0 c17<|oz 0<|cU (Bo op bo37)<|r
         rcases aN h with⟨c38,h⟩|⟨c38,h⟩
         ·obtain rfl:=lf h
          have z:=p39<|sg 0 c38<|sv (mU 2 2)<|sx (co (⟨false,false,2,2,false,false,0,0,false⟩:aq))<|en (aI (va3 PVal.tuple (kn (cr (⟨false,false,2,2,false,false,0,0,false⟩:aq)) (kn (rP (.bool true)) (rfl:([]:List PVal)=[]))))<|(aI (bB (⟨false,false,2,2,false,false,0,0,false⟩:aq)) (aI trivial trivial)))
          exact cC oU call116 func116 (c:=AT) rfl (aI trivial trivial) z<|by kernel_rfl
         ·obtain⟨o44,bo44,h⟩:=aG h
          have p46:=fun{sc F} (r:PS sc F)=>p39<|sg 0 c38<|oz 0<|cU (Bp op bo44)<|r
          rcases aN h with⟨c45,h⟩|⟨c45,h⟩
          ·obtain rfl:=lf h
           have z:=p46<|sg 0 c45<|sv (mU 1 1)<|sx (co (⟨false,false,1,1,false,false,0,0,false⟩:aq))<|en (aI (va3 PVal.tuple (kn (cr (⟨false,false,1,1,false,false,0,0,false⟩:aq)) (kn (rP (.bool true)) (rfl:([]:List PVal)=[]))))<|(aI (bB (⟨false,false,1,1,false,false,0,0,false⟩:aq)) (aI trivial trivial)))
           exact cC oU call116 func116 (c:=AT) rfl (aI trivial trivial) z<|by kernel_rfl
          ·have p48:=fun{sc F} (r:PS sc F)=>p46<|sg 0 c45<|r
           rcases aN h with⟨c47,h⟩|⟨c47,h⟩
           ·obtain rfl:=lf h
            have z:=p48<|sg 0 c47<|sv (yI true 2 7)<|sx (co (⟨false,true,2,7,false,false,0,0,false⟩:aq))<|en (aI (va3 PVal.tuple (kn (cr (⟨false,true,2,7,false,false,0,0,false⟩:aq)) (kn (rP (.bool true)) (rfl:([]:List PVal)=[]))))<|(aI (bB (⟨false,true,2,7,false,false,0,0,false⟩:aq)) (aI trivial trivial)))
            exact cC oU call116 func116 (c:=AT) rfl (aI trivial trivial) z<|by kernel_rfl
           ·have p50:=fun{sc F} (r:PS sc F)=>p48<|sg 0 c47<|r
            rcases aN h with⟨c49,h⟩|⟨c49,h⟩
            ·obtain rfl:=lf h
             have z:=p50<|sg 0 c49<|sv (uz 1 1 true 1 1)<|sx (co (⟨false,false,1,1,false,false,1,1,true⟩:aq))<|en (aI (va3 PVal.tuple (kn (cr (⟨false,false,1,1,false,false,1,1,true⟩:aq)) (kn (rP (.bool true)) (rfl:([]:List PVal)=[]))))<|(aI (bB (⟨false,false,1,1,false,false,1,1,true⟩:aq)) (aI trivial trivial)))
             exact cC oU call116 func116 (c:=AT) rfl (aI trivial trivial) z<|by kernel_rfl
            ·obtain rfl:=lf h
             have z:=p50<|sg 0 c49<|sv (Dq)<|sx (co (⟨false,false,0,0,false,false,0,0,false⟩:aq))<|en (aI (va3 PVal.tuple (kn (cr (⟨false,false,0,0,false,false,0,0,false⟩:aq)) (kn (rP (.bool false)) (rfl:([]:List PVal)=[]))))<|(aI (bB (⟨false,false,0,0,false,false,0,0,false⟩:aq)) (aI trivial trivial)))
             exact cC oU call116 func116 (c:=AT) rfl (aI trivial trivial) z<|by kernel_rfl
noncomputable def Vj:Code:=f139.body.getD .skip
def U2:List Nat:=[]
def yA(a:aO):Option Bool:=
 some (decide ((a.Names.length:Int)>6))
theorem CM{a:aO}{r:Bool}(h:yA a=some r):CC Pg GE 139 [.agg (aA a)] (.bool r) []:=by
 obtain rfl:=lf h
 have z:=se (Lt a)<|sv (pg a)<|sv (pn a)<|bW (ch.ln a.Names)<|en (aI (rP (.bool (decide ((a.Names.length:Int)>6))))<|trivial)
 exact cC U2 call139 func139 (c:=Vj) rfl (aI (bL a) trivial) z<|by kernel_rfl
noncomputable def Rx:Code:=f158.body.getD .skip
def PJ:List Nat:=[10,17]
section
variable(s:waC)(t7:Int)(t8:Int)
def de:az:=aZ 19 [(0,sl aA s),(1,.func (.func 139) [] []),(7,.int .i64 t7),(8,.int .i64 t8)] [] []
def df(o:Int⊕(Unit)):Exit:=match o with
 |(.inl _)=>.ret
 |(.inr _)=>.exit 0
def cu(o:Int⊕(Unit)):az:=match o with
 |(.inl o)=>aZ 19 [(4,.int .i64 o)] [] []
 |(.inr o)=>aZ 19 [] [] []
def j7:Option (Int⊕(Int⊕(Unit))):=
 if(decide (t8<t7))=true then
  (fO s t8).bind fun x2=>
  (yA x2).bind fun r3=>
  if r3=true then
   some (.inr (.inl t8))
  else
   some (.inl (bZ (t8+1)))
 else
  some (.inr (.inr ()))
def kY:Option (Int⊕(Unit)):=loop (fun(zz:Int)=>j7 s t7 zz) t8
theorem pE{y:Int⊕(Int⊕(Unit))}(h:j7 s t7 t8=some y):aP Pg GE 0 (cA Rx 55) (LQ (fun(zz:Int)=>de s t7 zz) df cu y) (de s t7 t8):=by
 rcases aN h with⟨c1,h⟩|⟨c1,h⟩
 ·obtain⟨x2,bx2,h⟩:=aG h
  obtain⟨r3,br3,h⟩:=aG h
  have p5:=fun{sc F} (r:PS sc F)=>sg 0 c1<|sv (ea.ia (k:=.i64) bx2)<|sv (ku x2)<|cH (CM br3)<|r
  rcases aN h with⟨c4,h⟩|⟨c4,h⟩
  ·obtain rfl:=lf h
   have z:=p5<|sg 0 c4<|eF (df (.inl t8)) (cu (.inl t8))
   exact iZ PJ (by intro hx;cases hx) z<|by kernel_rfl
  ·obtain rfl:=lf h
   exact xO PJ (p5<|sg 0 c4<|eF .normal (de s t7 (bZ (t8+1))))<|by kernel_rfl
 ·obtain rfl:=lf h
  have z:=sg 0 c1<|eF (df (.inr ())) (cu (.inr ()))
  exact iZ PJ (by intro hx;cases hx) z<|by kernel_rfl
theorem jR{x:Int⊕(Unit)}(h:kY s t7 t8=some x):aP Pg GE 0 (.loop (cA Rx 55)) (EX (df x) (cu x)) (de s t7 t8):=
 aP.loop (S:=fun(zz:Int)=>de s t7 zz) (ex:=df) (s:=t8) h fun zz y hy=>pE s t7 zz hy
end
def mO(s:waC):Option Int:=
 (kY s (s.length:Int) 0).bind fun o6=>match o6 with
 |(.inl o6)=>
  some o6
 |(.inr o6)=>
  some (-1)
theorem sd{s:waC}{r:Int}(h:mO s=some r):CC Pg GE 158 [sl aA s,.func (.func 139) [] []] (.int .i64 r) []:=by
 obtain⟨o6,bo6,h⟩:=aG h
 rcases o6 with o6|o6
 ·obtain rfl:=lf h
  have z:=bW (ea.ln s)<|cU (e:=.ret) (s1:=cu (.inl o6)) (jR s (s.length:Int) 0 bo6)<|en (aI (rP (.int .i64 o6))<|trivial)
  exact cC PJ call158 func158 (c:=Rx) rfl (aI (aj bL s) (aI (aI trivial trivial) trivial)) z<|by kernel_rfl
 ·obtain rfl:=lf h
  have z:=bW (ea.ln s)<|cU (e:=.exit 0) (s1:=cu (.inr o6)) (jR s (s.length:Int) 0 bo6)<|en (aI (rP (.int .i64 (-1)))<|trivial)
  exact cC PJ call158 func158 (c:=Rx) rfl (aI (aj bL s) (aI (aI trivial trivial) trivial)) z<|by kernel_rfl
noncomputable def Vi:Code:=f138.body.getD .skip
def U1:List Nat:=[]
def kW(s:waC):Option Bool:=
 (mO s).bind fun r1=>
 some (decide (r1>=0))
theorem qe{s:waC}{r:Bool}(h:kW s=some r):CC Pg GE 138 [sl aA s,.func (.func 139) [] []] (.bool r) []:=by
 obtain⟨r1,br1,h⟩:=aG h
 obtain rfl:=lf h
 have z:=cH (sd br1)<|en (aI (rP (.bool (decide (r1>=0))))<|trivial)
 exact cC U1 call138 func138 (c:=Vi) rfl (aI (aj bL s) (aI (aI trivial trivial) trivial)) z<|by kernel_rfl
noncomputable def PZ:Code:=f117.body.getD .skip
def Ca:List Nat:=[]
section
variable(e:af)(s:aq)
def CO:az:=aZ 69 [(2,.eptr (ac e)),(3,.eptr (aE s))] [.dead,.dead] []
def iO(o:Bool):az:=aZ 69 [(2,.eptr (ac e)),(3,.eptr (aE s)),(34,.bool o)] [.dead,.dead] []
def wX:Option Bool:=
 if(decide ((e.Kids.length:Int)<s.least))=true then
  some true
 else
  if(decide ((e.Kids.length:Int)>s.most))=true then
   some true
  else
   if(decide ((e.Types.length:Int)<s.typesLeast))=true then
    some true
   else
    some (decide ((e.Types.length:Int)>s.typesMost))
theorem Bi{x:Bool}(h:wX e s=some x):aP Pg GE 0 (cA PZ 12) (EX .normal (iO e s x)) (CO e s):=by
 have p2:=fun{sc F} (r:PS sc F)=>sv (aR e)<|sv (aS e)<|bW (fi.ln e.Kids)<|sv (yM s)<|sv (AX s)<|r
 rcases aN h with⟨c1,h⟩|⟨c1,h⟩
 ·obtain rfl:=lf h
  exact bk Ca (p2<|sg 7 c1<|eF .normal (iO e s true))<|by kernel_rfl
 ·have p4:=fun{sc F} (r:PS sc F)=>p2<|sg 7 c1<|sv (aR e)<|sv (aS e)<|bW (fi.ln e.Kids)<|sv (yN s)<|sv (AY s)<|r
  rcases aN h with⟨c3,h⟩|⟨c3,h⟩
  ·obtain rfl:=lf h
   exact bk Ca (p4<|sg 15 c3<|eF .normal (iO e s true))<|by kernel_rfl
  ·have p6:=fun{sc F} (r:PS sc F)=>p4<|sg 15 c3<|sv (aJ e)<|sv (aK e)<|bW (d4.ln e.Types)<|sv (yP s)<|sv (A5 s)<|r
   rcases aN h with⟨c5,h⟩|⟨c5,h⟩
   ·obtain rfl:=lf h
    exact bk Ca (p6<|sg 23 c5<|eF .normal (iO e s true))<|by kernel_rfl
   ·obtain rfl:=lf h
    exact bk Ca (p6<|sg 23 c5<|sv (aJ e)<|sv (aK e)<|bW (d4.ln e.Types)<|sv (yQ s)<|sv (A7 s)<|eF .normal (iO e s (decide ((e.Types.length:Int)>s.typesMost))))<|by kernel_rfl
end
section
variable(e:af)(s:aq)
def CP:az:=aZ 69 [(2,.eptr (ac e)),(3,.eptr (aE s))] [.dead,.dead] []
def dD(o:Bool):az:=aZ 69 [(2,.eptr (ac e)),(64,.bool o)] [.dead,.dead] []
def wY:Option Bool:=
 if s.params=true then
  if(decide ((e.Params.length:Int)<1))=true then
   some true
  else
   if(decide ((e.Params.length:Int)>6))=true then
    some true
   else
    if s.alts=true then
     if(decide ((e.Alts.length:Int)<1))=true then
      some true
     else
      some (decide ((e.Alts.length:Int)>8))
    else
     some false
 else
  if s.alts=true then
   if(decide ((e.Alts.length:Int)<1))=true then
    some true
   else
    some (decide ((e.Alts.length:Int)>8))
  else
   some false
theorem Bj{x:Bool}(h:wY e s=some x):aP Pg GE 0 (cA PZ 28) (EX .normal (dD e x)) (CP e s):=by
 have p11:=fun{sc F} (r:PS sc F)=>sv (yO s)<|sv (AZ s)<|r
 rcases aN h with⟨c10,h⟩|⟨c10,h⟩
 ·have p13:=fun{sc F} (r:PS sc F)=>p11<|sg 3 c10<|sv (bw e)<|sv (bA e)<|bW (kU.ln e.Params)<|r
  rcases aN h with⟨c12,h⟩|⟨c12,h⟩
  ·obtain rfl:=lf h
   exact bk Ca (p13<|sg 8 c12<|eF .normal (dD e true))<|by kernel_rfl
  ·have p15:=fun{sc F} (r:PS sc F)=>p13<|sg 8 c12<|sv (bw e)<|sv (bA e)<|bW (kU.ln e.Params)<|r
   rcases aN h with⟨c14,h⟩|⟨c14,h⟩
   ·obtain rfl:=lf h
    exact bk Ca (p15<|sg 15 c14<|eF .normal (dD e true))<|by kernel_rfl
   ·have p17:=fun{sc F} (r:PS sc F)=>p15<|sg 15 c14<|sv (qm s)<|sv (sM s)<|r
    rcases aN h with⟨c16,h⟩|⟨c16,h⟩
    ·have p19:=fun{sc F} (r:PS sc F)=>p17<|sg 18 c16<|sv (aB e)<|sv (aC e)<|bW (ea.ln e.Alts)<|r
     rcases aN h with⟨c18,h⟩|⟨c18,h⟩
     ·obtain rfl:=lf h
      exact bk Ca (p19<|sg 23 c18<|eF .normal (dD e true))<|by kernel_rfl
     ·obtain rfl:=lf h
      exact bk Ca (p19<|sg 23 c18<|sv (aB e)<|sv (aC e)<|bW (ea.ln e.Alts)<|eF .normal (dD e (decide ((e.Alts.length:Int)>8))))<|by kernel_rfl
    ·obtain rfl:=lf h
     exact bk Ca (p17<|sg 18 c16<|eF .normal (dD e false))<|by kernel_rfl
 ·have p21:=fun{sc F} (r:PS sc F)=>p11<|sg 3 c10<|sv (qm s)<|sv (sM s)<|r
  rcases aN h with⟨c20,h⟩|⟨c20,h⟩
  ·have p23:=fun{sc F} (r:PS sc F)=>p21<|sg 18 c20<|sv (aB e)<|sv (aC e)<|bW (ea.ln e.Alts)<|r
   rcases aN h with⟨c22,h⟩|⟨c22,h⟩
   ·obtain rfl:=lf h
    exact bk Ca (p23<|sg 23 c22<|eF .normal (dD e true))<|by kernel_rfl
   ·obtain rfl:=lf h
    exact bk Ca (p23<|sg 23 c22<|sv (aB e)<|sv (aC e)<|bW (ea.ln e.Alts)<|eF .normal (dD e (decide ((e.Alts.length:Int)>8))))<|by kernel_rfl
  ·obtain rfl:=lf h
   exact bk Ca (p21<|sg 18 c20<|eF .normal (dD e false))<|by kernel_rfl
end
def BX(e:af)(s:aq):Option Bool:=
 (wX e s).bind fun o7=>
 if o7=true then
  some false
 else
  (wY e s).bind fun o24=>
  if o24=true then
   some false
  else
   (kW e.Alts).bind fun r27=>
   some (!r27)
theorem Fj{e:af}{s:aq}{r:Bool}(h:BX e s=some r):CC Pg GE 117 [.agg (ac e),.agg (aE s)] (.bool r) []:=by
 obtain⟨o7,bo7,h⟩:=aG h
 have p9:=fun{sc F} (r:PS sc F)=>se (bK e)<|se (yq s)<|oz 1<|cU (Bi e s bo7)<|r
 rcases aN h with⟨c8,h⟩|⟨c8,h⟩
 ·obtain rfl:=lf h
  have z:=p9<|sg 0 c8<|en (aI (rP (.bool false))<|trivial)
  exact cC Ca call117 func117 (c:=PZ) rfl (aI (av e) (aI (bB s) trivial)) z<|by kernel_rfl
 ·obtain⟨o24,bo24,h⟩:=aG h
  have p26:=fun{sc F} (r:PS sc F)=>p9<|sg 0 c8<|oz 1<|cU (Bj e s bo24)<|r
  rcases aN h with⟨c25,h⟩|⟨c25,h⟩
  ·obtain rfl:=lf h
   have z:=p26<|sg 0 c25<|en (aI (rP (.bool false))<|trivial)
   exact cC Ca call117 func117 (c:=PZ) rfl (aI (av e) (aI (bB s) trivial)) z<|by kernel_rfl
  ·obtain⟨r27,br27,h⟩:=aG h
   obtain rfl:=lf h
   have z:=p26<|sg 0 c25<|sv (aB e)<|sv (aC e)<|cH (qe br27)<|en (aI (rP (.bool (!r27)))<|trivial)
   exact cC Ca call117 func117 (c:=PZ) rfl (aI (av e) (aI (bB s) trivial)) z<|by kernel_rfl
noncomputable def TW:Code:=f118.body.getD .skip
def TC:List Nat:=[]
def QD(n:Int):Option Bool:=
 if(decide (n>=(-1000000000000)))=true then
  some (decide (n<=1000000000000))
 else
  some false
theorem O3{n:Int}{r:Bool}(h:QD n=some r):CC Pg GE 118 [.int .i64 n] (.bool r) []:=by
 rcases aN h with⟨c1,h⟩|⟨c1,h⟩
 ·obtain rfl:=lf h
  have z:=sg 3 c1<|en (aI (rP (.bool (decide (n<=1000000000000))))<|trivial)
  exact cC TC call118 func118 (c:=TW) rfl (aI trivial trivial) z<|by kernel_rfl
 ·obtain rfl:=lf h
  have z:=sg 3 c1<|en (aI (rP (.bool false))<|trivial)
  exact cC TC call118 func118 (c:=TW) rfl (aI trivial trivial) z<|by kernel_rfl
noncomputable def Ry:Code:=f159.body.getD .skip
def PK:List Nat:=[]
section
variable(t7:waA)(t8:Int)(t9:Int)(m0:(List (ag×Bool)))
def hO:az:=aZ 19 [(3,.mapr 0),(7,sl cS t7),(8,.int .i64 t8),(9,.int .i64 t9)] [.map (aF PVal.bool m0)] []
def hU(o:((List (ag×Bool)))⊕((List (ag×Bool)))):Exit:=match o with
 |(.inl _)=>.ret
 |(.inr _)=>.exit 0
def fB(o:((List (ag×Bool)))⊕((List (ag×Bool)))):az:=match o with
 |(.inl o)=>aZ 19 [(2,.bool false)] [.map (aF PVal.bool o)] []
 |(.inr o)=>aZ 19 [] [.map (aF PVal.bool o)] []
def sO:Option ((Int×(List (ag×Bool)))⊕(((List (ag×Bool)))⊕((List (ag×Bool))))):=
 if(decide (t9<t8))=true then
  (fO t7 t9).bind fun x2=>
  if((GJ m0 x2).getD false)=true then
   some (.inr (.inl m0))
  else
   some (.inl (bZ (t9+1),wh m0 x2 true))
 else
  some (.inr (.inr m0))
def vj:Option (((List (ag×Bool)))⊕((List (ag×Bool)))):=loop (fun(zz:Int×(List (ag×Bool)))=>sO t7 t8 zz.1 zz.2) (t9,m0)
theorem yR{y:(Int×(List (ag×Bool)))⊕(((List (ag×Bool)))⊕((List (ag×Bool))))}(h:sO t7 t8 t9 m0=some y):aP Pg GE 0 (cA Ry 119) (LQ (fun(zz:Int×(List (ag×Bool)))=>hO t7 t8 zz.1 zz.2) hU fB y) (hO t7 t8 t9 m0):=by
 rcases aN h with⟨c1,h⟩|⟨c1,h⟩
 ·obtain⟨x2,bx2,h⟩:=aG h
  have p4:=fun{sc F} (r:PS sc F)=>sg 0 c1<|sv (ch.ia (k:=.i64) bx2)<|sv (cy C2 (.str x2) [])<|sv (Nu (f:=PVal.bool) underlying124 underlying9 VZ m0 x2)<|r
  rcases aN h with⟨c3,h⟩|⟨c3,h⟩
  ·obtain rfl:=lf h
   have z:=p4<|sg 0 c3<|eF (hU (.inl m0)) (fB (.inl m0))
   exact iZ PK (by intro hx;cases hx) z<|by kernel_rfl
  ·obtain rfl:=lf h
   exact xO PK (p4<|sg 0 c3<|VX (Nv (f:=PVal.bool) underlying124 underlying9 m0 x2 true)<|eF .normal (hO t7 t8 (bZ (t9+1)) (wh m0 x2 true)))<|by kernel_rfl
 ·obtain rfl:=lf h
  have z:=sg 0 c1<|eF (hU (.inr m0)) (fB (.inr m0))
  exact iZ PK (by intro hx;cases hx) z<|by kernel_rfl
theorem rE{x:((List (ag×Bool)))⊕((List (ag×Bool)))}(h:vj t7 t8 t9 m0=some x):aP Pg GE 0 (.loop (cA Ry 119)) (EX (hU x) (fB x)) (hO t7 t8 t9 m0):=
 aP.loop (S:=fun(zz:Int×(List (ag×Bool)))=>hO t7 t8 zz.1 zz.2) (ex:=hU) (s:=(t9,m0)) h fun zz y hy=>yR t7 t8 zz.1 zz.2 hy
end
def zD(a:waA):Option Bool:=
 (vj a (a.length:Int) 0 ([]:List (ag×Bool))).bind fun o5=>match o5 with
 |(.inl o5)=>
  some false
 |(.inr o5)=>
  some true
theorem DG{a:waA}{r:Bool}(h:zD a=some r):CC Pg GE 159 [sl cS a] (.bool r) []:=by
 obtain⟨o5,bo5,h⟩:=aG h
 rcases o5 with o5|o5
 ·obtain rfl:=lf h
  have z:=bW (ch.ln a)<|cU (e:=.ret) (s1:=fB (.inl o5)) (rE a (a.length:Int) 0 ([]:List (ag×Bool)) bo5)<|en (aI (rP (.bool false))<|trivial)
  exact cC PK call159 func159 (c:=Ry) rfl (aI (aj bD a) trivial) z<|by kernel_rfl
 ·obtain rfl:=lf h
  have z:=bW (ch.ln a)<|cU (e:=.exit 0) (s1:=fB (.inr o5)) (rE a (a.length:Int) 0 ([]:List (ag×Bool)) bo5)<|en (aI (rP (.bool true))<|trivial)
  exact cC PK call159 func159 (c:=Ry) rfl (aI (aj bD a) trivial) z<|by kernel_rfl
noncomputable def Vk:Code:=f140.body.getD .skip
def U3:List Nat:=[]
def tp(a:waA):Option Bool:=
 (zD a).bind fun r1=>
 some (!r1)
theorem sw{a:waA}{r:Bool}(h:tp a=some r):CC Pg GE 140 [sl cS a] (.bool r) []:=by
 obtain⟨r1,br1,h⟩:=aG h
 obtain rfl:=lf h
 have z:=cH (DG br1)<|en (aI (rP (.bool (!r1)))<|trivial)
 exact cC U3 call140 func140 (c:=Vk) rfl (aI (aj bD a) trivial) z<|by kernel_rfl
end Go.Proofs.YtkdahfeiedaahaaGreatDoor
