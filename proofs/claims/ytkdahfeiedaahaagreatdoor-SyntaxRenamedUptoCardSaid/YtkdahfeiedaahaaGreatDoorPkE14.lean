/- PROVED: a part of the proof. Conditions: none. -/
import Derived.Test.YtkdahfeiedaahaaGreatDoorPkE13
noncomputable section
namespace Go.Proofs.YtkdahfeiedaahaaGreatDoor
open Go Go.Proofs.Tryz
set_option linter.unusedVariables false
set_option maxRecDepth 100000
section
variable(R55:gf)(e:af)(t14:waE)(t15:Int)(t16:Int)(m:Int)
def eZ:aA:=bj 38 [(1,.func (.func 68) [] [.bptr 0 0]),(2,.eptr (ae e)),(14,sl ae t14),(15,.int .i64 t15),(16,.int .i64 t16)] [.cells [.int .i64 m] [],.dead] []
def e8(o:Int⊕(Int)):Exit:=match o with
 |(.inl _)=>.ret
 |(.inr _)=>.exit 0
def de(o:Int⊕(Int)):aA:=match o with
 |(.inl o)=>bj 38 [(4,.bool false)] [.cells [.int .i64 o] [],.dead] []
 |(.inr o)=>bj 38 [(1,.func (.func 68) [] [.bptr 0 0]),(2,.eptr (ae e))] [.cells [.int .i64 o] [],.dead] []
def dc:Option ((Int×Int)⊕(Int⊕(Int))):=
 if(decide (t16<t15))=true then
  (gY t14 t16).bind fun x5=>
  (R55 x5 m).bind fun r6=>
  if(!r6.1)=true then
   some (.inr (.inl r6.2))
  else
   some (.inl (cp (t16+1),r6.2))
 else
  some (.inr (.inr m))
def qo:Option (Int⊕(Int)):=loop (fun(zz:Int×Int)=>dc R55 t14 t15 zz.1 zz.2) (t16,m)
theorem uZ(hR55:gb R55){y:(Int×Int)⊕(Int⊕(Int))}(h:dc R55 t14 t15 t16 m=some y):aR Pg GE 1 (cA BG 119) (LQ (fun(zz:Int×Int)=>eZ e t14 t15 zz.1 zz.2) e8 (de e) y) (eZ e t14 t15 t16 m):=by
 rcases aP h with⟨c4,h⟩|⟨c4,h⟩
 ·obtain⟨x5,bx5,h⟩:=aJ h
  obtain⟨r6,br6,h⟩:=aJ h
  have p8:=fun{sc F} (r:PS sc F)=>sg 0 c4<|sv (g6.ia (k:=.i64) bx5)<|sv (bv x5)<|sx wG<|sx (kv x5)<|sv (bu x5 [])<|si (.cg ⟨[0],[.agg (ae x5),.func (.func 68) [] [.bptr 0 0]],[],[.cells [.int .i64 m] []],[.cells [.int .i64 m] []],[.cells [.int .i64 r6.2] []],[.cells [.int .i64 r6.2] []],.bool r6.1,.bool r6.1,[]⟩) (hR55 _ _ _ br6)<|sf (aI (xR [0] (.agg (ae x5)) (ay x5)) (aI (xF [0] (.func 68) [] [.bptr 0 0] [] [.bptr 0 0] trivial (aI (xB [0] 0 0 0 rfl) trivial)) trivial))<|sf (aI (aI (rB (.cells [.int .i64 m] [])) (aI (rW []) (aI (xR [0] (.int .i64 m) trivial) trivial))) trivial)<|sf (aI (aI (rW []) (aI (xR [0] (.int .i64 r6.2) trivial) trivial)) trivial)<|sf (xR [0] (.bool r6.1) trivial)<|r
  rcases aP h with⟨c7,h⟩|⟨c7,h⟩
  ·obtain rfl:=lf h
   have z:=p8<|sg 0 c7<|tN 1 (e8 (.inl r6.2)) (de e (.inl r6.2)) rfl (d5 (aI trivial trivial)) (aI (aI trivial trivial) (aI trivial trivial))
   exact pR (A:=xz) mixed (by intro hx;cases hx) z<|by kernel_rfl
  ·obtain rfl:=lf h
   have z:=p8<|sg 0 c7<|tN 1 .normal (eZ e t14 t15 (cp (t16+1)) r6.2) rfl (d5 (aI (aI trivial (aI (aZ rfl) trivial)) (aI (be (ay e)) (aI (up (au ay t14)) (aI trivial (aI trivial trivial)))))) (aI (aI trivial trivial) (aI trivial trivial))
   exact ez (A:=xz) mixed z<|by kernel_rfl
 ·obtain rfl:=lf h
  have z:=sg 0 c4<|eF (e8 (.inr m)) (de e (.inr m))
  exact kc xz (by intro hx;cases hx) z<|by kernel_rfl
theorem jx(hR55:gb R55){x:Int⊕(Int)}(h:qo R55 t14 t15 t16 m=some x):aR Pg GE 1 (.loop (cA BG 119)) (EX (e8 x) (de e x)) (eZ e t14 t15 t16 m):=
 aR.loop (S:=fun(zz:Int×Int)=>eZ e t14 t15 zz.1 zz.2) (ex:=e8) (s:=(t16,m)) h fun zz y hy=>uZ R55 e t14 t15 zz.1 zz.2 hR55 hy
end
section
variable(R55:gf)(t26:waC)(t27:Int)(t28:Int)(m:Int)
def e9:aA:=bj 38 [(1,.func (.func 68) [] [.bptr 0 0]),(26,sl az t26),(27,.int .i64 t27),(28,.int .i64 t28)] [.cells [.int .i64 m] [],.dead] []
def fa(o:Int⊕(Int)):Exit:=match o with
 |(.inl _)=>.ret
 |(.inr _)=>.exit 2
def d4(o:Int⊕(Int)):aA:=match o with
 |(.inl o)=>bj 38 [(4,.bool false)] [.cells [.int .i64 o] [],.dead] []
 |(.inr o)=>bj 38 [] [.cells [.int .i64 o] [],.dead] []
def df:Option ((Int×Int)⊕(Int⊕(Int))):=
 if(decide (t28<t27))=true then
  (gY t26 t28).bind fun x11=>
  (R55 x11.Body m).bind fun r12=>
  if(!r12.1)=true then
   some (.inr (.inl r12.2))
  else
   some (.inl (cp (t28+1),r12.2))
 else
  some (.inr (.inr m))
def qp:Option (Int⊕(Int)):=loop (fun(zz:Int×Int)=>df R55 t26 t27 zz.1 zz.2) (t28,m)
theorem u3(hR55:gb R55){y:(Int×Int)⊕(Int⊕(Int))}(h:df R55 t26 t27 t28 m=some y):aR Pg GE 1 (cA BG 247) (LQ (fun(zz:Int×Int)=>e9 t26 t27 zz.1 zz.2) fa d4 y) (e9 t26 t27 t28 m):=by
 rcases aP h with⟨c10,h⟩|⟨c10,h⟩
 ·obtain⟨x11,bx11,h⟩:=aJ h
  obtain⟨r12,br12,h⟩:=aJ h
  have p14:=fun{sc F} (r:PS sc F)=>sg 0 c10<|sv (eQ.ia (k:=.i64) bx11)<|sv (mi x11)<|sx Fh<|sx (i8 x11)<|sv (bu x11.Body [])<|si (.cg ⟨[0],[.agg (ae x11.Body),.func (.func 68) [] [.bptr 0 0]],[],[.cells [.int .i64 m] []],[.cells [.int .i64 m] []],[.cells [.int .i64 r12.2] []],[.cells [.int .i64 r12.2] []],.bool r12.1,.bool r12.1,[]⟩) (hR55 _ _ _ br12)<|sf (aI (xR [0] (.agg (ae x11.Body)) (ay x11.Body)) (aI (xF [0] (.func 68) [] [.bptr 0 0] [] [.bptr 0 0] trivial (aI (xB [0] 0 0 0 rfl) trivial)) trivial))<|sf (aI (aI (rB (.cells [.int .i64 m] [])) (aI (rW []) (aI (xR [0] (.int .i64 m) trivial) trivial))) trivial)<|sf (aI (aI (rW []) (aI (xR [0] (.int .i64 r12.2) trivial) trivial)) trivial)<|sf (xR [0] (.bool r12.1) trivial)<|r
  rcases aP h with⟨c13,h⟩|⟨c13,h⟩
  ·obtain rfl:=lf h
   have z:=p14<|sg 0 c13<|tN 1 (fa (.inl r12.2)) (d4 (.inl r12.2)) rfl (d5 (aI trivial trivial)) (aI (aI trivial trivial) (aI trivial trivial))
   exact pR (A:=xz) mixed (by intro hx;cases hx) z<|by kernel_rfl
  ·obtain rfl:=lf h
   have z:=p14<|sg 0 c13<|tN 1 .normal (e9 t26 t27 (cp (t28+1)) r12.2) rfl (d5 (aI (aI trivial (aI (aZ rfl) trivial)) (aI (up (au bW t26)) (aI trivial (aI trivial trivial))))) (aI (aI trivial trivial) (aI trivial trivial))
   exact ez (A:=xz) mixed z<|by kernel_rfl
 ·obtain rfl:=lf h
  have z:=sg 0 c10<|eF (fa (.inr m)) (d4 (.inr m))
  exact kc xz (by intro hx;cases hx) z<|by kernel_rfl
theorem nz(hR55:gb R55){x:Int⊕(Int)}(h:qp R55 t26 t27 t28 m=some x):aR Pg GE 1 (.loop (cA BG 247)) (EX (fa x) (d4 x)) (e9 t26 t27 t28 m):=
 aR.loop (S:=fun(zz:Int×Int)=>e9 t26 t27 zz.1 zz.2) (ex:=fa) (s:=(t28,m)) h fun zz y hy=>u3 R55 t26 t27 zz.1 zz.2 hR55 hy
end
def jl(R55:gf)(e:af)(k0:Int):Option (Bool×Int):=
 (jb e k0).bind fun r1=>
 if(!r1.1)=true then
  some (false,r1.2)
 else
  (qo R55 e.Kids (e.Kids.length:Int) 0 r1.2).bind fun o9=>match o9 with
  |(.inl o9)=>
   some (false,o9)
  | (.inr o9) =>
   (qp R55 e.Alts (e.Alts.length:Int) 0 o9).bind fun o15=>match o15 with
   |(.inl o15)=>
    some (false,o15)
   |(.inr o15)=>
    some (true,o15)
theorem xv(R55:gf)(hR55:gb R55){e:af}{k0:Int}{r:Bool×Int}(h:jl R55 e k0=some r):C Pg GE 64 [.agg (ae e),.func (.func 68) [] [.bptr 0 0]] [] [.cells [.int .i64 k0] []] (.bool r.1) [] [.cells [.int .i64 r.2] []]:=by
 obtain⟨r1,br1,h⟩:=aJ h
 have p3:=fun{sc F} (r:PS sc F)=>se (cJ e)<|sv (bv e)<|si (.cg ⟨[0],[.agg (ae e),.bptr 0 0],[],[.cells [.int .i64 k0] []],[.cells [.int .i64 k0] []],[.cells [.int .i64 r1.2] []],[.cells [.int .i64 r1.2] []],.bool r1.1,.bool r1.1,[]⟩) (Ec br1)<|sf (aI (xR [0] (.agg (ae e)) (ay e)) (aI (xB [0] 0 0 0 rfl) trivial))<|sf (aI (aI (rB (.cells [.int .i64 k0] [])) (aI (rW []) (aI (xR [0] (.int .i64 k0) trivial) trivial))) trivial)<|sf (aI (aI (rW []) (aI (xR [0] (.int .i64 r1.2) trivial) trivial)) trivial)<|sf (xR [0] (.bool r1.1) trivial)<|r
 rcases aP h with⟨c2,h⟩|⟨c2,h⟩
 ·obtain rfl:=lf h
  have z:=p3<|sg 0 c2<|en (aI (rP (.bool false))<|aI trivial<|aI (rL [.cells [.int .i64 r1.2] []])<|(aI (aI trivial trivial) trivial))
  exact C.evGp (A:=xz) mixed (m:=1) (c:=BG) rfl call64 func64 rfl z<|by kernel_rfl
 ·obtain⟨o9,bo9,h⟩:=aJ h
  rcases o9 with o9|o9
  ·obtain rfl:=lf h
   have z:=p3<|sg 0 c2<|sv (aX e)<|sv (aY e)<|cq (g6.ln e.Kids)<|dS (e:=.ret) (s1:=de e (.inl o9)) (jx R55 e e.Kids (e.Kids.length:Int) 0 r1.2 hR55 bo9)<|en (aI (rP (.bool false))<|aI trivial<|aI (rL [.cells [.int .i64 o9] []])<|(aI (aI trivial trivial) trivial))
   exact C.evGp (A:=xz) mixed (m:=1) (c:=BG) rfl call64 func64 rfl z<|by kernel_rfl
  ·obtain⟨o15,bo15,h⟩:=aJ h
   rcases o15 with o15|o15
   ·obtain rfl:=lf h
    have z:=p3<|sg 0 c2<|sv (aX e)<|sv (aY e)<|cq (g6.ln e.Kids)<|dS (e:=.exit 0) (s1:=de e (.inr o9)) (jx R55 e e.Kids (e.Kids.length:Int) 0 r1.2 hR55 bo9)<|sv (aE e)<|sv (aF e)<|cq (eQ.ln e.Alts)<|dS (e:=.ret) (s1:=d4 (.inl o15)) (nz R55 e.Alts (e.Alts.length:Int) 0 o9 hR55 bo15)<|en (aI (rP (.bool false))<|aI trivial<|aI (rL [.cells [.int .i64 o15] []])<|(aI (aI trivial trivial) trivial))
    exact C.evGp (A:=xz) mixed (m:=1) (c:=BG) rfl call64 func64 rfl z<|by kernel_rfl
   ·obtain rfl:=lf h
    have z:=p3<|sg 0 c2<|sv (aX e)<|sv (aY e)<|cq (g6.ln e.Kids)<|dS (e:=.exit 0) (s1:=de e (.inr o9)) (jx R55 e e.Kids (e.Kids.length:Int) 0 r1.2 hR55 bo9)<|sv (aE e)<|sv (aF e)<|cq (eQ.ln e.Alts)<|dS (e:=.exit 2) (s1:=d4 (.inr o15)) (nz R55 e.Alts (e.Alts.length:Int) 0 o9 hR55 bo15)<|en (aI (rP (.bool true))<|aI trivial<|aI (rL [.cells [.int .i64 o15] []])<|(aI (aI trivial trivial) trivial))
    exact C.evGp (A:=xz) mixed (m:=1) (c:=BG) rfl call64 func64 rfl z<|by kernel_rfl
def me:((af×Int)->Option (Bool×Int))->(af×Int)->Option (Bool×Int):=fun(rec:(af×Int)->Option (Bool×Int)) (x:af×Int)=>jl (fun e k0=>rec (e,k0)) x.1 x.2
def nN(e:af)(k0:Int):Option (Bool×Int):=sd me (e,k0)
theorem yr{e:af}{k0:Int}{r:Bool×Int}(h:nN e k0=some r):C Pg GE 64 [.agg (ae e),.func (.func 68) [] [.bptr 0 0]] [] [.cells [.int .i64 k0] []] (.bool r.1) [] [.cells [.int .i64 r.2] []]:=
 eM (F:=me) (M:=fun(x:af×Int) (r:Bool×Int)=>C Pg GE 64 [.agg (ae x.1),.func (.func 68) [] [.bptr 0 0]] [] [.cells [.int .i64 x.2] []] (.bool r.1) [] [.cells [.int .i64 r.2] []]) (fun rec hrec x r h=>xv _ (fun e k0 r h=>hrec (e,k0) r h) h) h
noncomputable def Yv:Code:=f19.body.getD .skip
def Ye:List Nat:=[]
def kX(e:af):Option Int:=
 (nN e 0).bind fun r1=>
 some r1.2
theorem oJ{e:af}{r:Int}(h:kX e=some r):CC Pg GE 19 [.agg (ae e)] (.int .i64 r) []:=by
 obtain⟨r1,br1,h⟩:=aJ h
 obtain rfl:=lf h
 have z:=se (cJ e)<|sx YP<|ss<|sv (bv e)<|si (.cg ⟨[1],[.agg (ae e),.func (.func 68) [] [.bptr 0 0]],[],[.cells [.int .i64 0] []],[.cells [.int .i64 0] []],[.cells [.int .i64 r1.2] []],[.cells [.int .i64 r1.2] []],.bool r1.1,.bool r1.1,[]⟩) (yr br1)<|sf (aI (xR [1] (.agg (ae e)) (ay e)) (aI (xF [1] (.func 68) [] [.bptr 1 0] [] [.bptr 0 0] trivial (aI (xB [1] 0 1 0 rfl) trivial)) trivial))<|sf (aI (aI (rB (.cells [.int .i64 0] [])) (aI (rW []) (aI (xR [1] (.int .i64 0) trivial) trivial))) trivial)<|sf (aI (aI (rW []) (aI (xR [1] (.int .i64 r1.2) trivial) trivial)) trivial)<|sf (xR [1] (.bool r1.1) trivial)<|ss<|en (aI (rP (.int .i64 r1.2))<|trivial)
 exact cR Ye call19 func19 (c:=Yv) rfl (aI (ay e) trivial) z<|by kernel_rfl
abbrev mF:=(af->Option Int)
abbrev mB(R:mF):Prop:=∀(e:af) (r:Int),R e=some r->CC Pg GE 21 [.agg (ae e)] (.int .i64 r) []
noncomputable def VW:Code:=f21.body.getD .skip
def Vy:List Nat:=[]
section
variable(R57:mF)(e:af)(t9:waE)(t10:Int)(n:Int)(t11:Int)
def jS:aA:=bj 35 [(1,.eptr (ae e)),(3,.int .i64 n),(9,sl ae t9),(10,.int .i64 t10),(11,.int .i64 t11)] [.dead] []
def qc(o:Int):aA:=bj 35 [(1,.eptr (ae e)),(3,.int .i64 o)] [.dead] []
def fP:Option ((Int×Int)⊕(Int)):=
 if(decide (t11<t10))=true then
  (gY t9 t11).bind fun x2=>
  (R57 x2).bind fun r3=>
  some (.inl ((if r3>n then r3 else n),cp (t11+1)))
 else
  some (.inr n)
def oG:Option Int:=loop (fun(zz:Int×Int)=>fP R57 t9 t10 zz.1 zz.2) (n,t11)
theorem Bu(hR57:mB R57){y:(Int×Int)⊕(Int)}(h:fP R57 t9 t10 n t11=some y):aR Pg GE 0 (cA VW 119) (LQ (fun(zz:Int×Int)=>jS e t9 t10 zz.1 zz.2) (fun _=>.exit 0) (qc e) y) (jS e t9 t10 n t11):=by
 rcases aP h with⟨c1,h⟩|⟨c1,h⟩
 ·obtain⟨x2,bx2,h⟩:=aJ h
  obtain⟨r3,br3,h⟩:=aJ h
  obtain rfl:=lf h
  have z:=sg 0 c1<|sv (g6.ia (k:=.i64) bx2)<|sv (bv x2)<|sx wG<|sx (kv x2)<|sv (bu x2 [])<|cW (hR57 _ _ br3)<|tN 0 .normal (jS e t9 t10 (if r3>n then r3 else n) (cp (t11+1))) rfl (d5 (aI (be (ay e)) (aI trivial (aI (up (au ay t9)) (aI trivial (aI trivial trivial)))))) (aI trivial trivial)
  exact ez (A:=Vy) mixed z<|by kernel_rfl
 ·obtain rfl:=lf h
  have z:=sg 0 c1<|eF (.exit 0) (qc e n)
  exact kc Vy (by intro hx;cases hx) z<|by kernel_rfl
theorem CM(hR57:mB R57){x:Int}(h:oG R57 t9 t10 n t11=some x):aR Pg GE 0 (.loop (cA VW 119)) (EX (.exit 0) (qc e x)) (jS e t9 t10 n t11):=
 aR.loop (S:=fun(zz:Int×Int)=>jS e t9 t10 zz.1 zz.2) (ex:=(fun _=>.exit 0)) (s:=(n,t11)) h fun zz y hy=>Bu R57 e t9 t10 zz.1 zz.2 hR57 hy
end
section
variable(R57:mF)(t21:waC)(t22:Int)(n:Int)(t23:Int)
def jT:aA:=bj 35 [(3,.int .i64 n),(21,sl az t21),(22,.int .i64 t22),(23,.int .i64 t23)] [.dead] []
def qd(o:Int):aA:=bj 35 [(3,.int .i64 o)] [.dead] []
def fQ:Option ((Int×Int)⊕(Int)):=
 if(decide (t23<t22))=true then
  (gY t21 t23).bind fun x6=>
  (R57 x6.Body).bind fun r7=>
  some (.inl ((if r7>n then r7 else n),cp (t23+1)))
 else
  some (.inr n)
def oH:Option Int:=loop (fun(zz:Int×Int)=>fQ R57 t21 t22 zz.1 zz.2) (n,t23)
theorem Bv(hR57:mB R57){y:(Int×Int)⊕(Int)}(h:fQ R57 t21 t22 n t23=some y):aR Pg GE 0 (cA VW 247) (LQ (fun(zz:Int×Int)=>jT t21 t22 zz.1 zz.2) (fun _=>.exit 2) qd y) (jT t21 t22 n t23):=by
 rcases aP h with⟨c5,h⟩|⟨c5,h⟩
 ·obtain⟨x6,bx6,h⟩:=aJ h
  obtain⟨r7,br7,h⟩:=aJ h
  obtain rfl:=lf h
  have z:=sg 0 c5<|sv (eQ.ia (k:=.i64) bx6)<|sv (mi x6)<|sx Fh<|sx (i8 x6)<|sv (bu x6.Body [])<|cW (hR57 _ _ br7)<|tN 0 .normal (jT t21 t22 (if r7>n then r7 else n) (cp (t23+1))) rfl (d5 (aI trivial (aI (up (au bW t21)) (aI trivial (aI trivial trivial))))) (aI trivial trivial)
  exact ez (A:=Vy) mixed z<|by kernel_rfl
 ·obtain rfl:=lf h
  have z:=sg 0 c5<|eF (.exit 2) (qd n)
  exact kc Vy (by intro hx;cases hx) z<|by kernel_rfl
theorem CO(hR57:mB R57){x:Int}(h:oH R57 t21 t22 n t23=some x):aR Pg GE 0 (.loop (cA VW 247)) (EX (.exit 2) (qd x)) (jT t21 t22 n t23):=
 aR.loop (S:=fun(zz:Int×Int)=>jT t21 t22 zz.1 zz.2) (ex:=(fun _=>.exit 2)) (s:=(n,t23)) h fun zz y hy=>Bv R57 t21 t22 zz.1 zz.2 hR57 hy
end
def qb(R57:mF)(e:af):Option Int:=
 (oG R57 e.Kids (e.Kids.length:Int) 0 0).bind fun o4=>
 (oH R57 e.Alts (e.Alts.length:Int) o4 0).bind fun o8=>
 some (cp (o8+1))
theorem Fo(R57:mF)(hR57:mB R57){e:af}{r:Int}(h:qb R57 e=some r):CC Pg GE 21 [.agg (ae e)] (.int .i64 r) []:=by
 obtain⟨o4,bo4,h⟩:=aJ h
 obtain⟨o8,bo8,h⟩:=aJ h
 obtain rfl:=lf h
 have z:=se (cJ e)<|sv (aX e)<|sv (aY e)<|cq (g6.ln e.Kids)<|dS (CM R57 e e.Kids (e.Kids.length:Int) 0 0 hR57 bo4)<|sv (aE e)<|sv (aF e)<|cq (eQ.ln e.Alts)<|dS (CO R57 e.Alts (e.Alts.length:Int) o4 0 hR57 bo8)<|en (aI (rP (.int .i64 (cp (o8+1))))<|trivial)
 exact cR Vy call21 func21 (c:=VW) rfl (aI (ay e) trivial) z<|by kernel_rfl
def uP:(af->Option Int)->(af)->Option Int:=fun(rec:af->Option Int) (x:af)=>qb (fun e=>rec e) x
def nl(e:af):Option Int:=sd uP e
theorem oI{e:af}{r:Int}(h:nl e=some r):CC Pg GE 21 [.agg (ae e)] (.int .i64 r) []:=
 eM (F:=uP) (M:=fun(x:af) (r:Int)=>CC Pg GE 21 [.agg (ae x)] (.int .i64 r) []) (fun rec hrec x r h=>Fo _ (fun e r h=>hrec e r h) h) h
abbrev gd:=(af->Int->Option (Bool×Int))
abbrev ga(R:gd):Prop:=∀(e:af) (k0:Int) (r:Bool×Int),R e k0=some r->C Pg GE 64 [.agg (ae e),.func (.func 65) [] [.bptr 0 0]] [] [.cells [.int .i64 k0] []] (.bool r.1) [] [.cells [.int .i64 r.2] []]
noncomputable def Bf:Code:=f116.body.getD .skip
def pr:List Nat:=[]
section
variable(t4:Int)
def C0:aA:=bj 56 [(2,.bptr 0 0),(4,.int .i64 t4)] [.cells [.bool false,.bool false,.int .i64 0,.int .i64 0,.bool false,.bool false,.int .i64 0,.int .i64 0,.bool false] []] []
def oW(o:Bool):aA:=bj 56 [(2,.bptr 0 0),(4,.int .i64 t4),(5,.bool o)] [.cells [.bool false,.bool false,.int .i64 0,.int .i64 0,.bool false,.bool false,.int .i64 0,.int .i64 0,.bool false] []] []
def xq:Option Bool:=
 if(t4==1)=true then
  some (t4==1)
 else
  some (t4==2)
theorem BD{x:Bool}(h:xq t4=some x):aR Pg GE 0 (cA Bf 54) (EX .normal (oW t4 x)) (C0 t4):=by
 rcases aP h with⟨c1,h⟩|⟨c1,h⟩
 ·obtain rfl:=lf h
  exact bJ pr (sg 0 c1<|eF .normal (oW t4 (t4==1)))<|by kernel_rfl
 ·obtain rfl:=lf h
  exact bJ pr (sg 0 c1<|eF .normal (oW t4 (t4==2)))<|by kernel_rfl
end
section
variable(t4:Int)
def C1:aA:=bj 56 [(2,.bptr 0 0),(4,.int .i64 t4)] [.cells [.bool false,.bool false,.int .i64 0,.int .i64 0,.bool false,.bool false,.int .i64 0,.int .i64 0,.bool false] []] []
def cx(o:Bool):aA:=bj 56 [(2,.bptr 0 0),(4,.int .i64 t4),(30,.bool o)] [.cells [.bool false,.bool false,.int .i64 0,.int .i64 0,.bool false,.bool false,.int .i64 0,.int .i64 0,.bool false] []] []
def xr:Option Bool:=
 if(t4==10)=true then
  some (t4==10)
 else
  if(t4==11)=true then
   some (t4==11)
  else
   if(t4==12)=true then
    some (t4==12)
   else
    if(t4==13)=true then
     some (t4==13)
    else
     if(t4==14)=true then
      some (t4==14)
     else
      if(t4==16)=true then
       some (t4==16)
      else
       if(t4==17)=true then
        some (t4==17)
       else
        if(t4==18)=true then
         some (t4==18)
        else
         if(t4==19)=true then
          some (t4==19)
         else
          if(t4==20)=true then
           some (t4==20)
          else
           some (t4==24)
theorem BE {x:Bool} (h:xr t4 = some x) :aR Pg GE 0 (cA Bf 3670014) (EX .normal (cx t4 x)) (C1 t4):=by
 rcases aP h with⟨c19,h⟩|⟨c19,h⟩
 ·obtain rfl:=lf h
  exact bJ pr (sg 0 c19<|eF .normal (cx t4 (t4==10)))<|by kernel_rfl
 ·rcases aP h with⟨c20,h⟩|⟨c20,h⟩
  ·obtain rfl:=lf h
   exact bJ pr (sg 0 c19<|sg 0 c20<|eF .normal (cx t4 (t4==11)))<|by kernel_rfl
  ·have p22:=fun{sc F} (r:PS sc F)=>sg 0 c19<|sg 0 c20<|r
   rcases aP h with⟨c21,h⟩|⟨c21,h⟩
   ·obtain rfl:=lf h
    exact bJ pr (p22<|sg 0 c21<|eF .normal (cx t4 (t4==12)))<|by kernel_rfl
   ·have p24:=fun{sc F} (r:PS sc F)=>p22<|sg 0 c21<|r
    rcases aP h with⟨c23,h⟩|⟨c23,h⟩
    ·obtain rfl:=lf h
     exact bJ pr (p24<|sg 0 c23<|eF .normal (cx t4 (t4==13)))<|by kernel_rfl
    ·have p26:=fun{sc F} (r:PS sc F)=>p24<|sg 0 c23<|r
     rcases aP h with⟨c25,h⟩|⟨c25,h⟩
     ·obtain rfl:=lf h
      exact bJ pr (p26<|sg 0 c25<|eF .normal (cx t4 (t4==14)))<|by kernel_rfl
     ·have p28:=fun{sc F} (r:PS sc F)=>p26<|sg 0 c25<|r
      rcases aP h with⟨c27,h⟩|⟨c27,h⟩
      ·obtain rfl:=lf h
       exact bJ pr (p28<|sg 0 c27<|eF .normal (cx t4 (t4==16)))<|by kernel_rfl
      ·have p30:=fun{sc F} (r:PS sc F)=>p28<|sg 0 c27<|r
       rcases aP h with⟨c29,h⟩|⟨c29,h⟩
       ·obtain rfl:=lf h
        exact bJ pr (p30<|sg 0 c29<|eF .normal (cx t4 (t4==17)))<|by kernel_rfl
       ·have p32:=fun{sc F} (r:PS sc F)=>p30<|sg 0 c29<|r
        rcases aP h with⟨c31,h⟩|⟨c31,h⟩
        ·obtain rfl:=lf h
         exact bJ pr (p32<|sg 0 c31<|eF .normal (cx t4 (t4==18)))<|by kernel_rfl
        ·have p34:=fun{sc F} (r:PS sc F)=>p32<|sg 0 c31<|r
         rcases aP h with⟨c33,h⟩|⟨c33,h⟩
         ·obtain rfl:=lf h
          exact bJ pr (p34<|sg 0 c33<|eF .normal (cx t4 (t4==19)))<|by kernel_rfl
         ·have p36:=fun{sc F} (r:PS sc F)=>p34<|sg 0 c33<|r
          rcases aP h with⟨c35,h⟩|⟨c35,h⟩
          ·obtain rfl:=lf h
           exact bJ pr (p36<|sg 0 c35<|eF .normal (cx t4 (t4==20)))<|by kernel_rfl
          ·obtain rfl:=lf h
           exact bJ pr (p36<|sg 0 c35<|eF .normal (cx t4 (t4==24)))<|by kernel_rfl
end
section
variable(t4:Int)
def C2:aA:=bj 56 [(2,.bptr 0 0),(4,.int .i64 t4)] [.cells [.bool false,.bool false,.int .i64 0,.int .i64 0,.bool false,.bool false,.int .i64 0,.int .i64 0,.bool false] []] []
def ji(o:Bool):aA:=bj 56 [(2,.bptr 0 0),(4,.int .i64 t4),(43,.bool o)] [.cells [.bool false,.bool false,.int .i64 0,.int .i64 0,.bool false,.bool false,.int .i64 0,.int .i64 0,.bool false] []] []
def xt:Option Bool:=
 if(t4==15)=true then
  some (t4==15)
 else
  if(t4==21)=true then
   some (t4==21)
  else
   if(t4==22)=true then
    some (t4==22)
   else
    some (t4==23)
theorem BF{x:Bool}(h:xt t4=some x):aR Pg GE 0 (cA Bf 14680062) (EX .normal (ji t4 x)) (C2 t4):=by
 rcases aP h with⟨c40,h⟩|⟨c40,h⟩
 ·obtain rfl:=lf h
  exact bJ pr (sg 0 c40<|eF .normal (ji t4 (t4==15)))<|by kernel_rfl
 ·rcases aP h with⟨c41,h⟩|⟨c41,h⟩
  ·obtain rfl:=lf h
   exact bJ pr (sg 0 c40<|sg 0 c41<|eF .normal (ji t4 (t4==21)))<|by kernel_rfl
  ·have p43:=fun{sc F} (r:PS sc F)=>sg 0 c40<|sg 0 c41<|r
   rcases aP h with⟨c42,h⟩|⟨c42,h⟩
   ·obtain rfl:=lf h
    exact bJ pr (p43<|sg 0 c42<|eF .normal (ji t4 (t4==22)))<|by kernel_rfl
   ·obtain rfl:=lf h
    exact bJ pr (p43<|sg 0 c42<|eF .normal (ji t4 (t4==23)))<|by kernel_rfl
end
def B8 (op:Int):Option (am×Bool) :=
 (xq op).bind fun o2=>
 if o2=true then
  some ((⟨true,false,0,0,false,false,0,0,false⟩:am),true)
 else
  if(op==3)=true then
   some ((⟨false,true,0,0,false,false,0,0,false⟩:am),true)
  else
   if(op==4)=true then
    some ((⟨false,true,0,6,false,false,0,1073741824,true⟩:am),true)
   else
    if(op==5)=true then
     some ((⟨false,true,1,6,false,false,0,1073741824,true⟩:am),true)
    else
     if(op==6)=true then
      some ((⟨false,false,1,1,true,false,0,0,false⟩:am),true)
     else
      if(op==7)=true then
       some ((⟨false,true,2,2,false,false,0,1,true⟩:am),true)
      else
       if(op==8)=true then
        some ((⟨false,false,3,3,false,false,0,0,false⟩:am),true)
       else
        if(op==9)=true then
         some ((⟨false,false,1,1,false,true,0,0,false⟩:am),true)
        else
         (xr op).bind fun o37=>
         if o37=true then
          some ((⟨false,false,2,2,false,false,0,0,false⟩:am),true)
         else
          (xt op).bind fun o44=>
          if o44=true then
           some ((⟨false,false,1,1,false,false,0,0,false⟩:am),true)
          else
           if(op==25)=true then
            some ((⟨false,true,2,7,false,false,0,0,false⟩:am),true)
           else
            if(op==26)=true then
             some ((⟨false,false,1,1,false,false,1,1,true⟩:am),true)
            else
             some ((⟨false,false,0,0,false,false,0,0,false⟩:am),false)
theorem Fw {op:Int} {r:am×Bool} (h:B8 op = some r):CC Pg GE 116 [.int .i64 op] (.tuple [.agg (aC r.1),.bool r.2]) []:=by
 obtain⟨o2,bo2,h⟩:=aJ h
 have p4:=fun{sc F} (r:PS sc F)=>sx Ua<|rN 2<|dS (BD op bo2)<|r
 rcases aP h with⟨c3,h⟩|⟨c3,h⟩
 ·obtain rfl:=lf h
  have z:=p4<|sg 0 c3<|sv (Dm true)<|sx (cu (⟨true,false,0,0,false,false,0,0,false⟩:am))<|en (aI (va9 PVal.tuple (kR (cD (⟨true,false,0,0,false,false,0,0,false⟩:am)) (kR (rP (.bool true)) (rfl:([]:List PVal)=[]))))<|(aI (bH (⟨true,false,0,0,false,false,0,0,false⟩:am)) (aI trivial trivial)))
  exact cR pr call116 func116 (c:=Bf) rfl (aI trivial trivial) z<|by kernel_rfl
 ·have p6:=fun{sc F} (r:PS sc F)=>p4<|sg 0 c3<|r
  rcases aP h with⟨c5,h⟩|⟨c5,h⟩
  ·obtain rfl:=lf h
   have z:=p6<|sg 0 c5<|sv (Dn true)<|sx (cu (⟨false,true,0,0,false,false,0,0,false⟩:am))<|en (aI (va9 PVal.tuple (kR (cD (⟨false,true,0,0,false,false,0,0,false⟩:am)) (kR (rP (.bool true)) (rfl:([]:List PVal)=[]))))<|(aI (bH (⟨false,true,0,0,false,false,0,0,false⟩:am)) (aI trivial trivial)))
   exact cR pr call116 func116 (c:=Bf) rfl (aI trivial trivial) z<|by kernel_rfl
  ·have p8:=fun{sc F} (r:PS sc F)=>p6<|sg 0 c5<|r
   rcases aP h with⟨c7,h⟩|⟨c7,h⟩
   ·obtain rfl:=lf h
    have z:=p8<|sg 0 c7<|sv (wL true 6 true 1073741824)<|sx (cu (⟨false,true,0,6,false,false,0,1073741824,true⟩:am))<|en (aI (va9 PVal.tuple (kR (cD (⟨false,true,0,6,false,false,0,1073741824,true⟩:am)) (kR (rP (.bool true)) (rfl:([]:List PVal)=[]))))<|(aI (bH (⟨false,true,0,6,false,false,0,1073741824,true⟩:am)) (aI trivial trivial)))
    exact cR pr call116 func116 (c:=Bf) rfl (aI trivial trivial) z<|by kernel_rfl
   ·have p10:=fun{sc F} (r:PS sc F)=>p8<|sg 0 c7<|r
    rcases aP h with⟨c9,h⟩|⟨c9,h⟩
    ·obtain rfl:=lf h
     have z:=p10<|sg 0 c9<|sv (nr true 1 6 true 1073741824)<|sx (cu (⟨false,true,1,6,false,false,0,1073741824,true⟩:am))<|en (aI (va9 PVal.tuple (kR (cD (⟨false,true,1,6,false,false,0,1073741824,true⟩:am)) (kR (rP (.bool true)) (rfl:([]:List PVal)=[]))))<|(aI (bH (⟨false,true,1,6,false,false,0,1073741824,true⟩:am)) (aI trivial trivial)))
     exact cR pr call116 func116 (c:=Bf) rfl (aI trivial trivial) z<|by kernel_rfl
    ·have p12:=fun{sc F} (r:PS sc F)=>p10<|sg 0 c9<|r
     rcases aP h with⟨c11,h⟩|⟨c11,h⟩
     ·obtain rfl:=lf h
      have z:=p12<|sg 0 c11<|sv (yP true 1 1)<|sx (cu (⟨false,false,1,1,true,false,0,0,false⟩:am))<|en (aI (va9 PVal.tuple (kR (cD (⟨false,false,1,1,true,false,0,0,false⟩:am)) (kR (rP (.bool true)) (rfl:([]:List PVal)=[]))))<|(aI (bH (⟨false,false,1,1,true,false,0,0,false⟩:am)) (aI trivial trivial)))
      exact cR pr call116 func116 (c:=Bf) rfl (aI trivial trivial) z<|by kernel_rfl
     ·have p14:=fun{sc F} (r:PS sc F)=>p12<|sg 0 c11<|r
      rcases aP h with⟨c13,h⟩|⟨c13,h⟩
      ·obtain rfl:=lf h
       have z:=p14<|sg 0 c13<|sv (nr true 2 2 true 1)<|sx (cu (⟨false,true,2,2,false,false,0,1,true⟩:am))<|en (aI (va9 PVal.tuple (kR (cD (⟨false,true,2,2,false,false,0,1,true⟩:am)) (kR (rP (.bool true)) (rfl:([]:List PVal)=[]))))<|(aI (bH (⟨false,true,2,2,false,false,0,1,true⟩:am)) (aI trivial trivial)))
       exact cR pr call116 func116 (c:=Bf) rfl (aI trivial trivial) z<|by kernel_rfl
      ·have p16:=fun{sc F} (r:PS sc F)=>p14<|sg 0 c13<|r
       rcases aP h with⟨c15,h⟩|⟨c15,h⟩
       ·obtain rfl:=lf h
        have z:=p16<|sg 0 c15<|sv (nD 3 3)<|sx (cu (⟨false,false,3,3,false,false,0,0,false⟩:am))<|en (aI (va9 PVal.tuple (kR (cD (⟨false,false,3,3,false,false,0,0,false⟩:am)) (kR (rP (.bool true)) (rfl:([]:List PVal)=[]))))<|(aI (bH (⟨false,false,3,3,false,false,0,0,false⟩:am)) (aI trivial trivial)))
        exact cR pr call116 func116 (c:=Bf) rfl (aI trivial trivial) z<|by kernel_rfl
       ·have p18:=fun{sc F} (r:PS sc F)=>p16<|sg 0 c15<|r
        rcases aP h with⟨c17,h⟩|⟨c17,h⟩
        ·obtain rfl:=lf h
         have z:=p18<|sg 0 c17<|sv (yQ true 1 1)<|sx (cu (⟨false,false,1,1,false,true,0,0,false⟩:am))<|en (aI (va9 PVal.tuple (kR (cD (⟨false,false,1,1,false,true,0,0,false⟩:am)) (kR (rP (.bool true)) (rfl:([]:List PVal)=[]))))<|(aI (bH (⟨false,false,1,1,false,true,0,0,false⟩:am)) (aI trivial trivial)))
         exact cR pr call116 func116 (c:=Bf) rfl (aI trivial trivial) z<|by kernel_rfl
        ·obtain⟨o37,bo37,h⟩:=aJ h
         have p39:=fun{sc F} (r:PS sc F)=>p18<|sg 0 c17<|rN 0<|dS (BE op bo37)<|r
         rcases aP h with⟨c38,h⟩|⟨c38,h⟩
         ·obtain rfl:=lf h
          have z:=p39<|sg 0 c38<|sv (nD 2 2)<|sx (cu (⟨false,false,2,2,false,false,0,0,false⟩:am))<|en (aI (va9 PVal.tuple (kR (cD (⟨false,false,2,2,false,false,0,0,false⟩:am)) (kR (rP (.bool true)) (rfl:([]:List PVal)=[]))))<|(aI (bH (⟨false,false,2,2,false,false,0,0,false⟩:am)) (aI trivial trivial)))
          exact cR pr call116 func116 (c:=Bf) rfl (aI trivial trivial) z<|by kernel_rfl
         ·obtain⟨o44,bo44,h⟩:=aJ h
          have p46:=fun{sc F} (r:PS sc F)=>p39<|sg 0 c38<|rN 0<|dS (BF op bo44)<|r
          rcases aP h with⟨c45,h⟩|⟨c45,h⟩
          ·obtain rfl:=lf h
           have z:=p46<|sg 0 c45<|sv (nD 1 1)<|sx (cu (⟨false,false,1,1,false,false,0,0,false⟩:am))<|en (aI (va9 PVal.tuple (kR (cD (⟨false,false,1,1,false,false,0,0,false⟩:am)) (kR (rP (.bool true)) (rfl:([]:List PVal)=[]))))<|(aI (bH (⟨false,false,1,1,false,false,0,0,false⟩:am)) (aI trivial trivial)))
           exact cR pr call116 func116 (c:=Bf) rfl (aI trivial trivial) z<|by kernel_rfl
          ·have p48:=fun{sc F} (r:PS sc F)=>p46<|sg 0 c45<|r
           rcases aP h with⟨c47,h⟩|⟨c47,h⟩
           ·obtain rfl:=lf h
            have z:=p48<|sg 0 c47<|sv (yO true 2 7)<|sx (cu (⟨false,true,2,7,false,false,0,0,false⟩:am))<|en (aI (va9 PVal.tuple (kR (cD (⟨false,true,2,7,false,false,0,0,false⟩:am)) (kR (rP (.bool true)) (rfl:([]:List PVal)=[]))))<|(aI (bH (⟨false,true,2,7,false,false,0,0,false⟩:am)) (aI trivial trivial)))
            exact cR pr call116 func116 (c:=Bf) rfl (aI trivial trivial) z<|by kernel_rfl
           ·have p50:=fun{sc F} (r:PS sc F)=>p48<|sg 0 c47<|r
            rcases aP h with⟨c49,h⟩|⟨c49,h⟩
            ·obtain rfl:=lf h
             have z:=p50<|sg 0 c49<|sv (u6 1 1 true 1 1)<|sx (cu (⟨false,false,1,1,false,false,1,1,true⟩:am))<|en (aI (va9 PVal.tuple (kR (cD (⟨false,false,1,1,false,false,1,1,true⟩:am)) (kR (rP (.bool true)) (rfl:([]:List PVal)=[]))))<|(aI (bH (⟨false,false,1,1,false,false,1,1,true⟩:am)) (aI trivial trivial)))
             exact cR pr call116 func116 (c:=Bf) rfl (aI trivial trivial) z<|by kernel_rfl
            ·obtain rfl:=lf h
             have z:=p50<|sg 0 c49<|sv (Do)<|sx (cu (⟨false,false,0,0,false,false,0,0,false⟩:am))<|en (aI (va9 PVal.tuple (kR (cD (⟨false,false,0,0,false,false,0,0,false⟩:am)) (kR (rP (.bool false)) (rfl:([]:List PVal)=[]))))<|(aI (bH (⟨false,false,0,0,false,false,0,0,false⟩:am)) (aI trivial trivial)))
             exact cR pr call116 func116 (c:=Bf) rfl (aI trivial trivial) z<|by kernel_rfl
noncomputable def Xf:Code:=f139.body.getD .skip
def WX:List Nat:=[]
def yG(a:aH):Option Bool:=
 some (decide ((a.Names.length:Int)>6))
theorem CQ{a:aH}{r:Bool}(h:yG a=some r):CC Pg GE 139 [.agg (az a)] (.bool r) []:=by
 obtain rfl:=lf h
 have z:=se (LA a)<|sv (pG a)<|sv (pL a)<|cq (dK.ln a.Names)<|en (aI (rP (.bool (decide ((a.Names.length:Int)>6))))<|trivial)
 exact cR WX call139 func139 (c:=Xf) rfl (aI (bW a) trivial) z<|by kernel_rfl
noncomputable def S7:Code:=f158.body.getD .skip
def QB:List Nat:=[10,17]
section
variable(s:waC)(t7:Int)(t8:Int)
def dq:aA:=bj 19 [(0,sl az s),(1,.func (.func 139) [] []),(7,.int .i64 t7),(8,.int .i64 t8)] [] []
def dt(o:Int⊕(Unit)):Exit:=match o with
 |(.inl _)=>.ret
 |(.inr _)=>.exit 0
def cF(o:Int⊕(Unit)):aA:=match o with
 |(.inl o)=>bj 19 [(4,.int .i64 o)] [] []
 |(.inr o)=>bj 19 [] [] []
def kz:Option (Int⊕(Int⊕(Unit))):=
 if(decide (t8<t7))=true then
  (gY s t8).bind fun x2=>
  (yG x2).bind fun r3=>
  if r3=true then
   some (.inr (.inl t8))
  else
   some (.inl (cp (t8+1)))
 else
  some (.inr (.inr ()))
def lG:Option (Int⊕(Unit)):=loop (fun(zz:Int)=>kz s t7 zz) t8
theorem pZ{y:Int⊕(Int⊕(Unit))}(h:kz s t7 t8=some y):aR Pg GE 0 (cA S7 55) (LQ (fun(zz:Int)=>dq s t7 zz) dt cF y) (dq s t7 t8):=by
 rcases aP h with⟨c1,h⟩|⟨c1,h⟩
 ·obtain⟨x2,bx2,h⟩:=aJ h
  obtain⟨r3,br3,h⟩:=aJ h
  have p5:=fun{sc F} (r:PS sc F)=>sg 0 c1<|sv (eQ.ia (k:=.i64) bx2)<|sv (mi x2)<|cW (CQ br3)<|r
  rcases aP h with⟨c4,h⟩|⟨c4,h⟩
  ·obtain rfl:=lf h
   have z:=p5<|sg 0 c4<|eF (dt (.inl t8)) (cF (.inl t8))
   exact kc QB (by intro hx;cases hx) z<|by kernel_rfl
  ·obtain rfl:=lf h
   exact AU QB (p5<|sg 0 c4<|eF .normal (dq s t7 (cp (t8+1))))<|by kernel_rfl
 ·obtain rfl:=lf h
  have z:=sg 0 c1<|eF (dt (.inr ())) (cF (.inr ()))
  exact kc QB (by intro hx;cases hx) z<|by kernel_rfl
theorem ka{x:Int⊕(Unit)}(h:lG s t7 t8=some x):aR Pg GE 0 (.loop (cA S7 55)) (EX (dt x) (cF x)) (dq s t7 t8):=
 aR.loop (S:=fun(zz:Int)=>dq s t7 zz) (ex:=dt) (s:=t8) h fun zz y hy=>pZ s t7 zz hy
end
def nv(s:waC):Option Int:=
 (lG s (s.length:Int) 0).bind fun o6=>match o6 with
 |(.inl o6)=>
  some o6
 |(.inr o6)=>
  some (-1)
theorem sO{s:waC}{r:Int}(h:nv s=some r):CC Pg GE 158 [sl az s,.func (.func 139) [] []] (.int .i64 r) []:=by
 obtain⟨o6,bo6,h⟩:=aJ h
 rcases o6 with o6|o6
 ·obtain rfl:=lf h
  have z:=cq (eQ.ln s)<|dS (e:=.ret) (s1:=cF (.inl o6)) (ka s (s.length:Int) 0 bo6)<|en (aI (rP (.int .i64 o6))<|trivial)
  exact cR QB call158 func158 (c:=S7) rfl (aI (au bW s) (aI (aI trivial trivial) trivial)) z<|by kernel_rfl
 ·obtain rfl:=lf h
  have z:=cq (eQ.ln s)<|dS (e:=.exit 0) (s1:=cF (.inr o6)) (ka s (s.length:Int) 0 bo6)<|en (aI (rP (.int .i64 (-1)))<|trivial)
  exact cR QB call158 func158 (c:=S7) rfl (aI (au bW s) (aI (aI trivial trivial) trivial)) z<|by kernel_rfl
noncomputable def Xe:Code:=f138.body.getD .skip
def WW:List Nat:=[]
def lE(s:waC):Option Bool:=
 (nv s).bind fun r1=>
 some (decide (r1>=0))
theorem qv{s:waC}{r:Bool}(h:lE s=some r):CC Pg GE 138 [sl az s,.func (.func 139) [] []] (.bool r) []:=by
 obtain⟨r1,br1,h⟩:=aJ h
 obtain rfl:=lf h
 have z:=cW (sO br1)<|en (aI (rP (.bool (decide (r1>=0))))<|trivial)
 exact cR WW call138 func138 (c:=Xe) rfl (aI (au bW s) (aI (aI trivial trivial) trivial)) z<|by kernel_rfl
noncomputable def Rn:Code:=f117.body.getD .skip
def Ch:List Nat:=[]
section
variable(e:af)(s:am)
def CR:aA:=bj 69 [(2,.eptr (ae e)),(3,.eptr (aC s))] [.dead,.dead] []
def jc(o:Bool):aA:=bj 69 [(2,.eptr (ae e)),(3,.eptr (aC s)),(34,.bool o)] [.dead,.dead] []
def xm:Option Bool:=
 if(decide ((e.Kids.length:Int)<s.least))=true then
  some true
 else
  if(decide ((e.Kids.length:Int)>s.most))=true then
   some true
  else
   if(decide ((e.Types.length:Int)<s.typesLeast))=true then
    some true
   else
    some (decide ((e.Types.length:Int)>s.typesMost))
theorem By{x:Bool}(h:xm e s=some x):aR Pg GE 0 (cA Rn 12) (EX .normal (jc e s x)) (CR e s):=by
 have p2:=fun{sc F} (r:PS sc F)=>sv (aX e)<|sv (aY e)<|cq (g6.ln e.Kids)<|sv (yS s)<|sv (Bj s)<|r
 rcases aP h with⟨c1,h⟩|⟨c1,h⟩
 ·obtain rfl:=lf h
  exact bJ Ch (p2<|sg 7 c1<|eF .normal (jc e s true))<|by kernel_rfl
 ·have p4:=fun{sc F} (r:PS sc F)=>p2<|sg 7 c1<|sv (aX e)<|sv (aY e)<|cq (g6.ln e.Kids)<|sv (yU s)<|sv (Bk s)<|r
  rcases aP h with⟨c3,h⟩|⟨c3,h⟩
  ·obtain rfl:=lf h
   exact bJ Ch (p4<|sg 15 c3<|eF .normal (jc e s true))<|by kernel_rfl
  ·have p6:=fun{sc F} (r:PS sc F)=>p4<|sg 15 c3<|sv (aL e)<|sv (aM e)<|cq (ee.ln e.Types)<|sv (yW s)<|sv (Bm s)<|r
   rcases aP h with⟨c5,h⟩|⟨c5,h⟩
   ·obtain rfl:=lf h
    exact bJ Ch (p6<|sg 23 c5<|eF .normal (jc e s true))<|by kernel_rfl
   ·obtain rfl:=lf h
    exact bJ Ch (p6<|sg 23 c5<|sv (aL e)<|sv (aM e)<|cq (ee.ln e.Types)<|sv (yX s)<|sv (Bn s)<|eF .normal (jc e s (decide ((e.Types.length:Int)>s.typesMost))))<|by kernel_rfl
end
section
variable(e:af)(s:am)
def CS:aA:=bj 69 [(2,.eptr (ae e)),(3,.eptr (aC s))] [.dead,.dead] []
def dT(o:Bool):aA:=bj 69 [(2,.eptr (ae e)),(64,.bool o)] [.dead,.dead] []
def xn:Option Bool:=
 if s.params=true then
  if(decide ((e.Params.length:Int)<1))=true then
   some true
  else
   if(decide ((e.Params.length:Int)>6))=true then
    some true
   else
    if s.alts=true then
     if(decide ((e.Alts.length:Int)<1))=true then
      some true
     else
      some (decide ((e.Alts.length:Int)>8))
    else
     some false
 else
  if s.alts=true then
   if(decide ((e.Alts.length:Int)<1))=true then
    some true
   else
    some (decide ((e.Alts.length:Int)>8))
  else
   some false
theorem Bz{x:Bool}(h:xn e s=some x):aR Pg GE 0 (cA Rn 28) (EX .normal (dT e x)) (CS e s):=by
 have p11:=fun{sc F} (r:PS sc F)=>sv (yV s)<|sv (Bl s)<|r
 rcases aP h with⟨c10,h⟩|⟨c10,h⟩
 ·have p13:=fun{sc F} (r:PS sc F)=>p11<|sg 3 c10<|sv (bE e)<|sv (bG e)<|cq (lC.ln e.Params)<|r
  rcases aP h with⟨c12,h⟩|⟨c12,h⟩
  ·obtain rfl:=lf h
   exact bJ Ch (p13<|sg 8 c12<|eF .normal (dT e true))<|by kernel_rfl
  ·have p15:=fun{sc F} (r:PS sc F)=>p13<|sg 8 c12<|sv (bE e)<|sv (bG e)<|cq (lC.ln e.Params)<|r
   rcases aP h with⟨c14,h⟩|⟨c14,h⟩
   ·obtain rfl:=lf h
    exact bJ Ch (p15<|sg 15 c14<|eF .normal (dT e true))<|by kernel_rfl
   ·have p17:=fun{sc F} (r:PS sc F)=>p15<|sg 15 c14<|sv (qC s)<|sv (ta s)<|r
    rcases aP h with⟨c16,h⟩|⟨c16,h⟩
    ·have p19:=fun{sc F} (r:PS sc F)=>p17<|sg 18 c16<|sv (aE e)<|sv (aF e)<|cq (eQ.ln e.Alts)<|r
     rcases aP h with⟨c18,h⟩|⟨c18,h⟩
     ·obtain rfl:=lf h
      exact bJ Ch (p19<|sg 23 c18<|eF .normal (dT e true))<|by kernel_rfl
     ·obtain rfl:=lf h
      exact bJ Ch (p19<|sg 23 c18<|sv (aE e)<|sv (aF e)<|cq (eQ.ln e.Alts)<|eF .normal (dT e (decide ((e.Alts.length:Int)>8))))<|by kernel_rfl
    ·obtain rfl:=lf h
     exact bJ Ch (p17<|sg 18 c16<|eF .normal (dT e false))<|by kernel_rfl
 ·have p21:=fun{sc F} (r:PS sc F)=>p11<|sg 3 c10<|sv (qC s)<|sv (ta s)<|r
  rcases aP h with⟨c20,h⟩|⟨c20,h⟩
  ·have p23:=fun{sc F} (r:PS sc F)=>p21<|sg 18 c20<|sv (aE e)<|sv (aF e)<|cq (eQ.ln e.Alts)<|r
   rcases aP h with⟨c22,h⟩|⟨c22,h⟩
   ·obtain rfl:=lf h
    exact bJ Ch (p23<|sg 23 c22<|eF .normal (dT e true))<|by kernel_rfl
   ·obtain rfl:=lf h
    exact bJ Ch (p23<|sg 23 c22<|sv (aE e)<|sv (aF e)<|cq (eQ.ln e.Alts)<|eF .normal (dT e (decide ((e.Alts.length:Int)>8))))<|by kernel_rfl
  ·obtain rfl:=lf h
   exact bJ Ch (p21<|sg 18 c20<|eF .normal (dT e false))<|by kernel_rfl
end
def B7(e:af)(s:am):Option Bool:=
 (xm e s).bind fun o7=>
 if o7=true then
  some false
 else
  (xn e s).bind fun o24=>
  if o24=true then
   some false
  else
   (lE e.Alts).bind fun r27=>
   some (!r27)
theorem Fq{e:af}{s:am}{r:Bool}(h:B7 e s=some r):CC Pg GE 117 [.agg (ae e),.agg (aC s)] (.bool r) []:=by
 obtain⟨o7,bo7,h⟩:=aJ h
 have p9:=fun{sc F} (r:PS sc F)=>se (cJ e)<|se (yB s)<|rN 1<|dS (By e s bo7)<|r
 rcases aP h with⟨c8,h⟩|⟨c8,h⟩
 ·obtain rfl:=lf h
  have z:=p9<|sg 0 c8<|en (aI (rP (.bool false))<|trivial)
  exact cR Ch call117 func117 (c:=Rn) rfl (aI (ay e) (aI (bH s) trivial)) z<|by kernel_rfl
 ·obtain⟨o24,bo24,h⟩:=aJ h
  have p26:=fun{sc F} (r:PS sc F)=>p9<|sg 0 c8<|rN 1<|dS (Bz e s bo24)<|r
  rcases aP h with⟨c25,h⟩|⟨c25,h⟩
  ·obtain rfl:=lf h
   have z:=p26<|sg 0 c25<|en (aI (rP (.bool false))<|trivial)
   exact cR Ch call117 func117 (c:=Rn) rfl (aI (ay e) (aI (bH s) trivial)) z<|by kernel_rfl
  ·obtain⟨r27,br27,h⟩:=aJ h
   obtain rfl:=lf h
   have z:=p26<|sg 0 c25<|sv (aE e)<|sv (aF e)<|cW (qv br27)<|en (aI (rP (.bool (!r27)))<|trivial)
   exact cR Ch call117 func117 (c:=Rn) rfl (aI (ay e) (aI (bH s) trivial)) z<|by kernel_rfl
noncomputable def VP:Code:=f118.body.getD .skip
def Vs:List Nat:=[]
def Sa(n:Int):Option Bool:=
 if(decide (n>=(-1000000000000)))=true then
  some (decide (n<=1000000000000))
 else
  some false
theorem PW{n:Int}{r:Bool}(h:Sa n=some r):CC Pg GE 118 [.int .i64 n] (.bool r) []:=by
 rcases aP h with⟨c1,h⟩|⟨c1,h⟩
 ·obtain rfl:=lf h
  have z:=sg 3 c1<|en (aI (rP (.bool (decide (n<=1000000000000))))<|trivial)
  exact cR Vs call118 func118 (c:=VP) rfl (aI trivial trivial) z<|by kernel_rfl
 ·obtain rfl:=lf h
  have z:=sg 3 c1<|en (aI (rP (.bool false))<|trivial)
  exact cR Vs call118 func118 (c:=VP) rfl (aI trivial trivial) z<|by kernel_rfl
noncomputable def S8:Code:=f159.body.getD .skip
def QC:List Nat:=[]
section
variable(t7:waA)(t8:Int)(t9:Int)(m0:(List (ag×Bool)))
def iu:aA:=bj 19 [(3,.mapr 0),(7,sl cS t7),(8,.int .i64 t8),(9,.int .i64 t9)] [.map (aD PVal.bool m0)] []
def iw(o:((List (ag×Bool)))⊕((List (ag×Bool)))):Exit:=match o with
 |(.inl _)=>.ret
 |(.inr _)=>.exit 0
def fZ(o:((List (ag×Bool)))⊕((List (ag×Bool)))):aA:=match o with
 |(.inl o)=>bj 19 [(2,.bool false)] [.map (aD PVal.bool o)] []
 |(.inr o)=>bj 19 [] [.map (aD PVal.bool o)] []
def tc:Option ((Int×(List (ag×Bool)))⊕(((List (ag×Bool)))⊕((List (ag×Bool))))):=
 if(decide (t9<t8))=true then
  (gY t7 t9).bind fun x2=>
  if((xY m0 x2).getD false)=true then
   some (.inr (.inl m0))
  else
   some (.inl (cp (t9+1),qS m0 x2 true))
 else
  some (.inr (.inr m0))
def vS:Option (((List (ag×Bool)))⊕((List (ag×Bool)))):=loop (fun(zz:Int×(List (ag×Bool)))=>tc t7 t8 zz.1 zz.2) (t9,m0)
theorem yY{y:(Int×(List (ag×Bool)))⊕(((List (ag×Bool)))⊕((List (ag×Bool))))}(h:tc t7 t8 t9 m0=some y):aR Pg GE 0 (cA S8 119) (LQ (fun(zz:Int×(List (ag×Bool)))=>iu t7 t8 zz.1 zz.2) iw fZ y) (iu t7 t8 t9 m0):=by
 rcases aP h with⟨c1,h⟩|⟨c1,h⟩
 ·obtain⟨x2,bx2,h⟩:=aJ h
  have p4:=fun{sc F} (r:PS sc F)=>sg 0 c1<|sv (dK.ia (k:=.i64) bx2)<|sv (cZ Ge (.str x2) [])<|sv (NV (f:=PVal.bool) underlying124 underlying9 XU m0 x2)<|r
  rcases aP h with⟨c3,h⟩|⟨c3,h⟩
  ·obtain rfl:=lf h
   have z:=p4<|sg 0 c3<|eF (iw (.inl m0)) (fZ (.inl m0))
   exact kc QC (by intro hx;cases hx) z<|by kernel_rfl
  ·obtain rfl:=lf h
   exact AU QC (p4<|sg 0 c3<|XS (NW (f:=PVal.bool) underlying124 underlying9 m0 x2 true)<|eF .normal (iu t7 t8 (cp (t9+1)) (qS m0 x2 true)))<|by kernel_rfl
 ·obtain rfl:=lf h
  have z:=sg 0 c1<|eF (iw (.inr m0)) (fZ (.inr m0))
  exact kc QC (by intro hx;cases hx) z<|by kernel_rfl
theorem sj{x:((List (ag×Bool)))⊕((List (ag×Bool)))}(h:vS t7 t8 t9 m0=some x):aR Pg GE 0 (.loop (cA S8 119)) (EX (iw x) (fZ x)) (iu t7 t8 t9 m0):=
 aR.loop (S:=fun(zz:Int×(List (ag×Bool)))=>iu t7 t8 zz.1 zz.2) (ex:=iw) (s:=(t9,m0)) h fun zz y hy=>yY t7 t8 zz.1 zz.2 hy
end
def zV(a:waA):Option Bool:=
 (vS a (a.length:Int) 0 ([]:List (ag×Bool))).bind fun o5=>match o5 with
 |(.inl o5)=>
  some false
 |(.inr o5)=>
  some true
theorem DI{a:waA}{r:Bool}(h:zV a=some r):CC Pg GE 159 [sl cS a] (.bool r) []:=by
 obtain⟨o5,bo5,h⟩:=aJ h
 rcases o5 with o5|o5
 ·obtain rfl:=lf h
  have z:=cq (dK.ln a)<|dS (e:=.ret) (s1:=fZ (.inl o5)) (sj a (a.length:Int) 0 ([]:List (ag×Bool)) bo5)<|en (aI (rP (.bool false))<|trivial)
  exact cR QC call159 func159 (c:=S8) rfl (aI (au cb a) trivial) z<|by kernel_rfl
 ·obtain rfl:=lf h
  have z:=cq (dK.ln a)<|dS (e:=.exit 0) (s1:=fZ (.inr o5)) (sj a (a.length:Int) 0 ([]:List (ag×Bool)) bo5)<|en (aI (rP (.bool true))<|trivial)
  exact cR QC call159 func159 (c:=S8) rfl (aI (au cb a) trivial) z<|by kernel_rfl
noncomputable def Xg:Code:=f140.body.getD .skip
def WY:List Nat:=[]
def tL(a:waA):Option Bool:=
 (zV a).bind fun r1=>
 some (!r1)
theorem sT{a:waA}{r:Bool}(h:tL a=some r):CC Pg GE 140 [sl cS a] (.bool r) []:=by
 obtain⟨r1,br1,h⟩:=aJ h
 obtain rfl:=lf h
 have z:=cW (DI br1)<|en (aI (rP (.bool (!r1)))<|trivial)
 exact cR WY call140 func140 (c:=Xg) rfl (aI (au cb a) trivial) z<|by kernel_rfl
end Go.Proofs.YtkdahfeiedaahaaGreatDoor
