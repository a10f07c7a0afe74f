/- PROVED: a part of the proof. Conditions: none. -/
import Derived.Test.YtkdahfeiedaahaaGreatDoorPkA13
noncomputable section
namespace Go.Proofs.YtkdahfeiedaahaaGreatDoor
open Go Go.Proofs.Tryz
set_option linter.unusedVariables false
set_option maxRecDepth 100000
section
variable(R55:gr)(e:af)(t14:waD)(t15:Int)(t16:Int)(m:Int)
def ft:aB:=aZ 38 [(1,.func (.func 68) [] [.bptr 0 0]),(2,.eptr (ac e)),(14,sl ac t14),(15,.int .i64 t15),(16,.int .i64 t16)] [.cells [.int .i64 m] [],.dead] []
def fu(o:Int⊕(Int)):Exit:=match o with
 |(.inl _)=>.ret
 |(.inr _)=>.exit 0
def dz(o:Int⊕(Int)):aB:=match o with
 |(.inl o)=>aZ 38 [(4,.bool false)] [.cells [.int .i64 o] [],.dead] []
 |(.inr o)=>aZ 38 [(1,.func (.func 68) [] [.bptr 0 0]),(2,.eptr (ac e))] [.cells [.int .i64 o] [],.dead] []
def dy:Option ((Int×Int)⊕(Int⊕(Int))):=
 if(decide (t16<t15))=true then
  (fy t14 t16).bind fun x5=>
  (R55 x5 m).bind fun r6=>
  if(!r6.1)=true then
   some (.inr (.inl r6.2))
  else
   some (.inl (bN (t16+1),r6.2))
 else
  some (.inr (.inr m))
def tX:Option (Int⊕(Int)):=loop (fun(zz:Int×Int)=>dy R55 t14 t15 zz.1 zz.2) (t16,m)
theorem zn(hR55:gp R55){y:(Int×Int)⊕(Int⊕(Int))}(h:dy R55 t14 t15 t16 m=some y):aU Pg GE 1 (cA LC 119) (LQ (fun(zz:Int×Int)=>ft e t14 t15 zz.1 zz.2) fu (dz e) y) (ft e t14 t15 t16 m):=by
 rcases aH h with⟨c4,h⟩|⟨c4,h⟩
 ·obtain⟨x5,bx5,h⟩:=aG h
  obtain⟨r6,br6,h⟩:=aG h
  have p8:=fun{sc F} (r:PS sc F)=>sg 0 c4<|sv (eP.ia (k:=.i64) bx5)<|sv (aX x5)<|sx BJ<|sx (kl x5)<|sv (cz x5 [])<|si (.cg ⟨[0],[.agg (ac x5),.func (.func 68) [] [.bptr 0 0]],[],[.cells [.int .i64 m] []],[.cells [.int .i64 m] []],[.cells [.int .i64 r6.2] []],[.cells [.int .i64 r6.2] []],.bool r6.1,.bool r6.1,[]⟩) (hR55 _ _ _ br6)<|sf (aI (xR [0] (.agg (ac x5)) (al x5)) (aI (xF [0] (.func 68) [] [.bptr 0 0] [] [.bptr 0 0] trivial (aI (xB [0] 0 0 0 rfl) trivial)) trivial))<|sf (aI (aI (rB (.cells [.int .i64 m] [])) (aI (rW []) (aI (xR [0] (.int .i64 m) trivial) trivial))) trivial)<|sf (aI (aI (rW []) (aI (xR [0] (.int .i64 r6.2) trivial) trivial)) trivial)<|sf (xR [0] (.bool r6.1) trivial)<|r
  rcases aH h with⟨c7,h⟩|⟨c7,h⟩
  ·obtain rfl:=lf h
   have z:=p8<|sg 0 c7<|vY 1 (fu (.inl r6.2)) (dz e (.inl r6.2)) rfl (dI (aI trivial trivial)) (aI (aI trivial trivial) (aI trivial trivial))
   exact ql (A:=Hf) mixed (by intro hx;cases hx) z<|by kernel_rfl
  ·obtain rfl:=lf h
   have z:=p8<|sg 0 c7<|vY 1 .normal (ft e t14 t15 (bN (t16+1)) r6.2) rfl (dI (aI (aI trivial (aI (bR rfl) trivial)) (aI (bH (al e)) (aI (up (aw al t14)) (aI trivial (aI trivial trivial)))))) (aI (aI trivial trivial) (aI trivial trivial))
   exact eA (A:=Hf) mixed z<|by kernel_rfl
 ·obtain rfl:=lf h
  have z:=sg 0 c4<|eF (fu (.inr m)) (dz e (.inr m))
  exact gu Hf (by intro hx;cases hx) z<|by kernel_rfl
theorem kf(hR55:gp R55){x:Int⊕(Int)}(h:tX R55 t14 t15 t16 m=some x):aU Pg GE 1 (.loop (cA LC 119)) (EX (fu x) (dz e x)) (ft e t14 t15 t16 m):=
 aU.loop (S:=fun(zz:Int×Int)=>ft e t14 t15 zz.1 zz.2) (ex:=fu) (s:=(t16,m)) h fun zz y hy=>zn R55 e t14 t15 zz.1 zz.2 hR55 hy
end
section
variable(R55:gr)(t26:waC)(t27:Int)(t28:Int)(m:Int)
def fw:aB:=aZ 38 [(1,.func (.func 68) [] [.bptr 0 0]),(26,sl aF t26),(27,.int .i64 t27),(28,.int .i64 t28)] [.cells [.int .i64 m] [],.dead] []
def fx(o:Int⊕(Int)):Exit:=match o with
 |(.inl _)=>.ret
 |(.inr _)=>.exit 2
def ey(o:Int⊕(Int)):aB:=match o with
 |(.inl o)=>aZ 38 [(4,.bool false)] [.cells [.int .i64 o] [],.dead] []
 |(.inr o)=>aZ 38 [] [.cells [.int .i64 o] [],.dead] []
def dB:Option ((Int×Int)⊕(Int⊕(Int))):=
 if(decide (t28<t27))=true then
  (fy t26 t28).bind fun x11=>
  (R55 x11.Body m).bind fun r12=>
  if(!r12.1)=true then
   some (.inr (.inl r12.2))
  else
   some (.inl (bN (t28+1),r12.2))
 else
  some (.inr (.inr m))
def tY:Option (Int⊕(Int)):=loop (fun(zz:Int×Int)=>dB R55 t26 t27 zz.1 zz.2) (t28,m)
theorem zo(hR55:gp R55){y:(Int×Int)⊕(Int⊕(Int))}(h:dB R55 t26 t27 t28 m=some y):aU Pg GE 1 (cA LC 247) (LQ (fun(zz:Int×Int)=>fw t26 t27 zz.1 zz.2) fx ey y) (fw t26 t27 t28 m):=by
 rcases aH h with⟨c10,h⟩|⟨c10,h⟩
 ·obtain⟨x11,bx11,h⟩:=aG h
  obtain⟨r12,br12,h⟩:=aG h
  have p14:=fun{sc F} (r:PS sc F)=>sg 0 c10<|sv (dZ.ia (k:=.i64) bx11)<|sv (mt x11)<|sx Ip<|sx (iV x11)<|sv (cz x11.Body [])<|si (.cg ⟨[0],[.agg (ac x11.Body),.func (.func 68) [] [.bptr 0 0]],[],[.cells [.int .i64 m] []],[.cells [.int .i64 m] []],[.cells [.int .i64 r12.2] []],[.cells [.int .i64 r12.2] []],.bool r12.1,.bool r12.1,[]⟩) (hR55 _ _ _ br12)<|sf (aI (xR [0] (.agg (ac x11.Body)) (al x11.Body)) (aI (xF [0] (.func 68) [] [.bptr 0 0] [] [.bptr 0 0] trivial (aI (xB [0] 0 0 0 rfl) trivial)) trivial))<|sf (aI (aI (rB (.cells [.int .i64 m] [])) (aI (rW []) (aI (xR [0] (.int .i64 m) trivial) trivial))) trivial)<|sf (aI (aI (rW []) (aI (xR [0] (.int .i64 r12.2) trivial) trivial)) trivial)<|sf (xR [0] (.bool r12.1) trivial)<|r
  rcases aH h with⟨c13,h⟩|⟨c13,h⟩
  ·obtain rfl:=lf h
   have z:=p14<|sg 0 c13<|vY 1 (fx (.inl r12.2)) (ey (.inl r12.2)) rfl (dI (aI trivial trivial)) (aI (aI trivial trivial) (aI trivial trivial))
   exact ql (A:=Hf) mixed (by intro hx;cases hx) z<|by kernel_rfl
  ·obtain rfl:=lf h
   have z:=p14<|sg 0 c13<|vY 1 .normal (fw t26 t27 (bN (t28+1)) r12.2) rfl (dI (aI (aI trivial (aI (bR rfl) trivial)) (aI (up (aw bE t26)) (aI trivial (aI trivial trivial))))) (aI (aI trivial trivial) (aI trivial trivial))
   exact eA (A:=Hf) mixed z<|by kernel_rfl
 ·obtain rfl:=lf h
  have z:=sg 0 c10<|eF (fx (.inr m)) (ey (.inr m))
  exact gu Hf (by intro hx;cases hx) z<|by kernel_rfl
theorem qe(hR55:gp R55){x:Int⊕(Int)}(h:tY R55 t26 t27 t28 m=some x):aU Pg GE 1 (.loop (cA LC 247)) (EX (fx x) (ey x)) (fw t26 t27 t28 m):=
 aU.loop (S:=fun(zz:Int×Int)=>fw t26 t27 zz.1 zz.2) (ex:=fx) (s:=(t28,m)) h fun zz y hy=>zo R55 t26 t27 zz.1 zz.2 hR55 hy
end
def j1(R55:gr)(e:af)(k0:Int):Option (Bool×Int):=
 (jR e k0).bind fun r1=>
 if(!r1.1)=true then
  some (false,r1.2)
 else
  (tX R55 e.Kids (e.Kids.length:Int) 0 r1.2).bind fun o9=>match o9 with
  |(.inl o9)=>
   some (false,o9)
  | (.inr o9) =>
   (tY R55 e.Alts (e.Alts.length:Int) 0 o9).bind fun o15=>match o15 with
   |(.inl o15)=>
    some (false,o15)
   |(.inr o15)=>
    some (true,o15)
theorem BP(R55:gr)(hR55:gp R55){e:af}{k0:Int}{r:Bool×Int}(h:j1 R55 e k0=some r):C Pg GE 64 [.agg (ac e),.func (.func 68) [] [.bptr 0 0]] [] [.cells [.int .i64 k0] []] (.bool r.1) [] [.cells [.int .i64 r.2] []]:=by
 obtain⟨r1,br1,h⟩:=aG h
 have p3:=fun{sc F} (r:PS sc F)=>se (bX e)<|sv (aX e)<|si (.cg ⟨[0],[.agg (ac e),.bptr 0 0],[],[.cells [.int .i64 k0] []],[.cells [.int .i64 k0] []],[.cells [.int .i64 r1.2] []],[.cells [.int .i64 r1.2] []],.bool r1.1,.bool r1.1,[]⟩) (Ix br1)<|sf (aI (xR [0] (.agg (ac e)) (al e)) (aI (xB [0] 0 0 0 rfl) trivial))<|sf (aI (aI (rB (.cells [.int .i64 k0] [])) (aI (rW []) (aI (xR [0] (.int .i64 k0) trivial) trivial))) trivial)<|sf (aI (aI (rW []) (aI (xR [0] (.int .i64 r1.2) trivial) trivial)) trivial)<|sf (xR [0] (.bool r1.1) trivial)<|r
 rcases aH h with⟨c2,h⟩|⟨c2,h⟩
 ·obtain rfl:=lf h
  have z:=p3<|sg 0 c2<|en (aI (rP (.bool false))<|aI trivial<|aI (rL [.cells [.int .i64 r1.2] []])<|(aI (aI trivial trivial) trivial))
  exact C.evGp (A:=Hf) mixed (m:=1) (c:=LC) rfl call64 func64 rfl z<|by kernel_rfl
 ·obtain⟨o9,bo9,h⟩:=aG h
  rcases o9 with o9|o9
  ·obtain rfl:=lf h
   have z:=p3<|sg 0 c2<|sv (a8 e)<|sv (be e)<|bF (eP.ln e.Kids)<|cK (e:=.ret) (s1:=dz e (.inl o9)) (kf R55 e e.Kids (e.Kids.length:Int) 0 r1.2 hR55 bo9)<|en (aI (rP (.bool false))<|aI trivial<|aI (rL [.cells [.int .i64 o9] []])<|(aI (aI trivial trivial) trivial))
   exact C.evGp (A:=Hf) mixed (m:=1) (c:=LC) rfl call64 func64 rfl z<|by kernel_rfl
  ·obtain⟨o15,bo15,h⟩:=aG h
   rcases o15 with o15|o15
   ·obtain rfl:=lf h
    have z:=p3<|sg 0 c2<|sv (a8 e)<|sv (be e)<|bF (eP.ln e.Kids)<|cK (e:=.exit 0) (s1:=dz e (.inr o9)) (kf R55 e e.Kids (e.Kids.length:Int) 0 r1.2 hR55 bo9)<|sv (aD e)<|sv (aE e)<|bF (dZ.ln e.Alts)<|cK (e:=.ret) (s1:=ey (.inl o15)) (qe R55 e.Alts (e.Alts.length:Int) 0 o9 hR55 bo15)<|en (aI (rP (.bool false))<|aI trivial<|aI (rL [.cells [.int .i64 o15] []])<|(aI (aI trivial trivial) trivial))
    exact C.evGp (A:=Hf) mixed (m:=1) (c:=LC) rfl call64 func64 rfl z<|by kernel_rfl
   ·obtain rfl:=lf h
    have z:=p3<|sg 0 c2<|sv (a8 e)<|sv (be e)<|bF (eP.ln e.Kids)<|cK (e:=.exit 0) (s1:=dz e (.inr o9)) (kf R55 e e.Kids (e.Kids.length:Int) 0 r1.2 hR55 bo9)<|sv (aD e)<|sv (aE e)<|bF (dZ.ln e.Alts)<|cK (e:=.exit 2) (s1:=ey (.inr o15)) (qe R55 e.Alts (e.Alts.length:Int) 0 o9 hR55 bo15)<|en (aI (rP (.bool true))<|aI trivial<|aI (rL [.cells [.int .i64 o15] []])<|(aI (aI trivial trivial) trivial))
    exact C.evGp (A:=Hf) mixed (m:=1) (c:=LC) rfl call64 func64 rfl z<|by kernel_rfl
def nZ:((af×Int)->Option (Bool×Int))->(af×Int)->Option (Bool×Int):=fun(rec:(af×Int)->Option (Bool×Int)) (x:af×Int)=>j1 (fun e k0=>rec (e,k0)) x.1 x.2
def qv(e:af)(k0:Int):Option (Bool×Int):=sS nZ (e,k0)
theorem CH{e:af}{k0:Int}{r:Bool×Int}(h:qv e k0=some r):C Pg GE 64 [.agg (ac e),.func (.func 68) [] [.bptr 0 0]] [] [.cells [.int .i64 k0] []] (.bool r.1) [] [.cells [.int .i64 r.2] []]:=
 eg (F:=nZ) (M:=fun(x:af×Int) (r:Bool×Int)=>C Pg GE 64 [.agg (ac x.1),.func (.func 68) [] [.bptr 0 0]] [] [.cells [.int .i64 x.2] []] (.bool r.1) [] [.cells [.int .i64 r.2] []]) (fun rec hrec x r h=>BP _ (fun e k0 r h=>hrec (e,k0) r h) h) h
noncomputable def qdE:Code:=f19.body.getD .skip
def qdo:List Nat:=[]
def pU(e:af):Option Int:=
 (qv e 0).bind fun r1=>
 some r1.2
theorem wQ{e:af}{r:Int}(h:pU e=some r):CC Pg GE 19 [.agg (ac e)] (.int .i64 r) []:=by
 obtain⟨r1,br1,h⟩:=aG h
 obtain rfl:=lf h
 have z:=se (bX e)<|sx qdX<|ss<|sv (aX e)<|si (.cg ⟨[1],[.agg (ac e),.func (.func 68) [] [.bptr 0 0]],[],[.cells [.int .i64 0] []],[.cells [.int .i64 0] []],[.cells [.int .i64 r1.2] []],[.cells [.int .i64 r1.2] []],.bool r1.1,.bool r1.1,[]⟩) (CH br1)<|sf (aI (xR [1] (.agg (ac e)) (al e)) (aI (xF [1] (.func 68) [] [.bptr 1 0] [] [.bptr 0 0] trivial (aI (xB [1] 0 1 0 rfl) trivial)) trivial))<|sf (aI (aI (rB (.cells [.int .i64 0] [])) (aI (rW []) (aI (xR [1] (.int .i64 0) trivial) trivial))) trivial)<|sf (aI (aI (rW []) (aI (xR [1] (.int .i64 r1.2) trivial) trivial)) trivial)<|sf (xR [1] (.bool r1.1) trivial)<|ss<|en (aI (rP (.int .i64 r1.2))<|trivial)
 exact bI qdo call19 func19 (c:=qdE) rfl (aI (al e) trivial) z<|by kernel_rfl
abbrev ph:=(af->Option Int)
abbrev oE(R:ph):Prop:=∀(e:af) (r:Int),R e=some r->CC Pg GE 21 [.agg (ac e)] (.int .i64 r) []
noncomputable def qaH:Code:=f21.body.getD .skip
def qai:List Nat:=[]
section
variable(R57:ph)(e:af)(t9:waD)(t10:Int)(n:Int)(t11:Int)
def kK:aB:=aZ 35 [(1,.eptr (ac e)),(3,.int .i64 n),(9,sl ac t9),(10,.int .i64 t10),(11,.int .i64 t11)] [.dead] []
def tG(o:Int):aB:=aZ 35 [(1,.eptr (ac e)),(3,.int .i64 o)] [.dead] []
def f0:Option ((Int×Int)⊕(Int)):=
 if(decide (t11<t10))=true then
  (fy t9 t11).bind fun x2=>
  (R57 x2).bind fun r3=>
  some (.inl ((if r3>n then r3 else n),bN (t11+1)))
 else
  some (.inr n)
def rE:Option Int:=loop (fun(zz:Int×Int)=>f0 R57 t9 t10 zz.1 zz.2) (n,t11)
theorem FI(hR57:oE R57){y:(Int×Int)⊕(Int)}(h:f0 R57 t9 t10 n t11=some y):aU Pg GE 0 (cA qaH 119) (LQ (fun(zz:Int×Int)=>kK e t9 t10 zz.1 zz.2) (fun _=>.exit 0) (tG e) y) (kK e t9 t10 n t11):=by
 rcases aH h with⟨c1,h⟩|⟨c1,h⟩
 ·obtain⟨x2,bx2,h⟩:=aG h
  obtain⟨r3,br3,h⟩:=aG h
  obtain rfl:=lf h
  have z:=sg 0 c1<|sv (eP.ia (k:=.i64) bx2)<|sv (aX x2)<|sx BJ<|sx (kl x2)<|sv (cz x2 [])<|cm (hR57 _ _ br3)<|vY 0 .normal (kK e t9 t10 (if r3>n then r3 else n) (bN (t11+1))) rfl (dI (aI (bH (al e)) (aI trivial (aI (up (aw al t9)) (aI trivial (aI trivial trivial)))))) (aI trivial trivial)
  exact eA (A:=qai) mixed z<|by kernel_rfl
 ·obtain rfl:=lf h
  have z:=sg 0 c1<|eF (.exit 0) (tG e n)
  exact gu qai (by intro hx;cases hx) z<|by kernel_rfl
theorem GW(hR57:oE R57){x:Int}(h:rE R57 t9 t10 n t11=some x):aU Pg GE 0 (.loop (cA qaH 119)) (EX (.exit 0) (tG e x)) (kK e t9 t10 n t11):=
 aU.loop (S:=fun(zz:Int×Int)=>kK e t9 t10 zz.1 zz.2) (ex:=(fun _=>.exit 0)) (s:=(n,t11)) h fun zz y hy=>FI R57 e t9 t10 zz.1 zz.2 hR57 hy
end
section
variable(R57:ph)(t21:waC)(t22:Int)(n:Int)(t23:Int)
def kL:aB:=aZ 35 [(3,.int .i64 n),(21,sl aF t21),(22,.int .i64 t22),(23,.int .i64 t23)] [.dead] []
def tH(o:Int):aB:=aZ 35 [(3,.int .i64 o)] [.dead] []
def f6:Option ((Int×Int)⊕(Int)):=
 if(decide (t23<t22))=true then
  (fy t21 t23).bind fun x6=>
  (R57 x6.Body).bind fun r7=>
  some (.inl ((if r7>n then r7 else n),bN (t23+1)))
 else
  some (.inr n)
def rF:Option Int:=loop (fun(zz:Int×Int)=>f6 R57 t21 t22 zz.1 zz.2) (n,t23)
theorem FJ(hR57:oE R57){y:(Int×Int)⊕(Int)}(h:f6 R57 t21 t22 n t23=some y):aU Pg GE 0 (cA qaH 247) (LQ (fun(zz:Int×Int)=>kL t21 t22 zz.1 zz.2) (fun _=>.exit 2) tH y) (kL t21 t22 n t23):=by
 rcases aH h with⟨c5,h⟩|⟨c5,h⟩
 ·obtain⟨x6,bx6,h⟩:=aG h
  obtain⟨r7,br7,h⟩:=aG h
  obtain rfl:=lf h
  have z:=sg 0 c5<|sv (dZ.ia (k:=.i64) bx6)<|sv (mt x6)<|sx Ip<|sx (iV x6)<|sv (cz x6.Body [])<|cm (hR57 _ _ br7)<|vY 0 .normal (kL t21 t22 (if r7>n then r7 else n) (bN (t23+1))) rfl (dI (aI trivial (aI (up (aw bE t21)) (aI trivial (aI trivial trivial))))) (aI trivial trivial)
  exact eA (A:=qai) mixed z<|by kernel_rfl
 ·obtain rfl:=lf h
  have z:=sg 0 c5<|eF (.exit 2) (tH n)
  exact gu qai (by intro hx;cases hx) z<|by kernel_rfl
theorem GX(hR57:oE R57){x:Int}(h:rF R57 t21 t22 n t23=some x):aU Pg GE 0 (.loop (cA qaH 247)) (EX (.exit 2) (tH x)) (kL t21 t22 n t23):=
 aU.loop (S:=fun(zz:Int×Int)=>kL t21 t22 zz.1 zz.2) (ex:=(fun _=>.exit 2)) (s:=(n,t23)) h fun zz y hy=>FJ R57 t21 t22 zz.1 zz.2 hR57 hy
end
def tF(R57:ph)(e:af):Option Int:=
 (rE R57 e.Kids (e.Kids.length:Int) 0 0).bind fun o4=>
 (rF R57 e.Alts (e.Alts.length:Int) o4 0).bind fun o8=>
 some (bN (o8+1))
theorem JT(R57:ph)(hR57:oE R57){e:af}{r:Int}(h:tF R57 e=some r):CC Pg GE 21 [.agg (ac e)] (.int .i64 r) []:=by
 obtain⟨o4,bo4,h⟩:=aG h
 obtain⟨o8,bo8,h⟩:=aG h
 obtain rfl:=lf h
 have z:=se (bX e)<|sv (a8 e)<|sv (be e)<|bF (eP.ln e.Kids)<|cK (GW R57 e e.Kids (e.Kids.length:Int) 0 0 hR57 bo4)<|sv (aD e)<|sv (aE e)<|bF (dZ.ln e.Alts)<|cK (GX R57 e.Alts (e.Alts.length:Int) o4 0 hR57 bo8)<|en (aI (rP (.int .i64 (bN (o8+1))))<|trivial)
 exact bI qai call21 func21 (c:=qaH) rfl (aI (al e) trivial) z<|by kernel_rfl
def y8:(af->Option Int)->(af)->Option Int:=fun(rec:af->Option Int) (x:af)=>tF (fun e=>rec e) x
def tE(e:af):Option Int:=sS y8 e
theorem wP{e:af}{r:Int}(h:tE e=some r):CC Pg GE 21 [.agg (ac e)] (.int .i64 r) []:=
 eg (F:=y8) (M:=fun(x:af) (r:Int)=>CC Pg GE 21 [.agg (ac x)] (.int .i64 r) []) (fun rec hrec x r h=>JT _ (fun e r h=>hrec e r h) h) h
abbrev gq:=(af->Int->Option (Bool×Int))
abbrev gn(R:gq):Prop:=∀(e:af) (k0:Int) (r:Bool×Int),R e k0=some r->C Pg GE 64 [.agg (ac e),.func (.func 65) [] [.bptr 0 0]] [] [.cells [.int .i64 k0] []] (.bool r.1) [] [.cells [.int .i64 r.2] []]
noncomputable def Fu:Code:=f116.body.getD .skip
def sO:List Nat:=[]
section
variable(t4:Int)
def G8:aB:=aZ 56 [(2,.bptr 0 0),(4,.int .i64 t4)] [.cells [.bool false,.bool false,.int .i64 0,.int .i64 0,.bool false,.bool false,.int .i64 0,.int .i64 0,.bool false] []] []
def rV(o:Bool):aB:=aZ 56 [(2,.bptr 0 0),(4,.int .i64 t4),(5,.bool o)] [.cells [.bool false,.bool false,.int .i64 0,.int .i64 0,.bool false,.bool false,.int .i64 0,.int .i64 0,.bool false] []] []
def uY:Option Bool:=
 if(t4==1)=true then
  some (t4==1)
 else
  some (t4==2)
theorem FU{x:Bool}(h:uY t4=some x):aU Pg GE 0 (cA Fu 54) (EX .normal (rV t4 x)) (G8 t4):=by
 rcases aH h with⟨c1,h⟩|⟨c1,h⟩
 ·obtain rfl:=lf h
  exact aY sO (sg 0 c1<|eF .normal (rV t4 (t4==1)))<|by kernel_rfl
 ·obtain rfl:=lf h
  exact aY sO (sg 0 c1<|eF .normal (rV t4 (t4==2)))<|by kernel_rfl
end
section
variable(t4:Int)
def G9:aB:=aZ 56 [(2,.bptr 0 0),(4,.int .i64 t4)] [.cells [.bool false,.bool false,.int .i64 0,.int .i64 0,.bool false,.bool false,.int .i64 0,.int .i64 0,.bool false] []] []
def cP(o:Bool):aB:=aZ 56 [(2,.bptr 0 0),(4,.int .i64 t4),(30,.bool o)] [.cells [.bool false,.bool false,.int .i64 0,.int .i64 0,.bool false,.bool false,.int .i64 0,.int .i64 0,.bool false] []] []
def uZ:Option Bool:=
 if(t4==10)=true then
  some (t4==10)
 else
  if(t4==11)=true then
   some (t4==11)
  else
   if(t4==12)=true then
    some (t4==12)
   else
    if(t4==13)=true then
     some (t4==13)
    else
     if(t4==14)=true then
      some (t4==14)
     else
      if(t4==16)=true then
       some (t4==16)
      else
       if(t4==17)=true then
        some (t4==17)
       else
        if(t4==18)=true then
         some (t4==18)
        else
         if(t4==19)=true then
          some (t4==19)
         else
          if(t4==20)=true then
           some (t4==20)
          else
           some (t4==24)
theorem FV {x:Bool} (h:uZ t4 = some x) :aU Pg GE 0 (cA Fu 3670014) (EX .normal (cP t4 x)) (G9 t4):=by
 rcases aH h with⟨c19,h⟩|⟨c19,h⟩
 ·obtain rfl:=lf h
  exact aY sO (sg 0 c19<|eF .normal (cP t4 (t4==10)))<|by kernel_rfl
 ·rcases aH h with⟨c20,h⟩|⟨c20,h⟩
  ·obtain rfl:=lf h
   exact aY sO (sg 0 c19<|sg 0 c20<|eF .normal (cP t4 (t4==11)))<|by kernel_rfl
  ·have p22:=fun{sc F} (r:PS sc F)=>sg 0 c19<|sg 0 c20<|r
   rcases aH h with⟨c21,h⟩|⟨c21,h⟩
   ·obtain rfl:=lf h
    exact aY sO (p22<|sg 0 c21<|eF .normal (cP t4 (t4==12)))<|by kernel_rfl
   ·have p24:=fun{sc F} (r:PS sc F)=>p22<|sg 0 c21<|r
    rcases aH h with⟨c23,h⟩|⟨c23,h⟩
    ·obtain rfl:=lf h
     exact aY sO (p24<|sg 0 c23<|eF .normal (cP t4 (t4==13)))<|by kernel_rfl
    ·have p26:=fun{sc F} (r:PS sc F)=>p24<|sg 0 c23<|r
     rcases aH h with⟨c25,h⟩|⟨c25,h⟩
     ·obtain rfl:=lf h
      exact aY sO (p26<|sg 0 c25<|eF .normal (cP t4 (t4==14)))<|by kernel_rfl
     ·have p28:=fun{sc F} (r:PS sc F)=>p26<|sg 0 c25<|r
      rcases aH h with⟨c27,h⟩|⟨c27,h⟩
      ·obtain rfl:=lf h
       exact aY sO (p28<|sg 0 c27<|eF .normal (cP t4 (t4==16)))<|by kernel_rfl
      ·have p30:=fun{sc F} (r:PS sc F)=>p28<|sg 0 c27<|r
       rcases aH h with⟨c29,h⟩|⟨c29,h⟩
       ·obtain rfl:=lf h
        exact aY sO (p30<|sg 0 c29<|eF .normal (cP t4 (t4==17)))<|by kernel_rfl
       ·have p32:=fun{sc F} (r:PS sc F)=>p30<|sg 0 c29<|r
        rcases aH h with⟨c31,h⟩|⟨c31,h⟩
        ·obtain rfl:=lf h
         exact aY sO (p32<|sg 0 c31<|eF .normal (cP t4 (t4==18)))<|by kernel_rfl
        ·have p34:=fun{sc F} (r:PS sc F)=>p32<|sg 0 c31<|r
         rcases aH h with⟨c33,h⟩|⟨c33,h⟩
         ·obtain rfl:=lf h
          exact aY sO (p34<|sg 0 c33<|eF .normal (cP t4 (t4==19)))<|by kernel_rfl
         ·have p36:=fun{sc F} (r:PS sc F)=>p34<|sg 0 c33<|r
          rcases aH h with⟨c35,h⟩|⟨c35,h⟩
          ·obtain rfl:=lf h
           exact aY sO (p36<|sg 0 c35<|eF .normal (cP t4 (t4==20)))<|by kernel_rfl
          ·obtain rfl:=lf h
           exact aY sO (p36<|sg 0 c35<|eF .normal (cP t4 (t4==24)))<|by kernel_rfl
end
section
variable(t4:Int)
def Ha:aB:=aZ 56 [(2,.bptr 0 0),(4,.int .i64 t4)] [.cells [.bool false,.bool false,.int .i64 0,.int .i64 0,.bool false,.bool false,.int .i64 0,.int .i64 0,.bool false] []] []
def jV(o:Bool):aB:=aZ 56 [(2,.bptr 0 0),(4,.int .i64 t4),(43,.bool o)] [.cells [.bool false,.bool false,.int .i64 0,.int .i64 0,.bool false,.bool false,.int .i64 0,.int .i64 0,.bool false] []] []
def u3:Option Bool:=
 if(t4==15)=true then
  some (t4==15)
 else
  if(t4==21)=true then
   some (t4==21)
  else
   if(t4==22)=true then
    some (t4==22)
   else
    some (t4==23)
theorem FW{x:Bool}(h:u3 t4=some x):aU Pg GE 0 (cA Fu 14680062) (EX .normal (jV t4 x)) (Ha t4):=by
 rcases aH h with⟨c40,h⟩|⟨c40,h⟩
 ·obtain rfl:=lf h
  exact aY sO (sg 0 c40<|eF .normal (jV t4 (t4==15)))<|by kernel_rfl
 ·rcases aH h with⟨c41,h⟩|⟨c41,h⟩
  ·obtain rfl:=lf h
   exact aY sO (sg 0 c40<|sg 0 c41<|eF .normal (jV t4 (t4==21)))<|by kernel_rfl
  ·have p43:=fun{sc F} (r:PS sc F)=>sg 0 c40<|sg 0 c41<|r
   rcases aH h with⟨c42,h⟩|⟨c42,h⟩
   ·obtain rfl:=lf h
    exact aY sO (p43<|sg 0 c42<|eF .normal (jV t4 (t4==22)))<|by kernel_rfl
   ·obtain rfl:=lf h
    exact aY sO (p43<|sg 0 c42<|eF .normal (jV t4 (t4==23)))<|by kernel_rfl
end
def ri (op:Int):Option (au×Bool) :=
 (uY op).bind fun o2=>
 if o2=true then
  some ((⟨true,false,0,0,false,false,0,0,false⟩:au),true)
 else
  if(op==3)=true then
   some ((⟨false,true,0,0,false,false,0,0,false⟩:au),true)
  else
   if(op==4)=true then
    some ((⟨false,true,0,6,false,false,0,1073741824,true⟩:au),true)
   else
    if(op==5)=true then
     some ((⟨false,true,1,6,false,false,0,1073741824,true⟩:au),true)
    else
     if(op==6)=true then
      some ((⟨false,false,1,1,true,false,0,0,false⟩:au),true)
     else
      if(op==7)=true then
       some ((⟨false,true,2,2,false,false,0,1,true⟩:au),true)
      else
       if(op==8)=true then
        some ((⟨false,false,3,3,false,false,0,0,false⟩:au),true)
       else
        if(op==9)=true then
         some ((⟨false,false,1,1,false,true,0,0,false⟩:au),true)
        else
         (uZ op).bind fun o37=>
         if o37=true then
          some ((⟨false,false,2,2,false,false,0,0,false⟩:au),true)
         else
          (u3 op).bind fun o44=>
          if o44=true then
           some ((⟨false,false,1,1,false,false,0,0,false⟩:au),true)
          else
           if(op==25)=true then
            some ((⟨false,true,2,7,false,false,0,0,false⟩:au),true)
           else
            if(op==26)=true then
             some ((⟨false,false,1,1,false,false,1,1,true⟩:au),true)
            else
             some ((⟨false,false,0,0,false,false,0,0,false⟩:au),false)
theorem J4 {op:Int} {r:au×Bool} (h:ri op = some r):CC Pg GE 116 [.int .i64 op] (.tuple [.agg (aN r.1),.bool r.2]) []:=by
 obtain⟨o2,bo2,h⟩:=aG h
 have p4:=fun{sc F} (r:PS sc F)=>sx YK<|nN 2<|cK (FU op bo2)<|r
 rcases aH h with⟨c3,h⟩|⟨c3,h⟩
 ·obtain rfl:=lf h
  have z:=p4<|sg 0 c3<|sv (HG true)<|sx (cN (⟨true,false,0,0,false,false,0,0,false⟩:au))<|en (aI (va9 PVal.tuple (mf (cV (⟨true,false,0,0,false,false,0,0,false⟩:au)) (mf (rP (.bool true)) (rfl:([]:List PVal)=[]))))<|(aI (bY (⟨true,false,0,0,false,false,0,0,false⟩:au)) (aI trivial trivial)))
  exact bI sO call116 func116 (c:=Fu) rfl (aI trivial trivial) z<|by kernel_rfl
 ·have p6:=fun{sc F} (r:PS sc F)=>p4<|sg 0 c3<|r
  rcases aH h with⟨c5,h⟩|⟨c5,h⟩
  ·obtain rfl:=lf h
   have z:=p6<|sg 0 c5<|sv (HH true)<|sx (cN (⟨false,true,0,0,false,false,0,0,false⟩:au))<|en (aI (va9 PVal.tuple (mf (cV (⟨false,true,0,0,false,false,0,0,false⟩:au)) (mf (rP (.bool true)) (rfl:([]:List PVal)=[]))))<|(aI (bY (⟨false,true,0,0,false,false,0,0,false⟩:au)) (aI trivial trivial)))
   exact bI sO call116 func116 (c:=Fu) rfl (aI trivial trivial) z<|by kernel_rfl
  ·have p8:=fun{sc F} (r:PS sc F)=>p6<|sg 0 c5<|r
   rcases aH h with⟨c7,h⟩|⟨c7,h⟩
   ·obtain rfl:=lf h
    have z:=p8<|sg 0 c7<|sv (Bi true 6 true 1073741824)<|sx (cN (⟨false,true,0,6,false,false,0,1073741824,true⟩:au))<|en (aI (va9 PVal.tuple (mf (cV (⟨false,true,0,6,false,false,0,1073741824,true⟩:au)) (mf (rP (.bool true)) (rfl:([]:List PVal)=[]))))<|(aI (bY (⟨false,true,0,6,false,false,0,1073741824,true⟩:au)) (aI trivial trivial)))
    exact bI sO call116 func116 (c:=Fu) rfl (aI trivial trivial) z<|by kernel_rfl
   ·have p10:=fun{sc F} (r:PS sc F)=>p8<|sg 0 c7<|r
    rcases aH h with⟨c9,h⟩|⟨c9,h⟩
    ·obtain rfl:=lf h
     have z:=p10<|sg 0 c9<|sv (qa true 1 6 true 1073741824)<|sx (cN (⟨false,true,1,6,false,false,0,1073741824,true⟩:au))<|en (aI (va9 PVal.tuple (mf (cV (⟨false,true,1,6,false,false,0,1073741824,true⟩:au)) (mf (rP (.bool true)) (rfl:([]:List PVal)=[]))))<|(aI (bY (⟨false,true,1,6,false,false,0,1073741824,true⟩:au)) (aI trivial trivial)))
     exact bI sO call116 func116 (c:=Fu) rfl (aI trivial trivial) z<|by kernel_rfl
    ·have p12:=fun{sc F} (r:PS sc F)=>p10<|sg 0 c9<|r
     rcases aH h with⟨c11,h⟩|⟨c11,h⟩
     ·obtain rfl:=lf h
      have z:=p12<|sg 0 c11<|sv (C5 true 1 1)<|sx (cN (⟨false,false,1,1,true,false,0,0,false⟩:au))<|en (aI (va9 PVal.tuple (mf (cV (⟨false,false,1,1,true,false,0,0,false⟩:au)) (mf (rP (.bool true)) (rfl:([]:List PVal)=[]))))<|(aI (bY (⟨false,false,1,1,true,false,0,0,false⟩:au)) (aI trivial trivial)))
      exact bI sO call116 func116 (c:=Fu) rfl (aI trivial trivial) z<|by kernel_rfl
     ·have p14:=fun{sc F} (r:PS sc F)=>p12<|sg 0 c11<|r
      rcases aH h with⟨c13,h⟩|⟨c13,h⟩
      ·obtain rfl:=lf h
       have z:=p14<|sg 0 c13<|sv (qa true 2 2 true 1)<|sx (cN (⟨false,true,2,2,false,false,0,1,true⟩:au))<|en (aI (va9 PVal.tuple (mf (cV (⟨false,true,2,2,false,false,0,1,true⟩:au)) (mf (rP (.bool true)) (rfl:([]:List PVal)=[]))))<|(aI (bY (⟨false,true,2,2,false,false,0,1,true⟩:au)) (aI trivial trivial)))
       exact bI sO call116 func116 (c:=Fu) rfl (aI trivial trivial) z<|by kernel_rfl
      ·have p16:=fun{sc F} (r:PS sc F)=>p14<|sg 0 c13<|r
       rcases aH h with⟨c15,h⟩|⟨c15,h⟩
       ·obtain rfl:=lf h
        have z:=p16<|sg 0 c15<|sv (qh 3 3)<|sx (cN (⟨false,false,3,3,false,false,0,0,false⟩:au))<|en (aI (va9 PVal.tuple (mf (cV (⟨false,false,3,3,false,false,0,0,false⟩:au)) (mf (rP (.bool true)) (rfl:([]:List PVal)=[]))))<|(aI (bY (⟨false,false,3,3,false,false,0,0,false⟩:au)) (aI trivial trivial)))
        exact bI sO call116 func116 (c:=Fu) rfl (aI trivial trivial) z<|by kernel_rfl
       ·have p18:=fun{sc F} (r:PS sc F)=>p16<|sg 0 c15<|r
        rcases aH h with⟨c17,h⟩|⟨c17,h⟩
        ·obtain rfl:=lf h
         have z:=p18<|sg 0 c17<|sv (C6 true 1 1)<|sx (cN (⟨false,false,1,1,false,true,0,0,false⟩:au))<|en (aI (va9 PVal.tuple (mf (cV (⟨false,false,1,1,false,true,0,0,false⟩:au)) (mf (rP (.bool true)) (rfl:([]:List PVal)=[]))))<|(aI (bY (⟨false,false,1,1,false,true,0,0,false⟩:au)) (aI trivial trivial)))
         exact bI sO call116 func116 (c:=Fu) rfl (aI trivial trivial) z<|by kernel_rfl
        ·obtain⟨o37,bo37,h⟩:=aG h
         have p39:=fun{sc F} (r:PS sc F)=>p18<|sg 0 c17<|nN 0<|cK (FV op bo37)<|r
         rcases aH h with⟨c38,h⟩|⟨c38,h⟩
         ·obtain rfl:=lf h
          have z:=p39<|sg 0 c38<|sv (qh 2 2)<|sx (cN (⟨false,false,2,2,false,false,0,0,false⟩:au))<|en (aI (va9 PVal.tuple (mf (cV (⟨false,false,2,2,false,false,0,0,false⟩:au)) (mf (rP (.bool true)) (rfl:([]:List PVal)=[]))))<|(aI (bY (⟨false,false,2,2,false,false,0,0,false⟩:au)) (aI trivial trivial)))
          exact bI sO call116 func116 (c:=Fu) rfl (aI trivial trivial) z<|by kernel_rfl
         ·obtain⟨o44,bo44,h⟩:=aG h
          have p46:=fun{sc F} (r:PS sc F)=>p39<|sg 0 c38<|nN 0<|cK (FW op bo44)<|r
          rcases aH h with⟨c45,h⟩|⟨c45,h⟩
          ·obtain rfl:=lf h
           have z:=p46<|sg 0 c45<|sv (qh 1 1)<|sx (cN (⟨false,false,1,1,false,false,0,0,false⟩:au))<|en (aI (va9 PVal.tuple (mf (cV (⟨false,false,1,1,false,false,0,0,false⟩:au)) (mf (rP (.bool true)) (rfl:([]:List PVal)=[]))))<|(aI (bY (⟨false,false,1,1,false,false,0,0,false⟩:au)) (aI trivial trivial)))
           exact bI sO call116 func116 (c:=Fu) rfl (aI trivial trivial) z<|by kernel_rfl
          ·have p48:=fun{sc F} (r:PS sc F)=>p46<|sg 0 c45<|r
           rcases aH h with⟨c47,h⟩|⟨c47,h⟩
           ·obtain rfl:=lf h
            have z:=p48<|sg 0 c47<|sv (C4 true 2 7)<|sx (cN (⟨false,true,2,7,false,false,0,0,false⟩:au))<|en (aI (va9 PVal.tuple (mf (cV (⟨false,true,2,7,false,false,0,0,false⟩:au)) (mf (rP (.bool true)) (rfl:([]:List PVal)=[]))))<|(aI (bY (⟨false,true,2,7,false,false,0,0,false⟩:au)) (aI trivial trivial)))
            exact bI sO call116 func116 (c:=Fu) rfl (aI trivial trivial) z<|by kernel_rfl
           ·have p50:=fun{sc F} (r:PS sc F)=>p48<|sg 0 c47<|r
            rcases aH h with⟨c49,h⟩|⟨c49,h⟩
            ·obtain rfl:=lf h
             have z:=p50<|sg 0 c49<|sv (zu 1 1 true 1 1)<|sx (cN (⟨false,false,1,1,false,false,1,1,true⟩:au))<|en (aI (va9 PVal.tuple (mf (cV (⟨false,false,1,1,false,false,1,1,true⟩:au)) (mf (rP (.bool true)) (rfl:([]:List PVal)=[]))))<|(aI (bY (⟨false,false,1,1,false,false,1,1,true⟩:au)) (aI trivial trivial)))
             exact bI sO call116 func116 (c:=Fu) rfl (aI trivial trivial) z<|by kernel_rfl
            ·obtain rfl:=lf h
             have z:=p50<|sg 0 c49<|sv (HI)<|sx (cN (⟨false,false,0,0,false,false,0,0,false⟩:au))<|en (aI (va9 PVal.tuple (mf (cV (⟨false,false,0,0,false,false,0,0,false⟩:au)) (mf (rP (.bool false)) (rfl:([]:List PVal)=[]))))<|(aI (bY (⟨false,false,0,0,false,false,0,0,false⟩:au)) (aI trivial trivial)))
             exact bI sO call116 func116 (c:=Fu) rfl (aI trivial trivial) z<|by kernel_rfl
noncomputable def qb9:Code:=f139.body.getD .skip
def qbM:List Nat:=[]
def wS(a:aT):Option Bool:=
 some (decide ((a.Names.length:Int)>6))
theorem GZ{a:aT}{r:Bool}(h:wS a=some r):CC Pg GE 139 [.agg (aF a)] (.bool r) []:=by
 obtain rfl:=lf h
 have z:=se (Id a)<|sv (gX a)<|sv (gZ a)<|bF (cO.ln a.Names)<|en (aI (rP (.bool (decide ((a.Names.length:Int)>6))))<|trivial)
 exact bI qbM call139 func139 (c:=qb9) rfl (aI (bE a) trivial) z<|by kernel_rfl
noncomputable def XR:Code:=f158.body.getD .skip
def VS:List Nat:=[10,17]
section
variable(s:waC)(t7:Int)(t8:Int)
def dO:aB:=aZ 19 [(0,sl aF s),(1,.func (.func 139) [] []),(7,.int .i64 t7),(8,.int .i64 t8)] [] []
def dQ(o:Int⊕(Unit)):Exit:=match o with
 |(.inl _)=>.ret
 |(.inr _)=>.exit 0
def cY(o:Int⊕(Unit)):aB:=match o with
 |(.inl o)=>aZ 19 [(4,.int .i64 o)] [] []
 |(.inr o)=>aZ 19 [] [] []
def dP:Option (Int⊕(Int⊕(Unit))):=
 if(decide (t8<t7))=true then
  (fy s t8).bind fun x2=>
  (wS x2).bind fun r3=>
  if r3=true then
   some (.inr (.inl t8))
  else
   some (.inl (bN (t8+1)))
 else
  some (.inr (.inr ()))
def iP:Option (Int⊕(Unit)):=loop (fun(zz:Int)=>dP s t7 zz) t8
theorem tD{y:Int⊕(Int⊕(Unit))}(h:dP s t7 t8=some y):aU Pg GE 0 (cA XR 55) (LQ (fun(zz:Int)=>dO s t7 zz) dQ cY y) (dO s t7 t8):=by
 rcases aH h with⟨c1,h⟩|⟨c1,h⟩
 ·obtain⟨x2,bx2,h⟩:=aG h
  obtain⟨r3,br3,h⟩:=aG h
  have p5:=fun{sc F} (r:PS sc F)=>sg 0 c1<|sv (dZ.ia (k:=.i64) bx2)<|sv (mt x2)<|cm (GZ br3)<|r
  rcases aH h with⟨c4,h⟩|⟨c4,h⟩
  ·obtain rfl:=lf h
   have z:=p5<|sg 0 c4<|eF (dQ (.inl t8)) (cY (.inl t8))
   exact gu VS (by intro hx;cases hx) z<|by kernel_rfl
  ·obtain rfl:=lf h
   exact wv VS (p5<|sg 0 c4<|eF .normal (dO s t7 (bN (t8+1))))<|by kernel_rfl
 ·obtain rfl:=lf h
  have z:=sg 0 c1<|eF (dQ (.inr ())) (cY (.inr ()))
  exact gu VS (by intro hx;cases hx) z<|by kernel_rfl
theorem lh{x:Int⊕(Unit)}(h:iP s t7 t8=some x):aU Pg GE 0 (.loop (cA XR 55)) (EX (dQ x) (cY x)) (dO s t7 t8):=
 aU.loop (S:=fun(zz:Int)=>dO s t7 zz) (ex:=dQ) (s:=t8) h fun zz y hy=>tD s t7 zz hy
end
def j7(s:waC):Option Int:=
 (iP s (s.length:Int) 0).bind fun o6=>match o6 with
 |(.inl o6)=>
  some o6
 |(.inr o6)=>
  some (-1)
theorem wN{s:waC}{r:Int}(h:j7 s=some r):CC Pg GE 158 [sl aF s,.func (.func 139) [] []] (.int .i64 r) []:=by
 obtain⟨o6,bo6,h⟩:=aG h
 rcases o6 with o6|o6
 ·obtain rfl:=lf h
  have z:=bF (dZ.ln s)<|cK (e:=.ret) (s1:=cY (.inl o6)) (lh s (s.length:Int) 0 bo6)<|en (aI (rP (.int .i64 o6))<|trivial)
  exact bI VS call158 func158 (c:=XR) rfl (aI (aw bE s) (aI (aI trivial trivial) trivial)) z<|by kernel_rfl
 ·obtain rfl:=lf h
  have z:=bF (dZ.ln s)<|cK (e:=.exit 0) (s1:=cY (.inr o6)) (lh s (s.length:Int) 0 bo6)<|en (aI (rP (.int .i64 (-1)))<|trivial)
  exact bI VS call158 func158 (c:=XR) rfl (aI (aw bE s) (aI (aI trivial trivial) trivial)) z<|by kernel_rfl
noncomputable def qb8:Code:=f138.body.getD .skip
def qbL:List Nat:=[]
def fE(s:waC):Option Bool:=
 (j7 s).bind fun r1=>
 some (decide (r1>=0))
theorem uh{s:waC}{r:Bool}(h:fE s=some r):CC Pg GE 138 [sl aF s,.func (.func 139) [] []] (.bool r) []:=by
 obtain⟨r1,br1,h⟩:=aG h
 obtain rfl:=lf h
 have z:=cm (wN br1)<|en (aI (rP (.bool (decide (r1>=0))))<|trivial)
 exact bI qbL call138 func138 (c:=qb8) rfl (aI (aw bE s) (aI (aI trivial trivial) trivial)) z<|by kernel_rfl
noncomputable def V9:Code:=f117.body.getD .skip
def Gl:List Nat:=[]
section
variable(e:af)(s:au)
def G0:aB:=aZ 69 [(2,.eptr (ac e)),(3,.eptr (aN s))] [.dead,.dead] []
def jS(o:Bool):aB:=aZ 69 [(2,.eptr (ac e)),(3,.eptr (aN s)),(34,.bool o)] [.dead,.dead] []
def uR:Option Bool:=
 if(decide ((e.Kids.length:Int)<s.least))=true then
  some true
 else
  if(decide ((e.Kids.length:Int)>s.most))=true then
   some true
  else
   if(decide ((e.Types.length:Int)<s.typesLeast))=true then
    some true
   else
    some (decide ((e.Types.length:Int)>s.typesMost))
theorem FM{x:Bool}(h:uR e s=some x):aU Pg GE 0 (cA V9 12) (EX .normal (jS e s x)) (G0 e s):=by
 have p2:=fun{sc F} (r:PS sc F)=>sv (a8 e)<|sv (be e)<|bF (eP.ln e.Kids)<|sv (C8 s)<|sv (Fy s)<|r
 rcases aH h with⟨c1,h⟩|⟨c1,h⟩
 ·obtain rfl:=lf h
  exact aY Gl (p2<|sg 7 c1<|eF .normal (jS e s true))<|by kernel_rfl
 ·have p4:=fun{sc F} (r:PS sc F)=>p2<|sg 7 c1<|sv (a8 e)<|sv (be e)<|bF (eP.ln e.Kids)<|sv (C9 s)<|sv (FA s)<|r
  rcases aH h with⟨c3,h⟩|⟨c3,h⟩
  ·obtain rfl:=lf h
   exact aY Gl (p4<|sg 15 c3<|eF .normal (jS e s true))<|by kernel_rfl
  ·have p6:=fun{sc F} (r:PS sc F)=>p4<|sg 15 c3<|sv (aJ e)<|sv (aK e)<|bF (db.ln e.Types)<|sv (Db s)<|sv (FC s)<|r
   rcases aH h with⟨c5,h⟩|⟨c5,h⟩
   ·obtain rfl:=lf h
    exact aY Gl (p6<|sg 23 c5<|eF .normal (jS e s true))<|by kernel_rfl
   ·obtain rfl:=lf h
    exact aY Gl (p6<|sg 23 c5<|sv (aJ e)<|sv (aK e)<|bF (db.ln e.Types)<|sv (Dc s)<|sv (FD s)<|eF .normal (jS e s (decide ((e.Types.length:Int)>s.typesMost))))<|by kernel_rfl
end
section
variable(e:af)(s:au)
def G1:aB:=aZ 69 [(2,.eptr (ac e)),(3,.eptr (aN s))] [.dead,.dead] []
def eb(o:Bool):aB:=aZ 69 [(2,.eptr (ac e)),(64,.bool o)] [.dead,.dead] []
def uS:Option Bool:=
 if s.params=true then
  if(decide ((e.Params.length:Int)<1))=true then
   some true
  else
   if(decide ((e.Params.length:Int)>6))=true then
    some true
   else
    if s.alts=true then
     if(decide ((e.Alts.length:Int)<1))=true then
      some true
     else
      some (decide ((e.Alts.length:Int)>8))
    else
     some false
 else
  if s.alts=true then
   if(decide ((e.Alts.length:Int)<1))=true then
    some true
   else
    some (decide ((e.Alts.length:Int)>8))
  else
   some false
theorem FO{x:Bool}(h:uS e s=some x):aU Pg GE 0 (cA V9 28) (EX .normal (eb e x)) (G1 e s):=by
 have p11:=fun{sc F} (r:PS sc F)=>sv (Da s)<|sv (FB s)<|r
 rcases aH h with⟨c10,h⟩|⟨c10,h⟩
 ·have p13:=fun{sc F} (r:PS sc F)=>p11<|sg 3 c10<|sv (ba e)<|sv (bh e)<|bF (il.ln e.Params)<|r
  rcases aH h with⟨c12,h⟩|⟨c12,h⟩
  ·obtain rfl:=lf h
   exact aY Gl (p13<|sg 8 c12<|eF .normal (eb e true))<|by kernel_rfl
  ·have p15:=fun{sc F} (r:PS sc F)=>p13<|sg 8 c12<|sv (ba e)<|sv (bh e)<|bF (il.ln e.Params)<|r
   rcases aH h with⟨c14,h⟩|⟨c14,h⟩
   ·obtain rfl:=lf h
    exact aY Gl (p15<|sg 15 c14<|eF .normal (eb e true))<|by kernel_rfl
   ·have p17:=fun{sc F} (r:PS sc F)=>p15<|sg 15 c14<|sv (uo s)<|sv (xh s)<|r
    rcases aH h with⟨c16,h⟩|⟨c16,h⟩
    ·have p19:=fun{sc F} (r:PS sc F)=>p17<|sg 18 c16<|sv (aD e)<|sv (aE e)<|bF (dZ.ln e.Alts)<|r
     rcases aH h with⟨c18,h⟩|⟨c18,h⟩
     ·obtain rfl:=lf h
      exact aY Gl (p19<|sg 23 c18<|eF .normal (eb e true))<|by kernel_rfl
     ·obtain rfl:=lf h
      exact aY Gl (p19<|sg 23 c18<|sv (aD e)<|sv (aE e)<|bF (dZ.ln e.Alts)<|eF .normal (eb e (decide ((e.Alts.length:Int)>8))))<|by kernel_rfl
    ·obtain rfl:=lf h
     exact aY Gl (p17<|sg 18 c16<|eF .normal (eb e false))<|by kernel_rfl
 ·have p21:=fun{sc F} (r:PS sc F)=>p11<|sg 3 c10<|sv (uo s)<|sv (xh s)<|r
  rcases aH h with⟨c20,h⟩|⟨c20,h⟩
  ·have p23:=fun{sc F} (r:PS sc F)=>p21<|sg 18 c20<|sv (aD e)<|sv (aE e)<|bF (dZ.ln e.Alts)<|r
   rcases aH h with⟨c22,h⟩|⟨c22,h⟩
   ·obtain rfl:=lf h
    exact aY Gl (p23<|sg 23 c22<|eF .normal (eb e true))<|by kernel_rfl
   ·obtain rfl:=lf h
    exact aY Gl (p23<|sg 23 c22<|sv (aD e)<|sv (aE e)<|bF (dZ.ln e.Alts)<|eF .normal (eb e (decide ((e.Alts.length:Int)>8))))<|by kernel_rfl
  ·obtain rfl:=lf h
   exact aY Gl (p21<|sg 18 c20<|eF .normal (eb e false))<|by kernel_rfl
end
def vL(e:af)(s:au):Option Bool:=
 (uR e s).bind fun o7=>
 if o7=true then
  some false
 else
  (uS e s).bind fun o24=>
  if o24=true then
   some false
  else
   (fE e.Alts).bind fun r27=>
   some (!r27)
theorem JY{e:af}{s:au}{r:Bool}(h:vL e s=some r):CC Pg GE 117 [.agg (ac e),.agg (aN s)] (.bool r) []:=by
 obtain⟨o7,bo7,h⟩:=aG h
 have p9:=fun{sc F} (r:PS sc F)=>se (bX e)<|se (CW s)<|nN 1<|cK (FM e s bo7)<|r
 rcases aH h with⟨c8,h⟩|⟨c8,h⟩
 ·obtain rfl:=lf h
  have z:=p9<|sg 0 c8<|en (aI (rP (.bool false))<|trivial)
  exact bI Gl call117 func117 (c:=V9) rfl (aI (al e) (aI (bY s) trivial)) z<|by kernel_rfl
 ·obtain⟨o24,bo24,h⟩:=aG h
  have p26:=fun{sc F} (r:PS sc F)=>p9<|sg 0 c8<|nN 1<|cK (FO e s bo24)<|r
  rcases aH h with⟨c25,h⟩|⟨c25,h⟩
  ·obtain rfl:=lf h
   have z:=p26<|sg 0 c25<|en (aI (rP (.bool false))<|trivial)
   exact bI Gl call117 func117 (c:=V9) rfl (aI (al e) (aI (bY s) trivial)) z<|by kernel_rfl
  ·obtain⟨r27,br27,h⟩:=aG h
   obtain rfl:=lf h
   have z:=p26<|sg 0 c25<|sv (aD e)<|sv (aE e)<|cm (uh br27)<|en (aI (rP (.bool (!r27)))<|trivial)
   exact bI Gl call117 func117 (c:=V9) rfl (aI (al e) (aI (bY s) trivial)) z<|by kernel_rfl
noncomputable def qaw:Code:=f118.body.getD .skip
def Z7:List Nat:=[]
def Ts(n:Int):Option Bool:=
 if(decide (n>=(-1000000000000)))=true then
  some (decide (n<=1000000000000))
 else
  some false
theorem U8{n:Int}{r:Bool}(h:Ts n=some r):CC Pg GE 118 [.int .i64 n] (.bool r) []:=by
 rcases aH h with⟨c1,h⟩|⟨c1,h⟩
 ·obtain rfl:=lf h
  have z:=sg 3 c1<|en (aI (rP (.bool (decide (n<=1000000000000))))<|trivial)
  exact bI Z7 call118 func118 (c:=qaw) rfl (aI trivial trivial) z<|by kernel_rfl
 ·obtain rfl:=lf h
  have z:=sg 3 c1<|en (aI (rP (.bool false))<|trivial)
  exact bI Z7 call118 func118 (c:=qaw) rfl (aI trivial trivial) z<|by kernel_rfl
noncomputable def XS:Code:=f159.body.getD .skip
def VT:List Nat:=[]
section
variable(t7:waA)(t8:Int)(t9:Int)(m0:(List (ah×Bool)))
def iT:aB:=aZ 19 [(3,.mapr 0),(7,sl cS t7),(8,.int .i64 t8),(9,.int .i64 t9)] [.map (aW PVal.bool m0)] []
def iU(o:((List (ah×Bool)))⊕((List (ah×Bool)))):Exit:=match o with
 |(.inl _)=>.ret
 |(.inr _)=>.exit 0
def gh(o:((List (ah×Bool)))⊕((List (ah×Bool)))):aB:=match o with
 |(.inl o)=>aZ 19 [(2,.bool false)] [.map (aW PVal.bool o)] []
 |(.inr o)=>aZ 19 [] [.map (aW PVal.bool o)] []
def ck:Option ((Int×(List (ah×Bool)))⊕(((List (ah×Bool)))⊕((List (ah×Bool))))):=
 if(decide (t9<t8))=true then
  (fy t7 t9).bind fun x2=>
  if((Co m0 x2).getD false)=true then
   some (.inr (.inl m0))
  else
   some (.inl (bN (t9+1),Ej m0 x2 true))
 else
  some (.inr (.inr m0))
def tp:Option (((List (ah×Bool)))⊕((List (ah×Bool)))):=loop (fun(zz:Int×(List (ah×Bool)))=>ck t7 t8 zz.1 zz.2) (t9,m0)
theorem Dd{y:(Int×(List (ah×Bool)))⊕(((List (ah×Bool)))⊕((List (ah×Bool))))}(h:ck t7 t8 t9 m0=some y):aU Pg GE 0 (cA XS 119) (LQ (fun(zz:Int×(List (ah×Bool)))=>iT t7 t8 zz.1 zz.2) iU gh y) (iT t7 t8 t9 m0):=by
 rcases aH h with⟨c1,h⟩|⟨c1,h⟩
 ·obtain⟨x2,bx2,h⟩:=aG h
  have p4:=fun{sc F} (r:PS sc F)=>sg 0 c1<|sv (cO.ia (k:=.i64) bx2)<|sv (cT GS (.str x2) [])<|sv (Tn (f:=PVal.bool) underlying124 underlying9 qcW m0 x2)<|r
  rcases aH h with⟨c3,h⟩|⟨c3,h⟩
  ·obtain rfl:=lf h
   have z:=p4<|sg 0 c3<|eF (iU (.inl m0)) (gh (.inl m0))
   exact gu VT (by intro hx;cases hx) z<|by kernel_rfl
  ·obtain rfl:=lf h
   exact wv VT (p4<|sg 0 c3<|qcU (To (f:=PVal.bool) underlying124 underlying9 m0 x2 true)<|eF .normal (iT t7 t8 (bN (t9+1)) (Ej m0 x2 true)))<|by kernel_rfl
 ·obtain rfl:=lf h
  have z:=sg 0 c1<|eF (iU (.inr m0)) (gh (.inr m0))
  exact gu VT (by intro hx;cases hx) z<|by kernel_rfl
theorem wk{x:((List (ah×Bool)))⊕((List (ah×Bool)))}(h:tp t7 t8 t9 m0=some x):aU Pg GE 0 (.loop (cA XS 119)) (EX (iU x) (gh x)) (iT t7 t8 t9 m0):=
 aU.loop (S:=fun(zz:Int×(List (ah×Bool)))=>iT t7 t8 zz.1 zz.2) (ex:=iU) (s:=(t9,m0)) h fun zz y hy=>Dd t7 t8 zz.1 zz.2 hy
end
def tn(a:waA):Option Bool:=
 (tp a (a.length:Int) 0 ([]:List (ah×Bool))).bind fun o5=>match o5 with
 |(.inl o5)=>
  some false
 |(.inr o5)=>
  some true
theorem HX{a:waA}{r:Bool}(h:tn a=some r):CC Pg GE 159 [sl cS a] (.bool r) []:=by
 obtain⟨o5,bo5,h⟩:=aG h
 rcases o5 with o5|o5
 ·obtain rfl:=lf h
  have z:=bF (cO.ln a)<|cK (e:=.ret) (s1:=gh (.inl o5)) (wk a (a.length:Int) 0 ([]:List (ah×Bool)) bo5)<|en (aI (rP (.bool false))<|trivial)
  exact bI VT call159 func159 (c:=XS) rfl (aI (aw cy a) trivial) z<|by kernel_rfl
 ·obtain rfl:=lf h
  have z:=bF (cO.ln a)<|cK (e:=.exit 0) (s1:=gh (.inr o5)) (wk a (a.length:Int) 0 ([]:List (ah×Bool)) bo5)<|en (aI (rP (.bool true))<|trivial)
  exact bI VT call159 func159 (c:=XS) rfl (aI (aw cy a) trivial) z<|by kernel_rfl
noncomputable def qca:Code:=f140.body.getD .skip
def qbN:List Nat:=[]
def pY(a:waA):Option Bool:=
 (tn a).bind fun r1=>
 some (!r1)
theorem wZ{a:waA}{r:Bool}(h:pY a=some r):CC Pg GE 140 [sl cS a] (.bool r) []:=by
 obtain⟨r1,br1,h⟩:=aG h
 obtain rfl:=lf h
 have z:=cm (HX br1)<|en (aI (rP (.bool (!r1)))<|trivial)
 exact bI qbN call140 func140 (c:=qca) rfl (aI (aw cy a) trivial) z<|by kernel_rfl
end Go.Proofs.YtkdahfeiedaahaaGreatDoor
