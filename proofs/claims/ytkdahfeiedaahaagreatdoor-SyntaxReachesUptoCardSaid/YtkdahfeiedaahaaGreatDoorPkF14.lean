/- PROVED: a part of the proof. Conditions: none. -/
import Derived.Test.YtkdahfeiedaahaaGreatDoorPkF13
noncomputable section
namespace Go.Proofs.YtkdahfeiedaahaaGreatDoor
open Go Go.Proofs.Tryz
set_option linter.unusedVariables false
set_option maxRecDepth 100000
section
variable(R55:gw)(e:ag)(t14:waF)(t15:Int)(t16:Int)(m:Int)
def ib:aB:=bg 38 [(1,.func (.func 68) [] [.bptr 0 0]),(2,.eptr (ae e)),(14,sl ae t14),(15,.int .i64 t15),(16,.int .i64 t16)] [.cells [.int .i64 m] [],.dead] []
def ic(o:Int⊕(Int)):Exit:=match o with
 |(.inl _)=>.ret
 |(.inr _)=>.exit 0
def dt(o:Int⊕(Int)):aB:=match o with
 |(.inl o)=>bg 38 [(4,.bool false)] [.cells [.int .i64 o] [],.dead] []
 |(.inr o)=>bg 38 [(1,.func (.func 68) [] [.bptr 0 0]),(2,.eptr (ae e))] [.cells [.int .i64 o] [],.dead] []
def oP:Option ((Int×Int)⊕(Int⊕(Int))):=
 if(decide (t16<t15))=true then
  (gn t14 t16).bind fun x5=>
  (R55 x5 m).bind fun r6=>
  if(!r6.1)=true then
   some (.inr (.inl r6.2))
  else
   some (.inl (bV (t16+1),r6.2))
 else
  some (.inr (.inr m))
def qY:Option (Int⊕(Int)):=loop (fun(zz:Int×Int)=>oP R55 t14 t15 zz.1 zz.2) (t16,m)
theorem wq(hR55:gu R55){y:(Int×Int)⊕(Int⊕(Int))}(h:oP R55 t14 t15 t16 m=some y):bh Pg GE 1 (cA KW 119) (LQ (fun(zz:Int×Int)=>ib e t14 t15 zz.1 zz.2) ic (dt e) y) (ib e t14 t15 t16 m):=by
 rcases aQ h with⟨c4,h⟩|⟨c4,h⟩
 ·obtain⟨x5,bx5,r6,br6,h⟩:=Zb2 h
  have p8:=fun{sc F} (r:PS sc F)=>sg 0 c4<|sv (jt.ia (k:=.i64) bx5)<|sv (b9 x5)<|sx zB<|sx (lb x5)<|sv (ce x5 [])<|si (.cg ⟨[0],[.agg (ae x5),.func (.func 68) [] [.bptr 0 0]],[],[.cells [.int .i64 m] []],[.cells [.int .i64 m] []],[.cells [.int .i64 r6.2] []],[.cells [.int .i64 r6.2] []],.bool r6.1,.bool r6.1,[]⟩) (hR55 _ _ _ br6)<|sf (aI (xR [0] (.agg (ae x5)) (ay x5)) (aI (xF [0] (.func 68) [] [.bptr 0 0] [] [.bptr 0 0] trivial (aI (xB [0] 0 0 0 rfl) trivial)) trivial))<|sf (aI (aI (rB (.cells [.int .i64 m] [])) (aI (rW []) (aI (xR [0] (.int .i64 m) trivial) trivial))) trivial)<|sf (aI (aI (rW []) (aI (xR [0] (.int .i64 r6.2) trivial) trivial)) trivial)<|sf (xR [0] (.bool r6.1) trivial)<|r
  rcases aQ h with⟨c7,h⟩|⟨c7,h⟩
  ·obtain rfl:=lf h
   have z:=p8<|sg 0 c7<|ue 1 (ic (.inl r6.2)) (dt e (.inl r6.2)) rfl (dU (aI trivial trivial)) (aI (aI trivial trivial) (aI trivial trivial))
   exact rY (A:=Gj) mixed (Zn rfl) z<|by kernel_rfl
  ·obtain rfl:=lf h
   have z:=p8<|sg 0 c7<|ue 1 .normal (ib e t14 t15 (bV (t16+1)) r6.2) rfl (dU (aI (aI trivial (aI (aW rfl) trivial)) (aI (aZ (ay e)) (aI (up (ak ay t14)) (aI trivial (aI trivial trivial)))))) (aI (aI trivial trivial) (aI trivial trivial))
   exact ed (A:=Gj) mixed z<|by kernel_rfl
 ·obtain rfl:=lf h
  have z:=sg 0 c4<|eF (ic (.inr m)) (dt e (.inr m))
  exact jy Gj (Zn rfl) z<|by kernel_rfl
theorem j3(hR55:gu R55){x:Int⊕(Int)}(h:qY R55 t14 t15 t16 m=some x):bh Pg GE 1 (.loop (cA KW 119)) (EX (ic x) (dt e x)) (ib e t14 t15 t16 m):=
 ZL h fun _ _ hy=>wq _ _ _ _ _ _ hR55 hy
end
section
variable(R55:gw)(t26:waD)(t27:Int)(t28:Int)(m:Int)
def ie:aB:=bg 38 [(1,.func (.func 68) [] [.bptr 0 0]),(26,sl aA t26),(27,.int .i64 t27),(28,.int .i64 t28)] [.cells [.int .i64 m] [],.dead] []
def ig(o:Int⊕(Int)):Exit:=match o with
 |(.inl _)=>.ret
 |(.inr _)=>.exit 2
def ea(o:Int⊕(Int)):aB:=match o with
 |(.inl o)=>bg 38 [(4,.bool false)] [.cells [.int .i64 o] [],.dead] []
 |(.inr o)=>bg 38 [] [.cells [.int .i64 o] [],.dead] []
def oQ:Option ((Int×Int)⊕(Int⊕(Int))):=
 if(decide (t28<t27))=true then
  (gn t26 t28).bind fun x11=>
  (R55 x11.Body m).bind fun r12=>
  if(!r12.1)=true then
   some (.inr (.inl r12.2))
  else
   some (.inl (bV (t28+1),r12.2))
 else
  some (.inr (.inr m))
def qZ:Option (Int⊕(Int)):=loop (fun(zz:Int×Int)=>oQ R55 t26 t27 zz.1 zz.2) (t28,m)
theorem wr(hR55:gu R55){y:(Int×Int)⊕(Int⊕(Int))}(h:oQ R55 t26 t27 t28 m=some y):bh Pg GE 1 (cA KW 247) (LQ (fun(zz:Int×Int)=>ie t26 t27 zz.1 zz.2) ig ea y) (ie t26 t27 t28 m):=by
 rcases aQ h with⟨c10,h⟩|⟨c10,h⟩
 ·obtain⟨x11,bx11,r12,br12,h⟩:=Zb2 h
  have p14:=fun{sc F} (r:PS sc F)=>sg 0 c10<|sv (fO.ia (k:=.i64) bx11)<|sv (mH x11)<|sx G4<|sx (jz x11)<|sv (ce x11.Body [])<|si (.cg ⟨[0],[.agg (ae x11.Body),.func (.func 68) [] [.bptr 0 0]],[],[.cells [.int .i64 m] []],[.cells [.int .i64 m] []],[.cells [.int .i64 r12.2] []],[.cells [.int .i64 r12.2] []],.bool r12.1,.bool r12.1,[]⟩) (hR55 _ _ _ br12)<|sf (aI (xR [0] (.agg (ae x11.Body)) (ay x11.Body)) (aI (xF [0] (.func 68) [] [.bptr 0 0] [] [.bptr 0 0] trivial (aI (xB [0] 0 0 0 rfl) trivial)) trivial))<|sf (aI (aI (rB (.cells [.int .i64 m] [])) (aI (rW []) (aI (xR [0] (.int .i64 m) trivial) trivial))) trivial)<|sf (aI (aI (rW []) (aI (xR [0] (.int .i64 r12.2) trivial) trivial)) trivial)<|sf (xR [0] (.bool r12.1) trivial)<|r
  rcases aQ h with⟨c13,h⟩|⟨c13,h⟩
  ·obtain rfl:=lf h
   have z:=p14<|sg 0 c13<|ue 1 (ig (.inl r12.2)) (ea (.inl r12.2)) rfl (dU (aI trivial trivial)) (aI (aI trivial trivial) (aI trivial trivial))
   exact rY (A:=Gj) mixed (Zn rfl) z<|by kernel_rfl
  ·obtain rfl:=lf h
   have z:=p14<|sg 0 c13<|ue 1 .normal (ie t26 t27 (bV (t28+1)) r12.2) rfl (dU (aI (aI trivial (aI (aW rfl) trivial)) (aI (up (ak bK t26)) (aI trivial (aI trivial trivial))))) (aI (aI trivial trivial) (aI trivial trivial))
   exact ed (A:=Gj) mixed z<|by kernel_rfl
 ·obtain rfl:=lf h
  have z:=sg 0 c10<|eF (ig (.inr m)) (ea (.inr m))
  exact jy Gj (Zn rfl) z<|by kernel_rfl
theorem oc(hR55:gu R55){x:Int⊕(Int)}(h:qZ R55 t26 t27 t28 m=some x):bh Pg GE 1 (.loop (cA KW 247)) (EX (ig x) (ea x)) (ie t26 t27 t28 m):=
 ZL h fun _ _ hy=>wr _ _ _ _ _ hR55 hy
end
def rH(R55:gw)(e:ag)(k0:Int):Option (Bool×Int):=
 (BM e k0).bind fun r1=>
 if(!r1.1)=true then
  some (false,r1.2)
 else
  (qY R55 e.Kids (e.Kids.length:Int) 0 r1.2).bind fun o9=>match o9 with
  |(.inl o9)=>
   some (false,o9)
  | (.inr o9) =>
   (qZ R55 e.Alts (e.Alts.length:Int) 0 o9).bind fun o15=>match o15 with
   |(.inl o15)=>
    some (false,o15)
   |(.inr o15)=>
    some (true,o15)
theorem yU(R55:gw)(hR55:gu R55){e:ag}{k0:Int}{r:Bool×Int}(h:rH R55 e k0=some r):C Pg GE 64 [.agg (ae e),.func (.func 68) [] [.bptr 0 0]] [] [.cells [.int .i64 k0] []] (.bool r.1) [] [.cells [.int .i64 r.2] []]:=by
 obtain⟨r1,br1,h⟩:=cP h
 have p3:=fun{sc F} (r:PS sc F)=>se (dy e)<|sv (b9 e)<|si (.cg ⟨[0],[.agg (ae e),.bptr 0 0],[],[.cells [.int .i64 k0] []],[.cells [.int .i64 k0] []],[.cells [.int .i64 r1.2] []],[.cells [.int .i64 r1.2] []],.bool r1.1,.bool r1.1,[]⟩) (FU br1)<|sf (aI (xR [0] (.agg (ae e)) (ay e)) (aI (xB [0] 0 0 0 rfl) trivial))<|sf (aI (aI (rB (.cells [.int .i64 k0] [])) (aI (rW []) (aI (xR [0] (.int .i64 k0) trivial) trivial))) trivial)<|sf (aI (aI (rW []) (aI (xR [0] (.int .i64 r1.2) trivial) trivial)) trivial)<|sf (xR [0] (.bool r1.1) trivial)<|r
 rcases aQ h with⟨c2,h⟩|⟨c2,h⟩
 ·obtain rfl:=lf h
  have z:=p3<|sg 0 c2<|en (aI (rP (.bool false))<|aI trivial<|aI (rL [.cells [.int .i64 r1.2] []])<|(aI (aI trivial trivial) trivial))
  exact C.evGp (A:=Gj) mixed (m:=1) (c:=KW) rfl call64 func64 rfl z<|by kernel_rfl
 ·obtain⟨o9,bo9,h⟩:=cP h
  rcases o9 with o9|o9
  ·obtain rfl:=lf h
   have z:=p3<|sg 0 c2<|sv (bw e)<|sv (bz e)<|bW (jt.ln e.Kids)<|du (e:=.ret) (s1:=dt e (.inl o9)) (j3 R55 e e.Kids (e.Kids.length:Int) 0 r1.2 hR55 bo9)<|en (aI (rP (.bool false))<|aI trivial<|aI (rL [.cells [.int .i64 o9] []])<|(aI (aI trivial trivial) trivial))
   exact C.evGp (A:=Gj) mixed (m:=1) (c:=KW) rfl call64 func64 rfl z<|by kernel_rfl
  ·obtain⟨o15,bo15,h⟩:=cP h
   rcases o15 with o15|o15
   ·obtain rfl:=lf h
    have z:=p3<|sg 0 c2<|sv (bw e)<|sv (bz e)<|bW (jt.ln e.Kids)<|du (e:=.exit 0) (s1:=dt e (.inr o9)) (j3 R55 e e.Kids (e.Kids.length:Int) 0 r1.2 hR55 bo9)<|sv (aK e)<|sv (aL e)<|bW (fO.ln e.Alts)<|du (e:=.ret) (s1:=ea (.inl o15)) (oc R55 e.Alts (e.Alts.length:Int) 0 o9 hR55 bo15)<|en (aI (rP (.bool false))<|aI trivial<|aI (rL [.cells [.int .i64 o15] []])<|(aI (aI trivial trivial) trivial))
    exact C.evGp (A:=Gj) mixed (m:=1) (c:=KW) rfl call64 func64 rfl z<|by kernel_rfl
   ·obtain rfl:=lf h
    have z:=p3<|sg 0 c2<|sv (bw e)<|sv (bz e)<|bW (jt.ln e.Kids)<|du (e:=.exit 0) (s1:=dt e (.inr o9)) (j3 R55 e e.Kids (e.Kids.length:Int) 0 r1.2 hR55 bo9)<|sv (aK e)<|sv (aL e)<|bW (fO.ln e.Alts)<|du (e:=.exit 2) (s1:=ea (.inr o15)) (oc R55 e.Alts (e.Alts.length:Int) 0 o9 hR55 bo15)<|en (aI (rP (.bool true))<|aI trivial<|aI (rL [.cells [.int .i64 o15] []])<|(aI (aI trivial trivial) trivial))
    exact C.evGp (A:=Gj) mixed (m:=1) (c:=KW) rfl call64 func64 rfl z<|by kernel_rfl
def rI:((ag×Int)->Option (Bool×Int))->(ag×Int)->Option (Bool×Int):=fun(rec:(ag×Int)->Option (Bool×Int)) (x:ag×Int)=>rH (fun e k0=>rec (e,k0)) x.1 x.2
def uq(e:ag)(k0:Int):Option (Bool×Int):=tn rI (e,k0)
theorem zO{e:ag}{k0:Int}{r:Bool×Int}(h:uq e k0=some r):C Pg GE 64 [.agg (ae e),.func (.func 68) [] [.bptr 0 0]] [] [.cells [.int .i64 k0] []] (.bool r.1) [] [.cells [.int .i64 r.2] []]:=
 fj (F:=rI) (M:=fun(x:ag×Int) (r:Bool×Int)=>C Pg GE 64 [.agg (ae x.1),.func (.func 68) [] [.bptr 0 0]] [] [.cells [.int .i64 x.2] []] (.bool r.1) [] [.cells [.int .i64 r.2] []]) (fun rec hrec x r h=>yU _ (fun e k0 r h=>hrec (e,k0) r h) h) h
noncomputable def qbp:Code:=f19.body.getD .skip
def qa3:List Nat:=[]
theorem Z19:ZF qa3 19 f19 qbp:=⟨call19,func19,rfl⟩
def zK(e:ag):Option Int:=
 (uq e 0).bind fun r1=>
 some r1.2
theorem Af{e:ag}{r:Int}(h:zK e=some r):CC Pg GE 19 [.agg (ae e)] (.int .i64 r) []:=by
 obtain⟨r1,br1,h⟩:=cP h
 obtain rfl:=lf h
 have z:=se (dy e)<|sx qbP<|ss<|sv (b9 e)<|si (.cg ⟨[1],[.agg (ae e),.func (.func 68) [] [.bptr 0 0]],[],[.cells [.int .i64 0] []],[.cells [.int .i64 0] []],[.cells [.int .i64 r1.2] []],[.cells [.int .i64 r1.2] []],.bool r1.1,.bool r1.1,[]⟩) (zO br1)<|sf (aI (xR [1] (.agg (ae e)) (ay e)) (aI (xF [1] (.func 68) [] [.bptr 1 0] [] [.bptr 0 0] trivial (aI (xB [1] 0 1 0 rfl) trivial)) trivial))<|sf (aI (aI (rB (.cells [.int .i64 0] [])) (aI (rW []) (aI (xR [1] (.int .i64 0) trivial) trivial))) trivial)<|sf (aI (aI (rW []) (aI (xR [1] (.int .i64 r1.2) trivial) trivial)) trivial)<|sf (xR [1] (.bool r1.1) trivial)<|ss<|en (aI (rP (.int .i64 r1.2))<|trivial)
 exact Z19.v (aI (ay e) trivial) z<|by kernel_rfl
abbrev nc:=(ag->Option Int)
abbrev nb(R:nc):Prop:=∀(e:ag) (r:Int),R e=some r->CC Pg GE 21 [.agg (ae e)] (.int .i64 r) []
noncomputable def X8:Code:=f21.body.getD .skip
def XQ:List Nat:=[]
theorem Z21:ZF XQ 21 f21 X8:=⟨call21,func21,rfl⟩
section
variable(R57:nc)(e:ag)(t9:waF)(t10:Int)(n:Int)(t11:Int)
def mP:aB:=bg 35 [(1,.eptr (ae e)),(3,.int .i64 n),(9,sl ae t9),(10,.int .i64 t10),(11,.int .i64 t11)] [.dead] []
def qD(o:Int):aB:=bg 35 [(1,.eptr (ae e)),(3,.int .i64 o)] [.dead] []
def xn:Option ((Int×Int)⊕(Int)):=
 if(decide (t11<t10))=true then
  (gn t9 t11).bind fun x2=>
  (R57 x2).bind fun r3=>
  some (.inl ((if r3>n then r3 else n),bV (t11+1)))
 else
  some (.inr n)
def Ac:Option Int:=loop (fun(zz:Int×Int)=>xn R57 t9 t10 zz.1 zz.2) (n,t11)
theorem CR(hR57:nb R57){y:(Int×Int)⊕(Int)}(h:xn R57 t9 t10 n t11=some y):bh Pg GE 0 (cA X8 119) (LQ (fun(zz:Int×Int)=>mP e t9 t10 zz.1 zz.2) (fun _=>.exit 0) (qD e) y) (mP e t9 t10 n t11):=by
 rcases aQ h with⟨c1,h⟩|⟨c1,h⟩
 ·obtain⟨x2,bx2,r3,br3,h⟩:=Zb2 h
  obtain rfl:=lf h
  have z:=sg 0 c1<|sv (jt.ia (k:=.i64) bx2)<|sv (b9 x2)<|sx zB<|sx (lb x2)<|sv (ce x2 [])<|dj (hR57 _ _ br3)<|ue 0 .normal (mP e t9 t10 (if r3>n then r3 else n) (bV (t11+1))) rfl (dU (aI (aZ (ay e)) (aI trivial (aI (up (ak ay t9)) (aI trivial (aI trivial trivial)))))) (aI trivial trivial)
  exact ed (A:=XQ) mixed z<|by kernel_rfl
 ·obtain rfl:=lf h
  have z:=sg 0 c1<|eF (.exit 0) (qD e n)
  exact jy XQ (Zn rfl) z<|by kernel_rfl
theorem Ej(hR57:nb R57){x:Int}(h:Ac R57 t9 t10 n t11=some x):bh Pg GE 0 (.loop (cA X8 119)) (EX (.exit 0) (qD e x)) (mP e t9 t10 n t11):=
 ZL h fun _ _ hy=>CR _ _ _ _ _ _ hR57 hy
end
section
variable(R57:nc)(t21:waD)(t22:Int)(n:Int)(t23:Int)
def mQ:aB:=bg 35 [(3,.int .i64 n),(21,sl aA t21),(22,.int .i64 t22),(23,.int .i64 t23)] [.dead] []
def qE(o:Int):aB:=bg 35 [(3,.int .i64 o)] [.dead] []
def xo:Option ((Int×Int)⊕(Int)):=
 if(decide (t23<t22))=true then
  (gn t21 t23).bind fun x6=>
  (R57 x6.Body).bind fun r7=>
  some (.inl ((if r7>n then r7 else n),bV (t23+1)))
 else
  some (.inr n)
def Ad:Option Int:=loop (fun(zz:Int×Int)=>xo R57 t21 t22 zz.1 zz.2) (n,t23)
theorem CS(hR57:nb R57){y:(Int×Int)⊕(Int)}(h:xo R57 t21 t22 n t23=some y):bh Pg GE 0 (cA X8 247) (LQ (fun(zz:Int×Int)=>mQ t21 t22 zz.1 zz.2) (fun _=>.exit 2) qE y) (mQ t21 t22 n t23):=by
 rcases aQ h with⟨c5,h⟩|⟨c5,h⟩
 ·obtain⟨x6,bx6,r7,br7,h⟩:=Zb2 h
  obtain rfl:=lf h
  have z:=sg 0 c5<|sv (fO.ia (k:=.i64) bx6)<|sv (mH x6)<|sx G4<|sx (jz x6)<|sv (ce x6.Body [])<|dj (hR57 _ _ br7)<|ue 0 .normal (mQ t21 t22 (if r7>n then r7 else n) (bV (t23+1))) rfl (dU (aI trivial (aI (up (ak bK t21)) (aI trivial (aI trivial trivial))))) (aI trivial trivial)
  exact ed (A:=XQ) mixed z<|by kernel_rfl
 ·obtain rfl:=lf h
  have z:=sg 0 c5<|eF (.exit 2) (qE n)
  exact jy XQ (Zn rfl) z<|by kernel_rfl
theorem Ek(hR57:nb R57){x:Int}(h:Ad R57 t21 t22 n t23=some x):bh Pg GE 0 (.loop (cA X8 247)) (EX (.exit 2) (qE x)) (mQ t21 t22 n t23):=
 ZL h fun _ _ hy=>CS _ _ _ _ _ hR57 hy
end
def BK(R57:nc)(e:ag):Option Int:=
 (Ac R57 e.Kids (e.Kids.length:Int) 0 0).bind fun o4=>
 (Ad R57 e.Alts (e.Alts.length:Int) o4 0).bind fun o8=>
 some (bV (o8+1))
theorem Ha(R57:nc)(hR57:nb R57){e:ag}{r:Int}(h:BK R57 e=some r):CC Pg GE 21 [.agg (ae e)] (.int .i64 r) []:=by
 obtain⟨o4,bo4,o8,bo8,h⟩:=Zb2 h
 obtain rfl:=lf h
 have z:=se (dy e)<|sv (bw e)<|sv (bz e)<|bW (jt.ln e.Kids)<|du (Ej R57 e e.Kids (e.Kids.length:Int) 0 0 hR57 bo4)<|sv (aK e)<|sv (aL e)<|bW (fO.ln e.Alts)<|du (Ek R57 e.Alts (e.Alts.length:Int) o4 0 hR57 bo8)<|en (aI (rP (.int .i64 (bV (o8+1))))<|trivial)
 exact Z21.v (aI (ay e) trivial) z<|by kernel_rfl
def BL:(ag->Option Int)->(ag)->Option Int:=fun(rec:ag->Option Int) (x:ag)=>BK (fun e=>rec e) x
def zJ(e:ag):Option Int:=tn BL e
theorem Ae{e:ag}{r:Int}(h:zJ e=some r):CC Pg GE 21 [.agg (ae e)] (.int .i64 r) []:=
 fj (F:=BL) (M:=fun(x:ag) (r:Int)=>CC Pg GE 21 [.agg (ae x)] (.int .i64 r) []) (fun rec hrec x r h=>Ha _ (fun e r h=>hrec e r h) h) h
abbrev gv:=(ag->Int->Option (Bool×Int))
abbrev gr(R:gv):Prop:=∀(e:ag) (k0:Int) (r:Bool×Int),R e k0=some r->C Pg GE 64 [.agg (ae e),.func (.func 65) [] [.bptr 0 0]] [] [.cells [.int .i64 k0] []] (.bool r.1) [] [.cells [.int .i64 r.2] []]
noncomputable def Vk:Code:=f116.body.getD .skip
def Ao:List Nat:=[]
theorem Z116:ZF Ao 116 f116 Vk:=⟨call116,func116,rfl⟩
section
variable(t4:Int)
def Ey:aB:=bg 56 [(2,.bptr 0 0),(4,.int .i64 t4)] [.cells [.bool false,.bool false,.int .i64 0,.int .i64 0,.bool false,.bool false,.int .i64 0,.int .i64 0,.bool false] []] []
def pG(o:Bool):aB:=bg 56 [(2,.bptr 0 0),(4,.int .i64 t4),(5,.bool o)] [.cells [.bool false,.bool false,.int .i64 0,.int .i64 0,.bool false,.bool false,.int .i64 0,.int .i64 0,.bool false] []] []
def yP:Option Bool:=
 if(t4==1)=true then
  some (t4==1)
 else
  some (t4==2)
theorem C0{x:Bool}(h:yP t4=some x):bh Pg GE 0 (cA Vk 54) (EX .normal (pG t4 x)) (Ey t4):=by
 rcases aQ h with⟨c1,h⟩|⟨c1,h⟩
 ·obtain rfl:=lf h
  exact bF Ao (sg 0 c1<|eF .normal (pG t4 (t4==1)))<|by kernel_rfl
 ·obtain rfl:=lf h
  exact bF Ao (sg 0 c1<|eF .normal (pG t4 (t4==2)))<|by kernel_rfl
end
section
variable(t4:Int)
def Ez:aB:=bg 56 [(2,.bptr 0 0),(4,.int .i64 t4)] [.cells [.bool false,.bool false,.int .i64 0,.int .i64 0,.bool false,.bool false,.int .i64 0,.int .i64 0,.bool false] []] []
def cH(o:Bool):aB:=bg 56 [(2,.bptr 0 0),(4,.int .i64 t4),(30,.bool o)] [.cells [.bool false,.bool false,.int .i64 0,.int .i64 0,.bool false,.bool false,.int .i64 0,.int .i64 0,.bool false] []] []
def yQ:Option Bool:=
 if(t4==10)=true then
  some (t4==10)
 else
  if(t4==11)=true then
   some (t4==11)
  else
   if(t4==12)=true then
    some (t4==12)
   else
    if(t4==13)=true then
     some (t4==13)
    else
     if(t4==14)=true then
      some (t4==14)
     else
      if(t4==16)=true then
       some (t4==16)
      else
       if(t4==17)=true then
        some (t4==17)
       else
        if(t4==18)=true then
         some (t4==18)
        else
         if(t4==19)=true then
          some (t4==19)
         else
          if(t4==20)=true then
           some (t4==20)
          else
           some (t4==24)
theorem C1 {x:Bool} (h:yQ t4 = some x) :bh Pg GE 0 (cA Vk 3670014) (EX .normal (cH t4 x)) (Ez t4):=by
 rcases aQ h with⟨c19,h⟩|⟨c19,h⟩
 ·obtain rfl:=lf h
  exact bF Ao (sg 0 c19<|eF .normal (cH t4 (t4==10)))<|by kernel_rfl
 ·rcases aQ h with⟨c20,h⟩|⟨c20,h⟩
  ·obtain rfl:=lf h
   exact bF Ao (sg 0 c19<|sg 0 c20<|eF .normal (cH t4 (t4==11)))<|by kernel_rfl
  ·have p22:=fun{sc F} (r:PS sc F)=>sg 0 c19<|sg 0 c20<|r
   rcases aQ h with⟨c21,h⟩|⟨c21,h⟩
   ·obtain rfl:=lf h
    exact bF Ao (p22<|sg 0 c21<|eF .normal (cH t4 (t4==12)))<|by kernel_rfl
   ·have p24:=fun{sc F} (r:PS sc F)=>p22<|sg 0 c21<|r
    rcases aQ h with⟨c23,h⟩|⟨c23,h⟩
    ·obtain rfl:=lf h
     exact bF Ao (p24<|sg 0 c23<|eF .normal (cH t4 (t4==13)))<|by kernel_rfl
    ·have p26:=fun{sc F} (r:PS sc F)=>p24<|sg 0 c23<|r
     rcases aQ h with⟨c25,h⟩|⟨c25,h⟩
     ·obtain rfl:=lf h
      exact bF Ao (p26<|sg 0 c25<|eF .normal (cH t4 (t4==14)))<|by kernel_rfl
     ·have p28:=fun{sc F} (r:PS sc F)=>p26<|sg 0 c25<|r
      rcases aQ h with⟨c27,h⟩|⟨c27,h⟩
      ·obtain rfl:=lf h
       exact bF Ao (p28<|sg 0 c27<|eF .normal (cH t4 (t4==16)))<|by kernel_rfl
      ·have p30:=fun{sc F} (r:PS sc F)=>p28<|sg 0 c27<|r
       rcases aQ h with⟨c29,h⟩|⟨c29,h⟩
       ·obtain rfl:=lf h
        exact bF Ao (p30<|sg 0 c29<|eF .normal (cH t4 (t4==17)))<|by kernel_rfl
       ·have p32:=fun{sc F} (r:PS sc F)=>p30<|sg 0 c29<|r
        rcases aQ h with⟨c31,h⟩|⟨c31,h⟩
        ·obtain rfl:=lf h
         exact bF Ao (p32<|sg 0 c31<|eF .normal (cH t4 (t4==18)))<|by kernel_rfl
        ·have p34:=fun{sc F} (r:PS sc F)=>p32<|sg 0 c31<|r
         rcases aQ h with⟨c33,h⟩|⟨c33,h⟩
         ·obtain rfl:=lf h
          exact bF Ao (p34<|sg 0 c33<|eF .normal (cH t4 (t4==19)))<|by kernel_rfl
         ·have p36:=fun{sc F} (r:PS sc F)=>p34<|sg 0 c33<|r
          rcases aQ h with⟨c35,h⟩|⟨c35,h⟩
          ·obtain rfl:=lf h
           exact bF Ao (p36<|sg 0 c35<|eF .normal (cH t4 (t4==20)))<|by kernel_rfl
          ·obtain rfl:=lf h
           exact bF Ao (p36<|sg 0 c35<|eF .normal (cH t4 (t4==24)))<|by kernel_rfl
end
section
variable(t4:Int)
def EA:aB:=bg 56 [(2,.bptr 0 0),(4,.int .i64 t4)] [.cells [.bool false,.bool false,.int .i64 0,.int .i64 0,.bool false,.bool false,.int .i64 0,.int .i64 0,.bool false] []] []
def jH(o:Bool):aB:=bg 56 [(2,.bptr 0 0),(4,.int .i64 t4),(43,.bool o)] [.cells [.bool false,.bool false,.int .i64 0,.int .i64 0,.bool false,.bool false,.int .i64 0,.int .i64 0,.bool false] []] []
def yR:Option Bool:=
 if(t4==15)=true then
  some (t4==15)
 else
  if(t4==21)=true then
   some (t4==21)
  else
   if(t4==22)=true then
    some (t4==22)
   else
    some (t4==23)
theorem C2{x:Bool}(h:yR t4=some x):bh Pg GE 0 (cA Vk 14680062) (EX .normal (jH t4 x)) (EA t4):=by
 rcases aQ h with⟨c40,h⟩|⟨c40,h⟩
 ·obtain rfl:=lf h
  exact bF Ao (sg 0 c40<|eF .normal (jH t4 (t4==15)))<|by kernel_rfl
 ·rcases aQ h with⟨c41,h⟩|⟨c41,h⟩
  ·obtain rfl:=lf h
   exact bF Ao (sg 0 c40<|sg 0 c41<|eF .normal (jH t4 (t4==21)))<|by kernel_rfl
  ·have p43:=fun{sc F} (r:PS sc F)=>sg 0 c40<|sg 0 c41<|r
   rcases aQ h with⟨c42,h⟩|⟨c42,h⟩
   ·obtain rfl:=lf h
    exact bF Ao (p43<|sg 0 c42<|eF .normal (jH t4 (t4==22)))<|by kernel_rfl
   ·obtain rfl:=lf h
    exact bF Ao (p43<|sg 0 c42<|eF .normal (jH t4 (t4==23)))<|by kernel_rfl
end
def DA (op:Int):Option (av×Bool) :=
 (yP op).bind fun o2=>
 if o2=true then
  some ((⟨true,false,0,0,false,false,0,0,false⟩:av),true)
 else
  if(op==3)=true then
   some ((⟨false,true,0,0,false,false,0,0,false⟩:av),true)
  else
   if(op==4)=true then
    some ((⟨false,true,0,6,false,false,0,1073741824,true⟩:av),true)
   else
    if(op==5)=true then
     some ((⟨false,true,1,6,false,false,0,1073741824,true⟩:av),true)
    else
     if(op==6)=true then
      some ((⟨false,false,1,1,true,false,0,0,false⟩:av),true)
     else
      if(op==7)=true then
       some ((⟨false,true,2,2,false,false,0,1,true⟩:av),true)
      else
       if(op==8)=true then
        some ((⟨false,false,3,3,false,false,0,0,false⟩:av),true)
       else
        if(op==9)=true then
         some ((⟨false,false,1,1,false,true,0,0,false⟩:av),true)
        else
         (yQ op).bind fun o37=>
         if o37=true then
          some ((⟨false,false,2,2,false,false,0,0,false⟩:av),true)
         else
          (yR op).bind fun o44=>
          if o44=true then
           some ((⟨false,false,1,1,false,false,0,0,false⟩:av),true)
          else
           if(op==25)=true then
            some ((⟨false,true,2,7,false,false,0,0,false⟩:av),true)
           else
            if(op==26)=true then
             some ((⟨false,false,1,1,false,false,1,1,true⟩:av),true)
            else
             some ((⟨false,false,0,0,false,false,0,0,false⟩:av),false)
theorem Hk {op:Int} {r:av×Bool} (h:DA op = some r):CC Pg GE 116 [.int .i64 op] (.tuple [.agg (aD r.1),.bool r.2]) []:=by
 obtain⟨o2,bo2,h⟩:=cP h
 have p4:=fun{sc F} (r:PS sc F)=>sx Wy<|rh 2<|du (C0 op bo2)<|r
 rcases aQ h with⟨c3,h⟩|⟨c3,h⟩
 ·obtain rfl:=lf h
  have z:=p4<|sg 0 c3<|sv (ER true)<|sx (cD (⟨true,false,0,0,false,false,0,0,false⟩:av))<|en (aI (va9 PVal.tuple (jO (cQ (⟨true,false,0,0,false,false,0,0,false⟩:av)) (jO (rP (.bool true)) (rfl:([]:List PVal)=[]))))<|(aI (bJ (⟨true,false,0,0,false,false,0,0,false⟩:av)) (aI trivial trivial)))
  exact Z116.v (aI trivial trivial) z<|by kernel_rfl
 ·have p6:=fun{sc F} (r:PS sc F)=>p4<|sg 0 c3<|r
  rcases aQ h with⟨c5,h⟩|⟨c5,h⟩
  ·obtain rfl:=lf h
   have z:=p6<|sg 0 c5<|sv (ES true)<|sx (cD (⟨false,true,0,0,false,false,0,0,false⟩:av))<|en (aI (va9 PVal.tuple (jO (cQ (⟨false,true,0,0,false,false,0,0,false⟩:av)) (jO (rP (.bool true)) (rfl:([]:List PVal)=[]))))<|(aI (bJ (⟨false,true,0,0,false,false,0,0,false⟩:av)) (aI trivial trivial)))
   exact Z116.v (aI trivial trivial) z<|by kernel_rfl
  ·have p8:=fun{sc F} (r:PS sc F)=>p6<|sg 0 c5<|r
   rcases aQ h with⟨c7,h⟩|⟨c7,h⟩
   ·obtain rfl:=lf h
    have z:=p8<|sg 0 c7<|sv (yg true 6 true 1073741824)<|sx (cD (⟨false,true,0,6,false,false,0,1073741824,true⟩:av))<|en (aI (va9 PVal.tuple (jO (cQ (⟨false,true,0,6,false,false,0,1073741824,true⟩:av)) (jO (rP (.bool true)) (rfl:([]:List PVal)=[]))))<|(aI (bJ (⟨false,true,0,6,false,false,0,1073741824,true⟩:av)) (aI trivial trivial)))
    exact Z116.v (aI trivial trivial) z<|by kernel_rfl
   ·have p10:=fun{sc F} (r:PS sc F)=>p8<|sg 0 c7<|r
    rcases aQ h with⟨c9,h⟩|⟨c9,h⟩
    ·obtain rfl:=lf h
     have z:=p10<|sg 0 c9<|sv (nZ true 1 6 true 1073741824)<|sx (cD (⟨false,true,1,6,false,false,0,1073741824,true⟩:av))<|en (aI (va9 PVal.tuple (jO (cQ (⟨false,true,1,6,false,false,0,1073741824,true⟩:av)) (jO (rP (.bool true)) (rfl:([]:List PVal)=[]))))<|(aI (bJ (⟨false,true,1,6,false,false,0,1073741824,true⟩:av)) (aI trivial trivial)))
     exact Z116.v (aI trivial trivial) z<|by kernel_rfl
    ·have p12:=fun{sc F} (r:PS sc F)=>p10<|sg 0 c9<|r
     rcases aQ h with⟨c11,h⟩|⟨c11,h⟩
     ·obtain rfl:=lf h
      have z:=p12<|sg 0 c11<|sv (At true 1 1)<|sx (cD (⟨false,false,1,1,true,false,0,0,false⟩:av))<|en (aI (va9 PVal.tuple (jO (cQ (⟨false,false,1,1,true,false,0,0,false⟩:av)) (jO (rP (.bool true)) (rfl:([]:List PVal)=[]))))<|(aI (bJ (⟨false,false,1,1,true,false,0,0,false⟩:av)) (aI trivial trivial)))
      exact Z116.v (aI trivial trivial) z<|by kernel_rfl
     ·have p14:=fun{sc F} (r:PS sc F)=>p12<|sg 0 c11<|r
      rcases aQ h with⟨c13,h⟩|⟨c13,h⟩
      ·obtain rfl:=lf h
       have z:=p14<|sg 0 c13<|sv (nZ true 2 2 true 1)<|sx (cD (⟨false,true,2,2,false,false,0,1,true⟩:av))<|en (aI (va9 PVal.tuple (jO (cQ (⟨false,true,2,2,false,false,0,1,true⟩:av)) (jO (rP (.bool true)) (rfl:([]:List PVal)=[]))))<|(aI (bJ (⟨false,true,2,2,false,false,0,1,true⟩:av)) (aI trivial trivial)))
       exact Z116.v (aI trivial trivial) z<|by kernel_rfl
      ·have p16:=fun{sc F} (r:PS sc F)=>p14<|sg 0 c13<|r
       rcases aQ h with⟨c15,h⟩|⟨c15,h⟩
       ·obtain rfl:=lf h
        have z:=p16<|sg 0 c15<|sv (oe 3 3)<|sx (cD (⟨false,false,3,3,false,false,0,0,false⟩:av))<|en (aI (va9 PVal.tuple (jO (cQ (⟨false,false,3,3,false,false,0,0,false⟩:av)) (jO (rP (.bool true)) (rfl:([]:List PVal)=[]))))<|(aI (bJ (⟨false,false,3,3,false,false,0,0,false⟩:av)) (aI trivial trivial)))
        exact Z116.v (aI trivial trivial) z<|by kernel_rfl
       ·have p18:=fun{sc F} (r:PS sc F)=>p16<|sg 0 c15<|r
        rcases aQ h with⟨c17,h⟩|⟨c17,h⟩
        ·obtain rfl:=lf h
         have z:=p18<|sg 0 c17<|sv (Au true 1 1)<|sx (cD (⟨false,false,1,1,false,true,0,0,false⟩:av))<|en (aI (va9 PVal.tuple (jO (cQ (⟨false,false,1,1,false,true,0,0,false⟩:av)) (jO (rP (.bool true)) (rfl:([]:List PVal)=[]))))<|(aI (bJ (⟨false,false,1,1,false,true,0,0,false⟩:av)) (aI trivial trivial)))
         exact Z116.v (aI trivial trivial) z<|by kernel_rfl
        ·obtain⟨o37,bo37,h⟩:=cP h
         have p39:=fun{sc F} (r:PS sc F)=>p18<|sg 0 c17<|rh 0<|du (C1 op bo37)<|r
         rcases aQ h with⟨c38,h⟩|⟨c38,h⟩
         ·obtain rfl:=lf h
          have z:=p39<|sg 0 c38<|sv (oe 2 2)<|sx (cD (⟨false,false,2,2,false,false,0,0,false⟩:av))<|en (aI (va9 PVal.tuple (jO (cQ (⟨false,false,2,2,false,false,0,0,false⟩:av)) (jO (rP (.bool true)) (rfl:([]:List PVal)=[]))))<|(aI (bJ (⟨false,false,2,2,false,false,0,0,false⟩:av)) (aI trivial trivial)))
          exact Z116.v (aI trivial trivial) z<|by kernel_rfl
         ·obtain⟨o44,bo44,h⟩:=cP h
          have p46:=fun{sc F} (r:PS sc F)=>p39<|sg 0 c38<|rh 0<|du (C2 op bo44)<|r
          rcases aQ h with⟨c45,h⟩|⟨c45,h⟩
          ·obtain rfl:=lf h
           have z:=p46<|sg 0 c45<|sv (oe 1 1)<|sx (cD (⟨false,false,1,1,false,false,0,0,false⟩:av))<|en (aI (va9 PVal.tuple (jO (cQ (⟨false,false,1,1,false,false,0,0,false⟩:av)) (jO (rP (.bool true)) (rfl:([]:List PVal)=[]))))<|(aI (bJ (⟨false,false,1,1,false,false,0,0,false⟩:av)) (aI trivial trivial)))
           exact Z116.v (aI trivial trivial) z<|by kernel_rfl
          ·have p48:=fun{sc F} (r:PS sc F)=>p46<|sg 0 c45<|r
           rcases aQ h with⟨c47,h⟩|⟨c47,h⟩
           ·obtain rfl:=lf h
            have z:=p48<|sg 0 c47<|sv (As true 2 7)<|sx (cD (⟨false,true,2,7,false,false,0,0,false⟩:av))<|en (aI (va9 PVal.tuple (jO (cQ (⟨false,true,2,7,false,false,0,0,false⟩:av)) (jO (rP (.bool true)) (rfl:([]:List PVal)=[]))))<|(aI (bJ (⟨false,true,2,7,false,false,0,0,false⟩:av)) (aI trivial trivial)))
            exact Z116.v (aI trivial trivial) z<|by kernel_rfl
           ·have p50:=fun{sc F} (r:PS sc F)=>p48<|sg 0 c47<|r
            rcases aQ h with⟨c49,h⟩|⟨c49,h⟩
            ·obtain rfl:=lf h
             have z:=p50<|sg 0 c49<|sv (wu 1 1 true 1 1)<|sx (cD (⟨false,false,1,1,false,false,1,1,true⟩:av))<|en (aI (va9 PVal.tuple (jO (cQ (⟨false,false,1,1,false,false,1,1,true⟩:av)) (jO (rP (.bool true)) (rfl:([]:List PVal)=[]))))<|(aI (bJ (⟨false,false,1,1,false,false,1,1,true⟩:av)) (aI trivial trivial)))
             exact Z116.v (aI trivial trivial) z<|by kernel_rfl
            ·obtain rfl:=lf h
             have z:=p50<|sg 0 c49<|sv (ET)<|sx (cD (⟨false,false,0,0,false,false,0,0,false⟩:av))<|en (aI (va9 PVal.tuple (jO (cQ (⟨false,false,0,0,false,false,0,0,false⟩:av)) (jO (rP (.bool false)) (rfl:([]:List PVal)=[]))))<|(aI (bJ (⟨false,false,0,0,false,false,0,0,false⟩:av)) (aI trivial trivial)))
             exact Z116.v (aI trivial trivial) z<|by kernel_rfl
noncomputable def ZR:Code:=f139.body.getD .skip
def Zq:List Nat:=[]
theorem Z139:ZF Zq 139 f139 ZR:=⟨call139,func139,rfl⟩
def Ai(a:aG):Option Bool:=
 some (decide ((a.Names.length:Int)>6))
theorem En{a:aG}{r:Bool}(h:Ai a=some r):CC Pg GE 139 [.agg (aA a)] (.bool r) []:=by
 obtain rfl:=lf h
 have z:=se (Nj a)<|sv (uJ a)<|sv (uM a)<|bW (dp.ln a.Names)<|en (aI (rP (.bool (decide ((a.Names.length:Int)>6))))<|trivial)
 exact Z139.v (aI (bK a) trivial) z<|by kernel_rfl
noncomputable def W6:Code:=f158.body.getD .skip
def U4:List Nat:=[10,17]
theorem Z158:ZF U4 158 f158 W6:=⟨call158,func158,rfl⟩
section
variable(s:waD)(t7:Int)(t8:Int)
def eQ:aB:=bg 19 [(0,sl aA s),(1,.func (.func 139) [] []),(7,.int .i64 t7),(8,.int .i64 t8)] [] []
def eR(o:Int⊕(Unit)):Exit:=match o with
 |(.inl _)=>.ret
 |(.inr _)=>.exit 0
def cU(o:Int⊕(Unit)):aB:=match o with
 |(.inl o)=>bg 19 [(4,.int .i64 o)] [] []
 |(.inr o)=>bg 19 [] [] []
def li:Option (Int⊕(Int⊕(Unit))):=
 if(decide (t8<t7))=true then
  (gn s t8).bind fun x2=>
  (Ai x2).bind fun r3=>
  if r3=true then
   some (.inr (.inl t8))
  else
   some (.inl (bV (t8+1)))
 else
  some (.inr (.inr ()))
def l7:Option (Int⊕(Unit)):=loop (fun(zz:Int)=>li s t7 zz) t8
theorem qB{y:Int⊕(Int⊕(Unit))}(h:li s t7 t8=some y):bh Pg GE 0 (cA W6 55) (LQ (fun(zz:Int)=>eQ s t7 zz) eR cU y) (eQ s t7 t8):=by
 rcases aQ h with⟨c1,h⟩|⟨c1,h⟩
 ·obtain⟨x2,bx2,r3,br3,h⟩:=Zb2 h
  have p5:=fun{sc F} (r:PS sc F)=>sg 0 c1<|sv (fO.ia (k:=.i64) bx2)<|sv (mH x2)<|dj (En br3)<|r
  rcases aQ h with⟨c4,h⟩|⟨c4,h⟩
  ·obtain rfl:=lf h
   have z:=p5<|sg 0 c4<|eF (eR (.inl t8)) (cU (.inl t8))
   exact jy U4 (Zn rfl) z<|by kernel_rfl
  ·obtain rfl:=lf h
   exact AC U4 (p5<|sg 0 c4<|eF .normal (eQ s t7 (bV (t8+1))))<|by kernel_rfl
 ·obtain rfl:=lf h
  have z:=sg 0 c1<|eF (eR (.inr ())) (cU (.inr ()))
  exact jy U4 (Zn rfl) z<|by kernel_rfl
theorem kG{x:Int⊕(Unit)}(h:l7 s t7 t8=some x):bh Pg GE 0 (.loop (cA W6 55)) (EX (eR x) (cU x)) (eQ s t7 t8):=
 ZL h fun _ _ hy=>qB _ _ _ hy
end
def n8(s:waD):Option Int:=
 (l7 s (s.length:Int) 0).bind fun o6=>match o6 with
 |(.inl o6)=>
  some o6
 |(.inr o6)=>
  some (-1)
theorem tN{s:waD}{r:Int}(h:n8 s=some r):CC Pg GE 158 [sl aA s,.func (.func 139) [] []] (.int .i64 r) []:=by
 obtain⟨o6,bo6,h⟩:=cP h
 rcases o6 with o6|o6
 ·obtain rfl:=lf h
  have z:=bW (fO.ln s)<|du (e:=.ret) (s1:=cU (.inl o6)) (kG s (s.length:Int) 0 bo6)<|en (aI (rP (.int .i64 o6))<|trivial)
  exact Z158.v (aI (ak bK s) (aI (aI trivial trivial) trivial)) z<|by kernel_rfl
 ·obtain rfl:=lf h
  have z:=bW (fO.ln s)<|du (e:=.exit 0) (s1:=cU (.inr o6)) (kG s (s.length:Int) 0 bo6)<|en (aI (rP (.int .i64 (-1)))<|trivial)
  exact Z158.v (aI (ak bK s) (aI (aI trivial trivial) trivial)) z<|by kernel_rfl
noncomputable def ZQ:Code:=f138.body.getD .skip
def Zp:List Nat:=[]
theorem Z138:ZF Zp 138 f138 ZQ:=⟨call138,func138,rfl⟩
def lY(s:waD):Option Bool:=
 (n8 s).bind fun r1=>
 some (decide (r1>=0))
theorem rj{s:waD}{r:Bool}(h:lY s=some r):CC Pg GE 138 [sl aA s,.func (.func 139) [] []] (.bool r) []:=by
 obtain⟨r1,br1,h⟩:=cP h
 obtain rfl:=lf h
 have z:=dj (tN br1)<|en (aI (rP (.bool (decide (r1>=0))))<|trivial)
 exact Z138.v (aI (ak bK s) (aI (aI trivial trivial) trivial)) z<|by kernel_rfl
noncomputable def W0:Code:=f117.body.getD .skip
def Gi:List Nat:=[]
theorem Z117:ZF Gi 117 f117 W0:=⟨call117,func117,rfl⟩
section
variable(e:ag)(s:av)
def Eo:aB:=bg 69 [(2,.eptr (ae e)),(3,.eptr (aD s))] [.dead,.dead] []
def jB(o:Bool):aB:=bg 69 [(2,.eptr (ae e)),(3,.eptr (aD s)),(34,.bool o)] [.dead,.dead] []
def yK:Option Bool:=
 if(decide ((e.Kids.length:Int)<s.least))=true then
  some true
 else
  if(decide ((e.Kids.length:Int)>s.most))=true then
   some true
  else
   if(decide ((e.Types.length:Int)<s.typesLeast))=true then
    some true
   else
    some (decide ((e.Types.length:Int)>s.typesMost))
theorem CV{x:Bool}(h:yK e s=some x):bh Pg GE 0 (cA W0 12) (EX .normal (jB e s x)) (Eo e s):=by
 have p2:=fun{sc F} (r:PS sc F)=>sv (bw e)<|sv (bz e)<|bW (jt.ln e.Kids)<|sv (Aw s)<|sv (CH s)<|r
 rcases aQ h with⟨c1,h⟩|⟨c1,h⟩
 ·obtain rfl:=lf h
  exact bF Gi (p2<|sg 7 c1<|eF .normal (jB e s true))<|by kernel_rfl
 ·have p4:=fun{sc F} (r:PS sc F)=>p2<|sg 7 c1<|sv (bw e)<|sv (bz e)<|bW (jt.ln e.Kids)<|sv (Ax s)<|sv (CI s)<|r
  rcases aQ h with⟨c3,h⟩|⟨c3,h⟩
  ·obtain rfl:=lf h
   exact bF Gi (p4<|sg 15 c3<|eF .normal (jB e s true))<|by kernel_rfl
  ·have p6:=fun{sc F} (r:PS sc F)=>p4<|sg 15 c3<|sv (aM e)<|sv (aN e)<|bW (er.ln e.Types)<|sv (Az s)<|sv (CK s)<|r
   rcases aQ h with⟨c5,h⟩|⟨c5,h⟩
   ·obtain rfl:=lf h
    exact bF Gi (p6<|sg 23 c5<|eF .normal (jB e s true))<|by kernel_rfl
   ·obtain rfl:=lf h
    exact bF Gi (p6<|sg 23 c5<|sv (aM e)<|sv (aN e)<|bW (er.ln e.Types)<|sv (AA s)<|sv (CL s)<|eF .normal (jB e s (decide ((e.Types.length:Int)>s.typesMost))))<|by kernel_rfl
end
section
variable(e:ag)(s:av)
def Ep:aB:=bg 69 [(2,.eptr (ae e)),(3,.eptr (aD s))] [.dead,.dead] []
def dS(o:Bool):aB:=bg 69 [(2,.eptr (ae e)),(64,.bool o)] [.dead,.dead] []
def yL:Option Bool:=
 if s.params=true then
  if(decide ((e.Params.length:Int)<1))=true then
   some true
  else
   if(decide ((e.Params.length:Int)>6))=true then
    some true
   else
    if s.alts=true then
     if(decide ((e.Alts.length:Int)<1))=true then
      some true
     else
      some (decide ((e.Alts.length:Int)>8))
    else
     some false
 else
  if s.alts=true then
   if(decide ((e.Alts.length:Int)<1))=true then
    some true
   else
    some (decide ((e.Alts.length:Int)>8))
  else
   some false
theorem CW{x:Bool}(h:yL e s=some x):bh Pg GE 0 (cA W0 28) (EX .normal (dS e x)) (Ep e s):=by
 have p11:=fun{sc F} (r:PS sc F)=>sv (Ay s)<|sv (CJ s)<|r
 rcases aQ h with⟨c10,h⟩|⟨c10,h⟩
 ·have p13:=fun{sc F} (r:PS sc F)=>p11<|sg 3 c10<|sv (bP e)<|sv (bQ e)<|bW (mV.ln e.Params)<|r
  rcases aQ h with⟨c12,h⟩|⟨c12,h⟩
  ·obtain rfl:=lf h
   exact bF Gi (p13<|sg 8 c12<|eF .normal (dS e true))<|by kernel_rfl
  ·have p15:=fun{sc F} (r:PS sc F)=>p13<|sg 8 c12<|sv (bP e)<|sv (bQ e)<|bW (mV.ln e.Params)<|r
   rcases aQ h with⟨c14,h⟩|⟨c14,h⟩
   ·obtain rfl:=lf h
    exact bF Gi (p15<|sg 15 c14<|eF .normal (dS e true))<|by kernel_rfl
   ·have p17:=fun{sc F} (r:PS sc F)=>p15<|sg 15 c14<|sv (ry s)<|sv (ug s)<|r
    rcases aQ h with⟨c16,h⟩|⟨c16,h⟩
    ·have p19:=fun{sc F} (r:PS sc F)=>p17<|sg 18 c16<|sv (aK e)<|sv (aL e)<|bW (fO.ln e.Alts)<|r
     rcases aQ h with⟨c18,h⟩|⟨c18,h⟩
     ·obtain rfl:=lf h
      exact bF Gi (p19<|sg 23 c18<|eF .normal (dS e true))<|by kernel_rfl
     ·obtain rfl:=lf h
      exact bF Gi (p19<|sg 23 c18<|sv (aK e)<|sv (aL e)<|bW (fO.ln e.Alts)<|eF .normal (dS e (decide ((e.Alts.length:Int)>8))))<|by kernel_rfl
    ·obtain rfl:=lf h
     exact bF Gi (p17<|sg 18 c16<|eF .normal (dS e false))<|by kernel_rfl
 ·have p21:=fun{sc F} (r:PS sc F)=>p11<|sg 3 c10<|sv (ry s)<|sv (ug s)<|r
  rcases aQ h with⟨c20,h⟩|⟨c20,h⟩
  ·have p23:=fun{sc F} (r:PS sc F)=>p21<|sg 18 c20<|sv (aK e)<|sv (aL e)<|bW (fO.ln e.Alts)<|r
   rcases aQ h with⟨c22,h⟩|⟨c22,h⟩
   ·obtain rfl:=lf h
    exact bF Gi (p23<|sg 23 c22<|eF .normal (dS e true))<|by kernel_rfl
   ·obtain rfl:=lf h
    exact bF Gi (p23<|sg 23 c22<|sv (aK e)<|sv (aL e)<|bW (fO.ln e.Alts)<|eF .normal (dS e (decide ((e.Alts.length:Int)>8))))<|by kernel_rfl
  ·obtain rfl:=lf h
   exact bF Gi (p21<|sg 18 c20<|eF .normal (dS e false))<|by kernel_rfl
end
def Dz(e:ag)(s:av):Option Bool:=
 (yK e s).bind fun o7=>
 if o7=true then
  some false
 else
  (yL e s).bind fun o24=>
  if o24=true then
   some false
  else
   (lY e.Alts).bind fun r27=>
   some (!r27)
theorem Hf{e:ag}{s:av}{r:Bool}(h:Dz e s=some r):CC Pg GE 117 [.agg (ae e),.agg (aD s)] (.bool r) []:=by
 obtain⟨o7,bo7,h⟩:=cP h
 have p9:=fun{sc F} (r:PS sc F)=>se (dy e)<|se (z6 s)<|rh 1<|du (CV e s bo7)<|r
 rcases aQ h with⟨c8,h⟩|⟨c8,h⟩
 ·obtain rfl:=lf h
  have z:=p9<|sg 0 c8<|en (aI (rP (.bool false))<|trivial)
  exact Z117.v (aI (ay e) (aI (bJ s) trivial)) z<|by kernel_rfl
 ·obtain⟨o24,bo24,h⟩:=cP h
  have p26:=fun{sc F} (r:PS sc F)=>p9<|sg 0 c8<|rh 1<|du (CW e s bo24)<|r
  rcases aQ h with⟨c25,h⟩|⟨c25,h⟩
  ·obtain rfl:=lf h
   have z:=p26<|sg 0 c25<|en (aI (rP (.bool false))<|trivial)
   exact Z117.v (aI (ay e) (aI (bJ s) trivial)) z<|by kernel_rfl
  ·obtain⟨r27,br27,h⟩:=cP h
   obtain rfl:=lf h
   have z:=p26<|sg 0 c25<|sv (aK e)<|sv (aL e)<|dj (rj br27)<|en (aI (rP (.bool (!r27)))<|trivial)
   exact Z117.v (aI (ay e) (aI (bJ s) trivial)) z<|by kernel_rfl
noncomputable def ZJ:Code:=f118.body.getD .skip
def Zh:List Nat:=[]
theorem Z118:ZF Zh 118 f118 ZJ:=⟨call118,func118,rfl⟩
def Uo(n:Int):Option Bool:=
 if(decide (n>=(-1000000000000)))=true then
  some (decide (n<=1000000000000))
 else
  some false
theorem Sg{n:Int}{r:Bool}(h:Uo n=some r):CC Pg GE 118 [.int .i64 n] (.bool r) []:=by
 rcases aQ h with⟨c1,h⟩|⟨c1,h⟩
 ·obtain rfl:=lf h
  have z:=sg 3 c1<|en (aI (rP (.bool (decide (n<=1000000000000))))<|trivial)
  exact Z118.v (aI trivial trivial) z<|by kernel_rfl
 ·obtain rfl:=lf h
  have z:=sg 3 c1<|en (aI (rP (.bool false))<|trivial)
  exact Z118.v (aI trivial trivial) z<|by kernel_rfl
noncomputable def W7:Code:=f159.body.getD .skip
def U5:List Nat:=[]
theorem Z159:ZF U5 159 f159 W7:=⟨call159,func159,rfl⟩
section
variable(t7:waA)(t8:Int)(t9:Int)(m0:(List (af×Bool)))
def kL:aB:=bg 19 [(3,.mapr 0),(7,sl cS t7),(8,.int .i64 t8),(9,.int .i64 t9)] [.map (aJ PVal.bool m0)] []
def kM(o:((List (af×Bool)))⊕((List (af×Bool)))):Exit:=match o with
 |(.inl _)=>.ret
 |(.inr _)=>.exit 0
def f9(o:((List (af×Bool)))⊕((List (af×Bool)))):aB:=match o with
 |(.inl o)=>bg 19 [(2,.bool false)] [.map (aJ PVal.bool o)] []
 |(.inr o)=>bg 19 [] [.map (aJ PVal.bool o)] []
def ui:Option ((Int×(List (af×Bool)))⊕(((List (af×Bool)))⊕((List (af×Bool))))):=
 if(decide (t9<t8))=true then
  (gn t7 t9).bind fun x2=>
  if((wx m0 x2).getD false)=true then
   some (.inr (.inl m0))
  else
   some (.inl (bV (t9+1),ri m0 x2 true))
 else
  some (.inr (.inr m0))
def xd:Option (((List (af×Bool)))⊕((List (af×Bool)))):=loop (fun(zz:Int×(List (af×Bool)))=>ui t7 t8 zz.1 zz.2) (t9,m0)
theorem AB{y:(Int×(List (af×Bool)))⊕(((List (af×Bool)))⊕((List (af×Bool))))}(h:ui t7 t8 t9 m0=some y):bh Pg GE 0 (cA W7 119) (LQ (fun(zz:Int×(List (af×Bool)))=>kL t7 t8 zz.1 zz.2) kM f9 y) (kL t7 t8 t9 m0):=by
 rcases aQ h with⟨c1,h⟩|⟨c1,h⟩
 ·obtain⟨x2,bx2,h⟩:=cP h
  have p4:=fun{sc F} (r:PS sc F)=>sg 0 c1<|sv (dp.ia (k:=.i64) bx2)<|sv (cY ED (.str x2) [])<|sv (M8 (f:=PVal.bool) underlying124 underlying9 Ze m0 x2)<|r
  rcases aQ h with⟨c3,h⟩|⟨c3,h⟩
  ·obtain rfl:=lf h
   have z:=p4<|sg 0 c3<|eF (kM (.inl m0)) (f9 (.inl m0))
   exact jy U5 (Zn rfl) z<|by kernel_rfl
  ·obtain rfl:=lf h
   exact AC U5 (p4<|sg 0 c3<|qaF (P4 (f:=PVal.bool) underlying124 underlying9 m0 x2 true)<|eF .normal (kL t7 t8 (bV (t9+1)) (ri m0 x2 true)))<|by kernel_rfl
 ·obtain rfl:=lf h
  have z:=sg 0 c1<|eF (kM (.inr m0)) (f9 (.inr m0))
  exact jy U5 (Zn rfl) z<|by kernel_rfl
theorem tr{x:((List (af×Bool)))⊕((List (af×Bool)))}(h:xd t7 t8 t9 m0=some x):bh Pg GE 0 (.loop (cA W7 119)) (EX (kM x) (f9 x)) (kL t7 t8 t9 m0):=
 ZL h fun _ _ hy=>AB _ _ _ _ hy
end
def Bt(a:waA):Option Bool:=
 (xd a (a.length:Int) 0 ([]:List (af×Bool))).bind fun o5=>match o5 with
 |(.inl o5)=>
  some false
 |(.inr o5)=>
  some true
theorem Fh{a:waA}{r:Bool}(h:Bt a=some r):CC Pg GE 159 [sl cS a] (.bool r) []:=by
 obtain⟨o5,bo5,h⟩:=cP h
 rcases o5 with o5|o5
 ·obtain rfl:=lf h
  have z:=bW (dp.ln a)<|du (e:=.ret) (s1:=f9 (.inl o5)) (tr a (a.length:Int) 0 ([]:List (af×Bool)) bo5)<|en (aI (rP (.bool false))<|trivial)
  exact Z159.v (aI (ak bD a) trivial) z<|by kernel_rfl
 ·obtain rfl:=lf h
  have z:=bW (dp.ln a)<|du (e:=.exit 0) (s1:=f9 (.inr o5)) (tr a (a.length:Int) 0 ([]:List (af×Bool)) bo5)<|en (aI (rP (.bool true))<|trivial)
  exact Z159.v (aI (ak bD a) trivial) z<|by kernel_rfl
noncomputable def ZS:Code:=f140.body.getD .skip
def Zr:List Nat:=[]
theorem Z140:ZF Zr 140 f140 ZS:=⟨call140,func140,rfl⟩
def uY(a:waA):Option Bool:=
 (Bt a).bind fun r1=>
 some (!r1)
theorem tV{a:waA}{r:Bool}(h:uY a=some r):CC Pg GE 140 [sl cS a] (.bool r) []:=by
 obtain⟨r1,br1,h⟩:=cP h
 obtain rfl:=lf h
 have z:=dj (Fh br1)<|en (aI (rP (.bool (!r1)))<|trivial)
 exact Z140.v (aI (ak bD a) trivial) z<|by kernel_rfl
end Go.Proofs.YtkdahfeiedaahaaGreatDoor
