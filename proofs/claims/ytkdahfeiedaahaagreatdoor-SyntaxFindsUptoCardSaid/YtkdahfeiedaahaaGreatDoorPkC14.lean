/- PROVED: a part of the proof. Conditions: none. -/
import Derived.Test.YtkdahfeiedaahaaGreatDoorPkC13
noncomputable section
namespace Go.Proofs.YtkdahfeiedaahaaGreatDoor
open Go Go.Proofs.Tryz
set_option linter.unusedVariables false
set_option maxRecDepth 100000
section
variable(R55:fI)(e:ag)(t14:waH)(t15:Int)(t16:Int)(m:Int)
def eK:aA:=bg 38 [(1,.func (.func 68) [] [.bptr 0 0]),(2,.eptr (af e)),(14,sl af t14),(15,.int .i64 t15),(16,.int .i64 t16)] [.cells [.int .i64 m] [],.dead] []
def eL(o:Int⊕(Int)):Exit:=match o with
 |(.inl _)=>.ret
 |(.inr _)=>.exit 0
def cU(o:Int⊕(Int)):aA:=match o with
 |(.inl o)=>bg 38 [(4,.bool false)] [.cells [.int .i64 o] [],.dead] []
 |(.inr o)=>bg 38 [(1,.func (.func 68) [] [.bptr 0 0]),(2,.eptr (af e))] [.cells [.int .i64 o] [],.dead] []
def nR:Option ((Int×Int)⊕(Int⊕(Int))):=
 if(decide (t16<t15))=true then
  (fJ t14 t16).bind fun x5=>
  (R55 x5 m).bind fun r6=>
  if(!r6.1)=true then
   some (.inr (.inl r6.2))
  else
   some (.inl (ca (t16+1),r6.2))
 else
  some (.inr (.inr m))
def pT:Option (Int⊕(Int)):=loop (fun(zz:Int×Int)=>nR R55 t14 t15 zz.1 zz.2) (t16,m)
theorem tV(hR55:fG R55){y:(Int×Int)⊕(Int⊕(Int))}(h:nR R55 t14 t15 t16 m=some y):aQ Pg GE 1 (cA Gt 119) (LQ (fun(zz:Int×Int)=>eK e t14 t15 zz.1 zz.2) eL (cU e) y) (eK e t14 t15 t16 m):=by
 rcases aN h with⟨c4,h⟩|⟨c4,h⟩
 ·obtain⟨x5,bx5,h⟩:=aG h
  obtain⟨r6,br6,h⟩:=aG h
  have p8:=fun{sc F} (r:PS sc F)=>sg 0 c4<|sv (iJ.ia (k:=.i64) bx5)<|sv (cu x5)<|sx yx<|sx (ly x5)<|sv (b8 x5 [])<|si (.cg ⟨[0],[.agg (af x5),.func (.func 68) [] [.bptr 0 0]],[],[.cells [.int .i64 m] []],[.cells [.int .i64 m] []],[.cells [.int .i64 r6.2] []],[.cells [.int .i64 r6.2] []],.bool r6.1,.bool r6.1,[]⟩) (hR55 _ _ _ br6)<|sf (aI (xR [0] (.agg (af x5)) (az x5)) (aI (xF [0] (.func 68) [] [.bptr 0 0] [] [.bptr 0 0] trivial (aI (xB [0] 0 0 0 rfl) trivial)) trivial))<|sf (aI (aI (rB (.cells [.int .i64 m] [])) (aI (rW []) (aI (xR [0] (.int .i64 m) trivial) trivial))) trivial)<|sf (aI (aI (rW []) (aI (xR [0] (.int .i64 r6.2) trivial) trivial)) trivial)<|sf (xR [0] (.bool r6.1) trivial)<|r
  rcases aN h with⟨c7,h⟩|⟨c7,h⟩
  ·obtain rfl:=lf h
   have z:=p8<|sg 0 c7<|rx 1 (eL (.inl r6.2)) (cU e (.inl r6.2)) rfl (dv (aI trivial trivial)) (aI (aI trivial trivial) (aI trivial trivial))
   exact mZ (A:=CT) mixed (by intro hx;cases hx) z<|by kernel_rfl
  ·obtain rfl:=lf h
   have z:=p8<|sg 0 c7<|rx 1 .normal (eK e t14 t15 (ca (t16+1)) r6.2) rfl (dv (aI (aI trivial (aI (bh rfl) trivial)) (aI (bk (az e)) (aI (up (am az t14)) (aI trivial (aI trivial trivial)))))) (aI (aI trivial trivial) (aI trivial trivial))
   exact d4 (A:=CT) mixed z<|by kernel_rfl
 ·obtain rfl:=lf h
  have z:=sg 0 c4<|eF (eL (.inr m)) (cU e (.inr m))
  exact iI CT (by intro hx;cases hx) z<|by kernel_rfl
theorem iU(hR55:fG R55){x:Int⊕(Int)}(h:pT R55 t14 t15 t16 m=some x):aQ Pg GE 1 (.loop (cA Gt 119)) (EX (eL x) (cU e x)) (eK e t14 t15 t16 m):=
 aQ.loop (S:=fun(zz:Int×Int)=>eK e t14 t15 zz.1 zz.2) (ex:=eL) (s:=(t16,m)) h fun zz y hy=>tV R55 e t14 t15 zz.1 zz.2 hR55 hy
end
section
variable(R55:fI)(t26:waD)(t27:Int)(t28:Int)(m:Int)
def eM:aA:=bg 38 [(1,.func (.func 68) [] [.bptr 0 0]),(26,sl ay t26),(27,.int .i64 t27),(28,.int .i64 t28)] [.cells [.int .i64 m] [],.dead] []
def eN(o:Int⊕(Int)):Exit:=match o with
 |(.inl _)=>.ret
 |(.inr _)=>.exit 2
def dP(o:Int⊕(Int)):aA:=match o with
 |(.inl o)=>bg 38 [(4,.bool false)] [.cells [.int .i64 o] [],.dead] []
 |(.inr o)=>bg 38 [] [.cells [.int .i64 o] [],.dead] []
def nS:Option ((Int×Int)⊕(Int⊕(Int))):=
 if(decide (t28<t27))=true then
  (fJ t26 t28).bind fun x11=>
  (R55 x11.Body m).bind fun r12=>
  if(!r12.1)=true then
   some (.inr (.inl r12.2))
  else
   some (.inl (ca (t28+1),r12.2))
 else
  some (.inr (.inr m))
def pU:Option (Int⊕(Int)):=loop (fun(zz:Int×Int)=>nS R55 t26 t27 zz.1 zz.2) (t28,m)
theorem tW(hR55:fG R55){y:(Int×Int)⊕(Int⊕(Int))}(h:nS R55 t26 t27 t28 m=some y):aQ Pg GE 1 (cA Gt 247) (LQ (fun(zz:Int×Int)=>eM t26 t27 zz.1 zz.2) eN dP y) (eM t26 t27 t28 m):=by
 rcases aN h with⟨c10,h⟩|⟨c10,h⟩
 ·obtain⟨x11,bx11,h⟩:=aG h
  obtain⟨r12,br12,h⟩:=aG h
  have p14:=fun{sc F} (r:PS sc F)=>sg 0 c10<|sv (fo.ia (k:=.i64) bx11)<|sv (mF x11)<|sx Gd<|sx (ji x11)<|sv (b8 x11.Body [])<|si (.cg ⟨[0],[.agg (af x11.Body),.func (.func 68) [] [.bptr 0 0]],[],[.cells [.int .i64 m] []],[.cells [.int .i64 m] []],[.cells [.int .i64 r12.2] []],[.cells [.int .i64 r12.2] []],.bool r12.1,.bool r12.1,[]⟩) (hR55 _ _ _ br12)<|sf (aI (xR [0] (.agg (af x11.Body)) (az x11.Body)) (aI (xF [0] (.func 68) [] [.bptr 0 0] [] [.bptr 0 0] trivial (aI (xB [0] 0 0 0 rfl) trivial)) trivial))<|sf (aI (aI (rB (.cells [.int .i64 m] [])) (aI (rW []) (aI (xR [0] (.int .i64 m) trivial) trivial))) trivial)<|sf (aI (aI (rW []) (aI (xR [0] (.int .i64 r12.2) trivial) trivial)) trivial)<|sf (xR [0] (.bool r12.1) trivial)<|r
  rcases aN h with⟨c13,h⟩|⟨c13,h⟩
  ·obtain rfl:=lf h
   have z:=p14<|sg 0 c13<|rx 1 (eN (.inl r12.2)) (dP (.inl r12.2)) rfl (dv (aI trivial trivial)) (aI (aI trivial trivial) (aI trivial trivial))
   exact mZ (A:=CT) mixed (by intro hx;cases hx) z<|by kernel_rfl
  ·obtain rfl:=lf h
   have z:=p14<|sg 0 c13<|rx 1 .normal (eM t26 t27 (ca (t28+1)) r12.2) rfl (dv (aI (aI trivial (aI (bh rfl) trivial)) (aI (up (am bL t26)) (aI trivial (aI trivial trivial))))) (aI (aI trivial trivial) (aI trivial trivial))
   exact d4 (A:=CT) mixed z<|by kernel_rfl
 ·obtain rfl:=lf h
  have z:=sg 0 c10<|eF (eN (.inr m)) (dP (.inr m))
  exact iI CT (by intro hx;cases hx) z<|by kernel_rfl
theorem mU(hR55:fG R55){x:Int⊕(Int)}(h:pU R55 t26 t27 t28 m=some x):aQ Pg GE 1 (.loop (cA Gt 247)) (EX (eN x) (dP x)) (eM t26 t27 t28 m):=
 aQ.loop (S:=fun(zz:Int×Int)=>eM t26 t27 zz.1 zz.2) (ex:=eN) (s:=(t28,m)) h fun zz y hy=>tW R55 t26 t27 zz.1 zz.2 hR55 hy
end
def qn(R55:fI)(e:ag)(k0:Int):Option (Bool×Int):=
 (zS e k0).bind fun r1=>
 if(!r1.1)=true then
  some (false,r1.2)
 else
  (pT R55 e.Kids (e.Kids.length:Int) 0 r1.2).bind fun o9=>match o9 with
  |(.inl o9)=>
   some (false,o9)
  | (.inr o9) =>
   (pU R55 e.Alts (e.Alts.length:Int) 0 o9).bind fun o15=>match o15 with
   |(.inl o15)=>
    some (false,o15)
   |(.inr o15)=>
    some (true,o15)
theorem wE(R55:fI)(hR55:fG R55){e:ag}{k0:Int}{r:Bool×Int}(h:qn R55 e k0=some r):C Pg GE 64 [.agg (af e),.func (.func 68) [] [.bptr 0 0]] [] [.cells [.int .i64 k0] []] (.bool r.1) [] [.cells [.int .i64 r.2] []]:=by
 obtain⟨r1,br1,h⟩:=aG h
 have p3:=fun{sc F} (r:PS sc F)=>se (dM e)<|sv (cu e)<|si (.cg ⟨[0],[.agg (af e),.bptr 0 0],[],[.cells [.int .i64 k0] []],[.cells [.int .i64 k0] []],[.cells [.int .i64 r1.2] []],[.cells [.int .i64 r1.2] []],.bool r1.1,.bool r1.1,[]⟩) (DW br1)<|sf (aI (xR [0] (.agg (af e)) (az e)) (aI (xB [0] 0 0 0 rfl) trivial))<|sf (aI (aI (rB (.cells [.int .i64 k0] [])) (aI (rW []) (aI (xR [0] (.int .i64 k0) trivial) trivial))) trivial)<|sf (aI (aI (rW []) (aI (xR [0] (.int .i64 r1.2) trivial) trivial)) trivial)<|sf (xR [0] (.bool r1.1) trivial)<|r
 rcases aN h with⟨c2,h⟩|⟨c2,h⟩
 ·obtain rfl:=lf h
  have z:=p3<|sg 0 c2<|en (aI (rP (.bool false))<|aI trivial<|aI (rL [.cells [.int .i64 r1.2] []])<|(aI (aI trivial trivial) trivial))
  exact C.evGp (A:=CT) mixed (m:=1) (c:=Gt) rfl call64 func64 rfl z<|by kernel_rfl
 ·obtain⟨o9,bo9,h⟩:=aG h
  rcases o9 with o9|o9
  ·obtain rfl:=lf h
   have z:=p3<|sg 0 c2<|sv (bu e)<|sv (bv e)<|bU (iJ.ln e.Kids)<|cY (e:=.ret) (s1:=cU e (.inl o9)) (iU R55 e e.Kids (e.Kids.length:Int) 0 r1.2 hR55 bo9)<|en (aI (rP (.bool false))<|aI trivial<|aI (rL [.cells [.int .i64 o9] []])<|(aI (aI trivial trivial) trivial))
   exact C.evGp (A:=CT) mixed (m:=1) (c:=Gt) rfl call64 func64 rfl z<|by kernel_rfl
  ·obtain⟨o15,bo15,h⟩:=aG h
   rcases o15 with o15|o15
   ·obtain rfl:=lf h
    have z:=p3<|sg 0 c2<|sv (bu e)<|sv (bv e)<|bU (iJ.ln e.Kids)<|cY (e:=.exit 0) (s1:=cU e (.inr o9)) (iU R55 e e.Kids (e.Kids.length:Int) 0 r1.2 hR55 bo9)<|sv (aH e)<|sv (aJ e)<|bU (fo.ln e.Alts)<|cY (e:=.ret) (s1:=dP (.inl o15)) (mU R55 e.Alts (e.Alts.length:Int) 0 o9 hR55 bo15)<|en (aI (rP (.bool false))<|aI trivial<|aI (rL [.cells [.int .i64 o15] []])<|(aI (aI trivial trivial) trivial))
    exact C.evGp (A:=CT) mixed (m:=1) (c:=Gt) rfl call64 func64 rfl z<|by kernel_rfl
   ·obtain rfl:=lf h
    have z:=p3<|sg 0 c2<|sv (bu e)<|sv (bv e)<|bU (iJ.ln e.Kids)<|cY (e:=.exit 0) (s1:=cU e (.inr o9)) (iU R55 e e.Kids (e.Kids.length:Int) 0 r1.2 hR55 bo9)<|sv (aH e)<|sv (aJ e)<|bU (fo.ln e.Alts)<|cY (e:=.exit 2) (s1:=dP (.inr o15)) (mU R55 e.Alts (e.Alts.length:Int) 0 o9 hR55 bo15)<|en (aI (rP (.bool true))<|aI trivial<|aI (rL [.cells [.int .i64 o15] []])<|(aI (aI trivial trivial) trivial))
    exact C.evGp (A:=CT) mixed (m:=1) (c:=Gt) rfl call64 func64 rfl z<|by kernel_rfl
def qo:((ag×Int)->Option (Bool×Int))->(ag×Int)->Option (Bool×Int):=fun(rec:(ag×Int)->Option (Bool×Int)) (x:ag×Int)=>qn (fun e k0=>rec (e,k0)) x.1 x.2
def sB(e:ag)(k0:Int):Option (Bool×Int):=uc qo (e,k0)
theorem xD{e:ag}{k0:Int}{r:Bool×Int}(h:sB e k0=some r):C Pg GE 64 [.agg (af e),.func (.func 68) [] [.bptr 0 0]] [] [.cells [.int .i64 k0] []] (.bool r.1) [] [.cells [.int .i64 r.2] []]:=
 fk (F:=qo) (M:=fun(x:ag×Int) (r:Bool×Int)=>C Pg GE 64 [.agg (af x.1),.func (.func 68) [] [.bptr 0 0]] [] [.cells [.int .i64 x.2] []] (.bool r.1) [] [.cells [.int .i64 r.2] []]) (fun rec hrec x r h=>wE _ (fun e k0 r h=>hrec (e,k0) r h) h) h
noncomputable def WG:Code:=f19.body.getD .skip
def Wr:List Nat:=[]
def xy(e:ag):Option Int:=
 (sB e 0).bind fun r1=>
 some r1.2
theorem xZ{e:ag}{r:Int}(h:xy e=some r):CC Pg GE 19 [.agg (af e)] (.int .i64 r) []:=by
 obtain⟨r1,br1,h⟩:=aG h
 obtain rfl:=lf h
 have z:=se (dM e)<|sx WZ<|ss<|sv (cu e)<|si (.cg ⟨[1],[.agg (af e),.func (.func 68) [] [.bptr 0 0]],[],[.cells [.int .i64 0] []],[.cells [.int .i64 0] []],[.cells [.int .i64 r1.2] []],[.cells [.int .i64 r1.2] []],.bool r1.1,.bool r1.1,[]⟩) (xD br1)<|sf (aI (xR [1] (.agg (af e)) (az e)) (aI (xF [1] (.func 68) [] [.bptr 1 0] [] [.bptr 0 0] trivial (aI (xB [1] 0 1 0 rfl) trivial)) trivial))<|sf (aI (aI (rB (.cells [.int .i64 0] [])) (aI (rW []) (aI (xR [1] (.int .i64 0) trivial) trivial))) trivial)<|sf (aI (aI (rW []) (aI (xR [1] (.int .i64 r1.2) trivial) trivial)) trivial)<|sf (xR [1] (.bool r1.1) trivial)<|ss<|en (aI (rP (.int .i64 r1.2))<|trivial)
 exact cH Wr call19 func19 (c:=WG) rfl (aI (az e) trivial) z<|by kernel_rfl
abbrev ma:=(ag->Option Int)
abbrev lY(R:ma):Prop:=∀(e:ag) (r:Int),R e=some r->CC Pg GE 21 [.agg (af e)] (.int .i64 r) []
noncomputable def T6:Code:=f21.body.getD .skip
def TH:List Nat:=[]
section
variable(R57:ma)(e:ag)(t9:waH)(t10:Int)(n:Int)(t11:Int)
def jn:aA:=bg 35 [(1,.eptr (af e)),(3,.int .i64 n),(9,sl af t9),(10,.int .i64 t10),(11,.int .i64 t11)] [.dead] []
def pG(o:Int):aA:=bg 35 [(1,.eptr (af e)),(3,.int .i64 o)] [.dead] []
def uS:Option ((Int×Int)⊕(Int)):=
 if(decide (t11<t10))=true then
  (fJ t9 t11).bind fun x2=>
  (R57 x2).bind fun r3=>
  some (.inl ((if r3>n then r3 else n),ca (t11+1)))
 else
  some (.inr n)
def xW:Option Int:=loop (fun(zz:Int×Int)=>uS R57 t9 t10 zz.1 zz.2) (n,t11)
theorem AU(hR57:lY R57){y:(Int×Int)⊕(Int)}(h:uS R57 t9 t10 n t11=some y):aQ Pg GE 0 (cA T6 119) (LQ (fun(zz:Int×Int)=>jn e t9 t10 zz.1 zz.2) (fun _=>.exit 0) (pG e) y) (jn e t9 t10 n t11):=by
 rcases aN h with⟨c1,h⟩|⟨c1,h⟩
 ·obtain⟨x2,bx2,h⟩:=aG h
  obtain⟨r3,br3,h⟩:=aG h
  obtain rfl:=lf h
  have z:=sg 0 c1<|sv (iJ.ia (k:=.i64) bx2)<|sv (cu x2)<|sx yx<|sx (ly x2)<|sv (b8 x2 [])<|du (hR57 _ _ br3)<|rx 0 .normal (jn e t9 t10 (if r3>n then r3 else n) (ca (t11+1))) rfl (dv (aI (bk (az e)) (aI trivial (aI (up (am az t9)) (aI trivial (aI trivial trivial)))))) (aI trivial trivial)
  exact d4 (A:=TH) mixed z<|by kernel_rfl
 ·obtain rfl:=lf h
  have z:=sg 0 c1<|eF (.exit 0) (pG e n)
  exact iI TH (by intro hx;cases hx) z<|by kernel_rfl
theorem Cz(hR57:lY R57){x:Int}(h:xW R57 t9 t10 n t11=some x):aQ Pg GE 0 (.loop (cA T6 119)) (EX (.exit 0) (pG e x)) (jn e t9 t10 n t11):=
 aQ.loop (S:=fun(zz:Int×Int)=>jn e t9 t10 zz.1 zz.2) (ex:=(fun _=>.exit 0)) (s:=(n,t11)) h fun zz y hy=>AU R57 e t9 t10 zz.1 zz.2 hR57 hy
end
section
variable(R57:ma)(t21:waD)(t22:Int)(n:Int)(t23:Int)
def jo:aA:=bg 35 [(3,.int .i64 n),(21,sl ay t21),(22,.int .i64 t22),(23,.int .i64 t23)] [.dead] []
def pH(o:Int):aA:=bg 35 [(3,.int .i64 o)] [.dead] []
def uT:Option ((Int×Int)⊕(Int)):=
 if(decide (t23<t22))=true then
  (fJ t21 t23).bind fun x6=>
  (R57 x6.Body).bind fun r7=>
  some (.inl ((if r7>n then r7 else n),ca (t23+1)))
 else
  some (.inr n)
def xX:Option Int:=loop (fun(zz:Int×Int)=>uT R57 t21 t22 zz.1 zz.2) (n,t23)
theorem AV(hR57:lY R57){y:(Int×Int)⊕(Int)}(h:uT R57 t21 t22 n t23=some y):aQ Pg GE 0 (cA T6 247) (LQ (fun(zz:Int×Int)=>jo t21 t22 zz.1 zz.2) (fun _=>.exit 2) pH y) (jo t21 t22 n t23):=by
 rcases aN h with⟨c5,h⟩|⟨c5,h⟩
 ·obtain⟨x6,bx6,h⟩:=aG h
  obtain⟨r7,br7,h⟩:=aG h
  obtain rfl:=lf h
  have z:=sg 0 c5<|sv (fo.ia (k:=.i64) bx6)<|sv (mF x6)<|sx Gd<|sx (ji x6)<|sv (b8 x6.Body [])<|du (hR57 _ _ br7)<|rx 0 .normal (jo t21 t22 (if r7>n then r7 else n) (ca (t23+1))) rfl (dv (aI trivial (aI (up (am bL t21)) (aI trivial (aI trivial trivial))))) (aI trivial trivial)
  exact d4 (A:=TH) mixed z<|by kernel_rfl
 ·obtain rfl:=lf h
  have z:=sg 0 c5<|eF (.exit 2) (pH n)
  exact iI TH (by intro hx;cases hx) z<|by kernel_rfl
theorem CA(hR57:lY R57){x:Int}(h:xX R57 t21 t22 n t23=some x):aQ Pg GE 0 (.loop (cA T6 247)) (EX (.exit 2) (pH x)) (jo t21 t22 n t23):=
 aQ.loop (S:=fun(zz:Int×Int)=>jo t21 t22 zz.1 zz.2) (ex:=(fun _=>.exit 2)) (s:=(n,t23)) h fun zz y hy=>AV R57 t21 t22 zz.1 zz.2 hR57 hy
end
def zO(R57:ma)(e:ag):Option Int:=
 (xW R57 e.Kids (e.Kids.length:Int) 0 0).bind fun o4=>
 (xX R57 e.Alts (e.Alts.length:Int) o4 0).bind fun o8=>
 some (ca (o8+1))
theorem EV(R57:ma)(hR57:lY R57){e:ag}{r:Int}(h:zO R57 e=some r):CC Pg GE 21 [.agg (af e)] (.int .i64 r) []:=by
 obtain⟨o4,bo4,h⟩:=aG h
 obtain⟨o8,bo8,h⟩:=aG h
 obtain rfl:=lf h
 have z:=se (dM e)<|sv (bu e)<|sv (bv e)<|bU (iJ.ln e.Kids)<|cY (Cz R57 e e.Kids (e.Kids.length:Int) 0 0 hR57 bo4)<|sv (aH e)<|sv (aJ e)<|bU (fo.ln e.Alts)<|cY (CA R57 e.Alts (e.Alts.length:Int) o4 0 hR57 bo8)<|en (aI (rP (.int .i64 (ca (o8+1))))<|trivial)
 exact cH TH call21 func21 (c:=T6) rfl (aI (az e) trivial) z<|by kernel_rfl
def zP:(ag->Option Int)->(ag)->Option Int:=fun(rec:ag->Option Int) (x:ag)=>zO (fun e=>rec e) x
def xx(e:ag):Option Int:=uc zP e
theorem xY{e:ag}{r:Int}(h:xx e=some r):CC Pg GE 21 [.agg (af e)] (.int .i64 r) []:=
 fk (F:=zP) (M:=fun(x:ag) (r:Int)=>CC Pg GE 21 [.agg (af x)] (.int .i64 r) []) (fun rec hrec x r h=>EV _ (fun e r h=>hrec e r h) h) h
abbrev fH:=(ag->Int->Option (Bool×Int))
abbrev fF(R:fH):Prop:=∀(e:ag) (k0:Int) (r:Bool×Int),R e k0=some r->C Pg GE 64 [.agg (af e),.func (.func 65) [] [.bptr 0 0]] [] [.cells [.int .i64 k0] []] (.bool r.1) [] [.cells [.int .i64 r.2] []]
noncomputable def AH:Code:=f116.body.getD .skip
def oS:List Nat:=[]
section
variable(t4:Int)
def CO:aA:=bg 56 [(2,.bptr 0 0),(4,.int .i64 t4)] [.cells [.bool false,.bool false,.int .i64 0,.int .i64 0,.bool false,.bool false,.int .i64 0,.int .i64 0,.bool false] []] []
def oA(o:Bool):aA:=bg 56 [(2,.bptr 0 0),(4,.int .i64 t4),(5,.bool o)] [.cells [.bool false,.bool false,.int .i64 0,.int .i64 0,.bool false,.bool false,.int .i64 0,.int .i64 0,.bool false] []] []
def wA:Option Bool:=
 if(t4==1)=true then
  some (t4==1)
 else
  some (t4==2)
theorem A9{x:Bool}(h:wA t4=some x):aQ Pg GE 0 (cA AH 54) (EX .normal (oA t4 x)) (CO t4):=by
 rcases aN h with⟨c1,h⟩|⟨c1,h⟩
 ·obtain rfl:=lf h
  exact bA oS (sg 0 c1<|eF .normal (oA t4 (t4==1)))<|by kernel_rfl
 ·obtain rfl:=lf h
  exact bA oS (sg 0 c1<|eF .normal (oA t4 (t4==2)))<|by kernel_rfl
end
section
variable(t4:Int)
def CP:aA:=bg 56 [(2,.bptr 0 0),(4,.int .i64 t4)] [.cells [.bool false,.bool false,.int .i64 0,.int .i64 0,.bool false,.bool false,.int .i64 0,.int .i64 0,.bool false] []] []
def cp(o:Bool):aA:=bg 56 [(2,.bptr 0 0),(4,.int .i64 t4),(30,.bool o)] [.cells [.bool false,.bool false,.int .i64 0,.int .i64 0,.bool false,.bool false,.int .i64 0,.int .i64 0,.bool false] []] []
def wB:Option Bool:=
 if(t4==10)=true then
  some (t4==10)
 else
  if(t4==11)=true then
   some (t4==11)
  else
   if(t4==12)=true then
    some (t4==12)
   else
    if(t4==13)=true then
     some (t4==13)
    else
     if(t4==14)=true then
      some (t4==14)
     else
      if(t4==16)=true then
       some (t4==16)
      else
       if(t4==17)=true then
        some (t4==17)
       else
        if(t4==18)=true then
         some (t4==18)
        else
         if(t4==19)=true then
          some (t4==19)
         else
          if(t4==20)=true then
           some (t4==20)
          else
           some (t4==24)
theorem Ba {x:Bool} (h:wB t4 = some x) :aQ Pg GE 0 (cA AH 3670014) (EX .normal (cp t4 x)) (CP t4):=by
 rcases aN h with⟨c19,h⟩|⟨c19,h⟩
 ·obtain rfl:=lf h
  exact bA oS (sg 0 c19<|eF .normal (cp t4 (t4==10)))<|by kernel_rfl
 ·rcases aN h with⟨c20,h⟩|⟨c20,h⟩
  ·obtain rfl:=lf h
   exact bA oS (sg 0 c19<|sg 0 c20<|eF .normal (cp t4 (t4==11)))<|by kernel_rfl
  ·have p22:=fun{sc F} (r:PS sc F)=>sg 0 c19<|sg 0 c20<|r
   rcases aN h with⟨c21,h⟩|⟨c21,h⟩
   ·obtain rfl:=lf h
    exact bA oS (p22<|sg 0 c21<|eF .normal (cp t4 (t4==12)))<|by kernel_rfl
   ·have p24:=fun{sc F} (r:PS sc F)=>p22<|sg 0 c21<|r
    rcases aN h with⟨c23,h⟩|⟨c23,h⟩
    ·obtain rfl:=lf h
     exact bA oS (p24<|sg 0 c23<|eF .normal (cp t4 (t4==13)))<|by kernel_rfl
    ·have p26:=fun{sc F} (r:PS sc F)=>p24<|sg 0 c23<|r
     rcases aN h with⟨c25,h⟩|⟨c25,h⟩
     ·obtain rfl:=lf h
      exact bA oS (p26<|sg 0 c25<|eF .normal (cp t4 (t4==14)))<|by kernel_rfl
     ·have p28:=fun{sc F} (r:PS sc F)=>p26<|sg 0 c25<|r
      rcases aN h with⟨c27,h⟩|⟨c27,h⟩
      ·obtain rfl:=lf h
       exact bA oS (p28<|sg 0 c27<|eF .normal (cp t4 (t4==16)))<|by kernel_rfl
      ·have p30:=fun{sc F} (r:PS sc F)=>p28<|sg 0 c27<|r
       rcases aN h with⟨c29,h⟩|⟨c29,h⟩
       ·obtain rfl:=lf h
        exact bA oS (p30<|sg 0 c29<|eF .normal (cp t4 (t4==17)))<|by kernel_rfl
       ·have p32:=fun{sc F} (r:PS sc F)=>p30<|sg 0 c29<|r
        rcases aN h with⟨c31,h⟩|⟨c31,h⟩
        ·obtain rfl:=lf h
         exact bA oS (p32<|sg 0 c31<|eF .normal (cp t4 (t4==18)))<|by kernel_rfl
        ·have p34:=fun{sc F} (r:PS sc F)=>p32<|sg 0 c31<|r
         rcases aN h with⟨c33,h⟩|⟨c33,h⟩
         ·obtain rfl:=lf h
          exact bA oS (p34<|sg 0 c33<|eF .normal (cp t4 (t4==19)))<|by kernel_rfl
         ·have p36:=fun{sc F} (r:PS sc F)=>p34<|sg 0 c33<|r
          rcases aN h with⟨c35,h⟩|⟨c35,h⟩
          ·obtain rfl:=lf h
           exact bA oS (p36<|sg 0 c35<|eF .normal (cp t4 (t4==20)))<|by kernel_rfl
          ·obtain rfl:=lf h
           exact bA oS (p36<|sg 0 c35<|eF .normal (cp t4 (t4==24)))<|by kernel_rfl
end
section
variable(t4:Int)
def CQ:aA:=bg 56 [(2,.bptr 0 0),(4,.int .i64 t4)] [.cells [.bool false,.bool false,.int .i64 0,.int .i64 0,.bool false,.bool false,.int .i64 0,.int .i64 0,.bool false] []] []
def iG(o:Bool):aA:=bg 56 [(2,.bptr 0 0),(4,.int .i64 t4),(43,.bool o)] [.cells [.bool false,.bool false,.int .i64 0,.int .i64 0,.bool false,.bool false,.int .i64 0,.int .i64 0,.bool false] []] []
def wC:Option Bool:=
 if(t4==15)=true then
  some (t4==15)
 else
  if(t4==21)=true then
   some (t4==21)
  else
   if(t4==22)=true then
    some (t4==22)
   else
    some (t4==23)
theorem Bb{x:Bool}(h:wC t4=some x):aQ Pg GE 0 (cA AH 14680062) (EX .normal (iG t4 x)) (CQ t4):=by
 rcases aN h with⟨c40,h⟩|⟨c40,h⟩
 ·obtain rfl:=lf h
  exact bA oS (sg 0 c40<|eF .normal (iG t4 (t4==15)))<|by kernel_rfl
 ·rcases aN h with⟨c41,h⟩|⟨c41,h⟩
  ·obtain rfl:=lf h
   exact bA oS (sg 0 c40<|sg 0 c41<|eF .normal (iG t4 (t4==21)))<|by kernel_rfl
  ·have p43:=fun{sc F} (r:PS sc F)=>sg 0 c40<|sg 0 c41<|r
   rcases aN h with⟨c42,h⟩|⟨c42,h⟩
   ·obtain rfl:=lf h
    exact bA oS (p43<|sg 0 c42<|eF .normal (iG t4 (t4==22)))<|by kernel_rfl
   ·obtain rfl:=lf h
    exact bA oS (p43<|sg 0 c42<|eF .normal (iG t4 (t4==23)))<|by kernel_rfl
end
def BJ (op:Int):Option (ax×Bool) :=
 (wA op).bind fun o2=>
 if o2=true then
  some ((⟨true,false,0,0,false,false,0,0,false⟩:ax),true)
 else
  if(op==3)=true then
   some ((⟨false,true,0,0,false,false,0,0,false⟩:ax),true)
  else
   if(op==4)=true then
    some ((⟨false,true,0,6,false,false,0,1073741824,true⟩:ax),true)
   else
    if(op==5)=true then
     some ((⟨false,true,1,6,false,false,0,1073741824,true⟩:ax),true)
    else
     if(op==6)=true then
      some ((⟨false,false,1,1,true,false,0,0,false⟩:ax),true)
     else
      if(op==7)=true then
       some ((⟨false,true,2,2,false,false,0,1,true⟩:ax),true)
      else
       if(op==8)=true then
        some ((⟨false,false,3,3,false,false,0,0,false⟩:ax),true)
       else
        if(op==9)=true then
         some ((⟨false,false,1,1,false,true,0,0,false⟩:ax),true)
        else
         (wB op).bind fun o37=>
         if o37=true then
          some ((⟨false,false,2,2,false,false,0,0,false⟩:ax),true)
         else
          (wC op).bind fun o44=>
          if o44=true then
           some ((⟨false,false,1,1,false,false,0,0,false⟩:ax),true)
          else
           if(op==25)=true then
            some ((⟨false,true,2,7,false,false,0,0,false⟩:ax),true)
           else
            if(op==26)=true then
             some ((⟨false,false,1,1,false,false,1,1,true⟩:ax),true)
            else
             some ((⟨false,false,0,0,false,false,0,0,false⟩:ax),false)
theorem E5 {op:Int} {r:ax×Bool} (h:BJ op = some r):CC Pg GE 116 [.int .i64 op] (.tuple [.agg (aC r.1),.bool r.2]) []:=by
 obtain⟨o2,bo2,h⟩:=aG h
 have p4:=fun{sc F} (r:PS sc F)=>sx Sq<|qk 2<|cY (A9 op bo2)<|r
 rcases aN h with⟨c3,h⟩|⟨c3,h⟩
 ·obtain rfl:=lf h
  have z:=p4<|sg 0 c3<|sv (C9 true)<|sx (ck (⟨true,false,0,0,false,false,0,0,false⟩:ax))<|en (aI (vaU PVal.tuple (dw (cx (⟨true,false,0,0,false,false,0,0,false⟩:ax)) (dw (rP (.bool true)) (rfl:([]:List PVal)=[]))))<|(aI (bF (⟨true,false,0,0,false,false,0,0,false⟩:ax)) (aI trivial trivial)))
  exact cH oS call116 func116 (c:=AH) rfl (aI trivial trivial) z<|by kernel_rfl
 ·have p6:=fun{sc F} (r:PS sc F)=>p4<|sg 0 c3<|r
  rcases aN h with⟨c5,h⟩|⟨c5,h⟩
  ·obtain rfl:=lf h
   have z:=p6<|sg 0 c5<|sv (Da true)<|sx (ck (⟨false,true,0,0,false,false,0,0,false⟩:ax))<|en (aI (vaU PVal.tuple (dw (cx (⟨false,true,0,0,false,false,0,0,false⟩:ax)) (dw (rP (.bool true)) (rfl:([]:List PVal)=[]))))<|(aI (bF (⟨false,true,0,0,false,false,0,0,false⟩:ax)) (aI trivial trivial)))
   exact cH oS call116 func116 (c:=AH) rfl (aI trivial trivial) z<|by kernel_rfl
  ·have p8:=fun{sc F} (r:PS sc F)=>p6<|sg 0 c5<|r
   rcases aN h with⟨c7,h⟩|⟨c7,h⟩
   ·obtain rfl:=lf h
    have z:=p8<|sg 0 c7<|sv (vN true 6 true 1073741824)<|sx (ck (⟨false,true,0,6,false,false,0,1073741824,true⟩:ax))<|en (aI (vaU PVal.tuple (dw (cx (⟨false,true,0,6,false,false,0,1073741824,true⟩:ax)) (dw (rP (.bool true)) (rfl:([]:List PVal)=[]))))<|(aI (bF (⟨false,true,0,6,false,false,0,1073741824,true⟩:ax)) (aI trivial trivial)))
    exact cH oS call116 func116 (c:=AH) rfl (aI trivial trivial) z<|by kernel_rfl
   ·have p10:=fun{sc F} (r:PS sc F)=>p8<|sg 0 c7<|r
    rcases aN h with⟨c9,h⟩|⟨c9,h⟩
    ·obtain rfl:=lf h
     have z:=p10<|sg 0 c9<|sv (mO true 1 6 true 1073741824)<|sx (ck (⟨false,true,1,6,false,false,0,1073741824,true⟩:ax))<|en (aI (vaU PVal.tuple (dw (cx (⟨false,true,1,6,false,false,0,1073741824,true⟩:ax)) (dw (rP (.bool true)) (rfl:([]:List PVal)=[]))))<|(aI (bF (⟨false,true,1,6,false,false,0,1073741824,true⟩:ax)) (aI trivial trivial)))
     exact cH oS call116 func116 (c:=AH) rfl (aI trivial trivial) z<|by kernel_rfl
    ·have p12:=fun{sc F} (r:PS sc F)=>p10<|sg 0 c9<|r
     rcases aN h with⟨c11,h⟩|⟨c11,h⟩
     ·obtain rfl:=lf h
      have z:=p12<|sg 0 c11<|sv (yn true 1 1)<|sx (ck (⟨false,false,1,1,true,false,0,0,false⟩:ax))<|en (aI (vaU PVal.tuple (dw (cx (⟨false,false,1,1,true,false,0,0,false⟩:ax)) (dw (rP (.bool true)) (rfl:([]:List PVal)=[]))))<|(aI (bF (⟨false,false,1,1,true,false,0,0,false⟩:ax)) (aI trivial trivial)))
      exact cH oS call116 func116 (c:=AH) rfl (aI trivial trivial) z<|by kernel_rfl
     ·have p14:=fun{sc F} (r:PS sc F)=>p12<|sg 0 c11<|r
      rcases aN h with⟨c13,h⟩|⟨c13,h⟩
      ·obtain rfl:=lf h
       have z:=p14<|sg 0 c13<|sv (mO true 2 2 true 1)<|sx (ck (⟨false,true,2,2,false,false,0,1,true⟩:ax))<|en (aI (vaU PVal.tuple (dw (cx (⟨false,true,2,2,false,false,0,1,true⟩:ax)) (dw (rP (.bool true)) (rfl:([]:List PVal)=[]))))<|(aI (bF (⟨false,true,2,2,false,false,0,1,true⟩:ax)) (aI trivial trivial)))
       exact cH oS call116 func116 (c:=AH) rfl (aI trivial trivial) z<|by kernel_rfl
      ·have p16:=fun{sc F} (r:PS sc F)=>p14<|sg 0 c13<|r
       rcases aN h with⟨c15,h⟩|⟨c15,h⟩
       ·obtain rfl:=lf h
        have z:=p16<|sg 0 c15<|sv (mX 3 3)<|sx (ck (⟨false,false,3,3,false,false,0,0,false⟩:ax))<|en (aI (vaU PVal.tuple (dw (cx (⟨false,false,3,3,false,false,0,0,false⟩:ax)) (dw (rP (.bool true)) (rfl:([]:List PVal)=[]))))<|(aI (bF (⟨false,false,3,3,false,false,0,0,false⟩:ax)) (aI trivial trivial)))
        exact cH oS call116 func116 (c:=AH) rfl (aI trivial trivial) z<|by kernel_rfl
       ·have p18:=fun{sc F} (r:PS sc F)=>p16<|sg 0 c15<|r
        rcases aN h with⟨c17,h⟩|⟨c17,h⟩
        ·obtain rfl:=lf h
         have z:=p18<|sg 0 c17<|sv (yo true 1 1)<|sx (ck (⟨false,false,1,1,false,true,0,0,false⟩:ax))<|en (aI (vaU PVal.tuple (dw (cx (⟨false,false,1,1,false,true,0,0,false⟩:ax)) (dw (rP (.bool true)) (rfl:([]:List PVal)=[]))))<|(aI (bF (⟨false,false,1,1,false,true,0,0,false⟩:ax)) (aI trivial trivial)))
         exact cH oS call116 func116 (c:=AH) rfl (aI trivial trivial) z<|by kernel_rfl
        ·obtain⟨o37,bo37,h⟩:=aG h
         have p39:=fun{sc F} (r:PS sc F)=>p18<|sg 0 c17<|qk 0<|cY (Ba op bo37)<|r
         rcases aN h with⟨c38,h⟩|⟨c38,h⟩
         ·obtain rfl:=lf h
          have z:=p39<|sg 0 c38<|sv (mX 2 2)<|sx (ck (⟨false,false,2,2,false,false,0,0,false⟩:ax))<|en (aI (vaU PVal.tuple (dw (cx (⟨false,false,2,2,false,false,0,0,false⟩:ax)) (dw (rP (.bool true)) (rfl:([]:List PVal)=[]))))<|(aI (bF (⟨false,false,2,2,false,false,0,0,false⟩:ax)) (aI trivial trivial)))
          exact cH oS call116 func116 (c:=AH) rfl (aI trivial trivial) z<|by kernel_rfl
         ·obtain⟨o44,bo44,h⟩:=aG h
          have p46:=fun{sc F} (r:PS sc F)=>p39<|sg 0 c38<|qk 0<|cY (Bb op bo44)<|r
          rcases aN h with⟨c45,h⟩|⟨c45,h⟩
          ·obtain rfl:=lf h
           have z:=p46<|sg 0 c45<|sv (mX 1 1)<|sx (ck (⟨false,false,1,1,false,false,0,0,false⟩:ax))<|en (aI (vaU PVal.tuple (dw (cx (⟨false,false,1,1,false,false,0,0,false⟩:ax)) (dw (rP (.bool true)) (rfl:([]:List PVal)=[]))))<|(aI (bF (⟨false,false,1,1,false,false,0,0,false⟩:ax)) (aI trivial trivial)))
           exact cH oS call116 func116 (c:=AH) rfl (aI trivial trivial) z<|by kernel_rfl
          ·have p48:=fun{sc F} (r:PS sc F)=>p46<|sg 0 c45<|r
           rcases aN h with⟨c47,h⟩|⟨c47,h⟩
           ·obtain rfl:=lf h
            have z:=p48<|sg 0 c47<|sv (ym true 2 7)<|sx (ck (⟨false,true,2,7,false,false,0,0,false⟩:ax))<|en (aI (vaU PVal.tuple (dw (cx (⟨false,true,2,7,false,false,0,0,false⟩:ax)) (dw (rP (.bool true)) (rfl:([]:List PVal)=[]))))<|(aI (bF (⟨false,true,2,7,false,false,0,0,false⟩:ax)) (aI trivial trivial)))
            exact cH oS call116 func116 (c:=AH) rfl (aI trivial trivial) z<|by kernel_rfl
           ·have p50:=fun{sc F} (r:PS sc F)=>p48<|sg 0 c47<|r
            rcases aN h with⟨c49,h⟩|⟨c49,h⟩
            ·obtain rfl:=lf h
             have z:=p50<|sg 0 c49<|sv (ua 1 1 true 1 1)<|sx (ck (⟨false,false,1,1,false,false,1,1,true⟩:ax))<|en (aI (vaU PVal.tuple (dw (cx (⟨false,false,1,1,false,false,1,1,true⟩:ax)) (dw (rP (.bool true)) (rfl:([]:List PVal)=[]))))<|(aI (bF (⟨false,false,1,1,false,false,1,1,true⟩:ax)) (aI trivial trivial)))
             exact cH oS call116 func116 (c:=AH) rfl (aI trivial trivial) z<|by kernel_rfl
            ·obtain rfl:=lf h
             have z:=p50<|sg 0 c49<|sv (Db)<|sx (ck (⟨false,false,0,0,false,false,0,0,false⟩:ax))<|en (aI (vaU PVal.tuple (dw (cx (⟨false,false,0,0,false,false,0,0,false⟩:ax)) (dw (rP (.bool false)) (rfl:([]:List PVal)=[]))))<|(aI (bF (⟨false,false,0,0,false,false,0,0,false⟩:ax)) (aI trivial trivial)))
             exact cH oS call116 func116 (c:=AH) rfl (aI trivial trivial) z<|by kernel_rfl
noncomputable def Vq:Code:=f139.body.getD .skip
def Vb:List Nat:=[]
def yb(a:aF):Option Bool:=
 some (decide ((a.Names.length:Int)>6))
theorem CD{a:aF}{r:Bool}(h:yb a=some r):CC Pg GE 139 [.agg (ay a)] (.bool r) []:=by
 obtain rfl:=lf h
 have z:=se (KF a)<|sv (sL a)<|sv (sO a)<|bU (eu.ln a.Names)<|en (aI (rP (.bool (decide ((a.Names.length:Int)>6))))<|trivial)
 exact cH Vb call139 func139 (c:=Vq) rfl (aI (bL a) trivial) z<|by kernel_rfl
noncomputable def Rj:Code:=f158.body.getD .skip
def Pm:List Nat:=[10,17]
section
variable(s:waD)(t7:Int)(t8:Int)
def dh:aA:=bg 19 [(0,sl ay s),(1,.func (.func 139) [] []),(7,.int .i64 t7),(8,.int .i64 t8)] [] []
def di(o:Int⊕(Unit)):Exit:=match o with
 |(.inl _)=>.ret
 |(.inr _)=>.exit 0
def cz(o:Int⊕(Unit)):aA:=match o with
 |(.inl o)=>bg 19 [(4,.int .i64 o)] [] []
 |(.inr o)=>bg 19 [] [] []
def jW:Option (Int⊕(Int⊕(Unit))):=
 if(decide (t8<t7))=true then
  (fJ s t8).bind fun x2=>
  (yb x2).bind fun r3=>
  if r3=true then
   some (.inr (.inl t8))
  else
   some (.inl (ca (t8+1)))
 else
  some (.inr (.inr ()))
def kM:Option (Int⊕(Unit)):=loop (fun(zz:Int)=>jW s t7 zz) t8
theorem pF{y:Int⊕(Int⊕(Unit))}(h:jW s t7 t8=some y):aQ Pg GE 0 (cA Rj 55) (LQ (fun(zz:Int)=>dh s t7 zz) di cz y) (dh s t7 t8):=by
 rcases aN h with⟨c1,h⟩|⟨c1,h⟩
 ·obtain⟨x2,bx2,h⟩:=aG h
  obtain⟨r3,br3,h⟩:=aG h
  have p5:=fun{sc F} (r:PS sc F)=>sg 0 c1<|sv (fo.ia (k:=.i64) bx2)<|sv (mF x2)<|du (CD br3)<|r
  rcases aN h with⟨c4,h⟩|⟨c4,h⟩
  ·obtain rfl:=lf h
   have z:=p5<|sg 0 c4<|eF (di (.inl t8)) (cz (.inl t8))
   exact iI Pm (by intro hx;cases hx) z<|by kernel_rfl
  ·obtain rfl:=lf h
   exact yz Pm (p5<|sg 0 c4<|eF .normal (dh s t7 (ca (t8+1))))<|by kernel_rfl
 ·obtain rfl:=lf h
  have z:=sg 0 c1<|eF (di (.inr ())) (cz (.inr ()))
  exact iI Pm (by intro hx;cases hx) z<|by kernel_rfl
theorem jD{x:Int⊕(Unit)}(h:kM s t7 t8=some x):aQ Pg GE 0 (.loop (cA Rj 55)) (EX (di x) (cz x)) (dh s t7 t8):=
 aQ.loop (S:=fun(zz:Int)=>dh s t7 zz) (ex:=di) (s:=t8) h fun zz y hy=>pF s t7 zz hy
end
def mQ(s:waD):Option Int:=
 (kM s (s.length:Int) 0).bind fun o6=>match o6 with
 |(.inl o6)=>
  some o6
 |(.inr o6)=>
  some (-1)
theorem rH{s:waD}{r:Int}(h:mQ s=some r):CC Pg GE 158 [sl ay s,.func (.func 139) [] []] (.int .i64 r) []:=by
 obtain⟨o6,bo6,h⟩:=aG h
 rcases o6 with o6|o6
 ·obtain rfl:=lf h
  have z:=bU (fo.ln s)<|cY (e:=.ret) (s1:=cz (.inl o6)) (jD s (s.length:Int) 0 bo6)<|en (aI (rP (.int .i64 o6))<|trivial)
  exact cH Pm call158 func158 (c:=Rj) rfl (aI (am bL s) (aI (aI trivial trivial) trivial)) z<|by kernel_rfl
 ·obtain rfl:=lf h
  have z:=bU (fo.ln s)<|cY (e:=.exit 0) (s1:=cz (.inr o6)) (jD s (s.length:Int) 0 bo6)<|en (aI (rP (.int .i64 (-1)))<|trivial)
  exact cH Pm call158 func158 (c:=Rj) rfl (aI (am bL s) (aI (aI trivial trivial) trivial)) z<|by kernel_rfl
noncomputable def Vp:Code:=f138.body.getD .skip
def Va:List Nat:=[]
def kK(s:waD):Option Bool:=
 (mQ s).bind fun r1=>
 some (decide (r1>=0))
theorem pY{s:waD}{r:Bool}(h:kK s=some r):CC Pg GE 138 [sl ay s,.func (.func 139) [] []] (.bool r) []:=by
 obtain⟨r1,br1,h⟩:=aG h
 obtain rfl:=lf h
 have z:=du (rH br1)<|en (aI (rP (.bool (decide (r1>=0))))<|trivial)
 exact cH Va call138 func138 (c:=Vp) rfl (aI (am bL s) (aI (aI trivial trivial) trivial)) z<|by kernel_rfl
noncomputable def PC:Code:=f117.body.getD .skip
def BT:List Nat:=[]
section
variable(e:ag)(s:ax)
def CE:aA:=bg 69 [(2,.eptr (af e)),(3,.eptr (aC s))] [.dead,.dead] []
def iD(o:Bool):aA:=bg 69 [(2,.eptr (af e)),(3,.eptr (aC s)),(34,.bool o)] [.dead,.dead] []
def wu:Option Bool:=
 if(decide ((e.Kids.length:Int)<s.least))=true then
  some true
 else
  if(decide ((e.Kids.length:Int)>s.most))=true then
   some true
  else
   if(decide ((e.Types.length:Int)<s.typesLeast))=true then
    some true
   else
    some (decide ((e.Types.length:Int)>s.typesMost))
theorem AY{x:Bool}(h:wu e s=some x):aQ Pg GE 0 (cA PC 12) (EX .normal (iD e s x)) (CE e s):=by
 have p2:=fun{sc F} (r:PS sc F)=>sv (bu e)<|sv (bv e)<|bU (iJ.ln e.Kids)<|sv (yq s)<|sv (AL s)<|r
 rcases aN h with⟨c1,h⟩|⟨c1,h⟩
 ·obtain rfl:=lf h
  exact bA BT (p2<|sg 7 c1<|eF .normal (iD e s true))<|by kernel_rfl
 ·have p4:=fun{sc F} (r:PS sc F)=>p2<|sg 7 c1<|sv (bu e)<|sv (bv e)<|bU (iJ.ln e.Kids)<|sv (yr s)<|sv (AM s)<|r
  rcases aN h with⟨c3,h⟩|⟨c3,h⟩
  ·obtain rfl:=lf h
   exact bA BT (p4<|sg 15 c3<|eF .normal (iD e s true))<|by kernel_rfl
  ·have p6:=fun{sc F} (r:PS sc F)=>p4<|sg 15 c3<|sv (aK e)<|sv (aL e)<|bU (d5.ln e.Types)<|sv (yu s)<|sv (AO s)<|r
   rcases aN h with⟨c5,h⟩|⟨c5,h⟩
   ·obtain rfl:=lf h
    exact bA BT (p6<|sg 23 c5<|eF .normal (iD e s true))<|by kernel_rfl
   ·obtain rfl:=lf h
    exact bA BT (p6<|sg 23 c5<|sv (aK e)<|sv (aL e)<|bU (d5.ln e.Types)<|sv (yv s)<|sv (AP s)<|eF .normal (iD e s (decide ((e.Types.length:Int)>s.typesMost))))<|by kernel_rfl
end
section
variable(e:ag)(s:ax)
def CF:aA:=bg 69 [(2,.eptr (af e)),(3,.eptr (aC s))] [.dead,.dead] []
def dH(o:Bool):aA:=bg 69 [(2,.eptr (af e)),(64,.bool o)] [.dead,.dead] []
def wv:Option Bool:=
 if s.params=true then
  if(decide ((e.Params.length:Int)<1))=true then
   some true
  else
   if(decide ((e.Params.length:Int)>6))=true then
    some true
   else
    if s.alts=true then
     if(decide ((e.Alts.length:Int)<1))=true then
      some true
     else
      some (decide ((e.Alts.length:Int)>8))
    else
     some false
 else
  if s.alts=true then
   if(decide ((e.Alts.length:Int)<1))=true then
    some true
   else
    some (decide ((e.Alts.length:Int)>8))
  else
   some false
theorem AZ{x:Bool}(h:wv e s=some x):aQ Pg GE 0 (cA PC 28) (EX .normal (dH e x)) (CF e s):=by
 have p11:=fun{sc F} (r:PS sc F)=>sv (yt s)<|sv (AN s)<|r
 rcases aN h with⟨c10,h⟩|⟨c10,h⟩
 ·have p13:=fun{sc F} (r:PS sc F)=>p11<|sg 3 c10<|sv (bM e)<|sv (bN e)<|bU (lT.ln e.Params)<|r
  rcases aN h with⟨c12,h⟩|⟨c12,h⟩
  ·obtain rfl:=lf h
   exact bA BT (p13<|sg 8 c12<|eF .normal (dH e true))<|by kernel_rfl
  ·have p15:=fun{sc F} (r:PS sc F)=>p13<|sg 8 c12<|sv (bM e)<|sv (bN e)<|bU (lT.ln e.Params)<|r
   rcases aN h with⟨c14,h⟩|⟨c14,h⟩
   ·obtain rfl:=lf h
    exact bA BT (p15<|sg 15 c14<|eF .normal (dH e true))<|by kernel_rfl
   ·have p17:=fun{sc F} (r:PS sc F)=>p15<|sg 15 c14<|sv (qe s)<|sv (sa s)<|r
    rcases aN h with⟨c16,h⟩|⟨c16,h⟩
    ·have p19:=fun{sc F} (r:PS sc F)=>p17<|sg 18 c16<|sv (aH e)<|sv (aJ e)<|bU (fo.ln e.Alts)<|r
     rcases aN h with⟨c18,h⟩|⟨c18,h⟩
     ·obtain rfl:=lf h
      exact bA BT (p19<|sg 23 c18<|eF .normal (dH e true))<|by kernel_rfl
     ·obtain rfl:=lf h
      exact bA BT (p19<|sg 23 c18<|sv (aH e)<|sv (aJ e)<|bU (fo.ln e.Alts)<|eF .normal (dH e (decide ((e.Alts.length:Int)>8))))<|by kernel_rfl
    ·obtain rfl:=lf h
     exact bA BT (p17<|sg 18 c16<|eF .normal (dH e false))<|by kernel_rfl
 ·have p21:=fun{sc F} (r:PS sc F)=>p11<|sg 3 c10<|sv (qe s)<|sv (sa s)<|r
  rcases aN h with⟨c20,h⟩|⟨c20,h⟩
  ·have p23:=fun{sc F} (r:PS sc F)=>p21<|sg 18 c20<|sv (aH e)<|sv (aJ e)<|bU (fo.ln e.Alts)<|r
   rcases aN h with⟨c22,h⟩|⟨c22,h⟩
   ·obtain rfl:=lf h
    exact bA BT (p23<|sg 23 c22<|eF .normal (dH e true))<|by kernel_rfl
   ·obtain rfl:=lf h
    exact bA BT (p23<|sg 23 c22<|sv (aH e)<|sv (aJ e)<|bU (fo.ln e.Alts)<|eF .normal (dH e (decide ((e.Alts.length:Int)>8))))<|by kernel_rfl
  ·obtain rfl:=lf h
   exact bA BT (p21<|sg 18 c20<|eF .normal (dH e false))<|by kernel_rfl
end
def BH(e:ag)(s:ax):Option Bool:=
 (wu e s).bind fun o7=>
 if o7=true then
  some false
 else
  (wv e s).bind fun o24=>
  if o24=true then
   some false
  else
   (kK e.Alts).bind fun r27=>
   some (!r27)
theorem EZ{e:ag}{s:ax}{r:Bool}(h:BH e s=some r):CC Pg GE 117 [.agg (af e),.agg (aC s)] (.bool r) []:=by
 obtain⟨o7,bo7,h⟩:=aG h
 have p9:=fun{sc F} (r:PS sc F)=>se (dM e)<|se (xP s)<|qk 1<|cY (AY e s bo7)<|r
 rcases aN h with⟨c8,h⟩|⟨c8,h⟩
 ·obtain rfl:=lf h
  have z:=p9<|sg 0 c8<|en (aI (rP (.bool false))<|trivial)
  exact cH BT call117 func117 (c:=PC) rfl (aI (az e) (aI (bF s) trivial)) z<|by kernel_rfl
 ·obtain⟨o24,bo24,h⟩:=aG h
  have p26:=fun{sc F} (r:PS sc F)=>p9<|sg 0 c8<|qk 1<|cY (AZ e s bo24)<|r
  rcases aN h with⟨c25,h⟩|⟨c25,h⟩
  ·obtain rfl:=lf h
   have z:=p26<|sg 0 c25<|en (aI (rP (.bool false))<|trivial)
   exact cH BT call117 func117 (c:=PC) rfl (aI (az e) (aI (bF s) trivial)) z<|by kernel_rfl
  ·obtain⟨r27,br27,h⟩:=aG h
   obtain rfl:=lf h
   have z:=p26<|sg 0 c25<|sv (aH e)<|sv (aJ e)<|du (pY br27)<|en (aI (rP (.bool (!r27)))<|trivial)
   exact cH BT call117 func117 (c:=PC) rfl (aI (az e) (aI (bF s) trivial)) z<|by kernel_rfl
noncomputable def TY:Code:=f118.body.getD .skip
def TB:List Nat:=[]
def Qo(n:Int):Option Bool:=
 if(decide (n>=(-1000000000000)))=true then
  some (decide (n<=1000000000000))
 else
  some false
theorem OG{n:Int}{r:Bool}(h:Qo n=some r):CC Pg GE 118 [.int .i64 n] (.bool r) []:=by
 rcases aN h with⟨c1,h⟩|⟨c1,h⟩
 ·obtain rfl:=lf h
  have z:=sg 3 c1<|en (aI (rP (.bool (decide (n<=1000000000000))))<|trivial)
  exact cH TB call118 func118 (c:=TY) rfl (aI trivial trivial) z<|by kernel_rfl
 ·obtain rfl:=lf h
  have z:=sg 3 c1<|en (aI (rP (.bool false))<|trivial)
  exact cH TB call118 func118 (c:=TY) rfl (aI trivial trivial) z<|by kernel_rfl
noncomputable def Rk:Code:=f159.body.getD .skip
def Pn:List Nat:=[]
section
variable(t7:waA)(t8:Int)(t9:Int)(m0:(List (ae×Bool)))
def gY:aA:=bg 19 [(3,.mapr 0),(7,sl cS t7),(8,.int .i64 t8),(9,.int .i64 t9)] [.map (aP PVal.bool m0)] []
def gZ(o:((List (ae×Bool)))⊕((List (ae×Bool)))):Exit:=match o with
 |(.inl _)=>.ret
 |(.inr _)=>.exit 0
def fy(o:((List (ae×Bool)))⊕((List (ae×Bool)))):aA:=match o with
 |(.inl o)=>bg 19 [(2,.bool false)] [.map (aP PVal.bool o)] []
 |(.inr o)=>bg 19 [] [.map (aP PVal.bool o)] []
def sh:Option ((Int×(List (ae×Bool)))⊕(((List (ae×Bool)))⊕((List (ae×Bool))))):=
 if(decide (t9<t8))=true then
  (fJ t7 t9).bind fun x2=>
  if((F0 m0 x2).getD false)=true then
   some (.inr (.inl m0))
  else
   some (.inl (ca (t9+1),F2 m0 x2 true))
 else
  some (.inr (.inr m0))
def uF:Option (((List (ae×Bool)))⊕((List (ae×Bool)))):=loop (fun(zz:Int×(List (ae×Bool)))=>sh t7 t8 zz.1 zz.2) (t9,m0)
theorem yw{y:(Int×(List (ae×Bool)))⊕(((List (ae×Bool)))⊕((List (ae×Bool))))}(h:sh t7 t8 t9 m0=some y):aQ Pg GE 0 (cA Rk 119) (LQ (fun(zz:Int×(List (ae×Bool)))=>gY t7 t8 zz.1 zz.2) gZ fy y) (gY t7 t8 t9 m0):=by
 rcases aN h with⟨c1,h⟩|⟨c1,h⟩
 ·obtain⟨x2,bx2,h⟩:=aG h
  have p4:=fun{sc F} (r:PS sc F)=>sg 0 c1<|sv (eu.ia (k:=.i64) bx2)<|sv (de GB (.str x2) [])<|sv (MT (f:=PVal.bool) underlying124 underlying9 V9 m0 x2)<|r
  rcases aN h with⟨c3,h⟩|⟨c3,h⟩
  ·obtain rfl:=lf h
   have z:=p4<|sg 0 c3<|eF (gZ (.inl m0)) (fy (.inl m0))
   exact iI Pn (by intro hx;cases hx) z<|by kernel_rfl
  ·obtain rfl:=lf h
   exact yz Pn (p4<|sg 0 c3<|V7 (MU (f:=PVal.bool) underlying124 underlying9 m0 x2 true)<|eF .normal (gY t7 t8 (ca (t9+1)) (F2 m0 x2 true)))<|by kernel_rfl
 ·obtain rfl:=lf h
  have z:=sg 0 c1<|eF (gZ (.inr m0)) (fy (.inr m0))
  exact iI Pn (by intro hx;cases hx) z<|by kernel_rfl
theorem rh{x:((List (ae×Bool)))⊕((List (ae×Bool)))}(h:uF t7 t8 t9 m0=some x):aQ Pg GE 0 (.loop (cA Rk 119)) (EX (gZ x) (fy x)) (gY t7 t8 t9 m0):=
 aQ.loop (S:=fun(zz:Int×(List (ae×Bool)))=>gY t7 t8 zz.1 zz.2) (ex:=gZ) (s:=(t9,m0)) h fun zz y hy=>yw t7 t8 zz.1 zz.2 hy
end
def zr(a:waA):Option Bool:=
 (uF a (a.length:Int) 0 ([]:List (ae×Bool))).bind fun o5=>match o5 with
 |(.inl o5)=>
  some false
 |(.inr o5)=>
  some true
theorem Dr{a:waA}{r:Bool}(h:zr a=some r):CC Pg GE 159 [sl cS a] (.bool r) []:=by
 obtain⟨o5,bo5,h⟩:=aG h
 rcases o5 with o5|o5
 ·obtain rfl:=lf h
  have z:=bU (eu.ln a)<|cY (e:=.ret) (s1:=fy (.inl o5)) (rh a (a.length:Int) 0 ([]:List (ae×Bool)) bo5)<|en (aI (rP (.bool false))<|trivial)
  exact cH Pn call159 func159 (c:=Rk) rfl (aI (am bO a) trivial) z<|by kernel_rfl
 ·obtain rfl:=lf h
  have z:=bU (eu.ln a)<|cY (e:=.exit 0) (s1:=fy (.inr o5)) (rh a (a.length:Int) 0 ([]:List (ae×Bool)) bo5)<|en (aI (rP (.bool true))<|trivial)
  exact cH Pn call159 func159 (c:=Rk) rfl (aI (am bO a) trivial) z<|by kernel_rfl
noncomputable def Vr:Code:=f140.body.getD .skip
def Vc:List Nat:=[]
def sX(a:waA):Option Bool:=
 (zr a).bind fun r1=>
 some (!r1)
theorem rO{a:waA}{r:Bool}(h:sX a=some r):CC Pg GE 140 [sl cS a] (.bool r) []:=by
 obtain⟨r1,br1,h⟩:=aG h
 obtain rfl:=lf h
 have z:=du (Dr br1)<|en (aI (rP (.bool (!r1)))<|trivial)
 exact cH Vc call140 func140 (c:=Vr) rfl (aI (am bO a) trivial) z<|by kernel_rfl
end Go.Proofs.YtkdahfeiedaahaaGreatDoor
