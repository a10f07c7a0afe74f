/- PROVED: a part of the proof. Conditions: none. -/
import Derived.Test.YtkdahfeiedaahaaGreatDoorPkA17
noncomputable section
namespace Go.Proofs.YtkdahfeiedaahaaGreatDoor
open Go Go.Proofs.Tryz
set_option linter.unusedVariables false
set_option maxRecDepth 100000
noncomputable def qdM:Code:=f65.body.getD .skip
def qdw:List Nat:=[]
def jQ(a:af)(k0:Int):Option (Bool×Int):=
 (wr a).bind fun r1=>
 some (r1==0,r1)
theorem Iw{a:af}{k0:Int}{r:Bool×Int}(h:jQ a k0=some r):C Pg GE 65 [.agg (ac a),.bptr 0 0] [] [.cells [.int .i64 k0] []] (.bool r.1) [] [.cells [.int .i64 r.2] []]:=by
 obtain⟨r1,br1,h⟩:=aG h
 obtain rfl:=lf h
 have z:=se (bX a)<|sv (aX a)<|cm (ND br1)<|ss<|ss<|en (aI (rP (.bool (r1==0)))<|aI trivial<|aI (rL [.cells [.int .i64 r1] []])<|(aI (aI trivial trivial) trivial))
 exact C.evGp (A:=qdw) mixed (m:=1) (c:=qdM) rfl call65 func65 rfl z<|by kernel_rfl
section
variable(R58:gq)(e:af)(t14:waD)(t15:Int)(t16:Int)(m:Int)
def fm:aB:=aZ 38 [(1,.func (.func 65) [] [.bptr 0 0]),(2,.eptr (ac e)),(14,sl ac t14),(15,.int .i64 t15),(16,.int .i64 t16)] [.cells [.int .i64 m] [],.dead] []
def fo(o:Int⊕(Int)):Exit:=match o with
 |(.inl _)=>.ret
 |(.inr _)=>.exit 0
def dv(o:Int⊕(Int)):aB:=match o with
 |(.inl o)=>aZ 38 [(4,.bool false)] [.cells [.int .i64 o] [],.dead] []
 |(.inr o)=>aZ 38 [(1,.func (.func 65) [] [.bptr 0 0]),(2,.eptr (ac e))] [.cells [.int .i64 o] [],.dead] []
def du:Option ((Int×Int)⊕(Int⊕(Int))):=
 if(decide (t16<t15))=true then
  (fy t14 t16).bind fun x5=>
  (R58 x5 m).bind fun r6=>
  if(!r6.1)=true then
   some (.inr (.inl r6.2))
  else
   some (.inl (bN (t16+1),r6.2))
 else
  some (.inr (.inr m))
def tV:Option (Int⊕(Int)):=loop (fun(zz:Int×Int)=>du R58 t14 t15 zz.1 zz.2) (t16,m)
theorem zl(hR58:gn R58){y:(Int×Int)⊕(Int⊕(Int))}(h:du R58 t14 t15 t16 m=some y):aU Pg GE 1 (cA LC 119) (LQ (fun(zz:Int×Int)=>fm e t14 t15 zz.1 zz.2) fo (dv e) y) (fm e t14 t15 t16 m):=by
 rcases aH h with⟨c4,h⟩|⟨c4,h⟩
 ·obtain⟨x5,bx5,h⟩:=aG h
  obtain⟨r6,br6,h⟩:=aG h
  have p8:=fun{sc F} (r:PS sc F)=>sg 0 c4<|sv (eP.ia (k:=.i64) bx5)<|sv (aX x5)<|sx BJ<|sx (kl x5)<|sv (cz x5 [])<|si (.cg ⟨[0],[.agg (ac x5),.func (.func 65) [] [.bptr 0 0]],[],[.cells [.int .i64 m] []],[.cells [.int .i64 m] []],[.cells [.int .i64 r6.2] []],[.cells [.int .i64 r6.2] []],.bool r6.1,.bool r6.1,[]⟩) (hR58 _ _ _ br6)<|sf (aI (xR [0] (.agg (ac x5)) (al x5)) (aI (xF [0] (.func 65) [] [.bptr 0 0] [] [.bptr 0 0] trivial (aI (xB [0] 0 0 0 rfl) trivial)) trivial))<|sf (aI (aI (rB (.cells [.int .i64 m] [])) (aI (rW []) (aI (xR [0] (.int .i64 m) trivial) trivial))) trivial)<|sf (aI (aI (rW []) (aI (xR [0] (.int .i64 r6.2) trivial) trivial)) trivial)<|sf (xR [0] (.bool r6.1) trivial)<|r
  rcases aH h with⟨c7,h⟩|⟨c7,h⟩
  ·obtain rfl:=lf h
   have z:=p8<|sg 0 c7<|vY 1 (fo (.inl r6.2)) (dv e (.inl r6.2)) rfl (dI (aI trivial trivial)) (aI (aI trivial trivial) (aI trivial trivial))
   exact ql (A:=Hf) mixed (by intro hx;cases hx) z<|by kernel_rfl
  ·obtain rfl:=lf h
   have z:=p8<|sg 0 c7<|vY 1 .normal (fm e t14 t15 (bN (t16+1)) r6.2) rfl (dI (aI (aI trivial (aI (bR rfl) trivial)) (aI (bH (al e)) (aI (up (aw al t14)) (aI trivial (aI trivial trivial)))))) (aI (aI trivial trivial) (aI trivial trivial))
   exact eA (A:=Hf) mixed z<|by kernel_rfl
 ·obtain rfl:=lf h
  have z:=sg 0 c4<|eF (fo (.inr m)) (dv e (.inr m))
  exact gu Hf (by intro hx;cases hx) z<|by kernel_rfl
theorem ke(hR58:gn R58){x:Int⊕(Int)}(h:tV R58 t14 t15 t16 m=some x):aU Pg GE 1 (.loop (cA LC 119)) (EX (fo x) (dv e x)) (fm e t14 t15 t16 m):=
 aU.loop (S:=fun(zz:Int×Int)=>fm e t14 t15 zz.1 zz.2) (ex:=fo) (s:=(t16,m)) h fun zz y hy=>zl R58 e t14 t15 zz.1 zz.2 hR58 hy
end
section
variable(R58:gq)(t26:waC)(t27:Int)(t28:Int)(m:Int)
def fp:aB:=aZ 38 [(1,.func (.func 65) [] [.bptr 0 0]),(26,sl aF t26),(27,.int .i64 t27),(28,.int .i64 t28)] [.cells [.int .i64 m] [],.dead] []
def fq(o:Int⊕(Int)):Exit:=match o with
 |(.inl _)=>.ret
 |(.inr _)=>.exit 2
def ew(o:Int⊕(Int)):aB:=match o with
 |(.inl o)=>aZ 38 [(4,.bool false)] [.cells [.int .i64 o] [],.dead] []
 |(.inr o)=>aZ 38 [] [.cells [.int .i64 o] [],.dead] []
def dw:Option ((Int×Int)⊕(Int⊕(Int))):=
 if(decide (t28<t27))=true then
  (fy t26 t28).bind fun x11=>
  (R58 x11.Body m).bind fun r12=>
  if(!r12.1)=true then
   some (.inr (.inl r12.2))
  else
   some (.inl (bN (t28+1),r12.2))
 else
  some (.inr (.inr m))
def tW:Option (Int⊕(Int)):=loop (fun(zz:Int×Int)=>dw R58 t26 t27 zz.1 zz.2) (t28,m)
theorem zm(hR58:gn R58){y:(Int×Int)⊕(Int⊕(Int))}(h:dw R58 t26 t27 t28 m=some y):aU Pg GE 1 (cA LC 247) (LQ (fun(zz:Int×Int)=>fp t26 t27 zz.1 zz.2) fq ew y) (fp t26 t27 t28 m):=by
 rcases aH h with⟨c10,h⟩|⟨c10,h⟩
 ·obtain⟨x11,bx11,h⟩:=aG h
  obtain⟨r12,br12,h⟩:=aG h
  have p14:=fun{sc F} (r:PS sc F)=>sg 0 c10<|sv (dZ.ia (k:=.i64) bx11)<|sv (mt x11)<|sx Ip<|sx (iV x11)<|sv (cz x11.Body [])<|si (.cg ⟨[0],[.agg (ac x11.Body),.func (.func 65) [] [.bptr 0 0]],[],[.cells [.int .i64 m] []],[.cells [.int .i64 m] []],[.cells [.int .i64 r12.2] []],[.cells [.int .i64 r12.2] []],.bool r12.1,.bool r12.1,[]⟩) (hR58 _ _ _ br12)<|sf (aI (xR [0] (.agg (ac x11.Body)) (al x11.Body)) (aI (xF [0] (.func 65) [] [.bptr 0 0] [] [.bptr 0 0] trivial (aI (xB [0] 0 0 0 rfl) trivial)) trivial))<|sf (aI (aI (rB (.cells [.int .i64 m] [])) (aI (rW []) (aI (xR [0] (.int .i64 m) trivial) trivial))) trivial)<|sf (aI (aI (rW []) (aI (xR [0] (.int .i64 r12.2) trivial) trivial)) trivial)<|sf (xR [0] (.bool r12.1) trivial)<|r
  rcases aH h with⟨c13,h⟩|⟨c13,h⟩
  ·obtain rfl:=lf h
   have z:=p14<|sg 0 c13<|vY 1 (fq (.inl r12.2)) (ew (.inl r12.2)) rfl (dI (aI trivial trivial)) (aI (aI trivial trivial) (aI trivial trivial))
   exact ql (A:=Hf) mixed (by intro hx;cases hx) z<|by kernel_rfl
  ·obtain rfl:=lf h
   have z:=p14<|sg 0 c13<|vY 1 .normal (fp t26 t27 (bN (t28+1)) r12.2) rfl (dI (aI (aI trivial (aI (bR rfl) trivial)) (aI (up (aw bE t26)) (aI trivial (aI trivial trivial))))) (aI (aI trivial trivial) (aI trivial trivial))
   exact eA (A:=Hf) mixed z<|by kernel_rfl
 ·obtain rfl:=lf h
  have z:=sg 0 c10<|eF (fq (.inr m)) (ew (.inr m))
  exact gu Hf (by intro hx;cases hx) z<|by kernel_rfl
theorem qd(hR58:gn R58){x:Int⊕(Int)}(h:tW R58 t26 t27 t28 m=some x):aU Pg GE 1 (.loop (cA LC 247)) (EX (fq x) (ew x)) (fp t26 t27 t28 m):=
 aU.loop (S:=fun(zz:Int×Int)=>fp t26 t27 zz.1 zz.2) (ex:=fq) (s:=(t28,m)) h fun zz y hy=>zm R58 t26 t27 zz.1 zz.2 hR58 hy
end
def j0(R58:gq)(e:af)(k0:Int):Option (Bool×Int):=
 (jQ e k0).bind fun r1=>
 if(!r1.1)=true then
  some (false,r1.2)
 else
  (tV R58 e.Kids (e.Kids.length:Int) 0 r1.2).bind fun o9=>match o9 with
  |(.inl o9)=>
   some (false,o9)
  | (.inr o9) =>
   (tW R58 e.Alts (e.Alts.length:Int) 0 o9).bind fun o15=>match o15 with
   |(.inl o15)=>
    some (false,o15)
   |(.inr o15)=>
    some (true,o15)
theorem BO(R58:gq)(hR58:gn R58){e:af}{k0:Int}{r:Bool×Int}(h:j0 R58 e k0=some r):C Pg GE 64 [.agg (ac e),.func (.func 65) [] [.bptr 0 0]] [] [.cells [.int .i64 k0] []] (.bool r.1) [] [.cells [.int .i64 r.2] []]:=by
 obtain⟨r1,br1,h⟩:=aG h
 have p3:=fun{sc F} (r:PS sc F)=>se (bX e)<|sv (aX e)<|si (.cg ⟨[0],[.agg (ac e),.bptr 0 0],[],[.cells [.int .i64 k0] []],[.cells [.int .i64 k0] []],[.cells [.int .i64 r1.2] []],[.cells [.int .i64 r1.2] []],.bool r1.1,.bool r1.1,[]⟩) (Iw br1)<|sf (aI (xR [0] (.agg (ac e)) (al e)) (aI (xB [0] 0 0 0 rfl) trivial))<|sf (aI (aI (rB (.cells [.int .i64 k0] [])) (aI (rW []) (aI (xR [0] (.int .i64 k0) trivial) trivial))) trivial)<|sf (aI (aI (rW []) (aI (xR [0] (.int .i64 r1.2) trivial) trivial)) trivial)<|sf (xR [0] (.bool r1.1) trivial)<|r
 rcases aH h with⟨c2,h⟩|⟨c2,h⟩
 ·obtain rfl:=lf h
  have z:=p3<|sg 0 c2<|en (aI (rP (.bool false))<|aI trivial<|aI (rL [.cells [.int .i64 r1.2] []])<|(aI (aI trivial trivial) trivial))
  exact C.evGp (A:=Hf) mixed (m:=1) (c:=LC) rfl call64 func64 rfl z<|by kernel_rfl
 ·obtain⟨o9,bo9,h⟩:=aG h
  rcases o9 with o9|o9
  ·obtain rfl:=lf h
   have z:=p3<|sg 0 c2<|sv (a8 e)<|sv (be e)<|bF (eP.ln e.Kids)<|cK (e:=.ret) (s1:=dv e (.inl o9)) (ke R58 e e.Kids (e.Kids.length:Int) 0 r1.2 hR58 bo9)<|en (aI (rP (.bool false))<|aI trivial<|aI (rL [.cells [.int .i64 o9] []])<|(aI (aI trivial trivial) trivial))
   exact C.evGp (A:=Hf) mixed (m:=1) (c:=LC) rfl call64 func64 rfl z<|by kernel_rfl
  ·obtain⟨o15,bo15,h⟩:=aG h
   rcases o15 with o15|o15
   ·obtain rfl:=lf h
    have z:=p3<|sg 0 c2<|sv (a8 e)<|sv (be e)<|bF (eP.ln e.Kids)<|cK (e:=.exit 0) (s1:=dv e (.inr o9)) (ke R58 e e.Kids (e.Kids.length:Int) 0 r1.2 hR58 bo9)<|sv (aD e)<|sv (aE e)<|bF (dZ.ln e.Alts)<|cK (e:=.ret) (s1:=ew (.inl o15)) (qd R58 e.Alts (e.Alts.length:Int) 0 o9 hR58 bo15)<|en (aI (rP (.bool false))<|aI trivial<|aI (rL [.cells [.int .i64 o15] []])<|(aI (aI trivial trivial) trivial))
    exact C.evGp (A:=Hf) mixed (m:=1) (c:=LC) rfl call64 func64 rfl z<|by kernel_rfl
   ·obtain rfl:=lf h
    have z:=p3<|sg 0 c2<|sv (a8 e)<|sv (be e)<|bF (eP.ln e.Kids)<|cK (e:=.exit 0) (s1:=dv e (.inr o9)) (ke R58 e e.Kids (e.Kids.length:Int) 0 r1.2 hR58 bo9)<|sv (aD e)<|sv (aE e)<|bF (dZ.ln e.Alts)<|cK (e:=.exit 2) (s1:=ew (.inr o15)) (qd R58 e.Alts (e.Alts.length:Int) 0 o9 hR58 bo15)<|en (aI (rP (.bool true))<|aI trivial<|aI (rL [.cells [.int .i64 o15] []])<|(aI (aI trivial trivial) trivial))
    exact C.evGp (A:=Hf) mixed (m:=1) (c:=LC) rfl call64 func64 rfl z<|by kernel_rfl
def nY:((af×Int)->Option (Bool×Int))->(af×Int)->Option (Bool×Int):=fun(rec:(af×Int)->Option (Bool×Int)) (x:af×Int)=>j0 (fun e k0=>rec (e,k0)) x.1 x.2
def ll(e:af)(k0:Int):Option (Bool×Int):=sS nY (e,k0)
theorem CG{e:af}{k0:Int}{r:Bool×Int}(h:ll e k0=some r):C Pg GE 64 [.agg (ac e),.func (.func 65) [] [.bptr 0 0]] [] [.cells [.int .i64 k0] []] (.bool r.1) [] [.cells [.int .i64 r.2] []]:=
 eg (F:=nY) (M:=fun(x:af×Int) (r:Bool×Int)=>C Pg GE 64 [.agg (ac x.1),.func (.func 65) [] [.bptr 0 0]] [] [.cells [.int .i64 x.2] []] (.bool r.1) [] [.cells [.int .i64 r.2] []]) (fun rec hrec x r h=>BO _ (fun e k0 r h=>hrec (e,k0) r h) h) h
noncomputable def qcd:Code:=f17.body.getD .skip
def qbQ:List Nat:=[]
def pT(e:af):Option Int:=
 (pU e).bind fun r1=>
 if(decide (r1>400))=true then
  some 7
 else
  (tE e).bind fun r4=>
  if(decide (r4>40))=true then
   some 8
  else
   (ll e 0).bind fun r7=>
   some r7.2
theorem wO{e:af}{r:Int}(h:pT e=some r):CC Pg GE 17 [.agg (ac e)] (.int .i64 r) []:=by
 obtain⟨r1,br1,h⟩:=aG h
 have p3:=fun{sc F} (r:PS sc F)=>se (bX e)<|sv (aX e)<|cm (wQ br1)<|r
 rcases aH h with⟨c2,h⟩|⟨c2,h⟩
 ·obtain rfl:=lf h
  have z:=p3<|sg 0 c2<|en (aI (rP (.int .i64 7))<|trivial)
  exact bI qbQ call17 func17 (c:=qcd) rfl (aI (al e) trivial) z<|by kernel_rfl
 ·obtain⟨r4,br4,h⟩:=aG h
  have p6:=fun{sc F} (r:PS sc F)=>p3<|sg 0 c2<|sv (aX e)<|cm (wP br4)<|r
  rcases aH h with⟨c5,h⟩|⟨c5,h⟩
  ·obtain rfl:=lf h
   have z:=p6<|sg 0 c5<|en (aI (rP (.int .i64 8))<|trivial)
   exact bI qbQ call17 func17 (c:=qcd) rfl (aI (al e) trivial) z<|by kernel_rfl
  ·obtain⟨r7,br7,h⟩:=aG h
   obtain rfl:=lf h
   have z:=p6<|sg 0 c5<|sx qcM<|ss<|sv (aX e)<|si (.cg ⟨[1],[.agg (ac e),.func (.func 65) [] [.bptr 0 0]],[],[.cells [.int .i64 0] []],[.cells [.int .i64 0] []],[.cells [.int .i64 r7.2] []],[.cells [.int .i64 r7.2] []],.bool r7.1,.bool r7.1,[]⟩) (CG br7)<|sf (aI (xR [1] (.agg (ac e)) (al e)) (aI (xF [1] (.func 65) [] [.bptr 1 0] [] [.bptr 0 0] trivial (aI (xB [1] 0 1 0 rfl) trivial)) trivial))<|sf (aI (aI (rB (.cells [.int .i64 0] [])) (aI (rW []) (aI (xR [1] (.int .i64 0) trivial) trivial))) trivial)<|sf (aI (aI (rW []) (aI (xR [1] (.int .i64 r7.2) trivial) trivial)) trivial)<|sf (xR [1] (.bool r7.1) trivial)<|ss<|en (aI (rP (.int .i64 r7.2))<|trivial)
   exact bI qbQ call17 func17 (c:=qcd) rfl (aI (al e) trivial) z<|by kernel_rfl
noncomputable def Y7:Code:=f11.body.getD .skip
def YQ:List Nat:=[]
def EW:Option Bool:=
 (gW ([120]:ah)).bind fun r1=>
 (gW ([120]:ah)).bind fun r2=>
 (gW ([121]:ah)).bind fun r3=>
 (EY ([120]:ah) r1 (⟨5,([102]:ah),0,([r2,r3]:List af),([]:List aA),([]:List aT),([]:List ak)⟩:af)).bind fun r4=>
 (gW ([120]:ah)).bind fun r5=>
 (gW ([120]:ah)).bind fun r6=>
 (EY ([120]:ah) r5 r6).bind fun r7=>
 (EY ([120]:ah) (⟨1,([]:ah),1,([]:List af),([]:List aA),([]:List aT),([]:List ak)⟩:af) r7).bind fun r8=>
 (Gi r8).bind fun r9=>
 (D0 ([120]:ah) ([121]:ah)).bind fun r10=>
 (D0 ([120,49]:ah) ([120]:ah)).bind fun r11=>
 (EE (⟨r4.Op,r4.Name,r4.N,r4.Kids,r4.Params,r4.Alts,r4.Types⟩:af)).bind fun r12=>
 (nH r12 ([([102]:ah),([120]:ah),([121]:ah)]:List ah)).bind fun r13=>
 if r13=true then
  (gW ([120]:ah)).bind fun r16=>
  (gW ([120,49]:ah)).bind fun r17=>
  (EY ([120,49]:ah) r16 r17).bind fun r18=>
  (EY ([120]:ah) (⟨1,([]:ah),1,([]:List af),([]:List aA),([]:List aT),([]:List ak)⟩:af) r18).bind fun r19=>
  (DH r9 r19).bind fun r20=>
  if r20=true then
   (Iy (⟨6,([]:ah),0,([r10]:List af),([(⟨([120]:ah),(⟨0,([]:ah),([]:List ak),([]:List ah),(⟨0,([]:ah),0,([]:List az)⟩:az),([]:List az)⟩:ak)⟩:aA)]:List aA),([]:List aT),([]:List ak)⟩:af) ([121]:ah) ([120]:ah)).bind fun r23=>
   (DH r23 (⟨6,([]:ah),0,([r11]:List af),([(⟨([120,49]:ah),(⟨0,([]:ah),([]:List ak),([]:List ah),(⟨0,([]:ah),0,([]:List az)⟩:az),([]:List az)⟩:ak)⟩:aA)]:List aA),([]:List aT),([]:List ak)⟩:af)).bind fun r24=>
   if r24=true then
    (pT r4).bind fun r27=>
    if (r27 == 0) = true then
     (pT (⟨3,([105,102]:ah),0,([]:List af),([]:List aA),([]:List aT),([]:List ak)⟩:af)).bind fun r30=>
     if(r30==3)=true then
      (pU r4).bind fun r33=>
      if(r33==5)=true then
       (tE r4).bind fun r36=>
       some (r36==3)
      else
       some false
     else
      some false
    else
     some false
   else
    some false
  else
   some false
 else
  some false
theorem Hv{r:Bool}(h:EW=some r):CC Pg GE 11 [] (.bool r) []:=by
 obtain⟨r1,br1,h⟩:=aG h
 obtain⟨r2,br2,h⟩:=aG h
 obtain⟨r3,br3,h⟩:=aG h
 obtain⟨r4,br4,h⟩:=aG h
 obtain⟨r5,br5,h⟩:=aG h
 obtain⟨r6,br6,h⟩:=aG h
 obtain⟨r7,br7,h⟩:=aG h
 obtain⟨r8,br8,h⟩:=aG h
 obtain⟨r9,br9,h⟩:=aG h
 obtain⟨r10,br10,h⟩:=aG h
 obtain⟨r11,br11,h⟩:=aG h
 obtain⟨r12,br12,h⟩:=aG h
 obtain⟨r13,br13,h⟩:=aG h
 have p15:=fun{sc F} (r:PS sc F)=>cm (fA br1)<|cm (fA br2)<|cm (fA br3)<|sv (eP.mk' (v:=rJ) lI ([r2,r3]:List af) 2 (by kernel_rfl))<|sb (D6 5 ([102]:ah) ([r2,r3]:List af)) (D4 5 ([102]:ah) ([r2,r3]:List af))<|cm (yM br4)<|sx BJ<|sy (cc r4)<|sb (Qi 1 1) (Qg 1 1)<|sx BJ<|sy (cc (⟨1,([]:ah),1,([]:List af),([]:List aA),([]:List aT),([]:List ak)⟩:af))<|OO [0,0,2,6,15,31,0,127]<|sv (cz (⟨1,([]:ah),1,([]:List af),([]:List aA),([]:List aT),([]:List ak)⟩:af) [])<|cm (fA br5)<|cm (fA br6)<|cm (yM br7)<|cm (yM br8)<|cm (JV br9)<|qd2 (kl r9)<|sb (Ke ([120]:ah)) (Kd ([120]:ah))<|sv (il.mk' (v:=EP) Ct ([(⟨([120]:ah),(⟨0,([]:ah),([]:List ak),([]:List ah),(⟨0,([]:ah),0,([]:List az)⟩:az),([]:List az)⟩:ak)⟩:aA)]:List aA) 1 (by kernel_rfl))<|cm (D1 br10)<|sv (eP.mk' (v:=rJ) lI ([r10]:List af) 1 (by kernel_rfl))<|sb (D7 6 ([(⟨([120]:ah),(⟨0,([]:ah),([]:List ak),([]:List ah),(⟨0,([]:ah),0,([]:List az)⟩:az),([]:List az)⟩:ak)⟩:aA)]:List aA) ([r10]:List af)) (D5 6 ([(⟨([120]:ah),(⟨0,([]:ah),([]:List ak),([]:List ah),(⟨0,([]:ah),0,([]:List az)⟩:az),([]:List az)⟩:ak)⟩:aA)]:List aA) ([r10]:List af))<|sx BJ<|sy (cc (⟨6,([]:ah),0,([r10]:List af),([(⟨([120]:ah),(⟨0,([]:ah),([]:List ak),([]:List ah),(⟨0,([]:ah),0,([]:List az)⟩:az),([]:List az)⟩:ak)⟩:aA)]:List aA),([]:List aT),([]:List ak)⟩:af))<|sb (Ke ([120,49]:ah)) (Kd ([120,49]:ah))<|sv (il.mk' (v:=EP) Ct ([(⟨([120,49]:ah),(⟨0,([]:ah),([]:List ak),([]:List ah),(⟨0,([]:ah),0,([]:List az)⟩:az),([]:List az)⟩:ak)⟩:aA)]:List aA) 1 (by kernel_rfl))<|cm (D1 br11)<|sv (eP.mk' (v:=rJ) lI ([r11]:List af) 1 (by kernel_rfl))<|sb (D7 6 ([(⟨([120,49]:ah),(⟨0,([]:ah),([]:List ak),([]:List ah),(⟨0,([]:ah),0,([]:List az)⟩:az),([]:List az)⟩:ak)⟩:aA)]:List aA) ([r11]:List af)) (D5 6 ([(⟨([120,49]:ah),(⟨0,([]:ah),([]:List ak),([]:List ah),(⟨0,([]:ah),0,([]:List az)⟩:az),([]:List az)⟩:ak)⟩:aA)]:List aA) ([r11]:List af))<|sx BJ<|sy (cc (⟨6,([]:ah),0,([r11]:List af),([(⟨([120,49]:ah),(⟨0,([]:ah),([]:List ak),([]:List ah),(⟨0,([]:ah),0,([]:List az)⟩:az),([]:List az)⟩:ak)⟩:aA)]:List aA),([]:List aT),([]:List ak)⟩:af))<|OO [0,1,0,7,15,31,31,31,159,415,991,2047,4095,8191,16383,32767,16383,131071,262143,524287,1048575,2097151,4194303,8388607,16777215,33554431,67108863,134217727,268435455,536870911,1073741823,2147483647,4294967295,8589934591,17179869183,34359738367,68719476735,137438953471,274877906943,549755813887]<|sv (cz (⟨r4.Op,r4.Name,r4.N,r4.Kids,r4.Params,r4.Alts,r4.Types⟩:af) [])<|cm (EF br12)<|sv (cO.mk' (v:=PVal.str) OF ([([102]:ah),([120]:ah),([121]:ah)]:List ah) 3 (by kernel_rfl))<|cm (uz br13)<|r
 rcases aH h with⟨c14,h⟩|⟨c14,h⟩
 ·obtain⟨r16,br16,h⟩:=aG h
  obtain⟨r17,br17,h⟩:=aG h
  obtain⟨r18,br18,h⟩:=aG h
  obtain⟨r19,br19,h⟩:=aG h
  obtain⟨r20,br20,h⟩:=aG h
  have p22:=fun{sc F} (r:PS sc F)=>p15<|sg 5 c14<|sv (cz r9 [])<|sv (cz (⟨1,([]:ah),1,([]:List af),([]:List aA),([]:List aT),([]:List ak)⟩:af) [])<|cm (fA br16)<|cm (fA br17)<|cm (yM br18)<|cm (yM br19)<|cm (DQ br20)<|r
  rcases aH h with⟨c21,h⟩|⟨c21,h⟩
  ·obtain⟨r23,br23,h⟩:=aG h
   obtain⟨r24,br24,h⟩:=aG h
   have p26:=fun{sc F} (r:PS sc F)=>p22<|sg 14 c21<|sv (cz (⟨6,([]:ah),0,([r10]:List af),([(⟨([120]:ah),(⟨0,([]:ah),([]:List ak),([]:List ah),(⟨0,([]:ah),0,([]:List az)⟩:az),([]:List az)⟩:ak)⟩:aA)]:List aA),([]:List aT),([]:List ak)⟩:af) [])<|cm (Lr br23)<|sv (cz (⟨6,([]:ah),0,([r11]:List af),([(⟨([120,49]:ah),(⟨0,([]:ah),([]:List ak),([]:List ah),(⟨0,([]:ah),0,([]:List az)⟩:az),([]:List az)⟩:ak)⟩:aA)]:List aA),([]:List aT),([]:List ak)⟩:af) [])<|cm (DQ br24)<|r
   rcases aH h with⟨c25,h⟩|⟨c25,h⟩
   ·obtain⟨r27,br27,h⟩:=aG h
    have p29:=fun{sc F} (r:PS sc F)=>p26<|sg 20 c25<|sv (cz r4 [])<|cm (wO br27)<|r
    rcases aH h with⟨c28,h⟩|⟨c28,h⟩
    ·obtain⟨r30,br30,h⟩:=aG h
     have p32:=fun{sc F} (r:PS sc F)=>p29<|sg 25 c28<|sb (HJ 3 ([105,102]:ah)) (HE 3 ([105,102]:ah))<|cm (wO br30)<|r
     rcases aH h with⟨c31,h⟩|⟨c31,h⟩
     ·obtain⟨r33,br33,h⟩:=aG h
      have p35:=fun{sc F} (r:PS sc F)=>p32<|sg 30 c31<|sv (cz r4 [])<|cm (wQ br33)<|r
      rcases aH h with⟨c34,h⟩|⟨c34,h⟩
      ·obtain⟨r36,br36,h⟩:=aG h
       obtain rfl:=lf h
       have z:=p35<|sg 35 c34<|sv (cz r4 [])<|cm (wP br36)<|en (aI (rP (.bool (r36==3)))<|trivial)
       exact bI YQ call11 func11 (c:=Y7) rfl trivial z<|by kernel_rfl
      ·obtain rfl:=lf h
       have z:=p35<|sg 35 c34<|en (aI (rP (.bool false))<|trivial)
       exact bI YQ call11 func11 (c:=Y7) rfl trivial z<|by kernel_rfl
     ·obtain rfl:=lf h
      have z:=p32<|sg 30 c31<|en (aI (rP (.bool false))<|trivial)
      exact bI YQ call11 func11 (c:=Y7) rfl trivial z<|by kernel_rfl
    ·obtain rfl:=lf h
     have z:=p29<|sg 25 c28<|en (aI (rP (.bool false))<|trivial)
     exact bI YQ call11 func11 (c:=Y7) rfl trivial z<|by kernel_rfl
   ·obtain rfl:=lf h
    have z:=p26<|sg 20 c25<|en (aI (rP (.bool false))<|trivial)
    exact bI YQ call11 func11 (c:=Y7) rfl trivial z<|by kernel_rfl
  ·obtain rfl:=lf h
   have z:=p22<|sg 14 c21<|en (aI (rP (.bool false))<|trivial)
   exact bI YQ call11 func11 (c:=Y7) rfl trivial z<|by kernel_rfl
 ·obtain rfl:=lf h
  have z:=p15<|sg 5 c14<|en (aI (rP (.bool false))<|trivial)
  exact bI YQ call11 func11 (c:=Y7) rfl trivial z<|by kernel_rfl
noncomputable def qcl:Code:=f69.body.getD .skip
def qbX:List Nat:=[16,25]
section
variable(e:af)(out:waD)(i:Int)
def mE:aB:=aZ 26 [(1,.eptr (ac e)),(3,sl ac out),(4,.int .i64 i)] [.dead] [((3,0),28)]
def wC(o:waD):aB:=aZ 26 [(3,sl ac o)] [.dead] [((3,0),28)]
def iM:Option ((waD×Int)⊕(waD)):=
 if(decide (i<(e.Alts.length:Int)))=true then
  (fy e.Alts i).bind fun x4=>
  (app out ([x4.Body]:List af)).bind fun l5=>
  some (.inl (l5,bN (i+1)))
 else
  some (.inr out)
def qR:Option waD:=loop (fun(zz:waD×Int)=>iM e zz.1 zz.2) (out,i)
theorem Hq{y:(waD×Int)⊕(waD)}(h:iM e out i=some y):aU Pg GE 0 (cA qcl 119) (LQ (fun(zz:waD×Int)=>mE e zz.1 zz.2) (fun _=>.exit 0) wC y) (mE e out i):=by
 have p3:=fun{sc F} (r:PS sc F)=>sv (aD e)<|sv (aE e)<|bF (dZ.ln e.Alts)<|r
 rcases aH h with⟨c2,h⟩|⟨c2,h⟩
 ·obtain⟨x4,bx4,h⟩:=aG h
  obtain⟨l5,bl5,h⟩:=aG h
  obtain rfl:=lf h
  exact wv qbX (p3<|sg 0 c2<|sv (aD e)<|sv (aE e)<|sv (dZ.ia (k:=.i64) bx4)<|sv (pM x4)<|sv (pO x4)<|sv (eP.mk' (v:=rJ) lI ([x4.Body]:List af) 1 (by kernel_rfl))<|sv (eP.ap bl5)<|eF .normal (mE e l5 (bN (i+1))))<|by kernel_rfl
 ·obtain rfl:=lf h
  have z:=p3<|sg 0 c2<|eF (.exit 0) (wC out)
  exact gu qbX (by intro hx;cases hx) z<|by kernel_rfl
theorem IV{x:waD}(h:qR e out i=some x):aU Pg GE 0 (.loop (cA qcl 119)) (EX (.exit 0) (wC x)) (mE e out i):=
 aU.loop (S:=fun(zz:waD×Int)=>mE e zz.1 zz.2) (ex:=(fun _=>.exit 0)) (s:=(out,i)) h fun zz y hy=>Hq e zz.1 zz.2 hy
end
def uB(e:af):Option waD:=
 (app ([]:List af) e.Kids).bind fun l1=>
 (qR e l1 0).bind fun o6=>
 some o6
theorem AH{e:af}{r:waD}(h:uB e=some r):CC Pg GE 69 [.agg (ac e)] (sl ac r) [(0,28)]:=by
 obtain⟨l1,bl1,h⟩:=aG h
 obtain⟨o6,bo6,h⟩:=aG h
 obtain rfl:=lf h
 have z:=se (bX e)<|sv (eP.mk' (v:=rJ) lI ([]:List af) 0 (by kernel_rfl))<|sv (a8 e)<|sv (be e)<|sv (eP.ap bl1)<|cK (IV e l1 0 bo6)<|en (aI (rP (sl ac o6))<|(aw al o6))
 exact bI qbX call69 func69 (c:=qcl) rfl (aI (al e) trivial) z<|by kernel_rfl
noncomputable def XL:Code:=f111.body.getD .skip
def VM:List Nat:=[10,17]
section
variable(v:waA)(s:ah)(t7:Int)(t8:Int)
def qA:aB:=aZ 19 [(0,sl cS v),(1,.str s),(7,.int .i64 t7),(8,.int .i64 t8)] [] []
def qC(o:Int⊕(Unit)):Exit:=match o with
 |(.inl _)=>.ret
 |(.inr _)=>.exit 0
def nx(o:Int⊕(Unit)):aB:=match o with
 |(.inl o)=>aZ 19 [(4,.int .i64 o)] [] []
 |(.inr o)=>aZ 19 [] [] []
def qB:Option (Int⊕(Int⊕(Unit))):=
 if(decide (t8<t7))=true then
  (fy v t8).bind fun x2=>
  if(x2==s)=true then
   some (.inr (.inl t8))
  else
   some (.inl (bN (t8+1)))
 else
  some (.inr (.inr ()))
def Dr:Option (Int⊕(Unit)):=loop (fun(zz:Int)=>qB v s t7 zz) t8
theorem KE{y:Int⊕(Int⊕(Unit))}(h:qB v s t7 t8=some y):aU Pg GE 0 (cA XL 55) (LQ (fun(zz:Int)=>qA v s t7 zz) qC nx y) (qA v s t7 t8):=by
 rcases aH h with⟨c1,h⟩|⟨c1,h⟩
 ·obtain⟨x2,bx2,h⟩:=aG h
  have p4:=fun{sc F} (r:PS sc F)=>sg 0 c1<|sv (cO.ia (k:=.i64) bx2)<|sv (cT GS (.str x2) [])<|r
  rcases aH h with⟨c3,h⟩|⟨c3,h⟩
  ·obtain rfl:=lf h
   have z:=p4<|sg 0 c3<|eF (qC (.inl t8)) (nx (.inl t8))
   exact gu VM (by intro hx;cases hx) z<|by kernel_rfl
  ·obtain rfl:=lf h
   exact wv VM (p4<|sg 0 c3<|eF .normal (qA v s t7 (bN (t8+1))))<|by kernel_rfl
 ·obtain rfl:=lf h
  have z:=sg 0 c1<|eF (qC (.inr ())) (nx (.inr ()))
  exact gu VM (by intro hx;cases hx) z<|by kernel_rfl
theorem Ds{x:Int⊕(Unit)}(h:Dr v s t7 t8=some x):aU Pg GE 0 (.loop (cA XL 55)) (EX (qC x) (nx x)) (qA v s t7 t8):=
 aU.loop (S:=fun(zz:Int)=>qA v s t7 zz) (ex:=qC) (s:=t8) h fun zz y hy=>KE v s t7 zz hy
end
def Dq(a:waA)(s:ah):Option Int:=
 (Dr a s (a.length:Int) 0).bind fun o5=>match o5 with
 |(.inl o5)=>
  some o5
 |(.inr o5)=>
  some (-1)
theorem Ka{a:waA}{s:ah}{r:Int}(h:Dq a s=some r):CC Pg GE 111 [sl cS a,.str s] (.int .i64 r) []:=by
 obtain⟨o5,bo5,h⟩:=aG h
 rcases o5 with o5|o5
 ·obtain rfl:=lf h
  have z:=bF (cO.ln a)<|cK (e:=.ret) (s1:=nx (.inl o5)) (Ds a s (a.length:Int) 0 bo5)<|en (aI (rP (.int .i64 o5))<|trivial)
  exact bI VM call111 func111 (c:=XL) rfl (aI (aw cy a) (aI trivial trivial)) z<|by kernel_rfl
 ·obtain rfl:=lf h
  have z:=bF (cO.ln a)<|cK (e:=.exit 0) (s1:=nx (.inr o5)) (Ds a s (a.length:Int) 0 bo5)<|en (aI (rP (.int .i64 (-1)))<|trivial)
  exact bI VM call111 func111 (c:=XL) rfl (aI (aw cy a) (aI trivial trivial)) z<|by kernel_rfl
abbrev zX:=(af->Option Int)
abbrev Dl(R:zX):Prop:=∀(e:af) (r:Int),R e=some r->CC Pg GE 20 [.agg (ac e)] (.int .i64 r) []
noncomputable def qcg:Code:=f20.body.getD .skip
def qbT:List Nat:=[21]
section
variable(R106:zX)(v:waD)(n:Int)(i:Int)
def oP:aB:=aZ 22 [(3,.int .i64 n),(4,sl ac v),(5,.int .i64 i)] [.dead] [((4,0),28)]
def yy(o:Int):aB:=aZ 22 [(3,.int .i64 o)] [.dead] []
def jw:Option ((Int×Int)⊕(Int)):=
 if(decide (i<(v.length:Int)))=true then
  (fy v i).bind fun x3=>
  (R106 x3).bind fun r4=>
  some (.inl (bN (n+r4),bN (i+1)))
 else
  some (.inr n)
def xr:Option Int:=loop (fun(zz:Int×Int)=>jw R106 v zz.1 zz.2) (n,i)
theorem IT(hR106:Dl R106){y:(Int×Int)⊕(Int)}(h:jw R106 v n i=some y):aU Pg GE 0 (cA qcg 247) (LQ (fun(zz:Int×Int)=>oP v zz.1 zz.2) (fun _=>.exit 0) yy y) (oP v n i):=by
 rcases aH h with⟨c2,h⟩|⟨c2,h⟩
 ·obtain⟨x3,bx3,h⟩:=aG h
  obtain⟨r4,br4,h⟩:=aG h
  obtain rfl:=lf h
  exact wv qbT (bF (eP.ln v)<|sg 0 c2<|sv (eP.ia (k:=.i64) bx3)<|sv (aX x3)<|cm (hR106 _ _ br4)<|eF .normal (oP v (bN (n+r4)) (bN (i+1))))<|by kernel_rfl
 ·obtain rfl:=lf h
  have z:=bF (eP.ln v)<|sg 0 c2<|eF (.exit 0) (yy n)
  exact gu qbT (by intro hx;cases hx) z<|by kernel_rfl
theorem KV(hR106:Dl R106){x:Int}(h:xr R106 v n i=some x):aU Pg GE 0 (.loop (cA qcg 247)) (EX (.exit 0) (yy x)) (oP v n i):=
 aU.loop (S:=fun(zz:Int×Int)=>oP v zz.1 zz.2) (ex:=(fun _=>.exit 0)) (s:=(n,i)) h fun zz y hy=>IT R106 v zz.1 zz.2 hR106 hy
end
def zP(R106:zX)(e:af):Option Int:=
 (uB e).bind fun r1=>
 (xr R106 r1 1 0).bind fun o5=>
 some o5
theorem N4(R106:zX)(hR106:Dl R106){e:af}{r:Int}(h:zP R106 e=some r):CC Pg GE 20 [.agg (ac e)] (.int .i64 r) []:=by
 obtain⟨r1,br1,h⟩:=aG h
 obtain⟨o5,bo5,h⟩:=aG h
 obtain rfl:=lf h
 have z:=se (bX e)<|sv (aX e)<|cm (AH br1)<|cK (KV R106 r1 1 0 hR106 bo5)<|en (aI (rP (.int .i64 o5))<|trivial)
 exact bI qbT call20 func20 (c:=qcg) rfl (aI (al e) trivial) z<|by kernel_rfl
def DG:(af->Option Int)->(af)->Option Int:=fun(rec:af->Option Int) (x:af)=>zP (fun e=>rec e) x
def ES(e:af):Option Int:=sS DG e
theorem Hn{e:af}{r:Int}(h:ES e=some r):CC Pg GE 20 [.agg (ac e)] (.int .i64 r) []:=
 eg (F:=DG) (M:=fun(x:af) (r:Int)=>CC Pg GE 20 [.agg (ac x)] (.int .i64 r) []) (fun rec hrec x r h=>N4 _ (fun e r h=>hrec e r h) h) h
abbrev zW:=(af->Option Int)
abbrev Dk(R:zW):Prop:=∀(e:af) (r:Int),R e=some r->CC Pg GE 22 [.agg (ac e)] (.int .i64 r) []
noncomputable def qcj:Code:=f22.body.getD .skip
def qbW:List Nat:=[]
section
variable(R107:zW)(v:waD)(n:Int)(i:Int)
def oO:aB:=aZ 23 [(3,.int .i64 n),(4,sl ac v),(5,.int .i64 i)] [.dead] [((4,0),28)]
def yx(o:Int):aB:=aZ 23 [(3,.int .i64 o)] [.dead] []
def jv:Option ((Int×Int)⊕(Int)):=
 if(decide (i<(v.length:Int)))=true then
  (fy v i).bind fun x3=>
  (R107 x3).bind fun r4=>
  some (.inl ((if r4>n then r4 else n),bN (i+1)))
 else
  some (.inr n)
def xq:Option Int:=loop (fun(zz:Int×Int)=>jv R107 v zz.1 zz.2) (n,i)
theorem IS(hR107:Dk R107){y:(Int×Int)⊕(Int)}(h:jv R107 v n i=some y):aU Pg GE 0 (cA qcj 247) (LQ (fun(zz:Int×Int)=>oO v zz.1 zz.2) (fun _=>.exit 0) yx y) (oO v n i):=by
 rcases aH h with⟨c2,h⟩|⟨c2,h⟩
 ·obtain⟨x3,bx3,h⟩:=aG h
  obtain⟨r4,br4,h⟩:=aG h
  obtain rfl:=lf h
  exact wv qbW (bF (eP.ln v)<|sg 0 c2<|sv (eP.ia (k:=.i64) bx3)<|sv (aX x3)<|cm (hR107 _ _ br4)<|eF .normal (oO v (if r4>n then r4 else n) (bN (i+1))))<|by kernel_rfl
 ·obtain rfl:=lf h
  have z:=bF (eP.ln v)<|sg 0 c2<|eF (.exit 0) (yx n)
  exact gu qbW (by intro hx;cases hx) z<|by kernel_rfl
theorem KU(hR107:Dk R107){x:Int}(h:xq R107 v n i=some x):aU Pg GE 0 (.loop (cA qcj 247)) (EX (.exit 0) (yx x)) (oO v n i):=
 aU.loop (S:=fun(zz:Int×Int)=>oO v zz.1 zz.2) (ex:=(fun _=>.exit 0)) (s:=(n,i)) h fun zz y hy=>IS R107 v zz.1 zz.2 hR107 hy
end
def zO(R107:zW)(e:af):Option Int:=
 (uB e).bind fun r1=>
 (xq R107 r1 0 0).bind fun o5=>
 some (bN (o5+1))
theorem N3(R107:zW)(hR107:Dk R107){e:af}{r:Int}(h:zO R107 e=some r):CC Pg GE 22 [.agg (ac e)] (.int .i64 r) []:=by
 obtain⟨r1,br1,h⟩:=aG h
 obtain⟨o5,bo5,h⟩:=aG h
 obtain rfl:=lf h
 have z:=se (bX e)<|sv (aX e)<|cm (AH br1)<|cK (KU R107 r1 0 0 hR107 bo5)<|en (aI (rP (.int .i64 (bN (o5+1))))<|trivial)
 exact bI qbW call22 func22 (c:=qcj) rfl (aI (al e) trivial) z<|by kernel_rfl
def DF:(af->Option Int)->(af)->Option Int:=fun(rec:af->Option Int) (x:af)=>zO (fun e=>rec e) x
def ER(e:af):Option Int:=sS DF e
theorem Hm{e:af}{r:Int}(h:ER e=some r):CC Pg GE 22 [.agg (ac e)] (.int .i64 r) []:=
 eg (F:=DF) (M:=fun(x:af) (r:Int)=>CC Pg GE 22 [.agg (ac x)] (.int .i64 r) []) (fun rec hrec x r h=>N3 _ (fun e r h=>hrec e r h) h) h
abbrev Cf:=(af->Option Int)
abbrev Gp(R:Cf):Prop:=∀(e:af) (r:Int),R e=some r->CC Pg GE 67 [.agg (ac e)] (.int .i64 r) []
noncomputable def Fv:Code:=f146.body.getD .skip
def sP:List Nat:=[]
section
variable(t3:Int)
def Of:aB:=aZ 55 [(2,.bptr 0 0),(3,.int .i64 t3)] [.cells [.bool false,.bool false,.int .i64 0,.int .i64 0,.bool false,.bool false,.bool false,.bool false,.bool false] []] []
def AN(o:Bool):aB:=aZ 55 [(2,.bptr 0 0),(3,.int .i64 t3),(4,.bool o)] [.cells [.bool false,.bool false,.int .i64 0,.int .i64 0,.bool false,.bool false,.bool false,.bool false,.bool false] []] []
def DV:Option Bool:=
 if(t3==1)=true then
  some (t3==1)
 else
  some (t3==2)
theorem My{x:Bool}(h:DV t3=some x):aU Pg GE 0 (cA Fv 54) (EX .normal (AN t3 x)) (Of t3):=by
 rcases aH h with⟨c1,h⟩|⟨c1,h⟩
 ·obtain rfl:=lf h
  exact aY sP (sg 0 c1<|eF .normal (AN t3 (t3==1)))<|by kernel_rfl
 ·obtain rfl:=lf h
  exact aY sP (sg 0 c1<|eF .normal (AN t3 (t3==2)))<|by kernel_rfl
end
section
variable(t3:Int)
def Og:aB:=aZ 55 [(2,.bptr 0 0),(3,.int .i64 t3)] [.cells [.bool false,.bool false,.int .i64 0,.int .i64 0,.bool false,.bool false,.bool false,.bool false,.bool false] []] []
def eZ(o:Bool):aB:=aZ 55 [(2,.bptr 0 0),(3,.int .i64 t3),(29,.bool o)] [.cells [.bool false,.bool false,.int .i64 0,.int .i64 0,.bool false,.bool false,.bool false,.bool false,.bool false] []] []
def DW:Option Bool:=
 if(t3==10)=true then
  some (t3==10)
 else
  if(t3==11)=true then
   some (t3==11)
  else
   if(t3==12)=true then
    some (t3==12)
   else
    if(t3==13)=true then
     some (t3==13)
    else
     if(t3==14)=true then
      some (t3==14)
     else
      if(t3==16)=true then
       some (t3==16)
      else
       if(t3==17)=true then
        some (t3==17)
       else
        if(t3==18)=true then
         some (t3==18)
        else
         if(t3==19)=true then
          some (t3==19)
         else
          if(t3==20)=true then
           some (t3==20)
          else
           some (t3==24)
theorem Mz {x:Bool} (h:DW t3 = some x) :aU Pg GE 0 (cA Fv 3670014) (EX .normal (eZ t3 x)) (Og t3):=by
 rcases aH h with⟨c19,h⟩|⟨c19,h⟩
 ·obtain rfl:=lf h
  exact aY sP (sg 0 c19<|eF .normal (eZ t3 (t3==10)))<|by kernel_rfl
 ·rcases aH h with⟨c20,h⟩|⟨c20,h⟩
  ·obtain rfl:=lf h
   exact aY sP (sg 0 c19<|sg 0 c20<|eF .normal (eZ t3 (t3==11)))<|by kernel_rfl
  ·have p22:=fun{sc F} (r:PS sc F)=>sg 0 c19<|sg 0 c20<|r
   rcases aH h with⟨c21,h⟩|⟨c21,h⟩
   ·obtain rfl:=lf h
    exact aY sP (p22<|sg 0 c21<|eF .normal (eZ t3 (t3==12)))<|by kernel_rfl
   ·have p24:=fun{sc F} (r:PS sc F)=>p22<|sg 0 c21<|r
    rcases aH h with⟨c23,h⟩|⟨c23,h⟩
    ·obtain rfl:=lf h
     exact aY sP (p24<|sg 0 c23<|eF .normal (eZ t3 (t3==13)))<|by kernel_rfl
    ·have p26:=fun{sc F} (r:PS sc F)=>p24<|sg 0 c23<|r
     rcases aH h with⟨c25,h⟩|⟨c25,h⟩
     ·obtain rfl:=lf h
      exact aY sP (p26<|sg 0 c25<|eF .normal (eZ t3 (t3==14)))<|by kernel_rfl
     ·have p28:=fun{sc F} (r:PS sc F)=>p26<|sg 0 c25<|r
      rcases aH h with⟨c27,h⟩|⟨c27,h⟩
      ·obtain rfl:=lf h
       exact aY sP (p28<|sg 0 c27<|eF .normal (eZ t3 (t3==16)))<|by kernel_rfl
      ·have p30:=fun{sc F} (r:PS sc F)=>p28<|sg 0 c27<|r
       rcases aH h with⟨c29,h⟩|⟨c29,h⟩
       ·obtain rfl:=lf h
        exact aY sP (p30<|sg 0 c29<|eF .normal (eZ t3 (t3==17)))<|by kernel_rfl
       ·have p32:=fun{sc F} (r:PS sc F)=>p30<|sg 0 c29<|r
        rcases aH h with⟨c31,h⟩|⟨c31,h⟩
        ·obtain rfl:=lf h
         exact aY sP (p32<|sg 0 c31<|eF .normal (eZ t3 (t3==18)))<|by kernel_rfl
        ·have p34:=fun{sc F} (r:PS sc F)=>p32<|sg 0 c31<|r
         rcases aH h with⟨c33,h⟩|⟨c33,h⟩
         ·obtain rfl:=lf h
          exact aY sP (p34<|sg 0 c33<|eF .normal (eZ t3 (t3==19)))<|by kernel_rfl
         ·have p36:=fun{sc F} (r:PS sc F)=>p34<|sg 0 c33<|r
          rcases aH h with⟨c35,h⟩|⟨c35,h⟩
          ·obtain rfl:=lf h
           exact aY sP (p36<|sg 0 c35<|eF .normal (eZ t3 (t3==20)))<|by kernel_rfl
          ·obtain rfl:=lf h
           exact aY sP (p36<|sg 0 c35<|eF .normal (eZ t3 (t3==24)))<|by kernel_rfl
end
section
variable(t3:Int)
def Oh:aB:=aZ 55 [(2,.bptr 0 0),(3,.int .i64 t3)] [.cells [.bool false,.bool false,.int .i64 0,.int .i64 0,.bool false,.bool false,.bool false,.bool false,.bool false] []] []
def qT(o:Bool):aB:=aZ 55 [(2,.bptr 0 0),(3,.int .i64 t3),(42,.bool o)] [.cells [.bool false,.bool false,.int .i64 0,.int .i64 0,.bool false,.bool false,.bool false,.bool false,.bool false] []] []
def DX:Option Bool:=
 if(t3==15)=true then
  some (t3==15)
 else
  if(t3==21)=true then
   some (t3==21)
  else
   if(t3==22)=true then
    some (t3==22)
   else
    some (t3==23)
theorem MA{x:Bool}(h:DX t3=some x):aU Pg GE 0 (cA Fv 14680062) (EX .normal (qT t3 x)) (Oh t3):=by
 rcases aH h with⟨c40,h⟩|⟨c40,h⟩
 ·obtain rfl:=lf h
  exact aY sP (sg 0 c40<|eF .normal (qT t3 (t3==15)))<|by kernel_rfl
 ·rcases aH h with⟨c41,h⟩|⟨c41,h⟩
  ·obtain rfl:=lf h
   exact aY sP (sg 0 c40<|sg 0 c41<|eF .normal (qT t3 (t3==21)))<|by kernel_rfl
  ·have p43:=fun{sc F} (r:PS sc F)=>sg 0 c40<|sg 0 c41<|r
   rcases aH h with⟨c42,h⟩|⟨c42,h⟩
   ·obtain rfl:=lf h
    exact aY sP (p43<|sg 0 c42<|eF .normal (qT t3 (t3==22)))<|by kernel_rfl
   ·obtain rfl:=lf h
    exact aY sP (p43<|sg 0 c42<|eF .normal (qT t3 (t3==23)))<|by kernel_rfl
end
def DU (op:Int):Option ag :=
 (DV op).bind fun o2=>
 if o2=true then
  some (⟨true,false,0,0,false,false,false,false,true⟩:ag)
 else
  if(op==3)=true then
   some (⟨false,true,0,0,false,false,false,false,true⟩:ag)
  else
   if(op==4)=true then
    some (⟨false,true,0,6,false,false,true,false,true⟩:ag)
   else
    if(op==5)=true then
     some (⟨false,true,1,6,false,false,true,false,true⟩:ag)
    else
     if(op==6)=true then
      some (⟨false,false,1,1,true,false,false,false,true⟩:ag)
     else
      if(op==7)=true then
       some (⟨false,true,2,2,false,false,true,false,true⟩:ag)
      else
       if(op==8)=true then
        some (⟨false,false,3,3,false,false,false,false,true⟩:ag)
       else
        if(op==9)=true then
         some (⟨false,false,1,1,false,true,false,false,true⟩:ag)
        else
         (DW op).bind fun o37=>
         if o37=true then
          some (⟨false,false,2,2,false,false,false,false,true⟩:ag)
         else
          (DX op).bind fun o44=>
          if o44=true then
           some (⟨false,false,1,1,false,false,false,false,true⟩:ag)
          else
           if(op==25)=true then
            some (⟨false,true,2,7,false,false,false,false,true⟩:ag)
           else
            if(op==26)=true then
             some (⟨false,false,1,1,false,false,true,true,true⟩:ag)
            else
             some (⟨false,false,0,0,false,false,false,false,false⟩:ag)
theorem Rr {op:Int} {r:ag} (h:DU op = some r):CC Pg GE 146 [.int .i64 op] (.agg (aq r)) []:=by
 obtain⟨o2,bo2,h⟩:=aG h
 have p4:=fun{sc F} (r:PS sc F)=>sx YL<|nN 2<|cK (My op bo2)<|r
 rcases aH h with⟨c3,h⟩|⟨c3,h⟩
 ·obtain rfl:=lf h
  have z:=p4<|sg 0 c3<|sv (xE true true)<|sx (bA (⟨true,false,0,0,false,false,false,false,true⟩:ag))<|en (aI (bD (⟨true,false,0,0,false,false,false,false,true⟩:ag))<|(aL (⟨true,false,0,0,false,false,false,false,true⟩:ag)))
  exact bI sP call146 func146 (c:=Fv) rfl (aI trivial trivial) z<|by kernel_rfl
 ·have p6:=fun{sc F} (r:PS sc F)=>p4<|sg 0 c3<|r
  rcases aH h with⟨c5,h⟩|⟨c5,h⟩
  ·obtain rfl:=lf h
   have z:=p6<|sg 0 c5<|sv (xG true true)<|sx (bA (⟨false,true,0,0,false,false,false,false,true⟩:ag))<|en (aI (bD (⟨false,true,0,0,false,false,false,false,true⟩:ag))<|(aL (⟨false,true,0,0,false,false,false,false,true⟩:ag)))
   exact bI sP call146 func146 (c:=Fv) rfl (aI trivial trivial) z<|by kernel_rfl
  ·have p8:=fun{sc F} (r:PS sc F)=>p6<|sg 0 c5<|r
   rcases aH h with⟨c7,h⟩|⟨c7,h⟩
   ·obtain rfl:=lf h
    have z:=p8<|sg 0 c7<|sv (ue true true 6 true)<|sx (bA (⟨false,true,0,6,false,false,true,false,true⟩:ag))<|en (aI (bD (⟨false,true,0,6,false,false,true,false,true⟩:ag))<|(aL (⟨false,true,0,6,false,false,true,false,true⟩:ag)))
    exact bI sP call146 func146 (c:=Fv) rfl (aI trivial trivial) z<|by kernel_rfl
   ·have p10:=fun{sc F} (r:PS sc F)=>p8<|sg 0 c7<|r
    rcases aH h with⟨c9,h⟩|⟨c9,h⟩
    ·obtain rfl:=lf h
     have z:=p10<|sg 0 c9<|sv (j3 true true 1 6 true)<|sx (bA (⟨false,true,1,6,false,false,true,false,true⟩:ag))<|en (aI (bD (⟨false,true,1,6,false,false,true,false,true⟩:ag))<|(aL (⟨false,true,1,6,false,false,true,false,true⟩:ag)))
     exact bI sP call146 func146 (c:=Fv) rfl (aI trivial trivial) z<|by kernel_rfl
    ·have p12:=fun{sc F} (r:PS sc F)=>p10<|sg 0 c9<|r
     rcases aH h with⟨c11,h⟩|⟨c11,h⟩
     ·obtain rfl:=lf h
      have z:=p12<|sg 0 c11<|sv (uf true true 1 1)<|sx (bA (⟨false,false,1,1,true,false,false,false,true⟩:ag))<|en (aI (bD (⟨false,false,1,1,true,false,false,false,true⟩:ag))<|(aL (⟨false,false,1,1,true,false,false,false,true⟩:ag)))
      exact bI sP call146 func146 (c:=Fv) rfl (aI trivial trivial) z<|by kernel_rfl
     ·have p14:=fun{sc F} (r:PS sc F)=>p12<|sg 0 c11<|r
      rcases aH h with⟨c13,h⟩|⟨c13,h⟩
      ·obtain rfl:=lf h
       have z:=p14<|sg 0 c13<|sv (j3 true true 2 2 true)<|sx (bA (⟨false,true,2,2,false,false,true,false,true⟩:ag))<|en (aI (bD (⟨false,true,2,2,false,false,true,false,true⟩:ag))<|(aL (⟨false,true,2,2,false,false,true,false,true⟩:ag)))
       exact bI sP call146 func146 (c:=Fv) rfl (aI trivial trivial) z<|by kernel_rfl
      ·have p16:=fun{sc F} (r:PS sc F)=>p14<|sg 0 c13<|r
       rcases aH h with⟨c15,h⟩|⟨c15,h⟩
       ·obtain rfl:=lf h
        have z:=p16<|sg 0 c15<|sv (hO true 3 3)<|sx (bA (⟨false,false,3,3,false,false,false,false,true⟩:ag))<|en (aI (bD (⟨false,false,3,3,false,false,false,false,true⟩:ag))<|(aL (⟨false,false,3,3,false,false,false,false,true⟩:ag)))
        exact bI sP call146 func146 (c:=Fv) rfl (aI trivial trivial) z<|by kernel_rfl
       ·have p18:=fun{sc F} (r:PS sc F)=>p16<|sg 0 c15<|r
        rcases aH h with⟨c17,h⟩|⟨c17,h⟩
        ·obtain rfl:=lf h
         have z:=p18<|sg 0 c17<|sv (ug true true 1 1)<|sx (bA (⟨false,false,1,1,false,true,false,false,true⟩:ag))<|en (aI (bD (⟨false,false,1,1,false,true,false,false,true⟩:ag))<|(aL (⟨false,false,1,1,false,true,false,false,true⟩:ag)))
         exact bI sP call146 func146 (c:=Fv) rfl (aI trivial trivial) z<|by kernel_rfl
        ·obtain⟨o37,bo37,h⟩:=aG h
         have p39:=fun{sc F} (r:PS sc F)=>p18<|sg 0 c17<|nN 0<|cK (Mz op bo37)<|r
         rcases aH h with⟨c38,h⟩|⟨c38,h⟩
         ·obtain rfl:=lf h
          have z:=p39<|sg 0 c38<|sv (hO true 2 2)<|sx (bA (⟨false,false,2,2,false,false,false,false,true⟩:ag))<|en (aI (bD (⟨false,false,2,2,false,false,false,false,true⟩:ag))<|(aL (⟨false,false,2,2,false,false,false,false,true⟩:ag)))
          exact bI sP call146 func146 (c:=Fv) rfl (aI trivial trivial) z<|by kernel_rfl
         ·obtain⟨o44,bo44,h⟩:=aG h
          have p46:=fun{sc F} (r:PS sc F)=>p39<|sg 0 c38<|nN 0<|cK (MA op bo44)<|r
          rcases aH h with⟨c45,h⟩|⟨c45,h⟩
          ·obtain rfl:=lf h
           have z:=p46<|sg 0 c45<|sv (hO true 1 1)<|sx (bA (⟨false,false,1,1,false,false,false,false,true⟩:ag))<|en (aI (bD (⟨false,false,1,1,false,false,false,false,true⟩:ag))<|(aL (⟨false,false,1,1,false,false,false,false,true⟩:ag)))
           exact bI sP call146 func146 (c:=Fv) rfl (aI trivial trivial) z<|by kernel_rfl
          ·have p48:=fun{sc F} (r:PS sc F)=>p46<|sg 0 c45<|r
           rcases aH h with⟨c47,h⟩|⟨c47,h⟩
           ·obtain rfl:=lf h
            have z:=p48<|sg 0 c47<|sv (ud true true 2 7)<|sx (bA (⟨false,true,2,7,false,false,false,false,true⟩:ag))<|en (aI (bD (⟨false,true,2,7,false,false,false,false,true⟩:ag))<|(aL (⟨false,true,2,7,false,false,false,false,true⟩:ag)))
            exact bI sP call146 func146 (c:=Fv) rfl (aI trivial trivial) z<|by kernel_rfl
           ·have p50:=fun{sc F} (r:PS sc F)=>p48<|sg 0 c47<|r
            rcases aH h with⟨c49,h⟩|⟨c49,h⟩
            ·obtain rfl:=lf h
             have z:=p50<|sg 0 c49<|sv (sQ true 1 1 true true)<|sx (bA (⟨false,false,1,1,false,false,true,true,true⟩:ag))<|en (aI (bD (⟨false,false,1,1,false,false,true,true,true⟩:ag))<|(aL (⟨false,false,1,1,false,false,true,true,true⟩:ag)))
             exact bI sP call146 func146 (c:=Fv) rfl (aI trivial trivial) z<|by kernel_rfl
            ·obtain rfl:=lf h
             have z:=p50<|sg 0 c49<|sv (zt)<|sx (bA (⟨false,false,0,0,false,false,false,false,false⟩:ag))<|en (aI (bD (⟨false,false,0,0,false,false,false,false,false⟩:ag))<|(aL (⟨false,false,0,0,false,false,false,false,false⟩:ag)))
             exact bI sP call146 func146 (c:=Fv) rfl (aI trivial trivial) z<|by kernel_rfl
noncomputable def HC:Code:=f147.body.getD .skip
def A8:List Nat:=[]
section
variable(e:af)(v:ag)
def KY:aB:=aZ 83 [(2,.eptr (ac e)),(3,.eptr (aq v))] [.dead,.dead] []
def wD(o:Bool):aB:=aZ 83 [(2,.eptr (ac e)),(3,.eptr (aq v)),(19,.bool o)] [.dead,.dead] []
def AI:Option Bool:=
 if(decide ((e.Kids.length:Int)<v.least))=true then
  some true
 else
  some (decide ((e.Kids.length:Int)>v.most))
theorem IW{x:Bool}(h:AI e v=some x):aU Pg GE 0 (cA HC 12) (EX .normal (wD e v x)) (KY e v):=by
 have p2:=fun{sc F} (r:PS sc F)=>sv (a8 e)<|sv (be e)<|bF (eP.ln e.Kids)<|sv (wb v)<|sv (xP v)<|r
 rcases aH h with⟨c1,h⟩|⟨c1,h⟩
 ·obtain rfl:=lf h
  exact aY A8 (p2<|sg 7 c1<|eF .normal (wD e v true))<|by kernel_rfl
 ·obtain rfl:=lf h
  exact aY A8 (p2<|sg 7 c1<|sv (a8 e)<|sv (be e)<|bF (eP.ln e.Kids)<|sv (wc v)<|sv (xQ v)<|eF .normal (wD e v (decide ((e.Kids.length:Int)>v.most))))<|by kernel_rfl
end
section
variable(e:af)(v:ag)
def KZ:aB:=aZ 83 [(2,.eptr (ac e)),(3,.eptr (aq v))] [.dead,.dead] []
def rl(o:Bool):aB:=aZ 83 [(2,.eptr (ac e)),(3,.eptr (aq v)),(33,.bool o)] [.dead,.dead] []
def AJ:Option Bool:=
 if v.params=true then
  if(decide ((e.Params.length:Int)<1))=true then
   some true
  else
   some (decide ((e.Params.length:Int)>6))
 else
  some false
theorem IX{x:Bool}(h:AJ e v=some x):aU Pg GE 0 (cA HC 28) (EX .normal (rl e v x)) (KZ e v):=by
 have p7:=fun{sc F} (r:PS sc F)=>sv (wd v)<|sv (xS v)<|r
 rcases aH h with⟨c6,h⟩|⟨c6,h⟩
 ·have p9:=fun{sc F} (r:PS sc F)=>p7<|sg 3 c6<|sv (ba e)<|sv (bh e)<|bF (il.ln e.Params)<|r
  rcases aH h with⟨c8,h⟩|⟨c8,h⟩
  ·obtain rfl:=lf h
   exact aY A8 (p9<|sg 8 c8<|eF .normal (rl e v true))<|by kernel_rfl
  ·obtain rfl:=lf h
   exact aY A8 (p9<|sg 8 c8<|sv (ba e)<|sv (bh e)<|bF (il.ln e.Params)<|eF .normal (rl e v (decide ((e.Params.length:Int)>6))))<|by kernel_rfl
 ·obtain rfl:=lf h
  exact aY A8 (p7<|sg 3 c6<|eF .normal (rl e v false))<|by kernel_rfl
end
section
variable(e:af)(v:ag)
def K0:aB:=aZ 83 [(2,.eptr (ac e)),(3,.eptr (aq v))] [.dead,.dead] []
def rm(o:Bool):aB:=aZ 83 [(2,.eptr (ac e)),(3,.eptr (aq v)),(47,.bool o)] [.dead,.dead] []
def AK:Option Bool:=
 if v.alts=true then
  if(decide ((e.Alts.length:Int)<1))=true then
   some true
  else
   some (decide ((e.Alts.length:Int)>8))
 else
  some false
theorem IY{x:Bool}(h:AK e v=some x):aU Pg GE 0 (cA HC 60) (EX .normal (rm e v x)) (K0 e v):=by
 have p14:=fun{sc F} (r:PS sc F)=>sv (wg v)<|sv (xT v)<|r
 rcases aH h with⟨c13,h⟩|⟨c13,h⟩
 ·have p16:=fun{sc F} (r:PS sc F)=>p14<|sg 3 c13<|sv (aD e)<|sv (aE e)<|bF (dZ.ln e.Alts)<|r
  rcases aH h with⟨c15,h⟩|⟨c15,h⟩
  ·obtain rfl:=lf h
   exact aY A8 (p16<|sg 8 c15<|eF .normal (rm e v true))<|by kernel_rfl
  ·obtain rfl:=lf h
   exact aY A8 (p16<|sg 8 c15<|sv (aD e)<|sv (aE e)<|bF (dZ.ln e.Alts)<|eF .normal (rm e v (decide ((e.Alts.length:Int)>8))))<|by kernel_rfl
 ·obtain rfl:=lf h
  exact aY A8 (p14<|sg 3 c13<|eF .normal (rm e v false))<|by kernel_rfl
end
section
variable(e:af)(v:ag)(i:Int)
def mF:aB:=aZ 83 [(2,.eptr (ac e)),(3,.eptr (aq v)),(5,.int .i64 i)] [.dead,.dead] []
def mH(o:Unit⊕(Unit)):Exit:=match o with
 |(.inl _)=>.ret
 |(.inr _)=>.exit 0
def kg(o:Unit⊕(Unit)):aB:=match o with
 |(.inl o)=>aZ 83 [(4,.bool false)] [.dead,.dead] []
 |(.inr o)=>aZ 83 [(2,.eptr (ac e)),(3,.eptr (aq v))] [.dead,.dead] []
def mG:Option (Int⊕(Unit⊕(Unit))):=
 if(decide (i<(e.Alts.length:Int)))=true then
  (fy e.Alts i).bind fun x22=>
  if(decide ((x22.Names.length:Int)>6))=true then
   some (.inr (.inl ()))
  else
   some (.inl (bN (i+1)))
 else
  some (.inr (.inr ()))
def va:Option (Unit⊕(Unit)):=loop (fun(zz:Int)=>mG e zz) i
theorem Hr{y:Int⊕(Unit⊕(Unit))}(h:mG e i=some y):aU Pg GE 0 (cA HC 503) (LQ (fun(zz:Int)=>mF e v zz) mH (kg e v) y) (mF e v i):=by
 have p21:=fun{sc F} (r:PS sc F)=>sv (aD e)<|sv (aE e)<|bF (dZ.ln e.Alts)<|r
 rcases aH h with⟨c20,h⟩|⟨c20,h⟩
 ·obtain⟨x22,bx22,h⟩:=aG h
  have p24:=fun{sc F} (r:PS sc F)=>p21<|sg 0 c20<|sv (aD e)<|sv (aE e)<|sv (dZ.ia (k:=.i64) bx22)<|sv (gX x22)<|sv (gZ x22)<|bF (cO.ln x22.Names)<|r
  rcases aH h with⟨c23,h⟩|⟨c23,h⟩
  ·obtain rfl:=lf h
   have z:=p24<|sg 0 c23<|eF (mH (.inl ())) (kg e v (.inl ()))
   exact gu A8 (by intro hx;cases hx) z<|by kernel_rfl
  ·obtain rfl:=lf h
   exact wv A8 (p24<|sg 0 c23<|eF .normal (mF e v (bN (i+1))))<|by kernel_rfl
 ·obtain rfl:=lf h
  have z:=p21<|sg 0 c20<|eF (mH (.inr ())) (kg e v (.inr ()))
  exact gu A8 (by intro hx;cases hx) z<|by kernel_rfl
theorem Bd{x:Unit⊕(Unit)}(h:va e i=some x):aU Pg GE 0 (.loop (cA HC 503)) (EX (mH x) (kg e v x)) (mF e v i):=
 aU.loop (S:=fun(zz:Int)=>mF e v zz) (ex:=mH) (s:=i) h fun zz y hy=>Hr e v zz hy
end
def B7 (e:af) (a:ag):Option Bool :=
 (AI e a).bind fun o3=>
 if o3=true then
  some false
 else
  (AJ e a).bind fun o10=>
  if o10=true then
   some false
  else
   (AK e a).bind fun o17=>
   if o17=true then
    some false
   else
    (va e 0).bind fun o25=>match o25 with
    |(.inl o25)=>
     some false
    | (.inr o25) =>
     if(!a.exactly)=true then
      if(e.Op !=7)=true then
       some true
      else
       some (decide ((e.Types.length:Int)<=1))
     else
      if((e.Types.length:Int)==1)=true then
       if(e.Op !=7)=true then
        some true
       else
        some (decide ((e.Types.length:Int)<=1))
      else
       some false
theorem N8{e:af}{a:ag}{r:Bool}(h:B7 e a=some r):CC Pg GE 147 [.agg (ac e),.agg (aq a)] (.bool r) []:=by
 obtain⟨o3,bo3,h⟩:=aG h
 have p5:=fun{sc F} (r:PS sc F)=>se (bX e)<|se (sD a)<|nN 1<|cK (IW e a bo3)<|r
 rcases aH h with⟨c4,h⟩|⟨c4,h⟩
 ·obtain rfl:=lf h
  have z:=p5<|sg 0 c4<|en (aI (rP (.bool false))<|trivial)
  exact bI A8 call147 func147 (c:=HC) rfl (aI (al e) (aI (aL a) trivial)) z<|by kernel_rfl
 ·obtain⟨o10,bo10,h⟩:=aG h
  have p12:=fun{sc F} (r:PS sc F)=>p5<|sg 0 c4<|nN 1<|cK (IX e a bo10)<|r
  rcases aH h with⟨c11,h⟩|⟨c11,h⟩
  ·obtain rfl:=lf h
   have z:=p12<|sg 0 c11<|en (aI (rP (.bool false))<|trivial)
   exact bI A8 call147 func147 (c:=HC) rfl (aI (al e) (aI (aL a) trivial)) z<|by kernel_rfl
  ·obtain⟨o17,bo17,h⟩:=aG h
   have p19:=fun{sc F} (r:PS sc F)=>p12<|sg 0 c11<|nN 1<|cK (IY e a bo17)<|r
   rcases aH h with⟨c18,h⟩|⟨c18,h⟩
   ·obtain rfl:=lf h
    have z:=p19<|sg 0 c18<|en (aI (rP (.bool false))<|trivial)
    exact bI A8 call147 func147 (c:=HC) rfl (aI (al e) (aI (aL a) trivial)) z<|by kernel_rfl
   ·obtain⟨o25,bo25,h⟩:=aG h
    rcases o25 with o25|o25
    ·obtain rfl:=lf h
     have z:=p19<|sg 0 c18<|cK (e:=.ret) (s1:=kg e a (.inl o25)) (Bd e a 0 bo25)<|en (aI (rP (.bool false))<|trivial)
     exact bI A8 call147 func147 (c:=HC) rfl (aI (al e) (aI (aL a) trivial)) z<|by kernel_rfl
    ·have p27:=fun{sc F} (r:PS sc F)=>p19<|sg 0 c18<|cK (e:=.exit 0) (s1:=kg e a (.inr o25)) (Bd e a 0 bo25)<|sv (wh a)<|sv (xU a)<|r
     rcases aH h with⟨c26,h⟩|⟨c26,h⟩
     ·have p29:=fun{sc F} (r:PS sc F)=>p27<|sg 4 c26<|sv (cp e)<|sv (cq e)<|r
      rcases aH h with⟨c28,h⟩|⟨c28,h⟩
      ·obtain rfl:=lf h
       have z:=p29<|sg 14 c28<|en (aI (rP (.bool true))<|trivial)
       exact bI A8 call147 func147 (c:=HC) rfl (aI (al e) (aI (aL a) trivial)) z<|by kernel_rfl
      ·obtain rfl:=lf h
       have z:=p29<|sg 14 c28<|sv (aJ e)<|sv (aK e)<|bF (db.ln e.Types)<|en (aI (rP (.bool (decide ((e.Types.length:Int)<=1))))<|trivial)
       exact bI A8 call147 func147 (c:=HC) rfl (aI (al e) (aI (aL a) trivial)) z<|by kernel_rfl
     ·have p31:=fun{sc F} (r:PS sc F)=>p27<|sg 4 c26<|sv (aJ e)<|sv (aK e)<|bF (db.ln e.Types)<|r
      rcases aH h with⟨c30,h⟩|⟨c30,h⟩
      ·have p33:=fun{sc F} (r:PS sc F)=>p31<|sg 10 c30<|sv (cp e)<|sv (cq e)<|r
       rcases aH h with⟨c32,h⟩|⟨c32,h⟩
       ·obtain rfl:=lf h
        have z:=p33<|sg 14 c32<|en (aI (rP (.bool true))<|trivial)
        exact bI A8 call147 func147 (c:=HC) rfl (aI (al e) (aI (aL a) trivial)) z<|by kernel_rfl
       ·obtain rfl:=lf h
        have z:=p33<|sg 14 c32<|sv (aJ e)<|sv (aK e)<|bF (db.ln e.Types)<|en (aI (rP (.bool (decide ((e.Types.length:Int)<=1))))<|trivial)
        exact bI A8 call147 func147 (c:=HC) rfl (aI (al e) (aI (aL a) trivial)) z<|by kernel_rfl
      ·obtain rfl:=lf h
       have z:=p31<|sg 10 c30<|en (aI (rP (.bool false))<|trivial)
       exact bI A8 call147 func147 (c:=HC) rfl (aI (al e) (aI (aL a) trivial)) z<|by kernel_rfl
noncomputable def qay:Code:=f148.body.getD .skip
def Z9:List Nat:=[]
def SQ(n:Int):Option Bool:=
 if(decide (n>=(-1000000000000)))=true then
  some (decide (n<=1000000000000))
 else
  some false
theorem UE{n:Int}{r:Bool}(h:SQ n=some r):CC Pg GE 148 [.int .i64 n] (.bool r) []:=by
 rcases aH h with⟨c1,h⟩|⟨c1,h⟩
 ·obtain rfl:=lf h
  have z:=sg 3 c1<|en (aI (rP (.bool (decide (n<=1000000000000))))<|trivial)
  exact bI Z9 call148 func148 (c:=qay) rfl (aI trivial trivial) z<|by kernel_rfl
 ·obtain rfl:=lf h
  have z:=sg 3 c1<|en (aI (rP (.bool false))<|trivial)
  exact bI Z9 call148 func148 (c:=qay) rfl (aI trivial trivial) z<|by kernel_rfl
noncomputable def Za:Code:=f190.body.getD .skip
def XB:List Nat:=[10,15,25]
section
variable(s:ah)(t7:Int)(out:waA)(begin:Int)(t8:Int)
def lr:aB:=aZ 31 [(0,.str s),(3,sl cS out),(4,.int .i64 begin),(7,.int .i64 t7),(8,.int .i64 t8)] [] [((3,0),9)]
def yv(o:waA×Int):aB:=aZ 31 [(0,.str s),(3,sl cS o.1),(4,.int .i64 o.2)] [] [((3,0),9)]
def fU:Option ((waA×Int×Int)⊕((waA×Int))):=
 if(decide (t8<t7))=true then
  (ms s t8).bind fun c2=>
  if(c2==46)=true then
   (Rd s (some begin) (some t8)).bind fun s5=>
   (app out ([s5]:List ah)).bind fun l6=>
   some (.inl (l6,bN (t8+1),bN (t8+1)))
  else
   some (.inl (out,begin,bN (t8+1)))
 else
  some (.inr (out,begin))
def xp:Option ((waA×Int)):=loop (fun(zz:waA×Int×Int)=>fU s t7 zz.1 zz.2.1 zz.2.2) (out,begin,t8)
theorem IQ{y:(waA×Int×Int)⊕((waA×Int))}(h:fU s t7 out begin t8=some y):aU Pg GE 0 (cA Za 247) (LQ (fun(zz:waA×Int×Int)=>lr s t7 zz.1 zz.2.1 zz.2.2) (fun _=>.exit 0) (yv s) y) (lr s t7 out begin t8):=by
 rcases aH h with⟨c1,h⟩|⟨c1,h⟩
 ·obtain⟨c2,bc2,h⟩:=aG h
  have p4:=fun{sc F} (r:PS sc F)=>sg 0 c1<|sv (jj (k:=.i64) underlying9 bc2)<|r
  rcases aH h with⟨c3,h⟩|⟨c3,h⟩
  ·obtain⟨s5,bs5,h⟩:=aG h
   obtain⟨l6,bl6,h⟩:=aG h
   obtain rfl:=lf h
   exact wv XB (p4<|sg 0 c3<|sv (Uq underlying9 bs5)<|sv (cO.mk' (v:=PVal.str) OF ([s5]:List ah) 1 (by kernel_rfl))<|sv (cO.ap bl6)<|eF .normal (lr s t7 l6 (bN (t8+1)) (bN (t8+1))))<|by kernel_rfl
  ·obtain rfl:=lf h
   exact wv XB (p4<|sg 0 c3<|eF .normal (lr s t7 out begin (bN (t8+1))))<|by kernel_rfl
 ·obtain rfl:=lf h
  have z:=sg 0 c1<|eF (.exit 0) (yv s (out,begin))
  exact gu XB (by intro hx;cases hx) z<|by kernel_rfl
theorem KN{x:(waA×Int)}(h:xp s t7 out begin t8=some x):aU Pg GE 0 (.loop (cA Za 247)) (EX (.exit 0) (yv s x)) (lr s t7 out begin t8):=
 aU.loop (S:=fun(zz:waA×Int×Int)=>lr s t7 zz.1 zz.2.1 zz.2.2) (ex:=(fun _=>.exit 0)) (s:=(out,begin,t8)) h fun zz y hy=>IQ s t7 zz.1 zz.2.1 zz.2.2 hy
end
def yi(s:ah):Option waA:=
 (xp s (s.length:Int) ([]:List ah) 0 0).bind fun o7=>
 (Rd s (some o7.2) none).bind fun s8=>
 (app o7.1 ([s8]:List ah)).bind fun l9=>
 some l9
theorem PY{s:ah}{r:waA}(h:yi s=some r):CC Pg GE 190 [.str s] (sl cS r) [(0,9)]:=by
 obtain⟨o7,bo7,h⟩:=aG h
 obtain⟨s8,bs8,h⟩:=aG h
 obtain⟨l9,bl9,h⟩:=aG h
 obtain rfl:=lf h
 have z:=bF (gU underlying9 s)<|cK (KN s (s.length:Int) ([]:List ah) 0 0 bo7)<|sv (Uq underlying9 bs8)<|sv (cO.mk' (v:=PVal.str) OF ([s8]:List ah) 1 (by kernel_rfl))<|sv (cO.ap bl9)<|en (aI (rP (sl cS l9))<|(aw cy l9))
 exact bI XB call190 func190 (c:=Za) rfl (aI trivial trivial) z<|by kernel_rfl
noncomputable def qaE:Code:=f206.body.getD .skip
def qaf:List Nat:=[]
def ls(c:Int):Option Bool:=
 if(decide (c>=97))=true then
  some (decide (c<=122))
 else
  some false
theorem pI{c:Int}{r:Bool}(h:ls c=some r):CC Pg GE 206 [.int .u8 c] (.bool r) []:=by
 rcases aH h with⟨c1,h⟩|⟨c1,h⟩
 ·obtain rfl:=lf h
  have z:=sg 3 c1<|en (aI (rP (.bool (decide (c<=122))))<|trivial)
  exact bI qaf call206 func206 (c:=qaE) rfl (aI trivial trivial) z<|by kernel_rfl
 ·obtain rfl:=lf h
  have z:=sg 3 c1<|en (aI (rP (.bool false))<|trivial)
  exact bI qaf call206 func206 (c:=qaE) rfl (aI trivial trivial) z<|by kernel_rfl
noncomputable def qci:Code:=f214.body.getD .skip
def qbV:List Nat:=[]
def BY:Option waA:=
 some ([([97,110,100]:ah),([97,115,115,117,109,101]:ah),([98,111,111,108]:ah),([98,111,117,110,100]:ah),([99,97,115,101]:ah),([99,101,108,108]:ah),([99,108,97,115,115]:ah),([100,97,116,97]:ah),([100,101,102]:ah),([100,105,118]:ah),([101,108,115,101]:ah),([101,110,100]:ah),([102,97,108,115,101]:ah),([102,111,114,97,108,108]:ah),([102,117,110]:ah),([103,101,116]:ah),([105,102]:ah),([105,110]:ah),([105,110,115,116]:ah),([105,110,116]:ah),([105,110,118,97,114,105,97,110,116]:ah),([108,101,116]:ah),([109,97,116,99,104]:ah),([109,101,97,115,117,114,101]:ah),([109,101,116,114,105,99]:ah),([109,111,100]:ah),([109,117]:ah),([110,101,119]:ah),([110,111,116]:ah),([111,102]:ah),([111,114]:ah),([113,117,97,108]:ah),([114,101,102,108,101,99,116]:ah),([115,101,116]:ah),([116,104,101,110]:ah),([116,114,117,101]:ah),([117,115,101]:ah),([118]:ah),([118,97,108]:ah),([116,97,103]:ah),([119,104,101,114,101]:ah),([119,105,116,104]:ah)]:List ah)
theorem KL{r:waA}(h:BY=some r):CC Pg GE 214 [] (sl cS r) [(0,9)]:=by
 obtain rfl:=lf h
 have z:=sv (cO.mk' (v:=PVal.str) OF ([([97,110,100]:ah),([97,115,115,117,109,101]:ah),([98,111,111,108]:ah),([98,111,117,110,100]:ah),([99,97,115,101]:ah),([99,101,108,108]:ah),([99,108,97,115,115]:ah),([100,97,116,97]:ah),([100,101,102]:ah),([100,105,118]:ah),([101,108,115,101]:ah),([101,110,100]:ah),([102,97,108,115,101]:ah),([102,111,114,97,108,108]:ah),([102,117,110]:ah),([103,101,116]:ah),([105,102]:ah),([105,110]:ah),([105,110,115,116]:ah),([105,110,116]:ah),([105,110,118,97,114,105,97,110,116]:ah),([108,101,116]:ah),([109,97,116,99,104]:ah),([109,101,97,115,117,114,101]:ah),([109,101,116,114,105,99]:ah),([109,111,100]:ah),([109,117]:ah),([110,101,119]:ah),([110,111,116]:ah),([111,102]:ah),([111,114]:ah),([113,117,97,108]:ah),([114,101,102,108,101,99,116]:ah),([115,101,116]:ah),([116,104,101,110]:ah),([116,114,117,101]:ah),([117,115,101]:ah),([118]:ah),([118,97,108]:ah),([116,97,103]:ah),([119,104,101,114,101]:ah),([119,105,116,104]:ah)]:List ah) 42 (by kernel_rfl))<|en (aI (rP (sl cS ([([97,110,100]:ah),([97,115,115,117,109,101]:ah),([98,111,111,108]:ah),([98,111,117,110,100]:ah),([99,97,115,101]:ah),([99,101,108,108]:ah),([99,108,97,115,115]:ah),([100,97,116,97]:ah),([100,101,102]:ah),([100,105,118]:ah),([101,108,115,101]:ah),([101,110,100]:ah),([102,97,108,115,101]:ah),([102,111,114,97,108,108]:ah),([102,117,110]:ah),([103,101,116]:ah),([105,102]:ah),([105,110]:ah),([105,110,115,116]:ah),([105,110,116]:ah),([105,110,118,97,114,105,97,110,116]:ah),([108,101,116]:ah),([109,97,116,99,104]:ah),([109,101,97,115,117,114,101]:ah),([109,101,116,114,105,99]:ah),([109,111,100]:ah),([109,117]:ah),([110,101,119]:ah),([110,111,116]:ah),([111,102]:ah),([111,114]:ah),([113,117,97,108]:ah),([114,101,102,108,101,99,116]:ah),([115,101,116]:ah),([116,104,101,110]:ah),([116,114,117,101]:ah),([117,115,101]:ah),([118]:ah),([118,97,108]:ah),([116,97,103]:ah),([119,104,101,114,101]:ah),([119,105,116,104]:ah)]:List ah)))<|(aw cy ([([97,110,100]:ah),([97,115,115,117,109,101]:ah),([98,111,111,108]:ah),([98,111,117,110,100]:ah),([99,97,115,101]:ah),([99,101,108,108]:ah),([99,108,97,115,115]:ah),([100,97,116,97]:ah),([100,101,102]:ah),([100,105,118]:ah),([101,108,115,101]:ah),([101,110,100]:ah),([102,97,108,115,101]:ah),([102,111,114,97,108,108]:ah),([102,117,110]:ah),([103,101,116]:ah),([105,102]:ah),([105,110]:ah),([105,110,115,116]:ah),([105,110,116]:ah),([105,110,118,97,114,105,97,110,116]:ah),([108,101,116]:ah),([109,97,116,99,104]:ah),([109,101,97,115,117,114,101]:ah),([109,101,116,114,105,99]:ah),([109,111,100]:ah),([109,117]:ah),([110,101,119]:ah),([110,111,116]:ah),([111,102]:ah),([111,114]:ah),([113,117,97,108]:ah),([114,101,102,108,101,99,116]:ah),([115,101,116]:ah),([116,104,101,110]:ah),([116,114,117,101]:ah),([117,115,101]:ah),([118]:ah),([118,97,108]:ah),([116,97,103]:ah),([119,104,101,114,101]:ah),([119,105,116,104]:ah)]:List ah)))
 exact bI qbV call214 func214 (c:=qci) rfl trivial z<|by kernel_rfl
noncomputable def qch:Code:=f207.body.getD .skip
def qbU:List Nat:=[]
def rZ(s:ah):Option Bool:=
 BY.bind fun r1=>
 (Dq r1 s).bind fun r2=>
 some (decide (r2>=0))
theorem LY{s:ah}{r:Bool}(h:rZ s=some r):CC Pg GE 207 [.str s] (.bool r) []:=by
 obtain⟨r1,br1,h⟩:=aG h
 obtain⟨r2,br2,h⟩:=aG h
 obtain rfl:=lf h
 have z:=cm (KL br1)<|cm (Ka br2)<|en (aI (rP (.bool (decide (r2>=0))))<|trivial)
 exact bI qbU call207 func207 (c:=qch) rfl (aI trivial trivial) z<|by kernel_rfl
noncomputable def qaF:Code:=f208.body.getD .skip
def qag:List Nat:=[]
def pG(c:Int):Option Bool:=
 if(decide (c>=48))=true then
  some (decide (c<=57))
 else
  some false
theorem xo{c:Int}{r:Bool}(h:pG c=some r):CC Pg GE 208 [.int .u8 c] (.bool r) []:=by
 rcases aH h with⟨c1,h⟩|⟨c1,h⟩
 ·obtain rfl:=lf h
  have z:=sg 3 c1<|en (aI (rP (.bool (decide (c<=57))))<|trivial)
  exact bI qag call208 func208 (c:=qaF) rfl (aI trivial trivial) z<|by kernel_rfl
 ·obtain rfl:=lf h
  have z:=sg 3 c1<|en (aI (rP (.bool false))<|trivial)
  exact bI qag call208 func208 (c:=qaF) rfl (aI trivial trivial) z<|by kernel_rfl
noncomputable def SX:Code:=f191.body.getD .skip
def IL:List Nat:=[26]
section
variable(s:ah)
def LT:aB:=aZ 46 [(0,.str s)] [] []
def oF(o:Bool):aB:=aZ 46 [(0,.str s),(21,.bool o)] [] []
def sV:Option Bool:=
 if(decide ((s.length:Int)<1))=true then
  some true
 else
  if(decide ((s.length:Int)>24))=true then
   some true
  else
   (ms s 0).bind fun c4=>
   (ls c4).bind fun r5=>
   if(!r5)=true then
    some true
   else
    (rZ s).bind fun r8=>
    some r8
theorem Kz{x:Bool}(h:sV s=some x):aU Pg GE 0 (cA SX 12) (EX .normal (oF s x)) (LT s):=by
 rcases aH h with⟨c1,h⟩|⟨c1,h⟩
 ·obtain rfl:=lf h
  exact aY IL (bF (gU underlying9 s)<|sg 4 c1<|eF .normal (oF s true))<|by kernel_rfl
 ·have p3:=fun{sc F} (r:PS sc F)=>bF (gU underlying9 s)<|sg 4 c1<|bF (gU underlying9 s)<|r
  rcases aH h with⟨c2,h⟩|⟨c2,h⟩
  ·obtain rfl:=lf h
   exact aY IL (p3<|sg 9 c2<|eF .normal (oF s true))<|by kernel_rfl
  ·obtain⟨c4,bc4,h⟩:=aG h
   obtain⟨r5,br5,h⟩:=aG h
   have p7:=fun{sc F} (r:PS sc F)=>p3<|sg 9 c2<|sv (jj (k:=.i64) underlying9 bc4)<|cm (pI br5)<|r
   rcases aH h with⟨c6,h⟩|⟨c6,h⟩
   ·obtain rfl:=lf h
    exact aY IL (p7<|sg 15 c6<|eF .normal (oF s true))<|by kernel_rfl
   ·obtain⟨r8,br8,h⟩:=aG h
    obtain rfl:=lf h
    exact aY IL (p7<|sg 15 c6<|cm (LY br8)<|eF .normal (oF s r8))<|by kernel_rfl
end
section
variable(s:ah)(i:Int)(t23:Int)
def LU:aB:=aZ 46 [(0,.str s),(3,.int .i64 i),(23,.int .i64 t23),(24,.int .i64 i)] [] []
def sW(o:Bool):aB:=aZ 46 [(0,.str s),(23,.int .i64 t23),(24,.int .i64 i),(44,.bool o)] [] []
def ml:Option Bool:=
 (ms s i).bind fun c13=>
 (ls c13).bind fun r14=>
 if(!r14)=true then
  (ms s i).bind fun c17=>
  (pG c17).bind fun r18=>
  if(!r18)=true then
   (ms s i).bind fun c21=>
   some (c21 !=95)
  else
   some false
 else
  some false
theorem KB{x:Bool}(h:ml s i=some x):aU Pg GE 0 (cA SX 7670) (EX .normal (sW s i t23 x)) (LU s i t23):=by
 obtain⟨c13,bc13,h⟩:=aG h
 obtain⟨r14,br14,h⟩:=aG h
 have p16:=fun{sc F} (r:PS sc F)=>sv (jj (k:=.i64) underlying9 bc13)<|cm (pI br14)<|r
 rcases aH h with⟨c15,h⟩|⟨c15,h⟩
 ·obtain⟨c17,bc17,h⟩:=aG h
  obtain⟨r18,br18,h⟩:=aG h
  have p20:=fun{sc F} (r:PS sc F)=>p16<|sg 6 c15<|sv (jj (k:=.i64) underlying9 bc17)<|cm (xo br18)<|r
  rcases aH h with⟨c19,h⟩|⟨c19,h⟩
  ·obtain⟨c21,bc21,h⟩:=aG h
   obtain rfl:=lf h
   exact aY IL (p20<|sg 13 c19<|sv (jj (k:=.i64) underlying9 bc21)<|eF .normal (sW s i t23 (c21 !=95)))<|by kernel_rfl
  ·obtain rfl:=lf h
   exact aY IL (p20<|sg 13 c19<|eF .normal (sW s i t23 false))<|by kernel_rfl
 ·obtain rfl:=lf h
  exact aY IL (p16<|sg 6 c15<|eF .normal (sW s i t23 false))<|by kernel_rfl
end
section
variable(s:ah)(t23:Int)(t24:Int)
def oG:aB:=aZ 46 [(0,.str s),(23,.int .i64 t23),(24,.int .i64 t24)] [] []
def oI(o:Unit⊕(Unit)):Exit:=match o with
 |(.inl _)=>.ret
 |(.inr _)=>.exit 0
def lp(o:Unit⊕(Unit)):aB:=match o with
 |(.inl o)=>aZ 46 [(2,.int .i64 3)] [] []
 |(.inr o)=>aZ 46 [] [] []
def oH:Option (Int⊕(Unit⊕(Unit))):=
 if(decide (t24<t23))=true then
  (ml s t24).bind fun o22=>
  if o22=true then
   some (.inr (.inl ()))
  else
   some (.inl (bN (t24+1)))
 else
  some (.inr (.inr ()))
def sX:Option (Unit⊕(Unit)):=loop (fun(zz:Int)=>oH s t23 zz) t24
theorem IN{y:Int⊕(Unit⊕(Unit))}(h:oH s t23 t24=some y):aU Pg GE 0 (cA SX 119) (LQ (fun(zz:Int)=>oG s t23 zz) oI lp y) (oG s t23 t24):=by
 rcases aH h with⟨c12,h⟩|⟨c12,h⟩
 ·obtain⟨o22,bo22,h⟩:=aG h
  have p24:=fun{sc F} (r:PS sc F)=>sg 0 c12<|nN 2<|cK (KB s t24 t23 bo22)<|r
  rcases aH h with⟨c23,h⟩|⟨c23,h⟩
  ·obtain rfl:=lf h
   have z:=p24<|sg 0 c23<|eF (oI (.inl ())) (lp (.inl ()))
   exact gu IL (by intro hx;cases hx) z<|by kernel_rfl
  ·obtain rfl:=lf h
   exact wv IL (p24<|sg 0 c23<|eF .normal (oG s t23 (bN (t24+1))))<|by kernel_rfl
 ·obtain rfl:=lf h
  have z:=sg 0 c12<|eF (oI (.inr ())) (lp (.inr ()))
  exact gu IL (by intro hx;cases hx) z<|by kernel_rfl
theorem CL{x:Unit⊕(Unit)}(h:sX s t23 t24=some x):aU Pg GE 0 (.loop (cA SX 119)) (EX (oI x) (lp x)) (oG s t23 t24):=
 aU.loop (S:=fun(zz:Int)=>oG s t23 zz) (ex:=oI) (s:=t24) h fun zz y hy=>IN s t23 zz hy
end
def yg(s:ah):Option Int:=
 (sV s).bind fun o9=>
 if o9=true then
  some 3
 else
  (sX s (s.length:Int) 0).bind fun o25=>match o25 with
  |(.inl o25)=>
   some 3
  |(.inr o25)=>
   some 0
theorem PU{s:ah}{r:Int}(h:yg s=some r):CC Pg GE 191 [.str s] (.int .i64 r) []:=by
 obtain⟨o9,bo9,h⟩:=aG h
 have p11:=fun{sc F} (r:PS sc F)=>nN 2<|cK (Kz s bo9)<|r
 rcases aH h with⟨c10,h⟩|⟨c10,h⟩
 ·obtain rfl:=lf h
  have z:=p11<|sg 0 c10<|en (aI (rP (.int .i64 3))<|trivial)
  exact bI IL call191 func191 (c:=SX) rfl (aI trivial trivial) z<|by kernel_rfl
 ·obtain⟨o25,bo25,h⟩:=aG h
  rcases o25 with o25|o25
  ·obtain rfl:=lf h
   have z:=p11<|sg 0 c10<|bF (gU underlying9 s)<|cK (e:=.ret) (s1:=lp (.inl o25)) (CL s (s.length:Int) 0 bo25)<|en (aI (rP (.int .i64 3))<|trivial)
   exact bI IL call191 func191 (c:=SX) rfl (aI trivial trivial) z<|by kernel_rfl
  ·obtain rfl:=lf h
   have z:=p11<|sg 0 c10<|bF (gU underlying9 s)<|cK (e:=.exit 0) (s1:=lp (.inr o25)) (CL s (s.length:Int) 0 bo25)<|en (aI (rP (.int .i64 0))<|trivial)
   exact bI IL call191 func191 (c:=SX) rfl (aI trivial trivial) z<|by kernel_rfl
noncomputable def qaG:Code:=f209.body.getD .skip
def qah:List Nat:=[]
def l8(c:Int):Option Bool:=
 if(decide (c>=65))=true then
  some (decide (c<=90))
 else
  some false
theorem yu{c:Int}{r:Bool}(h:l8 c=some r):CC Pg GE 209 [.int .u8 c] (.bool r) []:=by
 rcases aH h with⟨c1,h⟩|⟨c1,h⟩
 ·obtain rfl:=lf h
  have z:=sg 3 c1<|en (aI (rP (.bool (decide (c<=90))))<|trivial)
  exact bI qah call209 func209 (c:=qaG) rfl (aI trivial trivial) z<|by kernel_rfl
 ·obtain rfl:=lf h
  have z:=sg 3 c1<|en (aI (rP (.bool false))<|trivial)
  exact bI qah call209 func209 (c:=qaG) rfl (aI trivial trivial) z<|by kernel_rfl
end Go.Proofs.YtkdahfeiedaahaaGreatDoor
