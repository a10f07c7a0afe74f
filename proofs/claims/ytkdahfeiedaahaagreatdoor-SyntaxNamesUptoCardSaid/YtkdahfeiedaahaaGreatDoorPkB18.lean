/- PROVED: a part of the proof. Conditions: none. -/
import Derived.Test.YtkdahfeiedaahaaGreatDoorPkB17
import Derived.Test.YtkdahfeiedaahaaGreatDoorPkB9
import Derived.Test.YtkdahfeiedaahaaGreatDoorPkB8
noncomputable section
namespace Go.Proofs.YtkdahfeiedaahaaGreatDoor
open Go Go.Proofs.Tryz
set_option linter.unusedVariables false
set_option maxRecDepth 100000
section
variable(R142:gv)(e:af)(t14:waE)(t15:Int)(t16:Int)(m2:(List (ag×Bool)))
def fa:az:=aZ 38 [(1,.func (.func 83) [] [.bptr 0 0]),(2,.eptr (ac e)),(14,sl ac t14),(15,.int .i64 t15),(16,.int .i64 t16)] [.cells [.bptr 1 0] [],.cells [.mapr 2] [],.map (aF PVal.bool m2),.dead] []
def fb(o:((List (ag×Bool)))⊕((List (ag×Bool)))):Exit:=match o with
 |(.inl _)=>.ret
 |(.inr _)=>.exit 0
def dl(o:((List (ag×Bool)))⊕((List (ag×Bool)))):az:=match o with
 |(.inl o)=>aZ 38 [(4,.bool false)] [.cells [.bptr 1 0] [],.cells [.mapr 2] [],.map (aF PVal.bool o),.dead] []
 |(.inr o)=>aZ 38 [(1,.func (.func 83) [] [.bptr 0 0]),(2,.eptr (ac e))] [.cells [.bptr 1 0] [],.cells [.mapr 2] [],.map (aF PVal.bool o),.dead] []
def dj:Option ((Int×(List (ag×Bool)))⊕(((List (ag×Bool)))⊕((List (ag×Bool))))):=
 if(decide (t16<t15))=true then
  (fO t14 t16).bind fun x5=>
  (R142 x5 m2).bind fun r6=>
  if(!r6.1)=true then
   some (.inr (.inl r6.2))
  else
   some (.inl (bZ (t16+1),r6.2))
 else
  some (.inr (.inr m2))
def qw:Option (((List (ag×Bool)))⊕((List (ag×Bool)))):=loop (fun(zz:Int×(List (ag×Bool)))=>dj R142 t14 t15 zz.1 zz.2) (t16,m2)
theorem uI(hR142:gu R142){y:(Int×(List (ag×Bool)))⊕(((List (ag×Bool)))⊕((List (ag×Bool))))}(h:dj R142 t14 t15 t16 m2=some y):aP Pg GE 3 (cA Bu 119) (LQ (fun(zz:Int×(List (ag×Bool)))=>fa e t14 t15 zz.1 zz.2) fb (dl e) y) (fa e t14 t15 t16 m2):=by
 rcases aN h with⟨c4,h⟩|⟨c4,h⟩
 ·obtain⟨x5,bx5,h⟩:=aG h
  obtain⟨r6,br6,h⟩:=aG h
  have p8:=fun{sc F} (r:PS sc F)=>sg 0 c4<|sv (fi.ia (k:=.i64) bx5)<|sv (aW x5)<|sx wR<|sx (jj x5)<|sv (bQ x5 [])<|si (.cg ⟨[0,1,2],[.agg (ac x5),.func (.func 83) [] [.bptr 0 0]],[],[.cells [.bptr 1 0] [],.cells [.mapr 2] [],.map (aF PVal.bool m2)],[.cells [.bptr 1 0] [],.cells [.mapr 2] [],.map (aF PVal.bool m2)],[.cells [.bptr 1 0] [],.cells [.mapr 2] [],.map (aF PVal.bool r6.2)],[.cells [.bptr 1 0] [],.cells [.mapr 2] [],.map (aF PVal.bool r6.2)],.bool r6.1,.bool r6.1,[]⟩) (hR142 _ _ _ br6)<|sf (aI (xR [0,1,2] (.agg (ac x5)) (av x5)) (aI (xF [0,1,2] (.func 83) [] [.bptr 0 0] [] [.bptr 0 0] trivial (aI (xB [0,1,2] 0 0 0 rfl) trivial)) trivial))<|sf (aI (aI (rB (.cells [.bptr 1 0] [])) (aI (rW []) (aI (xB [0,1,2] 1 1 0 rfl) trivial))) (aI (aI (rB (.cells [.mapr 2] [])) (aI (rW []) (aI (xM [0,1,2] 2 2 rfl) trivial))) (aI (aI (rB (.map (aF PVal.bool m2))) (aI (rM (aF PVal.bool m2)) (lX (n:=0) PVal.bool (fun x=>trivial) m2))) trivial)))<|sf (aI (aI (rW []) (aI (xB [0,1,2] 1 1 0 rfl) trivial)) (aI (aI (rW []) (aI (xM [0,1,2] 2 2 rfl) trivial)) (aI (aI (rM (aF PVal.bool r6.2)) (lX (n:=0) PVal.bool (fun x=>trivial) r6.2)) trivial)))<|sf (xR [0,1,2] (.bool r6.1) trivial)<|r
  rcases aN h with⟨c7,h⟩|⟨c7,h⟩
  ·obtain rfl:=lf h
   have z:=p8<|sg 0 c7<|sK 3 (fb (.inl r6.2)) (dl e (.inl r6.2)) rfl (dF (aI trivial trivial)) (aI (aI (aX rfl) trivial) (aI (aI (aX rfl) trivial) (aI (lX PVal.bool (fun x=>trivial) r6.2) (aI trivial trivial))))
   exact pw (A:=xj) mixed (by intro hx;cases hx) z<|by kernel_rfl
  ·obtain rfl:=lf h
   have z:=p8<|sg 0 c7<|sK 3 .normal (fa e t14 t15 (bZ (t16+1)) r6.2) rfl (dF (aI (aI trivial (aI (aX rfl) trivial)) (aI (ba (av e)) (aI (up (aj av t14)) (aI trivial (aI trivial trivial)))))) (aI (aI (aX rfl) trivial) (aI (aI (aX rfl) trivial) (aI (lX PVal.bool (fun x=>trivial) r6.2) (aI trivial trivial))))
   exact dZ (A:=xj) mixed z<|by kernel_rfl
 ·obtain rfl:=lf h
  have z:=sg 0 c4<|eF (fb (.inr m2)) (dl e (.inr m2))
  exact iZ xj (by intro hx;cases hx) z<|by kernel_rfl
theorem jP(hR142:gu R142){x:((List (ag×Bool)))⊕((List (ag×Bool)))}(h:qw R142 t14 t15 t16 m2=some x):aP Pg GE 3 (.loop (cA Bu 119)) (EX (fb x) (dl e x)) (fa e t14 t15 t16 m2):=
 aP.loop (S:=fun(zz:Int×(List (ag×Bool)))=>fa e t14 t15 zz.1 zz.2) (ex:=fb) (s:=(t16,m2)) h fun zz y hy=>uI R142 e t14 t15 zz.1 zz.2 hR142 hy
end
section
variable(R142:gv)(t26:waC)(t27:Int)(t28:Int)(m2:(List (ag×Bool)))
def fc:az:=aZ 38 [(1,.func (.func 83) [] [.bptr 0 0]),(26,sl aA t26),(27,.int .i64 t27),(28,.int .i64 t28)] [.cells [.bptr 1 0] [],.cells [.mapr 2] [],.map (aF PVal.bool m2),.dead] []
def fe(o:((List (ag×Bool)))⊕((List (ag×Bool)))):Exit:=match o with
 |(.inl _)=>.ret
 |(.inr _)=>.exit 2
def d8(o:((List (ag×Bool)))⊕((List (ag×Bool)))):az:=match o with
 |(.inl o)=>aZ 38 [(4,.bool false)] [.cells [.bptr 1 0] [],.cells [.mapr 2] [],.map (aF PVal.bool o),.dead] []
 |(.inr o)=>aZ 38 [] [.cells [.bptr 1 0] [],.cells [.mapr 2] [],.map (aF PVal.bool o),.dead] []
def dm:Option ((Int×(List (ag×Bool)))⊕(((List (ag×Bool)))⊕((List (ag×Bool))))):=
 if(decide (t28<t27))=true then
  (fO t26 t28).bind fun x11=>
  (R142 x11.Body m2).bind fun r12=>
  if(!r12.1)=true then
   some (.inr (.inl r12.2))
  else
   some (.inl (bZ (t28+1),r12.2))
 else
  some (.inr (.inr m2))
def qx:Option (((List (ag×Bool)))⊕((List (ag×Bool)))):=loop (fun(zz:Int×(List (ag×Bool)))=>dm R142 t26 t27 zz.1 zz.2) (t28,m2)
theorem uJ(hR142:gu R142){y:(Int×(List (ag×Bool)))⊕(((List (ag×Bool)))⊕((List (ag×Bool))))}(h:dm R142 t26 t27 t28 m2=some y):aP Pg GE 3 (cA Bu 247) (LQ (fun(zz:Int×(List (ag×Bool)))=>fc t26 t27 zz.1 zz.2) fe d8 y) (fc t26 t27 t28 m2):=by
 rcases aN h with⟨c10,h⟩|⟨c10,h⟩
 ·obtain⟨x11,bx11,h⟩:=aG h
  obtain⟨r12,br12,h⟩:=aG h
  have p14:=fun{sc F} (r:PS sc F)=>sg 0 c10<|sv (ea.ia (k:=.i64) bx11)<|sv (ku x11)<|sx D2<|sx (hX x11)<|sv (bQ x11.Body [])<|si (.cg ⟨[0,1,2],[.agg (ac x11.Body),.func (.func 83) [] [.bptr 0 0]],[],[.cells [.bptr 1 0] [],.cells [.mapr 2] [],.map (aF PVal.bool m2)],[.cells [.bptr 1 0] [],.cells [.mapr 2] [],.map (aF PVal.bool m2)],[.cells [.bptr 1 0] [],.cells [.mapr 2] [],.map (aF PVal.bool r12.2)],[.cells [.bptr 1 0] [],.cells [.mapr 2] [],.map (aF PVal.bool r12.2)],.bool r12.1,.bool r12.1,[]⟩) (hR142 _ _ _ br12)<|sf (aI (xR [0,1,2] (.agg (ac x11.Body)) (av x11.Body)) (aI (xF [0,1,2] (.func 83) [] [.bptr 0 0] [] [.bptr 0 0] trivial (aI (xB [0,1,2] 0 0 0 rfl) trivial)) trivial))<|sf (aI (aI (rB (.cells [.bptr 1 0] [])) (aI (rW []) (aI (xB [0,1,2] 1 1 0 rfl) trivial))) (aI (aI (rB (.cells [.mapr 2] [])) (aI (rW []) (aI (xM [0,1,2] 2 2 rfl) trivial))) (aI (aI (rB (.map (aF PVal.bool m2))) (aI (rM (aF PVal.bool m2)) (lX (n:=0) PVal.bool (fun x=>trivial) m2))) trivial)))<|sf (aI (aI (rW []) (aI (xB [0,1,2] 1 1 0 rfl) trivial)) (aI (aI (rW []) (aI (xM [0,1,2] 2 2 rfl) trivial)) (aI (aI (rM (aF PVal.bool r12.2)) (lX (n:=0) PVal.bool (fun x=>trivial) r12.2)) trivial)))<|sf (xR [0,1,2] (.bool r12.1) trivial)<|r
  rcases aN h with⟨c13,h⟩|⟨c13,h⟩
  ·obtain rfl:=lf h
   have z:=p14<|sg 0 c13<|sK 3 (fe (.inl r12.2)) (d8 (.inl r12.2)) rfl (dF (aI trivial trivial)) (aI (aI (aX rfl) trivial) (aI (aI (aX rfl) trivial) (aI (lX PVal.bool (fun x=>trivial) r12.2) (aI trivial trivial))))
   exact pw (A:=xj) mixed (by intro hx;cases hx) z<|by kernel_rfl
  ·obtain rfl:=lf h
   have z:=p14<|sg 0 c13<|sK 3 .normal (fc t26 t27 (bZ (t28+1)) r12.2) rfl (dF (aI (aI trivial (aI (aX rfl) trivial)) (aI (up (aj bL t26)) (aI trivial (aI trivial trivial))))) (aI (aI (aX rfl) trivial) (aI (aI (aX rfl) trivial) (aI (lX PVal.bool (fun x=>trivial) r12.2) (aI trivial trivial))))
   exact dZ (A:=xj) mixed z<|by kernel_rfl
 ·obtain rfl:=lf h
  have z:=sg 0 c10<|eF (fe (.inr m2)) (d8 (.inr m2))
  exact iZ xj (by intro hx;cases hx) z<|by kernel_rfl
theorem nS(hR142:gu R142){x:((List (ag×Bool)))⊕((List (ag×Bool)))}(h:qx R142 t26 t27 t28 m2=some x):aP Pg GE 3 (.loop (cA Bu 247)) (EX (fe x) (d8 x)) (fc t26 t27 t28 m2):=
 aP.loop (S:=fun(zz:Int×(List (ag×Bool)))=>fc t26 t27 zz.1 zz.2) (ex:=fe) (s:=(t28,m2)) h fun zz y hy=>uJ R142 t26 t27 zz.1 zz.2 hR142 hy
end
def jF(R142:gv)(e:af)(k2:(List (ag×Bool))):Option (Bool×(List (ag×Bool))):=
 (lA e k2).bind fun r1=>
 if(!r1.1)=true then
  some (false,r1.2)
 else
  (qw R142 e.Kids (e.Kids.length:Int) 0 r1.2).bind fun o9=>match o9 with
  |(.inl o9)=>
   some (false,o9)
  | (.inr o9) =>
   (qx R142 e.Alts (e.Alts.length:Int) 0 o9).bind fun o15=>match o15 with
   |(.inl o15)=>
    some (false,o15)
   |(.inr o15)=>
    some (true,o15)
theorem yf(R142:gv)(hR142:gu R142){e:af}{k2:(List (ag×Bool))}{r:Bool×(List (ag×Bool))}(h:jF R142 e k2=some r):C Pg GE 64 [.agg (ac e),.func (.func 83) [] [.bptr 0 0]] [] [.cells [.bptr 1 0] [],.cells [.mapr 2] [],.map (aF PVal.bool k2)] (.bool r.1) [] [.cells [.bptr 1 0] [],.cells [.mapr 2] [],.map (aF PVal.bool r.2)]:=by
 obtain⟨r1,br1,h⟩:=aG h
 have p3:=fun{sc F} (r:PS sc F)=>se (bK e)<|sv (aW e)<|si (.cg ⟨[0,1,2],[.agg (ac e),.bptr 0 0],[],[.cells [.bptr 1 0] [],.cells [.mapr 2] [],.map (aF PVal.bool k2)],[.cells [.bptr 1 0] [],.cells [.mapr 2] [],.map (aF PVal.bool k2)],[.cells [.bptr 1 0] [],.cells [.mapr 2] [],.map (aF PVal.bool r1.2)],[.cells [.bptr 1 0] [],.cells [.mapr 2] [],.map (aF PVal.bool r1.2)],.bool r1.1,.bool r1.1,[]⟩) (Ff br1)<|sf (aI (xR [0,1,2] (.agg (ac e)) (av e)) (aI (xB [0,1,2] 0 0 0 rfl) trivial))<|sf (aI (aI (rB (.cells [.bptr 1 0] [])) (aI (rW []) (aI (xB [0,1,2] 1 1 0 rfl) trivial))) (aI (aI (rB (.cells [.mapr 2] [])) (aI (rW []) (aI (xM [0,1,2] 2 2 rfl) trivial))) (aI (aI (rB (.map (aF PVal.bool k2))) (aI (rM (aF PVal.bool k2)) (lX (n:=0) PVal.bool (fun x=>trivial) k2))) trivial)))<|sf (aI (aI (rW []) (aI (xB [0,1,2] 1 1 0 rfl) trivial)) (aI (aI (rW []) (aI (xM [0,1,2] 2 2 rfl) trivial)) (aI (aI (rM (aF PVal.bool r1.2)) (lX (n:=0) PVal.bool (fun x=>trivial) r1.2)) trivial)))<|sf (xR [0,1,2] (.bool r1.1) trivial)<|r
 rcases aN h with⟨c2,h⟩|⟨c2,h⟩
 ·obtain rfl:=lf h
  have z:=p3<|sg 0 c2<|en (aI (rP (.bool false))<|aI trivial<|aI (rL [.cells [.bptr 1 0] [],.cells [.mapr 2] [],.map (aF PVal.bool r1.2)])<|(aI (aI (aX (i:=1) (n:=3) rfl) trivial) (aI (aI (aX (i:=2) (n:=3) rfl) trivial) (aI (lX (n:=3) PVal.bool (fun x=>trivial) r1.2) trivial))))
  exact C.evGp (A:=xj) mixed (m:=3) (c:=Bu) rfl call64 func64 rfl z<|by kernel_rfl
 ·obtain⟨o9,bo9,h⟩:=aG h
  rcases o9 with o9|o9
  ·obtain rfl:=lf h
   have z:=p3<|sg 0 c2<|sv (aR e)<|sv (aS e)<|bW (fi.ln e.Kids)<|cU (e:=.ret) (s1:=dl e (.inl o9)) (jP R142 e e.Kids (e.Kids.length:Int) 0 r1.2 hR142 bo9)<|en (aI (rP (.bool false))<|aI trivial<|aI (rL [.cells [.bptr 1 0] [],.cells [.mapr 2] [],.map (aF PVal.bool o9)])<|(aI (aI (aX (i:=1) (n:=3) rfl) trivial) (aI (aI (aX (i:=2) (n:=3) rfl) trivial) (aI (lX (n:=3) PVal.bool (fun x=>trivial) o9) trivial))))
   exact C.evGp (A:=xj) mixed (m:=3) (c:=Bu) rfl call64 func64 rfl z<|by kernel_rfl
  ·obtain⟨o15,bo15,h⟩:=aG h
   rcases o15 with o15|o15
   ·obtain rfl:=lf h
    have z:=p3<|sg 0 c2<|sv (aR e)<|sv (aS e)<|bW (fi.ln e.Kids)<|cU (e:=.exit 0) (s1:=dl e (.inr o9)) (jP R142 e e.Kids (e.Kids.length:Int) 0 r1.2 hR142 bo9)<|sv (aB e)<|sv (aC e)<|bW (ea.ln e.Alts)<|cU (e:=.ret) (s1:=d8 (.inl o15)) (nS R142 e.Alts (e.Alts.length:Int) 0 o9 hR142 bo15)<|en (aI (rP (.bool false))<|aI trivial<|aI (rL [.cells [.bptr 1 0] [],.cells [.mapr 2] [],.map (aF PVal.bool o15)])<|(aI (aI (aX (i:=1) (n:=3) rfl) trivial) (aI (aI (aX (i:=2) (n:=3) rfl) trivial) (aI (lX (n:=3) PVal.bool (fun x=>trivial) o15) trivial))))
    exact C.evGp (A:=xj) mixed (m:=3) (c:=Bu) rfl call64 func64 rfl z<|by kernel_rfl
   ·obtain rfl:=lf h
    have z:=p3<|sg 0 c2<|sv (aR e)<|sv (aS e)<|bW (fi.ln e.Kids)<|cU (e:=.exit 0) (s1:=dl e (.inr o9)) (jP R142 e e.Kids (e.Kids.length:Int) 0 r1.2 hR142 bo9)<|sv (aB e)<|sv (aC e)<|bW (ea.ln e.Alts)<|cU (e:=.exit 2) (s1:=d8 (.inr o15)) (nS R142 e.Alts (e.Alts.length:Int) 0 o9 hR142 bo15)<|en (aI (rP (.bool true))<|aI trivial<|aI (rL [.cells [.bptr 1 0] [],.cells [.mapr 2] [],.map (aF PVal.bool o15)])<|(aI (aI (aX (i:=1) (n:=3) rfl) trivial) (aI (aI (aX (i:=2) (n:=3) rfl) trivial) (aI (lX (n:=3) PVal.bool (fun x=>trivial) o15) trivial))))
    exact C.evGp (A:=xj) mixed (m:=3) (c:=Bu) rfl call64 func64 rfl z<|by kernel_rfl
def mC:((af×(List (ag×Bool)))->Option (Bool×(List (ag×Bool))))->(af×(List (ag×Bool)))->Option (Bool×(List (ag×Bool))):=fun(rec:(af×(List (ag×Bool)))->Option (Bool×(List (ag×Bool)))) (x:af×(List (ag×Bool)))=>jF (fun e k2=>rec (e,k2)) x.1 x.2
def oD(e:af)(k2:(List (ag×Bool))):Option (Bool×(List (ag×Bool))):=qc mC (e,k2)
theorem yU{e:af}{k2:(List (ag×Bool))}{r:Bool×(List (ag×Bool))}(h:oD e k2=some r):C Pg GE 64 [.agg (ac e),.func (.func 83) [] [.bptr 0 0]] [] [.cells [.bptr 1 0] [],.cells [.mapr 2] [],.map (aF PVal.bool k2)] (.bool r.1) [] [.cells [.bptr 1 0] [],.cells [.mapr 2] [],.map (aF PVal.bool r.2)]:=
 d9 (F:=mC) (M:=fun(x:af×(List (ag×Bool))) (r:Bool×(List (ag×Bool)))=>C Pg GE 64 [.agg (ac x.1),.func (.func 83) [] [.bptr 0 0]] [] [.cells [.bptr 1 0] [],.cells [.mapr 2] [],.map (aF PVal.bool x.2)] (.bool r.1) [] [.cells [.bptr 1 0] [],.cells [.mapr 2] [],.map (aF PVal.bool r.2)]) (fun rec hrec x r h=>yf _ (fun e k2 r h=>hrec (e,k2) r h) h) h
noncomputable def WJ:Code:=f27.body.getD .skip
def Wn:List Nat:=[]
def vE(e:af):Option waA:=
 (lB ([]:List ag)).bind fun r1=>
 (oD e r1).bind fun r2=>
 (qO r2.2).bind fun r3=>
 some r3
theorem IW{e:af}{r:waA}(h:vE e=some r):CC Pg GE 27 [.agg (ac e)] (sl cS r) [(0,9)]:=by
 obtain⟨r1,br1,h⟩:=aG h
 obtain⟨r2,br2,h⟩:=aG h
 obtain⟨r3,br3,h⟩:=aG h
 obtain rfl:=lf h
 have z:=se (bK e)<|si (.cn ⟨[2,3],[],[],[],[],[.map (aF PVal.bool r1),.cells [.mapr 2] []],[.map (aF PVal.bool r1),.cells [.mapr 0] []],.bptr 3 0,.bptr 1 0,[]⟩) (qS br1)<|sf (aI (aj bD ([]:List ag)) trivial)<|sf (aI (aI (rM (aF PVal.bool r1)) (lX (n:=0) PVal.bool (fun x=>trivial) r1)) (aI (aI (rW []) (aI (xM [2,3] 0 2 rfl) trivial)) trivial))<|sf (xB [2,3] 1 3 0 rfl)<|sx Sr<|ss<|sv (aW e)<|si (.cg ⟨[1,3,2],[.agg (ac e),.func (.func 83) [] [.bptr 0 0]],[],[.cells [.bptr 3 0] [],.cells [.mapr 2] [],.map (aF PVal.bool r1)],[.cells [.bptr 1 0] [],.cells [.mapr 2] [],.map (aF PVal.bool r1)],[.cells [.bptr 3 0] [],.cells [.mapr 2] [],.map (aF PVal.bool r2.2)],[.cells [.bptr 1 0] [],.cells [.mapr 2] [],.map (aF PVal.bool r2.2)],.bool r2.1,.bool r2.1,[]⟩) (yU br2)<|sf (aI (xR [1,3,2] (.agg (ac e)) (av e)) (aI (xF [1,3,2] (.func 83) [] [.bptr 1 0] [] [.bptr 0 0] trivial (aI (xB [1,3,2] 0 1 0 rfl) trivial)) trivial))<|sf (aI (aI (rB (.cells [.bptr 3 0] [])) (aI (rW []) (aI (xB [1,3,2] 1 3 0 rfl) trivial))) (aI (aI (rB (.cells [.mapr 2] [])) (aI (rW []) (aI (xM [1,3,2] 2 2 rfl) trivial))) (aI (aI (rB (.map (aF PVal.bool r1))) (aI (rM (aF PVal.bool r1)) (lX (n:=0) PVal.bool (fun x=>trivial) r1))) trivial)))<|sf (aI (aI (rW []) (aI (xB [1,3,2] 1 3 0 rfl) trivial)) (aI (aI (rW []) (aI (xM [1,3,2] 2 2 rfl) trivial)) (aI (aI (rM (aF PVal.bool r2.2)) (lX (n:=0) PVal.bool (fun x=>trivial) r2.2)) trivial)))<|sf (xR [1,3,2] (.bool r2.1) trivial)<|ss<|si (.cg ⟨[3,2],[.bptr 0 0],[],[.cells [.mapr 2] [],.map (aF PVal.bool r2.2)],[.cells [.mapr 1] [],.map (aF PVal.bool r2.2)],[.cells [.mapr 2] [],.map (aF PVal.bool r2.2)],[.cells [.mapr 1] [],.map (aF PVal.bool r2.2)],sl cS r3,sl cS r3,[(0,9)]⟩) (wo br3)<|sf (aI (xB [3,2] 0 3 0 rfl) trivial)<|sf (aI (aI (rB (.cells [.mapr 2] [])) (aI (rW []) (aI (xM [3,2] 1 2 rfl) trivial))) (aI (aI (rB (.map (aF PVal.bool r2.2))) (aI (rM (aF PVal.bool r2.2)) (lX (n:=0) PVal.bool (fun x=>trivial) r2.2))) trivial))<|sf (aI (aI (rW []) (aI (xM [3,2] 1 2 rfl) trivial)) (aI (aI (rM (aF PVal.bool r2.2)) (lX (n:=0) PVal.bool (fun x=>trivial) r2.2)) trivial))<|sf (xR [3,2] (sl cS r3) (aj bD r3))<|en (aI (rP (sl cS r3))<|(aj bD r3))
 exact cC Wn call27 func27 (c:=WJ) rfl (aI (av e) trivial) z<|by kernel_rfl
abbrev tP:=(af->waA->Bool->Option waA)
abbrev tx(R:tP):Prop:=∀(e:af) (bound:waA) (calls:Bool) (r:waA),R e bound calls=some r->CC Pg GE 86 [.agg (ac e),sl cS bound,.bool calls] (sl cS r) [(0,9)]
noncomputable def WY:Code:=f93.body.getD .skip
def WC:List Nat:=[]
def G5(a:waA)(s:ag):Option Bool:=
 (C5 a s).bind fun r1=>
 some (decide (r1>=0))
theorem HO{a:waA}{s:ag}{r:Bool}(h:G5 a s=some r):CC Pg GE 93 [sl cS a,.str s] (.bool r) []:=by
 obtain⟨r1,br1,h⟩:=aG h
 obtain rfl:=lf h
 have z:=cH (LO br1)<|en (aI (rP (.bool (decide (r1>=0))))<|trivial)
 exact cC WC call93 func93 (c:=WY) rfl (aI (aj bD a) (aI trivial trivial)) z<|by kernel_rfl
noncomputable def OD:Code:=f114.body.getD .skip
def KD:List Nat:=[19,36,45]
section
variable(i:Int)(e:af)(out:waA)
def HT:az:=aZ 46 [(1,.int .i64 i),(3,.eptr (ac e)),(7,sl cS out)] [.dead] [((7,0),9)]
def tL(o:Bool):az:=aZ 46 [(3,.eptr (ac e)),(7,sl cS out),(18,.bool o)] [.dead] [((7,0),9)]
def xE:Option Bool:=
 if(e.Op==7)=true then
  some (decide (i>0))
 else
  some false
theorem GA{x:Bool}(h:xE i e=some x):aP Pg GE 0 (cA OD 28) (EX .normal (tL e out x)) (HT i e out):=by
 have p3:=fun{sc F} (r:PS sc F)=>sv (cd e)<|sv (ce e)<|r
 rcases aN h with⟨c2,h⟩|⟨c2,h⟩
 ·obtain rfl:=lf h
  exact bk KD (p3<|sg 4 c2<|eF .normal (tL e out (decide (i>0))))<|by kernel_rfl
 ·obtain rfl:=lf h
  exact bk KD (p3<|sg 4 c2<|eF .normal (tL e out false))<|by kernel_rfl
end
section
variable(i:Int)(e:af)(out:waA)
def HS:az:=aZ 46 [(1,.int .i64 i),(3,.eptr (ac e)),(7,sl cS out)] [.dead] [((7,0),9)]
def tK(o:waA):az:=aZ 46 [(3,.eptr (ac e)),(7,sl cS o)] [.dead] [((7,0),9)]
def xD:Option waA:=
 (xE i e).bind fun o4=>
 if o4=true then
  (app out ([e.Name]:List ag)).bind fun l7=>
  some l7
 else
  some out
theorem Gz{x:waA}(h:xD i e out=some x):aP Pg GE 0 (cA OD 14) (EX .normal (tK e x)) (HS i e out):=by
 obtain⟨o4,bo4,h⟩:=aG h
 have p6:=fun{sc F} (r:PS sc F)=>oz 0<|cU (GA i e out bo4)<|r
 rcases aN h with⟨c5,h⟩|⟨c5,h⟩
 ·obtain⟨l7,bl7,h⟩:=aG h
  obtain rfl:=lf h
  exact bk KD (p6<|sg 0 c5<|sv (cp e)<|sv (cz e)<|sv (ch.mk' (v:=PVal.str) E7 ([e.Name]:List ag) 1 (by kernel_rfl))<|sv (ch.ap bl7)<|eF .normal (tK e l7))<|by kernel_rfl
 ·obtain rfl:=lf h
  exact bk KD (p6<|sg 0 c5<|eF .normal (tK e out))<|by kernel_rfl
end
section
variable(e:af)(out:waA)(k:Int)
def HU:az:=aZ 46 [(3,.eptr (ac e)),(7,sl cS out),(8,.int .i64 k)] [.dead] [((7,0),9)]
def tM(o:Bool):az:=aZ 46 [(3,.eptr (ac e)),(7,sl cS out),(8,.int .i64 k),(33,.bool o)] [.dead] [((7,0),9)]
def pd:Option Bool:=
 if(decide (k<(e.Params.length:Int)))=true then
  some (e.Op==6)
 else
  some false
theorem GB{x:Bool}(h:pd e k=some x):aP Pg GE 0 (cA OD 988) (EX .normal (tM e out k x)) (HU e out k):=by
 have p10:=fun{sc F} (r:PS sc F)=>sv (bw e)<|sv (bA e)<|bW (kU.ln e.Params)<|r
 rcases aN h with⟨c9,h⟩|⟨c9,h⟩
 ·obtain rfl:=lf h
  exact bk KD (p10<|sg 6 c9<|sv (cd e)<|sv (ce e)<|eF .normal (tM e out k (e.Op==6)))<|by kernel_rfl
 ·obtain rfl:=lf h
  exact bk KD (p10<|sg 6 c9<|eF .normal (tM e out k false))<|by kernel_rfl
end
section
variable(e:af)(out:waA)(k:Int)
def mh:az:=aZ 46 [(3,.eptr (ac e)),(7,sl cS out),(8,.int .i64 k)] [.dead] [((7,0),9)]
def tN(o:waA):az:=aZ 46 [(7,sl cS o)] [.dead] [((7,0),9)]
def fo:Option ((waA×Int)⊕(waA)):=
 (pd e k).bind fun o11=>
 if o11=true then
  (fO e.Params k).bind fun x14=>
  (app out ([x14.Name]:List ag)).bind fun l15=>
  some (.inl (l15,bZ (k+1)))
 else
  some (.inr out)
def sZ:Option waA:=loop (fun(zz:waA×Int)=>fo e zz.1 zz.2) (out,k)
theorem EE{y:(waA×Int)⊕(waA)}(h:fo e out k=some y):aP Pg GE 0 (cA OD 247) (LQ (fun(zz:waA×Int)=>mh e zz.1 zz.2) (fun _=>.exit 0) tN y) (mh e out k):=by
 obtain⟨o11,bo11,h⟩:=aG h
 have p13:=fun{sc F} (r:PS sc F)=>oz 1<|cU (GB e out k bo11)<|r
 rcases aN h with⟨c12,h⟩|⟨c12,h⟩
 ·obtain⟨x14,bx14,h⟩:=aG h
  obtain⟨l15,bl15,h⟩:=aG h
  obtain rfl:=lf h
  exact xO KD (p13<|sg 0 c12<|sv (bw e)<|sv (bA e)<|sv (kU.ia (k:=.i64) bx14)<|sv (pj x14)<|sv (ri x14)<|sv (ch.mk' (v:=PVal.str) E7 ([x14.Name]:List ag) 1 (by kernel_rfl))<|sv (ch.ap bl15)<|eF .normal (mh e l15 (bZ (k+1))))<|by kernel_rfl
 ·obtain rfl:=lf h
  have z:=p13<|sg 0 c12<|eF (.exit 0) (tN out)
  exact iZ KD (by intro hx;cases hx) z<|by kernel_rfl
theorem GD{x:waA}(h:sZ e out k=some x):aP Pg GE 0 (.loop (cA OD 247)) (EX (.exit 0) (tN x)) (mh e out k):=
 aP.loop (S:=fun(zz:waA×Int)=>mh e zz.1 zz.2) (ex:=(fun _=>.exit 0)) (s:=(out,k)) h fun zz y hy=>EE e zz.1 zz.2 hy
end
def Aq(e:af)(i:Int)(bound:waA):Option waA:=
 (app ([]:List ag) bound).bind fun l1=>
 (xD i e l1).bind fun o8=>
 (sZ e o8 0).bind fun o16=>
 some o16
theorem KS{e:af}{i:Int}{bound:waA}{r:waA}(h:Aq e i bound=some r):CC Pg GE 114 [.agg (ac e),.int .i64 i,sl cS bound] (sl cS r) [(0,9)]:=by
 obtain⟨l1,bl1,h⟩:=aG h
 obtain⟨o8,bo8,h⟩:=aG h
 obtain⟨o16,bo16,h⟩:=aG h
 obtain rfl:=lf h
 have z:=se (bK e)<|sv (ch.mk' (v:=PVal.str) E7 ([]:List ag) 0 (by kernel_rfl))<|sv (ch.ap bl1)<|oz 0<|cU (Gz i e l1 bo8)<|cU (GD e o8 0 bo16)<|en (aI (rP (sl cS o16))<|(aj bD o16))
 exact cC KD call114 func114 (c:=OD) rfl (aI (av e) (aI trivial (aI (aj bD bound) trivial))) z<|by kernel_rfl
noncomputable def ST:Code:=f86.body.getD .skip
def PN:List Nat:=[30,42,72,83]
section
variable(bound:waA)(calls:Bool)(e:af)
def Jr:az:=aZ 84 [(1,sl cS bound),(2,.bool calls),(3,.eptr (ac e)),(7,sl cS ([]:List ag))] [.dead] [((7,0),9)]
def nz(o:Bool):az:=aZ 84 [(1,sl cS bound),(2,.bool calls),(3,.eptr (ac e)),(7,sl cS ([]:List ag)),(29,.bool o)] [.dead] [((7,0),9)]
def zd:Option Bool:=
 if(e.Op==5)=true then
  (G5 bound e.Name).bind fun r3=>
  some (!r3)
 else
  if(e.Op==3)=true then
   if(!calls)=true then
    (G5 bound e.Name).bind fun r8=>
    some (!r8)
   else
    some false
  else
   some false
theorem HL{x:Bool}(h:zd bound calls e=some x):aP Pg GE 0 (cA ST 28) (EX .normal (nz bound calls e x)) (Jr bound calls e):=by
 have p2:=fun{sc F} (r:PS sc F)=>sv (cd e)<|sv (ce e)<|r
 rcases aN h with⟨c1,h⟩|⟨c1,h⟩
 ·obtain⟨r3,br3,h⟩:=aG h
  obtain rfl:=lf h
  exact bk PN (p2<|sg 4 c1<|sv (cp e)<|sv (cz e)<|cH (HO br3)<|eF .normal (nz bound calls e (!r3)))<|by kernel_rfl
 ·have p5:=fun{sc F} (r:PS sc F)=>p2<|sg 4 c1<|sv (cd e)<|sv (ce e)<|r
  rcases aN h with⟨c4,h⟩|⟨c4,h⟩
  ·have p7:=fun{sc F} (r:PS sc F)=>p5<|sg 8 c4<|r
   rcases aN h with⟨c6,h⟩|⟨c6,h⟩
   ·obtain⟨r8,br8,h⟩:=aG h
    obtain rfl:=lf h
    exact bk PN (p7<|sg 13 c6<|sv (cp e)<|sv (cz e)<|cH (HO br8)<|eF .normal (nz bound calls e (!r8)))<|by kernel_rfl
   ·obtain rfl:=lf h
    exact bk PN (p7<|sg 13 c6<|eF .normal (nz bound calls e false))<|by kernel_rfl
  ·obtain rfl:=lf h
   exact bk PN (p5<|sg 8 c4<|eF .normal (nz bound calls e false))<|by kernel_rfl
end
section
variable(bound:waA)(calls:Bool)(e:af)
def Jq:az:=aZ 84 [(1,sl cS bound),(2,.bool calls),(3,.eptr (ac e)),(7,sl cS ([]:List ag))] [.dead] [((7,0),9)]
def wa(o:waA):az:=aZ 84 [(1,sl cS bound),(2,.bool calls),(3,.eptr (ac e)),(7,sl cS o)] [.dead] [((7,0),9)]
def uT:Option waA:=
 (zd bound calls e).bind fun o9=>
 if o9=true then
  (app ([]:List ag) ([e.Name]:List ag)).bind fun l12=>
  some l12
 else
  some ([]:List ag)
theorem HK{x:waA}(h:uT bound calls e=some x):aP Pg GE 0 (cA ST 14) (EX .normal (wa bound calls e x)) (Jq bound calls e):=by
 obtain⟨o9,bo9,h⟩:=aG h
 have p11:=fun{sc F} (r:PS sc F)=>oz 0<|cU (HL bound calls e bo9)<|r
 rcases aN h with⟨c10,h⟩|⟨c10,h⟩
 ·obtain⟨l12,bl12,h⟩:=aG h
  obtain rfl:=lf h
  exact bk PN (p11<|sg 0 c10<|sv (cp e)<|sv (cz e)<|sv (ch.mk' (v:=PVal.str) E7 ([e.Name]:List ag) 1 (by kernel_rfl))<|sv (ch.ap bl12)<|eF .normal (wa bound calls e l12))<|by kernel_rfl
 ·obtain rfl:=lf h
  exact bk PN (p11<|sg 0 c10<|eF .normal (wa bound calls e ([]:List ag)))<|by kernel_rfl
end
section
variable(R146:tP)(bound:waA)(calls:Bool)(e:af)(out:waA)(i:Int)
def nB:az:=aZ 84 [(1,sl cS bound),(2,.bool calls),(3,.eptr (ac e)),(7,sl cS out),(8,.int .i64 i)] [.dead] [((7,0),9)]
def wb(o:waA):az:=aZ 84 [(1,sl cS bound),(2,.bool calls),(3,.eptr (ac e)),(7,sl cS o)] [.dead] [((7,0),9)]
def jJ:Option ((waA×Int)⊕(waA)):=
 if(decide (i<(e.Kids.length:Int)))=true then
  (fO e.Kids i).bind fun x16=>
  (Aq e i bound).bind fun r17=>
  (R146 x16 r17 calls).bind fun r18=>
  (app out r18).bind fun l19=>
  some (.inl (l19,bZ (i+1)))
 else
  some (.inr out)
def uU:Option waA:=loop (fun(zz:waA×Int)=>jJ R146 bound calls e zz.1 zz.2) (out,i)
theorem Gr(hR146:tx R146){y:(waA×Int)⊕(waA)}(h:jJ R146 bound calls e out i=some y):aP Pg GE 0 (cA ST 247) (LQ (fun(zz:waA×Int)=>nB bound calls e zz.1 zz.2) (fun _=>.exit 0) (wb bound calls e) y) (nB bound calls e out i):=by
 have p15:=fun{sc F} (r:PS sc F)=>sv (aR e)<|sv (aS e)<|bW (fi.ln e.Kids)<|r
 rcases aN h with⟨c14,h⟩|⟨c14,h⟩
 ·obtain⟨x16,bx16,h⟩:=aG h
  obtain⟨r17,br17,h⟩:=aG h
  obtain⟨r18,br18,h⟩:=aG h
  obtain⟨l19,bl19,h⟩:=aG h
  obtain rfl:=lf h
  exact xO PN (p15<|sg 0 c14<|IS [0,0,2,0,14,30,0,0,0,448,0,2046,4095,8191]<|sv (aR e)<|sv (aS e)<|sv (fi.ia (k:=.i64) bx16)<|sv (aW x16)<|sv (aW e)<|cH (KS br17)<|cH (hR146 _ _ _ _ br18)<|sv (ch.ap bl19)<|eF .normal (nB bound calls e l19 (bZ (i+1))))<|by kernel_rfl
 ·obtain rfl:=lf h
  have z:=p15<|sg 0 c14<|eF (.exit 0) (wb bound calls e out)
  exact iZ PN (by intro hx;cases hx) z<|by kernel_rfl
theorem HM(hR146:tx R146){x:waA}(h:uU R146 bound calls e out i=some x):aP Pg GE 0 (.loop (cA ST 247)) (EX (.exit 0) (wb bound calls e x)) (nB bound calls e out i):=
 aP.loop (S:=fun(zz:waA×Int)=>nB bound calls e zz.1 zz.2) (ex:=(fun _=>.exit 0)) (s:=(out,i)) h fun zz y hy=>Gr R146 bound calls e zz.1 zz.2 hR146 hy
end
section
variable(R146:tP)(bound:waA)(calls:Bool)(e:af)(out:waA)(i:Int)
def nC:az:=aZ 84 [(1,sl cS bound),(2,.bool calls),(3,.eptr (ac e)),(7,sl cS out),(9,.int .i64 i)] [.dead] [((7,0),9)]
def wc(o:waA):az:=aZ 84 [(7,sl cS o)] [.dead] [((7,0),9)]
def jK:Option ((waA×Int)⊕(waA)):=
 if(decide (i<(e.Alts.length:Int)))=true then
  (app ([]:List ag) bound).bind fun l23=>
  (fO e.Alts i).bind fun x24=>
  (app l23 x24.Names).bind fun l25=>
  (fO e.Alts i).bind fun x26=>
  (R146 x26.Body l25 calls).bind fun r27=>
  (app out r27).bind fun l28=>
  some (.inl (l28,bZ (i+1)))
 else
  some (.inr out)
def uV:Option waA:=loop (fun(zz:waA×Int)=>jK R146 bound calls e zz.1 zz.2) (out,i)
theorem Gs(hR146:tx R146){y:(waA×Int)⊕(waA)}(h:jK R146 bound calls e out i=some y):aP Pg GE 0 (cA ST 503) (LQ (fun(zz:waA×Int)=>nC bound calls e zz.1 zz.2) (fun _=>.exit 2) wc y) (nC bound calls e out i):=by
 have p22:=fun{sc F} (r:PS sc F)=>sv (aB e)<|sv (aC e)<|bW (ea.ln e.Alts)<|r
 rcases aN h with⟨c21,h⟩|⟨c21,h⟩
 ·obtain⟨l23,bl23,h⟩:=aG h
  obtain⟨x24,bx24,h⟩:=aG h
  obtain⟨l25,bl25,h⟩:=aG h
  obtain⟨x26,bx26,h⟩:=aG h
  obtain⟨r27,br27,h⟩:=aG h
  obtain⟨l28,bl28,h⟩:=aG h
  obtain rfl:=lf h
  exact xO PN (p22<|sg 0 c21<|IS [0,0,3,0,8,0,56,120,248,511,1023]<|sv (ch.mk' (v:=PVal.str) E7 ([]:List ag) 0 (by kernel_rfl))<|sv (ch.ap bl23)<|sv (aB e)<|sv (aC e)<|sv (ea.ia (k:=.i64) bx24)<|sv (pg x24)<|sv (pn x24)<|sv (ch.ap bl25)<|sv (aB e)<|sv (aC e)<|sv (ea.ia (k:=.i64) bx26)<|sv (ph x26)<|sv (po x26)<|cH (hR146 _ _ _ _ br27)<|sv (ch.ap bl28)<|eF .normal (nC bound calls e l28 (bZ (i+1))))<|by kernel_rfl
 ·obtain rfl:=lf h
  have z:=p22<|sg 0 c21<|eF (.exit 2) (wc out)
  exact iZ PN (by intro hx;cases hx) z<|by kernel_rfl
theorem HN(hR146:tx R146){x:waA}(h:uV R146 bound calls e out i=some x):aP Pg GE 0 (.loop (cA ST 503)) (EX (.exit 2) (wc x)) (nC bound calls e out i):=
 aP.loop (S:=fun(zz:waA×Int)=>nC bound calls e zz.1 zz.2) (ex:=(fun _=>.exit 2)) (s:=(out,i)) h fun zz y hy=>Gs R146 bound calls e zz.1 zz.2 hR146 hy
end
def xx(R146:tP)(e:af)(bound:waA)(calls:Bool):Option waA:=
 (uT bound calls e).bind fun o13=>
 (uU R146 bound calls e o13 0).bind fun o20=>
 (uV R146 bound calls e o20 0).bind fun o29=>
 some o29
theorem KP(R146:tP)(hR146:tx R146){e:af}{bound:waA}{calls:Bool}{r:waA}(h:xx R146 e bound calls=some r):CC Pg GE 86 [.agg (ac e),sl cS bound,.bool calls] (sl cS r) [(0,9)]:=by
 obtain⟨o13,bo13,h⟩:=aG h
 obtain⟨o20,bo20,h⟩:=aG h
 obtain⟨o29,bo29,h⟩:=aG h
 obtain rfl:=lf h
 have z:=se (bK e)<|oz 1<|cU (HK bound calls e bo13)<|cU (HM R146 bound calls e o13 0 hR146 bo20)<|cU (HN R146 bound calls e o20 0 hR146 bo29)<|en (aI (rP (sl cS o29))<|(aj bD o29))
 exact cC PN call86 func86 (c:=ST) rfl (aI (av e) (aI (aj bD bound) (aI trivial trivial))) z<|by kernel_rfl
def Ci:((af×waA×Bool)->Option waA)->(af×waA×Bool)->Option waA:=fun(rec:(af×waA×Bool)->Option waA) (x:af×waA×Bool)=>xx (fun e bound calls=>rec (e,bound,calls)) x.1 x.2.1 x.2.2
def Dd(e:af)(bound:waA)(calls:Bool):Option waA:=qc Ci (e,bound,calls)
theorem FF{e:af}{bound:waA}{calls:Bool}{r:waA}(h:Dd e bound calls=some r):CC Pg GE 86 [.agg (ac e),sl cS bound,.bool calls] (sl cS r) [(0,9)]:=
 d9 (F:=Ci) (M:=fun(x:af×waA×Bool) (r:waA)=>CC Pg GE 86 [.agg (ac x.1),sl cS x.2.1,.bool x.2.2] (sl cS r) [(0,9)]) (fun rec hrec x r h=>KP _ (fun e bound calls r h=>hrec (e,bound,calls) r h) h) h
noncomputable def OE:Code:=f128.body.getD .skip
def KE:List Nat:=[19,28,46,51]
section
variable(v:waA)(s:ag)(out:waA)(i:Int)
def KH:az:=aZ 52 [(0,sl cS v),(1,.str s),(5,sl cS out),(6,.int .i64 i)] [] [((5,0),9)]
def xo(o:Bool):az:=aZ 52 [(0,sl cS v),(1,.str s),(5,sl cS out),(6,.int .i64 i),(18,.bool o)] [] [((5,0),9)]
def qB:Option Bool:=
 if(decide (i<(v.length:Int)))=true then
  (fO v i).bind fun x2=>
  some (Op.bytesLess x2 s)
 else
  some false
theorem Jd{x:Bool}(h:qB v s i=some x):aP Pg GE 0 (cA OE 492) (EX .normal (xo v s out i x)) (KH v s out i):=by
 rcases aN h with⟨c1,h⟩|⟨c1,h⟩
 ·obtain⟨x2,bx2,h⟩:=aG h
  obtain rfl:=lf h
  exact bk KE (bW (ch.ln v)<|sg 5 c1<|sv (ch.ia (k:=.i64) bx2)<|sv (cy C2 (.str x2) [])<|eF .normal (xo v s out i (Op.bytesLess x2 s)))<|by kernel_rfl
 ·obtain rfl:=lf h
  exact bk KE (bW (ch.ln v)<|sg 5 c1<|eF .normal (xo v s out i false))<|by kernel_rfl
end
section
variable(v:waA)(s:ag)(out:waA)(i:Int)
def o0:az:=aZ 52 [(0,sl cS v),(1,.str s),(5,sl cS out),(6,.int .i64 i)] [] [((5,0),9)]
def xt(o:waA×Int):az:=aZ 52 [(0,sl cS v),(1,.str s),(5,sl cS o.1),(6,.int .i64 o.2)] [] [((5,0),9)]
def pb:Option ((waA×Int)⊕((waA×Int))):=
 (qB v s i).bind fun o3=>
 if o3=true then
  (fO v i).bind fun x6=>
  (app out ([x6]:List ag)).bind fun l7=>
  some (.inl (l7,bZ (i+1)))
 else
  some (.inr (out,i))
def Ce:Option ((waA×Int)):=loop (fun(zz:waA×Int)=>pb v s zz.1 zz.2) (out,i)
theorem Hm{y:(waA×Int)⊕((waA×Int))}(h:pb v s out i=some y):aP Pg GE 0 (cA OE 123) (LQ (fun(zz:waA×Int)=>o0 v s zz.1 zz.2) (fun _=>.exit 0) (xt v s) y) (o0 v s out i):=by
 obtain⟨o3,bo3,h⟩:=aG h
 have p5:=fun{sc F} (r:PS sc F)=>oz 1<|cU (Jd v s out i bo3)<|r
 rcases aN h with⟨c4,h⟩|⟨c4,h⟩
 ·obtain⟨x6,bx6,h⟩:=aG h
  obtain⟨l7,bl7,h⟩:=aG h
  obtain rfl:=lf h
  exact xO KE (p5<|sg 0 c4<|sv (ch.ia (k:=.i64) bx6)<|sv (cy C2 (.str x6) [])<|sv (ch.mk' (v:=PVal.str) E7 ([x6]:List ag) 1 (by kernel_rfl))<|sv (ch.ap bl7)<|eF .normal (o0 v s l7 (bZ (i+1))))<|by kernel_rfl
 ·obtain rfl:=lf h
  have z:=p5<|sg 0 c4<|eF (.exit 0) (xt v s (out,i))
  exact iZ KE (by intro hx;cases hx) z<|by kernel_rfl
theorem Jg{x:(waA×Int)}(h:Ce v s out i=some x):aP Pg GE 0 (.loop (cA OE 123)) (EX (.exit 0) (xt v s x)) (o0 v s out i):=
 aP.loop (S:=fun(zz:waA×Int)=>o0 v s zz.1 zz.2) (ex:=(fun _=>.exit 0)) (s:=(out,i)) h fun zz y hy=>Hm v s zz.1 zz.2 hy
end
section
variable(v:waA)(s:ag)(out:waA)(i:Int)
def KJ:az:=aZ 52 [(0,sl cS v),(1,.str s),(5,sl cS out),(6,.int .i64 i)] [] [((5,0),9)]
def xr(o:Bool):az:=aZ 52 [(0,sl cS v),(5,sl cS out),(6,.int .i64 i),(43,.bool o)] [] [((5,0),9)]
def Cd:Option Bool:=
 if(decide (i<(v.length:Int)))=true then
  (fO v i).bind fun x11=>
  some (x11==s)
 else
  some false
theorem Jf{x:Bool}(h:Cd v s i=some x):aP Pg GE 0 (cA OE 252) (EX .normal (xr v out i x)) (KJ v s out i):=by
 rcases aN h with⟨c10,h⟩|⟨c10,h⟩
 ·obtain⟨x11,bx11,h⟩:=aG h
  obtain rfl:=lf h
  exact bk KE (bW (ch.ln v)<|sg 5 c10<|sv (ch.ia (k:=.i64) bx11)<|sv (cy C2 (.str x11) [])<|eF .normal (xr v out i (x11==s)))<|by kernel_rfl
 ·obtain rfl:=lf h
  exact bk KE (bW (ch.ln v)<|sg 5 c10<|eF .normal (xr v out i false))<|by kernel_rfl
end
section
variable(v:waA)(s:ag)(out:waA)(i:Int)
def KI:az:=aZ 52 [(0,sl cS v),(1,.str s),(5,sl cS out),(6,.int .i64 i)] [] [((5,0),9)]
def xq(o:Int):az:=aZ 52 [(0,sl cS v),(5,sl cS out),(6,.int .i64 o)] [] [((5,0),9)]
def xp:Option Int:=
 (Cd v s i).bind fun o12=>
 if o12=true then
  some (bZ (i+1))
 else
  some i
theorem Je{x:Int}(h:xp v s i=some x):aP Pg GE 0 (cA OE 126) (EX .normal (xq v out x)) (KI v s out i):=by
 obtain⟨o12,bo12,h⟩:=aG h
 have p14:=fun{sc F} (r:PS sc F)=>oz 0<|cU (Jf v s out i bo12)<|r
 rcases aN h with⟨c13,h⟩|⟨c13,h⟩
 ·obtain rfl:=lf h
  exact bk KE (p14<|sg 0 c13<|eF .normal (xq v out (bZ (i+1))))<|by kernel_rfl
 ·obtain rfl:=lf h
  exact bk KE (p14<|sg 0 c13<|eF .normal (xq v out i))<|by kernel_rfl
end
def C8(a:waA)(s:ag):Option waA:=
 (Ce a s ([]:List ag) 0).bind fun o8=>
 (app o8.1 ([s]:List ag)).bind fun l9=>
 (xp a s o8.2).bind fun o15=>
 (Sc a (some o15) none).bind fun l16=>
 (app l9 l16).bind fun l17=>
 some l17
theorem Ho{a:waA}{s:ag}{r:waA}(h:C8 a s=some r):CC Pg GE 128 [sl cS a,.str s] (sl cS r) [(0,9)]:=by
 obtain⟨o8,bo8,h⟩:=aG h
 obtain⟨l9,bl9,h⟩:=aG h
 obtain⟨o15,bo15,h⟩:=aG h
 obtain⟨l16,bl16,h⟩:=aG h
 obtain⟨l17,bl17,h⟩:=aG h
 obtain rfl:=lf h
 have z:=cU (Jg a s ([]:List ag) 0 bo8)<|sv (ch.mk' (v:=PVal.str) E7 ([s]:List ag) 1 (by kernel_rfl))<|sv (ch.ap bl9)<|oz 0<|cU (Je a s l9 o8.2 bo15)<|sv (ch.sc bl16)<|sv (ch.ap bl17)<|en (aI (rP (sl cS l17))<|(aj bD l17))
 exact cC KE call128 func128 (c:=OE) rfl (aI (aj bD a) (aI trivial trivial)) z<|by kernel_rfl
noncomputable def T7:Code:=f85.body.getD .skip
def TJ:List Nat:=[12,24,32]
section
variable(v:waA)(v2:waA)(t9:Int)(out:waA)(t10:Int)
def lZ:az:=aZ 33 [(0,sl cS v),(1,sl cS v2),(5,sl cS out),(9,.int .i64 t9),(10,.int .i64 t10)] [] [((5,0),9)]
def tz(o:waA):az:=aZ 33 [(1,sl cS v2),(5,sl cS o)] [] [((5,0),9)]
def ma:Option ((waA×Int)⊕(waA)):=
 if(decide (t10<t9))=true then
  (fO v t10).bind fun x2=>
  (C8 out x2).bind fun r3=>
  some (.inl (r3,bZ (t10+1)))
 else
  some (.inr out)
def xm:Option waA:=loop (fun(zz:waA×Int)=>ma v t9 zz.1 zz.2) (out,t10)
theorem Ew{y:(waA×Int)⊕(waA)}(h:ma v t9 out t10=some y):aP Pg GE 0 (cA T7 119) (LQ (fun(zz:waA×Int)=>lZ v v2 t9 zz.1 zz.2) (fun _=>.exit 0) (tz v2) y) (lZ v v2 t9 out t10):=by
 rcases aN h with⟨c1,h⟩|⟨c1,h⟩
 ·obtain⟨x2,bx2,h⟩:=aG h
  obtain⟨r3,br3,h⟩:=aG h
  obtain rfl:=lf h
  exact xO TJ (sg 0 c1<|sv (ch.ia (k:=.i64) bx2)<|sv (cy C2 (.str x2) [])<|cH (Ho br3)<|eF .normal (lZ v v2 t9 r3 (bZ (t10+1))))<|by kernel_rfl
 ·obtain rfl:=lf h
  have z:=sg 0 c1<|eF (.exit 0) (tz v2 out)
  exact iZ TJ (by intro hx;cases hx) z<|by kernel_rfl
theorem Gg{x:waA}(h:xm v t9 out t10=some x):aP Pg GE 0 (.loop (cA T7 119)) (EX (.exit 0) (tz v2 x)) (lZ v v2 t9 out t10):=
 aP.loop (S:=fun(zz:waA×Int)=>lZ v v2 t9 zz.1 zz.2) (ex:=(fun _=>.exit 0)) (s:=(out,t10)) h fun zz y hy=>Ew v v2 t9 zz.1 zz.2 hy
end
section
variable(v:waA)(t21:Int)(out:waA)(t22:Int)
def mb:az:=aZ 33 [(1,sl cS v),(5,sl cS out),(21,.int .i64 t21),(22,.int .i64 t22)] [] [((5,0),9)]
def tA(o:waA):az:=aZ 33 [(5,sl cS o)] [] [((5,0),9)]
def mc:Option ((waA×Int)⊕(waA)):=
 if(decide (t22<t21))=true then
  (fO v t22).bind fun x6=>
  (C8 out x6).bind fun r7=>
  some (.inl (r7,bZ (t22+1)))
 else
  some (.inr out)
def xn:Option waA:=loop (fun(zz:waA×Int)=>mc v t21 zz.1 zz.2) (out,t22)
theorem Ex{y:(waA×Int)⊕(waA)}(h:mc v t21 out t22=some y):aP Pg GE 0 (cA T7 247) (LQ (fun(zz:waA×Int)=>mb v t21 zz.1 zz.2) (fun _=>.exit 2) tA y) (mb v t21 out t22):=by
 rcases aN h with⟨c5,h⟩|⟨c5,h⟩
 ·obtain⟨x6,bx6,h⟩:=aG h
  obtain⟨r7,br7,h⟩:=aG h
  obtain rfl:=lf h
  exact xO TJ (sg 0 c5<|sv (ch.ia (k:=.i64) bx6)<|sv (cy C2 (.str x6) [])<|cH (Ho br7)<|eF .normal (mb v t21 r7 (bZ (t22+1))))<|by kernel_rfl
 ·obtain rfl:=lf h
  have z:=sg 0 c5<|eF (.exit 2) (tA out)
  exact iZ TJ (by intro hx;cases hx) z<|by kernel_rfl
theorem Gh{x:waA}(h:xn v t21 out t22=some x):aP Pg GE 0 (.loop (cA T7 247)) (EX (.exit 2) (tA x)) (mb v t21 out t22):=
 aP.loop (S:=fun(zz:waA×Int)=>mb v t21 zz.1 zz.2) (ex:=(fun _=>.exit 2)) (s:=(out,t22)) h fun zz y hy=>Ex v t21 zz.1 zz.2 hy
end
def wr(a:waA)(a2:waA):Option waA:=
 (xm a (a.length:Int) ([]:List ag) 0).bind fun o4=>
 (xn a2 (a2.length:Int) o4 0).bind fun o8=>
 some o8
theorem C7{a:waA}{a2:waA}{r:waA}(h:wr a a2=some r):CC Pg GE 85 [sl cS a,sl cS a2] (sl cS r) [(0,9)]:=by
 obtain⟨o4,bo4,h⟩:=aG h
 obtain⟨o8,bo8,h⟩:=aG h
 obtain rfl:=lf h
 have z:=bW (ch.ln a)<|cU (Gg a a2 (a.length:Int) ([]:List ag) 0 bo4)<|bW (ch.ln a2)<|cU (Gh a2 (a2.length:Int) o4 0 bo8)<|en (aI (rP (sl cS o8))<|(aj bD o8))
 exact cC TJ call85 func85 (c:=T7) rfl (aI (aj bD a) (aI (aj bD a2) trivial)) z<|by kernel_rfl
noncomputable def WK:Code:=f28.body.getD .skip
def Wo:List Nat:=[]
def Da(e:af):Option waA:=
 (Dd e ([]:List ag) false).bind fun r1=>
 (wr r1 ([]:List ag)).bind fun r2=>
 some r2
theorem LS{e:af}{r:waA}(h:Da e=some r):CC Pg GE 28 [.agg (ac e)] (sl cS r) [(0,9)]:=by
 obtain⟨r1,br1,h⟩:=aG h
 obtain⟨r2,br2,h⟩:=aG h
 obtain rfl:=lf h
 have z:=se (bK e)<|sv (aW e)<|cH (FF br1)<|cH (C7 br2)<|en (aI (rP (sl cS r2))<|(aj bD r2))
 exact cC Wo call28 func28 (c:=WK) rfl (aI (av e) trivial) z<|by kernel_rfl
abbrev dJ:=(af->waA->waA->Option waA)
abbrev dI(R:dJ):Prop:=∀(e:af) (hidden:waA) (k0:waA) (r:waA),R e hidden k0=some r->C Pg GE 79 [.agg (ac e),sl cS hidden,.func (.func 87) [] [.bptr 0 0]] [] [.cells [sl cS k0] [(0,9)]] (.tuple []) [] [.cells [sl cS r] [(0,9)]]
noncomputable def V6:Code:=f87.body.getD .skip
def V1:List Nat:=[6]
def pG(a:af)(k0:waA):Option waA:=
 if(a.Op==5)=true then
  (app k0 ([a.Name]:List ag)).bind fun l3=>
  some l3
 else
  some k0
theorem D9{a:af}{k0:waA}{r:waA}(h:pG a k0=some r):C Pg GE 87 [.agg (ac a),.bptr 0 0] [] [.cells [sl cS k0] [(0,9)]] (.tuple []) [] [.cells [sl cS r] [(0,9)]]:=by
 have p2:=fun{sc F} (r:PS sc F)=>se (bK a)<|sv (cd a)<|sv (ce a)<|r
 rcases aN h with⟨c1,h⟩|⟨c1,h⟩
 ·obtain⟨l3,bl3,h⟩:=aG h
  obtain rfl:=lf h
  have z:=p2<|sg 0 c1<|sv (cp a)<|sv (cz a)<|sv (ch.mk' (v:=PVal.str) E7 ([a.Name]:List ag) 1 (by kernel_rfl))<|sv (ch.ap bl3)<|en (aI (rP (.tuple []))<|aI trivial<|aI (rL [.cells [sl cS l3] [(0,9)]])<|(aI (aI (up (n:=1) (aj bD l3)) trivial) trivial))
  exact C.evGp (A:=V1) mixed (m:=1) (c:=V6) rfl call87 func87 rfl z<|by kernel_rfl
 ·obtain rfl:=lf h
  have z:=p2<|sg 0 c1<|en (aI (rP (.tuple []))<|aI trivial<|aI (rL [.cells [sl cS k0] [(0,9)]])<|(aI (aI (up (n:=1) (aj bD k0)) trivial) trivial))
  exact C.evGp (A:=V1) mixed (m:=1) (c:=V6) rfl call87 func87 rfl z<|by kernel_rfl
section
variable(hidden:waA)(e:af)(m:waA)
def qh:az:=aZ 57 [(1,sl cS hidden),(2,.func (.func 87) [] [.bptr 0 0]),(3,.eptr (ac e))] [.cells [sl cS m] [(0,9)],.dead] []
def fG(o:Bool):az:=aZ 57 [(1,sl cS hidden),(2,.func (.func 87) [] [.bptr 0 0]),(3,.eptr (ac e)),(18,.bool o)] [.cells [sl cS m] [(0,9)],.dead] []
def gK:Option Bool:=
 (eV e).bind fun r1=>
 if r1=true then
  (qF hidden e.Name).bind fun r4=>
  some (decide (r4<0))
 else
  some false
theorem pQ{x:Bool}(h:gK hidden e=some x):aP Pg GE 1 (cA NW 12) (EX .normal (fG hidden e m x)) (qh hidden e m):=by
 obtain⟨r1,br1,h⟩:=aG h
 have p3:=fun{sc F} (r:PS sc F)=>sv (aW e)<|cH (iT br1)<|r
 rcases aN h with⟨c2,h⟩|⟨c2,h⟩
 ·obtain⟨r4,br4,h⟩:=aG h
  obtain rfl:=lf h
  exact bk LJ (p3<|sg 3 c2<|sv (cp e)<|sv (cz e)<|cH (BL br4)<|eF .normal (fG hidden e m (decide (r4<0))))<|by kernel_rfl
 ·obtain rfl:=lf h
  exact bk LJ (p3<|sg 3 c2<|eF .normal (fG hidden e m false))<|by kernel_rfl
end
section
variable(hidden:waA)(e:af)(m:waA)
def qg:az:=aZ 57 [(1,sl cS hidden),(2,.func (.func 87) [] [.bptr 0 0]),(3,.eptr (ac e))] [.cells [sl cS m] [(0,9)],.dead] []
def fF(o:waA):az:=aZ 57 [(1,sl cS hidden),(2,.func (.func 87) [] [.bptr 0 0]),(3,.eptr (ac e))] [.cells [sl cS o] [(0,9)],.dead] []
def gJ:Option waA:=
 (gK hidden e).bind fun o5=>
 if o5=true then
  (pG e m).bind fun r8=>
  some r8
 else
  some m
theorem pP{x:waA}(h:gJ hidden e m=some x):aP Pg GE 1 (cA NW 6) (EX .normal (fF hidden e x)) (qg hidden e m):=by
 obtain⟨o5,bo5,h⟩:=aG h
 have p7:=fun{sc F} (r:PS sc F)=>oz 0<|cU (pQ hidden e m bo5)<|r
 rcases aN h with⟨c6,h⟩|⟨c6,h⟩
 ·obtain⟨r8,br8,h⟩:=aG h
  obtain rfl:=lf h
  exact bk LJ (p7<|sg 0 c6<|sv (aW e)<|si (.cg ⟨[0],[.agg (ac e),.bptr 0 0],[],[.cells [sl cS m] [(0,9)]],[.cells [sl cS m] [(0,9)]],[.cells [sl cS r8] [(0,9)]],[.cells [sl cS r8] [(0,9)]],.tuple [],.tuple [],[]⟩) (D9 br8)<|sf (aI (xR [0] (.agg (ac e)) (av e)) (aI (xB [0] 0 0 0 rfl) trivial))<|sf (aI (aI (rB (.cells [sl cS m] [(0,9)])) (aI (rW [(0,9)]) (aI (xR [0] (sl cS m) (aj bD m)) trivial))) trivial)<|sf (aI (aI (rW [(0,9)]) (aI (xR [0] (sl cS r8) (aj bD r8)) trivial)) trivial)<|sf (xR [0] (.tuple []) trivial)<|eF .normal (fF hidden e r8))<|by kernel_rfl
 ·obtain rfl:=lf h
  exact bk LJ (p7<|sg 0 c6<|eF .normal (fF hidden e m))<|by kernel_rfl
end
section
variable(R152:dJ)(hidden:waA)(e:af)(t23:waE)(t24:Int)(t25:Int)(m:waA)
def cY:az:=aZ 57 [(1,sl cS hidden),(2,.func (.func 87) [] [.bptr 0 0]),(3,.eptr (ac e)),(23,sl ac t23),(24,.int .i64 t24),(25,.int .i64 t25)] [.cells [sl cS m] [(0,9)],.dead] []
def fH(o:waA):az:=aZ 57 [(1,sl cS hidden),(2,.func (.func 87) [] [.bptr 0 0]),(3,.eptr (ac e))] [.cells [sl cS o] [(0,9)],.dead] []
def bT:Option ((Int×waA)⊕(waA)):=
 if(decide (t25<t24))=true then
  (fO t23 t25).bind fun x11=>
  (ol hidden).bind fun r12=>
  (nO e t25).bind fun r13=>
  (app r12 r13).bind fun l14=>
  (R152 x11 l14 m).bind fun r15=>
  some (.inl (bZ (t25+1),r15))
 else
  some (.inr m)
def eu:Option waA:=loop (fun(zz:Int×waA)=>bT R152 hidden e t23 t24 zz.1 zz.2) (t25,m)
theorem oX(hR152:dI R152){y:(Int×waA)⊕(waA)}(h:bT R152 hidden e t23 t24 t25 m=some y):aP Pg GE 1 (cA NW 119) (LQ (fun(zz:Int×waA)=>cY hidden e t23 t24 zz.1 zz.2) (fun _=>.exit 0) (fH hidden e) y) (cY hidden e t23 t24 t25 m):=by
 rcases aN h with⟨c10,h⟩|⟨c10,h⟩
 ·obtain⟨x11,bx11,h⟩:=aG h
  obtain⟨r12,br12,h⟩:=aG h
  obtain⟨r13,br13,h⟩:=aG h
  obtain⟨l14,bl14,h⟩:=aG h
  obtain⟨r15,br15,h⟩:=aG h
  obtain rfl:=lf h
  have z:=sg 0 c10<|sv (fi.ia (k:=.i64) bx11)<|sv (aW x11)<|sx wR<|sx (jj x11)<|sk<|Sv (.dx [0,0,2,0,0,30,62,0] [] [] [])<|sv (bQ x11 [])<|cH (rA br12)<|sv (aW e)<|cH (wZ br13)<|sv (ch.ap bl14)<|si (.cg ⟨[0],[.agg (ac x11),sl cS l14,.func (.func 87) [] [.bptr 0 0]],[],[.cells [sl cS m] [(0,9)]],[.cells [sl cS m] [(0,9)]],[.cells [sl cS r15] [(0,9)]],[.cells [sl cS r15] [(0,9)]],.tuple [],.tuple [],[]⟩) (hR152 _ _ _ _ br15)<|sf (aI (xR [0] (.agg (ac x11)) (av x11)) (aI (xR [0] (sl cS l14) (aj bD l14)) (aI (xF [0] (.func 87) [] [.bptr 0 0] [] [.bptr 0 0] trivial (aI (xB [0] 0 0 0 rfl) trivial)) trivial)))<|sf (aI (aI (rB (.cells [sl cS m] [(0,9)])) (aI (rW [(0,9)]) (aI (xR [0] (sl cS m) (aj bD m)) trivial))) trivial)<|sf (aI (aI (rW [(0,9)]) (aI (xR [0] (sl cS r15) (aj bD r15)) trivial)) trivial)<|sf (xR [0] (.tuple []) trivial)<|sK 1 .normal (cY hidden e t23 t24 (bZ (t25+1)) r15) rfl (dF (aI (up (aj bD hidden)) (aI (aI trivial (aI (aX rfl) trivial)) (aI (ba (av e)) (aI (up (aj av t23)) (aI trivial (aI trivial trivial))))))) (aI (aI (up (aj bD r15)) trivial) (aI trivial trivial))
  exact dZ (A:=LJ) mixed z<|by kernel_rfl
 ·obtain rfl:=lf h
  have z:=sg 0 c10<|eF (.exit 0) (fH hidden e m)
  exact iZ LJ (by intro hx;cases hx) z<|by kernel_rfl
theorem pR(hR152:dI R152){x:waA}(h:eu R152 hidden e t23 t24 t25 m=some x):aP Pg GE 1 (.loop (cA NW 119)) (EX (.exit 0) (fH hidden e x)) (cY hidden e t23 t24 t25 m):=
 aP.loop (S:=fun(zz:Int×waA)=>cY hidden e t23 t24 zz.1 zz.2) (ex:=(fun _=>.exit 0)) (s:=(t25,m)) h fun zz y hy=>oX R152 hidden e t23 t24 zz.1 zz.2 hR152 hy
end
section
variable(R152:dJ)(hidden:waA)(t41:waC)(t42:Int)(t43:Int)(m:waA)
def cZ:az:=aZ 57 [(1,sl cS hidden),(2,.func (.func 87) [] [.bptr 0 0]),(41,sl aA t41),(42,.int .i64 t42),(43,.int .i64 t43)] [.cells [sl cS m] [(0,9)],.dead] []
def fI(o:waA):az:=aZ 57 [] [.cells [sl cS o] [(0,9)],.dead] []
def bU:Option ((Int×waA)⊕(waA)):=
 if(decide (t43<t42))=true then
  (fO t41 t43).bind fun x18=>
  (ol hidden).bind fun r19=>
  (app r19 x18.Names).bind fun l20=>
  (R152 x18.Body l20 m).bind fun r21=>
  some (.inl (bZ (t43+1),r21))
 else
  some (.inr m)
def ew:Option waA:=loop (fun(zz:Int×waA)=>bU R152 hidden t41 t42 zz.1 zz.2) (t43,m)
theorem oY(hR152:dI R152){y:(Int×waA)⊕(waA)}(h:bU R152 hidden t41 t42 t43 m=some y):aP Pg GE 1 (cA NW 127) (LQ (fun(zz:Int×waA)=>cZ hidden t41 t42 zz.1 zz.2) (fun _=>.exit 2) fI y) (cZ hidden t41 t42 t43 m):=by
 rcases aN h with⟨c17,h⟩|⟨c17,h⟩
 ·obtain⟨x18,bx18,h⟩:=aG h
  obtain⟨r19,br19,h⟩:=aG h
  obtain⟨l20,bl20,h⟩:=aG h
  obtain⟨r21,br21,h⟩:=aG h
  obtain rfl:=lf h
  have z:=sg 0 c17<|sv (ea.ia (k:=.i64) bx18)<|sv (ku x18)<|sx D2<|sx (hX x18)<|sk<|Sv (.dx [0,1,0,4,0,16,60,0] [] [] [])<|sv (bQ x18.Body [])<|cH (rA br19)<|ss<|sv (ch.ap bl20)<|si (.cg ⟨[0],[.agg (ac x18.Body),sl cS l20,.func (.func 87) [] [.bptr 0 0]],[],[.cells [sl cS m] [(0,9)]],[.cells [sl cS m] [(0,9)]],[.cells [sl cS r21] [(0,9)]],[.cells [sl cS r21] [(0,9)]],.tuple [],.tuple [],[]⟩) (hR152 _ _ _ _ br21)<|sf (aI (xR [0] (.agg (ac x18.Body)) (av x18.Body)) (aI (xR [0] (sl cS l20) (aj bD l20)) (aI (xF [0] (.func 87) [] [.bptr 0 0] [] [.bptr 0 0] trivial (aI (xB [0] 0 0 0 rfl) trivial)) trivial)))<|sf (aI (aI (rB (.cells [sl cS m] [(0,9)])) (aI (rW [(0,9)]) (aI (xR [0] (sl cS m) (aj bD m)) trivial))) trivial)<|sf (aI (aI (rW [(0,9)]) (aI (xR [0] (sl cS r21) (aj bD r21)) trivial)) trivial)<|sf (xR [0] (.tuple []) trivial)<|sK 1 .normal (cZ hidden t41 t42 (bZ (t43+1)) r21) rfl (dF (aI (up (aj bD hidden)) (aI (aI trivial (aI (aX rfl) trivial)) (aI (up (aj bL t41)) (aI trivial (aI trivial trivial)))))) (aI (aI (up (aj bD r21)) trivial) (aI trivial trivial))
  exact dZ (A:=LJ) mixed z<|by kernel_rfl
 ·obtain rfl:=lf h
  have z:=sg 0 c17<|eF (.exit 2) (fI m)
  exact iZ LJ (by intro hx;cases hx) z<|by kernel_rfl
theorem pS(hR152:dI R152){x:waA}(h:ew R152 hidden t41 t42 t43 m=some x):aP Pg GE 1 (.loop (cA NW 127)) (EX (.exit 2) (fI x)) (cZ hidden t41 t42 t43 m):=
 aP.loop (S:=fun(zz:Int×waA)=>cZ hidden t41 t42 zz.1 zz.2) (ex:=(fun _=>.exit 2)) (s:=(t43,m)) h fun zz y hy=>oY R152 hidden t41 t42 zz.1 zz.2 hR152 hy
end
def eR(R152:dJ)(e:af)(hidden:waA)(k0:waA):Option waA:=
 (gJ hidden e k0).bind fun o9=>
 (eu R152 hidden e e.Kids (e.Kids.length:Int) 0 o9).bind fun o16=>
 (ew R152 hidden e.Alts (e.Alts.length:Int) 0 o16).bind fun o22=>
 some o22
theorem qV(R152:dJ)(hR152:dI R152){e:af}{hidden:waA}{k0:waA}{r:waA}(h:eR R152 e hidden k0=some r):C Pg GE 79 [.agg (ac e),sl cS hidden,.func (.func 87) [] [.bptr 0 0]] [] [.cells [sl cS k0] [(0,9)]] (.tuple []) [] [.cells [sl cS r] [(0,9)]]:=by
 obtain⟨o9,bo9,h⟩:=aG h
 obtain⟨o16,bo16,h⟩:=aG h
 obtain⟨o22,bo22,h⟩:=aG h
 obtain rfl:=lf h
 have z:=se (bK e)<|oz 0<|cU (pP hidden e k0 bo9)<|sv (aR e)<|sv (aS e)<|bW (fi.ln e.Kids)<|cU (pR R152 hidden e e.Kids (e.Kids.length:Int) 0 o9 hR152 bo16)<|sv (aB e)<|sv (aC e)<|bW (ea.ln e.Alts)<|cU (pS R152 hidden e.Alts (e.Alts.length:Int) 0 o16 hR152 bo22)<|en (aI (rP (.tuple []))<|aI trivial<|aI (rL [.cells [sl cS o22] [(0,9)]])<|(aI (aI (up (n:=1) (aj bD o22)) trivial) trivial))
 exact C.evGp (A:=LJ) mixed (m:=1) (c:=NW) rfl call79 func79 rfl z<|by kernel_rfl
def g5:((af×waA×waA)->Option waA)->(af×waA×waA)->Option waA:=fun(rec:(af×waA×waA)->Option waA) (x:af×waA×waA)=>eR (fun e hidden k0=>rec (e,hidden,k0)) x.1 x.2.1 x.2.2
def iR(e:af)(hidden:waA)(k0:waA):Option waA:=qc g5 (e,hidden,k0)
theorem rO{e:af}{hidden:waA}{k0:waA}{r:waA}(h:iR e hidden k0=some r):C Pg GE 79 [.agg (ac e),sl cS hidden,.func (.func 87) [] [.bptr 0 0]] [] [.cells [sl cS k0] [(0,9)]] (.tuple []) [] [.cells [sl cS r] [(0,9)]]:=
 d9 (F:=g5) (M:=fun(x:af×waA×waA) (r:waA)=>C Pg GE 79 [.agg (ac x.1),sl cS x.2.1,.func (.func 87) [] [.bptr 0 0]] [] [.cells [sl cS x.2.2] [(0,9)]] (.tuple []) [] [.cells [sl cS r] [(0,9)]]) (fun rec hrec x r h=>qV _ (fun e hidden k0 r h=>hrec (e,hidden,k0) r h) h) h
noncomputable def WL:Code:=f29.body.getD .skip
def Wp:List Nat:=[]
def ti(e:af):Option waA:=
 (iR e ([]:List ag) ([]:List ag)).bind fun r1=>
 some r1
theorem GW{e:af}{r:waA}(h:ti e=some r):CC Pg GE 29 [.agg (ac e)] (sl cS r) []:=by
 obtain⟨r1,br1,h⟩:=aG h
 obtain rfl:=lf h
 have z:=se (bK e)<|sx UF<|sv (aW e)<|si (.cg ⟨[1],[.agg (ac e),sl cS ([]:List ag),.func (.func 87) [] [.bptr 0 0]],[],[.cells [sl cS ([]:List ag)] [(0,9)]],[.cells [sl cS ([]:List ag)] [(0,9)]],[.cells [sl cS r1] [(0,9)]],[.cells [sl cS r1] [(0,9)]],.tuple [],.tuple [],[]⟩) (rO br1)<|sf (aI (xR [1] (.agg (ac e)) (av e)) (aI (xR [1] (sl cS ([]:List ag)) (aj bD ([]:List ag))) (aI (xF [1] (.func 87) [] [.bptr 1 0] [] [.bptr 0 0] trivial (aI (xB [1] 0 1 0 rfl) trivial)) trivial)))<|sf (aI (aI (rB (.cells [sl cS ([]:List ag)] [(0,9)])) (aI (rW [(0,9)]) (aI (xR [1] (sl cS ([]:List ag)) (aj bD ([]:List ag))) trivial))) trivial)<|sf (aI (aI (rW [(0,9)]) (aI (xR [1] (sl cS r1) (aj bD r1)) trivial)) trivial)<|sf (xR [1] (.tuple []) trivial)<|ss<|en (aI (rP (sl cS r1))<|(aj bD r1))
 exact cC Wp call29 func29 (c:=WL) rfl (aI (av e) trivial) z<|by kernel_rfl
noncomputable def WM:Code:=f30.body.getD .skip
def Wq:List Nat:=[]
def An(e:af):Option waA:=
 (Dd e ([]:List ag) true).bind fun r1=>
 some r1
theorem KM{e:af}{r:waA}(h:An e=some r):CC Pg GE 30 [.agg (ac e)] (sl cS r) [(0,9)]:=by
 obtain⟨r1,br1,h⟩:=aG h
 obtain rfl:=lf h
 have z:=se (bK e)<|sv (aW e)<|cH (FF br1)<|en (aI (rP (sl cS r1))<|(aj bD r1))
 exact cC Wq call30 func30 (c:=WM) rfl (aI (av e) trivial) z<|by kernel_rfl
abbrev xH:=(af->Option waA)
abbrev Cc(R:xH):Prop:=∀(e:af) (r:waA),R e=some r->CC Pg GE 88 [.agg (ac e)] (sl cS r) [(0,9)]
noncomputable def Tr:Code:=f88.body.getD .skip
def SC:List Nat:=[10,22,39,46]
section
variable(e:af)
def Jp:az:=aZ 47 [(1,.eptr (ac e)),(3,sl cS ([]:List ag))] [.dead] [((3,0),9)]
def vX(o:waA):az:=aZ 47 [(1,.eptr (ac e)),(3,sl cS o)] [.dead] [((3,0),9)]
def uQ:Option waA:=
 if(e.Op==4)=true then
  (app ([]:List ag) ([e.Name]:List ag)).bind fun l3=>
  some l3
 else
  some ([]:List ag)
theorem HH{x:waA}(h:uQ e=some x):aP Pg GE 0 (cA Tr 14) (EX .normal (vX e x)) (Jp e):=by
 have p2:=fun{sc F} (r:PS sc F)=>sv (cd e)<|sv (ce e)<|r
 rcases aN h with⟨c1,h⟩|⟨c1,h⟩
 ·obtain⟨l3,bl3,h⟩:=aG h
  obtain rfl:=lf h
  exact bk SC (p2<|sg 0 c1<|sv (cp e)<|sv (cz e)<|sv (ch.mk' (v:=PVal.str) E7 ([e.Name]:List ag) 1 (by kernel_rfl))<|sv (ch.ap bl3)<|eF .normal (vX e l3))<|by kernel_rfl
 ·obtain rfl:=lf h
  exact bk SC (p2<|sg 0 c1<|eF .normal (vX e ([]:List ag)))<|by kernel_rfl
end
section
variable(e:af)(out:waA)(i:Int)
def nx:az:=aZ 47 [(1,.eptr (ac e)),(3,sl cS out),(4,.int .i64 i)] [.dead] [((3,0),9)]
def vY(o:waA):az:=aZ 47 [(1,.eptr (ac e)),(3,sl cS o)] [.dead] [((3,0),9)]
def jH:Option ((waA×Int)⊕(waA)):=
 if(decide (i<(e.Alts.length:Int)))=true then
  (fO e.Alts i).bind fun x7=>
  (app out ([x7.Con]:List ag)).bind fun l8=>
  some (.inl (l8,bZ (i+1)))
 else
  some (.inr out)
def uR:Option waA:=loop (fun(zz:waA×Int)=>jH e zz.1 zz.2) (out,i)
theorem Gp{y:(waA×Int)⊕(waA)}(h:jH e out i=some y):aP Pg GE 0 (cA Tr 247) (LQ (fun(zz:waA×Int)=>nx e zz.1 zz.2) (fun _=>.exit 0) (vY e) y) (nx e out i):=by
 have p6:=fun{sc F} (r:PS sc F)=>sv (aB e)<|sv (aC e)<|bW (ea.ln e.Alts)<|r
 rcases aN h with⟨c5,h⟩|⟨c5,h⟩
 ·obtain⟨x7,bx7,h⟩:=aG h
  obtain⟨l8,bl8,h⟩:=aG h
  obtain rfl:=lf h
  exact xO SC (p6<|sg 0 c5<|sv (aB e)<|sv (aC e)<|sv (ea.ia (k:=.i64) bx7)<|sv (ta x7)<|sv (vg x7)<|sv (ch.mk' (v:=PVal.str) E7 ([x7.Con]:List ag) 1 (by kernel_rfl))<|sv (ch.ap bl8)<|eF .normal (nx e l8 (bZ (i+1))))<|by kernel_rfl
 ·obtain rfl:=lf h
  have z:=p6<|sg 0 c5<|eF (.exit 0) (vY e out)
  exact iZ SC (by intro hx;cases hx) z<|by kernel_rfl
theorem HI{x:waA}(h:uR e out i=some x):aP Pg GE 0 (.loop (cA Tr 247)) (EX (.exit 0) (vY e x)) (nx e out i):=
 aP.loop (S:=fun(zz:waA×Int)=>nx e zz.1 zz.2) (ex:=(fun _=>.exit 0)) (s:=(out,i)) h fun zz y hy=>Gp e zz.1 zz.2 hy
end
section
variable(R156:xH)(v:waE)(out:waA)(i:Int)
def ny:az:=aZ 47 [(3,sl cS out),(5,sl ac v),(6,.int .i64 i)] [.dead] [((5,0),28),((3,0),9)]
def vZ(o:waA):az:=aZ 47 [(3,sl cS o)] [.dead] [((3,0),9)]
def jI:Option ((waA×Int)⊕(waA)):=
 if(decide (i<(v.length:Int)))=true then
  (fO v i).bind fun x12=>
  (R156 x12).bind fun r13=>
  (app out r13).bind fun l14=>
  some (.inl (l14,bZ (i+1)))
 else
  some (.inr out)
def uS:Option waA:=loop (fun(zz:waA×Int)=>jI R156 v zz.1 zz.2) (out,i)
theorem Gq(hR156:Cc R156){y:(waA×Int)⊕(waA)}(h:jI R156 v out i=some y):aP Pg GE 0 (cA Tr 1015) (LQ (fun(zz:waA×Int)=>ny v zz.1 zz.2) (fun _=>.exit 2) vZ y) (ny v out i):=by
 rcases aN h with⟨c11,h⟩|⟨c11,h⟩
 ·obtain⟨x12,bx12,h⟩:=aG h
  obtain⟨r13,br13,h⟩:=aG h
  obtain⟨l14,bl14,h⟩:=aG h
  obtain rfl:=lf h
  exact xO SC (bW (fi.ln v)<|sg 0 c11<|sv (fi.ia (k:=.i64) bx12)<|sv (aW x12)<|cH (hR156 _ _ br13)<|sv (ch.ap bl14)<|eF .normal (ny v l14 (bZ (i+1))))<|by kernel_rfl
 ·obtain rfl:=lf h
  have z:=bW (fi.ln v)<|sg 0 c11<|eF (.exit 2) (vZ out)
  exact iZ SC (by intro hx;cases hx) z<|by kernel_rfl
theorem HJ(hR156:Cc R156){x:waA}(h:uS R156 v out i=some x):aP Pg GE 0 (.loop (cA Tr 1015)) (EX (.exit 2) (vZ x)) (ny v out i):=
 aP.loop (S:=fun(zz:waA×Int)=>ny v zz.1 zz.2) (ex:=(fun _=>.exit 2)) (s:=(out,i)) h fun zz y hy=>Gq R156 v zz.1 zz.2 hR156 hy
end
def xw(R156:xH)(e:af):Option waA:=
 (uQ e).bind fun o4=>
 (uR e o4 0).bind fun o9=>
 (xv e).bind fun r10=>
 (uS R156 r10 o9 0).bind fun o15=>
 some o15
theorem KO(R156:xH)(hR156:Cc R156){e:af}{r:waA}(h:xw R156 e=some r):CC Pg GE 88 [.agg (ac e)] (sl cS r) [(0,9)]:=by
 obtain⟨o4,bo4,h⟩:=aG h
 obtain⟨o9,bo9,h⟩:=aG h
 obtain⟨r10,br10,h⟩:=aG h
 obtain⟨o15,bo15,h⟩:=aG h
 obtain rfl:=lf h
 have z:=se (bK e)<|oz 1<|cU (HH e bo4)<|cU (HI e o4 0 bo9)<|sv (aW e)<|cH (Jo br10)<|cU (HJ R156 r10 o9 0 hR156 bo15)<|en (aI (rP (sl cS o15))<|(aj bD o15))
 exact cC SC call88 func88 (c:=Tr) rfl (aI (av e) trivial) z<|by kernel_rfl
def Ch:(af->Option waA)->(af)->Option waA:=fun(rec:af->Option waA) (x:af)=>xw (fun e=>rec e) x
def HG(e:af):Option waA:=qc Ch e
theorem LT{e:af}{r:waA}(h:HG e=some r):CC Pg GE 88 [.agg (ac e)] (sl cS r) [(0,9)]:=
 d9 (F:=Ch) (M:=fun(x:af) (r:waA)=>CC Pg GE 88 [.agg (ac x)] (sl cS r) [(0,9)]) (fun rec hrec x r h=>KO _ (fun e r h=>hrec e r h) h) h
noncomputable def WN:Code:=f31.body.getD .skip
def Wr:List Nat:=[]
def C9(e:af):Option waA:=
 (HG e).bind fun r1=>
 (wr r1 ([]:List ag)).bind fun r2=>
 some r2
theorem LR{e:af}{r:waA}(h:C9 e=some r):CC Pg GE 31 [.agg (ac e)] (sl cS r) [(0,9)]:=by
 obtain⟨r1,br1,h⟩:=aG h
 obtain⟨r2,br2,h⟩:=aG h
 obtain rfl:=lf h
 have z:=se (bK e)<|sv (aW e)<|cH (LT br1)<|cH (C7 br2)<|en (aI (rP (sl cS r2))<|(aj bD r2))
 exact cC Wr call31 func31 (c:=WN) rfl (aI (av e) trivial) z<|by kernel_rfl
noncomputable def b6:Code:=Tryz.f6.body.getD .skip
def A6:List Nat:=[]
def rV(e:af):Option Bool:=
 (At e).bind fun r1=>
 if(!r1)=true then
  Ar.bind fun r4=>
  some r4
 else
  (oN e).bind fun r5=>
  (Da e).bind fun r6=>
  (gj r5 r6).bind fun r7=>
  if r7=true then
   (ti e).bind fun r10=>
   (An e).bind fun r11=>
   (gj r10 r11).bind fun r12=>
   if r12=true then
    (vE e).bind fun r15=>
    (C9 e).bind fun r16=>
    (gj r15 r16).bind fun r17=>
    if r17=true then
     Ar.bind fun r20=>
     some r20
    else
     some false
   else
    some false
  else
   some false
theorem Cj{e:af}{r:Bool}(h:rV e=some r):CC Pg GE 6 [.agg (ac e)] (.bool r) []:=by
 obtain⟨r1,br1,h⟩:=aG h
 have p3:=fun{sc F} (r:PS sc F)=>se (bK e)<|sv (aW e)<|cH (KU br1)<|r
 rcases aN h with⟨c2,h⟩|⟨c2,h⟩
 ·obtain⟨r4,br4,h⟩:=aG h
  obtain rfl:=lf h
  have z:=p3<|sg 0 c2<|cH (Di br4)<|en (aI (rP (.bool r4))<|trivial)
  exact cC A6 call6 func6 (c:=b6) rfl (aI (av e) trivial) z<|by kernel_rfl
 ·obtain⟨r5,br5,h⟩:=aG h
  obtain⟨r6,br6,h⟩:=aG h
  obtain⟨r7,br7,h⟩:=aG h
  have p9:=fun{sc F} (r:PS sc F)=>p3<|sg 0 c2<|IS [0,1,0,7,15,31,63,127,63,511,1023,2047,4095,8191,16383,8191,65535,131071,262143,524287,1048575,2097151,4194303]<|sv (aW e)<|cH (uf br5)<|sv (aW e)<|cH (LS br6)<|cH (iA br7)<|r
  rcases aN h with⟨c8,h⟩|⟨c8,h⟩
  ·obtain⟨r10,br10,h⟩:=aG h
   obtain⟨r11,br11,h⟩:=aG h
   obtain⟨r12,br12,h⟩:=aG h
   have p14:=fun{sc F} (r:PS sc F)=>p9<|sg 6 c8<|sv (aW e)<|cH (GW br10)<|sv (aW e)<|cH (KM br11)<|cH (iA br12)<|r
   rcases aN h with⟨c13,h⟩|⟨c13,h⟩
   ·obtain⟨r15,br15,h⟩:=aG h
    obtain⟨r16,br16,h⟩:=aG h
    obtain⟨r17,br17,h⟩:=aG h
    have p19:=fun{sc F} (r:PS sc F)=>p14<|sg 13 c13<|sv (aW e)<|cH (IW br15)<|sv (aW e)<|cH (LR br16)<|cH (iA br17)<|r
    rcases aN h with⟨c18,h⟩|⟨c18,h⟩
    ·obtain⟨r20,br20,h⟩:=aG h
     obtain rfl:=lf h
     have z:=p19<|sg 20 c18<|cH (Di br20)<|en (aI (rP (.bool r20))<|trivial)
     exact cC A6 call6 func6 (c:=b6) rfl (aI (av e) trivial) z<|by kernel_rfl
    ·obtain rfl:=lf h
     have z:=p19<|sg 20 c18<|en (aI (rP (.bool false))<|trivial)
     exact cC A6 call6 func6 (c:=b6) rfl (aI (av e) trivial) z<|by kernel_rfl
   ·obtain rfl:=lf h
    have z:=p14<|sg 13 c13<|en (aI (rP (.bool false))<|trivial)
    exact cC A6 call6 func6 (c:=b6) rfl (aI (av e) trivial) z<|by kernel_rfl
  ·obtain rfl:=lf h
   have z:=p9<|sg 6 c8<|en (aI (rP (.bool false))<|trivial)
   exact cC A6 call6 func6 (c:=b6) rfl (aI (av e) trivial) z<|by kernel_rfl
open Go
mutual
def nP:ax->Nat
 |⟨_,_,_,ks⟩=>nL ks+1
def nL:List ax->Nat
 |[]=>0
 |p::ps=>nP p+nL ps
end
theorem Sq(p:ax):nP p=nL p.Kids+1:=by obtain⟨o,n,k,ks⟩:=p;rw[nP];rfl
theorem QA(p:ax):1<=nP p:=by rw[Sq];omega
theorem Nw:∀(l:List ax),l.length<=nL l
 |[]=>by simp[nL]
 |p::l=>by rw[nL];have:=Nw l;have:=QA p;simp only[vaQ];omega
theorem Kl:∀(a b:List ax),nL (a++b)=nL a+nL b
 |[],b=>by simp[nL]
 |p::a,b=>by rw[va1,nL,Kl a b,nL];omega
mutual
theorem Uv:∀(p:ax),nP p<=kQ (aw p)
 |⟨o,n,k,ks⟩=>by
  have:=Qz ks
  rw[nP,ei]
  simp only[kQ,pm,sl]
  show nL ks+1<=1+(n.length+1+(1+(cG (ks.map aw)+1+0)))
  omega
theorem Qz:∀(l:List ax),nL l<=cG (l.map aw)
 |[]=>by simp[nL]
 |p::l=>by
  have:=Uv p
  have:=Qz l
  rw[nL]
  simp only[vaA,cG]
  omega
end
theorem Oo{α:Type}[DecidableEq α]:∀{a b:List α},a.length=b.length->(a.zip b).any (fun x=>decide (x.1≠x.2))= !decide (a=b)
 |[],[],_=>by simp
 |x::a,y::b,h=>by
  have ih:=Oo (a:=a) (b:=b) (by simpa using h)
  rw[List.zip_cons_cons,List.any_cons,ih]
  by_cases h1:x=y<;>by_cases h2:a=b<;>simp[h1,h2]
theorem Qw{α X:Type}[DecidableEq α]{a b:List α}(hl:a.length=b.length)(ha:a.length<9223372036854775808)(body:Int->Option (Int⊕X))(y e:X)
  (hin:∀(i:Nat) (h:i<a.length) (h':i<b.length),body i=some (if decide (a[i]=b[i])=true then .inl (bZ ((i:Int)+1))else .inr y)) (hend:body a.length=some (.inr e)):loop body 0=some (if decide (a=b)=true then e else y):=by
 have hz:(a.zip b).length=a.length:=by simp[hl]
 have:=Qv (a.zip b) (by omega) body (fun x=>decide (x.1≠x.2)) y e (fun i h=>?_) (by rw[hz];exact hend) 0 (vaY _)
 ·rw[vbS,Oo hl]at this
  rw[show((0:Nat):Int)=0 from rfl]at this
  rw[this]
  by_cases h:a=b<;>simp[h]
 ·have h1:i<a.length:=by omega
  have h2:i<b.length:=by omega
  rw[hin i h1 h2]
  have hzi:(a.zip b)[i]=(a[i],b[i]):=by simp
  rw[hzi]
  by_cases h:a[i]=b[i]<;>simp[h]
abbrev qE:Nat:=1073741824
theorem zC{n:Nat}(h:n<=qE):n<RC:=by have:=SX;unfold qE at h;omega
theorem RS(l:List ax)(i:Nat)(h:i<l.length):nL (l.take (i+1))=nL (l.take i)+nP l[i]:=by
 rw[vaw h,Kl]
 simp[nL]
def Eu{α:Type}(o:Option α)(Q:α->Prop):Prop:=∃a,o=some a/\Q a
section
variable{α β σ τ X Y:Type}
theorem kh{a:α}{Q:α->Prop}(h:Q a):Eu (some a) Q:=⟨a,rfl,h⟩
theorem iU{o:Option α}{f:α->Option β}{R:α->Prop}{Q:β->Prop}(h:Eu o R)(h':∀a,R a->Eu (f a) Q):Eu (o.bind f) Q:=by
 obtain⟨a,rfl,h⟩:=h
 exact h' a h
theorem Eu.mono{o:Option α}{Q R:α->Prop}(h:Eu o Q)(h':∀a,Q a->R a):Eu o R:=by
 obtain⟨a,e,h⟩:=h
 exact⟨a,e,h' a h⟩
theorem I1{F:(X->Option Y)->X->Option Y}(μ:X->Nat)(P:X->Prop)(Q:X->Y->Prop)(h:∀(R:X->Option Y) x,P x->(∀y,μ y<μ x->P y->Eu (R y) (Q y))->Eu (F R x) (Q x))(x:X)(hx:P x)(hm:μ x<RC):Eu (qc F x) (Q x):=by
 have key:∀n x,μ x<n->P x->Eu (Tx F n x) (Q x):=by
  intro n
  induction n with
  |zero=>intro x hx;omega
  |succ n ih=>intro x hx hq;exact h _ x hq fun y hy hqy=>ih y (by omega) hqy
 exact key _ x hm hx
end
theorem Aw{α:Type}(l:List α)(h:l.length<=1073741824):ol l=some l:=vav h
set_option linter.unusedSimpArgs false
mutual
def RQ:am->Nat
 |⟨_,_,xs,ns,_,ps⟩=>sL xs+ns.length+ps.length+1
def sL:List am->Nat
 |[]=>0
 |a::xs=>RQ a+sL xs
end
theorem RR(t:am):RQ t=sL t.Args+t.Names.length+t.Preds.length+1:=by obtain⟨o,n,xs,ns,p,ps⟩:=t;rw[RQ];rfl
theorem Us(l:List ax):l.length<=cG (l.map aw):=by
 have:=Nw l
 have:=Qz l
 omega
theorem Qt(l:List ag):l.length<=cG (l.map cS):=by
 have h:=MD (l.map cS) (fun x hx=>by
  obtain⟨s,_,rfl⟩:=vah.1 hx
  simp only[cS,kQ,pm];omega)
 rwa[va8]at h
theorem MG(t:am):kQ (ai t)=1+(pm (.str t.Name)+(pm (sl ai t.Args)+(pm (sl cS t.Names)+(1+(pm (.str t.Pred.Name)+(1+(pm (sl aw t.Pred.Kids)+(pm (sl aw t.Preds)+0)))))))):=by
 rw[dK];rfl
mutual
def nE:af->Nat
 |⟨_,_,_,ks,ps,as1,ts⟩=>BF ks+BE as1+ps.length+ts.length+1
def nA:aO->Nat
 |⟨_,ns,b⟩=>ns.length+nE b+1
def BF:List af->Nat
 |[]=>0
 |e::l=>nE e+BF l
def BE:List aO->Nat
 |[]=>0
 |a::l=>nA a+BE l
end
theorem BG(e:af):nE e=BF e.Kids+BE e.Alts+e.Params.length+e.Types.length+1:=by obtain⟨o,n,k,ks,ps,as1,ts⟩:=e;rw[nE];rfl
theorem Kk(a:aO):nA a=a.Names.length+nE a.Body+1:=by obtain⟨c,ns,b⟩:=a;rw[nA];rfl
theorem Il(e:af):1<=nE e:=by rw[BG];omega
theorem DE:∀{l:List af} {x:af},x∈l->nE x<=BF l
 | y :: l,x,h => by
  rw[BF]
  rcases vay.1 h with rfl|h
  ·omega
  ·have:=DE h;omega
theorem DD:∀{l:List aO} {x:aO},x∈l->nA x<=BE l
 | y :: l,x,h => by
  rw[BE]
  rcases vay.1 h with rfl|h
  ·omega
  ·have:=DD h;omega
theorem AF:∀(l:List af),l.length<=BF l
 |[]=>by simp[BF]
 |p::l=>by rw[BF];have:=AF l;have:=Il p;simp only[vaQ];omega
theorem AE:∀(l:List aO),l.length<=BE l
 |[]=>by simp[BE]
 |p::l=>by rw[BE];have:=AE l;have:=Kk p;simp only[vaQ];omega
theorem Hf{e x:af}(h:x∈e.Kids):nE x<nE e:=by rw[BG e];have:=DE h;omega
theorem G6{e:af}{x:aO}(h:x∈e.Alts):nE x.Body<nE e:=by rw[BG e];have:=DD h;have:=Kk x;omega
theorem OX(e:af):e.Kids.length<nE e:=by rw[BG];have:=AF e.Kids;omega
theorem EF(e:af):e.Alts.length<nE e:=by rw[BG];have:=AE e.Alts;omega
def eg(e:af):List af:=e.Kids++e.Alts.map (·.Body)
theorem KZ{e x:af}(h:x∈eg e):nE x<nE e:=by
 rcases vaB.1 h with h|h
 ·exact Hf h
 ·obtain⟨a,ha,rfl⟩:=vah.1 h
  exact G6 ha
theorem FI(e:af):(eg e).length<nE e:=by
 rw[BG]
 have:=AF e.Kids
 have:=AE e.Alts
 simp only[eg,vaj,va8]
 omega
theorem Sm{Q:af->Prop}(h:∀e,(∀x∈eg e,Q x)->Q e):∀e,Q e:=by
 have key:∀(n:Nat) (e:af),nE e<=n->Q e:=by
  intro n
  induction n with
  |zero=>intro e he;have:=Il e;omega
  |succ n ih=>exact fun e he=>h e fun x hx=>ih x (by have:=KZ hx;omega)
 exact fun e=>key _ e (vak _)
mutual
def lD:af->List af
 |⟨o,n,k,ks,ps,as1,ts⟩=>⟨o,n,k,ks,ps,as1,ts⟩::(Iw ks++Iv as1)
def Ny:aO->List af
 |⟨_,_,b⟩=>lD b
def Iw:List af->List af
 |[]=>[]
 |e::l=>lD e++Iw l
def Iv:List aO->List af
 |[]=>[]
 |a::l=>Ny a++Iv l
end
theorem FY:∀(l:List af),Iw l=l.flatMap lD
 |[]=>by rw[Iw];rfl
 |e::l=>by rw[Iw,FY l];rfl
theorem O2(a:aO):Ny a=lD a.Body:=by obtain⟨c,ns,b⟩:=a;rw[Ny];rfl
theorem FX:∀(l:List aO),Iv l=(l.map (·.Body)).flatMap lD
 |[]=>by rw[Iv];rfl
 |a::l=>by rw[Iv,FX l,O2];rfl
theorem E3(e:af):lD e=e::(eg e).flatMap lD:=by
 obtain⟨o,n,k,ks,ps,as1,ts⟩:=e
 rw[lD,FY,FX,eg,vbJ]
 rfl
theorem Qa{X Y:Type}{F:(X->Option Y)->X->Option Y}(μ:X->Nat)(Q:X->Prop)(s:X->Option Y)(h:∀(R:X->Option Y) x,Q x->(∀y,μ y<μ x->Q y->R y=s y)->F R x=s x)(x:X)(hx:Q x)(hm:μ x<RC):qc F x=s x:=by
 have key:∀n x,μ x<n->Q x->Tx F n x=s x:=by
  intro n
  induction n with
  |zero=>intro x hx;omega
  |succ n ih=>intro x hx hq;exact h _ x hq fun y hy hqy=>ih y (by omega) hqy
 exact key _ x hm hx
def BC{α S:Type}(F:S->α->Option (Bool×S)):List α->S->Option (Bool×S)
 |[],s=>some (true,s)
 |x::l,s=>(F s x).bind fun r=>match r.1 with
  |false=>some (false,r.2)
  |true=>BC F l r.2
theorem Cp{α S:Type}(F:S->α->Option (Bool×S)):∀(l m:List α) (s:S),BC F (l++m) s=(BC F l s).bind fun r=>match r.1 with
  |false=>some (false,r.2)
  |true=>BC F m r.2
 |[],m,s=>rfl
 | x :: l,m,s => by
  rw[va1,BC,BC]
  cases h:F s x with
  |none=>rfl
  |some r=>
   obtain⟨b,s'⟩:=r
   cases b with
   |false=>rfl
   |true=>exact Cp F l m s'
theorem J9{α S:Type}{F G:S->α->Option (Bool×S)}:∀{l:List α},(∀x∈l,∀s,F s x=G s x)->∀s,BC F l s=BC G l s
 |[],_,s=>rfl
 |x::l,h,s=>by
  rw[BC,BC,h x (by simp)]
  congr 1
  funext r
  rw[J9 (l:=l) fun y hy=>h y (by simp[hy])]
theorem N4{α β S:Type}(F:S->β->Option (Bool×S))(g:α->β):∀(l:List α) (s:S),BC F (l.map g) s=BC (fun s x=>F s (g x)) l s
 |[],s=>rfl
 |x::l,s=>by
  rw[vaA,BC,BC]
  congr 1
  funext r
  rw[N4 F g l]
theorem Mh{α β S:Type}(F:S->β->Option (Bool×S))(g:α->List β):∀(l:List α) (s:S),BC F (l.flatMap g) s=BC (fun s x=>BC F (g x) s) l s
 |[],s=>rfl
 |x::l,s=>by
  rw[vbF,Cp,BC]
  congr 1
  funext r
  rw[Mh F g l]
theorem Ka{α S:Type}{F:S->α->Option (Bool×S)}(f:S->α->S):∀(l:List α) (s:S),(∀x∈l,∀s,F s x=some (true,f s x))->BC F l s=some (true,l.foldl f s)
 |[],s,_=>rfl
 |x::l,s,h=>by
  rw[BC,h x (by simp)]
  exact Ka f l _ fun y hy=>h y (by simp[hy])
theorem N9{α S:Type}(l:List α)(hl:l.length<9223372036854775808)(body:Int×S->Option ((Int×S)⊕(S⊕S)))(F:S->α->Option (Bool×S))
  (hin:∀(i:Nat) (h:i<l.length) s,body ((i:Int),s)=(F s l[i]).bind fun r=>match r.1 with|false=>some (.inr (.inl r.2))|true=>some (.inl (bZ ((i:Int)+1),r.2)))
  (hend:∀s,body ((l.length:Int),s)=some (.inr (.inr s))) (s:S):loop body (0,s)=(BC F l s).bind fun r=>match r.1 with|false=>some (.inl r.2)|true=>some (.inr r.2):=by
 have key:∀(k i:Nat) (s:S),i+k=l.length->loop body ((i:Int),s)=(BC F (l.drop i) s).bind fun r=>match r.1 with|false=>some (.inl r.2)|true=>some (.inr r.2):=by
  intro k
  induction k with
  |zero=>
   intro i s hi
   have:i=l.length:=by omega
   subst this
   rw[td,hend,vcH]
   rfl
  | succ k ih =>
   intro i s hi
   have hlt:i<l.length:=by omega
   rw[td,hin i hlt,vbu hlt,BC]
   cases hF:F s l[i]with
   |none=>rfl
   | some r =>
    obtain⟨b,s'⟩:=r
    cases b with
    |false=>rfl
    |true=>
     have:=ih (i+1) s' (by omega)
     simp only[vab]
     rw[cP (by omega) (by omega),show((i:Int)+1)=((i+1:Nat):Int) by omega]
     exact this
 have:=key l.length 0 s (by omega)
 exact this
theorem Si{S:Type}{F:(af×S->Option (Bool×S))->af×S->Option (Bool×S)}(step:S->af->Option (Bool×S))
  (hF:∀(R:af×S->Option (Bool×S)) e s,nE e<=qE->F R (e,s)=(step s e).bind fun r=>match r.1 with
   |false=>some (false,r.2)
   |true=>BC (fun s x=>R (x,s)) (eg e) r.2) (e:af) (s:S) (he:nE e<=qE):qc F (e,s)=BC step (lD e) s:=by
 refine Qa (fun x=>nE x.1) (fun x=>nE x.1<=qE) (fun x=>BC step (lD x.1) x.2) (fun R x hx ih=>?_) (e,s) he (zC he)
 obtain⟨e,s⟩:=x
 show F R (e,s)=BC step (lD e) s
 rw[hF R e s hx,E3,BC]
 congr 1
 funext r
 cases r.1 with
 |false=>rfl
 |true=>
  rw[Mh]
  refine J9 (fun x hx2 s=>?_) r.2
  have:=KZ hx2
  exact ih (x,s) this (vaC (Nat.le_of_lt this) hx)
theorem PA{S:Type}(W:S->af->Option (Bool×S))(e:af)(he:nE e<=qE)(s:S)(b1 b2:Int×S->Option ((Int×S)⊕(S⊕S))){k1 k2:S⊕S->Option (Bool×S)}
  (h1:∀(i:Nat) (h:i<e.Kids.length) s,b1 ((i:Int),s)=(W s e.Kids[i]).bind fun r=>if(!r.1)=true then some (.inr (.inl r.2))else some (.inl (bZ ((i:Int)+1),r.2))) (h1e:∀s,b1 ((e.Kids.length:Int),s)=some (.inr (.inr s)))
  (h2:∀(i:Nat) (h:i<e.Alts.length) s,b2 ((i:Int),s)=(W s e.Alts[i].Body).bind fun r=>if(!r.1)=true then some (.inr (.inl r.2))else some (.inl (bZ ((i:Int)+1),r.2))) (h2e:∀s,b2 ((e.Alts.length:Int),s)=some (.inr (.inr s)))
  (g1:∀o,k1 (.inl o)=some (false,o)) (g2:∀o,k1 (.inr o)=(loop b2 (0,o)).bind k2) (g3:∀o,k2 (.inl o)=some (false,o)) (g4:∀o,k2 (.inr o)=some (true,o)):
  (loop b1 (0,s)).bind k1=BC W (eg e) s:=by
 have l1:=OX e
 have l2:=EF e
 unfold qE at he
 rw[N9 e.Kids (by omega) b1 W (fun i h s=>by rw[h1 i h s];congr 1;funext r;cases r.1<;>rfl) h1e s,eg,Cp]
 cases h:BC W e.Kids s with
 |none=>rfl
 | some r =>
  obtain⟨b,s'⟩:=r
  cases b with
  |false=>exact g1 s'
  | true =>
   simp only[vab]
   rw[g2,N9 e.Alts (by omega) b2 (fun s a=>W s a.Body) (fun i h s=>by rw[h2 i h s];congr 1;funext r;cases r.1<;>rfl) h2e s',N4]
   cases h:BC (fun s a=>W s a.Body) e.Alts s' with
   |none=>rfl
   |some r=>
    obtain⟨b,s''⟩:=r
    cases b with
    |false=>exact g3 s''
    |true=>exact g4 s''
theorem f7{σ X:Type}(n:Nat)(body:σ->Option (σ⊕X))(S:Nat->σ)(e:X)(hin:∀i,i<n->body (S i)=some (.inl (S (i+1))))(hend:body (S n)=some (.inr e)):loop body (S 0)=some e:=by
 have key:∀k i,k+i=n->loop body (S i)=some e:=by
  intro k
  induction k with
  |zero=>
   intro i hi
   have:i=n:=by omega
   subst this
   exact Kh hend
  |succ k ih=>
   intro i hi
   rw[O1 (hin i (by omega))]
   exact ih (i+1) (by omega)
 exact key n 0 (by omega)
theorem I6(e:af)(s:List (ag×Bool))(he:nE e<=qE):oD e s=BC (fun s x=>lA x s) (lD e) s:=by
 refine Si (F:=mC) (fun s x=>lA x s) (fun R e s he=>?_) e s he
 show jF (fun e k=>R (e,k)) e s=_
 unfold jF
 congr 1
 funext r
 obtain⟨b,s'⟩:=r
 cases b with
 |false=>rfl
 | true =>
  rw[vax (show ¬((!(true,s').1)=true) by simp)]
  refine PA (fun s x=>R (x,s)) e he s' (fun zz=>dj (fun e k=>R (e,k)) e.Kids e.Kids.length zz.1 zz.2) (fun zz=>dm (fun e k=>R (e,k)) e.Alts e.Alts.length zz.1 zz.2) (fun i h s=>?_) (fun s=>?_) (fun i h s=>?_) (fun s=>?_) (fun _=>rfl) (fun _=>rfl) (fun _=>rfl) (fun _=>rfl)
  ·show dj (fun e k=>R (e,k)) e.Kids e.Kids.length i s=_
   unfold dj
   rw[vav (by simpa using h),dB _ _ h];rfl
  ·show dj (fun e k=>R (e,k)) e.Kids e.Kids.length e.Kids.length s=_
   unfold dj
   rw[vax (by simp)]
  ·show dm (fun e k=>R (e,k)) e.Alts e.Alts.length i s=_
   unfold dm
   rw[vav (by simpa using h),dB _ _ h];rfl
  ·show dm (fun e k=>R (e,k)) e.Alts e.Alts.length e.Alts.length s=_
   unfold dm
   rw[vax (by simp)]
theorem OI(e:af)(he:nE e<=qE):xv e=some (eg e):=by
 have hB:nE e<=1073741824:=he
 have l1:=FI e
 have l2:e.Kids.length+e.Alts.length<nE e:=by simpa[eg]using l1
 unfold xv
 rw[ij (by simp;omega)]
 show(nv e ([]++e.Kids) 0).bind _=_
 have h:=f7 e.Alts.length (fun zz:(List af)×Int=>gZ e zz.1 zz.2) (fun i=>(e.Kids++(e.Alts.take i).map (·.Body),(i:Int))) (eg e) (fun i hi=>?_) ?_
 ·rw[va5]
  have h':nv e e.Kids 0=some (eg e):=by unfold nv;simpa using h
  rw[h'];rfl
 ·show gZ e _ (i:Int)=_
  unfold gZ
  rw[vav (by simpa using hi),dB _ _ hi,vab,ij (by simp;omega),vab,cP (by omega) (by omega),vaw hi,va4,<-vbk]
  rfl
 ·show gZ e _ (e.Alts.length:Int)=_
  unfold gZ
  rw[vax (by simp),vaL];rfl
theorem SL{a b:Bool}:(if a=true then some b else some false)=some (a&&b):=by cases a<;>rfl
theorem W5{a b:Bool}:(if a=true then some true else some b)=some (a||b):=by cases a<;>rfl
theorem RK{α:Type}[DecidableEq α]{a b:List α}(ha:a.length<=qE)(body:Int->Option (Int⊕(Unit⊕Unit)))
  (hin:∀(i:Nat) (h1:i<a.length) (h2:i<b.length),body (i:Int)=some (if decide (a[i]=b[i])=true then .inl (bZ ((i:Int)+1))else .inr (.inl ()))) (hend:body (a.length:Int)=some (.inr (.inr ()))) {k:Unit⊕Unit->Option Bool} (g1:k (.inl ())=some false) (g2:k (.inr ())=some true):
  (if((a.length:Int)!=(b.length:Int))=true then some false else(loop body 0).bind k)=some (decide (a=b)):=by
 by_cases hl:a.length=b.length
 ·rw[vax (by simp[hl]),Qw hl (by unfold qE at ha;omega) body (.inl ()) (.inr ()) hin hend]
  by_cases he:a=b
  ·simp only[he,decide_true,if_true,vab];exact g2
  ·simp only[he,decide_false,vbN,if_false,vab];exact g1
 ·rw[vav (by simp;omega),decide_eq_false (fun he=>hl (by rw[he]))]
theorem Fd{a b:List ag}(ha:a.length<=qE):gj a b=some (decide (a=b)):=by
 unfold gj qC
 refine RK ha _ (fun i h1 h2=>?_) ?_ rfl rfl
 ·show fX a b (i:Int)=_
  unfold fX
  rw[vav (by simpa using h1),dB a i h1]
  simp only[vab]
  rw[dB b i h2]
  simp only[vab]
  by_cases he:a[i]=b[i]<;>simp[he]
 ·show fX a b (a.length:Int)=_
  unfold fX
  rw[vax (by simp)]
mutual
def wT:am->Nat
 |⟨_,_,xs,_,p,ps⟩=>nP p+nL ps+M1 xs
def M1:List am->Nat
 |[]=>0
 |a::xs=>wT a+M1 xs
end
theorem UN(t:am):wT t=nP t.Pred+nL t.Preds+M1 t.Args:=by obtain⟨o,n,xs,ns,p,ps⟩:=t;rw[wT];rfl
theorem Rc(l:List am)(i:Nat)(h:i<l.length):M1 (l.take (i+1))=M1 (l.take i)+wT l[i]:=by
 have key:∀(a b:List am),M1 (a++b)=M1 a+M1 b:=by
  intro a b
  induction a with
  |nil=>simp[M1]
  |cons x a ih=>rw[va1,M1,M1,ih];omega
 rw[vaw h,key]
 simp[M1]
end Go.Proofs.YtkdahfeiedaahaaGreatDoor
