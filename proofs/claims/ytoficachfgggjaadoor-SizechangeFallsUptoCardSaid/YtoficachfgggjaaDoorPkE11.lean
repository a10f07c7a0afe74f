/- PROVED: a part of the proof. Conditions: none. -/
import Derived.Test.YtoficachfgggjaaDoorPkE10
import Derived.Test.YtoficachfgggjaaDoorPkE8
noncomputable section
namespace Go.Proofs.YtoficachfgggjaaDoor
open Go Go.Proofs.Tryd
set_option linter.unusedVariables false
set_option maxRecDepth 100000
noncomputable def zx:Code:=f19.body.getD .skip
def wz:List Nat:=[24]
section
variable(v:waA)(t15:Int)(t16:Int)
def b5:ak:=da 109 [(0,sl ae v),(14,sl ae v),(15,.int .i64 t15),(16,.int .i64 t16)] [] []
def b7(o:(waA×Int)⊕(Unit)):Exit:=match o with
 |(.inl _)=>.ret
 |(.inr _)=>.exit 0
def bu(o:(waA×Int)⊕(Unit)):ak:=match o with
 |(.inl o)=>da 109 [(2,sl ae o.1),(3,.int .i64 o.2)] [] [((2,0),24)]
 |(.inr o)=>da 109 [(0,sl ae v)] [] []
def b6:Option (Int⊕((waA×Int)⊕(Unit))):=
 if(decide (t16<t15))=true then
  (d9 v t16).bind fun x2=>
  (ba x2).bind fun r3=>
  if(r3 !=0)=true then
   some (.inr (.inl (([]:List aa),r3)))
  else
   some (.inl (bN (t16+1)))
 else
  some (.inr (.inr ()))
def bg:Option ((waA×Int)⊕(Unit)):=loop (fun(zz:Int)=>b6 v t15 zz) t16
theorem lA{y:Int⊕((waA×Int)⊕(Unit))}(h:b6 v t15 t16=some y):aQ Pg GE 0 (cA zx 55) (LQ (fun(zz:Int)=>b5 v t15 zz) b7 (bu v) y) (b5 v t15 t16):=by
 rcases bG h with⟨c1,h⟩|⟨c1,h⟩
 ·obtain⟨x2,bx2,h⟩:=aJ h
  obtain⟨r3,br3,h⟩:=aJ h
  have p5:=fun{sc F} (r:PS sc F)=>sg 0 c1<|sv (fW.ia (k:=.i64) bx2)<|sv (cQ x2)<|sx vL<|sx (ig x2)<|sv (cR x2 [])<|d7 (cD br3)<|r
  rcases bG h with⟨c4,h⟩|⟨c4,h⟩
  ·obtain rfl:=lf h
   have z:=p5<|sg 0 c4<|tk 0 (b7 (.inl (([]:List aa),r3))) (bu v (.inl (([]:List aa),r3))) rfl (eG (aI (up (au af ([]:List aa))) (aI trivial trivial))) trivial
   exact nN (A:=wz) mixed (by intro hx;cases hx) z<|by kernel_rfl
  ·obtain rfl:=lf h
   have z:=p5<|sg 0 c4<|tk 0 .normal (b5 v t15 (bN (t16+1))) rfl (eG (aI (up (au af v)) (aI (up (au af v)) (aI trivial (aI trivial trivial))))) trivial
   exact gn (A:=wz) mixed z<|by kernel_rfl
 ·obtain rfl:=lf h
  have z:=sg 0 c1<|eF (b7 (.inr ())) (bu v (.inr ()))
  exact pO wz (by intro hx;cases hx) z<|by kernel_rfl
theorem gZ{x:(waA×Int)⊕(Unit)}(h:bg v t15 t16=some x):aQ Pg GE 0 (.loop (cA zx 55)) (EX (b7 x) (bu v x)) (b5 v t15 t16):=
 aQ.loop (S:=fun(zz:Int)=>b5 v t15 zz) (ex:=b7) (s:=t16) h fun zz y hy=>lA v t15 zz hy
end
section
variable(t28:waA)(t29:Int)(t30:Int)(m0:(List (ah×Bool)))(m:waA)
def ca:ak:=da 109 [(8,.bptr 2 0),(9,.func (.func 36) [] [.bptr 1 0,.bptr 2 0]),(28,sl ae t28),(29,.int .i64 t29),(30,.int .i64 t30)] [.map (dp PVal.bool m0),.cells [.mapr 0] [],.cells [sl ae m] [(0,24)]] []
def eT(o:(List (ah×Bool))×waA):ak:=da 109 [(8,.bptr 2 0),(9,.func (.func 36) [] [.bptr 1 0,.bptr 2 0])] [.map (dp PVal.bool o.1),.cells [.mapr 0] [],.cells [sl ae o.2] [(0,24)]] []
def cb:Option ((Int×(List (ah×Bool))×waA)⊕(((List (ah×Bool))×waA))):=
 if(decide (t30<t29))=true then
  (d9 t28 t30).bind fun x8=>
  (bD x8 m0 m).bind fun r9=>
  some (.inl (bN (t30+1),r9.1,r9.2))
 else
  some (.inr (m0,m))
def bJ:Option (((List (ah×Bool))×waA)):=loop (fun(zz:Int×(List (ah×Bool))×waA)=>cb t28 t29 zz.1 zz.2.1 zz.2.2) (t30,m0,m)
theorem lB{y:(Int×(List (ah×Bool))×waA)⊕(((List (ah×Bool))×waA))}(h:cb t28 t29 t30 m0 m=some y):aQ Pg GE 0 (cA zx 1015) (LQ (fun(zz:Int×(List (ah×Bool))×waA)=>ca t28 t29 zz.1 zz.2.1 zz.2.2) (fun _=>.exit 2) eT y) (ca t28 t29 t30 m0 m):=by
 rcases bG h with⟨c7,h⟩|⟨c7,h⟩
 ·obtain⟨x8,bx8,h⟩:=aJ h
  obtain⟨r9,br9,h⟩:=aJ h
  obtain rfl:=lf h
  have z:=sg 0 c7<|sv (fW.ia (k:=.i64) bx8)<|sv (cQ x8)<|sx vL<|sx (ig x8)<|sv (cR x8 [])<|si (.cg ⟨[1,0,2],[.agg (ae x8),.bptr 0 0,.bptr 2 0],[],[.cells [.mapr 0] [],.map (dp PVal.bool m0),.cells [sl ae m] [(0,24)]],[.cells [.mapr 1] [],.map (dp PVal.bool m0),.cells [sl ae m] [(0,24)]],[.cells [.mapr 0] [],.map (dp PVal.bool r9.1),.cells [sl ae r9.2] [(0,24)]],[.cells [.mapr 1] [],.map (dp PVal.bool r9.1),.cells [sl ae r9.2] [(0,24)]],.tuple [],.tuple [],[]⟩) (eO br9)<|sf (aI (xR [1,0,2] (.agg (ae x8)) (af x8)) (aI (xB [1,0,2] 0 1 0 rfl) (aI (xB [1,0,2] 2 2 0 rfl) trivial)))<|sf (aI (aI (rB (.cells [.mapr 0] [])) (aI (rW []) (aI (xM [1,0,2] 1 0 rfl) trivial))) (aI (aI (rB (.map (dp PVal.bool m0))) (aI (rM (dp PVal.bool m0)) (Dv (n:=0) PVal.bool (fun x=>trivial) m0))) (aI (aI (rB (.cells [sl ae m] [(0,24)])) (aI (rW [(0,24)]) (aI (xR [1,0,2] (sl ae m) (au af m)) trivial))) trivial)))<|sf (aI (aI (rW []) (aI (xM [1,0,2] 1 0 rfl) trivial)) (aI (aI (rM (dp PVal.bool r9.1)) (Dv (n:=0) PVal.bool (fun x=>trivial) r9.1)) (aI (aI (rW [(0,24)]) (aI (xR [1,0,2] (sl ae r9.2) (au af r9.2)) trivial)) trivial)))<|sf (xR [1,0,2] (.tuple []) trivial)<|tk 0 .normal (ca t28 t29 (bN (t30+1)) r9.1 r9.2) rfl (eG (aI (jU rfl) (aI (aI trivial (aI (jU rfl) (aI (jU rfl) trivial))) (aI (up (au af t28)) (aI trivial (aI trivial trivial)))))) (aI (Dv PVal.bool (fun x=>trivial) r9.1) (aI (aI (jU rfl) trivial) (aI (aI (up (au af r9.2)) trivial) trivial)))
  exact gn (A:=wz) mixed z<|by kernel_rfl
 ·obtain rfl:=lf h
  have z:=sg 0 c7<|eF (.exit 2) (eT (m0,m))
  exact pO wz (by intro hx;cases hx) z<|by kernel_rfl
theorem mm{x:((List (ah×Bool))×waA)}(h:bJ t28 t29 t30 m0 m=some x):aQ Pg GE 0 (.loop (cA zx 1015)) (EX (.exit 2) (eT x)) (ca t28 t29 t30 m0 m):=
 aQ.loop (S:=fun(zz:Int×(List (ah×Bool))×waA)=>ca t28 t29 zz.1 zz.2.1 zz.2.2) (ex:=(fun _=>.exit 2)) (s:=(t30,m0,m)) h fun zz y hy=>lB t28 t29 zz.1 zz.2.1 zz.2.2 hy
end
section
variable(i:Int)(m0:(List (ah×Bool)))(m:waA)
def mR:ak:=da 109 [(8,.bptr 2 0),(9,.func (.func 36) [] [.bptr 1 0,.bptr 2 0]),(12,.int .i64 i)] [.map (dp PVal.bool m0),.cells [.mapr 0] [],.cells [sl ae m] [(0,24)]] []
def eP(o:Bool):ak:=da 109 [(8,.bptr 2 0),(9,.func (.func 36) [] [.bptr 1 0,.bptr 2 0]),(12,.int .i64 i),(46,.bool o)] [.map (dp PVal.bool m0),.cells [.mapr 0] [],.cells [sl ae m] [(0,24)]] []
def dT:Option Bool:=
 if(decide (i<(m.length:Int)))=true then
  some (decide ((m.length:Int)<=400))
 else
  some false
theorem mh{x:Bool}(h:dT i m=some x):aQ Pg GE 0 (cA zx 8156) (EX .normal (eP i m0 m x)) (mR i m0 m):=by
 have p12:=fun{sc F} (r:PS sc F)=>ss<|ke (fW.ln m)<|r
 rcases bG h with⟨c11,h⟩|⟨c11,h⟩
 ·obtain rfl:=lf h
  exact jZ wz (p12<|sg 5 c11<|ss<|ke (fW.ln m)<|eF .normal (eP i m0 m (decide ((m.length:Int)<=400))))<|by kernel_rfl
 ·obtain rfl:=lf h
  exact jZ wz (p12<|sg 5 c11<|eF .normal (eP i m0 m false))<|by kernel_rfl
end
section
variable(i:Int)(k:Int)(m0:(List (ah×Bool)))(m:waA)
def mS:ak:=da 109 [(8,.bptr 2 0),(9,.func (.func 36) [] [.bptr 1 0,.bptr 2 0]),(12,.int .i64 i),(13,.int .i64 k)] [.map (dp PVal.bool m0),.cells [.mapr 0] [],.cells [sl ae m] [(0,24)]] []
def eQ(o:Bool):ak:=da 109 [(8,.bptr 2 0),(9,.func (.func 36) [] [.bptr 1 0,.bptr 2 0]),(12,.int .i64 i),(13,.int .i64 k),(56,.bool o)] [.map (dp PVal.bool m0),.cells [.mapr 0] [],.cells [sl ae m] [(0,24)]] []
def dU:Option Bool:=
 if(decide (k<=i))=true then
  some (decide ((m.length:Int)<=400))
 else
  some false
theorem mi{x:Bool}(h:dU i k m=some x):aQ Pg GE 0 (cA zx 522172) (EX .normal (eQ i k m0 m x)) (mS i k m0 m):=by
 rcases bG h with⟨c16,h⟩|⟨c16,h⟩
 ·obtain rfl:=lf h
  exact jZ wz (sg 4 c16<|ss<|ke (fW.ln m)<|eF .normal (eQ i k m0 m (decide ((m.length:Int)<=400))))<|by kernel_rfl
 ·obtain rfl:=lf h
  exact jZ wz (sg 4 c16<|eF .normal (eQ i k m0 m false))<|by kernel_rfl
end
section
variable(i:Int)(k:Int)(m0:(List (ah×Bool)))(m:waA)
def mU:ak:=da 109 [(8,.bptr 2 0),(9,.func (.func 36) [] [.bptr 1 0,.bptr 2 0]),(12,.int .i64 i),(13,.int .i64 k)] [.map (dp PVal.bool m0),.cells [.mapr 0] [],.cells [sl ae m] [(0,24)]] []
def eS(o:(List (ah×Bool))×waA):ak:=da 109 [(8,.bptr 2 0),(9,.func (.func 36) [] [.bptr 1 0,.bptr 2 0]),(12,.int .i64 i),(13,.int .i64 k)] [.map (dp PVal.bool o.1),.cells [.mapr 0] [],.cells [sl ae o.2] [(0,24)]] []
def cG:Option (((List (ah×Bool))×waA)):=
 (d9 m i).bind fun x20=>
 (d9 m k).bind fun x21=>
 if(x20.Callee==x21.Caller)=true then
  (d9 m i).bind fun x24=>
  (d9 m k).bind fun x25=>
  (bF x24 x25).bind fun r26=>
  (bD r26 m0 m).bind fun r27=>
  some (r27.1,r27.2)
 else
  some (m0,m)
theorem ml{x:((List (ah×Bool))×waA)}(h:cG i k m0 m=some x):aQ Pg GE 0 (cA zx 2088698) (EX .normal (eS i k x)) (mU i k m0 m):=by
 obtain⟨x20,bx20,h⟩:=aJ h
 obtain⟨x21,bx21,h⟩:=aJ h
 have p23:=fun{sc F} (r:PS sc F)=>Am [0,0,3,7,15,0,0,96,224,480,1023]<|ss<|sv (fW.ia (k:=.i64) bx20)<|sv (bP x20)<|sv (cq x20)<|ss<|sv (fW.ia (k:=.i64) bx21)<|sv (bB x21)<|sv (bR x21)<|r
 rcases bG h with⟨c22,h⟩|⟨c22,h⟩
 ·obtain⟨x24,bx24,h⟩:=aJ h
  obtain⟨x25,bx25,h⟩:=aJ h
  obtain⟨r26,br26,h⟩:=aJ h
  obtain⟨r27,br27,h⟩:=aJ h
  obtain rfl:=lf h
  exact jZ wz (p23<|sg 0 c22<|sk<|Ga (.dx [0,0,0,6,14,0,0,96,224,510] [] [] [])<|ss<|sv (fW.ia (k:=.i64) bx24)<|sv (cQ x24)<|ss<|sv (fW.ia (k:=.i64) bx25)<|sv (cQ x25)<|d7 (d5 br26)<|si (.cg ⟨[1,0,2],[.agg (ae r26),.bptr 0 0,.bptr 2 0],[],[.cells [.mapr 0] [],.map (dp PVal.bool m0),.cells [sl ae m] [(0,24)]],[.cells [.mapr 1] [],.map (dp PVal.bool m0),.cells [sl ae m] [(0,24)]],[.cells [.mapr 0] [],.map (dp PVal.bool r27.1),.cells [sl ae r27.2] [(0,24)]],[.cells [.mapr 1] [],.map (dp PVal.bool r27.1),.cells [sl ae r27.2] [(0,24)]],.tuple [],.tuple [],[]⟩) (eO br27)<|sf (aI (xR [1,0,2] (.agg (ae r26)) (af r26)) (aI (xB [1,0,2] 0 1 0 rfl) (aI (xB [1,0,2] 2 2 0 rfl) trivial)))<|sf (aI (aI (rB (.cells [.mapr 0] [])) (aI (rW []) (aI (xM [1,0,2] 1 0 rfl) trivial))) (aI (aI (rB (.map (dp PVal.bool m0))) (aI (rM (dp PVal.bool m0)) (Dv (n:=0) PVal.bool (fun x=>trivial) m0))) (aI (aI (rB (.cells [sl ae m] [(0,24)])) (aI (rW [(0,24)]) (aI (xR [1,0,2] (sl ae m) (au af m)) trivial))) trivial)))<|sf (aI (aI (rW []) (aI (xM [1,0,2] 1 0 rfl) trivial)) (aI (aI (rM (dp PVal.bool r27.1)) (Dv (n:=0) PVal.bool (fun x=>trivial) r27.1)) (aI (aI (rW [(0,24)]) (aI (xR [1,0,2] (sl ae r27.2) (au af r27.2)) trivial)) trivial)))<|sf (xR [1,0,2] (.tuple []) trivial)<|eF .normal (eS i k (r27.1,r27.2)))<|by kernel_rfl
 ·obtain rfl:=lf h
  exact jZ wz (p23<|sg 0 c22<|eF .normal (eS i k (m0,m)))<|by kernel_rfl
end
section
variable(i:Int)(k:Int)(m0:(List (ah×Bool)))(m:waA)
def mT:ak:=da 109 [(8,.bptr 2 0),(9,.func (.func 36) [] [.bptr 1 0,.bptr 2 0]),(12,.int .i64 i),(13,.int .i64 k)] [.map (dp PVal.bool m0),.cells [.mapr 0] [],.cells [sl ae m] [(0,24)]] []
def eR(o:(List (ah×Bool))×waA):ak:=da 109 [(8,.bptr 2 0),(9,.func (.func 36) [] [.bptr 1 0,.bptr 2 0]),(12,.int .i64 i),(13,.int .i64 k)] [.map (dp PVal.bool o.1),.cells [.mapr 0] [],.cells [sl ae o.2] [(0,24)]] []
def dV:Option (((List (ah×Bool))×waA)):=
 (cG i k m0 m).bind fun o28=>
 (d9 o28.2 k).bind fun x29=>
 (d9 o28.2 i).bind fun x30=>
 if(x29.Callee==x30.Caller)=true then
  (d9 o28.2 k).bind fun x33=>
  (d9 o28.2 i).bind fun x34=>
  (bF x33 x34).bind fun r35=>
  (bD r35 o28.1 o28.2).bind fun r36=>
  some (r36.1,r36.2)
 else
  some (o28.1,o28.2)
theorem mj{x:((List (ah×Bool))×waA)}(h:dV i k m0 m=some x):aQ Pg GE 0 (cA zx 522174) (EX .normal (eR i k x)) (mT i k m0 m):=by
 obtain⟨o28,bo28,h⟩:=aJ h
 obtain⟨x29,bx29,h⟩:=aJ h
 obtain⟨x30,bx30,h⟩:=aJ h
 have p32:=fun{sc F} (r:PS sc F)=>vY 0<|iw (ml i k m0 m bo28)<|Am [0,0,3,7,15,0,0,96,224,480,1023]<|ss<|sv (fW.ia (k:=.i64) bx29)<|sv (bP x29)<|sv (cq x29)<|ss<|sv (fW.ia (k:=.i64) bx30)<|sv (bB x30)<|sv (bR x30)<|r
 rcases bG h with⟨c31,h⟩|⟨c31,h⟩
 ·obtain⟨x33,bx33,h⟩:=aJ h
  obtain⟨x34,bx34,h⟩:=aJ h
  obtain⟨r35,br35,h⟩:=aJ h
  obtain⟨r36,br36,h⟩:=aJ h
  obtain rfl:=lf h
  exact jZ wz (p32<|sg 0 c31<|sk<|Ga (.dx [0,0,0,6,14,0,0,96,224,510] [] [] [])<|ss<|sv (fW.ia (k:=.i64) bx33)<|sv (cQ x33)<|ss<|sv (fW.ia (k:=.i64) bx34)<|sv (cQ x34)<|d7 (d5 br35)<|si (.cg ⟨[1,0,2],[.agg (ae r35),.bptr 0 0,.bptr 2 0],[],[.cells [.mapr 0] [],.map (dp PVal.bool o28.1),.cells [sl ae o28.2] [(0,24)]],[.cells [.mapr 1] [],.map (dp PVal.bool o28.1),.cells [sl ae o28.2] [(0,24)]],[.cells [.mapr 0] [],.map (dp PVal.bool r36.1),.cells [sl ae r36.2] [(0,24)]],[.cells [.mapr 1] [],.map (dp PVal.bool r36.1),.cells [sl ae r36.2] [(0,24)]],.tuple [],.tuple [],[]⟩) (eO br36)<|sf (aI (xR [1,0,2] (.agg (ae r35)) (af r35)) (aI (xB [1,0,2] 0 1 0 rfl) (aI (xB [1,0,2] 2 2 0 rfl) trivial)))<|sf (aI (aI (rB (.cells [.mapr 0] [])) (aI (rW []) (aI (xM [1,0,2] 1 0 rfl) trivial))) (aI (aI (rB (.map (dp PVal.bool o28.1))) (aI (rM (dp PVal.bool o28.1)) (Dv (n:=0) PVal.bool (fun x=>trivial) o28.1))) (aI (aI (rB (.cells [sl ae o28.2] [(0,24)])) (aI (rW [(0,24)]) (aI (xR [1,0,2] (sl ae o28.2) (au af o28.2)) trivial))) trivial)))<|sf (aI (aI (rW []) (aI (xM [1,0,2] 1 0 rfl) trivial)) (aI (aI (rM (dp PVal.bool r36.1)) (Dv (n:=0) PVal.bool (fun x=>trivial) r36.1)) (aI (aI (rW [(0,24)]) (aI (xR [1,0,2] (sl ae r36.2) (au af r36.2)) trivial)) trivial)))<|sf (xR [1,0,2] (.tuple []) trivial)<|eF .normal (eR i k (r36.1,r36.2)))<|by kernel_rfl
 ·obtain rfl:=lf h
  exact jZ wz (p32<|sg 0 c31<|eF .normal (eR i k (o28.1,o28.2)))<|by kernel_rfl
end
section
variable(i:Int)(k:Int)(m0:(List (ah×Bool)))(m:waA)
def ch:ak:=da 109 [(8,.bptr 2 0),(9,.func (.func 36) [] [.bptr 1 0,.bptr 2 0]),(12,.int .i64 i),(13,.int .i64 k)] [.map (dp PVal.bool m0),.cells [.mapr 0] [],.cells [sl ae m] [(0,24)]] []
def eV(o:(List (ah×Bool))×waA):ak:=da 109 [(8,.bptr 2 0),(9,.func (.func 36) [] [.bptr 1 0,.bptr 2 0]),(12,.int .i64 i)] [.map (dp PVal.bool o.1),.cells [.mapr 0] [],.cells [sl ae o.2] [(0,24)]] []
def dl:Option ((Int×(List (ah×Bool))×waA)⊕(((List (ah×Bool))×waA))):=
 (dU i k m).bind fun o17=>
 if o17=true then
  (dV i k m0 m).bind fun o37=>
  some (.inl (bN (k+1),o37.1,o37.2))
 else
  some (.inr (m0,m))
def dX:Option (((List (ah×Bool))×waA)):=loop (fun(zz:Int×(List (ah×Bool))×waA)=>dl i zz.1 zz.2.1 zz.2.2) (k,m0,m)
theorem lD{y:(Int×(List (ah×Bool))×waA)⊕(((List (ah×Bool))×waA))}(h:dl i k m0 m=some y):aQ Pg GE 0 (cA zx 130543) (LQ (fun(zz:Int×(List (ah×Bool))×waA)=>ch i zz.1 zz.2.1 zz.2.2) (fun _=>.exit 6) (eV i) y) (ch i k m0 m):=by
 obtain⟨o17,bo17,h⟩:=aJ h
 have p19:=fun{sc F} (r:PS sc F)=>vY 1<|iw (mi i k m0 m bo17)<|r
 rcases bG h with⟨c18,h⟩|⟨c18,h⟩
 ·obtain⟨o37,bo37,h⟩:=aJ h
  obtain rfl:=lf h
  exact zA wz (p19<|sg 0 c18<|vY 0<|iw (mj i k m0 m bo37)<|eF .normal (ch i (bN (k+1)) o37.1 o37.2))<|by kernel_rfl
 ·obtain rfl:=lf h
  have z:=p19<|sg 0 c18<|eF (.exit 6) (eV i (m0,m))
  exact pO wz (by intro hx;cases hx) z<|by kernel_rfl
theorem mo{x:((List (ah×Bool))×waA)}(h:dX i k m0 m=some x):aQ Pg GE 0 (.loop (cA zx 130543)) (EX (.exit 6) (eV i x)) (ch i k m0 m):=
 aQ.loop (S:=fun(zz:Int×(List (ah×Bool))×waA)=>ch i zz.1 zz.2.1 zz.2.2) (ex:=(fun _=>.exit 6)) (s:=(k,m0,m)) h fun zz y hy=>lD i zz.1 zz.2.1 zz.2.2 hy
end
section
variable(i:Int)(m0:(List (ah×Bool)))(m:waA)
def ce:ak:=da 109 [(8,.bptr 2 0),(9,.func (.func 36) [] [.bptr 1 0,.bptr 2 0]),(12,.int .i64 i)] [.map (dp PVal.bool m0),.cells [.mapr 0] [],.cells [sl ae m] [(0,24)]] []
def eU(o:(List (ah×Bool))×waA):ak:=da 109 [(8,.bptr 2 0)] [.map (dp PVal.bool o.1),.cells [.mapr 0] [],.cells [sl ae o.2] [(0,24)]] []
def dj:Option ((Int×(List (ah×Bool))×waA)⊕(((List (ah×Bool))×waA))):=
 (dT i m).bind fun o13=>
 if o13=true then
  (dX i 0 m0 m).bind fun o38=>
  some (.inl (bN (i+1),o38.1,o38.2))
 else
  some (.inr (m0,m))
def dW:Option (((List (ah×Bool))×waA)):=loop (fun(zz:Int×(List (ah×Bool))×waA)=>dj zz.1 zz.2.1 zz.2.2) (i,m0,m)
theorem lC{y:(Int×(List (ah×Bool))×waA)⊕(((List (ah×Bool))×waA))}(h:dj i m0 m=some y):aQ Pg GE 0 (cA zx 2039) (LQ (fun(zz:Int×(List (ah×Bool))×waA)=>ce zz.1 zz.2.1 zz.2.2) (fun _=>.exit 4) eU y) (ce i m0 m):=by
 obtain⟨o13,bo13,h⟩:=aJ h
 have p15:=fun{sc F} (r:PS sc F)=>vY 1<|iw (mh i m0 m bo13)<|r
 rcases bG h with⟨c14,h⟩|⟨c14,h⟩
 ·obtain⟨o38,bo38,h⟩:=aJ h
  obtain rfl:=lf h
  exact zA wz (p15<|sg 0 c14<|iw (mo i 0 m0 m bo38)<|eF .normal (ce (bN (i+1)) o38.1 o38.2))<|by kernel_rfl
 ·obtain rfl:=lf h
  have z:=p15<|sg 0 c14<|eF (.exit 4) (eU (m0,m))
  exact pO wz (by intro hx;cases hx) z<|by kernel_rfl
theorem mn{x:((List (ah×Bool))×waA)}(h:dW i m0 m=some x):aQ Pg GE 0 (.loop (cA zx 2039)) (EX (.exit 4) (eU x)) (ce i m0 m):=
 aQ.loop (S:=fun(zz:Int×(List (ah×Bool))×waA)=>ce zz.1 zz.2.1 zz.2.2) (ex:=(fun _=>.exit 4)) (s:=(i,m0,m)) h fun zz y hy=>lC zz.1 zz.2.1 zz.2.2 hy
end
theorem oq{l r:List aa}(h:qr be l=some r):aQ Pg GE 0 (cA zx 1022) (EX .normal (da 109 [(8,.bptr 2 0)] [.dead,.dead,.cells [sl ae r] [(0,24)]] [])) (da 109 [(8,.bptr 2 0)] [.dead,.dead,.cells [sl ae l] [(0,24)]] []):=
 Gb (K:=[3,4]) (c:=ae) (n:=109) (nb:=3) (i:=2) fW DR GN (fun x y r h=>pX h) call39 Br rfl rfl rfl rfl rfl rfl rfl rfl (h0:=by kernel_rfl) (h00:=by kernel_rfl) h
def aH(a:waA):Option (waA×Int):=
 (bg a (a.length:Int) 0).bind fun o6=>match o6 with
 |(.inl o6)=>
  some (o6.1,o6.2)
 | (.inr o6) =>
  (bJ a (a.length:Int) 0 ([]:List (ah×Bool)) ([]:List aa)).bind fun o10=>
  (dW 0 o10.1 o10.2).bind fun o39=>
  if(decide ((o39.2.length:Int)>400))=true then
   some (([]:List aa),7)
  else
   (qr be o39.2).bind fun l42=>
   some (l42,0)
theorem dY{a:waA}{r:waA×Int}(h:aH a=some r):CC Pg GE 19 [sl ae a] (.tuple [sl ae r.1,.int .i64 r.2]) []:=by
 obtain⟨o6,bo6,h⟩:=aJ h
 rcases o6 with o6|o6
 ·obtain rfl:=lf h
  have z:=ke (fW.ln a)<|iw (e:=.ret) (s1:=bu a (.inl o6)) (gZ a (a.length:Int) 0 bo6)<|en (aI (rP (.tuple [sl ae o6.1,.int .i64 o6.2]))<|(aI (au af o6.1) (aI trivial trivial)))
  exact cW wz call19 func19 (c:=zx) rfl (aI (au af a) trivial) z<|by kernel_rfl
 ·obtain⟨o10,bo10,h⟩:=aJ h
  obtain⟨o39,bo39,h⟩:=aJ h
  have p41:=fun{sc F} (r:PS sc F)=>ke (fW.ln a)<|iw (e:=.exit 0) (s1:=bu a (.inr o6)) (gZ a (a.length:Int) 0 bo6)<|sx GM<|ss<|sx GK<|ke (fW.ln a)<|iw (mm a (a.length:Int) 0 ([]:List (ah×Bool)) ([]:List aa) bo10)<|iw (mn 0 o10.1 o10.2 bo39)<|ss<|ke (fW.ln o39.2)<|r
  rcases bG h with⟨c40,h⟩|⟨c40,h⟩
  ·obtain rfl:=lf h
   have z:=p41<|sg 0 c40<|en (aI (rP (.tuple [sl ae ([]:List aa),.int .i64 7]))<|(aI (au af ([]:List aa)) (aI trivial trivial)))
   exact cW wz call19 func19 (c:=zx) rfl (aI (au af a) trivial) z<|by kernel_rfl
  ·obtain⟨l42,bl42,h⟩:=aJ h
   obtain rfl:=lf h
   have z:=p41<|sg 0 c40<|vY 0<|iw (oq bl42)<|ss<|en (aI (rP (.tuple [sl ae l42,.int .i64 0]))<|(aI (au af l42) (aI trivial trivial)))
   exact cW wz call19 func19 (c:=zx) rfl (aI (au af a) trivial) z<|by kernel_rfl
noncomputable def FD:Code:=f30.body.getD .skip
def E7:List Nat:=[15]
section
variable(s1:waB)(s2:waB)(t12:Int)(t13:Int)
def ej:ak:=da 26 [(0,sl am s1),(1,sl am s2),(12,.int .i64 t12),(13,.int .i64 t13)] [] []
def ek(o:Unit⊕(Unit)):Exit:=match o with
 |(.inl _)=>.ret
 |(.inr _)=>.exit 0
def dn(o:Unit⊕(Unit)):ak:=match o with
 |(.inl o)=>da 26 [(4,.bool false)] [] []
 |(.inr o)=>da 26 [] [] []
def iX:Option (Int⊕(Unit⊕(Unit))):=
 if(decide (t13<t12))=true then
  (d9 s1 t13).bind fun x4=>
  (d9 s2 t13).bind fun x5=>
  if(!(kn x4 x5))=true then
   some (.inr (.inl ()))
  else
   some (.inl (bN (t13+1)))
 else
  some (.inr (.inr ()))
def j5:Option (Unit⊕(Unit)):=loop (fun(zz:Int)=>iX s1 s2 t12 zz) t13
theorem pY{y:Int⊕(Unit⊕(Unit))}(h:iX s1 s2 t12 t13=some y):aQ Pg GE 0 (cA FD 119) (LQ (fun(zz:Int)=>ej s1 s2 t12 zz) ek dn y) (ej s1 s2 t12 t13):=by
 rcases bG h with⟨c3,h⟩|⟨c3,h⟩
 ·obtain⟨x4,bx4,h⟩:=aJ h
  obtain⟨x5,bx5,h⟩:=aJ h
  have p7:=fun{sc F} (r:PS sc F)=>sg 0 c3<|Am [0,0,3,7,0,0,48,112,255]<|sv (gR.ia (k:=.i64) bx4)<|sv (jy x4)<|sv (gR.ia (k:=.i64) bx5)<|sv (jy x5)<|sv (CR x4 x5)<|r
  rcases bG h with⟨c6,h⟩|⟨c6,h⟩
  ·obtain rfl:=lf h
   have z:=p7<|sg 0 c6<|eF (ek (.inl ())) (dn (.inl ()))
   exact pO E7 (by intro hx;cases hx) z<|by kernel_rfl
  ·obtain rfl:=lf h
   exact zA E7 (p7<|sg 0 c6<|eF .normal (ej s1 s2 t12 (bN (t13+1))))<|by kernel_rfl
 ·obtain rfl:=lf h
  have z:=sg 0 c3<|eF (ek (.inr ())) (dn (.inr ()))
  exact pO E7 (by intro hx;cases hx) z<|by kernel_rfl
theorem lk{x:Unit⊕(Unit)}(h:j5 s1 s2 t12 t13=some x):aQ Pg GE 0 (.loop (cA FD 119)) (EX (ek x) (dn x)) (ej s1 s2 t12 t13):=
 aQ.loop (S:=fun(zz:Int)=>ej s1 s2 t12 zz) (ex:=ek) (s:=t13) h fun zz y hy=>pY s1 s2 t12 zz hy
end
def kv(s1:waB)(s2:waB):Option Bool:=
 if((s1.length:Int)!=(s2.length:Int))=true then
  some false
 else
  (j5 s1 s2 (s1.length:Int) 0).bind fun o8=>match o8 with
  |(.inl o8)=>
   some false
  |(.inr o8)=>
   some true
theorem tS{s1:waB}{s2:waB}{r:Bool}(h:kv s1 s2=some r):CC Pg GE 30 [sl am s1,sl am s2] (.bool r) []:=by
 have p2:=fun{sc F} (r:PS sc F)=>ke (gR.ln s1)<|ke (gR.ln s2)<|r
 rcases bG h with⟨c1,h⟩|⟨c1,h⟩
 ·obtain rfl:=lf h
  have z:=p2<|sg 0 c1<|en (aI (rP (.bool false))<|trivial)
  exact cW E7 call30 func30 (c:=FD) rfl (aI (au aA s1) (aI (au aA s2) trivial)) z<|by kernel_rfl
 ·obtain⟨o8,bo8,h⟩:=aJ h
  rcases o8 with o8|o8
  ·obtain rfl:=lf h
   have z:=p2<|sg 0 c1<|ke (gR.ln s1)<|iw (e:=.ret) (s1:=dn (.inl o8)) (lk s1 s2 (s1.length:Int) 0 bo8)<|en (aI (rP (.bool false))<|trivial)
   exact cW E7 call30 func30 (c:=FD) rfl (aI (au aA s1) (aI (au aA s2) trivial)) z<|by kernel_rfl
  ·obtain rfl:=lf h
   have z:=p2<|sg 0 c1<|ke (gR.ln s1)<|iw (e:=.exit 0) (s1:=dn (.inr o8)) (lk s1 s2 (s1.length:Int) 0 bo8)<|en (aI (rP (.bool true))<|trivial)
   exact cW E7 call30 func30 (c:=FD) rfl (aI (au aA s1) (aI (au aA s2) trivial)) z<|by kernel_rfl
noncomputable def Gu:Code:=f12.body.getD .skip
def Gm:List Nat:=[]
def fB(a:aa)(a2:aa):Option Bool:=
 if(a.Caller==a2.Caller)=true then
  if(a.Callee==a2.Callee)=true then
   (kv a.Arcs a2.Arcs).bind fun r5=>
   some r5
  else
   some false
 else
  some false
theorem lc{a:aa}{a2:aa}{r:Bool}(h:fB a a2=some r):CC Pg GE 12 [.agg (ae a),.agg (ae a2)] (.bool r) []:=by
 have p2:=fun{sc F} (r:PS sc F)=>se (eK a)<|se (eK a2)<|sv (bB a)<|sv (bR a)<|sv (bB a2)<|sv (bR a2)<|r
 rcases bG h with⟨c1,h⟩|⟨c1,h⟩
 ·have p4:=fun{sc F} (r:PS sc F)=>p2<|sg 6 c1<|sv (bP a)<|sv (cq a)<|sv (bP a2)<|sv (cq a2)<|r
  rcases bG h with⟨c3,h⟩|⟨c3,h⟩
  ·obtain⟨r5,br5,h⟩:=aJ h
   obtain rfl:=lf h
   have z:=p4<|sg 13 c3<|sv (ct a)<|sv (cu a)<|sv (ct a2)<|sv (cu a2)<|d7 (tS br5)<|en (aI (rP (.bool r5))<|trivial)
   exact cW Gm call12 func12 (c:=Gu) rfl (aI (af a) (aI (af a2) trivial)) z<|by kernel_rfl
  ·obtain rfl:=lf h
   have z:=p4<|sg 13 c3<|en (aI (rP (.bool false))<|trivial)
   exact cW Gm call12 func12 (c:=Gu) rfl (aI (af a) (aI (af a2) trivial)) z<|by kernel_rfl
 ·obtain rfl:=lf h
  have z:=p2<|sg 6 c1<|en (aI (rP (.bool false))<|trivial)
  exact cW Gm call12 func12 (c:=Gu) rfl (aI (af a) (aI (af a2) trivial)) z<|by kernel_rfl
noncomputable def G3:Code:=f42.body.getD .skip
def GT:List Nat:=[]
def cj(a:ag):Option Bool:=
 if(a.From==a.To)=true then
  some a.Strict
 else
  some false
theorem lh{a:ag}{r:Bool}(h:cj a=some r):CC Pg GE 42 [.agg (am a)] (.bool r) []:=by
 have p2:=fun{sc F} (r:PS sc F)=>se (rI a)<|sv (fb a)<|sv (gf a)<|sv (iN a)<|sv (jS a)<|r
 rcases bG h with⟨c1,h⟩|⟨c1,h⟩
 ·obtain rfl:=lf h
  have z:=p2<|sg 6 c1<|sv (nE a)<|sv (pe a)<|en (aI (rP (.bool a.Strict))<|trivial)
  exact cW GT call42 func42 (c:=G3) rfl (aI (aA a) trivial) z<|by kernel_rfl
 ·obtain rfl:=lf h
  have z:=p2<|sg 6 c1<|en (aI (rP (.bool false))<|trivial)
  exact cW GT call42 func42 (c:=G3) rfl (aI (aA a) trivial) z<|by kernel_rfl
noncomputable def Gh:Code:=f65.body.getD .skip
def Fi:List Nat:=[10,17]
section
variable(s:waB)(t7:Int)(t8:Int)
def cK:ak:=da 19 [(0,sl am s),(1,.func (.func 42) [] []),(7,.int .i64 t7),(8,.int .i64 t8)] [] []
def cM(o:Int⊕(Unit)):Exit:=match o with
 |(.inl _)=>.ret
 |(.inr _)=>.exit 0
def bM(o:Int⊕(Unit)):ak:=match o with
 |(.inl o)=>da 19 [(4,.int .i64 o)] [] []
 |(.inr o)=>da 19 [] [] []
def fO:Option (Int⊕(Int⊕(Unit))):=
 if(decide (t8<t7))=true then
  (d9 s t8).bind fun x2=>
  (cj x2).bind fun r3=>
  if r3=true then
   some (.inr (.inl t8))
  else
   some (.inl (bN (t8+1)))
 else
  some (.inr (.inr ()))
def gT:Option (Int⊕(Unit)):=loop (fun(zz:Int)=>fO s t7 zz) t8
theorem mY{y:Int⊕(Int⊕(Unit))}(h:fO s t7 t8=some y):aQ Pg GE 0 (cA Gh 55) (LQ (fun(zz:Int)=>cK s t7 zz) cM bM y) (cK s t7 t8):=by
 rcases bG h with⟨c1,h⟩|⟨c1,h⟩
 ·obtain⟨x2,bx2,h⟩:=aJ h
  obtain⟨r3,br3,h⟩:=aJ h
  have p5:=fun{sc F} (r:PS sc F)=>sg 0 c1<|sv (gR.ia (k:=.i64) bx2)<|sv (jy x2)<|d7 (lh br3)<|r
  rcases bG h with⟨c4,h⟩|⟨c4,h⟩
  ·obtain rfl:=lf h
   have z:=p5<|sg 0 c4<|eF (cM (.inl t8)) (bM (.inl t8))
   exact pO Fi (by intro hx;cases hx) z<|by kernel_rfl
  ·obtain rfl:=lf h
   exact zA Fi (p5<|sg 0 c4<|eF .normal (cK s t7 (bN (t8+1))))<|by kernel_rfl
 ·obtain rfl:=lf h
  have z:=sg 0 c1<|eF (cM (.inr ())) (bM (.inr ()))
  exact pO Fi (by intro hx;cases hx) z<|by kernel_rfl
theorem iY{x:Int⊕(Unit)}(h:gT s t7 t8=some x):aQ Pg GE 0 (.loop (cA Gh 55)) (EX (cM x) (bM x)) (cK s t7 t8):=
 aQ.loop (S:=fun(zz:Int)=>cK s t7 zz) (ex:=cM) (s:=t8) h fun zz y hy=>mY s t7 zz hy
end
def jn(s:waB):Option Int:=
 (gT s (s.length:Int) 0).bind fun o6=>match o6 with
 |(.inl o6)=>
  some o6
 |(.inr o6)=>
  some (-1)
theorem pZ{s:waB}{r:Int}(h:jn s=some r):CC Pg GE 65 [sl am s,.func (.func 42) [] []] (.int .i64 r) []:=by
 obtain⟨o6,bo6,h⟩:=aJ h
 rcases o6 with o6|o6
 ·obtain rfl:=lf h
  have z:=ke (gR.ln s)<|iw (e:=.ret) (s1:=bM (.inl o6)) (iY s (s.length:Int) 0 bo6)<|en (aI (rP (.int .i64 o6))<|trivial)
  exact cW Fi call65 func65 (c:=Gh) rfl (aI (au aA s) (aI (aI trivial trivial) trivial)) z<|by kernel_rfl
 ·obtain rfl:=lf h
  have z:=ke (gR.ln s)<|iw (e:=.exit 0) (s1:=bM (.inr o6)) (iY s (s.length:Int) 0 bo6)<|en (aI (rP (.int .i64 (-1)))<|trivial)
  exact cW Fi call65 func65 (c:=Gh) rfl (aI (au aA s) (aI (aI trivial trivial) trivial)) z<|by kernel_rfl
noncomputable def Hk:Code:=f41.body.getD .skip
def Hg:List Nat:=[]
def dv(s:waB):Option Bool:=
 (jn s).bind fun r1=>
 some (decide (r1>=0))
theorem n8{s:waB}{r:Bool}(h:dv s=some r):CC Pg GE 41 [sl am s,.func (.func 42) [] []] (.bool r) []:=by
 obtain⟨r1,br1,h⟩:=aJ h
 obtain rfl:=lf h
 have z:=d7 (pZ br1)<|en (aI (rP (.bool (decide (r1>=0))))<|trivial)
 exact cW Hg call41 func41 (c:=Hk) rfl (aI (au aA s) (aI (aI trivial trivial) trivial)) z<|by kernel_rfl
noncomputable def Fa:Code:=f21.body.getD .skip
def Dj:List Nat:=[15]
section
variable(t16:waA)(t17:Int)(t18:Int)(m:ah)(m2:ah)(m3:waB)
def li:ak:=da 40 [(7,.bptr 0 0),(16,sl ae t16),(17,.int .i64 t17),(18,.int .i64 t18)] [.cells [.str m,.str m2,sl am m3] []] []
def dO(o:Bool):ak:=da 40 [(7,.bptr 0 0),(16,sl ae t16),(17,.int .i64 t17),(18,.int .i64 t18),(34,.bool o)] [.cells [.str m,.str m2,sl am m3] []] []
def bS:Option Bool:=
 if(!(m==m2))=true then
  some true
 else
  (bF (⟨m,m2,m3⟩:aa) (⟨m,m2,m3⟩:aa)).bind fun r7=>
  (fB r7 (⟨m,m2,m3⟩:aa)).bind fun r8=>
  some (!r8)
theorem ku{x:Bool}(h:bS m m2 m3=some x):aQ Pg GE 0 (cA Fa 31724) (EX .normal (dO t16 t17 t18 m m2 m3 x)) (li t16 t17 t18 m m2 m3):=by
 have p6:=fun{sc F} (r:PS sc F)=>Am [0,1,0,4,15,31,63,63,255,63,1023,2047,4095]<|ss<|ss<|r
 rcases bG h with⟨c5,h⟩|⟨c5,h⟩
 ·obtain rfl:=lf h
  exact jZ Dj (p6<|sg 6 c5<|eF .normal (dO t16 t17 t18 m m2 m3 true))<|by kernel_rfl
 ·obtain⟨r7,br7,h⟩:=aJ h
  obtain⟨r8,br8,h⟩:=aJ h
  obtain rfl:=lf h
  exact jZ Dj (p6<|sg 6 c5<|sv (cR (⟨m,m2,m3⟩:aa) [])<|sv (cR (⟨m,m2,m3⟩:aa) [])<|d7 (d5 br7)<|sv (cR (⟨m,m2,m3⟩:aa) [])<|d7 (lc br8)<|eF .normal (dO t16 t17 t18 m m2 m3 (!r8)))<|by kernel_rfl
end
section
variable(t16:waA)(t17:Int)(t18:Int)
def aV:ak:=da 40 [(16,sl ae t16),(17,.int .i64 t17),(18,.int .i64 t18)] [] []
def bE(o:Unit⊕(Unit)):Exit:=match o with
 |(.inl _)=>.ret
 |(.inr _)=>.exit 0
def aW(o:Unit⊕(Unit)):ak:=match o with
 |(.inl o)=>da 40 [(2,.bool false),(3,.int .i64 0)] [] []
 |(.inr o)=>da 40 [] [] []
def dP:Option (Int⊕(Unit⊕(Unit))):=
 if (decide (t18 < t17)) = true then
  (d9 t16 t18).bind fun x4=>
  (bS x4.Caller x4.Callee x4.Arcs).bind fun o9=>
  if o9=true then
   some (.inl (bN (t18+1)))
  else
   (dv x4.Arcs).bind fun r12=>
   if(!r12)=true then
    some (.inr (.inl ()))
   else
    some (.inl (bN (t18+1)))
 else
  some (.inr (.inr ()))
def cZ:Option (Unit⊕(Unit)):=loop (fun(zz:Int)=>dP t16 t17 zz) t18
theorem j4{y:Int⊕(Unit⊕(Unit))}(h:dP t16 t17 t18=some y):aQ Pg GE 0 (cA Fa 247) (LQ (fun(zz:Int)=>aV t16 t17 zz) bE aW y) (aV t16 t17 t18):=by
 rcases bG h with⟨c3,h⟩|⟨c3,h⟩
 ·obtain⟨x4,bx4,h⟩:=aJ h
  obtain⟨o9,bo9,h⟩:=aJ h
  have p11:=fun{sc F} (r:PS sc F)=>sg 0 c3<|sv (fW.ia (k:=.i64) bx4)<|sv (cQ x4)<|sx vL<|sx (ig x4)<|vY 1<|iw (ku t16 t17 t18 x4.Caller x4.Callee x4.Arcs bo9)<|r
  rcases bG h with⟨c10,h⟩|⟨c10,h⟩
  ·obtain rfl:=lf h
   have z:=p11<|sg 0 c10<|tk 0 .normal (aV t16 t17 (bN (t18+1))) rfl (eG (aI (up (au af t16)) (aI trivial (aI trivial trivial)))) trivial
   exact gn (A:=Dj) mixed z<|by kernel_rfl
  ·obtain⟨r12,br12,h⟩:=aJ h
   have p14:=fun{sc F} (r:PS sc F)=>p11<|sg 0 c10<|ss<|d7 (n8 br12)<|r
   rcases bG h with⟨c13,h⟩|⟨c13,h⟩
   ·obtain rfl:=lf h
    have z:=p14<|sg 0 c13<|tk 0 (bE (.inl ())) (aW (.inl ())) rfl (eG (aI trivial (aI trivial trivial))) trivial
    exact nN (A:=Dj) mixed (by intro hx;cases hx) z<|by kernel_rfl
   ·obtain rfl:=lf h
    have z:=p14<|sg 0 c13<|tk 0 .normal (aV t16 t17 (bN (t18+1))) rfl (eG (aI (up (au af t16)) (aI trivial (aI trivial trivial)))) trivial
    exact gn (A:=Dj) mixed z<|by kernel_rfl
 ·obtain rfl:=lf h
  have z:=sg 0 c3<|eF (bE (.inr ())) (aW (.inr ()))
  exact pO Dj (by intro hx;cases hx) z<|by kernel_rfl
theorem fU{x:Unit⊕(Unit)}(h:cZ t16 t17 t18=some x):aQ Pg GE 0 (.loop (cA Fa 247)) (EX (bE x) (aW x)) (aV t16 t17 t18):=
 aQ.loop (S:=fun(zz:Int)=>aV t16 t17 zz) (ex:=bE) (s:=t18) h fun zz y hy=>j4 t16 t17 zz hy
end
def bh(a:waA):Option (Bool×Int):=
 (aH a).bind fun r1=>
 if(r1.2 !=0)=true then
  some (false,r1.2)
 else
  (cZ r1.1 (r1.1.length:Int) 0).bind fun o15=>match o15 with
  |(.inl o15)=>
   some (false,0)
  |(.inr o15)=>
   some (true,0)
theorem ez{a:waA}{r:Bool×Int}(h:bh a=some r):CC Pg GE 21 [sl ae a] (.tuple [.bool r.1,.int .i64 r.2]) []:=by
 obtain⟨r1,br1,h⟩:=aJ h
 rcases bG h with⟨c2,h⟩|⟨c2,h⟩
 ·obtain rfl:=lf h
  have z:=d7 (dY br1)<|sg 0 c2<|en (aI (rP (.tuple [.bool false,.int .i64 r1.2]))<|(aI trivial (aI trivial trivial)))
  exact cW Dj call21 func21 (c:=Fa) rfl (aI (au af a) trivial) z<|by kernel_rfl
 ·obtain⟨o15,bo15,h⟩:=aJ h
  rcases o15 with o15|o15
  ·obtain rfl:=lf h
   have z:=d7 (dY br1)<|sg 0 c2<|ke (fW.ln r1.1)<|iw (e:=.ret) (s1:=aW (.inl o15)) (fU r1.1 (r1.1.length:Int) 0 bo15)<|en (aI (rP (.tuple [.bool false,.int .i64 0]))<|(aI trivial (aI trivial trivial)))
   exact cW Dj call21 func21 (c:=Fa) rfl (aI (au af a) trivial) z<|by kernel_rfl
  ·obtain rfl:=lf h
   have z:=d7 (dY br1)<|sg 0 c2<|ke (fW.ln r1.1)<|iw (e:=.exit 0) (s1:=aW (.inr o15)) (fU r1.1 (r1.1.length:Int) 0 bo15)<|en (aI (rP (.tuple [.bool true,.int .i64 0]))<|(aI trivial (aI trivial trivial)))
   exact cW Dj call21 func21 (c:=Fa) rfl (aI (au af a) trivial) z<|by kernel_rfl
noncomputable def Ge:Code:=f17.body.getD .skip
def Gc:List Nat:=[13,19]
def kZ(a:aa)(a2:aa):Option (aa×Int):=
 (ba a).bind fun r1=>
 if(r1 !=0)=true then
  some ((⟨([]:ah),([]:ah),([]:List ag)⟩:aa),r1)
 else
  (ba a2).bind fun r4=>
  if(r4 !=0)=true then
   some ((⟨([]:ah),([]:ah),([]:List ag)⟩:aa),r4)
  else
   if(!(a.Callee==a2.Caller))=true then
    some ((⟨([]:ah),([]:ah),([]:List ag)⟩:aa),6)
   else
    (bF a a2).bind fun r9=>
    some (r9,0)
theorem ou{a:aa}{a2:aa}{r:aa×Int}(h:kZ a a2=some r):CC Pg GE 17 [.agg (ae a),.agg (ae a2)] (.tuple [.agg (ae r.1),.int .i64 r.2]) []:=by
 obtain⟨r1,br1,h⟩:=aJ h
 have p3:=fun{sc F} (r:PS sc F)=>se (eK a)<|se (eK a2)<|sx vL<|sv (cQ a)<|d7 (cD br1)<|r
 rcases bG h with⟨c2,h⟩|⟨c2,h⟩
 ·obtain rfl:=lf h
  have z:=p3<|sg 0 c2<|sb (oV) (oU)<|sy (cP (⟨([]:ah),([]:ah),([]:List ag)⟩:aa))<|en (aI (vbk PVal.tuple (tj (jm (⟨([]:ah),([]:ah),([]:List ag)⟩:aa)) (tj (rP (.int .i64 r1)) (rfl:([]:List PVal)=[]))))<|(aI (af (⟨([]:ah),([]:ah),([]:List ag)⟩:aa)) (aI trivial trivial)))
  exact cW Gc call17 func17 (c:=Ge) rfl (aI (af a) (aI (af a2) trivial)) z<|by kernel_rfl
 ·obtain⟨r4,br4,h⟩:=aJ h
  have p6:=fun{sc F} (r:PS sc F)=>p3<|sg 0 c2<|sv (cQ a2)<|d7 (cD br4)<|r
  rcases bG h with⟨c5,h⟩|⟨c5,h⟩
  ·obtain rfl:=lf h
   have z:=p6<|sg 0 c5<|sb (oV) (oU)<|sy (cP (⟨([]:ah),([]:ah),([]:List ag)⟩:aa))<|en (aI (vbk PVal.tuple (tj (jm (⟨([]:ah),([]:ah),([]:List ag)⟩:aa)) (tj (rP (.int .i64 r4)) (rfl:([]:List PVal)=[]))))<|(aI (af (⟨([]:ah),([]:ah),([]:List ag)⟩:aa)) (aI trivial trivial)))
   exact cW Gc call17 func17 (c:=Ge) rfl (aI (af a) (aI (af a2) trivial)) z<|by kernel_rfl
  ·have p8:=fun{sc F} (r:PS sc F)=>p6<|sg 0 c5<|sv (bP a)<|sv (cq a)<|sv (bB a2)<|sv (bR a2)<|r
   rcases bG h with⟨c7,h⟩|⟨c7,h⟩
   ·obtain rfl:=lf h
    have z:=p8<|sg 0 c7<|sb (oV) (oU)<|sy (cP (⟨([]:ah),([]:ah),([]:List ag)⟩:aa))<|en (aI (vbk PVal.tuple (tj (jm (⟨([]:ah),([]:ah),([]:List ag)⟩:aa)) (tj (rP (.int .i64 6)) (rfl:([]:List PVal)=[]))))<|(aI (af (⟨([]:ah),([]:ah),([]:List ag)⟩:aa)) (aI trivial trivial)))
    exact cW Gc call17 func17 (c:=Ge) rfl (aI (af a) (aI (af a2) trivial)) z<|by kernel_rfl
   ·obtain⟨r9,br9,h⟩:=aJ h
    obtain rfl:=lf h
    have z:=p8<|sg 0 c7<|sv (cQ a)<|sv (cQ a2)<|d7 (d5 br9)<|sy (cP r9)<|en (aI (vbk PVal.tuple (tj (jm r9) (tj (rP (.int .i64 0)) (rfl:([]:List PVal)=[]))))<|(aI (af r9) (aI trivial trivial)))
    exact cW Gc call17 func17 (c:=Ge) rfl (aI (af a) (aI (af a2) trivial)) z<|by kernel_rfl
noncomputable def Cg:Code:=f16.body.getD .skip
def B4:List Nat:=[]
def gC:Option Bool:=
 (im ([102]:ah) ([102]:ah) ([(lZ 0 [0,1,1]),(lZ 0 [1,0,0])]:List j0)).bind fun r1=>
 (bh ([r1]:List aa)).bind fun r2=>
 (im ([102]:ah) ([102]:ah) ([(lZ 0 [0,1,0]),(lZ 0 [1,0,0])]:List j0)).bind fun r3=>
 (bh ([r3]:List aa)).bind fun r4=>
 (im ([102]:ah) ([103]:ah) ([(lZ 0 [0,1,1])]:List j0)).bind fun r5=>
 (im ([103]:ah) ([104]:ah) ([(lZ 0 [1,2,0])]:List j0)).bind fun r6=>
 (kZ r5 r6).bind fun r7=>
 (im ([102]:ah) ([102]:ah) ([(lZ 0 [0,1,1]),(lZ 0 [1,0,0])]:List j0)).bind fun r8=>
 (aH ([r8]:List aa)).bind fun r9=>
 if r2.1 = true then
  if (r2.2 == 0) = true then
   if (!r4.1) = true then
    if (r4.2 == 0) = true then
     if (r7.2 == 0) = true then
      (im ([102]:ah) ([104]:ah) ([(lZ 0 [0,2,1])]:List j0)).bind fun r20=>
      (fB r7.1 r20).bind fun r21=>
      if r21=true then
       (fC r7.1).bind fun r24=>
       if (r24 == ([102,32,45,62,32,104,58,32,48,32,62,32,50]:ah)) = true then
        if (decide ((r9.1.length:Int) ≥ 2)) = true then
         if(r9.2==0)=true then
          (ba r7.1).bind fun r31=>
          if(r31==0)=true then
           (im ([102]:ah) ([102]:ah) ([(lZ 0 [0,6,0])]:List j0)).bind fun r34=>
           (ba r34).bind fun r35=>
           some (r35==2)
          else
           some false
         else
          some false
        else
         some false
       else
        some false
      else
       some false
     else
      some false
    else
     some false
   else
    some false
  else
   some false
 else
  some false
theorem e9 {r:Bool} (h:gC = some r):CC Pg GE 16 [] (.bool r) []:=by
 obtain⟨r1,br1,h⟩:=aJ h
 obtain⟨r2,br2,h⟩:=aJ h
 obtain⟨r3,br3,h⟩:=aJ h
 obtain⟨r4,br4,h⟩:=aJ h
 obtain⟨r5,br5,h⟩:=aJ h
 obtain⟨r6,br6,h⟩:=aJ h
 obtain⟨r7,br7,h⟩:=aJ h
 obtain⟨r8,br8,h⟩:=aJ h
 obtain⟨r9,br9,h⟩:=aJ h
 have p11:=fun{sc F} (r:PS sc F)=>sv (cY 0 1 1)<|sv (cY 1 0 0)<|sv (xV.mk' (v:=pC) jV ([(lZ 0 [0,1,1]),(lZ 0 [1,0,0])]:List j0) 2 (by kernel_rfl))<|d7 (fa br1)<|sv (fW.mk' (v:=pD) nP ([r1]:List aa) 1 (by kernel_rfl))<|d7 (ez br2)<|sv (cY 0 1 0)<|sv (cY 1 0 0)<|sv (xV.mk' (v:=pC) jV ([(lZ 0 [0,1,0]),(lZ 0 [1,0,0])]:List j0) 2 (by kernel_rfl))<|d7 (fa br3)<|sv (fW.mk' (v:=pD) nP ([r3]:List aa) 1 (by kernel_rfl))<|d7 (ez br4)<|sv (cY 0 1 1)<|sv (xV.mk' (v:=pC) jV ([(lZ 0 [0,1,1])]:List j0) 1 (by kernel_rfl))<|d7 (fa br5)<|sv (cY 1 2 0)<|sv (xV.mk' (v:=pC) jV ([(lZ 0 [1,2,0])]:List j0) 1 (by kernel_rfl))<|d7 (fa br6)<|d7 (ou br7)<|sx vL<|sx (ig r7.1)<|sv (cY 0 1 1)<|sv (cY 1 0 0)<|sv (xV.mk' (v:=pC) jV ([(lZ 0 [0,1,1]),(lZ 0 [1,0,0])]:List j0) 2 (by kernel_rfl))<|d7 (fa br8)<|sv (fW.mk' (v:=pD) nP ([r8]:List aa) 1 (by kernel_rfl))<|d7 (dY br9)<|Am [0,1,3,7,15,31,63,127,255,511,1023,2047,4095,8191,16383,32767,65535,131071,262143,262143,786431,1835007,4194303,8388607,16777215,33554431,67108863,134217727,268435455,536870911,1073741823,2147483647,4294967295,8589934591,17179869183,34359738367,68719476735,137438953471,274877906943,549755813887,1099511627775,2199023255551,4398046511103,8796093022207,17592186044415,35184372088831,70368744177663,140737488355327,281474976710655,562949953421311,1125899906842623]<|r
 rcases bG h with⟨c10,h⟩|⟨c10,h⟩
 ·have p13:=fun{sc F} (r:PS sc F)=>p11<|sg 2 c10<|r
  rcases bG h with⟨c12,h⟩|⟨c12,h⟩
  ·have p15:=fun{sc F} (r:PS sc F)=>p13<|sg 6 c12<|r
   rcases bG h with⟨c14,h⟩|⟨c14,h⟩
   ·have p17:=fun{sc F} (r:PS sc F)=>p15<|sg 10 c14<|r
    rcases bG h with⟨c16,h⟩|⟨c16,h⟩
    ·have p19:=fun{sc F} (r:PS sc F)=>p17<|sg 14 c16<|r
     rcases bG h with⟨c18,h⟩|⟨c18,h⟩
     ·obtain⟨r20,br20,h⟩:=aJ h
      obtain⟨r21,br21,h⟩:=aJ h
      have p23:=fun{sc F} (r:PS sc F)=>p19<|sg 18 c18<|sv (cR r7.1 [])<|sv (cY 0 2 1)<|sv (xV.mk' (v:=pC) jV ([(lZ 0 [0,2,1])]:List j0) 1 (by kernel_rfl))<|d7 (fa br20)<|d7 (lc br21)<|r
      rcases bG h with⟨c22,h⟩|⟨c22,h⟩
      ·obtain⟨r24,br24,h⟩:=aJ h
       have p26:=fun{sc F} (r:PS sc F)=>p23<|sg 25 c22<|sv (cR r7.1 [])<|d7 (lj br24)<|r
       rcases bG h with⟨c25,h⟩|⟨c25,h⟩
       ·have p28:=fun{sc F} (r:PS sc F)=>p26<|sg 30 c25<|ke (fW.ln r9.1)<|r
        rcases bG h with⟨c27,h⟩|⟨c27,h⟩
        ·have p30:=fun{sc F} (r:PS sc F)=>p28<|sg 35 c27<|r
         rcases bG h with⟨c29,h⟩|⟨c29,h⟩
         ·obtain⟨r31,br31,h⟩:=aJ h
          have p33:=fun{sc F} (r:PS sc F)=>p30<|sg 39 c29<|sv (cR r7.1 [])<|d7 (cD br31)<|r
          rcases bG h with⟨c32,h⟩|⟨c32,h⟩
          ·obtain⟨r34,br34,h⟩:=aJ h
           obtain⟨r35,br35,h⟩:=aJ h
           obtain rfl:=lf h
           have z:=p33<|sg 44 c32<|sv (cY 0 6 0)<|sv (xV.mk' (v:=pC) jV ([(lZ 0 [0,6,0])]:List j0) 1 (by kernel_rfl))<|d7 (fa br34)<|d7 (cD br35)<|en (aI (rP (.bool (r35==2)))<|trivial)
           exact cW B4 call16 func16 (c:=Cg) rfl trivial z<|by kernel_rfl
          ·obtain rfl:=lf h
           have z:=p33<|sg 44 c32<|en (aI (rP (.bool false))<|trivial)
           exact cW B4 call16 func16 (c:=Cg) rfl trivial z<|by kernel_rfl
         ·obtain rfl:=lf h
          have z:=p30<|sg 39 c29<|en (aI (rP (.bool false))<|trivial)
          exact cW B4 call16 func16 (c:=Cg) rfl trivial z<|by kernel_rfl
        ·obtain rfl:=lf h
         have z:=p28<|sg 35 c27<|en (aI (rP (.bool false))<|trivial)
         exact cW B4 call16 func16 (c:=Cg) rfl trivial z<|by kernel_rfl
       ·obtain rfl:=lf h
        have z:=p26<|sg 30 c25<|en (aI (rP (.bool false))<|trivial)
        exact cW B4 call16 func16 (c:=Cg) rfl trivial z<|by kernel_rfl
      ·obtain rfl:=lf h
       have z:=p23<|sg 25 c22<|en (aI (rP (.bool false))<|trivial)
       exact cW B4 call16 func16 (c:=Cg) rfl trivial z<|by kernel_rfl
     ·obtain rfl:=lf h
      have z:=p19<|sg 18 c18<|en (aI (rP (.bool false))<|trivial)
      exact cW B4 call16 func16 (c:=Cg) rfl trivial z<|by kernel_rfl
    ·obtain rfl:=lf h
     have z:=p17<|sg 14 c16<|en (aI (rP (.bool false))<|trivial)
     exact cW B4 call16 func16 (c:=Cg) rfl trivial z<|by kernel_rfl
   ·obtain rfl:=lf h
    have z:=p15<|sg 10 c14<|en (aI (rP (.bool false))<|trivial)
    exact cW B4 call16 func16 (c:=Cg) rfl trivial z<|by kernel_rfl
  ·obtain rfl:=lf h
   have z:=p13<|sg 6 c12<|en (aI (rP (.bool false))<|trivial)
   exact cW B4 call16 func16 (c:=Cg) rfl trivial z<|by kernel_rfl
 ·obtain rfl:=lf h
  have z:=p11<|sg 2 c10<|en (aI (rP (.bool false))<|trivial)
  exact cW B4 call16 func16 (c:=Cg) rfl trivial z<|by kernel_rfl
open Go
section
variable(s:ah)(t7:Int)(out:waC)(begin:Int)(t8:Int)
def iE:Option ((waC×Int×Int)⊕((waC×Int))):=
 if(decide (t8<t7))=true then
  (gQ s t8).bind fun c2=>
  if(c2==46)=true then
   (zp s (some begin) (some t8)).bind fun s5=>
   (app out ([s5]:List ah)).bind fun l6=>
   some (.inl (l6,bN (t8+1),bN (t8+1)))
  else
   some (.inl (out,begin,bN (t8+1)))
 else
  some (.inr (out,begin))
def qX:Option ((waC×Int)):=loop (fun(zz:waC×Int×Int)=>iE s t7 zz.1 zz.2.1 zz.2.2) (out,begin,t8)
end
def sh(s:ah):Option waC:=
 (qX s (s.length:Int) ([]:List ah) 0 0).bind fun o7=>
 (zp s (some o7.2) none).bind fun s8=>
 (app o7.1 ([s8]:List ah)).bind fun l9=>
 some l9
def ik(c:Int):Option Bool:=
 if(decide (c>=97))=true then
  some (decide (c<=122))
 else
  some false
def qV:Option waC:=
 some ([([97,110,100]:ah),([97,115,115,117,109,101]:ah),([98,111,111,108]:ah),([98,111,117,110,100]:ah),([99,97,115,101]:ah),([99,101,108,108]:ah),([99,108,97,115,115]:ah),([100,97,116,97]:ah),([100,101,102]:ah),([100,105,118]:ah),([101,108,115,101]:ah),([101,110,100]:ah),([102,97,108,115,101]:ah),([102,111,114,97,108,108]:ah),([102,117,110]:ah),([103,101,116]:ah),([105,102]:ah),([105,110]:ah),([105,110,115,116]:ah),([105,110,116]:ah),([105,110,118,97,114,105,97,110,116]:ah),([108,101,116]:ah),([109,97,116,99,104]:ah),([109,101,97,115,117,114,101]:ah),([109,101,116,114,105,99]:ah),([109,111,100]:ah),([109,117]:ah),([110,101,119]:ah),([110,111,116]:ah),([111,102]:ah),([111,114]:ah),([113,117,97,108]:ah),([114,101,102,108,101,99,116]:ah),([115,101,116]:ah),([116,104,101,110]:ah),([116,114,117,101]:ah),([117,115,101]:ah),([118]:ah),([118,97,108]:ah),([116,97,103]:ah),([119,104,101,114,101]:ah),([119,105,116,104]:ah)]:List ah)
section
variable(v:waC)(s:ah)(t7:Int)(t8:Int)
def jp:Option (Int⊕(Int⊕(Unit))):=
 if(decide (t8<t7))=true then
  (d9 v t8).bind fun x2=>
  if(x2==s)=true then
   some (.inr (.inl t8))
  else
   some (.inl (bN (t8+1)))
 else
  some (.inr (.inr ()))
def te:Option (Int⊕(Unit)):=loop (fun(zz:Int)=>jp v s t7 zz) t8
end
def ug(a:waC)(s:ah):Option Int:=
 (te a s (a.length:Int) 0).bind fun o5=>match o5 with
 |(.inl o5)=>
  some o5
 |(.inr o5)=>
  some (-1)
def oM(s:ah):Option Bool:=
 qV.bind fun r1=>
 (ug r1 s).bind fun r2=>
 some (decide (r2>=0))
def kw(c:Int):Option Bool:=
 if(decide (c>=48))=true then
  some (decide (c<=57))
 else
  some false
section
variable(s:ah)
def nf:Option Bool:=
 if(decide ((s.length:Int)<1))=true then
  some true
 else
  if(decide ((s.length:Int)>24))=true then
   some true
  else
   (gQ s 0).bind fun c4=>
   (ik c4).bind fun r5=>
   if(!r5)=true then
    some true
   else
    (oM s).bind fun r8=>
    some r8
end
section
variable(s:ah)(i:Int)(t23:Int)
def ng:Option Bool:=
 (gQ s i).bind fun c13=>
 (ik c13).bind fun r14=>
 if(!r14)=true then
  (gQ s i).bind fun c17=>
  (kw c17).bind fun r18=>
  if(!r18)=true then
   (gQ s i).bind fun c21=>
   some (c21 !=95)
  else
   some false
 else
  some false
end
section
variable(s:ah)(t23:Int)(t24:Int)
def iC:Option (Int⊕(Unit⊕(Unit))):=
 if(decide (t24<t23))=true then
  (ng s t24).bind fun o22=>
  if o22=true then
   some (.inr (.inl ()))
  else
   some (.inl (bN (t24+1)))
 else
  some (.inr (.inr ()))
def nh:Option (Unit⊕(Unit)):=loop (fun(zz:Int)=>iC s t23 zz) t24
end
def sa(s:ah):Option Int:=
 (nf s).bind fun o9=>
 if o9=true then
  some 3
 else
  (nh s (s.length:Int) 0).bind fun o25=>match o25 with
  |(.inl o25)=>
   some 3
  |(.inr o25)=>
   some 0
def jI(c:Int):Option Bool:=
 if(decide (c>=65))=true then
  some (decide (c<=90))
 else
  some false
section
variable(s:ah)
def ni:Option Bool:=
 if(decide ((s.length:Int)<1))=true then
  some true
 else
  if(decide ((s.length:Int)>24))=true then
   some true
  else
   (gQ s 0).bind fun c4=>
   (jI c4).bind fun r5=>
   if(!r5)=true then
    some true
   else
    if(s==([73,110,116]:ah))=true then
     some true
    else
     if(s==([66,111,111,108]:ah))=true then
      some true
     else
      if(s==([67,101,108,108]:ah))=true then
       some true
      else
       some (s==([70,117,110]:ah))
end
section
variable(s:ah)(i:Int)(t35:Int)
def nj:Option Bool:=
 (gQ s i).bind fun c18=>
 (ik c18).bind fun r19=>
 if(!r19)=true then
  (gQ s i).bind fun c22=>
  (jI c22).bind fun r23=>
  if(!r23)=true then
   (gQ s i).bind fun c26=>
   (kw c26).bind fun r27=>
   some (!r27)
  else
   some false
 else
  some false
end
section
variable(s:ah)(t35:Int)(t36:Int)
def iD:Option (Int⊕(Unit⊕(Unit))):=
 if(decide (t36<t35))=true then
  (nj s t36).bind fun o28=>
  if o28=true then
   some (.inr (.inl ()))
  else
   some (.inl (bN (t36+1)))
 else
  some (.inr (.inr ()))
def nk:Option (Unit⊕(Unit)):=loop (fun(zz:Int)=>iD s t35 zz) t36
end
def sd(s:ah):Option Int:=
 (ni s).bind fun o14=>
 if o14=true then
  some 3
 else
  (nk s (s.length:Int) 0).bind fun o31=>match o31 with
  |(.inl o31)=>
   some 3
  |(.inr o31)=>
   some 0
section
variable(p:ah)
def tf:Option Bool:=
 if(decide ((p.length:Int)<1))=true then
  some true
 else
  some (decide ((p.length:Int)>24))
end
section
variable(p:ah)(plain:Bool)(word:Bool)(i:Int)(t18:Int)
def oN:Option Bool:=
 if plain=true then
  (gQ p i).bind fun c9=>
  (ik c9).bind fun r10=>
  if r10=true then
   some true
  else
   (gQ p i).bind fun c13=>
   (jI c13).bind fun r14=>
   if r14=true then
    some true
   else
    (gQ p i).bind fun c17=>
    (kw c17).bind fun r18=>
    some r18
 else
  some false
end
section
variable(p:ah)(t18:Int)(plain:Bool)(word:Bool)(t19:Int)
def jq:Option ((Bool×Bool×Int)⊕((Bool×Bool))):=
 if (decide (t19 < t18)) = true then
  (oN p plain t19).bind fun o19=>
  if word=true then
   (gQ p t19).bind fun c22=>
   (ik c22).bind fun r23=>
   if r23=true then
    some (.inl (o19,true,bN (t19+1)))
   else
    (gQ p t19).bind fun c26=>
    (kw c26).bind fun r27=>
    if r27=true then
     some (.inl (o19,true,bN (t19+1)))
    else
     (gQ p t19).bind fun c30=>
     some (.inl (o19,c30==95,bN (t19+1)))
  else
   some (.inl (o19,false,bN (t19+1)))
 else
  some (.inr (plain,word))
def oO:Option ((Bool×Bool)):=loop (fun(zz:Bool×Bool×Int)=>jq p t18 zz.1 zz.2.1 zz.2.2) (plain,word,t19)
end
def ui(p:ah):Option Bool:=
 (tf p).bind fun o2=>
 if o2=true then
  some false
 else
  (gQ p 0).bind fun c5=>
  (ik c5).bind fun r6=>
  (oO p (p.length:Int) true r6 0).bind fun o31=>
  if o31.1=true then
   some true
  else
   some o31.2
section
variable(v:waC)
def oL:Option Bool:=
 (d9 v 0).bind fun x3=>
 (sa x3).bind fun r4=>
 if (r4 != 0) = true then
  (d9 v 0).bind fun x7=>
  (sd x7).bind fun r8=>
  if(r8 !=0)=true then
   (d9 v 0).bind fun x11=>
   if(!(x11==([118]:ah)))=true then
    some true
   else
    some ((v.length:Int)==1)
  else
   some false
 else
  some false
end
section
variable(t35:waC)(t36:Int)(t37:Int)
def jo:Option (Int⊕(Unit⊕(Unit))):=
 if(decide (t37<t36))=true then
  (d9 t35 t37).bind fun x19=>
  (ui x19).bind fun r20=>
  if(!r20)=true then
   some (.inr (.inl ()))
  else
   some (.inl (bN (t37+1)))
 else
  some (.inr (.inr ()))
def tc:Option (Unit⊕(Unit)):=loop (fun(zz:Int)=>jo t35 t36 zz) t37
end
def qU(s:ah):Option Int:=
 if(decide ((s.length:Int)>120))=true then
  some 3
 else
  (sh s).bind fun r2=>
  (oL r2).bind fun o14=>
  if o14=true then
   some 3
  else
   (zp r2 (some 1) none).bind fun l17=>
   (tc l17 (l17.length:Int) 0).bind fun o23=>match o23 with
   |(.inl o23)=>
    some 3
   |(.inr o23)=>
    some 0
def kJ(a:ag)(a2:ag):Option Bool:=
 if(decide (a.From<a2.From))=true then
  some true
 else
  if(a.From==a2.From)=true then
   some (decide (a.To<a2.To))
  else
   some false
section
variable(g:aa)
def nl:Option Bool:=
 (qU g.Caller).bind fun r1=>
 if(r1 !=0)=true then
  some true
 else
  (qU g.Callee).bind fun r4=>
  some (r4 !=0)
end
section
variable(g:aa)(i:Int)(t18:waB)(t19:Int)(m:Int)(m2:Int)(m3:Bool)
def nm:Option Bool:=
 if(decide (m<0))=true then
  some true
 else
  if(decide (m>=6))=true then
   some true
  else
   if(decide (m2<0))=true then
    some true
   else
    some (decide (m2>=6))
end
section
variable(g:aa)(i:Int)(t18:waB)(t19:Int)(t46:waB)(t47:Int)(t48:Int)(m:Int)(m2:Int)(m3:Bool)(m4:Int)(m5:Int)(m6:Bool)
def ki:Option Bool:=
 if(m==m4)=true then
  some (m2==m5)
 else
  some false
end
section
variable(g:aa)(i:Int)(t18:waB)(t19:Int)(t46:waB)(t47:Int)(m:Int)(m2:Int)(m3:Bool)(t48:Int)
def um:Option (Int⊕(Unit⊕(Unit))):=
 if(decide (t48<t47))=true then
  (d9 t46 t48).bind fun x20=>
  (ki m m2 x20.From x20.To).bind fun o23=>
  if o23=true then
   some (.inr (.inl ()))
  else
   some (.inl (bN (t48+1)))
 else
  some (.inr (.inr ()))
def np:Option (Unit⊕(Unit)):=loop (fun(zz:Int)=>um t46 t47 m m2 zz) t48
end
section
variable(g:aa)(i:Int)(t18:waB)(t19:Int)(m:Int)(m2:Int)(m3:Bool)
def nn:Option Bool:=
 if(decide (i>0))=true then
  (d9 g.Arcs (bN (i - 1))).bind fun x28=>
  (kJ (⟨m,m2,m3⟩:ag) x28).bind fun r29=>
  some r29
 else
  some false
end
section
variable(g:aa)(t18:waB)(t19:Int)(t20:Int)
def iH:Option (Int⊕(Int⊕(Unit))):=
 if (decide (t20 < t19)) = true then
  (d9 t18 t20).bind fun x9=>
  (nm x9.From x9.To).bind fun o15=>
  if o15=true then
   some (.inr (.inl 2))
  else
   (zp g.Arcs none (some t20)).bind fun l18=>
   (np l18 (l18.length:Int) x9.From x9.To 0).bind fun o26=>match o26 with
   |(.inl o26)=>
    some (.inr (.inl 4))
   | (.inr o26) =>
    (nn g t20 x9.From x9.To x9.Strict).bind fun o30=>
    if o30=true then
     some (.inr (.inl 9))
    else
     some (.inl (bN (t20+1)))
 else
  some (.inr (.inr ()))
def iG:Option (Int⊕(Unit)):=loop (fun(zz:Int)=>iH g t18 t19 zz) t20
end
def mw(g:aa):Option Int:=
 (nl g).bind fun o5=>
 if o5=true then
  some 3
 else
  (iG g g.Arcs (g.Arcs.length:Int) 0).bind fun o33=>match o33 with
  |(.inl o33)=>
   some o33
  |(.inr o33)=>
   some 0
section
variable(v:aa)(v2:aa)
def tg:Option Bool:=
 if(!(v.Caller==v2.Caller))=true then
  some true
 else
  if(!(v.Callee==v2.Callee))=true then
   some true
  else
   some ((v.Arcs.length:Int)!=(v2.Arcs.length:Int))
end
section
variable(v:aa)(v2:aa)(t29:Int)(t30:Int)
def qa:Option (Int⊕(Unit⊕(Unit))):=
 if(decide (t30<t29))=true then
  (d9 v.Arcs t30).bind fun x9=>
  (d9 v2.Arcs t30).bind fun x10=>
  if(!(kn x9 x10))=true then
   some (.inr (.inl ()))
  else
   some (.inl (bN (t30+1)))
 else
  some (.inr (.inr ()))
def th:Option (Unit⊕(Unit)):=loop (fun(zz:Int)=>qa v v2 t29 zz) t30
end
def oQ(a:aa)(a2:aa):Option Bool:=
 (tg a a2).bind fun o5=>
 if o5=true then
  some false
 else
  (th a a2 (a.Arcs.length:Int) 0).bind fun o13=>match o13 with
  |(.inl o13)=>
   some false
  |(.inr o13)=>
   some true
noncomputable def b3:Code:=Tryd.f3.body.getD .skip
section
variable(v:Int)(to:Int)(v2:aa)(found:Bool)(t20:waB)(t21:Int)(t22:Int)(t27:waB)(t28:Int)(t29:Int)(m:Bool)(m2:Int)(m3:Int)(m4:Bool)(m5:Int)(m6:Int)(m7:Bool)
def nq:Option Bool:=
 if(m2==v)=true then
  if(m3==m5)=true then
   some (m6==to)
  else
   some false
 else
  some false
end
section
variable(v:Int)(to:Int)(v2:aa)(t20:waB)(t21:Int)(t22:Int)(t27:waB)(t28:Int)(m2:Int)(m3:Int)(m4:Bool)(found:Bool)(t29:Int)(m:Bool)
def qZ:Option ((Bool×Int×Bool)⊕((Bool×Bool))):=
 if (decide (t29 < t28)) = true then
  (d9 t27 t29).bind fun x4=>
  (nq v to m2 m3 x4.From x4.To).bind fun o8=>
  if o8=true then
   if m=true then
    some (.inl (true,bN (t29+1),true))
   else
    if m4=true then
     some (.inl (true,bN (t29+1),true))
    else
     some (.inl (true,bN (t29+1),x4.Strict))
  else
   some (.inl (found,bN (t29+1),m))
 else
  some (.inr (found,m))
def nr:Option ((Bool×Bool)):=loop (fun(zz:Bool×Int×Bool)=>qZ v to t27 t28 m2 m3 m4 zz.1 zz.2.1 zz.2.2) (found,t29,m)
end
section
variable(v:Int)(to:Int)(v2:aa)(t20:waB)(t21:Int)(found:Bool)(t22:Int)(m:Bool)
def qY:Option ((Bool×Int×Bool)⊕((Bool×Bool))):=
 if(decide (t22<t21))=true then
  (d9 t20 t22).bind fun x2=>
  (nr v to v2.Arcs (v2.Arcs.length:Int) x2.From x2.To x2.Strict found 0 m).bind fun o15=>
  some (.inl (o15.1,bN (t22+1),o15.2))
 else
  some (.inr (found,m))
def uo:Option ((Bool×Bool)):=loop (fun(zz:Bool×Int×Bool)=>qY v to v2 t20 t21 zz.1 zz.2.1 zz.2.2) (found,t22,m)
end
def w9(a:aa)(a2:aa)(a3:Int)(to:Int):Option (ag×Bool):=
 (uo a3 to a2 a.Arcs (a.Arcs.length:Int) false 0 false).bind fun o16=>
 some ((⟨a3,to,o16.2⟩:ag),o16.1)
section
variable(v:aa)(v2:aa)(v3:Int)(m:waB)(m2:ah)(m3:ah)(t39:Int)(m4:waB)
def gB:Option ((Int×waB)⊕(waB)):=
 if(decide (t39<6))=true then
  (w9 v v2 v3 t39).bind fun r11=>
  if r11.2=true then
   (app m4 ([r11.1]:List ag)).bind fun l14=>
   some (.inl (bN (t39+1),l14))
  else
   some (.inl (bN (t39+1),m4))
 else
  some (.inr m4)
def ul:Option waB:=loop (fun(zz:Int×waB)=>gB v v2 v3 zz.1 zz.2) (t39,m4)
end
section
variable(v:aa)(v2:aa)(m:waB)(m2:ah)(m3:ah)(t36:Int)(m4:waB)
def gA:Option ((Int×waB)⊕(waB)):=
 if(decide (t36<6))=true then
  (ul v v2 t36 0 m4).bind fun o15=>
  some (.inl (bN (t36+1),o15))
 else
  some (.inr m4)
def oP:Option waB:=loop (fun(zz:Int×waB)=>gA v v2 zz.1 zz.2) (t36,m4)
end
def il(a:aa)(a2:aa):Option (aa×Int):=
 (mw a).bind fun r1=>
 if(r1 !=0)=true then
  some ((⟨([]:ah),([]:ah),([]:List ag)⟩:aa),r1)
 else
  (mw a2).bind fun r4=>
  if(r4 !=0)=true then
   some ((⟨([]:ah),([]:ah),([]:List ag)⟩:aa),r4)
  else
   if(!(a.Callee==a2.Caller))=true then
    some ((⟨([]:ah),([]:ah),([]:List ag)⟩:aa),6)
   else
    (oP a a2 0 ([]:List ag)).bind fun o16=>
    some ((⟨a.Caller,a2.Callee,o16⟩:aa),0)
section
variable(v:aa)(v2:aa)(t30:Int)(t31:Int)(m:Int)(m2:Int)(m3:Bool)(m4:Int)(m5:Int)(m6:Bool)
def oS:Option Bool:=
 (kJ (⟨m,m2,m3⟩:ag) (⟨m4,m5,m6⟩:ag)).bind fun r10=>
 if r10=true then
  some true
 else
  (kJ (⟨m4,m5,m6⟩:ag) (⟨m,m2,m3⟩:ag)).bind fun r13=>
  some r13
end
section
variable(v:aa)(v2:aa)(t30:Int)(t31:Int)
def gU:Option (Int⊕(Bool⊕(Unit))):=
 if (decide (t31 < t30)) = true then
  if(decide (t31>=(v2.Arcs.length:Int)))=true then
   some (.inr (.inl false))
  else
   (d9 v.Arcs t31).bind fun x8=>
   (d9 v2.Arcs t31).bind fun x9=>
   (oS x8.From x8.To x8.Strict x9.From x9.To x9.Strict).bind fun o14=>
   if o14=true then
    (kJ x8 x9).bind fun r17=>
    some (.inr (.inl r17))
   else
    if(!(x8.Strict==x9.Strict))=true then
     some (.inr (.inl (!x8.Strict)))
    else
     some (.inl (bN (t31+1)))
 else
  some (.inr (.inr ()))
def fY:Option (Bool⊕(Unit)):=loop (fun(zz:Int)=>gU v v2 t30 zz) t31
end
def uq(a:aa)(a2:aa):Option Bool:=
 if(!(a.Caller==a2.Caller))=true then
  some (Op.bytesLess a.Caller a2.Caller)
 else
  if(!(a.Callee==a2.Callee))=true then
   some (Op.bytesLess a.Callee a2.Callee)
  else
   (fY a a2 (a.Arcs.length:Int) 0).bind fun o20=>match o20 with
   |(.inl o20)=>
    some o20
   |(.inr o20)=>
    some (decide ((a.Arcs.length:Int)<(a2.Arcs.length:Int)))
section
variable(v:waA)(g:aa)(i:Int)
def kK:Option Bool:=
 if(decide (i<(v.length:Int)))=true then
  (d9 v i).bind fun x3=>
  (uq x3 g).bind fun r4=>
  some r4
 else
  some false
end
section
variable(v:waA)(g:aa)(i:Int)
def kl:Option (Int⊕(Int)):=
 (kK v g i).bind fun o5=>
 if o5=true then
  some (.inl (bN (i+1)))
 else
  some (.inr i)
def jh:Option Int:=loop (fun(zz:Int)=>kl v g zz) i
end
section
variable(v:waA)(g:aa)(i:Int)
def qu:Option Bool:=
 if(decide (i<(v.length:Int)))=true then
  (d9 v i).bind fun x11=>
  (oQ x11 g).bind fun r12=>
  some r12
 else
  some false
end
def tT(a:waA)(g:aa):Option waA:=
 (jh a g 0).bind fun o8=>
 (qu a g o8).bind fun o13=>
 if o13=true then
  some a
 else
  (zp a none (some o8)).bind fun l16=>
  (app ([]:List aa) l16).bind fun l17=>
  (app l17 ([g]:List aa)).bind fun l18=>
  (zp a (some o8) none).bind fun l19=>
  (app l18 l19).bind fun l20=>
  some l20
section
variable(t18:waA)(t19:Int)(out:waA)(t20:Int)
def eE:Option ((waA×Int)⊕((waA×Int)⊕(waA))):=
 if(decide (t20<t19))=true then
  (d9 t18 t20).bind fun x2=>
  (mw x2).bind fun r3=>
  if(r3 !=0)=true then
   some (.inr (.inl (([]:List aa),r3)))
  else
   (tT out x2).bind fun r6=>
   some (.inl (r6,bN (t20+1)))
 else
  some (.inr (.inr out))
def db:Option ((waA×Int)⊕(waA)):=loop (fun(zz:waA×Int)=>eE t18 t19 zz.1 zz.2) (out,t20)
end
section
variable(out:waA)(todo:waA)(first:waA)
def kE:Option Bool:=
 if(decide ((todo.length:Int)>0))=true then
  some (decide ((out.length:Int)<=400))
 else
  some false
end
section
variable(out:waA)(first:waA)(v:waA)(e:Int)(t43:waA)(t44:Int)(t45:Int)(t50:Int)(t51:Int)(m:ah)(m2:ah)(m3:waB)(m4:ah)(m5:ah)(m6:waB)(m7:ah)(m8:ah)(m9:waB)
def fX:Option Bool:=
 if(e !=0)=true then
  some true
 else
  some (decide ((out.length:Int)>400))
end
section
variable(first:waA)(t43:waA)(t44:Int)(t45:Int)(t50:Int)(m:ah)(m2:ah)(m3:waB)(out:waA)(v:waA)(t51:Int)
def gz:Option ((waA×waA×Int)⊕((waA×waA))):=
 if (decide (t51 < t50)) = true then
  (d9 first t51).bind fun x15=>
  (il (⟨m,m2,m3⟩:aa) x15).bind fun r16=>
  (fX out r16.2).bind fun o18=>
  if o18=true then
   some (.inl (out,v,bN (t51+1)))
  else
   (tT out r16.1).bind fun r21=>
   if(decide ((r21.length:Int)>(out.length:Int)))=true then
    (app v ([r16.1]:List aa)).bind fun l24=>
    some (.inl (r21,l24,bN (t51+1)))
   else
    some (.inl (r21,v,bN (t51+1)))
 else
  some (.inr (out,v))
def kH:Option ((waA×waA)):=loop (fun(zz:waA×waA×Int)=>gz first t50 m m2 m3 zz.1 zz.2.1 zz.2.2) (out,v,t51)
end
section
variable(first:waA)(t43:waA)(t44:Int)(out:waA)(v:waA)(t45:Int)
def gy:Option ((waA×waA×Int)⊕((waA×waA))):=
 if(decide (t45<t44))=true then
  (d9 t43 t45).bind fun x13=>
  (kH first (first.length:Int) x13.Caller x13.Callee x13.Arcs out v 0).bind fun o25=>
  some (.inl (o25.1,o25.2,bN (t45+1)))
 else
  some (.inr (out,v))
def kG:Option ((waA×waA)):=loop (fun(zz:waA×waA×Int)=>gy first t43 t44 zz.1 zz.2.1 zz.2.2) (out,v,t45)
end
section
variable(first:waA)(out:waA)(todo:waA)
def jf:Option ((waA×waA)⊕(waA)):=
 (kE out todo).bind fun o9=>
 if o9=true then
  (kG first todo (todo.length:Int) out ([]:List aa) 0).bind fun o26=>
  some (.inl (o26.1,o26.2))
 else
  some (.inr out)
def kF:Option waA:=loop (fun(zz:waA×waA)=>jf first zz.1 zz.2) (out,todo)
end
def ee(a:waA):Option (waA×Int):=
 (db a (a.length:Int) ([]:List aa) 0).bind fun o7=>match o7 with
 |(.inl o7)=>
  some (o7.1,o7.2)
 | (.inr o7) =>
  (kF o7 o7 o7).bind fun o27=>
  if(decide ((o27.length:Int)>400))=true then
   some (([]:List aa),7)
  else
   some (o27,0)
section
variable(t6:waB)(t7:Int)(t8:Int)(m:Int)(m2:Int)(m3:Bool)
def kj:Option Bool:=
 if(m==m2)=true then
  some m3
 else
  some false
end
section
variable(t6:waB)(t7:Int)(t8:Int)
def oR:Option (Int⊕(Unit⊕(Unit))):=
 if(decide (t8<t7))=true then
  (d9 t6 t8).bind fun x2=>
  (kj x2.From x2.To x2.Strict).bind fun o5=>
  if o5=true then
   some (.inr (.inl ()))
  else
   some (.inl (bN (t8+1)))
 else
  some (.inr (.inr ()))
def q5:Option (Unit⊕(Unit)):=loop (fun(zz:Int)=>oR t6 t7 zz) t8
end
def pE(g:aa):Option Bool:=
 (q5 g.Arcs (g.Arcs.length:Int) 0).bind fun o8=>match o8 with
 |(.inl o8)=>
  some true
 |(.inr o8)=>
  some false
section
variable(f:Int)(t18:waA)(t19:Int)(t20:Int)(m:ah)(m2:ah)(m3:waB)(m4:ah)(m5:ah)(m6:waB)
def fP:Option Bool:=
 if(f==0)=true then
  (oQ (⟨m4,m5,m6⟩:aa) (⟨m,m2,m3⟩:aa)).bind fun r7=>
  if r7=true then
   (pE (⟨m,m2,m3⟩:aa)).bind fun r10=>
   some (!r10)
  else
   some false
 else
  some false
end
section
variable(t18:waA)(t19:Int)(t20:Int)
def j6:Option (Int⊕(Unit⊕(Unit))):=
 if(decide (t20<t19))=true then
  (d9 t18 t20).bind fun x4=>
  (il x4 x4).bind fun r5=>
  (fP r5.2 x4.Caller x4.Callee x4.Arcs r5.1.Caller r5.1.Callee r5.1.Arcs).bind fun o11=>
  if o11=true then
   some (.inr (.inl ()))
  else
   some (.inl (bN (t20+1)))
 else
  some (.inr (.inr ()))
def iF:Option (Unit⊕(Unit)):=loop (fun(zz:Int)=>j6 t18 t19 zz) t20
end
def kI(a:waA):Option (Bool×Int):=
 (ee a).bind fun r1=>
 if(r1.2 !=0)=true then
  some (false,r1.2)
 else
  (iF r1.1 (r1.1.length:Int) 0).bind fun o14=>match o14 with
  |(.inl o14)=>
   some (false,0)
  |(.inr o14)=>
   some (true,0)
noncomputable def b8:Code:=Tryd.f8.body.getD .skip
def A8:List Nat:=[]
section
variable(v:waA)
def lW:ak:=da 114 [(0,sl ae v)] [] []
def eo(o:Bool):ak:=da 114 [(0,sl ae v),(19,.bool o)] [] []
def dw:Option Bool:=
 (tU 4 v).bind fun r1=>
 if(!r1)=true then
  some true
 else
  some ((v.length:Int)==0)
theorem lq{x:Bool}(h:dw v=some x):aQ Pg GE 0 (cA b8 12) (EX .normal (eo v x)) (lW v):=by
 obtain⟨r1,br1,h⟩:=aJ h
 rcases bG h with⟨c2,h⟩|⟨c2,h⟩
 ·obtain rfl:=lf h
  exact jZ A8 (d7 (ut br1)<|sg 4 c2<|eF .normal (eo v true))<|by kernel_rfl
 ·obtain rfl:=lf h
  exact jZ A8 (d7 (ut br1)<|sg 4 c2<|ke (fW.ln v)<|eF .normal (eo v ((v.length:Int)==0)))<|by kernel_rfl
end
section
variable(v:waA)(all:Bool)(empty:Bool)(t22:Int)(t23:Int)(m:ah)(m2:ah)(m3:waB)
def lX:ak:=da 114 [(0,sl ae v),(3,.bool all),(4,.bool empty),(6,.bptr 0 0),(21,sl ae v),(22,.int .i64 t22),(23,.int .i64 t23)] [.cells [.str m,.str m2,sl am m3] []] []
def cX(o:Bool):ak:=da 114 [(0,sl ae v),(3,.bool all),(4,.bool empty),(6,.bptr 0 0),(21,sl ae v),(22,.int .i64 t22),(23,.int .i64 t23),(45,.bool o)] [.cells [.str m,.str m2,sl am m3] []] []
def cr:Option Bool:=
 (ba (⟨m,m2,m3⟩:aa)).bind fun r9=>
 if(r9 !=0)=true then
  some true
 else
  (d9 v 0).bind fun x12=>
  if(!(m==x12.Caller))=true then
   some true
  else
   some (!(m2==m))
theorem lr{x:Bool}(h:cr v m m2 m3=some x):aQ Pg GE 0 (cA b8 31724) (EX .normal (cX v all empty t22 t23 m m2 m3 x)) (lX v all empty t22 t23 m m2 m3):=by
 obtain⟨r9,br9,h⟩:=aJ h
 have p11:=fun{sc F} (r:PS sc F)=>Am [0,1,3,7,15,31,15,79,207,463,1023,2047,4095,8191,16383,8191,40959,131071,262143]<|sv (cR (⟨m,m2,m3⟩:aa) [])<|d7 (cD br9)<|r
 rcases bG h with⟨c10,h⟩|⟨c10,h⟩
 ·obtain rfl:=lf h
  exact jZ A8 (p11<|sg 4 c10<|eF .normal (cX v all empty t22 t23 m m2 m3 true))<|by kernel_rfl
 ·obtain⟨x12,bx12,h⟩:=aJ h
  have p14:=fun{sc F} (r:PS sc F)=>p11<|sg 4 c10<|ss<|sv (fW.ia (k:=.i64) bx12)<|sv (bB x12)<|sv (bR x12)<|r
  rcases bG h with⟨c13,h⟩|⟨c13,h⟩
  ·obtain rfl:=lf h
   exact jZ A8 (p14<|sg 13 c13<|eF .normal (cX v all empty t22 t23 m m2 m3 true))<|by kernel_rfl
  ·obtain rfl:=lf h
   exact jZ A8 (p14<|sg 13 c13<|ss<|ss<|eF .normal (cX v all empty t22 t23 m m2 m3 (!(m2==m))))<|by kernel_rfl
end
section
variable(v:waA)(all:Bool)(empty:Bool)(t22:Int)(t23:Int)(t48:waB)(t49:Int)(m:ah)(m2:ah)(falls:Bool)(t50:Int)
def aM:ak:=da 114 [(0,sl ae v),(3,.bool all),(4,.bool empty),(6,.bptr 0 0),(7,.bool falls),(21,sl ae v),(22,.int .i64 t22),(23,.int .i64 t23),(48,sl am t48),(49,.int .i64 t49),(50,.int .i64 t50)] [.cells [.str m,.str m2,sl am t48] []] []
def eu(o:Bool):ak:=da 114 [(0,sl ae v),(3,.bool all),(4,.bool empty),(6,.bptr 0 0),(7,.bool o),(21,sl ae v),(22,.int .i64 t22),(23,.int .i64 t23)] [.cells [.str m,.str m2,sl am t48] []] []
def er:Option ((Bool×Int)⊕(Bool)):=
 if (decide (t50 < t49)) = true then
  (d9 t48 t50).bind fun x20=>
  if falls=true then
   some (.inl (true,bN (t50+1)))
  else
   if(x20.From==0)=true then
    if(x20.To==0)=true then
     some (.inl (x20.Strict,bN (t50+1)))
    else
     some (.inl (false,bN (t50+1)))
   else
    some (.inl (false,bN (t50+1)))
 else
  some (.inr falls)
def dz:Option Bool:=loop (fun(zz:Bool×Int)=>er t48 t49 zz.1 zz.2) (falls,t50)
theorem kM{y:(Bool×Int)⊕(Bool)}(h:er t48 t49 falls t50=some y):aQ Pg GE 0 (cA b8 507639) (LQ (fun(zz:Bool×Int)=>aM v all empty t22 t23 t48 t49 m m2 zz.1 zz.2) (fun _=>.exit 2) (eu v all empty t22 t23 t48 m m2) y) (aM v all empty t22 t23 t48 t49 m m2 falls t50):=by
 rcases bG h with⟨c19,h⟩|⟨c19,h⟩
 ·obtain⟨x20,bx20,h⟩:=aJ h
  have p22:=fun{sc F} (r:PS sc F)=>sg 0 c19<|sv (gR.ia (k:=.i64) bx20)<|sv (jy x20)<|sx BP<|sx (mO x20)<|r
  rcases bG h with⟨c21,h⟩|⟨c21,h⟩
  ·obtain rfl:=lf h
   have z:=p22<|sg 2 c21<|tk 0 .normal (aM v all empty t22 t23 t48 t49 m m2 true (bN (t50+1))) rfl (eG (aI (up (au af v)) (aI trivial (aI trivial (aI (jU rfl) (aI trivial (aI (up (au af v)) (aI trivial (aI trivial (aI (up (au aA t48)) (aI trivial (aI trivial trivial)))))))))))) (aI (aI trivial (aI trivial (aI (up (au aA t48)) trivial))) trivial)
   exact gn (A:=A8) mixed z<|by kernel_rfl
  ·have p24:=fun{sc F} (r:PS sc F)=>p22<|sg 2 c21<|ss<|r
   rcases bG h with⟨c23,h⟩|⟨c23,h⟩
   ·have p26:=fun{sc F} (r:PS sc F)=>p24<|sg 6 c23<|ss<|r
    rcases bG h with⟨c25,h⟩|⟨c25,h⟩
    ·obtain rfl:=lf h
     have z:=p26<|sg 11 c25<|ss<|tk 0 .normal (aM v all empty t22 t23 t48 t49 m m2 x20.Strict (bN (t50+1))) rfl (eG (aI (up (au af v)) (aI trivial (aI trivial (aI (jU rfl) (aI trivial (aI (up (au af v)) (aI trivial (aI trivial (aI (up (au aA t48)) (aI trivial (aI trivial trivial)))))))))))) (aI (aI trivial (aI trivial (aI (up (au aA t48)) trivial))) trivial)
     exact gn (A:=A8) mixed z<|by kernel_rfl
    ·obtain rfl:=lf h
     have z:=p26<|sg 11 c25<|tk 0 .normal (aM v all empty t22 t23 t48 t49 m m2 false (bN (t50+1))) rfl (eG (aI (up (au af v)) (aI trivial (aI trivial (aI (jU rfl) (aI trivial (aI (up (au af v)) (aI trivial (aI trivial (aI (up (au aA t48)) (aI trivial (aI trivial trivial)))))))))))) (aI (aI trivial (aI trivial (aI (up (au aA t48)) trivial))) trivial)
     exact gn (A:=A8) mixed z<|by kernel_rfl
   ·obtain rfl:=lf h
    have z:=p24<|sg 6 c23<|tk 0 .normal (aM v all empty t22 t23 t48 t49 m m2 false (bN (t50+1))) rfl (eG (aI (up (au af v)) (aI trivial (aI trivial (aI (jU rfl) (aI trivial (aI (up (au af v)) (aI trivial (aI trivial (aI (up (au aA t48)) (aI trivial (aI trivial trivial)))))))))))) (aI (aI trivial (aI trivial (aI (up (au aA t48)) trivial))) trivial)
    exact gn (A:=A8) mixed z<|by kernel_rfl
 ·obtain rfl:=lf h
  have z:=sg 0 c19<|eF (.exit 2) (eu v all empty t22 t23 t48 m m2 falls)
  exact pO A8 (by intro hx;cases hx) z<|by kernel_rfl
theorem lu{x:Bool}(h:dz t48 t49 falls t50=some x):aQ Pg GE 0 (.loop (cA b8 507639)) (EX (.exit 2) (eu v all empty t22 t23 t48 m m2 x)) (aM v all empty t22 t23 t48 t49 m m2 falls t50):=
 aQ.loop (S:=fun(zz:Bool×Int)=>aM v all empty t22 t23 t48 t49 m m2 zz.1 zz.2) (ex:=(fun _=>.exit 2)) (s:=(falls,t50)) h fun zz y hy=>kM v all empty t22 t23 t48 t49 m m2 zz.1 zz.2 hy
end
section
variable(v:waA)(all:Bool)(empty:Bool)(falls:Bool)(t22:Int)(t23:Int)(m:ah)(m2:ah)(m3:waB)
def lY:ak:=da 114 [(0,sl ae v),(3,.bool all),(4,.bool empty),(6,.bptr 0 0),(7,.bool falls),(21,sl ae v),(22,.int .i64 t22),(23,.int .i64 t23)] [.cells [.str m,.str m2,sl am m3] []] []
def ep(o:Bool):ak:=da 114 [(0,sl ae v),(3,.bool o),(4,.bool empty),(6,.bptr 0 0),(21,sl ae v),(22,.int .i64 t22),(23,.int .i64 t23)] [.cells [.str m,.str m2,sl am m3] []] []
def dy:Option Bool:=
 if all=true then
  some falls
 else
  some false
theorem ls{x:Bool}(h:dy all falls=some x):aQ Pg GE 0 (cA b8 126910) (EX .normal (ep v empty t22 t23 m m2 m3 x)) (lY v all empty falls t22 t23 m m2 m3):=by
 rcases bG h with⟨c28,h⟩|⟨c28,h⟩
 ·obtain rfl:=lf h
  exact jZ A8 (sg 2 c28<|eF .normal (ep v empty t22 t23 m m2 m3 falls))<|by kernel_rfl
 ·obtain rfl:=lf h
  exact jZ A8 (sg 2 c28<|eF .normal (ep v empty t22 t23 m m2 m3 false))<|by kernel_rfl
end
section
variable(v:waA)(t22:Int)(all:Bool)(empty:Bool)(t23:Int)
def aZ:ak:=da 114 [(0,sl ae v),(3,.bool all),(4,.bool empty),(21,sl ae v),(22,.int .i64 t22),(23,.int .i64 t23)] [] []
def bO(o:Bool⊕(Bool×Bool)):Exit:=match o with
 |(.inl _)=>.ret
 |(.inr _)=>.exit 0
def a8(o:Bool⊕(Bool×Bool)):ak:=match o with
 |(.inl o)=>da 114 [(2,.bool o)] [] []
 |(.inr o)=>da 114 [(0,sl ae v),(3,.bool o.1),(4,.bool o.2)] [] []
def a7:Option ((Bool×Bool×Int)⊕(Bool⊕(Bool×Bool))):=
 if (decide (t23 < t22)) = true then
  (d9 v t23).bind fun x8=>
  (cr v x8.Caller x8.Callee x8.Arcs).bind fun o15=>
  if o15=true then
   gC.bind fun r18=>
   some (.inr (.inl r18))
  else
   (dz x8.Arcs (x8.Arcs.length:Int) false 0).bind fun o27=>
   (dy all o27).bind fun o29=>
   if empty=true then
    some (.inl (o29,true,bN (t23+1)))
   else
    some (.inl (o29,(x8.Arcs.length:Int)==0,bN (t23+1)))
 else
  some (.inr (.inr (all,empty)))
def aL:Option (Bool⊕(Bool×Bool)):=loop (fun(zz:Bool×Bool×Int)=>a7 v t22 zz.1 zz.2.1 zz.2.2) (all,empty,t23)
theorem kL{y:(Bool×Bool×Int)⊕(Bool⊕(Bool×Bool))}(h:a7 v t22 all empty t23=some y):aQ Pg GE 0 (cA b8 247) (LQ (fun(zz:Bool×Bool×Int)=>aZ v t22 zz.1 zz.2.1 zz.2.2) bO (a8 v) y) (aZ v t22 all empty t23):=by
 rcases bG h with⟨c7,h⟩|⟨c7,h⟩
 ·obtain⟨x8,bx8,h⟩:=aJ h
  obtain⟨o15,bo15,h⟩:=aJ h
  have p17:=fun{sc F} (r:PS sc F)=>sg 0 c7<|sv (fW.ia (k:=.i64) bx8)<|sv (cQ x8)<|sx vL<|sx (ig x8)<|vY 1<|iw (lr v all empty t22 t23 x8.Caller x8.Callee x8.Arcs bo15)<|r
  rcases bG h with⟨c16,h⟩|⟨c16,h⟩
  ·obtain⟨r18,br18,h⟩:=aJ h
   obtain rfl:=lf h
   have z:=p17<|sg 0 c16<|d7 (e9 br18)<|tk 0 (bO (.inl r18)) (a8 v (.inl r18)) rfl (eG (aI trivial trivial)) trivial
   exact nN (A:=A8) mixed (by intro hx;cases hx) z<|by kernel_rfl
  ·obtain⟨o27,bo27,h⟩:=aJ h
   obtain⟨o29,bo29,h⟩:=aJ h
   have p31:=fun{sc F} (r:PS sc F)=>p17<|sg 0 c16<|ss<|ke (gR.ln x8.Arcs)<|iw (lu v all empty t22 t23 x8.Arcs (x8.Arcs.length:Int) x8.Caller x8.Callee false 0 bo27)<|vY 0<|iw (ls v all empty o27 t22 t23 x8.Caller x8.Callee x8.Arcs bo29)<|r
   rcases bG h with⟨c30,h⟩|⟨c30,h⟩
   ·obtain rfl:=lf h
    have z:=p31<|sg 2 c30<|tk 0 .normal (aZ v t22 o29 true (bN (t23+1))) rfl (eG (aI (up (au af v)) (aI trivial (aI trivial (aI (up (au af v)) (aI trivial (aI trivial trivial))))))) trivial
    exact gn (A:=A8) mixed z<|by kernel_rfl
   ·obtain rfl:=lf h
    have z:=p31<|sg 2 c30<|ss<|ke (gR.ln x8.Arcs)<|tk 0 .normal (aZ v t22 o29 ((x8.Arcs.length:Int)==0) (bN (t23+1))) rfl (eG (aI (up (au af v)) (aI trivial (aI trivial (aI (up (au af v)) (aI trivial (aI trivial trivial))))))) trivial
    exact gn (A:=A8) mixed z<|by kernel_rfl
 ·obtain rfl:=lf h
  have z:=sg 0 c7<|eF (bO (.inr (all,empty))) (a8 v (.inr (all,empty)))
  exact pO A8 (by intro hx;cases hx) z<|by kernel_rfl
theorem gL{x:Bool⊕(Bool×Bool)}(h:aL v t22 all empty t23=some x):aQ Pg GE 0 (.loop (cA b8 247)) (EX (bO x) (a8 v x)) (aZ v t22 all empty t23):=
 aQ.loop (S:=fun(zz:Bool×Bool×Int)=>aZ v t22 zz.1 zz.2.1 zz.2.2) (ex:=bO) (s:=(all,empty,t23)) h fun zz y hy=>kL v t22 zz.1 zz.2.1 zz.2.2 hy
end
def gO (a:waA):Option Bool :=
 (dw a).bind fun o3=>
 if o3=true then
  gC.bind fun r6=>
  some r6
 else
  (aL a (a.length:Int) true false 0).bind fun o32=>match o32 with
  |(.inl o32)=>
   some o32
  | (.inr o32) =>
   (bh a).bind fun r33=>
   if (r33.2 != 0) = true then
    if(!r33.1)=true then
     if(r33.2==7)=true then
      gC.bind fun r40=>
      some r40
     else
      some false
    else
     some false
   else
    if (!o32.1) = true then
     if(!o32.2)=true then
      gC.bind fun r45=>
      some r45
     else
      if(!r33.1)=true then
       gC.bind fun r48=>
       some r48
      else
       some false
    else
     if r33.1=true then
      if(!o32.2)=true then
       gC.bind fun r53=>
       some r53
      else
       if(!r33.1)=true then
        gC.bind fun r56=>
        some r56
       else
        some false
     else
      some false
theorem nu{a:waA}{r:Bool}(h:gO a=some r):CC Pg GE 8 [sl ae a] (.bool r) []:=by
 obtain⟨o3,bo3,h⟩:=aJ h
 have p5:=fun{sc F} (r:PS sc F)=>vY 2<|iw (lq a bo3)<|r
 rcases bG h with⟨c4,h⟩|⟨c4,h⟩
 ·obtain⟨r6,br6,h⟩:=aJ h
  obtain rfl:=lf h
  have z:=p5<|sg 0 c4<|d7 (e9 br6)<|en (aI (rP (.bool r6))<|trivial)
  exact cW A8 call8 func8 (c:=b8) rfl (aI (au af a) trivial) z<|by kernel_rfl
 ·obtain⟨o32,bo32,h⟩:=aJ h
  rcases o32 with o32|o32
  ·obtain rfl:=lf h
   have z:=p5<|sg 0 c4<|ke (fW.ln a)<|iw (e:=.ret) (s1:=a8 a (.inl o32)) (gL a (a.length:Int) true false 0 bo32)<|en (aI (rP (.bool o32))<|trivial)
   exact cW A8 call8 func8 (c:=b8) rfl (aI (au af a) trivial) z<|by kernel_rfl
  ·obtain⟨r33,br33,h⟩:=aJ h
   have p35:=fun{sc F} (r:PS sc F)=>p5<|sg 0 c4<|ke (fW.ln a)<|iw (e:=.exit 0) (s1:=a8 a (.inr o32)) (gL a (a.length:Int) true false 0 bo32)<|d7 (ez br33)<|r
   rcases bG h with⟨c34,h⟩|⟨c34,h⟩
   ·have p37:=fun{sc F} (r:PS sc F)=>p35<|sg 0 c34<|r
    rcases bG h with⟨c36,h⟩|⟨c36,h⟩
    ·have p39:=fun{sc F} (r:PS sc F)=>p37<|sg 3 c36<|r
     rcases bG h with⟨c38,h⟩|⟨c38,h⟩
     ·obtain⟨r40,br40,h⟩:=aJ h
      obtain rfl:=lf h
      have z:=p39<|sg 7 c38<|d7 (e9 br40)<|en (aI (rP (.bool r40))<|trivial)
      exact cW A8 call8 func8 (c:=b8) rfl (aI (au af a) trivial) z<|by kernel_rfl
     ·obtain rfl:=lf h
      have z:=p39<|sg 7 c38<|en (aI (rP (.bool false))<|trivial)
      exact cW A8 call8 func8 (c:=b8) rfl (aI (au af a) trivial) z<|by kernel_rfl
    ·obtain rfl:=lf h
     have z:=p37<|sg 3 c36<|en (aI (rP (.bool false))<|trivial)
     exact cW A8 call8 func8 (c:=b8) rfl (aI (au af a) trivial) z<|by kernel_rfl
   ·have p42:=fun{sc F} (r:PS sc F)=>p35<|sg 0 c34<|r
    rcases bG h with⟨c41,h⟩|⟨c41,h⟩
    ·have p44:=fun{sc F} (r:PS sc F)=>p42<|sg 3 c41<|r
     rcases bG h with⟨c43,h⟩|⟨c43,h⟩
     ·obtain⟨r45,br45,h⟩:=aJ h
      obtain rfl:=lf h
      have z:=p44<|sg 9 c43<|d7 (e9 br45)<|en (aI (rP (.bool r45))<|trivial)
      exact cW A8 call8 func8 (c:=b8) rfl (aI (au af a) trivial) z<|by kernel_rfl
     ·have p47:=fun{sc F} (r:PS sc F)=>p44<|sg 9 c43<|r
      rcases bG h with⟨c46,h⟩|⟨c46,h⟩
      ·obtain⟨r48,br48,h⟩:=aJ h
       obtain rfl:=lf h
       have z:=p47<|sg 14 c46<|d7 (e9 br48)<|en (aI (rP (.bool r48))<|trivial)
       exact cW A8 call8 func8 (c:=b8) rfl (aI (au af a) trivial) z<|by kernel_rfl
      ·obtain rfl:=lf h
       have z:=p47<|sg 14 c46<|en (aI (rP (.bool false))<|trivial)
       exact cW A8 call8 func8 (c:=b8) rfl (aI (au af a) trivial) z<|by kernel_rfl
    ·have p50:=fun{sc F} (r:PS sc F)=>p42<|sg 3 c41<|r
     rcases bG h with⟨c49,h⟩|⟨c49,h⟩
     ·have p52:=fun{sc F} (r:PS sc F)=>p50<|sg 6 c49<|r
      rcases bG h with⟨c51,h⟩|⟨c51,h⟩
      ·obtain⟨r53,br53,h⟩:=aJ h
       obtain rfl:=lf h
       have z:=p52<|sg 9 c51<|d7 (e9 br53)<|en (aI (rP (.bool r53))<|trivial)
       exact cW A8 call8 func8 (c:=b8) rfl (aI (au af a) trivial) z<|by kernel_rfl
      ·have p55:=fun{sc F} (r:PS sc F)=>p52<|sg 9 c51<|r
       rcases bG h with⟨c54,h⟩|⟨c54,h⟩
       ·obtain⟨r56,br56,h⟩:=aJ h
        obtain rfl:=lf h
        have z:=p55<|sg 14 c54<|d7 (e9 br56)<|en (aI (rP (.bool r56))<|trivial)
        exact cW A8 call8 func8 (c:=b8) rfl (aI (au af a) trivial) z<|by kernel_rfl
       ·obtain rfl:=lf h
        have z:=p55<|sg 14 c54<|en (aI (rP (.bool false))<|trivial)
        exact cW A8 call8 func8 (c:=b8) rfl (aI (au af a) trivial) z<|by kernel_rfl
     ·obtain rfl:=lf h
      have z:=p50<|sg 6 c49<|en (aI (rP (.bool false))<|trivial)
      exact cW A8 call8 func8 (c:=b8) rfl (aI (au af a) trivial) z<|by kernel_rfl
set_option linter.unusedSimpArgs false
def AJ(l:List ah)(s:ah):Int:=match l.findIdx? (fun x=>x==s)with|some j=>(j:Int)|none=>-1
theorem yl(l:List ah)(s:ah)(hl:l.length<9223372036854775808):ug l s=some (AJ l s):=by
 unfold ug te
 have:=su l hl (fun zz=>jp l s l.length zz) (fun x=>x==s) (fun j=>Sum.inl (j:Int)) (Sum.inr ()) (fun i h=>by
  simp only[jp]
  rw[vaf (by simp;omega),fc _ i h]
  simp only[vaa]
  split<;>simp_all) (by simp only[jp];rw[vag (by simp)])
 rw[this]
 unfold AJ
 cases l.findIdx? (fun x=>x==s)<;>rfl
theorem xp(l:List ah)(s:ah):decide (AJ l s>=0)=l.any fun k=>k==s:=by
 unfold AJ
 cases h:l.findIdx? (fun x=>x==s)with
 |none=>
  rw[vce]at h
  symm
  simp only[vbf]
  rw[show decide ((-1:Int)>=0)=false from rfl]
  simp only[vbf,Bool.not_eq_true]
  exact h
 | some j =>
  have h2:l.any (fun x=>x==s)=true:=by
   have:=vcB (xs:=l) (p:=fun x=>x==s)
   rw[h]at this
   exact this.symm
  rw[h2]
  simp
end Go.Proofs.YtoficachfgggjaaDoor
