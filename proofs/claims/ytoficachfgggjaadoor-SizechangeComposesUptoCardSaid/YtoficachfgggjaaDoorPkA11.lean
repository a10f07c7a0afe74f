/- PROVED: a part of the proof. Conditions: none. -/
import Derived.Test.YtoficachfgggjaaDoorPkA10
noncomputable section
namespace Go.Proofs.YtoficachfgggjaaDoor
open Go Go.Proofs.Tryd
set_option linter.unusedVariables false
set_option maxRecDepth 100000
noncomputable def yZ:Code:=f19.body.getD .skip
def v7:List Nat:=[24]
section
variable(v:waB)(t15:Int)(t16:Int)
def bQ:al:=be 109 [(0,sl ae v),(14,sl ae v),(15,.int .i64 t15),(16,.int .i64 t16)] [] []
def bR(o:(waB×Int)⊕(Unit)):Exit:=match o with
 |(.inl _)=>.ret
 |(.inr _)=>.exit 0
def bu(o:(waB×Int)⊕(Unit)):al:=match o with
 |(.inl o)=>be 109 [(2,sl ae o.1),(3,.int .i64 o.2)] [] [((2,0),24)]
 |(.inr o)=>be 109 [(0,sl ae v)] [] []
def gW:Option (Int⊕((waB×Int)⊕(Unit))):=
 if(decide (t16<t15))=true then
  (gz v t16).bind fun x2=>
  (bV x2).bind fun r3=>
  if(r3 !=0)=true then
   some (.inr (.inl (([]:List aa),r3)))
  else
   some (.inl (b5 (t16+1)))
 else
  some (.inr (.inr ()))
def iE:Option ((waB×Int)⊕(Unit)):=loop (fun(zz:Int)=>gW v t15 zz) t16
theorem kW{y:Int⊕((waB×Int)⊕(Unit))}(h:gW v t15 t16=some y):aE Pg GE 0 (cA yZ 55) (LQ (fun(zz:Int)=>bQ v t15 zz) bR (bu v) y) (bQ v t15 t16):=by
 rcases aM h with⟨c1,h⟩|⟨c1,h⟩
 ·obtain⟨x2,bx2,h⟩:=av h
  obtain⟨r3,br3,h⟩:=av h
  have p5:=fun{sc F} (r:PS sc F)=>sg 0 c1<|sv (gq.ia (k:=.i64) bx2)<|sv (aV x2)<|sx qY<|sx (fF x2)<|sv (bK x2 [])<|co (cK br3)<|r
  rcases aM h with⟨c4,h⟩|⟨c4,h⟩
  ·obtain rfl:=lf h
   have z:=p5<|sg 0 c4<|pw 0 (bR (.inl (([]:List aa),r3))) (bu v (.inl (([]:List aa),r3))) rfl (cG (aI (up (aB af ([]:List aa))) (aI trivial trivial))) trivial
   exact jD (A:=v7) mixed (by intro hx;cases hx) z<|by kernel_rfl
  ·obtain rfl:=lf h
   have z:=p5<|sg 0 c4<|pw 0 .normal (bQ v t15 (b5 (t16+1))) rfl (cG (aI (up (aB af v)) (aI (up (aB af v)) (aI trivial (aI trivial trivial))))) trivial
   exact d6 (A:=v7) mixed z<|by kernel_rfl
 ·obtain rfl:=lf h
  have z:=sg 0 c1<|eF (bR (.inr ())) (bu v (.inr ()))
  exact jK v7 (by intro hx;cases hx) z<|by kernel_rfl
theorem gr{x:(waB×Int)⊕(Unit)}(h:iE v t15 t16=some x):aE Pg GE 0 (.loop (cA yZ 55)) (EX (bR x) (bu v x)) (bQ v t15 t16):=
 aE.loop (S:=fun(zz:Int)=>bQ v t15 zz) (ex:=bR) (s:=t16) h fun zz y hy=>kW v t15 zz hy
end
section
variable(t28:waB)(t29:Int)(t30:Int)(m0:(List (ag×Bool)))(m:waB)
def bS:al:=be 109 [(8,.bptr 2 0),(9,.func (.func 36) [] [.bptr 1 0,.bptr 2 0]),(28,sl ae t28),(29,.int .i64 t29),(30,.int .i64 t30)] [.map (cE PVal.bool m0),.cells [.mapr 0] [],.cells [sl ae m] [(0,24)]] []
def ef(o:(List (ag×Bool))×waB):al:=be 109 [(8,.bptr 2 0),(9,.func (.func 36) [] [.bptr 1 0,.bptr 2 0])] [.map (cE PVal.bool o.1),.cells [.mapr 0] [],.cells [sl ae o.2] [(0,24)]] []
def gX:Option ((Int×(List (ag×Bool))×waB)⊕(((List (ag×Bool))×waB))):=
 if(decide (t30<t29))=true then
  (gz t28 t30).bind fun x8=>
  (dD x8 m0 m).bind fun r9=>
  some (.inl (b5 (t30+1),r9.1,r9.2))
 else
  some (.inr (m0,m))
def iF:Option (((List (ag×Bool))×waB)):=loop (fun(zz:Int×(List (ag×Bool))×waB)=>gX t28 t29 zz.1 zz.2.1 zz.2.2) (t30,m0,m)
theorem kX{y:(Int×(List (ag×Bool))×waB)⊕(((List (ag×Bool))×waB))}(h:gX t28 t29 t30 m0 m=some y):aE Pg GE 0 (cA yZ 1015) (LQ (fun(zz:Int×(List (ag×Bool))×waB)=>bS t28 t29 zz.1 zz.2.1 zz.2.2) (fun _=>.exit 2) ef y) (bS t28 t29 t30 m0 m):=by
 rcases aM h with⟨c7,h⟩|⟨c7,h⟩
 ·obtain⟨x8,bx8,h⟩:=av h
  obtain⟨r9,br9,h⟩:=av h
  obtain rfl:=lf h
  have z:=sg 0 c7<|sv (gq.ia (k:=.i64) bx8)<|sv (aV x8)<|sx qY<|sx (fF x8)<|sv (bK x8 [])<|si (.cg ⟨[1,0,2],[.agg (ae x8),.bptr 0 0,.bptr 2 0],[],[.cells [.mapr 0] [],.map (cE PVal.bool m0),.cells [sl ae m] [(0,24)]],[.cells [.mapr 1] [],.map (cE PVal.bool m0),.cells [sl ae m] [(0,24)]],[.cells [.mapr 0] [],.map (cE PVal.bool r9.1),.cells [sl ae r9.2] [(0,24)]],[.cells [.mapr 1] [],.map (cE PVal.bool r9.1),.cells [sl ae r9.2] [(0,24)]],.tuple [],.tuple [],[]⟩) (ea br9)<|sf (aI (xR [1,0,2] (.agg (ae x8)) (af x8)) (aI (xB [1,0,2] 0 1 0 rfl) (aI (xB [1,0,2] 2 2 0 rfl) trivial)))<|sf (aI (aI (rB (.cells [.mapr 0] [])) (aI (rW []) (aI (xM [1,0,2] 1 0 rfl) trivial))) (aI (aI (rB (.map (cE PVal.bool m0))) (aI (rM (cE PVal.bool m0)) (Ct (n:=0) PVal.bool (fun x=>trivial) m0))) (aI (aI (rB (.cells [sl ae m] [(0,24)])) (aI (rW [(0,24)]) (aI (xR [1,0,2] (sl ae m) (aB af m)) trivial))) trivial)))<|sf (aI (aI (rW []) (aI (xM [1,0,2] 1 0 rfl) trivial)) (aI (aI (rM (cE PVal.bool r9.1)) (Ct (n:=0) PVal.bool (fun x=>trivial) r9.1)) (aI (aI (rW [(0,24)]) (aI (xR [1,0,2] (sl ae r9.2) (aB af r9.2)) trivial)) trivial)))<|sf (xR [1,0,2] (.tuple []) trivial)<|pw 0 .normal (bS t28 t29 (b5 (t30+1)) r9.1 r9.2) rfl (cG (aI (cQ rfl) (aI (aI trivial (aI (cQ rfl) (aI (cQ rfl) trivial))) (aI (up (aB af t28)) (aI trivial (aI trivial trivial)))))) (aI (Ct PVal.bool (fun x=>trivial) r9.1) (aI (aI (cQ rfl) trivial) (aI (aI (up (aB af r9.2)) trivial) trivial)))
  exact d6 (A:=v7) mixed z<|by kernel_rfl
 ·obtain rfl:=lf h
  have z:=sg 0 c7<|eF (.exit 2) (ef (m0,m))
  exact jK v7 (by intro hx;cases hx) z<|by kernel_rfl
theorem lV{x:((List (ag×Bool))×waB)}(h:iF t28 t29 t30 m0 m=some x):aE Pg GE 0 (.loop (cA yZ 1015)) (EX (.exit 2) (ef x)) (bS t28 t29 t30 m0 m):=
 aE.loop (S:=fun(zz:Int×(List (ag×Bool))×waB)=>bS t28 t29 zz.1 zz.2.1 zz.2.2) (ex:=(fun _=>.exit 2)) (s:=(t30,m0,m)) h fun zz y hy=>kX t28 t29 zz.1 zz.2.1 zz.2.2 hy
end
section
variable(i:Int)(m0:(List (ag×Bool)))(m:waB)
def mz:al:=be 109 [(8,.bptr 2 0),(9,.func (.func 36) [] [.bptr 1 0,.bptr 2 0]),(12,.int .i64 i)] [.map (cE PVal.bool m0),.cells [.mapr 0] [],.cells [sl ae m] [(0,24)]] []
def eb(o:Bool):al:=be 109 [(8,.bptr 2 0),(9,.func (.func 36) [] [.bptr 1 0,.bptr 2 0]),(12,.int .i64 i),(46,.bool o)] [.map (cE PVal.bool m0),.cells [.mapr 0] [],.cells [sl ae m] [(0,24)]] []
def iA:Option Bool:=
 if(decide (i<(m.length:Int)))=true then
  some (decide ((m.length:Int)<=400))
 else
  some false
theorem lR{x:Bool}(h:iA i m=some x):aE Pg GE 0 (cA yZ 8156) (EX .normal (eb i m0 m x)) (mz i m0 m):=by
 have p12:=fun{sc F} (r:PS sc F)=>ss<|eP (gq.ln m)<|r
 rcases aM h with⟨c11,h⟩|⟨c11,h⟩
 ·obtain rfl:=lf h
  exact dH v7 (p12<|sg 5 c11<|ss<|eP (gq.ln m)<|eF .normal (eb i m0 m (decide ((m.length:Int)<=400))))<|by kernel_rfl
 ·obtain rfl:=lf h
  exact dH v7 (p12<|sg 5 c11<|eF .normal (eb i m0 m false))<|by kernel_rfl
end
section
variable(i:Int)(k:Int)(m0:(List (ag×Bool)))(m:waB)
def mA:al:=be 109 [(8,.bptr 2 0),(9,.func (.func 36) [] [.bptr 1 0,.bptr 2 0]),(12,.int .i64 i),(13,.int .i64 k)] [.map (cE PVal.bool m0),.cells [.mapr 0] [],.cells [sl ae m] [(0,24)]] []
def ec(o:Bool):al:=be 109 [(8,.bptr 2 0),(9,.func (.func 36) [] [.bptr 1 0,.bptr 2 0]),(12,.int .i64 i),(13,.int .i64 k),(56,.bool o)] [.map (cE PVal.bool m0),.cells [.mapr 0] [],.cells [sl ae m] [(0,24)]] []
def iB:Option Bool:=
 if(decide (k<=i))=true then
  some (decide ((m.length:Int)<=400))
 else
  some false
theorem lS{x:Bool}(h:iB i k m=some x):aE Pg GE 0 (cA yZ 522172) (EX .normal (ec i k m0 m x)) (mA i k m0 m):=by
 rcases aM h with⟨c16,h⟩|⟨c16,h⟩
 ·obtain rfl:=lf h
  exact dH v7 (sg 4 c16<|ss<|eP (gq.ln m)<|eF .normal (ec i k m0 m (decide ((m.length:Int)<=400))))<|by kernel_rfl
 ·obtain rfl:=lf h
  exact dH v7 (sg 4 c16<|eF .normal (ec i k m0 m false))<|by kernel_rfl
end
section
variable(i:Int)(k:Int)(m0:(List (ag×Bool)))(m:waB)
def mC:al:=be 109 [(8,.bptr 2 0),(9,.func (.func 36) [] [.bptr 1 0,.bptr 2 0]),(12,.int .i64 i),(13,.int .i64 k)] [.map (cE PVal.bool m0),.cells [.mapr 0] [],.cells [sl ae m] [(0,24)]] []
def ee(o:(List (ag×Bool))×waB):al:=be 109 [(8,.bptr 2 0),(9,.func (.func 36) [] [.bptr 1 0,.bptr 2 0]),(12,.int .i64 i),(13,.int .i64 k)] [.map (cE PVal.bool o.1),.cells [.mapr 0] [],.cells [sl ae o.2] [(0,24)]] []
def iD:Option (((List (ag×Bool))×waB)):=
 (gz m i).bind fun x20=>
 (gz m k).bind fun x21=>
 if(x20.Callee==x21.Caller)=true then
  (gz m i).bind fun x24=>
  (gz m k).bind fun x25=>
  (bL x24 x25).bind fun r26=>
  (dD r26 m0 m).bind fun r27=>
  some (r27.1,r27.2)
 else
  some (m0,m)
theorem lU{x:((List (ag×Bool))×waB)}(h:iD i k m0 m=some x):aE Pg GE 0 (cA yZ 2088698) (EX .normal (ee i k x)) (mC i k m0 m):=by
 obtain⟨x20,bx20,h⟩:=av h
 obtain⟨x21,bx21,h⟩:=av h
 have p23:=fun{sc F} (r:PS sc F)=>yP [0,0,3,7,15,0,0,96,224,480,1023]<|ss<|sv (gq.ia (k:=.i64) bx20)<|sv (aQ x20)<|sv (aU x20)<|ss<|sv (gq.ia (k:=.i64) bx21)<|sv (aO x21)<|sv (aT x21)<|r
 rcases aM h with⟨c22,h⟩|⟨c22,h⟩
 ·obtain⟨x24,bx24,h⟩:=av h
  obtain⟨x25,bx25,h⟩:=av h
  obtain⟨r26,br26,h⟩:=av h
  obtain⟨r27,br27,h⟩:=av h
  obtain rfl:=lf h
  exact dH v7 (p23<|sg 0 c22<|sk<|EH (.dx [0,0,0,6,14,0,0,96,224,510] [] [] [])<|ss<|sv (gq.ia (k:=.i64) bx24)<|sv (aV x24)<|ss<|sv (gq.ia (k:=.i64) bx25)<|sv (aV x25)<|co (dn br26)<|si (.cg ⟨[1,0,2],[.agg (ae r26),.bptr 0 0,.bptr 2 0],[],[.cells [.mapr 0] [],.map (cE PVal.bool m0),.cells [sl ae m] [(0,24)]],[.cells [.mapr 1] [],.map (cE PVal.bool m0),.cells [sl ae m] [(0,24)]],[.cells [.mapr 0] [],.map (cE PVal.bool r27.1),.cells [sl ae r27.2] [(0,24)]],[.cells [.mapr 1] [],.map (cE PVal.bool r27.1),.cells [sl ae r27.2] [(0,24)]],.tuple [],.tuple [],[]⟩) (ea br27)<|sf (aI (xR [1,0,2] (.agg (ae r26)) (af r26)) (aI (xB [1,0,2] 0 1 0 rfl) (aI (xB [1,0,2] 2 2 0 rfl) trivial)))<|sf (aI (aI (rB (.cells [.mapr 0] [])) (aI (rW []) (aI (xM [1,0,2] 1 0 rfl) trivial))) (aI (aI (rB (.map (cE PVal.bool m0))) (aI (rM (cE PVal.bool m0)) (Ct (n:=0) PVal.bool (fun x=>trivial) m0))) (aI (aI (rB (.cells [sl ae m] [(0,24)])) (aI (rW [(0,24)]) (aI (xR [1,0,2] (sl ae m) (aB af m)) trivial))) trivial)))<|sf (aI (aI (rW []) (aI (xM [1,0,2] 1 0 rfl) trivial)) (aI (aI (rM (cE PVal.bool r27.1)) (Ct (n:=0) PVal.bool (fun x=>trivial) r27.1)) (aI (aI (rW [(0,24)]) (aI (xR [1,0,2] (sl ae r27.2) (aB af r27.2)) trivial)) trivial)))<|sf (xR [1,0,2] (.tuple []) trivial)<|eF .normal (ee i k (r27.1,r27.2)))<|by kernel_rfl
 ·obtain rfl:=lf h
  exact dH v7 (p23<|sg 0 c22<|eF .normal (ee i k (m0,m)))<|by kernel_rfl
end
section
variable(i:Int)(k:Int)(m0:(List (ag×Bool)))(m:waB)
def mB:al:=be 109 [(8,.bptr 2 0),(9,.func (.func 36) [] [.bptr 1 0,.bptr 2 0]),(12,.int .i64 i),(13,.int .i64 k)] [.map (cE PVal.bool m0),.cells [.mapr 0] [],.cells [sl ae m] [(0,24)]] []
def ed(o:(List (ag×Bool))×waB):al:=be 109 [(8,.bptr 2 0),(9,.func (.func 36) [] [.bptr 1 0,.bptr 2 0]),(12,.int .i64 i),(13,.int .i64 k)] [.map (cE PVal.bool o.1),.cells [.mapr 0] [],.cells [sl ae o.2] [(0,24)]] []
def iC:Option (((List (ag×Bool))×waB)):=
 (iD i k m0 m).bind fun o28=>
 (gz o28.2 k).bind fun x29=>
 (gz o28.2 i).bind fun x30=>
 if(x29.Callee==x30.Caller)=true then
  (gz o28.2 k).bind fun x33=>
  (gz o28.2 i).bind fun x34=>
  (bL x33 x34).bind fun r35=>
  (dD r35 o28.1 o28.2).bind fun r36=>
  some (r36.1,r36.2)
 else
  some (o28.1,o28.2)
theorem lT{x:((List (ag×Bool))×waB)}(h:iC i k m0 m=some x):aE Pg GE 0 (cA yZ 522174) (EX .normal (ed i k x)) (mB i k m0 m):=by
 obtain⟨o28,bo28,h⟩:=av h
 obtain⟨x29,bx29,h⟩:=av h
 obtain⟨x30,bx30,h⟩:=av h
 have p32:=fun{sc F} (r:PS sc F)=>pH 0<|dG (lU i k m0 m bo28)<|yP [0,0,3,7,15,0,0,96,224,480,1023]<|ss<|sv (gq.ia (k:=.i64) bx29)<|sv (aQ x29)<|sv (aU x29)<|ss<|sv (gq.ia (k:=.i64) bx30)<|sv (aO x30)<|sv (aT x30)<|r
 rcases aM h with⟨c31,h⟩|⟨c31,h⟩
 ·obtain⟨x33,bx33,h⟩:=av h
  obtain⟨x34,bx34,h⟩:=av h
  obtain⟨r35,br35,h⟩:=av h
  obtain⟨r36,br36,h⟩:=av h
  obtain rfl:=lf h
  exact dH v7 (p32<|sg 0 c31<|sk<|EH (.dx [0,0,0,6,14,0,0,96,224,510] [] [] [])<|ss<|sv (gq.ia (k:=.i64) bx33)<|sv (aV x33)<|ss<|sv (gq.ia (k:=.i64) bx34)<|sv (aV x34)<|co (dn br35)<|si (.cg ⟨[1,0,2],[.agg (ae r35),.bptr 0 0,.bptr 2 0],[],[.cells [.mapr 0] [],.map (cE PVal.bool o28.1),.cells [sl ae o28.2] [(0,24)]],[.cells [.mapr 1] [],.map (cE PVal.bool o28.1),.cells [sl ae o28.2] [(0,24)]],[.cells [.mapr 0] [],.map (cE PVal.bool r36.1),.cells [sl ae r36.2] [(0,24)]],[.cells [.mapr 1] [],.map (cE PVal.bool r36.1),.cells [sl ae r36.2] [(0,24)]],.tuple [],.tuple [],[]⟩) (ea br36)<|sf (aI (xR [1,0,2] (.agg (ae r35)) (af r35)) (aI (xB [1,0,2] 0 1 0 rfl) (aI (xB [1,0,2] 2 2 0 rfl) trivial)))<|sf (aI (aI (rB (.cells [.mapr 0] [])) (aI (rW []) (aI (xM [1,0,2] 1 0 rfl) trivial))) (aI (aI (rB (.map (cE PVal.bool o28.1))) (aI (rM (cE PVal.bool o28.1)) (Ct (n:=0) PVal.bool (fun x=>trivial) o28.1))) (aI (aI (rB (.cells [sl ae o28.2] [(0,24)])) (aI (rW [(0,24)]) (aI (xR [1,0,2] (sl ae o28.2) (aB af o28.2)) trivial))) trivial)))<|sf (aI (aI (rW []) (aI (xM [1,0,2] 1 0 rfl) trivial)) (aI (aI (rM (cE PVal.bool r36.1)) (Ct (n:=0) PVal.bool (fun x=>trivial) r36.1)) (aI (aI (rW [(0,24)]) (aI (xR [1,0,2] (sl ae r36.2) (aB af r36.2)) trivial)) trivial)))<|sf (xR [1,0,2] (.tuple []) trivial)<|eF .normal (ed i k (r36.1,r36.2)))<|by kernel_rfl
 ·obtain rfl:=lf h
  exact dH v7 (p32<|sg 0 c31<|eF .normal (ed i k (o28.1,o28.2)))<|by kernel_rfl
end
section
variable(i:Int)(k:Int)(m0:(List (ag×Bool)))(m:waB)
def bU:al:=be 109 [(8,.bptr 2 0),(9,.func (.func 36) [] [.bptr 1 0,.bptr 2 0]),(12,.int .i64 i),(13,.int .i64 k)] [.map (cE PVal.bool m0),.cells [.mapr 0] [],.cells [sl ae m] [(0,24)]] []
def ei(o:(List (ag×Bool))×waB):al:=be 109 [(8,.bptr 2 0),(9,.func (.func 36) [] [.bptr 1 0,.bptr 2 0]),(12,.int .i64 i)] [.map (cE PVal.bool o.1),.cells [.mapr 0] [],.cells [sl ae o.2] [(0,24)]] []
def gZ:Option ((Int×(List (ag×Bool))×waB)⊕(((List (ag×Bool))×waB))):=
 (iB i k m).bind fun o17=>
 if o17=true then
  (iC i k m0 m).bind fun o37=>
  some (.inl (b5 (k+1),o37.1,o37.2))
 else
  some (.inr (m0,m))
def iH:Option (((List (ag×Bool))×waB)):=loop (fun(zz:Int×(List (ag×Bool))×waB)=>gZ i zz.1 zz.2.1 zz.2.2) (k,m0,m)
theorem kZ{y:(Int×(List (ag×Bool))×waB)⊕(((List (ag×Bool))×waB))}(h:gZ i k m0 m=some y):aE Pg GE 0 (cA yZ 130543) (LQ (fun(zz:Int×(List (ag×Bool))×waB)=>bU i zz.1 zz.2.1 zz.2.2) (fun _=>.exit 6) (ei i) y) (bU i k m0 m):=by
 obtain⟨o17,bo17,h⟩:=av h
 have p19:=fun{sc F} (r:PS sc F)=>pH 1<|dG (lS i k m0 m bo17)<|r
 rcases aM h with⟨c18,h⟩|⟨c18,h⟩
 ·obtain⟨o37,bo37,h⟩:=av h
  obtain rfl:=lf h
  exact rf v7 (p19<|sg 0 c18<|pH 0<|dG (lT i k m0 m bo37)<|eF .normal (bU i (b5 (k+1)) o37.1 o37.2))<|by kernel_rfl
 ·obtain rfl:=lf h
  have z:=p19<|sg 0 c18<|eF (.exit 6) (ei i (m0,m))
  exact jK v7 (by intro hx;cases hx) z<|by kernel_rfl
theorem lX{x:((List (ag×Bool))×waB)}(h:iH i k m0 m=some x):aE Pg GE 0 (.loop (cA yZ 130543)) (EX (.exit 6) (ei i x)) (bU i k m0 m):=
 aE.loop (S:=fun(zz:Int×(List (ag×Bool))×waB)=>bU i zz.1 zz.2.1 zz.2.2) (ex:=(fun _=>.exit 6)) (s:=(k,m0,m)) h fun zz y hy=>kZ i zz.1 zz.2.1 zz.2.2 hy
end
section
variable(i:Int)(m0:(List (ag×Bool)))(m:waB)
def bT:al:=be 109 [(8,.bptr 2 0),(9,.func (.func 36) [] [.bptr 1 0,.bptr 2 0]),(12,.int .i64 i)] [.map (cE PVal.bool m0),.cells [.mapr 0] [],.cells [sl ae m] [(0,24)]] []
def eh(o:(List (ag×Bool))×waB):al:=be 109 [(8,.bptr 2 0)] [.map (cE PVal.bool o.1),.cells [.mapr 0] [],.cells [sl ae o.2] [(0,24)]] []
def gY:Option ((Int×(List (ag×Bool))×waB)⊕(((List (ag×Bool))×waB))):=
 (iA i m).bind fun o13=>
 if o13=true then
  (iH i 0 m0 m).bind fun o38=>
  some (.inl (b5 (i+1),o38.1,o38.2))
 else
  some (.inr (m0,m))
def iG:Option (((List (ag×Bool))×waB)):=loop (fun(zz:Int×(List (ag×Bool))×waB)=>gY zz.1 zz.2.1 zz.2.2) (i,m0,m)
theorem kY{y:(Int×(List (ag×Bool))×waB)⊕(((List (ag×Bool))×waB))}(h:gY i m0 m=some y):aE Pg GE 0 (cA yZ 2039) (LQ (fun(zz:Int×(List (ag×Bool))×waB)=>bT zz.1 zz.2.1 zz.2.2) (fun _=>.exit 4) eh y) (bT i m0 m):=by
 obtain⟨o13,bo13,h⟩:=av h
 have p15:=fun{sc F} (r:PS sc F)=>pH 1<|dG (lR i m0 m bo13)<|r
 rcases aM h with⟨c14,h⟩|⟨c14,h⟩
 ·obtain⟨o38,bo38,h⟩:=av h
  obtain rfl:=lf h
  exact rf v7 (p15<|sg 0 c14<|dG (lX i 0 m0 m bo38)<|eF .normal (bT (b5 (i+1)) o38.1 o38.2))<|by kernel_rfl
 ·obtain rfl:=lf h
  have z:=p15<|sg 0 c14<|eF (.exit 4) (eh (m0,m))
  exact jK v7 (by intro hx;cases hx) z<|by kernel_rfl
theorem lW{x:((List (ag×Bool))×waB)}(h:iG i m0 m=some x):aE Pg GE 0 (.loop (cA yZ 2039)) (EX (.exit 4) (eh x)) (bT i m0 m):=
 aE.loop (S:=fun(zz:Int×(List (ag×Bool))×waB)=>bT zz.1 zz.2.1 zz.2.2) (ex:=(fun _=>.exit 4)) (s:=(i,m0,m)) h fun zz y hy=>kY zz.1 zz.2.1 zz.2.2 hy
end
theorem nF{l r:List aa}(h:sH iU l=some r):aE Pg GE 0 (cA yZ 1022) (EX .normal (be 109 [(8,.bptr 2 0)] [.dead,.dead,.cells [sl ae r] [(0,24)]] [])) (be 109 [(8,.bptr 2 0)] [.dead,.dead,.cells [sl ae l] [(0,24)]] []):=
 EI (K:=[3,4]) (c:=ae) (n:=109) (nb:=3) (i:=2) gq CN Fs (fun x y r h=>pl h) call39 AH rfl rfl rfl rfl rfl rfl rfl rfl (h0:=by kernel_rfl) (h00:=by kernel_rfl) h
def gL(a:waB):Option (waB×Int):=
 (iE a (a.length:Int) 0).bind fun o6=>match o6 with
 |(.inl o6)=>
  some (o6.1,o6.2)
 | (.inr o6) =>
  (iF a (a.length:Int) 0 ([]:List (ag×Bool)) ([]:List aa)).bind fun o10=>
  (iG 0 o10.1 o10.2).bind fun o39=>
  if(decide ((o39.2.length:Int)>400))=true then
   some (([]:List aa),7)
  else
   (sH iU o39.2).bind fun l42=>
   some (l42,0)
theorem dj{a:waB}{r:waB×Int}(h:gL a=some r):CC Pg GE 19 [sl ae a] (.tuple [sl ae r.1,.int .i64 r.2]) []:=by
 obtain⟨o6,bo6,h⟩:=av h
 rcases o6 with o6|o6
 ·obtain rfl:=lf h
  have z:=eP (gq.ln a)<|dG (e:=.ret) (s1:=bu a (.inl o6)) (gr a (a.length:Int) 0 bo6)<|en (aI (rP (.tuple [sl ae o6.1,.int .i64 o6.2]))<|(aI (aB af o6.1) (aI trivial trivial)))
  exact bC v7 call19 func19 (c:=yZ) rfl (aI (aB af a) trivial) z<|by kernel_rfl
 ·obtain⟨o10,bo10,h⟩:=av h
  obtain⟨o39,bo39,h⟩:=av h
  have p41:=fun{sc F} (r:PS sc F)=>eP (gq.ln a)<|dG (e:=.exit 0) (s1:=bu a (.inr o6)) (gr a (a.length:Int) 0 bo6)<|sx Fr<|ss<|sx Fp<|eP (gq.ln a)<|dG (lV a (a.length:Int) 0 ([]:List (ag×Bool)) ([]:List aa) bo10)<|dG (lW 0 o10.1 o10.2 bo39)<|ss<|eP (gq.ln o39.2)<|r
  rcases aM h with⟨c40,h⟩|⟨c40,h⟩
  ·obtain rfl:=lf h
   have z:=p41<|sg 0 c40<|en (aI (rP (.tuple [sl ae ([]:List aa),.int .i64 7]))<|(aI (aB af ([]:List aa)) (aI trivial trivial)))
   exact bC v7 call19 func19 (c:=yZ) rfl (aI (aB af a) trivial) z<|by kernel_rfl
  ·obtain⟨l42,bl42,h⟩:=av h
   obtain rfl:=lf h
   have z:=p41<|sg 0 c40<|pH 0<|dG (nF bl42)<|ss<|en (aI (rP (.tuple [sl ae l42,.int .i64 0]))<|(aI (aB af l42) (aI trivial trivial)))
   exact bC v7 call19 func19 (c:=yZ) rfl (aI (aB af a) trivial) z<|by kernel_rfl
noncomputable def Ed:Code:=f30.body.getD .skip
def DK:List Nat:=[15]
section
variable(s1:waA)(s2:waA)(t12:Int)(t13:Int)
def dE:al:=be 26 [(0,sl aj s1),(1,sl aj s2),(12,.int .i64 t12),(13,.int .i64 t13)] [] []
def dF(o:Unit⊕(Unit)):Exit:=match o with
 |(.inl _)=>.ret
 |(.inr _)=>.exit 0
def cD(o:Unit⊕(Unit)):al:=match o with
 |(.inl o)=>be 26 [(4,.bool false)] [] []
 |(.inr o)=>be 26 [] [] []
def lD:Option (Int⊕(Unit⊕(Unit))):=
 if(decide (t13<t12))=true then
  (gz s1 t13).bind fun x4=>
  (gz s2 t13).bind fun x5=>
  if(!(j5 x4 x5))=true then
   some (.inr (.inl ()))
  else
   some (.inl (b5 (t13+1)))
 else
  some (.inr (.inr ()))
def nD:Option (Unit⊕(Unit)):=loop (fun(zz:Int)=>lD s1 s2 t12 zz) t13
theorem pn{y:Int⊕(Unit⊕(Unit))}(h:lD s1 s2 t12 t13=some y):aE Pg GE 0 (cA Ed 119) (LQ (fun(zz:Int)=>dE s1 s2 t12 zz) dF cD y) (dE s1 s2 t12 t13):=by
 rcases aM h with⟨c3,h⟩|⟨c3,h⟩
 ·obtain⟨x4,bx4,h⟩:=av h
  obtain⟨x5,bx5,h⟩:=av h
  have p7:=fun{sc F} (r:PS sc F)=>sg 0 c3<|yP [0,0,3,7,0,0,48,112,255]<|sv (cF.ia (k:=.i64) bx4)<|sv (dO x4)<|sv (cF.ia (k:=.i64) bx5)<|sv (dO x5)<|sv (yu x4 x5)<|r
  rcases aM h with⟨c6,h⟩|⟨c6,h⟩
  ·obtain rfl:=lf h
   have z:=p7<|sg 0 c6<|eF (dF (.inl ())) (cD (.inl ()))
   exact jK DK (by intro hx;cases hx) z<|by kernel_rfl
  ·obtain rfl:=lf h
   exact rf DK (p7<|sg 0 c6<|eF .normal (dE s1 s2 t12 (b5 (t13+1))))<|by kernel_rfl
 ·obtain rfl:=lf h
  have z:=sg 0 c3<|eF (dF (.inr ())) (cD (.inr ()))
  exact jK DK (by intro hx;cases hx) z<|by kernel_rfl
theorem kO{x:Unit⊕(Unit)}(h:nD s1 s2 t12 t13=some x):aE Pg GE 0 (.loop (cA Ed 119)) (EX (dF x) (cD x)) (dE s1 s2 t12 t13):=
 aE.loop (S:=fun(zz:Int)=>dE s1 s2 t12 zz) (ex:=dF) (s:=t13) h fun zz y hy=>pn s1 s2 t12 zz hy
end
def q9(s1:waA)(s2:waA):Option Bool:=
 if((s1.length:Int)!=(s2.length:Int))=true then
  some false
 else
  (nD s1 s2 (s1.length:Int) 0).bind fun o8=>match o8 with
  |(.inl o8)=>
   some false
  |(.inr o8)=>
   some true
theorem tn{s1:waA}{s2:waA}{r:Bool}(h:q9 s1 s2=some r):CC Pg GE 30 [sl aj s1,sl aj s2] (.bool r) []:=by
 have p2:=fun{sc F} (r:PS sc F)=>eP (cF.ln s1)<|eP (cF.ln s2)<|r
 rcases aM h with⟨c1,h⟩|⟨c1,h⟩
 ·obtain rfl:=lf h
  have z:=p2<|sg 0 c1<|en (aI (rP (.bool false))<|trivial)
  exact bC DK call30 func30 (c:=Ed) rfl (aI (aB au s1) (aI (aB au s2) trivial)) z<|by kernel_rfl
 ·obtain⟨o8,bo8,h⟩:=av h
  rcases o8 with o8|o8
  ·obtain rfl:=lf h
   have z:=p2<|sg 0 c1<|eP (cF.ln s1)<|dG (e:=.ret) (s1:=cD (.inl o8)) (kO s1 s2 (s1.length:Int) 0 bo8)<|en (aI (rP (.bool false))<|trivial)
   exact bC DK call30 func30 (c:=Ed) rfl (aI (aB au s1) (aI (aB au s2) trivial)) z<|by kernel_rfl
  ·obtain rfl:=lf h
   have z:=p2<|sg 0 c1<|eP (cF.ln s1)<|dG (e:=.exit 0) (s1:=cD (.inr o8)) (kO s1 s2 (s1.length:Int) 0 bo8)<|en (aI (rP (.bool true))<|trivial)
   exact bC DK call30 func30 (c:=Ed) rfl (aI (aB au s1) (aI (aB au s2) trivial)) z<|by kernel_rfl
noncomputable def E5:Code:=f12.body.getD .skip
def EW:List Nat:=[]
def jE(a:aa)(a2:aa):Option Bool:=
 if(a.Caller==a2.Caller)=true then
  if(a.Callee==a2.Callee)=true then
   (q9 a.Arcs a2.Arcs).bind fun r5=>
   some r5
  else
   some false
 else
  some false
theorem kE{a:aa}{a2:aa}{r:Bool}(h:jE a a2=some r):CC Pg GE 12 [.agg (ae a),.agg (ae a2)] (.bool r) []:=by
 have p2:=fun{sc F} (r:PS sc F)=>se (bq a)<|se (bq a2)<|sv (aO a)<|sv (aT a)<|sv (aO a2)<|sv (aT a2)<|r
 rcases aM h with⟨c1,h⟩|⟨c1,h⟩
 ·have p4:=fun{sc F} (r:PS sc F)=>p2<|sg 6 c1<|sv (aQ a)<|sv (aU a)<|sv (aQ a2)<|sv (aU a2)<|r
  rcases aM h with⟨c3,h⟩|⟨c3,h⟩
  ·obtain⟨r5,br5,h⟩:=av h
   obtain rfl:=lf h
   have z:=p4<|sg 13 c3<|sv (aw a)<|sv (ax a)<|sv (aw a2)<|sv (ax a2)<|co (tn br5)<|en (aI (rP (.bool r5))<|trivial)
   exact bC EW call12 func12 (c:=E5) rfl (aI (af a) (aI (af a2) trivial)) z<|by kernel_rfl
  ·obtain rfl:=lf h
   have z:=p4<|sg 13 c3<|en (aI (rP (.bool false))<|trivial)
   exact bC EW call12 func12 (c:=E5) rfl (aI (af a) (aI (af a2) trivial)) z<|by kernel_rfl
 ·obtain rfl:=lf h
  have z:=p2<|sg 6 c1<|en (aI (rP (.bool false))<|trivial)
  exact bC EW call12 func12 (c:=E5) rfl (aI (af a) (aI (af a2) trivial)) z<|by kernel_rfl
noncomputable def FM:Code:=f42.body.getD .skip
def Fx:List Nat:=[]
def g4(a:ah):Option Bool:=
 if(a.From==a.To)=true then
  some a.Strict
 else
  some false
theorem kF{a:ah}{r:Bool}(h:g4 a=some r):CC Pg GE 42 [.agg (aj a)] (.bool r) []:=by
 have p2:=fun{sc F} (r:PS sc F)=>se (nd a)<|sv (b6 a)<|sv (cw a)<|sv (eA a)<|sv (fA a)<|r
 rcases aM h with⟨c1,h⟩|⟨c1,h⟩
 ·obtain rfl:=lf h
  have z:=p2<|sg 6 c1<|sv (mW a)<|sv (ou a)<|en (aI (rP (.bool a.Strict))<|trivial)
  exact bC Fx call42 func42 (c:=FM) rfl (aI (au a) trivial) z<|by kernel_rfl
 ·obtain rfl:=lf h
  have z:=p2<|sg 6 c1<|en (aI (rP (.bool false))<|trivial)
  exact bC Fx call42 func42 (c:=FM) rfl (aI (au a) trivial) z<|by kernel_rfl
noncomputable def EP:Code:=f65.body.getD .skip
def DX:List Nat:=[10,17]
section
variable(s:waA)(t7:Int)(t8:Int)
def cm:al:=be 19 [(0,sl aj s),(1,.func (.func 42) [] []),(7,.int .i64 t7),(8,.int .i64 t8)] [] []
def cn(o:Int⊕(Unit)):Exit:=match o with
 |(.inl _)=>.ret
 |(.inr _)=>.exit 0
def bG(o:Int⊕(Unit)):al:=match o with
 |(.inl o)=>be 19 [(4,.int .i64 o)] [] []
 |(.inr o)=>be 19 [] [] []
def iL:Option (Int⊕(Int⊕(Unit))):=
 if(decide (t8<t7))=true then
  (gz s t8).bind fun x2=>
  (g4 x2).bind fun r3=>
  if r3=true then
   some (.inr (.inl t8))
  else
   some (.inl (b5 (t8+1)))
 else
  some (.inr (.inr ()))
def jO:Option (Int⊕(Unit)):=loop (fun(zz:Int)=>iL s t7 zz) t8
theorem mH{y:Int⊕(Int⊕(Unit))}(h:iL s t7 t8=some y):aE Pg GE 0 (cA EP 55) (LQ (fun(zz:Int)=>cm s t7 zz) cn bG y) (cm s t7 t8):=by
 rcases aM h with⟨c1,h⟩|⟨c1,h⟩
 ·obtain⟨x2,bx2,h⟩:=av h
  obtain⟨r3,br3,h⟩:=av h
  have p5:=fun{sc F} (r:PS sc F)=>sg 0 c1<|sv (cF.ia (k:=.i64) bx2)<|sv (dO x2)<|co (kF br3)<|r
  rcases aM h with⟨c4,h⟩|⟨c4,h⟩
  ·obtain rfl:=lf h
   have z:=p5<|sg 0 c4<|eF (cn (.inl t8)) (bG (.inl t8))
   exact jK DX (by intro hx;cases hx) z<|by kernel_rfl
  ·obtain rfl:=lf h
   exact rf DX (p5<|sg 0 c4<|eF .normal (cm s t7 (b5 (t8+1))))<|by kernel_rfl
 ·obtain rfl:=lf h
  have z:=sg 0 c1<|eF (cn (.inr ())) (bG (.inr ()))
  exact jK DX (by intro hx;cases hx) z<|by kernel_rfl
theorem iu{x:Int⊕(Unit)}(h:jO s t7 t8=some x):aE Pg GE 0 (.loop (cA EP 55)) (EX (cn x) (bG x)) (cm s t7 t8):=
 aE.loop (S:=fun(zz:Int)=>cm s t7 zz) (ex:=cn) (s:=t8) h fun zz y hy=>mH s t7 zz hy
end
def mG(s:waA):Option Int:=
 (jO s (s.length:Int) 0).bind fun o6=>match o6 with
 |(.inl o6)=>
  some o6
 |(.inr o6)=>
  some (-1)
theorem po{s:waA}{r:Int}(h:mG s=some r):CC Pg GE 65 [sl aj s,.func (.func 42) [] []] (.int .i64 r) []:=by
 obtain⟨o6,bo6,h⟩:=av h
 rcases o6 with o6|o6
 ·obtain rfl:=lf h
  have z:=eP (cF.ln s)<|dG (e:=.ret) (s1:=bG (.inl o6)) (iu s (s.length:Int) 0 bo6)<|en (aI (rP (.int .i64 o6))<|trivial)
  exact bC DX call65 func65 (c:=EP) rfl (aI (aB au s) (aI (aI trivial trivial) trivial)) z<|by kernel_rfl
 ·obtain rfl:=lf h
  have z:=eP (cF.ln s)<|dG (e:=.exit 0) (s1:=bG (.inr o6)) (iu s (s.length:Int) 0 bo6)<|en (aI (rP (.int .i64 (-1)))<|trivial)
  exact bC DX call65 func65 (c:=EP) rfl (aI (aB au s) (aI (aI trivial trivial) trivial)) z<|by kernel_rfl
noncomputable def Ga:Code:=f41.body.getD .skip
def F4:List Nat:=[]
def jN(s:waA):Option Bool:=
 (mG s).bind fun r1=>
 some (decide (r1>=0))
theorem nr{s:waA}{r:Bool}(h:jN s=some r):CC Pg GE 41 [sl aj s,.func (.func 42) [] []] (.bool r) []:=by
 obtain⟨r1,br1,h⟩:=av h
 obtain rfl:=lf h
 have z:=co (po br1)<|en (aI (rP (.bool (decide (r1>=0))))<|trivial)
 exact bC F4 call41 func41 (c:=Ga) rfl (aI (aB au s) (aI (aI trivial trivial) trivial)) z<|by kernel_rfl
noncomputable def DO:Code:=f21.body.getD .skip
def Ci:List Nat:=[15]
section
variable(t16:waB)(t17:Int)(t18:Int)(m:ag)(m2:ag)(m3:waA)
def kG:al:=be 40 [(7,.bptr 0 0),(16,sl ae t16),(17,.int .i64 t17),(18,.int .i64 t18)] [.cells [.str m,.str m2,sl aj m3] []] []
def dg(o:Bool):al:=be 40 [(7,.bptr 0 0),(16,sl ae t16),(17,.int .i64 t17),(18,.int .i64 t18),(34,.bool o)] [.cells [.str m,.str m2,sl aj m3] []] []
def gu:Option Bool:=
 if(!(m==m2))=true then
  some true
 else
  (bL (⟨m,m2,m3⟩:aa) (⟨m,m2,m3⟩:aa)).bind fun r7=>
  (jE r7 (⟨m,m2,m3⟩:aa)).bind fun r8=>
  some (!r8)
theorem ka{x:Bool}(h:gu m m2 m3=some x):aE Pg GE 0 (cA DO 31724) (EX .normal (dg t16 t17 t18 m m2 m3 x)) (kG t16 t17 t18 m m2 m3):=by
 have p6:=fun{sc F} (r:PS sc F)=>yP [0,1,0,4,15,31,63,63,255,63,1023,2047,4095]<|ss<|ss<|r
 rcases aM h with⟨c5,h⟩|⟨c5,h⟩
 ·obtain rfl:=lf h
  exact dH Ci (p6<|sg 6 c5<|eF .normal (dg t16 t17 t18 m m2 m3 true))<|by kernel_rfl
 ·obtain⟨r7,br7,h⟩:=av h
  obtain⟨r8,br8,h⟩:=av h
  obtain rfl:=lf h
  exact dH Ci (p6<|sg 6 c5<|sv (bK (⟨m,m2,m3⟩:aa) [])<|sv (bK (⟨m,m2,m3⟩:aa) [])<|co (dn br7)<|sv (bK (⟨m,m2,m3⟩:aa) [])<|co (kE br8)<|eF .normal (dg t16 t17 t18 m m2 m3 (!r8)))<|by kernel_rfl
end
section
variable(t16:waB)(t17:Int)(t18:Int)
def aZ:al:=be 40 [(16,sl ae t16),(17,.int .i64 t17),(18,.int .i64 t18)] [] []
def bB(o:Unit⊕(Unit)):Exit:=match o with
 |(.inl _)=>.ret
 |(.inr _)=>.exit 0
def a7(o:Unit⊕(Unit)):al:=match o with
 |(.inl o)=>be 40 [(2,.bool false),(3,.int .i64 0)] [] []
 |(.inr o)=>be 40 [] [] []
def fG:Option (Int⊕(Unit⊕(Unit))):=
 if (decide (t18 < t17)) = true then
  (gz t16 t18).bind fun x4=>
  (gu x4.Caller x4.Callee x4.Arcs).bind fun o9=>
  if o9=true then
   some (.inl (b5 (t18+1)))
  else
   (jN x4.Arcs).bind fun r12=>
   if(!r12)=true then
    some (.inr (.inl ()))
   else
    some (.inl (b5 (t18+1)))
 else
  some (.inr (.inr ()))
def gv:Option (Unit⊕(Unit)):=loop (fun(zz:Int)=>fG t16 t17 zz) t18
theorem jF{y:Int⊕(Unit⊕(Unit))}(h:fG t16 t17 t18=some y):aE Pg GE 0 (cA DO 247) (LQ (fun(zz:Int)=>aZ t16 t17 zz) bB a7 y) (aZ t16 t17 t18):=by
 rcases aM h with⟨c3,h⟩|⟨c3,h⟩
 ·obtain⟨x4,bx4,h⟩:=av h
  obtain⟨o9,bo9,h⟩:=av h
  have p11:=fun{sc F} (r:PS sc F)=>sg 0 c3<|sv (gq.ia (k:=.i64) bx4)<|sv (aV x4)<|sx qY<|sx (fF x4)<|pH 1<|dG (ka t16 t17 t18 x4.Caller x4.Callee x4.Arcs bo9)<|r
  rcases aM h with⟨c10,h⟩|⟨c10,h⟩
  ·obtain rfl:=lf h
   have z:=p11<|sg 0 c10<|pw 0 .normal (aZ t16 t17 (b5 (t18+1))) rfl (cG (aI (up (aB af t16)) (aI trivial (aI trivial trivial)))) trivial
   exact d6 (A:=Ci) mixed z<|by kernel_rfl
  ·obtain⟨r12,br12,h⟩:=av h
   have p14:=fun{sc F} (r:PS sc F)=>p11<|sg 0 c10<|ss<|co (nr br12)<|r
   rcases aM h with⟨c13,h⟩|⟨c13,h⟩
   ·obtain rfl:=lf h
    have z:=p14<|sg 0 c13<|pw 0 (bB (.inl ())) (a7 (.inl ())) rfl (cG (aI trivial (aI trivial trivial))) trivial
    exact jD (A:=Ci) mixed (by intro hx;cases hx) z<|by kernel_rfl
   ·obtain rfl:=lf h
    have z:=p14<|sg 0 c13<|pw 0 .normal (aZ t16 t17 (b5 (t18+1))) rfl (cG (aI (up (aB af t16)) (aI trivial (aI trivial trivial)))) trivial
    exact d6 (A:=Ci) mixed z<|by kernel_rfl
 ·obtain rfl:=lf h
  have z:=sg 0 c3<|eF (bB (.inr ())) (a7 (.inr ()))
  exact jK Ci (by intro hx;cases hx) z<|by kernel_rfl
theorem fb{x:Unit⊕(Unit)}(h:gv t16 t17 t18=some x):aE Pg GE 0 (.loop (cA DO 247)) (EX (bB x) (a7 x)) (aZ t16 t17 t18):=
 aE.loop (S:=fun(zz:Int)=>aZ t16 t17 zz) (ex:=bB) (s:=t18) h fun zz y hy=>jF t16 t17 zz hy
end
def eW(a:waB):Option (Bool×Int):=
 (gL a).bind fun r1=>
 if(r1.2 !=0)=true then
  some (false,r1.2)
 else
  (gv r1.1 (r1.1.length:Int) 0).bind fun o15=>match o15 with
  |(.inl o15)=>
   some (false,0)
  |(.inr o15)=>
   some (true,0)
theorem gw{a:waB}{r:Bool×Int}(h:eW a=some r):CC Pg GE 21 [sl ae a] (.tuple [.bool r.1,.int .i64 r.2]) []:=by
 obtain⟨r1,br1,h⟩:=av h
 rcases aM h with⟨c2,h⟩|⟨c2,h⟩
 ·obtain rfl:=lf h
  have z:=co (dj br1)<|sg 0 c2<|en (aI (rP (.tuple [.bool false,.int .i64 r1.2]))<|(aI trivial (aI trivial trivial)))
  exact bC Ci call21 func21 (c:=DO) rfl (aI (aB af a) trivial) z<|by kernel_rfl
 ·obtain⟨o15,bo15,h⟩:=av h
  rcases o15 with o15|o15
  ·obtain rfl:=lf h
   have z:=co (dj br1)<|sg 0 c2<|eP (gq.ln r1.1)<|dG (e:=.ret) (s1:=a7 (.inl o15)) (fb r1.1 (r1.1.length:Int) 0 bo15)<|en (aI (rP (.tuple [.bool false,.int .i64 0]))<|(aI trivial (aI trivial trivial)))
   exact bC Ci call21 func21 (c:=DO) rfl (aI (aB af a) trivial) z<|by kernel_rfl
  ·obtain rfl:=lf h
   have z:=co (dj br1)<|sg 0 c2<|eP (gq.ln r1.1)<|dG (e:=.exit 0) (s1:=a7 (.inr o15)) (fb r1.1 (r1.1.length:Int) 0 bo15)<|en (aI (rP (.tuple [.bool true,.int .i64 0]))<|(aI trivial (aI trivial trivial)))
   exact bC Ci call21 func21 (c:=DO) rfl (aI (aB af a) trivial) z<|by kernel_rfl
noncomputable def EM:Code:=f17.body.getD .skip
def EJ:List Nat:=[13,19]
def df(a:aa)(a2:aa):Option (aa×Int):=
 (bV a).bind fun r1=>
 if(r1 !=0)=true then
  some ((⟨([]:ag),([]:ag),([]:List ah)⟩:aa),r1)
 else
  (bV a2).bind fun r4=>
  if(r4 !=0)=true then
   some ((⟨([]:ag),([]:ag),([]:List ah)⟩:aa),r4)
  else
   if(!(a.Callee==a2.Caller))=true then
    some ((⟨([]:ag),([]:ag),([]:List ah)⟩:aa),6)
   else
    (bL a a2).bind fun r9=>
    some (r9,0)
theorem iI{a:aa}{a2:aa}{r:aa×Int}(h:df a a2=some r):CC Pg GE 17 [.agg (ae a),.agg (ae a2)] (.tuple [.agg (ae r.1),.int .i64 r.2]) []:=by
 obtain⟨r1,br1,h⟩:=av h
 have p3:=fun{sc F} (r:PS sc F)=>se (bq a)<|se (bq a2)<|sx qY<|sv (aV a)<|co (cK br1)<|r
 rcases aM h with⟨c2,h⟩|⟨c2,h⟩
 ·obtain rfl:=lf h
  have z:=p3<|sg 0 c2<|sb (gP) (gO)<|sy (bo (⟨([]:ag),([]:ag),([]:List ah)⟩:aa))<|en (aI (vbb PVal.tuple (iv (dL (⟨([]:ag),([]:ag),([]:List ah)⟩:aa)) (iv (rP (.int .i64 r1)) (rfl:([]:List PVal)=[]))))<|(aI (af (⟨([]:ag),([]:ag),([]:List ah)⟩:aa)) (aI trivial trivial)))
  exact bC EJ call17 func17 (c:=EM) rfl (aI (af a) (aI (af a2) trivial)) z<|by kernel_rfl
 ·obtain⟨r4,br4,h⟩:=av h
  have p6:=fun{sc F} (r:PS sc F)=>p3<|sg 0 c2<|sv (aV a2)<|co (cK br4)<|r
  rcases aM h with⟨c5,h⟩|⟨c5,h⟩
  ·obtain rfl:=lf h
   have z:=p6<|sg 0 c5<|sb (gP) (gO)<|sy (bo (⟨([]:ag),([]:ag),([]:List ah)⟩:aa))<|en (aI (vbb PVal.tuple (iv (dL (⟨([]:ag),([]:ag),([]:List ah)⟩:aa)) (iv (rP (.int .i64 r4)) (rfl:([]:List PVal)=[]))))<|(aI (af (⟨([]:ag),([]:ag),([]:List ah)⟩:aa)) (aI trivial trivial)))
   exact bC EJ call17 func17 (c:=EM) rfl (aI (af a) (aI (af a2) trivial)) z<|by kernel_rfl
  ·have p8:=fun{sc F} (r:PS sc F)=>p6<|sg 0 c5<|sv (aQ a)<|sv (aU a)<|sv (aO a2)<|sv (aT a2)<|r
   rcases aM h with⟨c7,h⟩|⟨c7,h⟩
   ·obtain rfl:=lf h
    have z:=p8<|sg 0 c7<|sb (gP) (gO)<|sy (bo (⟨([]:ag),([]:ag),([]:List ah)⟩:aa))<|en (aI (vbb PVal.tuple (iv (dL (⟨([]:ag),([]:ag),([]:List ah)⟩:aa)) (iv (rP (.int .i64 6)) (rfl:([]:List PVal)=[]))))<|(aI (af (⟨([]:ag),([]:ag),([]:List ah)⟩:aa)) (aI trivial trivial)))
    exact bC EJ call17 func17 (c:=EM) rfl (aI (af a) (aI (af a2) trivial)) z<|by kernel_rfl
   ·obtain⟨r9,br9,h⟩:=av h
    obtain rfl:=lf h
    have z:=p8<|sg 0 c7<|sv (aV a)<|sv (aV a2)<|co (dn br9)<|sy (bo r9)<|en (aI (vbb PVal.tuple (iv (dL r9) (iv (rP (.int .i64 0)) (rfl:([]:List PVal)=[]))))<|(aI (af r9) (aI trivial trivial)))
    exact bC EJ call17 func17 (c:=EM) rfl (aI (af a) (aI (af a2) trivial)) z<|by kernel_rfl
noncomputable def Bi:Code:=f16.body.getD .skip
def A7:List Nat:=[]
def oU:Option Bool:=
 (gN ([102]:ag) ([102]:ag) ([(lI 0 [0,1,1]),(lI 0 [1,0,0])]:List jA)).bind fun r1=>
 (eW ([r1]:List aa)).bind fun r2=>
 (gN ([102]:ag) ([102]:ag) ([(lI 0 [0,1,0]),(lI 0 [1,0,0])]:List jA)).bind fun r3=>
 (eW ([r3]:List aa)).bind fun r4=>
 (gN ([102]:ag) ([103]:ag) ([(lI 0 [0,1,1])]:List jA)).bind fun r5=>
 (gN ([103]:ag) ([104]:ag) ([(lI 0 [1,2,0])]:List jA)).bind fun r6=>
 (df r5 r6).bind fun r7=>
 (gN ([102]:ag) ([102]:ag) ([(lI 0 [0,1,1]),(lI 0 [1,0,0])]:List jA)).bind fun r8=>
 (gL ([r8]:List aa)).bind fun r9=>
 if r2.1 = true then
  if (r2.2 == 0) = true then
   if (!r4.1) = true then
    if (r4.2 == 0) = true then
     if (r7.2 == 0) = true then
      (gN ([102]:ag) ([104]:ag) ([(lI 0 [0,2,1])]:List jA)).bind fun r20=>
      (jE r7.1 r20).bind fun r21=>
      if r21=true then
       (jG r7.1).bind fun r24=>
       if (r24 == ([102,32,45,62,32,104,58,32,48,32,62,32,50]:ag)) = true then
        if (decide ((r9.1.length:Int) ≥ 2)) = true then
         if(r9.2==0)=true then
          (bV r7.1).bind fun r31=>
          if(r31==0)=true then
           (gN ([102]:ag) ([102]:ag) ([(lI 0 [0,6,0])]:List jA)).bind fun r34=>
           (bV r34).bind fun r35=>
           some (r35==2)
          else
           some false
         else
          some false
        else
         some false
       else
        some false
      else
       some false
     else
      some false
    else
     some false
   else
    some false
  else
   some false
 else
  some false
theorem qq {r:Bool} (h:oU = some r):CC Pg GE 16 [] (.bool r) []:=by
 obtain⟨r1,br1,h⟩:=av h
 obtain⟨r2,br2,h⟩:=av h
 obtain⟨r3,br3,h⟩:=av h
 obtain⟨r4,br4,h⟩:=av h
 obtain⟨r5,br5,h⟩:=av h
 obtain⟨r6,br6,h⟩:=av h
 obtain⟨r7,br7,h⟩:=av h
 obtain⟨r8,br8,h⟩:=av h
 obtain⟨r9,br9,h⟩:=av h
 have p11:=fun{sc F} (r:PS sc F)=>sv (cr 0 1 1)<|sv (cr 1 0 0)<|sv (xy.mk' (v:=oQ) jv ([(lI 0 [0,1,1]),(lI 0 [1,0,0])]:List jA) 2 (by kernel_rfl))<|co (ez br1)<|sv (gq.mk' (v:=mJ) kB ([r1]:List aa) 1 (by kernel_rfl))<|co (gw br2)<|sv (cr 0 1 0)<|sv (cr 1 0 0)<|sv (xy.mk' (v:=oQ) jv ([(lI 0 [0,1,0]),(lI 0 [1,0,0])]:List jA) 2 (by kernel_rfl))<|co (ez br3)<|sv (gq.mk' (v:=mJ) kB ([r3]:List aa) 1 (by kernel_rfl))<|co (gw br4)<|sv (cr 0 1 1)<|sv (xy.mk' (v:=oQ) jv ([(lI 0 [0,1,1])]:List jA) 1 (by kernel_rfl))<|co (ez br5)<|sv (cr 1 2 0)<|sv (xy.mk' (v:=oQ) jv ([(lI 0 [1,2,0])]:List jA) 1 (by kernel_rfl))<|co (ez br6)<|co (iI br7)<|sx qY<|sx (fF r7.1)<|sv (cr 0 1 1)<|sv (cr 1 0 0)<|sv (xy.mk' (v:=oQ) jv ([(lI 0 [0,1,1]),(lI 0 [1,0,0])]:List jA) 2 (by kernel_rfl))<|co (ez br8)<|sv (gq.mk' (v:=mJ) kB ([r8]:List aa) 1 (by kernel_rfl))<|co (dj br9)<|yP [0,1,3,7,15,31,63,127,255,511,1023,2047,4095,8191,16383,32767,65535,131071,262143,262143,786431,1835007,4194303,8388607,16777215,33554431,67108863,134217727,268435455,536870911,1073741823,2147483647,4294967295,8589934591,17179869183,34359738367,68719476735,137438953471,274877906943,549755813887,1099511627775,2199023255551,4398046511103,8796093022207,17592186044415,35184372088831,70368744177663,140737488355327,281474976710655,562949953421311,1125899906842623]<|r
 rcases aM h with⟨c10,h⟩|⟨c10,h⟩
 ·have p13:=fun{sc F} (r:PS sc F)=>p11<|sg 2 c10<|r
  rcases aM h with⟨c12,h⟩|⟨c12,h⟩
  ·have p15:=fun{sc F} (r:PS sc F)=>p13<|sg 6 c12<|r
   rcases aM h with⟨c14,h⟩|⟨c14,h⟩
   ·have p17:=fun{sc F} (r:PS sc F)=>p15<|sg 10 c14<|r
    rcases aM h with⟨c16,h⟩|⟨c16,h⟩
    ·have p19:=fun{sc F} (r:PS sc F)=>p17<|sg 14 c16<|r
     rcases aM h with⟨c18,h⟩|⟨c18,h⟩
     ·obtain⟨r20,br20,h⟩:=av h
      obtain⟨r21,br21,h⟩:=av h
      have p23:=fun{sc F} (r:PS sc F)=>p19<|sg 18 c18<|sv (bK r7.1 [])<|sv (cr 0 2 1)<|sv (xy.mk' (v:=oQ) jv ([(lI 0 [0,2,1])]:List jA) 1 (by kernel_rfl))<|co (ez br20)<|co (kE br21)<|r
      rcases aM h with⟨c22,h⟩|⟨c22,h⟩
      ·obtain⟨r24,br24,h⟩:=av h
       have p26:=fun{sc F} (r:PS sc F)=>p23<|sg 25 c22<|sv (bK r7.1 [])<|co (kK br24)<|r
       rcases aM h with⟨c25,h⟩|⟨c25,h⟩
       ·have p28:=fun{sc F} (r:PS sc F)=>p26<|sg 30 c25<|eP (gq.ln r9.1)<|r
        rcases aM h with⟨c27,h⟩|⟨c27,h⟩
        ·have p30:=fun{sc F} (r:PS sc F)=>p28<|sg 35 c27<|r
         rcases aM h with⟨c29,h⟩|⟨c29,h⟩
         ·obtain⟨r31,br31,h⟩:=av h
          have p33:=fun{sc F} (r:PS sc F)=>p30<|sg 39 c29<|sv (bK r7.1 [])<|co (cK br31)<|r
          rcases aM h with⟨c32,h⟩|⟨c32,h⟩
          ·obtain⟨r34,br34,h⟩:=av h
           obtain⟨r35,br35,h⟩:=av h
           obtain rfl:=lf h
           have z:=p33<|sg 44 c32<|sv (cr 0 6 0)<|sv (xy.mk' (v:=oQ) jv ([(lI 0 [0,6,0])]:List jA) 1 (by kernel_rfl))<|co (ez br34)<|co (cK br35)<|en (aI (rP (.bool (r35==2)))<|trivial)
           exact bC A7 call16 func16 (c:=Bi) rfl trivial z<|by kernel_rfl
          ·obtain rfl:=lf h
           have z:=p33<|sg 44 c32<|en (aI (rP (.bool false))<|trivial)
           exact bC A7 call16 func16 (c:=Bi) rfl trivial z<|by kernel_rfl
         ·obtain rfl:=lf h
          have z:=p30<|sg 39 c29<|en (aI (rP (.bool false))<|trivial)
          exact bC A7 call16 func16 (c:=Bi) rfl trivial z<|by kernel_rfl
        ·obtain rfl:=lf h
         have z:=p28<|sg 35 c27<|en (aI (rP (.bool false))<|trivial)
         exact bC A7 call16 func16 (c:=Bi) rfl trivial z<|by kernel_rfl
       ·obtain rfl:=lf h
        have z:=p26<|sg 30 c25<|en (aI (rP (.bool false))<|trivial)
        exact bC A7 call16 func16 (c:=Bi) rfl trivial z<|by kernel_rfl
      ·obtain rfl:=lf h
       have z:=p23<|sg 25 c22<|en (aI (rP (.bool false))<|trivial)
       exact bC A7 call16 func16 (c:=Bi) rfl trivial z<|by kernel_rfl
     ·obtain rfl:=lf h
      have z:=p19<|sg 18 c18<|en (aI (rP (.bool false))<|trivial)
      exact bC A7 call16 func16 (c:=Bi) rfl trivial z<|by kernel_rfl
    ·obtain rfl:=lf h
     have z:=p17<|sg 14 c16<|en (aI (rP (.bool false))<|trivial)
     exact bC A7 call16 func16 (c:=Bi) rfl trivial z<|by kernel_rfl
   ·obtain rfl:=lf h
    have z:=p15<|sg 10 c14<|en (aI (rP (.bool false))<|trivial)
    exact bC A7 call16 func16 (c:=Bi) rfl trivial z<|by kernel_rfl
  ·obtain rfl:=lf h
   have z:=p13<|sg 6 c12<|en (aI (rP (.bool false))<|trivial)
   exact bC A7 call16 func16 (c:=Bi) rfl trivial z<|by kernel_rfl
 ·obtain rfl:=lf h
  have z:=p11<|sg 2 c10<|en (aI (rP (.bool false))<|trivial)
  exact bC A7 call16 func16 (c:=Bi) rfl trivial z<|by kernel_rfl
noncomputable def E9:Code:=f50.body.getD .skip
def EK:List Nat:=[10,15,25]
section
variable(s:ag)(t7:Int)(out:waC)(begin:Int)(t8:Int)
def dU:al:=be 31 [(0,.str s),(3,sl cS out),(4,.int .i64 begin),(7,.int .i64 t7),(8,.int .i64 t8)] [] [((3,0),9)]
def kh(o:waC×Int):al:=be 31 [(0,.str s),(3,sl cS o.1),(4,.int .i64 o.2)] [] [((3,0),9)]
def fl:Option ((waC×Int×Int)⊕((waC×Int))):=
 if(decide (t8<t7))=true then
  (fY s t8).bind fun c2=>
  if(c2==46)=true then
   (yQ s (some begin) (some t8)).bind fun s5=>
   (app out ([s5]:List ag)).bind fun l6=>
   some (.inl (l6,b5 (t8+1),b5 (t8+1)))
  else
   some (.inl (out,begin,b5 (t8+1)))
 else
  some (.inr (out,begin))
def mM:Option ((waC×Int)):=loop (fun(zz:waC×Int×Int)=>fl s t7 zz.1 zz.2.1 zz.2.2) (out,begin,t8)
theorem rj{y:(waC×Int×Int)⊕((waC×Int))}(h:fl s t7 out begin t8=some y):aE Pg GE 0 (cA E9 247) (LQ (fun(zz:waC×Int×Int)=>dU s t7 zz.1 zz.2.1 zz.2.2) (fun _=>.exit 0) (kh s) y) (dU s t7 out begin t8):=by
 rcases aM h with⟨c1,h⟩|⟨c1,h⟩
 ·obtain⟨c2,bc2,h⟩:=av h
  have p4:=fun{sc F} (r:PS sc F)=>sg 0 c1<|sv (dN (k:=.i64) underlying9 bc2)<|r
  rcases aM h with⟨c3,h⟩|⟨c3,h⟩
  ·obtain⟨s5,bs5,h⟩:=av h
   obtain⟨l6,bl6,h⟩:=av h
   obtain rfl:=lf h
   exact rf EK (p4<|sg 0 c3<|sv (Ao underlying9 bs5)<|sv (oH.mk' (v:=PVal.str) Fm ([s5]:List ag) 1 (by kernel_rfl))<|sv (oH.ap bl6)<|eF .normal (dU s t7 l6 (b5 (t8+1)) (b5 (t8+1))))<|by kernel_rfl
  ·obtain rfl:=lf h
   exact rf EK (p4<|sg 0 c3<|eF .normal (dU s t7 out begin (b5 (t8+1))))<|by kernel_rfl
 ·obtain rfl:=lf h
  have z:=sg 0 c1<|eF (.exit 0) (kh s (out,begin))
  exact jK EK (by intro hx;cases hx) z<|by kernel_rfl
theorem sY{x:(waC×Int)}(h:mM s t7 out begin t8=some x):aE Pg GE 0 (.loop (cA E9 247)) (EX (.exit 0) (kh s x)) (dU s t7 out begin t8):=
 aE.loop (S:=fun(zz:waC×Int×Int)=>dU s t7 zz.1 zz.2.1 zz.2.2) (ex:=(fun _=>.exit 0)) (s:=(out,begin,t8)) h fun zz y hy=>rj s t7 zz.1 zz.2.1 zz.2.2 hy
end
def oT(s:ag):Option waC:=
 (mM s (s.length:Int) ([]:List ag) 0 0).bind fun o7=>
 (yQ s (some o7.2) none).bind fun s8=>
 (app o7.1 ([s8]:List ag)).bind fun l9=>
 some l9
theorem wP{s:ag}{r:waC}(h:oT s=some r):CC Pg GE 50 [.str s] (sl cS r) [(0,9)]:=by
 obtain⟨o7,bo7,h⟩:=av h
 obtain⟨s8,bs8,h⟩:=av h
 obtain⟨l9,bl9,h⟩:=av h
 obtain rfl:=lf h
 have z:=eP (dq underlying9 s)<|dG (sY s (s.length:Int) ([]:List ag) 0 0 bo7)<|sv (Ao underlying9 bs8)<|sv (oH.mk' (v:=PVal.str) Fm ([s8]:List ag) 1 (by kernel_rfl))<|sv (oH.ap bl9)<|en (aI (rP (sl cS l9))<|(aB Eh l9))
 exact bC EK call50 func50 (c:=E9) rfl (aI trivial trivial) z<|by kernel_rfl
noncomputable def FV:Code:=f70.body.getD .skip
def FE:List Nat:=[]
def fL(c:Int):Option Bool:=
 if(decide (c>=97))=true then
  some (decide (c<=122))
 else
  some false
theorem fN{c:Int}{r:Bool}(h:fL c=some r):CC Pg GE 70 [.int .u8 c] (.bool r) []:=by
 rcases aM h with⟨c1,h⟩|⟨c1,h⟩
 ·obtain rfl:=lf h
  have z:=sg 3 c1<|en (aI (rP (.bool (decide (c<=122))))<|trivial)
  exact bC FE call70 func70 (c:=FV) rfl (aI trivial trivial) z<|by kernel_rfl
 ·obtain rfl:=lf h
  have z:=sg 3 c1<|en (aI (rP (.bool false))<|trivial)
  exact bC FE call70 func70 (c:=FV) rfl (aI trivial trivial) z<|by kernel_rfl
noncomputable def Gf:Code:=f88.body.getD .skip
def F9:List Nat:=[]
def mL:Option waC:=
 some ([([97,110,100]:ag),([97,115,115,117,109,101]:ag),([98,111,111,108]:ag),([98,111,117,110,100]:ag),([99,97,115,101]:ag),([99,101,108,108]:ag),([99,108,97,115,115]:ag),([100,97,116,97]:ag),([100,101,102]:ag),([100,105,118]:ag),([101,108,115,101]:ag),([101,110,100]:ag),([102,97,108,115,101]:ag),([102,111,114,97,108,108]:ag),([102,117,110]:ag),([103,101,116]:ag),([105,102]:ag),([105,110]:ag),([105,110,115,116]:ag),([105,110,116]:ag),([105,110,118,97,114,105,97,110,116]:ag),([108,101,116]:ag),([109,97,116,99,104]:ag),([109,101,97,115,117,114,101]:ag),([109,101,116,114,105,99]:ag),([109,111,100]:ag),([109,117]:ag),([110,101,119]:ag),([110,111,116]:ag),([111,102]:ag),([111,114]:ag),([113,117,97,108]:ag),([114,101,102,108,101,99,116]:ag),([115,101,116]:ag),([116,104,101,110]:ag),([116,114,117,101]:ag),([117,115,101]:ag),([118]:ag),([118,97,108]:ag),([116,97,103]:ag),([119,104,101,114,101]:ag),([119,105,116,104]:ag)]:List ag)
theorem sW{r:waC}(h:mL=some r):CC Pg GE 88 [] (sl cS r) [(0,9)]:=by
 obtain rfl:=lf h
 have z:=sv (oH.mk' (v:=PVal.str) Fm ([([97,110,100]:ag),([97,115,115,117,109,101]:ag),([98,111,111,108]:ag),([98,111,117,110,100]:ag),([99,97,115,101]:ag),([99,101,108,108]:ag),([99,108,97,115,115]:ag),([100,97,116,97]:ag),([100,101,102]:ag),([100,105,118]:ag),([101,108,115,101]:ag),([101,110,100]:ag),([102,97,108,115,101]:ag),([102,111,114,97,108,108]:ag),([102,117,110]:ag),([103,101,116]:ag),([105,102]:ag),([105,110]:ag),([105,110,115,116]:ag),([105,110,116]:ag),([105,110,118,97,114,105,97,110,116]:ag),([108,101,116]:ag),([109,97,116,99,104]:ag),([109,101,97,115,117,114,101]:ag),([109,101,116,114,105,99]:ag),([109,111,100]:ag),([109,117]:ag),([110,101,119]:ag),([110,111,116]:ag),([111,102]:ag),([111,114]:ag),([113,117,97,108]:ag),([114,101,102,108,101,99,116]:ag),([115,101,116]:ag),([116,104,101,110]:ag),([116,114,117,101]:ag),([117,115,101]:ag),([118]:ag),([118,97,108]:ag),([116,97,103]:ag),([119,104,101,114,101]:ag),([119,105,116,104]:ag)]:List ag) 42 (by kernel_rfl))<|en (aI (rP (sl cS ([([97,110,100]:ag),([97,115,115,117,109,101]:ag),([98,111,111,108]:ag),([98,111,117,110,100]:ag),([99,97,115,101]:ag),([99,101,108,108]:ag),([99,108,97,115,115]:ag),([100,97,116,97]:ag),([100,101,102]:ag),([100,105,118]:ag),([101,108,115,101]:ag),([101,110,100]:ag),([102,97,108,115,101]:ag),([102,111,114,97,108,108]:ag),([102,117,110]:ag),([103,101,116]:ag),([105,102]:ag),([105,110]:ag),([105,110,115,116]:ag),([105,110,116]:ag),([105,110,118,97,114,105,97,110,116]:ag),([108,101,116]:ag),([109,97,116,99,104]:ag),([109,101,97,115,117,114,101]:ag),([109,101,116,114,105,99]:ag),([109,111,100]:ag),([109,117]:ag),([110,101,119]:ag),([110,111,116]:ag),([111,102]:ag),([111,114]:ag),([113,117,97,108]:ag),([114,101,102,108,101,99,116]:ag),([115,101,116]:ag),([116,104,101,110]:ag),([116,114,117,101]:ag),([117,115,101]:ag),([118]:ag),([118,97,108]:ag),([116,97,103]:ag),([119,104,101,114,101]:ag),([119,105,116,104]:ag)]:List ag)))<|(aB Eh ([([97,110,100]:ag),([97,115,115,117,109,101]:ag),([98,111,111,108]:ag),([98,111,117,110,100]:ag),([99,97,115,101]:ag),([99,101,108,108]:ag),([99,108,97,115,115]:ag),([100,97,116,97]:ag),([100,101,102]:ag),([100,105,118]:ag),([101,108,115,101]:ag),([101,110,100]:ag),([102,97,108,115,101]:ag),([102,111,114,97,108,108]:ag),([102,117,110]:ag),([103,101,116]:ag),([105,102]:ag),([105,110]:ag),([105,110,115,116]:ag),([105,110,116]:ag),([105,110,118,97,114,105,97,110,116]:ag),([108,101,116]:ag),([109,97,116,99,104]:ag),([109,101,97,115,117,114,101]:ag),([109,101,116,114,105,99]:ag),([109,111,100]:ag),([109,117]:ag),([110,101,119]:ag),([110,111,116]:ag),([111,102]:ag),([111,114]:ag),([113,117,97,108]:ag),([114,101,102,108,101,99,116]:ag),([115,101,116]:ag),([116,104,101,110]:ag),([116,114,117,101]:ag),([117,115,101]:ag),([118]:ag),([118,97,108]:ag),([116,97,103]:ag),([119,104,101,114,101]:ag),([119,105,116,104]:ag)]:List ag)))
 exact bC F9 call88 func88 (c:=Gf) rfl trivial z<|by kernel_rfl
noncomputable def ER:Code:=f87.body.getD .skip
def DZ:List Nat:=[10,17]
section
variable(v:waC)(s:ag)(t7:Int)(t8:Int)
def gb:al:=be 19 [(0,sl cS v),(1,.str s),(7,.int .i64 t7),(8,.int .i64 t8)] [] []
def gf(o:Int⊕(Unit)):Exit:=match o with
 |(.inl _)=>.ret
 |(.inr _)=>.exit 0
def eR(o:Int⊕(Unit)):al:=match o with
 |(.inl o)=>be 19 [(4,.int .i64 o)] [] []
 |(.inr o)=>be 19 [] [] []
def gd:Option (Int⊕(Int⊕(Unit))):=
 if(decide (t8<t7))=true then
  (gz v t8).bind fun x2=>
  if(x2==s)=true then
   some (.inr (.inl t8))
  else
   some (.inl (b5 (t8+1)))
 else
  some (.inr (.inr ()))
def nU:Option (Int⊕(Unit)):=loop (fun(zz:Int)=>gd v s t7 zz) t8
theorem sP{y:Int⊕(Int⊕(Unit))}(h:gd v s t7 t8=some y):aE Pg GE 0 (cA ER 55) (LQ (fun(zz:Int)=>gb v s t7 zz) gf eR y) (gb v s t7 t8):=by
 rcases aM h with⟨c1,h⟩|⟨c1,h⟩
 ·obtain⟨x2,bx2,h⟩:=av h
  have p4:=fun{sc F} (r:PS sc F)=>sg 0 c1<|sv (oH.ia (k:=.i64) bx2)<|sv (ng EE (.str x2) [])<|r
  rcases aM h with⟨c3,h⟩|⟨c3,h⟩
  ·obtain rfl:=lf h
   have z:=p4<|sg 0 c3<|eF (gf (.inl t8)) (eR (.inl t8))
   exact jK DZ (by intro hx;cases hx) z<|by kernel_rfl
  ·obtain rfl:=lf h
   exact rf DZ (p4<|sg 0 c3<|eF .normal (gb v s t7 (b5 (t8+1))))<|by kernel_rfl
 ·obtain rfl:=lf h
  have z:=sg 0 c1<|eF (gf (.inr ())) (eR (.inr ()))
  exact jK DZ (by intro hx;cases hx) z<|by kernel_rfl
theorem nV{x:Int⊕(Unit)}(h:nU v s t7 t8=some x):aE Pg GE 0 (.loop (cA ER 55)) (EX (gf x) (eR x)) (gb v s t7 t8):=
 aE.loop (S:=fun(zz:Int)=>gb v s t7 zz) (ex:=gf) (s:=t8) h fun zz y hy=>sP v s t7 zz hy
end
def qj(a:waC)(s:ag):Option Int:=
 (nU a s (a.length:Int) 0).bind fun o5=>match o5 with
 |(.inl o5)=>
  some o5
 |(.inr o5)=>
  some (-1)
theorem xP{a:waC}{s:ag}{r:Int}(h:qj a s=some r):CC Pg GE 87 [sl cS a,.str s] (.int .i64 r) []:=by
 obtain⟨o5,bo5,h⟩:=av h
 rcases o5 with o5|o5
 ·obtain rfl:=lf h
  have z:=eP (oH.ln a)<|dG (e:=.ret) (s1:=eR (.inl o5)) (nV a s (a.length:Int) 0 bo5)<|en (aI (rP (.int .i64 o5))<|trivial)
  exact bC DZ call87 func87 (c:=ER) rfl (aI (aB Eh a) (aI trivial trivial)) z<|by kernel_rfl
 ·obtain rfl:=lf h
  have z:=eP (oH.ln a)<|dG (e:=.exit 0) (s1:=eR (.inr o5)) (nV a s (a.length:Int) 0 bo5)<|en (aI (rP (.int .i64 (-1)))<|trivial)
  exact bC DZ call87 func87 (c:=ER) rfl (aI (aB Eh a) (aI trivial trivial)) z<|by kernel_rfl
noncomputable def Gc:Code:=f71.body.getD .skip
def F6:List Nat:=[]
def lk(s:ag):Option Bool:=
 mL.bind fun r1=>
 (qj r1 s).bind fun r2=>
 some (decide (r2>=0))
theorem tJ{s:ag}{r:Bool}(h:lk s=some r):CC Pg GE 71 [.str s] (.bool r) []:=by
 obtain⟨r1,br1,h⟩:=av h
 obtain⟨r2,br2,h⟩:=av h
 obtain rfl:=lf h
 have z:=co (sW br1)<|co (xP br2)<|en (aI (rP (.bool (decide (r2>=0))))<|trivial)
 exact bC F6 call71 func71 (c:=Gc) rfl (aI trivial trivial) z<|by kernel_rfl
noncomputable def FW:Code:=f72.body.getD .skip
def FF:List Nat:=[]
def iM(c:Int):Option Bool:=
 if(decide (c>=48))=true then
  some (decide (c<=57))
 else
  some false
theorem jY{c:Int}{r:Bool}(h:iM c=some r):CC Pg GE 72 [.int .u8 c] (.bool r) []:=by
 rcases aM h with⟨c1,h⟩|⟨c1,h⟩
 ·obtain rfl:=lf h
  have z:=sg 3 c1<|en (aI (rP (.bool (decide (c<=57))))<|trivial)
  exact bC FF call72 func72 (c:=FW) rfl (aI trivial trivial) z<|by kernel_rfl
 ·obtain rfl:=lf h
  have z:=sg 3 c1<|en (aI (rP (.bool false))<|trivial)
  exact bC FF call72 func72 (c:=FW) rfl (aI trivial trivial) z<|by kernel_rfl
noncomputable def Dj:Code:=f51.body.getD .skip
def As:List Nat:=[26]
section
variable(s:ag)
def tE:al:=be 46 [(0,.str s)] [] []
def fe(o:Bool):al:=be 46 [(0,.str s),(21,.bool o)] [] []
def jR:Option Bool:=
 if(decide ((s.length:Int)<1))=true then
  some true
 else
  if(decide ((s.length:Int)>24))=true then
   some true
  else
   (fY s 0).bind fun c4=>
   (fL c4).bind fun r5=>
   if(!r5)=true then
    some true
   else
    (lk s).bind fun r8=>
    some r8
theorem sK{x:Bool}(h:jR s=some x):aE Pg GE 0 (cA Dj 12) (EX .normal (fe s x)) (tE s):=by
 rcases aM h with⟨c1,h⟩|⟨c1,h⟩
 ·obtain rfl:=lf h
  exact dH As (eP (dq underlying9 s)<|sg 4 c1<|eF .normal (fe s true))<|by kernel_rfl
 ·have p3:=fun{sc F} (r:PS sc F)=>eP (dq underlying9 s)<|sg 4 c1<|eP (dq underlying9 s)<|r
  rcases aM h with⟨c2,h⟩|⟨c2,h⟩
  ·obtain rfl:=lf h
   exact dH As (p3<|sg 9 c2<|eF .normal (fe s true))<|by kernel_rfl
  ·obtain⟨c4,bc4,h⟩:=av h
   obtain⟨r5,br5,h⟩:=av h
   have p7:=fun{sc F} (r:PS sc F)=>p3<|sg 9 c2<|sv (dN (k:=.i64) underlying9 bc4)<|co (fN br5)<|r
   rcases aM h with⟨c6,h⟩|⟨c6,h⟩
   ·obtain rfl:=lf h
    exact dH As (p7<|sg 15 c6<|eF .normal (fe s true))<|by kernel_rfl
   ·obtain⟨r8,br8,h⟩:=av h
    obtain rfl:=lf h
    exact dH As (p7<|sg 15 c6<|co (tJ br8)<|eF .normal (fe s r8))<|by kernel_rfl
end
section
variable(s:ag)(i:Int)(t23:Int)
def tF:al:=be 46 [(0,.str s),(3,.int .i64 i),(23,.int .i64 t23),(24,.int .i64 i)] [] []
def hZ(o:Bool):al:=be 46 [(0,.str s),(23,.int .i64 t23),(24,.int .i64 i),(44,.bool o)] [] []
def jS:Option Bool:=
 (fY s i).bind fun c13=>
 (fL c13).bind fun r14=>
 if(!r14)=true then
  (fY s i).bind fun c17=>
  (iM c17).bind fun r18=>
  if(!r18)=true then
   (fY s i).bind fun c21=>
   some (c21 !=95)
  else
   some false
 else
  some false
theorem sM{x:Bool}(h:jS s i=some x):aE Pg GE 0 (cA Dj 7670) (EX .normal (hZ s i t23 x)) (tF s i t23):=by
 obtain⟨c13,bc13,h⟩:=av h
 obtain⟨r14,br14,h⟩:=av h
 have p16:=fun{sc F} (r:PS sc F)=>sv (dN (k:=.i64) underlying9 bc13)<|co (fN br14)<|r
 rcases aM h with⟨c15,h⟩|⟨c15,h⟩
 ·obtain⟨c17,bc17,h⟩:=av h
  obtain⟨r18,br18,h⟩:=av h
  have p20:=fun{sc F} (r:PS sc F)=>p16<|sg 6 c15<|sv (dN (k:=.i64) underlying9 bc17)<|co (jY br18)<|r
  rcases aM h with⟨c19,h⟩|⟨c19,h⟩
  ·obtain⟨c21,bc21,h⟩:=av h
   obtain rfl:=lf h
   exact dH As (p20<|sg 13 c19<|sv (dN (k:=.i64) underlying9 bc21)<|eF .normal (hZ s i t23 (c21 !=95)))<|by kernel_rfl
  ·obtain rfl:=lf h
   exact dH As (p20<|sg 13 c19<|eF .normal (hZ s i t23 false))<|by kernel_rfl
 ·obtain rfl:=lf h
  exact dH As (p16<|sg 6 c15<|eF .normal (hZ s i t23 false))<|by kernel_rfl
end
section
variable(s:ag)(t23:Int)(t24:Int)
def ff:al:=be 46 [(0,.str s),(23,.int .i64 t23),(24,.int .i64 t24)] [] []
def fh(o:Unit⊕(Unit)):Exit:=match o with
 |(.inl _)=>.ret
 |(.inr _)=>.exit 0
def dS(o:Unit⊕(Unit)):al:=match o with
 |(.inl o)=>be 46 [(2,.int .i64 3)] [] []
 |(.inr o)=>be 46 [] [] []
def fg:Option (Int⊕(Unit⊕(Unit))):=
 if(decide (t24<t23))=true then
  (jS s t24).bind fun o22=>
  if o22=true then
   some (.inr (.inl ()))
  else
   some (.inl (b5 (t24+1)))
 else
  some (.inr (.inr ()))
def jT:Option (Unit⊕(Unit)):=loop (fun(zz:Int)=>fg s t23 zz) t24
theorem rh{y:Int⊕(Unit⊕(Unit))}(h:fg s t23 t24=some y):aE Pg GE 0 (cA Dj 119) (LQ (fun(zz:Int)=>ff s t23 zz) fh dS y) (ff s t23 t24):=by
 rcases aM h with⟨c12,h⟩|⟨c12,h⟩
 ·obtain⟨o22,bo22,h⟩:=av h
  have p24:=fun{sc F} (r:PS sc F)=>sg 0 c12<|pH 2<|dG (sM s t24 t23 bo22)<|r
  rcases aM h with⟨c23,h⟩|⟨c23,h⟩
  ·obtain rfl:=lf h
   have z:=p24<|sg 0 c23<|eF (fh (.inl ())) (dS (.inl ()))
   exact jK As (by intro hx;cases hx) z<|by kernel_rfl
  ·obtain rfl:=lf h
   exact rf As (p24<|sg 0 c23<|eF .normal (ff s t23 (b5 (t24+1))))<|by kernel_rfl
 ·obtain rfl:=lf h
  have z:=sg 0 c12<|eF (fh (.inr ())) (dS (.inr ()))
  exact jK As (by intro hx;cases hx) z<|by kernel_rfl
theorem nv{x:Unit⊕(Unit)}(h:jT s t23 t24=some x):aE Pg GE 0 (.loop (cA Dj 119)) (EX (fh x) (dS x)) (ff s t23 t24):=
 aE.loop (S:=fun(zz:Int)=>ff s t23 zz) (ex:=fh) (s:=t24) h fun zz y hy=>rh s t23 zz hy
end
def oR(s:ag):Option Int:=
 (jR s).bind fun o9=>
 if o9=true then
  some 3
 else
  (jT s (s.length:Int) 0).bind fun o25=>match o25 with
  |(.inl o25)=>
   some 3
  |(.inr o25)=>
   some 0
theorem wL{s:ag}{r:Int}(h:oR s=some r):CC Pg GE 51 [.str s] (.int .i64 r) []:=by
 obtain⟨o9,bo9,h⟩:=av h
 have p11:=fun{sc F} (r:PS sc F)=>pH 2<|dG (sK s bo9)<|r
 rcases aM h with⟨c10,h⟩|⟨c10,h⟩
 ·obtain rfl:=lf h
  have z:=p11<|sg 0 c10<|en (aI (rP (.int .i64 3))<|trivial)
  exact bC As call51 func51 (c:=Dj) rfl (aI trivial trivial) z<|by kernel_rfl
 ·obtain⟨o25,bo25,h⟩:=av h
  rcases o25 with o25|o25
  ·obtain rfl:=lf h
   have z:=p11<|sg 0 c10<|eP (dq underlying9 s)<|dG (e:=.ret) (s1:=dS (.inl o25)) (nv s (s.length:Int) 0 bo25)<|en (aI (rP (.int .i64 3))<|trivial)
   exact bC As call51 func51 (c:=Dj) rfl (aI trivial trivial) z<|by kernel_rfl
  ·obtain rfl:=lf h
   have z:=p11<|sg 0 c10<|eP (dq underlying9 s)<|dG (e:=.exit 0) (s1:=dS (.inr o25)) (nv s (s.length:Int) 0 bo25)<|en (aI (rP (.int .i64 0))<|trivial)
   exact bC As call51 func51 (c:=Dj) rfl (aI trivial trivial) z<|by kernel_rfl
noncomputable def FX:Code:=f73.body.getD .skip
def FH:List Nat:=[]
def gM(c:Int):Option Bool:=
 if(decide (c>=65))=true then
  some (decide (c<=90))
 else
  some false
theorem kg{c:Int}{r:Bool}(h:gM c=some r):CC Pg GE 73 [.int .u8 c] (.bool r) []:=by
 rcases aM h with⟨c1,h⟩|⟨c1,h⟩
 ·obtain rfl:=lf h
  have z:=sg 3 c1<|en (aI (rP (.bool (decide (c<=90))))<|trivial)
  exact bC FH call73 func73 (c:=FX) rfl (aI trivial trivial) z<|by kernel_rfl
 ·obtain rfl:=lf h
  have z:=sg 3 c1<|en (aI (rP (.bool false))<|trivial)
  exact bC FH call73 func73 (c:=FX) rfl (aI trivial trivial) z<|by kernel_rfl
noncomputable def Dk:Code:=f52.body.getD .skip
def yY:List Nat:=[38]
section
variable(s:ag)
def tK:al:=be 59 [(0,.str s)] [] []
def ct(o:Bool):al:=be 59 [(0,.str s),(33,.bool o)] [] []
def jU:Option Bool:=
 if(decide ((s.length:Int)<1))=true then
  some true
 else
  if(decide ((s.length:Int)>24))=true then
   some true
  else
   (fY s 0).bind fun c4=>
   (gM c4).bind fun r5=>
   if(!r5)=true then
    some true
   else
    if(s==([73,110,116]:ag))=true then
     some true
    else
     if(s==([66,111,111,108]:ag))=true then
      some true
     else
      if(s==([67,101,108,108]:ag))=true then
       some true
      else
       some (s==([70,117,110]:ag))
theorem sR{x:Bool}(h:jU s=some x):aE Pg GE 0 (cA Dk 12) (EX .normal (ct s x)) (tK s):=by
 rcases aM h with⟨c1,h⟩|⟨c1,h⟩
 ·obtain rfl:=lf h
  exact dH yY (eP (dq underlying9 s)<|sg 4 c1<|eF .normal (ct s true))<|by kernel_rfl
 ·have p3:=fun{sc F} (r:PS sc F)=>eP (dq underlying9 s)<|sg 4 c1<|eP (dq underlying9 s)<|r
  rcases aM h with⟨c2,h⟩|⟨c2,h⟩
  ·obtain rfl:=lf h
   exact dH yY (p3<|sg 9 c2<|eF .normal (ct s true))<|by kernel_rfl
  ·obtain⟨c4,bc4,h⟩:=av h
   obtain⟨r5,br5,h⟩:=av h
   have p7:=fun{sc F} (r:PS sc F)=>p3<|sg 9 c2<|sv (dN (k:=.i64) underlying9 bc4)<|co (kg br5)<|r
   rcases aM h with⟨c6,h⟩|⟨c6,h⟩
   ·obtain rfl:=lf h
    exact dH yY (p7<|sg 15 c6<|eF .normal (ct s true))<|by kernel_rfl
   ·have p9:=fun{sc F} (r:PS sc F)=>p7<|sg 15 c6<|r
    rcases aM h with⟨c8,h⟩|⟨c8,h⟩
    ·obtain rfl:=lf h
     exact dH yY (p9<|sg 19 c8<|eF .normal (ct s true))<|by kernel_rfl
    ·have p11:=fun{sc F} (r:PS sc F)=>p9<|sg 19 c8<|r
     rcases aM h with⟨c10,h⟩|⟨c10,h⟩
     ·obtain rfl:=lf h
      exact dH yY (p11<|sg 23 c10<|eF .normal (ct s true))<|by kernel_rfl
     ·have p13:=fun{sc F} (r:PS sc F)=>p11<|sg 23 c10<|r
      rcases aM h with⟨c12,h⟩|⟨c12,h⟩
      ·obtain rfl:=lf h
       exact dH yY (p13<|sg 27 c12<|eF .normal (ct s true))<|by kernel_rfl
      ·obtain rfl:=lf h
       exact dH yY (p13<|sg 27 c12<|eF .normal (ct s (s==([70,117,110]:ag))))<|by kernel_rfl
end
section
variable(s:ag)(i:Int)(t35:Int)
def tL:al:=be 59 [(0,.str s),(3,.int .i64 i),(35,.int .i64 t35),(36,.int .i64 i)] [] []
def h9(o:Bool):al:=be 59 [(0,.str s),(35,.int .i64 t35),(36,.int .i64 i),(57,.bool o)] [] []
def jV:Option Bool:=
 (fY s i).bind fun c18=>
 (fL c18).bind fun r19=>
 if(!r19)=true then
  (fY s i).bind fun c22=>
  (gM c22).bind fun r23=>
  if(!r23)=true then
   (fY s i).bind fun c26=>
   (iM c26).bind fun r27=>
   some (!r27)
  else
   some false
 else
  some false
theorem sT{x:Bool}(h:jV s i=some x):aE Pg GE 0 (cA Dk 7670) (EX .normal (h9 s i t35 x)) (tL s i t35):=by
 obtain⟨c18,bc18,h⟩:=av h
 obtain⟨r19,br19,h⟩:=av h
 have p21:=fun{sc F} (r:PS sc F)=>sv (dN (k:=.i64) underlying9 bc18)<|co (fN br19)<|r
 rcases aM h with⟨c20,h⟩|⟨c20,h⟩
 ·obtain⟨c22,bc22,h⟩:=av h
  obtain⟨r23,br23,h⟩:=av h
  have p25:=fun{sc F} (r:PS sc F)=>p21<|sg 6 c20<|sv (dN (k:=.i64) underlying9 bc22)<|co (kg br23)<|r
  rcases aM h with⟨c24,h⟩|⟨c24,h⟩
  ·obtain⟨c26,bc26,h⟩:=av h
   obtain⟨r27,br27,h⟩:=av h
   obtain rfl:=lf h
   exact dH yY (p25<|sg 13 c24<|sv (dN (k:=.i64) underlying9 bc26)<|co (jY br27)<|eF .normal (h9 s i t35 (!r27)))<|by kernel_rfl
  ·obtain rfl:=lf h
   exact dH yY (p25<|sg 13 c24<|eF .normal (h9 s i t35 false))<|by kernel_rfl
 ·obtain rfl:=lf h
  exact dH yY (p21<|sg 6 c20<|eF .normal (h9 s i t35 false))<|by kernel_rfl
end
section
variable(s:ag)(t35:Int)(t36:Int)
def fi:al:=be 59 [(0,.str s),(35,.int .i64 t35),(36,.int .i64 t36)] [] []
def fk(o:Unit⊕(Unit)):Exit:=match o with
 |(.inl _)=>.ret
 |(.inr _)=>.exit 0
def dT(o:Unit⊕(Unit)):al:=match o with
 |(.inl o)=>be 59 [(2,.int .i64 3)] [] []
 |(.inr o)=>be 59 [] [] []
def fj:Option (Int⊕(Unit⊕(Unit))):=
 if(decide (t36<t35))=true then
  (jV s t36).bind fun o28=>
  if o28=true then
   some (.inr (.inl ()))
  else
   some (.inl (b5 (t36+1)))
 else
  some (.inr (.inr ()))
def jW:Option (Unit⊕(Unit)):=loop (fun(zz:Int)=>fj s t35 zz) t36
theorem ri{y:Int⊕(Unit⊕(Unit))}(h:fj s t35 t36=some y):aE Pg GE 0 (cA Dk 119) (LQ (fun(zz:Int)=>fi s t35 zz) fk dT y) (fi s t35 t36):=by
 rcases aM h with⟨c17,h⟩|⟨c17,h⟩
 ·obtain⟨o28,bo28,h⟩:=av h
  have p30:=fun{sc F} (r:PS sc F)=>sg 0 c17<|pH 2<|dG (sT s t36 t35 bo28)<|r
  rcases aM h with⟨c29,h⟩|⟨c29,h⟩
  ·obtain rfl:=lf h
   have z:=p30<|sg 0 c29<|eF (fk (.inl ())) (dT (.inl ()))
   exact jK yY (by intro hx;cases hx) z<|by kernel_rfl
  ·obtain rfl:=lf h
   exact rf yY (p30<|sg 0 c29<|eF .normal (fi s t35 (b5 (t36+1))))<|by kernel_rfl
 ·obtain rfl:=lf h
  have z:=sg 0 c17<|eF (fk (.inr ())) (dT (.inr ()))
  exact jK yY (by intro hx;cases hx) z<|by kernel_rfl
theorem nw{x:Unit⊕(Unit)}(h:jW s t35 t36=some x):aE Pg GE 0 (.loop (cA Dk 119)) (EX (fk x) (dT x)) (fi s t35 t36):=
 aE.loop (S:=fun(zz:Int)=>fi s t35 zz) (ex:=fk) (s:=t36) h fun zz y hy=>ri s t35 zz hy
end
def oS(s:ag):Option Int:=
 (jU s).bind fun o14=>
 if o14=true then
  some 3
 else
  (jW s (s.length:Int) 0).bind fun o31=>match o31 with
  |(.inl o31)=>
   some 3
  |(.inr o31)=>
   some 0
theorem wN{s:ag}{r:Int}(h:oS s=some r):CC Pg GE 52 [.str s] (.int .i64 r) []:=by
 obtain⟨o14,bo14,h⟩:=av h
 have p16:=fun{sc F} (r:PS sc F)=>pH 2<|dG (sR s bo14)<|r
 rcases aM h with⟨c15,h⟩|⟨c15,h⟩
 ·obtain rfl:=lf h
  have z:=p16<|sg 0 c15<|en (aI (rP (.int .i64 3))<|trivial)
  exact bC yY call52 func52 (c:=Dk) rfl (aI trivial trivial) z<|by kernel_rfl
 ·obtain⟨o31,bo31,h⟩:=av h
  rcases o31 with o31|o31
  ·obtain rfl:=lf h
   have z:=p16<|sg 0 c15<|eP (dq underlying9 s)<|dG (e:=.ret) (s1:=dT (.inl o31)) (nw s (s.length:Int) 0 bo31)<|en (aI (rP (.int .i64 3))<|trivial)
   exact bC yY call52 func52 (c:=Dk) rfl (aI trivial trivial) z<|by kernel_rfl
  ·obtain rfl:=lf h
   have z:=p16<|sg 0 c15<|eP (dq underlying9 s)<|dG (e:=.exit 0) (s1:=dT (.inr o31)) (nw s (s.length:Int) 0 bo31)<|en (aI (rP (.int .i64 0))<|trivial)
   exact bC yY call52 func52 (c:=Dk) rfl (aI trivial trivial) z<|by kernel_rfl
noncomputable def Dl:Code:=f53.body.getD .skip
def zK:List Nat:=[21]
section
variable(p:ag)
def vg:al:=be 65 [(0,.str p)] [] []
def lE(o:Bool):al:=be 65 [(0,.str p),(13,.bool o)] [] []
def nW:Option Bool:=
 if(decide ((p.length:Int)<1))=true then
  some true
 else
  some (decide ((p.length:Int)>24))
theorem tM{x:Bool}(h:nW p=some x):aE Pg GE 0 (cA Dl 12) (EX .normal (lE p x)) (vg p):=by
 rcases aM h with⟨c1,h⟩|⟨c1,h⟩
 ·obtain rfl:=lf h
  exact dH zK (eP (dq underlying9 p)<|sg 4 c1<|eF .normal (lE p true))<|by kernel_rfl
 ·obtain rfl:=lf h
  exact dH zK (eP (dq underlying9 p)<|sg 4 c1<|eP (dq underlying9 p)<|eF .normal (lE p (decide ((p.length:Int)>24))))<|by kernel_rfl
end
section
variable(p:ag)(plain:Bool)(word:Bool)(i:Int)(t18:Int)
def vj:al:=be 65 [(0,.str p),(3,.bool plain),(4,.bool word),(5,.int .i64 i),(18,.int .i64 t18),(19,.int .i64 i)] [] []
def gg(o:Bool):al:=be 65 [(0,.str p),(3,.bool o),(4,.bool word),(5,.int .i64 i),(18,.int .i64 t18),(19,.int .i64 i)] [] []
def ll:Option Bool:=
 if plain=true then
  (fY p i).bind fun c9=>
  (fL c9).bind fun r10=>
  if r10=true then
   some true
  else
   (fY p i).bind fun c13=>
   (gM c13).bind fun r14=>
   if r14=true then
    some true
   else
    (fY p i).bind fun c17=>
    (iM c17).bind fun r18=>
    some r18
 else
  some false
theorem tO{x:Bool}(h:ll p plain i=some x):aE Pg GE 0 (cA Dl 32246) (EX .normal (gg p word i t18 x)) (vj p plain word i t18):=by
 rcases aM h with⟨c8,h⟩|⟨c8,h⟩
 ·obtain⟨c9,bc9,h⟩:=av h
  obtain⟨r10,br10,h⟩:=av h
  have p12:=fun{sc F} (r:PS sc F)=>sg 2 c8<|sv (dN (k:=.i64) underlying9 bc9)<|co (fN br10)<|r
  rcases aM h with⟨c11,h⟩|⟨c11,h⟩
  ·obtain rfl:=lf h
   exact dH zK (p12<|sg 7 c11<|eF .normal (gg p word i t18 true))<|by kernel_rfl
  ·obtain⟨c13,bc13,h⟩:=av h
   obtain⟨r14,br14,h⟩:=av h
   have p16:=fun{sc F} (r:PS sc F)=>p12<|sg 7 c11<|sv (dN (k:=.i64) underlying9 bc13)<|co (kg br14)<|r
   rcases aM h with⟨c15,h⟩|⟨c15,h⟩
   ·obtain rfl:=lf h
    exact dH zK (p16<|sg 13 c15<|eF .normal (gg p word i t18 true))<|by kernel_rfl
   ·obtain⟨c17,bc17,h⟩:=av h
    obtain⟨r18,br18,h⟩:=av h
    obtain rfl:=lf h
    exact dH zK (p16<|sg 13 c15<|sv (dN (k:=.i64) underlying9 bc17)<|co (jY br18)<|eF .normal (gg p word i t18 r18))<|by kernel_rfl
 ·obtain rfl:=lf h
  exact dH zK (sg 2 c8<|eF .normal (gg p word i t18 false))<|by kernel_rfl
end
section
variable(p:ag)(t18:Int)(plain:Bool)(word:Bool)(t19:Int)
def cO:al:=be 65 [(0,.str p),(3,.bool plain),(4,.bool word),(18,.int .i64 t18),(19,.int .i64 t19)] [] []
def lF(o:Bool×Bool):al:=be 65 [(3,.bool o.1),(4,.bool o.2)] [] []
def gh:Option ((Bool×Bool×Int)⊕((Bool×Bool))):=
 if (decide (t19 < t18)) = true then
  (ll p plain t19).bind fun o19=>
  if word=true then
   (fY p t19).bind fun c22=>
   (fL c22).bind fun r23=>
   if r23=true then
    some (.inl (o19,true,b5 (t19+1)))
   else
    (fY p t19).bind fun c26=>
    (iM c26).bind fun r27=>
    if r27=true then
     some (.inl (o19,true,b5 (t19+1)))
    else
     (fY p t19).bind fun c30=>
     some (.inl (o19,c30==95,b5 (t19+1)))
  else
   some (.inl (o19,false,b5 (t19+1)))
 else
  some (.inr (plain,word))
def lm:Option ((Bool×Bool)):=loop (fun(zz:Bool×Bool×Int)=>gh p t18 zz.1 zz.2.1 zz.2.2) (plain,word,t19)
theorem sX{y:(Bool×Bool×Int)⊕((Bool×Bool))}(h:gh p t18 plain word t19=some y):aE Pg GE 0 (cA Dl 503) (LQ (fun(zz:Bool×Bool×Int)=>cO p t18 zz.1 zz.2.1 zz.2.2) (fun _=>.exit 0) lF y) (cO p t18 plain word t19):=by
 rcases aM h with⟨c7,h⟩|⟨c7,h⟩
 ·obtain⟨o19,bo19,h⟩:=av h
  have p21:=fun{sc F} (r:PS sc F)=>sg 0 c7<|pH 2<|dG (tO p plain word t19 t18 bo19)<|r
  rcases aM h with⟨c20,h⟩|⟨c20,h⟩
  ·obtain⟨c22,bc22,h⟩:=av h
   obtain⟨r23,br23,h⟩:=av h
   have p25:=fun{sc F} (r:PS sc F)=>p21<|sg 2 c20<|sv (dN (k:=.i64) underlying9 bc22)<|co (fN br23)<|r
   rcases aM h with⟨c24,h⟩|⟨c24,h⟩
   ·obtain rfl:=lf h
    exact rf zK (p25<|sg 7 c24<|eF .normal (cO p t18 o19 true (b5 (t19+1))))<|by kernel_rfl
   ·obtain⟨c26,bc26,h⟩:=av h
    obtain⟨r27,br27,h⟩:=av h
    have p29:=fun{sc F} (r:PS sc F)=>p25<|sg 7 c24<|sv (dN (k:=.i64) underlying9 bc26)<|co (jY br27)<|r
    rcases aM h with⟨c28,h⟩|⟨c28,h⟩
    ·obtain rfl:=lf h
     exact rf zK (p29<|sg 13 c28<|eF .normal (cO p t18 o19 true (b5 (t19+1))))<|by kernel_rfl
    ·obtain⟨c30,bc30,h⟩:=av h
     obtain rfl:=lf h
     exact rf zK (p29<|sg 13 c28<|sv (dN (k:=.i64) underlying9 bc30)<|eF .normal (cO p t18 o19 (c30==95) (b5 (t19+1))))<|by kernel_rfl
  ·obtain rfl:=lf h
   exact rf zK (p21<|sg 2 c20<|eF .normal (cO p t18 o19 false (b5 (t19+1))))<|by kernel_rfl
 ·obtain rfl:=lf h
  have z:=sg 0 c7<|eF (.exit 0) (lF (plain,word))
  exact jK zK (by intro hx;cases hx) z<|by kernel_rfl
theorem tQ{x:(Bool×Bool)}(h:lm p t18 plain word t19=some x):aE Pg GE 0 (.loop (cA Dl 503)) (EX (.exit 0) (lF x)) (cO p t18 plain word t19):=
 aE.loop (S:=fun(zz:Bool×Bool×Int)=>cO p t18 zz.1 zz.2.1 zz.2.2) (ex:=(fun _=>.exit 0)) (s:=(plain,word,t19)) h fun zz y hy=>sX p t18 zz.1 zz.2.1 zz.2.2 hy
end
def qk(p:ag):Option Bool:=
 (nW p).bind fun o2=>
 if o2=true then
  some false
 else
  (fY p 0).bind fun c5=>
  (fL c5).bind fun r6=>
  (lm p (p.length:Int) true r6 0).bind fun o31=>
  if o31.1=true then
   some true
  else
   some o31.2
theorem xS{p:ag}{r:Bool}(h:qk p=some r):CC Pg GE 53 [.str p] (.bool r) []:=by
 obtain⟨o2,bo2,h⟩:=av h
 have p4:=fun{sc F} (r:PS sc F)=>pH 2<|dG (tM p bo2)<|r
 rcases aM h with⟨c3,h⟩|⟨c3,h⟩
 ·obtain rfl:=lf h
  have z:=p4<|sg 0 c3<|en (aI (rP (.bool false))<|trivial)
  exact bC zK call53 func53 (c:=Dl) rfl (aI trivial trivial) z<|by kernel_rfl
 ·obtain⟨c5,bc5,h⟩:=av h
  obtain⟨r6,br6,h⟩:=av h
  obtain⟨o31,bo31,h⟩:=av h
  have p33:=fun{sc F} (r:PS sc F)=>p4<|sg 0 c3<|sv (dN (k:=.i64) underlying9 bc5)<|co (fN br6)<|eP (dq underlying9 p)<|dG (tQ p (p.length:Int) true r6 0 bo31)<|r
  rcases aM h with⟨c32,h⟩|⟨c32,h⟩
  ·obtain rfl:=lf h
   have z:=p33<|sg 2 c32<|en (aI (rP (.bool true))<|trivial)
   exact bC zK call53 func53 (c:=Dl) rfl (aI trivial trivial) z<|by kernel_rfl
  ·obtain rfl:=lf h
   have z:=p33<|sg 2 c32<|en (aI (rP (.bool o31.2))<|trivial)
   exact bC zK call53 func53 (c:=Dl) rfl (aI trivial trivial) z<|by kernel_rfl
noncomputable def Dh:Code:=f28.body.getD .skip
def A8:List Nat:=[]
section
variable(v:waC)
def vd:al:=be 45 [(3,sl cS v)] [] [((3,0),9)]
def f0(o:Bool):al:=be 45 [(3,sl cS v),(33,.bool o)] [] [((3,0),9)]
def lj:Option Bool:=
 (gz v 0).bind fun x3=>
 (oR x3).bind fun r4=>
 if (r4 != 0) = true then
  (gz v 0).bind fun x7=>
  (oS x7).bind fun r8=>
  if(r8 !=0)=true then
   (gz v 0).bind fun x11=>
   if(!(x11==([118]:ag)))=true then
    some true
   else
    some ((v.length:Int)==1)
  else
   some false
 else
  some false
theorem tH{x:Bool}(h:lj v=some x):aE Pg GE 0 (cA Dh 60) (EX .normal (f0 v x)) (vd v):=by
 obtain⟨x3,bx3,h⟩:=av h
 obtain⟨r4,br4,h⟩:=av h
 have p6:=fun{sc F} (r:PS sc F)=>sv (oH.ia (k:=.i64) bx3)<|sv (ng EE (.str x3) [])<|co (wL br4)<|r
 rcases aM h with⟨c5,h⟩|⟨c5,h⟩
 ·obtain⟨x7,bx7,h⟩:=av h
  obtain⟨r8,br8,h⟩:=av h
  have p10:=fun{sc F} (r:PS sc F)=>p6<|sg 6 c5<|sv (oH.ia (k:=.i64) bx7)<|sv (ng EE (.str x7) [])<|co (wN br8)<|r
  rcases aM h with⟨c9,h⟩|⟨c9,h⟩
  ·obtain⟨x11,bx11,h⟩:=av h
   have p13:=fun{sc F} (r:PS sc F)=>p10<|sg 13 c9<|sv (oH.ia (k:=.i64) bx11)<|sv (ng EE (.str x11) [])<|r
   rcases aM h with⟨c12,h⟩|⟨c12,h⟩
   ·obtain rfl:=lf h
    exact dH A8 (p13<|sg 18 c12<|eF .normal (f0 v true))<|by kernel_rfl
   ·obtain rfl:=lf h
    exact dH A8 (p13<|sg 18 c12<|eP (oH.ln v)<|eF .normal (f0 v ((v.length:Int)==1)))<|by kernel_rfl
  ·obtain rfl:=lf h
   exact dH A8 (p10<|sg 13 c9<|eF .normal (f0 v false))<|by kernel_rfl
 ·obtain rfl:=lf h
  exact dH A8 (p6<|sg 6 c5<|eF .normal (f0 v false))<|by kernel_rfl
end
section
variable(t35:waC)(t36:Int)(t37:Int)
def f7:al:=be 45 [(35,sl cS t35),(36,.int .i64 t36),(37,.int .i64 t37)] [] []
def ga(o:Unit⊕(Unit)):Exit:=match o with
 |(.inl _)=>.ret
 |(.inr _)=>.exit 0
def eQ(o:Unit⊕(Unit)):al:=match o with
 |(.inl o)=>be 45 [(2,.int .i64 3)] [] []
 |(.inr o)=>be 45 [] [] []
def f8:Option (Int⊕(Unit⊕(Unit))):=
 if(decide (t37<t36))=true then
  (gz t35 t37).bind fun x19=>
  (qk x19).bind fun r20=>
  if(!r20)=true then
   some (.inr (.inl ()))
  else
   some (.inl (b5 (t37+1)))
 else
  some (.inr (.inr ()))
def nS:Option (Unit⊕(Unit)):=loop (fun(zz:Int)=>f8 t35 t36 zz) t37
theorem sO{y:Int⊕(Unit⊕(Unit))}(h:f8 t35 t36 t37=some y):aE Pg GE 0 (cA Dh 503) (LQ (fun(zz:Int)=>f7 t35 t36 zz) ga eQ y) (f7 t35 t36 t37):=by
 rcases aM h with⟨c18,h⟩|⟨c18,h⟩
 ·obtain⟨x19,bx19,h⟩:=av h
  obtain⟨r20,br20,h⟩:=av h
  have p22:=fun{sc F} (r:PS sc F)=>sg 0 c18<|sv (oH.ia (k:=.i64) bx19)<|sv (ng EE (.str x19) [])<|co (xS br20)<|r
  rcases aM h with⟨c21,h⟩|⟨c21,h⟩
  ·obtain rfl:=lf h
   have z:=p22<|sg 0 c21<|eF (ga (.inl ())) (eQ (.inl ()))
   exact jK A8 (by intro hx;cases hx) z<|by kernel_rfl
  ·obtain rfl:=lf h
   exact rf A8 (p22<|sg 0 c21<|eF .normal (f7 t35 t36 (b5 (t37+1))))<|by kernel_rfl
 ·obtain rfl:=lf h
  have z:=sg 0 c18<|eF (ga (.inr ())) (eQ (.inr ()))
  exact jK A8 (by intro hx;cases hx) z<|by kernel_rfl
theorem nT{x:Unit⊕(Unit)}(h:nS t35 t36 t37=some x):aE Pg GE 0 (.loop (cA Dh 503)) (EX (ga x) (eQ x)) (f7 t35 t36 t37):=
 aE.loop (S:=fun(zz:Int)=>f7 t35 t36 zz) (ex:=ga) (s:=t37) h fun zz y hy=>sO t35 t36 zz hy
end
def nR(s:ag):Option Int:=
 if(decide ((s.length:Int)>120))=true then
  some 3
 else
  (oT s).bind fun r2=>
  (lj r2).bind fun o14=>
  if o14=true then
   some 3
  else
   (yQ r2 (some 1) none).bind fun l17=>
   (nS l17 (l17.length:Int) 0).bind fun o23=>match o23 with
   |(.inl o23)=>
    some 3
   |(.inr o23)=>
    some 0
theorem sj{s:ag}{r:Int}(h:nR s=some r):CC Pg GE 28 [.str s] (.int .i64 r) []:=by
 rcases aM h with⟨c1,h⟩|⟨c1,h⟩
 ·obtain rfl:=lf h
  have z:=eP (dq underlying9 s)<|sg 0 c1<|en (aI (rP (.int .i64 3))<|trivial)
  exact bC A8 call28 func28 (c:=Dh) rfl (aI trivial trivial) z<|by kernel_rfl
 ·obtain⟨r2,br2,h⟩:=av h
  obtain⟨o14,bo14,h⟩:=av h
  have p16:=fun{sc F} (r:PS sc F)=>eP (dq underlying9 s)<|sg 0 c1<|co (wP br2)<|pH 1<|dG (tH r2 bo14)<|r
  rcases aM h with⟨c15,h⟩|⟨c15,h⟩
  ·obtain rfl:=lf h
   have z:=p16<|sg 0 c15<|en (aI (rP (.int .i64 3))<|trivial)
   exact bC A8 call28 func28 (c:=Dh) rfl (aI trivial trivial) z<|by kernel_rfl
  ·obtain⟨l17,bl17,h⟩:=av h
   obtain⟨o23,bo23,h⟩:=av h
   rcases o23 with o23|o23
   ·obtain rfl:=lf h
    have z:=p16<|sg 0 c15<|sv (oH.sc bl17)<|eP (oH.ln l17)<|dG (e:=.ret) (s1:=eQ (.inl o23)) (nT l17 (l17.length:Int) 0 bo23)<|en (aI (rP (.int .i64 3))<|trivial)
    exact bC A8 call28 func28 (c:=Dh) rfl (aI trivial trivial) z<|by kernel_rfl
   ·obtain rfl:=lf h
    have z:=p16<|sg 0 c15<|sv (oH.sc bl17)<|eP (oH.ln l17)<|dG (e:=.exit 0) (s1:=eQ (.inr o23)) (nT l17 (l17.length:Int) 0 bo23)<|en (aI (rP (.int .i64 0))<|trivial)
    exact bC A8 call28 func28 (c:=Dh) rfl (aI trivial trivial) z<|by kernel_rfl
noncomputable def E7:Code:=f29.body.getD .skip
def EZ:List Nat:=[]
def pL(a:ah)(a2:ah):Option Bool:=
 if(decide (a.From<a2.From))=true then
  some true
 else
  if(a.From==a2.From)=true then
   some (decide (a.To<a2.To))
  else
   some false
theorem vB{a:ah}{a2:ah}{r:Bool}(h:pL a a2=some r):CC Pg GE 29 [.agg (aj a),.agg (aj a2)] (.bool r) []:=by
 have p2:=fun{sc F} (r:PS sc F)=>se (nd a)<|se (nd a2)<|sv (b6 a)<|sv (cw a)<|sv (b6 a2)<|sv (cw a2)<|r
 rcases aM h with⟨c1,h⟩|⟨c1,h⟩
 ·obtain rfl:=lf h
  have z:=p2<|sg 6 c1<|en (aI (rP (.bool true))<|trivial)
  exact bC EZ call29 func29 (c:=E7) rfl (aI (au a) (aI (au a2) trivial)) z<|by kernel_rfl
 ·have p4:=fun{sc F} (r:PS sc F)=>p2<|sg 6 c1<|sv (b6 a)<|sv (cw a)<|sv (b6 a2)<|sv (cw a2)<|r
  rcases aM h with⟨c3,h⟩|⟨c3,h⟩
  ·obtain rfl:=lf h
   have z:=p4<|sg 12 c3<|sv (eA a)<|sv (fA a)<|sv (eA a2)<|sv (fA a2)<|en (aI (rP (.bool (decide (a.To<a2.To))))<|trivial)
   exact bC EZ call29 func29 (c:=E7) rfl (aI (au a) (aI (au a2) trivial)) z<|by kernel_rfl
  ·obtain rfl:=lf h
   have z:=p4<|sg 12 c3<|en (aI (rP (.bool false))<|trivial)
   exact bC EZ call29 func29 (c:=E7) rfl (aI (au a) (aI (au a2) trivial)) z<|by kernel_rfl
end Go.Proofs.YtoficachfgggjaaDoor
