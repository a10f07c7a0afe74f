/- PROVED: a part of the proof. Conditions: none. -/
import Derived.Test.YtoficachfgggjaaDoorPkF10
noncomputable section
namespace Go.Proofs.YtoficachfgggjaaDoor
open Go Go.Proofs.Tryd
set_option linter.unusedVariables false
set_option maxRecDepth 100000
noncomputable def yz:Code:=f19.body.getD .skip
def vR:List Nat:=[24]
section
variable(v:waB)(t15:Int)(t16:Int)
def bL:aj:=a7 109 [(0,sl ac v),(14,sl ac v),(15,.int .i64 t15),(16,.int .i64 t16)] [] []
def bM(o:(waB×Int)⊕(Unit)):Exit:=match o with
 |(.inl _)=>.ret
 |(.inr _)=>.exit 0
def bk(o:(waB×Int)⊕(Unit)):aj:=match o with
 |(.inl o)=>a7 109 [(2,sl ac o.1),(3,.int .i64 o.2)] [] [((2,0),24)]
 |(.inr o)=>a7 109 [(0,sl ac v)] [] []
def gM:Option (Int⊕((waB×Int)⊕(Unit))):=
 if(decide (t16<t15))=true then
  (gk v t16).bind fun x2=>
  (bz x2).bind fun r3=>
  if(r3 !=0)=true then
   some (.inr (.inl (([]:List ae),r3)))
  else
   some (.inl (cD (t16+1)))
 else
  some (.inr (.inr ()))
def it:Option ((waB×Int)⊕(Unit)):=loop (fun(zz:Int)=>gM v t15 zz) t16
theorem kI{y:Int⊕((waB×Int)⊕(Unit))}(h:gM v t15 t16=some y):aE Pg GE 0 (cA yz 55) (LQ (fun(zz:Int)=>bL v t15 zz) bM (bk v) y) (bL v t15 t16):=by
 rcases aM h with⟨c1,h⟩|⟨c1,h⟩
 ·obtain⟨x2,bx2,h⟩:=au h
  obtain⟨r3,br3,h⟩:=au h
  have p5:=fun{sc F} (r:PS sc F)=>sg 0 c1<|sv (gd.ia (k:=.i64) bx2)<|sv (aN x2)<|sx vQ<|sx (iK x2)<|sv (cx x2 [])<|bY (bX br3)<|r
  rcases aM h with⟨c4,h⟩|⟨c4,h⟩
  ·obtain rfl:=lf h
   have z:=p5<|sg 0 c4<|rK 0 (bM (.inl (([]:List ae),r3))) (bk v (.inl (([]:List ae),r3))) rfl (dL (aI (up (aK ag ([]:List ae))) (aI trivial trivial))) trivial
   exact jt (A:=vR) mixed (by intro hx;cases hx) z<|by kernel_rfl
  ·obtain rfl:=lf h
   have z:=p5<|sg 0 c4<|rK 0 .normal (bL v t15 (cD (t16+1))) rfl (dL (aI (up (aK ag v)) (aI (up (aK ag v)) (aI trivial (aI trivial trivial))))) trivial
   exact h9 (A:=vR) mixed z<|by kernel_rfl
 ·obtain rfl:=lf h
  have z:=sg 0 c1<|eF (bM (.inr ())) (bk v (.inr ()))
  exact j5 vR (by intro hx;cases hx) z<|by kernel_rfl
theorem gf{x:(waB×Int)⊕(Unit)}(h:it v t15 t16=some x):aE Pg GE 0 (.loop (cA yz 55)) (EX (bM x) (bk v x)) (bL v t15 t16):=
 aE.loop (S:=fun(zz:Int)=>bL v t15 zz) (ex:=bM) (s:=t16) h fun zz y hy=>kI v t15 zz hy
end
section
variable(t28:waB)(t29:Int)(t30:Int)(m0:(List (af×Bool)))(m:waB)
def bN:aj:=a7 109 [(8,.bptr 2 0),(9,.func (.func 36) [] [.bptr 1 0,.bptr 2 0]),(28,sl ac t28),(29,.int .i64 t29),(30,.int .i64 t30)] [.map (cw PVal.bool m0),.cells [.mapr 0] [],.cells [sl ac m] [(0,24)]] []
def dW(o:(List (af×Bool))×waB):aj:=a7 109 [(8,.bptr 2 0),(9,.func (.func 36) [] [.bptr 1 0,.bptr 2 0])] [.map (cw PVal.bool o.1),.cells [.mapr 0] [],.cells [sl ac o.2] [(0,24)]] []
def gN:Option ((Int×(List (af×Bool))×waB)⊕(((List (af×Bool))×waB))):=
 if(decide (t30<t29))=true then
  (gk t28 t30).bind fun x8=>
  (dv x8 m0 m).bind fun r9=>
  some (.inl (cD (t30+1),r9.1,r9.2))
 else
  some (.inr (m0,m))
def iu:Option (((List (af×Bool))×waB)):=loop (fun(zz:Int×(List (af×Bool))×waB)=>gN t28 t29 zz.1 zz.2.1 zz.2.2) (t30,m0,m)
theorem kJ{y:(Int×(List (af×Bool))×waB)⊕(((List (af×Bool))×waB))}(h:gN t28 t29 t30 m0 m=some y):aE Pg GE 0 (cA yz 1015) (LQ (fun(zz:Int×(List (af×Bool))×waB)=>bN t28 t29 zz.1 zz.2.1 zz.2.2) (fun _=>.exit 2) dW y) (bN t28 t29 t30 m0 m):=by
 rcases aM h with⟨c7,h⟩|⟨c7,h⟩
 ·obtain⟨x8,bx8,h⟩:=au h
  obtain⟨r9,br9,h⟩:=au h
  obtain rfl:=lf h
  have z:=sg 0 c7<|sv (gd.ia (k:=.i64) bx8)<|sv (aN x8)<|sx vQ<|sx (iK x8)<|sv (cx x8 [])<|si (.cg ⟨[1,0,2],[.agg (ac x8),.bptr 0 0,.bptr 2 0],[],[.cells [.mapr 0] [],.map (cw PVal.bool m0),.cells [sl ac m] [(0,24)]],[.cells [.mapr 1] [],.map (cw PVal.bool m0),.cells [sl ac m] [(0,24)]],[.cells [.mapr 0] [],.map (cw PVal.bool r9.1),.cells [sl ac r9.2] [(0,24)]],[.cells [.mapr 1] [],.map (cw PVal.bool r9.1),.cells [sl ac r9.2] [(0,24)]],.tuple [],.tuple [],[]⟩) (dR br9)<|sf (aI (xR [1,0,2] (.agg (ac x8)) (ag x8)) (aI (xB [1,0,2] 0 1 0 rfl) (aI (xB [1,0,2] 2 2 0 rfl) trivial)))<|sf (aI (aI (rB (.cells [.mapr 0] [])) (aI (rW []) (aI (xM [1,0,2] 1 0 rfl) trivial))) (aI (aI (rB (.map (cw PVal.bool m0))) (aI (rM (cw PVal.bool m0)) (BZ (n:=0) PVal.bool (fun x=>trivial) m0))) (aI (aI (rB (.cells [sl ac m] [(0,24)])) (aI (rW [(0,24)]) (aI (xR [1,0,2] (sl ac m) (aK ag m)) trivial))) trivial)))<|sf (aI (aI (rW []) (aI (xM [1,0,2] 1 0 rfl) trivial)) (aI (aI (rM (cw PVal.bool r9.1)) (BZ (n:=0) PVal.bool (fun x=>trivial) r9.1)) (aI (aI (rW [(0,24)]) (aI (xR [1,0,2] (sl ac r9.2) (aK ag r9.2)) trivial)) trivial)))<|sf (xR [1,0,2] (.tuple []) trivial)<|rK 0 .normal (bN t28 t29 (cD (t30+1)) r9.1 r9.2) rfl (dL (aI (lc rfl) (aI (aI trivial (aI (lc rfl) (aI (lc rfl) trivial))) (aI (up (aK ag t28)) (aI trivial (aI trivial trivial)))))) (aI (BZ PVal.bool (fun x=>trivial) r9.1) (aI (aI (lc rfl) trivial) (aI (aI (up (aK ag r9.2)) trivial) trivial)))
  exact h9 (A:=vR) mixed z<|by kernel_rfl
 ·obtain rfl:=lf h
  have z:=sg 0 c7<|eF (.exit 2) (dW (m0,m))
  exact j5 vR (by intro hx;cases hx) z<|by kernel_rfl
theorem lL{x:((List (af×Bool))×waB)}(h:iu t28 t29 t30 m0 m=some x):aE Pg GE 0 (.loop (cA yz 1015)) (EX (.exit 2) (dW x)) (bN t28 t29 t30 m0 m):=
 aE.loop (S:=fun(zz:Int×(List (af×Bool))×waB)=>bN t28 t29 zz.1 zz.2.1 zz.2.2) (ex:=(fun _=>.exit 2)) (s:=(t30,m0,m)) h fun zz y hy=>kJ t28 t29 zz.1 zz.2.1 zz.2.2 hy
end
section
variable(i:Int)(m0:(List (af×Bool)))(m:waB)
def mg:aj:=a7 109 [(8,.bptr 2 0),(9,.func (.func 36) [] [.bptr 1 0,.bptr 2 0]),(12,.int .i64 i)] [.map (cw PVal.bool m0),.cells [.mapr 0] [],.cells [sl ac m] [(0,24)]] []
def dS(o:Bool):aj:=a7 109 [(8,.bptr 2 0),(9,.func (.func 36) [] [.bptr 1 0,.bptr 2 0]),(12,.int .i64 i),(46,.bool o)] [.map (cw PVal.bool m0),.cells [.mapr 0] [],.cells [sl ac m] [(0,24)]] []
def io:Option Bool:=
 if(decide (i<(m.length:Int)))=true then
  some (decide ((m.length:Int)<=400))
 else
  some false
theorem lH{x:Bool}(h:io i m=some x):aE Pg GE 0 (cA yz 8156) (EX .normal (dS i m0 m x)) (mg i m0 m):=by
 have p12:=fun{sc F} (r:PS sc F)=>ss<|eG (gd.ln m)<|r
 rcases aM h with⟨c11,h⟩|⟨c11,h⟩
 ·obtain rfl:=lf h
  exact di vR (p12<|sg 5 c11<|ss<|eG (gd.ln m)<|eF .normal (dS i m0 m (decide ((m.length:Int)<=400))))<|by kernel_rfl
 ·obtain rfl:=lf h
  exact di vR (p12<|sg 5 c11<|eF .normal (dS i m0 m false))<|by kernel_rfl
end
section
variable(i:Int)(k:Int)(m0:(List (af×Bool)))(m:waB)
def mh:aj:=a7 109 [(8,.bptr 2 0),(9,.func (.func 36) [] [.bptr 1 0,.bptr 2 0]),(12,.int .i64 i),(13,.int .i64 k)] [.map (cw PVal.bool m0),.cells [.mapr 0] [],.cells [sl ac m] [(0,24)]] []
def dT(o:Bool):aj:=a7 109 [(8,.bptr 2 0),(9,.func (.func 36) [] [.bptr 1 0,.bptr 2 0]),(12,.int .i64 i),(13,.int .i64 k),(56,.bool o)] [.map (cw PVal.bool m0),.cells [.mapr 0] [],.cells [sl ac m] [(0,24)]] []
def ip:Option Bool:=
 if(decide (k<=i))=true then
  some (decide ((m.length:Int)<=400))
 else
  some false
theorem lI{x:Bool}(h:ip i k m=some x):aE Pg GE 0 (cA yz 522172) (EX .normal (dT i k m0 m x)) (mh i k m0 m):=by
 rcases aM h with⟨c16,h⟩|⟨c16,h⟩
 ·obtain rfl:=lf h
  exact di vR (sg 4 c16<|ss<|eG (gd.ln m)<|eF .normal (dT i k m0 m (decide ((m.length:Int)<=400))))<|by kernel_rfl
 ·obtain rfl:=lf h
  exact di vR (sg 4 c16<|eF .normal (dT i k m0 m false))<|by kernel_rfl
end
section
variable(i:Int)(k:Int)(m0:(List (af×Bool)))(m:waB)
def mj:aj:=a7 109 [(8,.bptr 2 0),(9,.func (.func 36) [] [.bptr 1 0,.bptr 2 0]),(12,.int .i64 i),(13,.int .i64 k)] [.map (cw PVal.bool m0),.cells [.mapr 0] [],.cells [sl ac m] [(0,24)]] []
def dV(o:(List (af×Bool))×waB):aj:=a7 109 [(8,.bptr 2 0),(9,.func (.func 36) [] [.bptr 1 0,.bptr 2 0]),(12,.int .i64 i),(13,.int .i64 k)] [.map (cw PVal.bool o.1),.cells [.mapr 0] [],.cells [sl ac o.2] [(0,24)]] []
def ir:Option (((List (af×Bool))×waB)):=
 (gk m i).bind fun x20=>
 (gk m k).bind fun x21=>
 if(x20.Callee==x21.Caller)=true then
  (gk m i).bind fun x24=>
  (gk m k).bind fun x25=>
  (cZ x24 x25).bind fun r26=>
  (dv r26 m0 m).bind fun r27=>
  some (r27.1,r27.2)
 else
  some (m0,m)
theorem lK{x:((List (af×Bool))×waB)}(h:ir i k m0 m=some x):aE Pg GE 0 (cA yz 2088698) (EX .normal (dV i k x)) (mj i k m0 m):=by
 obtain⟨x20,bx20,h⟩:=au h
 obtain⟨x21,bx21,h⟩:=au h
 have p23:=fun{sc F} (r:PS sc F)=>xi [0,0,3,7,15,0,0,96,224,480,1023]<|ss<|sv (gd.ia (k:=.i64) bx20)<|sv (aQ x20)<|sv (aY x20)<|ss<|sv (gd.ia (k:=.i64) bx21)<|sv (aP x21)<|sv (aX x21)<|r
 rcases aM h with⟨c22,h⟩|⟨c22,h⟩
 ·obtain⟨x24,bx24,h⟩:=au h
  obtain⟨x25,bx25,h⟩:=au h
  obtain⟨r26,br26,h⟩:=au h
  obtain⟨r27,br27,h⟩:=au h
  obtain rfl:=lf h
  exact di vR (p23<|sg 0 c22<|sk<|Ea (.dx [0,0,0,6,14,0,0,96,224,510] [] [] [])<|ss<|sv (gd.ia (k:=.i64) bx24)<|sv (aN x24)<|ss<|sv (gd.ia (k:=.i64) bx25)<|sv (aN x25)<|bY (de br26)<|si (.cg ⟨[1,0,2],[.agg (ac r26),.bptr 0 0,.bptr 2 0],[],[.cells [.mapr 0] [],.map (cw PVal.bool m0),.cells [sl ac m] [(0,24)]],[.cells [.mapr 1] [],.map (cw PVal.bool m0),.cells [sl ac m] [(0,24)]],[.cells [.mapr 0] [],.map (cw PVal.bool r27.1),.cells [sl ac r27.2] [(0,24)]],[.cells [.mapr 1] [],.map (cw PVal.bool r27.1),.cells [sl ac r27.2] [(0,24)]],.tuple [],.tuple [],[]⟩) (dR br27)<|sf (aI (xR [1,0,2] (.agg (ac r26)) (ag r26)) (aI (xB [1,0,2] 0 1 0 rfl) (aI (xB [1,0,2] 2 2 0 rfl) trivial)))<|sf (aI (aI (rB (.cells [.mapr 0] [])) (aI (rW []) (aI (xM [1,0,2] 1 0 rfl) trivial))) (aI (aI (rB (.map (cw PVal.bool m0))) (aI (rM (cw PVal.bool m0)) (BZ (n:=0) PVal.bool (fun x=>trivial) m0))) (aI (aI (rB (.cells [sl ac m] [(0,24)])) (aI (rW [(0,24)]) (aI (xR [1,0,2] (sl ac m) (aK ag m)) trivial))) trivial)))<|sf (aI (aI (rW []) (aI (xM [1,0,2] 1 0 rfl) trivial)) (aI (aI (rM (cw PVal.bool r27.1)) (BZ (n:=0) PVal.bool (fun x=>trivial) r27.1)) (aI (aI (rW [(0,24)]) (aI (xR [1,0,2] (sl ac r27.2) (aK ag r27.2)) trivial)) trivial)))<|sf (xR [1,0,2] (.tuple []) trivial)<|eF .normal (dV i k (r27.1,r27.2)))<|by kernel_rfl
 ·obtain rfl:=lf h
  exact di vR (p23<|sg 0 c22<|eF .normal (dV i k (m0,m)))<|by kernel_rfl
end
section
variable(i:Int)(k:Int)(m0:(List (af×Bool)))(m:waB)
def mi:aj:=a7 109 [(8,.bptr 2 0),(9,.func (.func 36) [] [.bptr 1 0,.bptr 2 0]),(12,.int .i64 i),(13,.int .i64 k)] [.map (cw PVal.bool m0),.cells [.mapr 0] [],.cells [sl ac m] [(0,24)]] []
def dU(o:(List (af×Bool))×waB):aj:=a7 109 [(8,.bptr 2 0),(9,.func (.func 36) [] [.bptr 1 0,.bptr 2 0]),(12,.int .i64 i),(13,.int .i64 k)] [.map (cw PVal.bool o.1),.cells [.mapr 0] [],.cells [sl ac o.2] [(0,24)]] []
def iq:Option (((List (af×Bool))×waB)):=
 (ir i k m0 m).bind fun o28=>
 (gk o28.2 k).bind fun x29=>
 (gk o28.2 i).bind fun x30=>
 if(x29.Callee==x30.Caller)=true then
  (gk o28.2 k).bind fun x33=>
  (gk o28.2 i).bind fun x34=>
  (cZ x33 x34).bind fun r35=>
  (dv r35 o28.1 o28.2).bind fun r36=>
  some (r36.1,r36.2)
 else
  some (o28.1,o28.2)
theorem lJ{x:((List (af×Bool))×waB)}(h:iq i k m0 m=some x):aE Pg GE 0 (cA yz 522174) (EX .normal (dU i k x)) (mi i k m0 m):=by
 obtain⟨o28,bo28,h⟩:=au h
 obtain⟨x29,bx29,h⟩:=au h
 obtain⟨x30,bx30,h⟩:=au h
 have p32:=fun{sc F} (r:PS sc F)=>oX 0<|dz (lK i k m0 m bo28)<|xi [0,0,3,7,15,0,0,96,224,480,1023]<|ss<|sv (gd.ia (k:=.i64) bx29)<|sv (aQ x29)<|sv (aY x29)<|ss<|sv (gd.ia (k:=.i64) bx30)<|sv (aP x30)<|sv (aX x30)<|r
 rcases aM h with⟨c31,h⟩|⟨c31,h⟩
 ·obtain⟨x33,bx33,h⟩:=au h
  obtain⟨x34,bx34,h⟩:=au h
  obtain⟨r35,br35,h⟩:=au h
  obtain⟨r36,br36,h⟩:=au h
  obtain rfl:=lf h
  exact di vR (p32<|sg 0 c31<|sk<|Ea (.dx [0,0,0,6,14,0,0,96,224,510] [] [] [])<|ss<|sv (gd.ia (k:=.i64) bx33)<|sv (aN x33)<|ss<|sv (gd.ia (k:=.i64) bx34)<|sv (aN x34)<|bY (de br35)<|si (.cg ⟨[1,0,2],[.agg (ac r35),.bptr 0 0,.bptr 2 0],[],[.cells [.mapr 0] [],.map (cw PVal.bool o28.1),.cells [sl ac o28.2] [(0,24)]],[.cells [.mapr 1] [],.map (cw PVal.bool o28.1),.cells [sl ac o28.2] [(0,24)]],[.cells [.mapr 0] [],.map (cw PVal.bool r36.1),.cells [sl ac r36.2] [(0,24)]],[.cells [.mapr 1] [],.map (cw PVal.bool r36.1),.cells [sl ac r36.2] [(0,24)]],.tuple [],.tuple [],[]⟩) (dR br36)<|sf (aI (xR [1,0,2] (.agg (ac r35)) (ag r35)) (aI (xB [1,0,2] 0 1 0 rfl) (aI (xB [1,0,2] 2 2 0 rfl) trivial)))<|sf (aI (aI (rB (.cells [.mapr 0] [])) (aI (rW []) (aI (xM [1,0,2] 1 0 rfl) trivial))) (aI (aI (rB (.map (cw PVal.bool o28.1))) (aI (rM (cw PVal.bool o28.1)) (BZ (n:=0) PVal.bool (fun x=>trivial) o28.1))) (aI (aI (rB (.cells [sl ac o28.2] [(0,24)])) (aI (rW [(0,24)]) (aI (xR [1,0,2] (sl ac o28.2) (aK ag o28.2)) trivial))) trivial)))<|sf (aI (aI (rW []) (aI (xM [1,0,2] 1 0 rfl) trivial)) (aI (aI (rM (cw PVal.bool r36.1)) (BZ (n:=0) PVal.bool (fun x=>trivial) r36.1)) (aI (aI (rW [(0,24)]) (aI (xR [1,0,2] (sl ac r36.2) (aK ag r36.2)) trivial)) trivial)))<|sf (xR [1,0,2] (.tuple []) trivial)<|eF .normal (dU i k (r36.1,r36.2)))<|by kernel_rfl
 ·obtain rfl:=lf h
  exact di vR (p32<|sg 0 c31<|eF .normal (dU i k (o28.1,o28.2)))<|by kernel_rfl
end
section
variable(i:Int)(k:Int)(m0:(List (af×Bool)))(m:waB)
def bP:aj:=a7 109 [(8,.bptr 2 0),(9,.func (.func 36) [] [.bptr 1 0,.bptr 2 0]),(12,.int .i64 i),(13,.int .i64 k)] [.map (cw PVal.bool m0),.cells [.mapr 0] [],.cells [sl ac m] [(0,24)]] []
def dY(o:(List (af×Bool))×waB):aj:=a7 109 [(8,.bptr 2 0),(9,.func (.func 36) [] [.bptr 1 0,.bptr 2 0]),(12,.int .i64 i)] [.map (cw PVal.bool o.1),.cells [.mapr 0] [],.cells [sl ac o.2] [(0,24)]] []
def gP:Option ((Int×(List (af×Bool))×waB)⊕(((List (af×Bool))×waB))):=
 (ip i k m).bind fun o17=>
 if o17=true then
  (iq i k m0 m).bind fun o37=>
  some (.inl (cD (k+1),o37.1,o37.2))
 else
  some (.inr (m0,m))
def iw:Option (((List (af×Bool))×waB)):=loop (fun(zz:Int×(List (af×Bool))×waB)=>gP i zz.1 zz.2.1 zz.2.2) (k,m0,m)
theorem kL{y:(Int×(List (af×Bool))×waB)⊕(((List (af×Bool))×waB))}(h:gP i k m0 m=some y):aE Pg GE 0 (cA yz 130543) (LQ (fun(zz:Int×(List (af×Bool))×waB)=>bP i zz.1 zz.2.1 zz.2.2) (fun _=>.exit 6) (dY i) y) (bP i k m0 m):=by
 obtain⟨o17,bo17,h⟩:=au h
 have p19:=fun{sc F} (r:PS sc F)=>oX 1<|dz (lI i k m0 m bo17)<|r
 rcases aM h with⟨c18,h⟩|⟨c18,h⟩
 ·obtain⟨o37,bo37,h⟩:=au h
  obtain rfl:=lf h
  exact qO vR (p19<|sg 0 c18<|oX 0<|dz (lJ i k m0 m bo37)<|eF .normal (bP i (cD (k+1)) o37.1 o37.2))<|by kernel_rfl
 ·obtain rfl:=lf h
  have z:=p19<|sg 0 c18<|eF (.exit 6) (dY i (m0,m))
  exact j5 vR (by intro hx;cases hx) z<|by kernel_rfl
theorem lN{x:((List (af×Bool))×waB)}(h:iw i k m0 m=some x):aE Pg GE 0 (.loop (cA yz 130543)) (EX (.exit 6) (dY i x)) (bP i k m0 m):=
 aE.loop (S:=fun(zz:Int×(List (af×Bool))×waB)=>bP i zz.1 zz.2.1 zz.2.2) (ex:=(fun _=>.exit 6)) (s:=(k,m0,m)) h fun zz y hy=>kL i zz.1 zz.2.1 zz.2.2 hy
end
section
variable(i:Int)(m0:(List (af×Bool)))(m:waB)
def bO:aj:=a7 109 [(8,.bptr 2 0),(9,.func (.func 36) [] [.bptr 1 0,.bptr 2 0]),(12,.int .i64 i)] [.map (cw PVal.bool m0),.cells [.mapr 0] [],.cells [sl ac m] [(0,24)]] []
def dX(o:(List (af×Bool))×waB):aj:=a7 109 [(8,.bptr 2 0)] [.map (cw PVal.bool o.1),.cells [.mapr 0] [],.cells [sl ac o.2] [(0,24)]] []
def gO:Option ((Int×(List (af×Bool))×waB)⊕(((List (af×Bool))×waB))):=
 (io i m).bind fun o13=>
 if o13=true then
  (iw i 0 m0 m).bind fun o38=>
  some (.inl (cD (i+1),o38.1,o38.2))
 else
  some (.inr (m0,m))
def iv:Option (((List (af×Bool))×waB)):=loop (fun(zz:Int×(List (af×Bool))×waB)=>gO zz.1 zz.2.1 zz.2.2) (i,m0,m)
theorem kK{y:(Int×(List (af×Bool))×waB)⊕(((List (af×Bool))×waB))}(h:gO i m0 m=some y):aE Pg GE 0 (cA yz 2039) (LQ (fun(zz:Int×(List (af×Bool))×waB)=>bO zz.1 zz.2.1 zz.2.2) (fun _=>.exit 4) dX y) (bO i m0 m):=by
 obtain⟨o13,bo13,h⟩:=au h
 have p15:=fun{sc F} (r:PS sc F)=>oX 1<|dz (lH i m0 m bo13)<|r
 rcases aM h with⟨c14,h⟩|⟨c14,h⟩
 ·obtain⟨o38,bo38,h⟩:=au h
  obtain rfl:=lf h
  exact qO vR (p15<|sg 0 c14<|dz (lN i 0 m0 m bo38)<|eF .normal (bO (cD (i+1)) o38.1 o38.2))<|by kernel_rfl
 ·obtain rfl:=lf h
  have z:=p15<|sg 0 c14<|eF (.exit 4) (dX (m0,m))
  exact j5 vR (by intro hx;cases hx) z<|by kernel_rfl
theorem lM{x:((List (af×Bool))×waB)}(h:iv i m0 m=some x):aE Pg GE 0 (.loop (cA yz 2039)) (EX (.exit 4) (dX x)) (bO i m0 m):=
 aE.loop (S:=fun(zz:Int×(List (af×Bool))×waB)=>bO zz.1 zz.2.1 zz.2.2) (ex:=(fun _=>.exit 4)) (s:=(i,m0,m)) h fun zz y hy=>kK zz.1 zz.2.1 zz.2.2 hy
end
theorem nk{l r:List ae}(h:sj iM l=some r):aE Pg GE 0 (cA yz 1022) (EX .normal (a7 109 [(8,.bptr 2 0)] [.dead,.dead,.cells [sl ac r] [(0,24)]] [])) (a7 109 [(8,.bptr 2 0)] [.dead,.dead,.cells [sl ac l] [(0,24)]] []):=
 Eb (K:=[3,4]) (c:=ac) (n:=109) (nb:=3) (i:=2) gd Cm EW (fun x y r h=>oY h) call39 Ac rfl rfl rfl rfl rfl rfl rfl rfl (h0:=by kernel_rfl) (h00:=by kernel_rfl) h
def gA(a:waB):Option (waB×Int):=
 (it a (a.length:Int) 0).bind fun o6=>match o6 with
 |(.inl o6)=>
  some (o6.1,o6.2)
 | (.inr o6) =>
  (iu a (a.length:Int) 0 ([]:List (af×Bool)) ([]:List ae)).bind fun o10=>
  (iv 0 o10.1 o10.2).bind fun o39=>
  if(decide ((o39.2.length:Int)>400))=true then
   some (([]:List ae),7)
  else
   (sj iM o39.2).bind fun l42=>
   some (l42,0)
theorem dc{a:waB}{r:waB×Int}(h:gA a=some r):CC Pg GE 19 [sl ac a] (.tuple [sl ac r.1,.int .i64 r.2]) []:=by
 obtain⟨o6,bo6,h⟩:=au h
 rcases o6 with o6|o6
 ·obtain rfl:=lf h
  have z:=eG (gd.ln a)<|dz (e:=.ret) (s1:=bk a (.inl o6)) (gf a (a.length:Int) 0 bo6)<|en (aI (rP (.tuple [sl ac o6.1,.int .i64 o6.2]))<|(aI (aK ag o6.1) (aI trivial trivial)))
  exact bv vR call19 func19 (c:=yz) rfl (aI (aK ag a) trivial) z<|by kernel_rfl
 ·obtain⟨o10,bo10,h⟩:=au h
  obtain⟨o39,bo39,h⟩:=au h
  have p41:=fun{sc F} (r:PS sc F)=>eG (gd.ln a)<|dz (e:=.exit 0) (s1:=bk a (.inr o6)) (gf a (a.length:Int) 0 bo6)<|sx EU<|ss<|sx ES<|eG (gd.ln a)<|dz (lL a (a.length:Int) 0 ([]:List (af×Bool)) ([]:List ae) bo10)<|dz (lM 0 o10.1 o10.2 bo39)<|ss<|eG (gd.ln o39.2)<|r
  rcases aM h with⟨c40,h⟩|⟨c40,h⟩
  ·obtain rfl:=lf h
   have z:=p41<|sg 0 c40<|en (aI (rP (.tuple [sl ac ([]:List ae),.int .i64 7]))<|(aI (aK ag ([]:List ae)) (aI trivial trivial)))
   exact bv vR call19 func19 (c:=yz) rfl (aI (aK ag a) trivial) z<|by kernel_rfl
  ·obtain⟨l42,bl42,h⟩:=au h
   obtain rfl:=lf h
   have z:=p41<|sg 0 c40<|oX 0<|dz (nk bl42)<|ss<|en (aI (rP (.tuple [sl ac l42,.int .i64 0]))<|(aI (aK ag l42) (aI trivial trivial)))
   exact bv vR call19 func19 (c:=yz) rfl (aI (aK ag a) trivial) z<|by kernel_rfl
noncomputable def DF:Code:=f30.body.getD .skip
def Dd:List Nat:=[15]
section
variable(s1:waA)(s2:waA)(t12:Int)(t13:Int)
def dw:aj:=a7 26 [(0,sl ak s1),(1,sl ak s2),(12,.int .i64 t12),(13,.int .i64 t13)] [] []
def dy(o:Unit⊕(Unit)):Exit:=match o with
 |(.inl _)=>.ret
 |(.inr _)=>.exit 0
def cu(o:Unit⊕(Unit)):aj:=match o with
 |(.inl o)=>a7 26 [(4,.bool false)] [] []
 |(.inr o)=>a7 26 [] [] []
def ii:Option (Int⊕(Unit⊕(Unit))):=
 if(decide (t13<t12))=true then
  (gk s1 t13).bind fun x4=>
  (gk s2 t13).bind fun x5=>
  if(!(jT x4 x5))=true then
   some (.inr (.inl ()))
  else
   some (.inl (cD (t13+1)))
 else
  some (.inr (.inr ()))
def jw:Option (Unit⊕(Unit)):=loop (fun(zz:Int)=>ii s1 s2 t12 zz) t13
theorem oZ{y:Int⊕(Unit⊕(Unit))}(h:ii s1 s2 t12 t13=some y):aE Pg GE 0 (cA DF 119) (LQ (fun(zz:Int)=>dw s1 s2 t12 zz) dy cu y) (dw s1 s2 t12 t13):=by
 rcases aM h with⟨c3,h⟩|⟨c3,h⟩
 ·obtain⟨x4,bx4,h⟩:=au h
  obtain⟨x5,bx5,h⟩:=au h
  have p7:=fun{sc F} (r:PS sc F)=>sg 0 c3<|xi [0,0,3,7,0,0,48,112,255]<|sv (cW.ia (k:=.i64) bx4)<|sv (eb x4)<|sv (cW.ia (k:=.i64) bx5)<|sv (eb x5)<|sv (xY x4 x5)<|r
  rcases aM h with⟨c6,h⟩|⟨c6,h⟩
  ·obtain rfl:=lf h
   have z:=p7<|sg 0 c6<|eF (dy (.inl ())) (cu (.inl ()))
   exact j5 Dd (by intro hx;cases hx) z<|by kernel_rfl
  ·obtain rfl:=lf h
   exact qO Dd (p7<|sg 0 c6<|eF .normal (dw s1 s2 t12 (cD (t13+1))))<|by kernel_rfl
 ·obtain rfl:=lf h
  have z:=sg 0 c3<|eF (dy (.inr ())) (cu (.inr ()))
  exact j5 Dd (by intro hx;cases hx) z<|by kernel_rfl
theorem kC{x:Unit⊕(Unit)}(h:jw s1 s2 t12 t13=some x):aE Pg GE 0 (.loop (cA DF 119)) (EX (dy x) (cu x)) (dw s1 s2 t12 t13):=
 aE.loop (S:=fun(zz:Int)=>dw s1 s2 t12 zz) (ex:=dy) (s:=t13) h fun zz y hy=>oZ s1 s2 t12 zz hy
end
def j1(s1:waA)(s2:waA):Option Bool:=
 if((s1.length:Int)!=(s2.length:Int))=true then
  some false
 else
  (jw s1 s2 (s1.length:Int) 0).bind fun o8=>match o8 with
  |(.inl o8)=>
   some false
  |(.inr o8)=>
   some true
theorem s9{s1:waA}{s2:waA}{r:Bool}(h:j1 s1 s2=some r):CC Pg GE 30 [sl ak s1,sl ak s2] (.bool r) []:=by
 have p2:=fun{sc F} (r:PS sc F)=>eG (cW.ln s1)<|eG (cW.ln s2)<|r
 rcases aM h with⟨c1,h⟩|⟨c1,h⟩
 ·obtain rfl:=lf h
  have z:=p2<|sg 0 c1<|en (aI (rP (.bool false))<|trivial)
  exact bv Dd call30 func30 (c:=DF) rfl (aI (aK aA s1) (aI (aK aA s2) trivial)) z<|by kernel_rfl
 ·obtain⟨o8,bo8,h⟩:=au h
  rcases o8 with o8|o8
  ·obtain rfl:=lf h
   have z:=p2<|sg 0 c1<|eG (cW.ln s1)<|dz (e:=.ret) (s1:=cu (.inl o8)) (kC s1 s2 (s1.length:Int) 0 bo8)<|en (aI (rP (.bool false))<|trivial)
   exact bv Dd call30 func30 (c:=DF) rfl (aI (aK aA s1) (aI (aK aA s2) trivial)) z<|by kernel_rfl
  ·obtain rfl:=lf h
   have z:=p2<|sg 0 c1<|eG (cW.ln s1)<|dz (e:=.exit 0) (s1:=cu (.inr o8)) (kC s1 s2 (s1.length:Int) 0 bo8)<|en (aI (rP (.bool true))<|trivial)
   exact bv Dd call30 func30 (c:=DF) rfl (aI (aK aA s1) (aI (aK aA s2) trivial)) z<|by kernel_rfl
noncomputable def EA:Code:=f12.body.getD .skip
def Et:List Nat:=[]
def cy(a:ae)(a2:ae):Option Bool:=
 if(a.Caller==a2.Caller)=true then
  if(a.Callee==a2.Callee)=true then
   (j1 a.Arcs a2.Arcs).bind fun r5=>
   some r5
  else
   some false
 else
  some false
theorem ed{a:ae}{a2:ae}{r:Bool}(h:cy a a2=some r):CC Pg GE 12 [.agg (ac a),.agg (ac a2)] (.bool r) []:=by
 have p2:=fun{sc F} (r:PS sc F)=>se (bK a)<|se (bK a2)<|sv (aP a)<|sv (aX a)<|sv (aP a2)<|sv (aX a2)<|r
 rcases aM h with⟨c1,h⟩|⟨c1,h⟩
 ·have p4:=fun{sc F} (r:PS sc F)=>p2<|sg 6 c1<|sv (aQ a)<|sv (aY a)<|sv (aQ a2)<|sv (aY a2)<|r
  rcases aM h with⟨c3,h⟩|⟨c3,h⟩
  ·obtain⟨r5,br5,h⟩:=au h
   obtain rfl:=lf h
   have z:=p4<|sg 13 c3<|sv (av a)<|sv (aw a)<|sv (av a2)<|sv (aw a2)<|bY (s9 br5)<|en (aI (rP (.bool r5))<|trivial)
   exact bv Et call12 func12 (c:=EA) rfl (aI (ag a) (aI (ag a2) trivial)) z<|by kernel_rfl
  ·obtain rfl:=lf h
   have z:=p4<|sg 13 c3<|en (aI (rP (.bool false))<|trivial)
   exact bv Et call12 func12 (c:=EA) rfl (aI (ag a) (aI (ag a2) trivial)) z<|by kernel_rfl
 ·obtain rfl:=lf h
  have z:=p2<|sg 6 c1<|en (aI (rP (.bool false))<|trivial)
  exact bv Et call12 func12 (c:=EA) rfl (aI (ag a) (aI (ag a2) trivial)) z<|by kernel_rfl
noncomputable def Ff:Code:=f42.body.getD .skip
def E2:List Nat:=[]
def gQ(a:am):Option Bool:=
 if(a.From==a.To)=true then
  some a.Strict
 else
  some false
theorem kw{a:am}{r:Bool}(h:gQ a=some r):CC Pg GE 42 [.agg (ak a)] (.bool r) []:=by
 have p2:=fun{sc F} (r:PS sc F)=>se (mM a)<|sv (bS a)<|sv (co a)<|sv (d9 a)<|sv (fi a)<|r
 rcases aM h with⟨c1,h⟩|⟨c1,h⟩
 ·obtain rfl:=lf h
  have z:=p2<|sg 6 c1<|sv (mD a)<|sv (nX a)<|en (aI (rP (.bool a.Strict))<|trivial)
  exact bv E2 call42 func42 (c:=Ff) rfl (aI (aA a) trivial) z<|by kernel_rfl
 ·obtain rfl:=lf h
  have z:=p2<|sg 6 c1<|en (aI (rP (.bool false))<|trivial)
  exact bv E2 call42 func42 (c:=Ff) rfl (aI (aA a) trivial) z<|by kernel_rfl
noncomputable def Ej:Code:=f65.body.getD .skip
def Dq:List Nat:=[10,17]
section
variable(s:waA)(t7:Int)(t8:Int)
def b8:aj:=a7 19 [(0,sl ak s),(1,.func (.func 42) [] []),(7,.int .i64 t7),(8,.int .i64 t8)] [] []
def ca(o:Int⊕(Unit)):Exit:=match o with
 |(.inl _)=>.ret
 |(.inr _)=>.exit 0
def bC(o:Int⊕(Unit)):aj:=match o with
 |(.inl o)=>a7 19 [(4,.int .i64 o)] [] []
 |(.inr o)=>a7 19 [] [] []
def iE:Option (Int⊕(Int⊕(Unit))):=
 if(decide (t8<t7))=true then
  (gk s t8).bind fun x2=>
  (gQ x2).bind fun r3=>
  if r3=true then
   some (.inr (.inl t8))
  else
   some (.inl (cD (t8+1)))
 else
  some (.inr (.inr ()))
def jE:Option (Int⊕(Unit)):=loop (fun(zz:Int)=>iE s t7 zz) t8
theorem mq{y:Int⊕(Int⊕(Unit))}(h:iE s t7 t8=some y):aE Pg GE 0 (cA Ej 55) (LQ (fun(zz:Int)=>b8 s t7 zz) ca bC y) (b8 s t7 t8):=by
 rcases aM h with⟨c1,h⟩|⟨c1,h⟩
 ·obtain⟨x2,bx2,h⟩:=au h
  obtain⟨r3,br3,h⟩:=au h
  have p5:=fun{sc F} (r:PS sc F)=>sg 0 c1<|sv (cW.ia (k:=.i64) bx2)<|sv (eb x2)<|bY (kw br3)<|r
  rcases aM h with⟨c4,h⟩|⟨c4,h⟩
  ·obtain rfl:=lf h
   have z:=p5<|sg 0 c4<|eF (ca (.inl t8)) (bC (.inl t8))
   exact j5 Dq (by intro hx;cases hx) z<|by kernel_rfl
  ·obtain rfl:=lf h
   exact qO Dq (p5<|sg 0 c4<|eF .normal (b8 s t7 (cD (t8+1))))<|by kernel_rfl
 ·obtain rfl:=lf h
  have z:=sg 0 c1<|eF (ca (.inr ())) (bC (.inr ()))
  exact j5 Dq (by intro hx;cases hx) z<|by kernel_rfl
theorem ij{x:Int⊕(Unit)}(h:jE s t7 t8=some x):aE Pg GE 0 (.loop (cA Ej 55)) (EX (ca x) (bC x)) (b8 s t7 t8):=
 aE.loop (S:=fun(zz:Int)=>b8 s t7 zz) (ex:=ca) (s:=t8) h fun zz y hy=>mq s t7 zz hy
end
def mo(s:waA):Option Int:=
 (jE s (s.length:Int) 0).bind fun o6=>match o6 with
 |(.inl o6)=>
  some o6
 |(.inr o6)=>
  some (-1)
theorem o0{s:waA}{r:Int}(h:mo s=some r):CC Pg GE 65 [sl ak s,.func (.func 42) [] []] (.int .i64 r) []:=by
 obtain⟨o6,bo6,h⟩:=au h
 rcases o6 with o6|o6
 ·obtain rfl:=lf h
  have z:=eG (cW.ln s)<|dz (e:=.ret) (s1:=bC (.inl o6)) (ij s (s.length:Int) 0 bo6)<|en (aI (rP (.int .i64 o6))<|trivial)
  exact bv Dq call65 func65 (c:=Ej) rfl (aI (aK aA s) (aI (aI trivial trivial) trivial)) z<|by kernel_rfl
 ·obtain rfl:=lf h
  have z:=eG (cW.ln s)<|dz (e:=.exit 0) (s1:=bC (.inr o6)) (ij s (s.length:Int) 0 bo6)<|en (aI (rP (.int .i64 (-1)))<|trivial)
  exact bv Dq call65 func65 (c:=Ej) rfl (aI (aK aA s) (aI (aI trivial trivial) trivial)) z<|by kernel_rfl
noncomputable def Fy:Code:=f41.body.getD .skip
def Fs:List Nat:=[]
def jD(s:waA):Option Bool:=
 (mo s).bind fun r1=>
 some (decide (r1>=0))
theorem mY{s:waA}{r:Bool}(h:jD s=some r):CC Pg GE 41 [sl ak s,.func (.func 42) [] []] (.bool r) []:=by
 obtain⟨r1,br1,h⟩:=au h
 obtain rfl:=lf h
 have z:=bY (o0 br1)<|en (aI (rP (.bool (decide (r1>=0))))<|trivial)
 exact bv Fs call41 func41 (c:=Fy) rfl (aI (aK aA s) (aI (aI trivial trivial) trivial)) z<|by kernel_rfl
noncomputable def Di:Code:=f21.body.getD .skip
def BN:List Nat:=[15]
section
variable(t16:waB)(t17:Int)(t18:Int)(m:af)(m2:af)(m3:waA)
def ky:aj:=a7 40 [(7,.bptr 0 0),(16,sl ac t16),(17,.int .i64 t17),(18,.int .i64 t18)] [.cells [.str m,.str m2,sl ak m3] []] []
def cX(o:Bool):aj:=a7 40 [(7,.bptr 0 0),(16,sl ac t16),(17,.int .i64 t17),(18,.int .i64 t18),(34,.bool o)] [.cells [.str m,.str m2,sl ak m3] []] []
def gg:Option Bool:=
 if(!(m==m2))=true then
  some true
 else
  (cZ (⟨m,m2,m3⟩:ae) (⟨m,m2,m3⟩:ae)).bind fun r7=>
  (cy r7 (⟨m,m2,m3⟩:ae)).bind fun r8=>
  some (!r8)
theorem j0{x:Bool}(h:gg m m2 m3=some x):aE Pg GE 0 (cA Di 31724) (EX .normal (cX t16 t17 t18 m m2 m3 x)) (ky t16 t17 t18 m m2 m3):=by
 have p6:=fun{sc F} (r:PS sc F)=>xi [0,1,0,4,15,31,63,63,255,63,1023,2047,4095]<|ss<|ss<|r
 rcases aM h with⟨c5,h⟩|⟨c5,h⟩
 ·obtain rfl:=lf h
  exact di BN (p6<|sg 6 c5<|eF .normal (cX t16 t17 t18 m m2 m3 true))<|by kernel_rfl
 ·obtain⟨r7,br7,h⟩:=au h
  obtain⟨r8,br8,h⟩:=au h
  obtain rfl:=lf h
  exact di BN (p6<|sg 6 c5<|sv (cx (⟨m,m2,m3⟩:ae) [])<|sv (cx (⟨m,m2,m3⟩:ae) [])<|bY (de br7)<|sv (cx (⟨m,m2,m3⟩:ae) [])<|bY (ed br8)<|eF .normal (cX t16 t17 t18 m m2 m3 (!r8)))<|by kernel_rfl
end
section
variable(t16:waB)(t17:Int)(t18:Int)
def aU:aj:=a7 40 [(16,sl ac t16),(17,.int .i64 t17),(18,.int .i64 t18)] [] []
def bu(o:Unit⊕(Unit)):Exit:=match o with
 |(.inl _)=>.ret
 |(.inr _)=>.exit 0
def aV(o:Unit⊕(Unit)):aj:=match o with
 |(.inl o)=>a7 40 [(2,.bool false),(3,.int .i64 0)] [] []
 |(.inr o)=>a7 40 [] [] []
def fp:Option (Int⊕(Unit⊕(Unit))):=
 if (decide (t18 < t17)) = true then
  (gk t16 t18).bind fun x4=>
  (gg x4.Caller x4.Callee x4.Arcs).bind fun o9=>
  if o9=true then
   some (.inl (cD (t18+1)))
  else
   (jD x4.Arcs).bind fun r12=>
   if(!r12)=true then
    some (.inr (.inl ()))
   else
    some (.inl (cD (t18+1)))
 else
  some (.inr (.inr ()))
def gh:Option (Unit⊕(Unit)):=loop (fun(zz:Int)=>fp t16 t17 zz) t18
theorem jv{y:Int⊕(Unit⊕(Unit))}(h:fp t16 t17 t18=some y):aE Pg GE 0 (cA Di 247) (LQ (fun(zz:Int)=>aU t16 t17 zz) bu aV y) (aU t16 t17 t18):=by
 rcases aM h with⟨c3,h⟩|⟨c3,h⟩
 ·obtain⟨x4,bx4,h⟩:=au h
  obtain⟨o9,bo9,h⟩:=au h
  have p11:=fun{sc F} (r:PS sc F)=>sg 0 c3<|sv (gd.ia (k:=.i64) bx4)<|sv (aN x4)<|sx vQ<|sx (iK x4)<|oX 1<|dz (j0 t16 t17 t18 x4.Caller x4.Callee x4.Arcs bo9)<|r
  rcases aM h with⟨c10,h⟩|⟨c10,h⟩
  ·obtain rfl:=lf h
   have z:=p11<|sg 0 c10<|rK 0 .normal (aU t16 t17 (cD (t18+1))) rfl (dL (aI (up (aK ag t16)) (aI trivial (aI trivial trivial)))) trivial
   exact h9 (A:=BN) mixed z<|by kernel_rfl
  ·obtain⟨r12,br12,h⟩:=au h
   have p14:=fun{sc F} (r:PS sc F)=>p11<|sg 0 c10<|ss<|bY (mY br12)<|r
   rcases aM h with⟨c13,h⟩|⟨c13,h⟩
   ·obtain rfl:=lf h
    have z:=p14<|sg 0 c13<|rK 0 (bu (.inl ())) (aV (.inl ())) rfl (dL (aI trivial (aI trivial trivial))) trivial
    exact jt (A:=BN) mixed (by intro hx;cases hx) z<|by kernel_rfl
   ·obtain rfl:=lf h
    have z:=p14<|sg 0 c13<|rK 0 .normal (aU t16 t17 (cD (t18+1))) rfl (dL (aI (up (aK ag t16)) (aI trivial (aI trivial trivial)))) trivial
    exact h9 (A:=BN) mixed z<|by kernel_rfl
 ·obtain rfl:=lf h
  have z:=sg 0 c3<|eF (bu (.inr ())) (aV (.inr ()))
  exact j5 BN (by intro hx;cases hx) z<|by kernel_rfl
theorem eT{x:Unit⊕(Unit)}(h:gh t16 t17 t18=some x):aE Pg GE 0 (.loop (cA Di 247)) (EX (bu x) (aV x)) (aU t16 t17 t18):=
 aE.loop (S:=fun(zz:Int)=>aU t16 t17 zz) (ex:=bu) (s:=t18) h fun zz y hy=>jv t16 t17 zz hy
end
def eK(a:waB):Option (Bool×Int):=
 (gA a).bind fun r1=>
 if(r1.2 !=0)=true then
  some (false,r1.2)
 else
  (gh r1.1 (r1.1.length:Int) 0).bind fun o15=>match o15 with
  |(.inl o15)=>
   some (false,0)
  |(.inr o15)=>
   some (true,0)
theorem gi{a:waB}{r:Bool×Int}(h:eK a=some r):CC Pg GE 21 [sl ac a] (.tuple [.bool r.1,.int .i64 r.2]) []:=by
 obtain⟨r1,br1,h⟩:=au h
 rcases aM h with⟨c2,h⟩|⟨c2,h⟩
 ·obtain rfl:=lf h
  have z:=bY (dc br1)<|sg 0 c2<|en (aI (rP (.tuple [.bool false,.int .i64 r1.2]))<|(aI trivial (aI trivial trivial)))
  exact bv BN call21 func21 (c:=Di) rfl (aI (aK ag a) trivial) z<|by kernel_rfl
 ·obtain⟨o15,bo15,h⟩:=au h
  rcases o15 with o15|o15
  ·obtain rfl:=lf h
   have z:=bY (dc br1)<|sg 0 c2<|eG (gd.ln r1.1)<|dz (e:=.ret) (s1:=aV (.inl o15)) (eT r1.1 (r1.1.length:Int) 0 bo15)<|en (aI (rP (.tuple [.bool false,.int .i64 0]))<|(aI trivial (aI trivial trivial)))
   exact bv BN call21 func21 (c:=Di) rfl (aI (aK ag a) trivial) z<|by kernel_rfl
  ·obtain rfl:=lf h
   have z:=bY (dc br1)<|sg 0 c2<|eG (gd.ln r1.1)<|dz (e:=.exit 0) (s1:=aV (.inr o15)) (eT r1.1 (r1.1.length:Int) 0 bo15)<|en (aI (rP (.tuple [.bool true,.int .i64 0]))<|(aI trivial (aI trivial trivial)))
   exact bv BN call21 func21 (c:=Di) rfl (aI (aK ag a) trivial) z<|by kernel_rfl
noncomputable def Eg:Code:=f17.body.getD .skip
def Ed:List Nat:=[13,19]
def kv(a:ae)(a2:ae):Option (ae×Int):=
 (bz a).bind fun r1=>
 if(r1 !=0)=true then
  some ((⟨([]:af),([]:af),([]:List am)⟩:ae),r1)
 else
  (bz a2).bind fun r4=>
  if(r4 !=0)=true then
   some ((⟨([]:af),([]:af),([]:List am)⟩:ae),r4)
  else
   if(!(a.Callee==a2.Caller))=true then
    some ((⟨([]:af),([]:af),([]:List am)⟩:ae),6)
   else
    (cZ a a2).bind fun r9=>
    some (r9,0)
theorem nl{a:ae}{a2:ae}{r:ae×Int}(h:kv a a2=some r):CC Pg GE 17 [.agg (ac a),.agg (ac a2)] (.tuple [.agg (ac r.1),.int .i64 r.2]) []:=by
 obtain⟨r1,br1,h⟩:=au h
 have p3:=fun{sc F} (r:PS sc F)=>se (bK a)<|se (bK a2)<|sx vQ<|sv (aN a)<|bY (bX br1)<|r
 rcases aM h with⟨c2,h⟩|⟨c2,h⟩
 ·obtain rfl:=lf h
  have z:=p3<|sg 0 c2<|sb (nO) (nN)<|sy (cb (⟨([]:af),([]:af),([]:List am)⟩:ae))<|en (aI (vbh PVal.tuple (rJ (iL (⟨([]:af),([]:af),([]:List am)⟩:ae)) (rJ (rP (.int .i64 r1)) (rfl:([]:List PVal)=[]))))<|(aI (ag (⟨([]:af),([]:af),([]:List am)⟩:ae)) (aI trivial trivial)))
  exact bv Ed call17 func17 (c:=Eg) rfl (aI (ag a) (aI (ag a2) trivial)) z<|by kernel_rfl
 ·obtain⟨r4,br4,h⟩:=au h
  have p6:=fun{sc F} (r:PS sc F)=>p3<|sg 0 c2<|sv (aN a2)<|bY (bX br4)<|r
  rcases aM h with⟨c5,h⟩|⟨c5,h⟩
  ·obtain rfl:=lf h
   have z:=p6<|sg 0 c5<|sb (nO) (nN)<|sy (cb (⟨([]:af),([]:af),([]:List am)⟩:ae))<|en (aI (vbh PVal.tuple (rJ (iL (⟨([]:af),([]:af),([]:List am)⟩:ae)) (rJ (rP (.int .i64 r4)) (rfl:([]:List PVal)=[]))))<|(aI (ag (⟨([]:af),([]:af),([]:List am)⟩:ae)) (aI trivial trivial)))
   exact bv Ed call17 func17 (c:=Eg) rfl (aI (ag a) (aI (ag a2) trivial)) z<|by kernel_rfl
  ·have p8:=fun{sc F} (r:PS sc F)=>p6<|sg 0 c5<|sv (aQ a)<|sv (aY a)<|sv (aP a2)<|sv (aX a2)<|r
   rcases aM h with⟨c7,h⟩|⟨c7,h⟩
   ·obtain rfl:=lf h
    have z:=p8<|sg 0 c7<|sb (nO) (nN)<|sy (cb (⟨([]:af),([]:af),([]:List am)⟩:ae))<|en (aI (vbh PVal.tuple (rJ (iL (⟨([]:af),([]:af),([]:List am)⟩:ae)) (rJ (rP (.int .i64 6)) (rfl:([]:List PVal)=[]))))<|(aI (ag (⟨([]:af),([]:af),([]:List am)⟩:ae)) (aI trivial trivial)))
    exact bv Ed call17 func17 (c:=Eg) rfl (aI (ag a) (aI (ag a2) trivial)) z<|by kernel_rfl
   ·obtain⟨r9,br9,h⟩:=au h
    obtain rfl:=lf h
    have z:=p8<|sg 0 c7<|sv (aN a)<|sv (aN a2)<|bY (de br9)<|sy (cb r9)<|en (aI (vbh PVal.tuple (rJ (iL r9) (rJ (rP (.int .i64 0)) (rfl:([]:List PVal)=[]))))<|(aI (ag r9) (aI trivial trivial)))
    exact bv Ed call17 func17 (c:=Eg) rfl (aI (ag a) (aI (ag a2) trivial)) z<|by kernel_rfl
noncomputable def AP:Code:=f16.body.getD .skip
def AD:List Nat:=[]
def oH:Option Bool:=
 (gF ([102]:af) ([102]:af) ([(lz 0 [0,1,1]),(lz 0 [1,0,0])]:List jp)).bind fun r1=>
 (eK ([r1]:List ae)).bind fun r2=>
 (gF ([102]:af) ([102]:af) ([(lz 0 [0,1,0]),(lz 0 [1,0,0])]:List jp)).bind fun r3=>
 (eK ([r3]:List ae)).bind fun r4=>
 (gF ([102]:af) ([103]:af) ([(lz 0 [0,1,1])]:List jp)).bind fun r5=>
 (gF ([103]:af) ([104]:af) ([(lz 0 [1,2,0])]:List jp)).bind fun r6=>
 (kv r5 r6).bind fun r7=>
 (gF ([102]:af) ([102]:af) ([(lz 0 [0,1,1]),(lz 0 [1,0,0])]:List jp)).bind fun r8=>
 (gA ([r8]:List ae)).bind fun r9=>
 if r2.1 = true then
  if (r2.2 == 0) = true then
   if (!r4.1) = true then
    if (r4.2 == 0) = true then
     if (r7.2 == 0) = true then
      (gF ([102]:af) ([104]:af) ([(lz 0 [0,2,1])]:List jp)).bind fun r20=>
      (cy r7.1 r20).bind fun r21=>
      if r21=true then
       (dq r7.1).bind fun r24=>
       if (r24 == ([102,32,45,62,32,104,58,32,48,32,62,32,50]:af)) = true then
        if (decide ((r9.1.length:Int) ≥ 2)) = true then
         if(r9.2==0)=true then
          (bz r7.1).bind fun r31=>
          if(r31==0)=true then
           (gF ([102]:af) ([102]:af) ([(lz 0 [0,6,0])]:List jp)).bind fun r34=>
           (bz r34).bind fun r35=>
           some (r35==2)
          else
           some false
         else
          some false
        else
         some false
       else
        some false
      else
       some false
     else
      some false
    else
     some false
   else
    some false
  else
   some false
 else
  some false
theorem pX {r:Bool} (h:oH = some r):CC Pg GE 16 [] (.bool r) []:=by
 obtain⟨r1,br1,h⟩:=au h
 obtain⟨r2,br2,h⟩:=au h
 obtain⟨r3,br3,h⟩:=au h
 obtain⟨r4,br4,h⟩:=au h
 obtain⟨r5,br5,h⟩:=au h
 obtain⟨r6,br6,h⟩:=au h
 obtain⟨r7,br7,h⟩:=au h
 obtain⟨r8,br8,h⟩:=au h
 obtain⟨r9,br9,h⟩:=au h
 have p11:=fun{sc F} (r:PS sc F)=>sv (ck 0 1 1)<|sv (ck 1 0 0)<|sv (xh.mk' (v:=oC) jl ([(lz 0 [0,1,1]),(lz 0 [1,0,0])]:List jp) 2 (by kernel_rfl))<|bY (d8 br1)<|sv (gd.mk' (v:=ms) kr ([r1]:List ae) 1 (by kernel_rfl))<|bY (gi br2)<|sv (ck 0 1 0)<|sv (ck 1 0 0)<|sv (xh.mk' (v:=oC) jl ([(lz 0 [0,1,0]),(lz 0 [1,0,0])]:List jp) 2 (by kernel_rfl))<|bY (d8 br3)<|sv (gd.mk' (v:=ms) kr ([r3]:List ae) 1 (by kernel_rfl))<|bY (gi br4)<|sv (ck 0 1 1)<|sv (xh.mk' (v:=oC) jl ([(lz 0 [0,1,1])]:List jp) 1 (by kernel_rfl))<|bY (d8 br5)<|sv (ck 1 2 0)<|sv (xh.mk' (v:=oC) jl ([(lz 0 [1,2,0])]:List jp) 1 (by kernel_rfl))<|bY (d8 br6)<|bY (nl br7)<|sx vQ<|sx (iK r7.1)<|sv (ck 0 1 1)<|sv (ck 1 0 0)<|sv (xh.mk' (v:=oC) jl ([(lz 0 [0,1,1]),(lz 0 [1,0,0])]:List jp) 2 (by kernel_rfl))<|bY (d8 br8)<|sv (gd.mk' (v:=ms) kr ([r8]:List ae) 1 (by kernel_rfl))<|bY (dc br9)<|xi [0,1,3,7,15,31,63,127,255,511,1023,2047,4095,8191,16383,32767,65535,131071,262143,262143,786431,1835007,4194303,8388607,16777215,33554431,67108863,134217727,268435455,536870911,1073741823,2147483647,4294967295,8589934591,17179869183,34359738367,68719476735,137438953471,274877906943,549755813887,1099511627775,2199023255551,4398046511103,8796093022207,17592186044415,35184372088831,70368744177663,140737488355327,281474976710655,562949953421311,1125899906842623]<|r
 rcases aM h with⟨c10,h⟩|⟨c10,h⟩
 ·have p13:=fun{sc F} (r:PS sc F)=>p11<|sg 2 c10<|r
  rcases aM h with⟨c12,h⟩|⟨c12,h⟩
  ·have p15:=fun{sc F} (r:PS sc F)=>p13<|sg 6 c12<|r
   rcases aM h with⟨c14,h⟩|⟨c14,h⟩
   ·have p17:=fun{sc F} (r:PS sc F)=>p15<|sg 10 c14<|r
    rcases aM h with⟨c16,h⟩|⟨c16,h⟩
    ·have p19:=fun{sc F} (r:PS sc F)=>p17<|sg 14 c16<|r
     rcases aM h with⟨c18,h⟩|⟨c18,h⟩
     ·obtain⟨r20,br20,h⟩:=au h
      obtain⟨r21,br21,h⟩:=au h
      have p23:=fun{sc F} (r:PS sc F)=>p19<|sg 18 c18<|sv (cx r7.1 [])<|sv (ck 0 2 1)<|sv (xh.mk' (v:=oC) jl ([(lz 0 [0,2,1])]:List jp) 1 (by kernel_rfl))<|bY (d8 br20)<|bY (ed br21)<|r
      rcases aM h with⟨c22,h⟩|⟨c22,h⟩
      ·obtain⟨r24,br24,h⟩:=au h
       have p26:=fun{sc F} (r:PS sc F)=>p23<|sg 25 c22<|sv (cx r7.1 [])<|bY (gB br24)<|r
       rcases aM h with⟨c25,h⟩|⟨c25,h⟩
       ·have p28:=fun{sc F} (r:PS sc F)=>p26<|sg 30 c25<|eG (gd.ln r9.1)<|r
        rcases aM h with⟨c27,h⟩|⟨c27,h⟩
        ·have p30:=fun{sc F} (r:PS sc F)=>p28<|sg 35 c27<|r
         rcases aM h with⟨c29,h⟩|⟨c29,h⟩
         ·obtain⟨r31,br31,h⟩:=au h
          have p33:=fun{sc F} (r:PS sc F)=>p30<|sg 39 c29<|sv (cx r7.1 [])<|bY (bX br31)<|r
          rcases aM h with⟨c32,h⟩|⟨c32,h⟩
          ·obtain⟨r34,br34,h⟩:=au h
           obtain⟨r35,br35,h⟩:=au h
           obtain rfl:=lf h
           have z:=p33<|sg 44 c32<|sv (ck 0 6 0)<|sv (xh.mk' (v:=oC) jl ([(lz 0 [0,6,0])]:List jp) 1 (by kernel_rfl))<|bY (d8 br34)<|bY (bX br35)<|en (aI (rP (.bool (r35==2)))<|trivial)
           exact bv AD call16 func16 (c:=AP) rfl trivial z<|by kernel_rfl
          ·obtain rfl:=lf h
           have z:=p33<|sg 44 c32<|en (aI (rP (.bool false))<|trivial)
           exact bv AD call16 func16 (c:=AP) rfl trivial z<|by kernel_rfl
         ·obtain rfl:=lf h
          have z:=p30<|sg 39 c29<|en (aI (rP (.bool false))<|trivial)
          exact bv AD call16 func16 (c:=AP) rfl trivial z<|by kernel_rfl
        ·obtain rfl:=lf h
         have z:=p28<|sg 35 c27<|en (aI (rP (.bool false))<|trivial)
         exact bv AD call16 func16 (c:=AP) rfl trivial z<|by kernel_rfl
       ·obtain rfl:=lf h
        have z:=p26<|sg 30 c25<|en (aI (rP (.bool false))<|trivial)
        exact bv AD call16 func16 (c:=AP) rfl trivial z<|by kernel_rfl
      ·obtain rfl:=lf h
       have z:=p23<|sg 25 c22<|en (aI (rP (.bool false))<|trivial)
       exact bv AD call16 func16 (c:=AP) rfl trivial z<|by kernel_rfl
     ·obtain rfl:=lf h
      have z:=p19<|sg 18 c18<|en (aI (rP (.bool false))<|trivial)
      exact bv AD call16 func16 (c:=AP) rfl trivial z<|by kernel_rfl
    ·obtain rfl:=lf h
     have z:=p17<|sg 14 c16<|en (aI (rP (.bool false))<|trivial)
     exact bv AD call16 func16 (c:=AP) rfl trivial z<|by kernel_rfl
   ·obtain rfl:=lf h
    have z:=p15<|sg 10 c14<|en (aI (rP (.bool false))<|trivial)
    exact bv AD call16 func16 (c:=AP) rfl trivial z<|by kernel_rfl
  ·obtain rfl:=lf h
   have z:=p13<|sg 6 c12<|en (aI (rP (.bool false))<|trivial)
   exact bv AD call16 func16 (c:=AP) rfl trivial z<|by kernel_rfl
 ·obtain rfl:=lf h
  have z:=p11<|sg 2 c10<|en (aI (rP (.bool false))<|trivial)
  exact bv AD call16 func16 (c:=AP) rfl trivial z<|by kernel_rfl
noncomputable def EE:Code:=f50.body.getD .skip
def Ee:List Nat:=[10,15,25]
section
variable(s:af)(t7:Int)(out:waC)(begin:Int)(t8:Int)
def dJ:aj:=a7 31 [(0,.str s),(3,sl cS out),(4,.int .i64 begin),(7,.int .i64 t7),(8,.int .i64 t8)] [] [((3,0),9)]
def j9(o:waC×Int):aj:=a7 31 [(0,.str s),(3,sl cS o.1),(4,.int .i64 o.2)] [] [((3,0),9)]
def e8:Option ((waC×Int×Int)⊕((waC×Int))):=
 if(decide (t8<t7))=true then
  (fL s t8).bind fun c2=>
  if(c2==46)=true then
   (yt s (some begin) (some t8)).bind fun s5=>
   (app out ([s5]:List af)).bind fun l6=>
   some (.inl (l6,cD (t8+1),cD (t8+1)))
  else
   some (.inl (out,begin,cD (t8+1)))
 else
  some (.inr (out,begin))
def my:Option ((waC×Int)):=loop (fun(zz:waC×Int×Int)=>e8 s t7 zz.1 zz.2.1 zz.2.2) (out,begin,t8)
theorem qR{y:(waC×Int×Int)⊕((waC×Int))}(h:e8 s t7 out begin t8=some y):aE Pg GE 0 (cA EE 247) (LQ (fun(zz:waC×Int×Int)=>dJ s t7 zz.1 zz.2.1 zz.2.2) (fun _=>.exit 0) (j9 s) y) (dJ s t7 out begin t8):=by
 rcases aM h with⟨c1,h⟩|⟨c1,h⟩
 ·obtain⟨c2,bc2,h⟩:=au h
  have p4:=fun{sc F} (r:PS sc F)=>sg 0 c1<|sv (dD (k:=.i64) underlying9 bc2)<|r
  rcases aM h with⟨c3,h⟩|⟨c3,h⟩
  ·obtain⟨s5,bs5,h⟩:=au h
   obtain⟨l6,bl6,h⟩:=au h
   obtain rfl:=lf h
   exact qO Ee (p4<|sg 0 c3<|sv (zO underlying9 bs5)<|sv (ol.mk' (v:=PVal.str) EQ ([s5]:List af) 1 (by kernel_rfl))<|sv (ol.ap bl6)<|eF .normal (dJ s t7 l6 (cD (t8+1)) (cD (t8+1))))<|by kernel_rfl
  ·obtain rfl:=lf h
   exact qO Ee (p4<|sg 0 c3<|eF .normal (dJ s t7 out begin (cD (t8+1))))<|by kernel_rfl
 ·obtain rfl:=lf h
  have z:=sg 0 c1<|eF (.exit 0) (j9 s (out,begin))
  exact j5 Ee (by intro hx;cases hx) z<|by kernel_rfl
theorem sL{x:(waC×Int)}(h:my s t7 out begin t8=some x):aE Pg GE 0 (.loop (cA EE 247)) (EX (.exit 0) (j9 s x)) (dJ s t7 out begin t8):=
 aE.loop (S:=fun(zz:waC×Int×Int)=>dJ s t7 zz.1 zz.2.1 zz.2.2) (ex:=(fun _=>.exit 0)) (s:=(out,begin,t8)) h fun zz y hy=>qR s t7 zz.1 zz.2.1 zz.2.2 hy
end
def oF(s:af):Option waC:=
 (my s (s.length:Int) ([]:List af) 0 0).bind fun o7=>
 (yt s (some o7.2) none).bind fun s8=>
 (app o7.1 ([s8]:List af)).bind fun l9=>
 some l9
theorem wC{s:af}{r:waC}(h:oF s=some r):CC Pg GE 50 [.str s] (sl cS r) [(0,9)]:=by
 obtain⟨o7,bo7,h⟩:=au h
 obtain⟨s8,bs8,h⟩:=au h
 obtain⟨l9,bl9,h⟩:=au h
 obtain rfl:=lf h
 have z:=eG (dg underlying9 s)<|dz (sL s (s.length:Int) ([]:List af) 0 0 bo7)<|sv (zO underlying9 bs8)<|sv (ol.mk' (v:=PVal.str) EQ ([s8]:List af) 1 (by kernel_rfl))<|sv (ol.ap bl9)<|en (aI (rP (sl cS l9))<|(aK DL l9))
 exact bv Ee call50 func50 (c:=EE) rfl (aI trivial trivial) z<|by kernel_rfl
noncomputable def Fl:Code:=f70.body.getD .skip
def E8:List Nat:=[]
def fx(c:Int):Option Bool:=
 if(decide (c>=97))=true then
  some (decide (c<=122))
 else
  some false
theorem fA{c:Int}{r:Bool}(h:fx c=some r):CC Pg GE 70 [.int .u8 c] (.bool r) []:=by
 rcases aM h with⟨c1,h⟩|⟨c1,h⟩
 ·obtain rfl:=lf h
  have z:=sg 3 c1<|en (aI (rP (.bool (decide (c<=122))))<|trivial)
  exact bv E8 call70 func70 (c:=Fl) rfl (aI trivial trivial) z<|by kernel_rfl
 ·obtain rfl:=lf h
  have z:=sg 3 c1<|en (aI (rP (.bool false))<|trivial)
  exact bv E8 call70 func70 (c:=Fl) rfl (aI trivial trivial) z<|by kernel_rfl
noncomputable def FE:Code:=f88.body.getD .skip
def Fx:List Nat:=[]
def mw:Option waC:=
 some ([([97,110,100]:af),([97,115,115,117,109,101]:af),([98,111,111,108]:af),([98,111,117,110,100]:af),([99,97,115,101]:af),([99,101,108,108]:af),([99,108,97,115,115]:af),([100,97,116,97]:af),([100,101,102]:af),([100,105,118]:af),([101,108,115,101]:af),([101,110,100]:af),([102,97,108,115,101]:af),([102,111,114,97,108,108]:af),([102,117,110]:af),([103,101,116]:af),([105,102]:af),([105,110]:af),([105,110,115,116]:af),([105,110,116]:af),([105,110,118,97,114,105,97,110,116]:af),([108,101,116]:af),([109,97,116,99,104]:af),([109,101,97,115,117,114,101]:af),([109,101,116,114,105,99]:af),([109,111,100]:af),([109,117]:af),([110,101,119]:af),([110,111,116]:af),([111,102]:af),([111,114]:af),([113,117,97,108]:af),([114,101,102,108,101,99,116]:af),([115,101,116]:af),([116,104,101,110]:af),([116,114,117,101]:af),([117,115,101]:af),([118]:af),([118,97,108]:af),([116,97,103]:af),([119,104,101,114,101]:af),([119,105,116,104]:af)]:List af)
theorem sJ{r:waC}(h:mw=some r):CC Pg GE 88 [] (sl cS r) [(0,9)]:=by
 obtain rfl:=lf h
 have z:=sv (ol.mk' (v:=PVal.str) EQ ([([97,110,100]:af),([97,115,115,117,109,101]:af),([98,111,111,108]:af),([98,111,117,110,100]:af),([99,97,115,101]:af),([99,101,108,108]:af),([99,108,97,115,115]:af),([100,97,116,97]:af),([100,101,102]:af),([100,105,118]:af),([101,108,115,101]:af),([101,110,100]:af),([102,97,108,115,101]:af),([102,111,114,97,108,108]:af),([102,117,110]:af),([103,101,116]:af),([105,102]:af),([105,110]:af),([105,110,115,116]:af),([105,110,116]:af),([105,110,118,97,114,105,97,110,116]:af),([108,101,116]:af),([109,97,116,99,104]:af),([109,101,97,115,117,114,101]:af),([109,101,116,114,105,99]:af),([109,111,100]:af),([109,117]:af),([110,101,119]:af),([110,111,116]:af),([111,102]:af),([111,114]:af),([113,117,97,108]:af),([114,101,102,108,101,99,116]:af),([115,101,116]:af),([116,104,101,110]:af),([116,114,117,101]:af),([117,115,101]:af),([118]:af),([118,97,108]:af),([116,97,103]:af),([119,104,101,114,101]:af),([119,105,116,104]:af)]:List af) 42 (by kernel_rfl))<|en (aI (rP (sl cS ([([97,110,100]:af),([97,115,115,117,109,101]:af),([98,111,111,108]:af),([98,111,117,110,100]:af),([99,97,115,101]:af),([99,101,108,108]:af),([99,108,97,115,115]:af),([100,97,116,97]:af),([100,101,102]:af),([100,105,118]:af),([101,108,115,101]:af),([101,110,100]:af),([102,97,108,115,101]:af),([102,111,114,97,108,108]:af),([102,117,110]:af),([103,101,116]:af),([105,102]:af),([105,110]:af),([105,110,115,116]:af),([105,110,116]:af),([105,110,118,97,114,105,97,110,116]:af),([108,101,116]:af),([109,97,116,99,104]:af),([109,101,97,115,117,114,101]:af),([109,101,116,114,105,99]:af),([109,111,100]:af),([109,117]:af),([110,101,119]:af),([110,111,116]:af),([111,102]:af),([111,114]:af),([113,117,97,108]:af),([114,101,102,108,101,99,116]:af),([115,101,116]:af),([116,104,101,110]:af),([116,114,117,101]:af),([117,115,101]:af),([118]:af),([118,97,108]:af),([116,97,103]:af),([119,104,101,114,101]:af),([119,105,116,104]:af)]:List af)))<|(aK DL ([([97,110,100]:af),([97,115,115,117,109,101]:af),([98,111,111,108]:af),([98,111,117,110,100]:af),([99,97,115,101]:af),([99,101,108,108]:af),([99,108,97,115,115]:af),([100,97,116,97]:af),([100,101,102]:af),([100,105,118]:af),([101,108,115,101]:af),([101,110,100]:af),([102,97,108,115,101]:af),([102,111,114,97,108,108]:af),([102,117,110]:af),([103,101,116]:af),([105,102]:af),([105,110]:af),([105,110,115,116]:af),([105,110,116]:af),([105,110,118,97,114,105,97,110,116]:af),([108,101,116]:af),([109,97,116,99,104]:af),([109,101,97,115,117,114,101]:af),([109,101,116,114,105,99]:af),([109,111,100]:af),([109,117]:af),([110,101,119]:af),([110,111,116]:af),([111,102]:af),([111,114]:af),([113,117,97,108]:af),([114,101,102,108,101,99,116]:af),([115,101,116]:af),([116,104,101,110]:af),([116,114,117,101]:af),([117,115,101]:af),([118]:af),([118,97,108]:af),([116,97,103]:af),([119,104,101,114,101]:af),([119,105,116,104]:af)]:List af)))
 exact bv Fx call88 func88 (c:=FE) rfl trivial z<|by kernel_rfl
noncomputable def El:Code:=f87.body.getD .skip
def Ds:List Nat:=[10,17]
section
variable(v:waC)(s:af)(t7:Int)(t8:Int)
def fS:aj:=a7 19 [(0,sl cS v),(1,.str s),(7,.int .i64 t7),(8,.int .i64 t8)] [] []
def fU(o:Int⊕(Unit)):Exit:=match o with
 |(.inl _)=>.ret
 |(.inr _)=>.exit 0
def eB(o:Int⊕(Unit)):aj:=match o with
 |(.inl o)=>a7 19 [(4,.int .i64 o)] [] []
 |(.inr o)=>a7 19 [] [] []
def fT:Option (Int⊕(Int⊕(Unit))):=
 if(decide (t8<t7))=true then
  (gk v t8).bind fun x2=>
  if(x2==s)=true then
   some (.inr (.inl t8))
  else
   some (.inl (cD (t8+1)))
 else
  some (.inr (.inr ()))
def nD:Option (Int⊕(Unit)):=loop (fun(zz:Int)=>fT v s t7 zz) t8
theorem sC{y:Int⊕(Int⊕(Unit))}(h:fT v s t7 t8=some y):aE Pg GE 0 (cA El 55) (LQ (fun(zz:Int)=>fS v s t7 zz) fU eB y) (fS v s t7 t8):=by
 rcases aM h with⟨c1,h⟩|⟨c1,h⟩
 ·obtain⟨x2,bx2,h⟩:=au h
  have p4:=fun{sc F} (r:PS sc F)=>sg 0 c1<|sv (ol.ia (k:=.i64) bx2)<|sv (mO D7 (.str x2) [])<|r
  rcases aM h with⟨c3,h⟩|⟨c3,h⟩
  ·obtain rfl:=lf h
   have z:=p4<|sg 0 c3<|eF (fU (.inl t8)) (eB (.inl t8))
   exact j5 Ds (by intro hx;cases hx) z<|by kernel_rfl
  ·obtain rfl:=lf h
   exact qO Ds (p4<|sg 0 c3<|eF .normal (fS v s t7 (cD (t8+1))))<|by kernel_rfl
 ·obtain rfl:=lf h
  have z:=sg 0 c1<|eF (fU (.inr ())) (eB (.inr ()))
  exact j5 Ds (by intro hx;cases hx) z<|by kernel_rfl
theorem nE{x:Int⊕(Unit)}(h:nD v s t7 t8=some x):aE Pg GE 0 (.loop (cA El 55)) (EX (fU x) (eB x)) (fS v s t7 t8):=
 aE.loop (S:=fun(zz:Int)=>fS v s t7 zz) (ex:=fU) (s:=t8) h fun zz y hy=>sC v s t7 zz hy
end
def pS(a:waC)(s:af):Option Int:=
 (nD a s (a.length:Int) 0).bind fun o5=>match o5 with
 |(.inl o5)=>
  some o5
 |(.inr o5)=>
  some (-1)
theorem xt{a:waC}{s:af}{r:Int}(h:pS a s=some r):CC Pg GE 87 [sl cS a,.str s] (.int .i64 r) []:=by
 obtain⟨o5,bo5,h⟩:=au h
 rcases o5 with o5|o5
 ·obtain rfl:=lf h
  have z:=eG (ol.ln a)<|dz (e:=.ret) (s1:=eB (.inl o5)) (nE a s (a.length:Int) 0 bo5)<|en (aI (rP (.int .i64 o5))<|trivial)
  exact bv Ds call87 func87 (c:=El) rfl (aI (aK DL a) (aI trivial trivial)) z<|by kernel_rfl
 ·obtain rfl:=lf h
  have z:=eG (ol.ln a)<|dz (e:=.exit 0) (s1:=eB (.inr o5)) (nE a s (a.length:Int) 0 bo5)<|en (aI (rP (.int .i64 (-1)))<|trivial)
  exact bv Ds call87 func87 (c:=El) rfl (aI (aK DL a) (aI trivial trivial)) z<|by kernel_rfl
noncomputable def FB:Code:=f71.body.getD .skip
def Fu:List Nat:=[]
def kS(s:af):Option Bool:=
 mw.bind fun r1=>
 (pS r1 s).bind fun r2=>
 some (decide (r2>=0))
theorem tx{s:af}{r:Bool}(h:kS s=some r):CC Pg GE 71 [.str s] (.bool r) []:=by
 obtain⟨r1,br1,h⟩:=au h
 obtain⟨r2,br2,h⟩:=au h
 obtain rfl:=lf h
 have z:=bY (sJ br1)<|bY (xt br2)<|en (aI (rP (.bool (decide (r2>=0))))<|trivial)
 exact bv Fu call71 func71 (c:=FB) rfl (aI trivial trivial) z<|by kernel_rfl
noncomputable def Fm:Code:=f72.body.getD .skip
def E9:List Nat:=[]
def iF(c:Int):Option Bool:=
 if(decide (c>=48))=true then
  some (decide (c<=57))
 else
  some false
theorem jN{c:Int}{r:Bool}(h:iF c=some r):CC Pg GE 72 [.int .u8 c] (.bool r) []:=by
 rcases aM h with⟨c1,h⟩|⟨c1,h⟩
 ·obtain rfl:=lf h
  have z:=sg 3 c1<|en (aI (rP (.bool (decide (c<=57))))<|trivial)
  exact bv E9 call72 func72 (c:=Fm) rfl (aI trivial trivial) z<|by kernel_rfl
 ·obtain rfl:=lf h
  have z:=sg 3 c1<|en (aI (rP (.bool false))<|trivial)
  exact bv E9 call72 func72 (c:=Fm) rfl (aI trivial trivial) z<|by kernel_rfl
noncomputable def CP:Code:=f51.body.getD .skip
def zS:List Nat:=[26]
section
variable(s:af)
def tq:aj:=a7 46 [(0,.str s)] [] []
def eV(o:Bool):aj:=a7 46 [(0,.str s),(21,.bool o)] [] []
def jG:Option Bool:=
 if(decide ((s.length:Int)<1))=true then
  some true
 else
  if(decide ((s.length:Int)>24))=true then
   some true
  else
   (fL s 0).bind fun c4=>
   (fx c4).bind fun r5=>
   if(!r5)=true then
    some true
   else
    (kS s).bind fun r8=>
    some r8
theorem sr{x:Bool}(h:jG s=some x):aE Pg GE 0 (cA CP 12) (EX .normal (eV s x)) (tq s):=by
 rcases aM h with⟨c1,h⟩|⟨c1,h⟩
 ·obtain rfl:=lf h
  exact di zS (eG (dg underlying9 s)<|sg 4 c1<|eF .normal (eV s true))<|by kernel_rfl
 ·have p3:=fun{sc F} (r:PS sc F)=>eG (dg underlying9 s)<|sg 4 c1<|eG (dg underlying9 s)<|r
  rcases aM h with⟨c2,h⟩|⟨c2,h⟩
  ·obtain rfl:=lf h
   exact di zS (p3<|sg 9 c2<|eF .normal (eV s true))<|by kernel_rfl
  ·obtain⟨c4,bc4,h⟩:=au h
   obtain⟨r5,br5,h⟩:=au h
   have p7:=fun{sc F} (r:PS sc F)=>p3<|sg 9 c2<|sv (dD (k:=.i64) underlying9 bc4)<|bY (fA br5)<|r
   rcases aM h with⟨c6,h⟩|⟨c6,h⟩
   ·obtain rfl:=lf h
    exact di zS (p7<|sg 15 c6<|eF .normal (eV s true))<|by kernel_rfl
   ·obtain⟨r8,br8,h⟩:=au h
    obtain rfl:=lf h
    exact di zS (p7<|sg 15 c6<|bY (tx br8)<|eF .normal (eV s r8))<|by kernel_rfl
end
section
variable(s:af)(i:Int)(t23:Int)
def tr:aj:=a7 46 [(0,.str s),(3,.int .i64 i),(23,.int .i64 t23),(24,.int .i64 i)] [] []
def gZ(o:Bool):aj:=a7 46 [(0,.str s),(23,.int .i64 t23),(24,.int .i64 i),(44,.bool o)] [] []
def jH:Option Bool:=
 (fL s i).bind fun c13=>
 (fx c13).bind fun r14=>
 if(!r14)=true then
  (fL s i).bind fun c17=>
  (iF c17).bind fun r18=>
  if(!r18)=true then
   (fL s i).bind fun c21=>
   some (c21 !=95)
  else
   some false
 else
  some false
theorem sw{x:Bool}(h:jH s i=some x):aE Pg GE 0 (cA CP 7670) (EX .normal (gZ s i t23 x)) (tr s i t23):=by
 obtain⟨c13,bc13,h⟩:=au h
 obtain⟨r14,br14,h⟩:=au h
 have p16:=fun{sc F} (r:PS sc F)=>sv (dD (k:=.i64) underlying9 bc13)<|bY (fA br14)<|r
 rcases aM h with⟨c15,h⟩|⟨c15,h⟩
 ·obtain⟨c17,bc17,h⟩:=au h
  obtain⟨r18,br18,h⟩:=au h
  have p20:=fun{sc F} (r:PS sc F)=>p16<|sg 6 c15<|sv (dD (k:=.i64) underlying9 bc17)<|bY (jN br18)<|r
  rcases aM h with⟨c19,h⟩|⟨c19,h⟩
  ·obtain⟨c21,bc21,h⟩:=au h
   obtain rfl:=lf h
   exact di zS (p20<|sg 13 c19<|sv (dD (k:=.i64) underlying9 bc21)<|eF .normal (gZ s i t23 (c21 !=95)))<|by kernel_rfl
  ·obtain rfl:=lf h
   exact di zS (p20<|sg 13 c19<|eF .normal (gZ s i t23 false))<|by kernel_rfl
 ·obtain rfl:=lf h
  exact di zS (p16<|sg 6 c15<|eF .normal (gZ s i t23 false))<|by kernel_rfl
end
section
variable(s:af)(t23:Int)(t24:Int)
def eX:aj:=a7 46 [(0,.str s),(23,.int .i64 t23),(24,.int .i64 t24)] [] []
def eZ(o:Unit⊕(Unit)):Exit:=match o with
 |(.inl _)=>.ret
 |(.inr _)=>.exit 0
def dH(o:Unit⊕(Unit)):aj:=match o with
 |(.inl o)=>a7 46 [(2,.int .i64 3)] [] []
 |(.inr o)=>a7 46 [] [] []
def eY:Option (Int⊕(Unit⊕(Unit))):=
 if(decide (t24<t23))=true then
  (jH s t24).bind fun o22=>
  if o22=true then
   some (.inr (.inl ()))
  else
   some (.inl (cD (t24+1)))
 else
  some (.inr (.inr ()))
def jI:Option (Unit⊕(Unit)):=loop (fun(zz:Int)=>eY s t23 zz) t24
theorem qP{y:Int⊕(Unit⊕(Unit))}(h:eY s t23 t24=some y):aE Pg GE 0 (cA CP 119) (LQ (fun(zz:Int)=>eX s t23 zz) eZ dH y) (eX s t23 t24):=by
 rcases aM h with⟨c12,h⟩|⟨c12,h⟩
 ·obtain⟨o22,bo22,h⟩:=au h
  have p24:=fun{sc F} (r:PS sc F)=>sg 0 c12<|oX 2<|dz (sw s t24 t23 bo22)<|r
  rcases aM h with⟨c23,h⟩|⟨c23,h⟩
  ·obtain rfl:=lf h
   have z:=p24<|sg 0 c23<|eF (eZ (.inl ())) (dH (.inl ()))
   exact j5 zS (by intro hx;cases hx) z<|by kernel_rfl
  ·obtain rfl:=lf h
   exact qO zS (p24<|sg 0 c23<|eF .normal (eX s t23 (cD (t24+1))))<|by kernel_rfl
 ·obtain rfl:=lf h
  have z:=sg 0 c12<|eF (eZ (.inr ())) (dH (.inr ()))
  exact j5 zS (by intro hx;cases hx) z<|by kernel_rfl
theorem m9{x:Unit⊕(Unit)}(h:jI s t23 t24=some x):aE Pg GE 0 (.loop (cA CP 119)) (EX (eZ x) (dH x)) (eX s t23 t24):=
 aE.loop (S:=fun(zz:Int)=>eX s t23 zz) (ex:=eZ) (s:=t24) h fun zz y hy=>qP s t23 zz hy
end
def oD(s:af):Option Int:=
 (jG s).bind fun o9=>
 if o9=true then
  some 3
 else
  (jI s (s.length:Int) 0).bind fun o25=>match o25 with
  |(.inl o25)=>
   some 3
  |(.inr o25)=>
   some 0
theorem wy{s:af}{r:Int}(h:oD s=some r):CC Pg GE 51 [.str s] (.int .i64 r) []:=by
 obtain⟨o9,bo9,h⟩:=au h
 have p11:=fun{sc F} (r:PS sc F)=>oX 2<|dz (sr s bo9)<|r
 rcases aM h with⟨c10,h⟩|⟨c10,h⟩
 ·obtain rfl:=lf h
  have z:=p11<|sg 0 c10<|en (aI (rP (.int .i64 3))<|trivial)
  exact bv zS call51 func51 (c:=CP) rfl (aI trivial trivial) z<|by kernel_rfl
 ·obtain⟨o25,bo25,h⟩:=au h
  rcases o25 with o25|o25
  ·obtain rfl:=lf h
   have z:=p11<|sg 0 c10<|eG (dg underlying9 s)<|dz (e:=.ret) (s1:=dH (.inl o25)) (m9 s (s.length:Int) 0 bo25)<|en (aI (rP (.int .i64 3))<|trivial)
   exact bv zS call51 func51 (c:=CP) rfl (aI trivial trivial) z<|by kernel_rfl
  ·obtain rfl:=lf h
   have z:=p11<|sg 0 c10<|eG (dg underlying9 s)<|dz (e:=.exit 0) (s1:=dH (.inr o25)) (m9 s (s.length:Int) 0 bo25)<|en (aI (rP (.int .i64 0))<|trivial)
   exact bv zS call51 func51 (c:=CP) rfl (aI trivial trivial) z<|by kernel_rfl
noncomputable def Fo:Code:=f73.body.getD .skip
def Fa:List Nat:=[]
def gD(c:Int):Option Bool:=
 if(decide (c>=65))=true then
  some (decide (c<=90))
 else
  some false
theorem j8{c:Int}{r:Bool}(h:gD c=some r):CC Pg GE 73 [.int .u8 c] (.bool r) []:=by
 rcases aM h with⟨c1,h⟩|⟨c1,h⟩
 ·obtain rfl:=lf h
  have z:=sg 3 c1<|en (aI (rP (.bool (decide (c<=90))))<|trivial)
  exact bv Fa call73 func73 (c:=Fo) rfl (aI trivial trivial) z<|by kernel_rfl
 ·obtain rfl:=lf h
  have z:=sg 3 c1<|en (aI (rP (.bool false))<|trivial)
  exact bv Fa call73 func73 (c:=Fo) rfl (aI trivial trivial) z<|by kernel_rfl
noncomputable def CQ:Code:=f52.body.getD .skip
def yy:List Nat:=[38]
section
variable(s:af)
def tz:aj:=a7 59 [(0,.str s)] [] []
def cm(o:Bool):aj:=a7 59 [(0,.str s),(33,.bool o)] [] []
def jJ:Option Bool:=
 if(decide ((s.length:Int)<1))=true then
  some true
 else
  if(decide ((s.length:Int)>24))=true then
   some true
  else
   (fL s 0).bind fun c4=>
   (gD c4).bind fun r5=>
   if(!r5)=true then
    some true
   else
    if(s==([73,110,116]:af))=true then
     some true
    else
     if(s==([66,111,111,108]:af))=true then
      some true
     else
      if(s==([67,101,108,108]:af))=true then
       some true
      else
       some (s==([70,117,110]:af))
theorem sE{x:Bool}(h:jJ s=some x):aE Pg GE 0 (cA CQ 12) (EX .normal (cm s x)) (tz s):=by
 rcases aM h with⟨c1,h⟩|⟨c1,h⟩
 ·obtain rfl:=lf h
  exact di yy (eG (dg underlying9 s)<|sg 4 c1<|eF .normal (cm s true))<|by kernel_rfl
 ·have p3:=fun{sc F} (r:PS sc F)=>eG (dg underlying9 s)<|sg 4 c1<|eG (dg underlying9 s)<|r
  rcases aM h with⟨c2,h⟩|⟨c2,h⟩
  ·obtain rfl:=lf h
   exact di yy (p3<|sg 9 c2<|eF .normal (cm s true))<|by kernel_rfl
  ·obtain⟨c4,bc4,h⟩:=au h
   obtain⟨r5,br5,h⟩:=au h
   have p7:=fun{sc F} (r:PS sc F)=>p3<|sg 9 c2<|sv (dD (k:=.i64) underlying9 bc4)<|bY (j8 br5)<|r
   rcases aM h with⟨c6,h⟩|⟨c6,h⟩
   ·obtain rfl:=lf h
    exact di yy (p7<|sg 15 c6<|eF .normal (cm s true))<|by kernel_rfl
   ·have p9:=fun{sc F} (r:PS sc F)=>p7<|sg 15 c6<|r
    rcases aM h with⟨c8,h⟩|⟨c8,h⟩
    ·obtain rfl:=lf h
     exact di yy (p9<|sg 19 c8<|eF .normal (cm s true))<|by kernel_rfl
    ·have p11:=fun{sc F} (r:PS sc F)=>p9<|sg 19 c8<|r
     rcases aM h with⟨c10,h⟩|⟨c10,h⟩
     ·obtain rfl:=lf h
      exact di yy (p11<|sg 23 c10<|eF .normal (cm s true))<|by kernel_rfl
     ·have p13:=fun{sc F} (r:PS sc F)=>p11<|sg 23 c10<|r
      rcases aM h with⟨c12,h⟩|⟨c12,h⟩
      ·obtain rfl:=lf h
       exact di yy (p13<|sg 27 c12<|eF .normal (cm s true))<|by kernel_rfl
      ·obtain rfl:=lf h
       exact di yy (p13<|sg 27 c12<|eF .normal (cm s (s==([70,117,110]:af))))<|by kernel_rfl
end
section
variable(s:af)(i:Int)(t35:Int)
def tA:aj:=a7 59 [(0,.str s),(3,.int .i64 i),(35,.int .i64 t35),(36,.int .i64 i)] [] []
def g4(o:Bool):aj:=a7 59 [(0,.str s),(35,.int .i64 t35),(36,.int .i64 i),(57,.bool o)] [] []
def jK:Option Bool:=
 (fL s i).bind fun c18=>
 (fx c18).bind fun r19=>
 if(!r19)=true then
  (fL s i).bind fun c22=>
  (gD c22).bind fun r23=>
  if(!r23)=true then
   (fL s i).bind fun c26=>
   (iF c26).bind fun r27=>
   some (!r27)
  else
   some false
 else
  some false
theorem sG{x:Bool}(h:jK s i=some x):aE Pg GE 0 (cA CQ 7670) (EX .normal (g4 s i t35 x)) (tA s i t35):=by
 obtain⟨c18,bc18,h⟩:=au h
 obtain⟨r19,br19,h⟩:=au h
 have p21:=fun{sc F} (r:PS sc F)=>sv (dD (k:=.i64) underlying9 bc18)<|bY (fA br19)<|r
 rcases aM h with⟨c20,h⟩|⟨c20,h⟩
 ·obtain⟨c22,bc22,h⟩:=au h
  obtain⟨r23,br23,h⟩:=au h
  have p25:=fun{sc F} (r:PS sc F)=>p21<|sg 6 c20<|sv (dD (k:=.i64) underlying9 bc22)<|bY (j8 br23)<|r
  rcases aM h with⟨c24,h⟩|⟨c24,h⟩
  ·obtain⟨c26,bc26,h⟩:=au h
   obtain⟨r27,br27,h⟩:=au h
   obtain rfl:=lf h
   exact di yy (p25<|sg 13 c24<|sv (dD (k:=.i64) underlying9 bc26)<|bY (jN br27)<|eF .normal (g4 s i t35 (!r27)))<|by kernel_rfl
  ·obtain rfl:=lf h
   exact di yy (p25<|sg 13 c24<|eF .normal (g4 s i t35 false))<|by kernel_rfl
 ·obtain rfl:=lf h
  exact di yy (p21<|sg 6 c20<|eF .normal (g4 s i t35 false))<|by kernel_rfl
end
section
variable(s:af)(t35:Int)(t36:Int)
def e5:aj:=a7 59 [(0,.str s),(35,.int .i64 t35),(36,.int .i64 t36)] [] []
def e7(o:Unit⊕(Unit)):Exit:=match o with
 |(.inl _)=>.ret
 |(.inr _)=>.exit 0
def dI(o:Unit⊕(Unit)):aj:=match o with
 |(.inl o)=>a7 59 [(2,.int .i64 3)] [] []
 |(.inr o)=>a7 59 [] [] []
def e6:Option (Int⊕(Unit⊕(Unit))):=
 if(decide (t36<t35))=true then
  (jK s t36).bind fun o28=>
  if o28=true then
   some (.inr (.inl ()))
  else
   some (.inl (cD (t36+1)))
 else
  some (.inr (.inr ()))
def jL:Option (Unit⊕(Unit)):=loop (fun(zz:Int)=>e6 s t35 zz) t36
theorem qQ{y:Int⊕(Unit⊕(Unit))}(h:e6 s t35 t36=some y):aE Pg GE 0 (cA CQ 119) (LQ (fun(zz:Int)=>e5 s t35 zz) e7 dI y) (e5 s t35 t36):=by
 rcases aM h with⟨c17,h⟩|⟨c17,h⟩
 ·obtain⟨o28,bo28,h⟩:=au h
  have p30:=fun{sc F} (r:PS sc F)=>sg 0 c17<|oX 2<|dz (sG s t36 t35 bo28)<|r
  rcases aM h with⟨c29,h⟩|⟨c29,h⟩
  ·obtain rfl:=lf h
   have z:=p30<|sg 0 c29<|eF (e7 (.inl ())) (dI (.inl ()))
   exact j5 yy (by intro hx;cases hx) z<|by kernel_rfl
  ·obtain rfl:=lf h
   exact qO yy (p30<|sg 0 c29<|eF .normal (e5 s t35 (cD (t36+1))))<|by kernel_rfl
 ·obtain rfl:=lf h
  have z:=sg 0 c17<|eF (e7 (.inr ())) (dI (.inr ()))
  exact j5 yy (by intro hx;cases hx) z<|by kernel_rfl
theorem na{x:Unit⊕(Unit)}(h:jL s t35 t36=some x):aE Pg GE 0 (.loop (cA CQ 119)) (EX (e7 x) (dI x)) (e5 s t35 t36):=
 aE.loop (S:=fun(zz:Int)=>e5 s t35 zz) (ex:=e7) (s:=t36) h fun zz y hy=>qQ s t35 zz hy
end
def oE(s:af):Option Int:=
 (jJ s).bind fun o14=>
 if o14=true then
  some 3
 else
  (jL s (s.length:Int) 0).bind fun o31=>match o31 with
  |(.inl o31)=>
   some 3
  |(.inr o31)=>
   some 0
theorem wA{s:af}{r:Int}(h:oE s=some r):CC Pg GE 52 [.str s] (.int .i64 r) []:=by
 obtain⟨o14,bo14,h⟩:=au h
 have p16:=fun{sc F} (r:PS sc F)=>oX 2<|dz (sE s bo14)<|r
 rcases aM h with⟨c15,h⟩|⟨c15,h⟩
 ·obtain rfl:=lf h
  have z:=p16<|sg 0 c15<|en (aI (rP (.int .i64 3))<|trivial)
  exact bv yy call52 func52 (c:=CQ) rfl (aI trivial trivial) z<|by kernel_rfl
 ·obtain⟨o31,bo31,h⟩:=au h
  rcases o31 with o31|o31
  ·obtain rfl:=lf h
   have z:=p16<|sg 0 c15<|eG (dg underlying9 s)<|dz (e:=.ret) (s1:=dI (.inl o31)) (na s (s.length:Int) 0 bo31)<|en (aI (rP (.int .i64 3))<|trivial)
   exact bv yy call52 func52 (c:=CQ) rfl (aI trivial trivial) z<|by kernel_rfl
  ·obtain rfl:=lf h
   have z:=p16<|sg 0 c15<|eG (dg underlying9 s)<|dz (e:=.exit 0) (s1:=dI (.inr o31)) (na s (s.length:Int) 0 bo31)<|en (aI (rP (.int .i64 0))<|trivial)
   exact bv yy call52 func52 (c:=CQ) rfl (aI trivial trivial) z<|by kernel_rfl
noncomputable def CR:Code:=f53.body.getD .skip
def zh:List Nat:=[21]
section
variable(p:af)
def u4:aj:=a7 65 [(0,.str p)] [] []
def lq(o:Bool):aj:=a7 65 [(0,.str p),(13,.bool o)] [] []
def nF:Option Bool:=
 if(decide ((p.length:Int)<1))=true then
  some true
 else
  some (decide ((p.length:Int)>24))
theorem tB{x:Bool}(h:nF p=some x):aE Pg GE 0 (cA CR 12) (EX .normal (lq p x)) (u4 p):=by
 rcases aM h with⟨c1,h⟩|⟨c1,h⟩
 ·obtain rfl:=lf h
  exact di zh (eG (dg underlying9 p)<|sg 4 c1<|eF .normal (lq p true))<|by kernel_rfl
 ·obtain rfl:=lf h
  exact di zh (eG (dg underlying9 p)<|sg 4 c1<|eG (dg underlying9 p)<|eF .normal (lq p (decide ((p.length:Int)>24))))<|by kernel_rfl
end
section
variable(p:af)(plain:Bool)(word:Bool)(i:Int)(t18:Int)
def u5:aj:=a7 65 [(0,.str p),(3,.bool plain),(4,.bool word),(5,.int .i64 i),(18,.int .i64 t18),(19,.int .i64 i)] [] []
def fV(o:Bool):aj:=a7 65 [(0,.str p),(3,.bool o),(4,.bool word),(5,.int .i64 i),(18,.int .i64 t18),(19,.int .i64 i)] [] []
def kT:Option Bool:=
 if plain=true then
  (fL p i).bind fun c9=>
  (fx c9).bind fun r10=>
  if r10=true then
   some true
  else
   (fL p i).bind fun c13=>
   (gD c13).bind fun r14=>
   if r14=true then
    some true
   else
    (fL p i).bind fun c17=>
    (iF c17).bind fun r18=>
    some r18
 else
  some false
theorem tD{x:Bool}(h:kT p plain i=some x):aE Pg GE 0 (cA CR 32246) (EX .normal (fV p word i t18 x)) (u5 p plain word i t18):=by
 rcases aM h with⟨c8,h⟩|⟨c8,h⟩
 ·obtain⟨c9,bc9,h⟩:=au h
  obtain⟨r10,br10,h⟩:=au h
  have p12:=fun{sc F} (r:PS sc F)=>sg 2 c8<|sv (dD (k:=.i64) underlying9 bc9)<|bY (fA br10)<|r
  rcases aM h with⟨c11,h⟩|⟨c11,h⟩
  ·obtain rfl:=lf h
   exact di zh (p12<|sg 7 c11<|eF .normal (fV p word i t18 true))<|by kernel_rfl
  ·obtain⟨c13,bc13,h⟩:=au h
   obtain⟨r14,br14,h⟩:=au h
   have p16:=fun{sc F} (r:PS sc F)=>p12<|sg 7 c11<|sv (dD (k:=.i64) underlying9 bc13)<|bY (j8 br14)<|r
   rcases aM h with⟨c15,h⟩|⟨c15,h⟩
   ·obtain rfl:=lf h
    exact di zh (p16<|sg 13 c15<|eF .normal (fV p word i t18 true))<|by kernel_rfl
   ·obtain⟨c17,bc17,h⟩:=au h
    obtain⟨r18,br18,h⟩:=au h
    obtain rfl:=lf h
    exact di zh (p16<|sg 13 c15<|sv (dD (k:=.i64) underlying9 bc17)<|bY (jN br18)<|eF .normal (fV p word i t18 r18))<|by kernel_rfl
 ·obtain rfl:=lf h
  exact di zh (sg 2 c8<|eF .normal (fV p word i t18 false))<|by kernel_rfl
end
section
variable(p:af)(t18:Int)(plain:Bool)(word:Bool)(t19:Int)
def cF:aj:=a7 65 [(0,.str p),(3,.bool plain),(4,.bool word),(18,.int .i64 t18),(19,.int .i64 t19)] [] []
def lr(o:Bool×Bool):aj:=a7 65 [(3,.bool o.1),(4,.bool o.2)] [] []
def fW:Option ((Bool×Bool×Int)⊕((Bool×Bool))):=
 if (decide (t19 < t18)) = true then
  (kT p plain t19).bind fun o19=>
  if word=true then
   (fL p t19).bind fun c22=>
   (fx c22).bind fun r23=>
   if r23=true then
    some (.inl (o19,true,cD (t19+1)))
   else
    (fL p t19).bind fun c26=>
    (iF c26).bind fun r27=>
    if r27=true then
     some (.inl (o19,true,cD (t19+1)))
    else
     (fL p t19).bind fun c30=>
     some (.inl (o19,c30==95,cD (t19+1)))
  else
   some (.inl (o19,false,cD (t19+1)))
 else
  some (.inr (plain,word))
def kU:Option ((Bool×Bool)):=loop (fun(zz:Bool×Bool×Int)=>fW p t18 zz.1 zz.2.1 zz.2.2) (plain,word,t19)
theorem sK{y:(Bool×Bool×Int)⊕((Bool×Bool))}(h:fW p t18 plain word t19=some y):aE Pg GE 0 (cA CR 503) (LQ (fun(zz:Bool×Bool×Int)=>cF p t18 zz.1 zz.2.1 zz.2.2) (fun _=>.exit 0) lr y) (cF p t18 plain word t19):=by
 rcases aM h with⟨c7,h⟩|⟨c7,h⟩
 ·obtain⟨o19,bo19,h⟩:=au h
  have p21:=fun{sc F} (r:PS sc F)=>sg 0 c7<|oX 2<|dz (tD p plain word t19 t18 bo19)<|r
  rcases aM h with⟨c20,h⟩|⟨c20,h⟩
  ·obtain⟨c22,bc22,h⟩:=au h
   obtain⟨r23,br23,h⟩:=au h
   have p25:=fun{sc F} (r:PS sc F)=>p21<|sg 2 c20<|sv (dD (k:=.i64) underlying9 bc22)<|bY (fA br23)<|r
   rcases aM h with⟨c24,h⟩|⟨c24,h⟩
   ·obtain rfl:=lf h
    exact qO zh (p25<|sg 7 c24<|eF .normal (cF p t18 o19 true (cD (t19+1))))<|by kernel_rfl
   ·obtain⟨c26,bc26,h⟩:=au h
    obtain⟨r27,br27,h⟩:=au h
    have p29:=fun{sc F} (r:PS sc F)=>p25<|sg 7 c24<|sv (dD (k:=.i64) underlying9 bc26)<|bY (jN br27)<|r
    rcases aM h with⟨c28,h⟩|⟨c28,h⟩
    ·obtain rfl:=lf h
     exact qO zh (p29<|sg 13 c28<|eF .normal (cF p t18 o19 true (cD (t19+1))))<|by kernel_rfl
    ·obtain⟨c30,bc30,h⟩:=au h
     obtain rfl:=lf h
     exact qO zh (p29<|sg 13 c28<|sv (dD (k:=.i64) underlying9 bc30)<|eF .normal (cF p t18 o19 (c30==95) (cD (t19+1))))<|by kernel_rfl
  ·obtain rfl:=lf h
   exact qO zh (p21<|sg 2 c20<|eF .normal (cF p t18 o19 false (cD (t19+1))))<|by kernel_rfl
 ·obtain rfl:=lf h
  have z:=sg 0 c7<|eF (.exit 0) (lr (plain,word))
  exact j5 zh (by intro hx;cases hx) z<|by kernel_rfl
theorem tF{x:(Bool×Bool)}(h:kU p t18 plain word t19=some x):aE Pg GE 0 (.loop (cA CR 503)) (EX (.exit 0) (lr x)) (cF p t18 plain word t19):=
 aE.loop (S:=fun(zz:Bool×Bool×Int)=>cF p t18 zz.1 zz.2.1 zz.2.2) (ex:=(fun _=>.exit 0)) (s:=(plain,word,t19)) h fun zz y hy=>sK p t18 zz.1 zz.2.1 zz.2.2 hy
end
def pT(p:af):Option Bool:=
 (nF p).bind fun o2=>
 if o2=true then
  some false
 else
  (fL p 0).bind fun c5=>
  (fx c5).bind fun r6=>
  (kU p (p.length:Int) true r6 0).bind fun o31=>
  if o31.1=true then
   some true
  else
   some o31.2
theorem xv{p:af}{r:Bool}(h:pT p=some r):CC Pg GE 53 [.str p] (.bool r) []:=by
 obtain⟨o2,bo2,h⟩:=au h
 have p4:=fun{sc F} (r:PS sc F)=>oX 2<|dz (tB p bo2)<|r
 rcases aM h with⟨c3,h⟩|⟨c3,h⟩
 ·obtain rfl:=lf h
  have z:=p4<|sg 0 c3<|en (aI (rP (.bool false))<|trivial)
  exact bv zh call53 func53 (c:=CR) rfl (aI trivial trivial) z<|by kernel_rfl
 ·obtain⟨c5,bc5,h⟩:=au h
  obtain⟨r6,br6,h⟩:=au h
  obtain⟨o31,bo31,h⟩:=au h
  have p33:=fun{sc F} (r:PS sc F)=>p4<|sg 0 c3<|sv (dD (k:=.i64) underlying9 bc5)<|bY (fA br6)<|eG (dg underlying9 p)<|dz (tF p (p.length:Int) true r6 0 bo31)<|r
  rcases aM h with⟨c32,h⟩|⟨c32,h⟩
  ·obtain rfl:=lf h
   have z:=p33<|sg 2 c32<|en (aI (rP (.bool true))<|trivial)
   exact bv zh call53 func53 (c:=CR) rfl (aI trivial trivial) z<|by kernel_rfl
  ·obtain rfl:=lf h
   have z:=p33<|sg 2 c32<|en (aI (rP (.bool o31.2))<|trivial)
   exact bv zh call53 func53 (c:=CR) rfl (aI trivial trivial) z<|by kernel_rfl
noncomputable def CN:Code:=f28.body.getD .skip
def AE:List Nat:=[]
section
variable(v:waC)
def u3:aj:=a7 45 [(3,sl cS v)] [] [((3,0),9)]
def fO(o:Bool):aj:=a7 45 [(3,sl cS v),(33,.bool o)] [] [((3,0),9)]
def kR:Option Bool:=
 (gk v 0).bind fun x3=>
 (oD x3).bind fun r4=>
 if (r4 != 0) = true then
  (gk v 0).bind fun x7=>
  (oE x7).bind fun r8=>
  if(r8 !=0)=true then
   (gk v 0).bind fun x11=>
   if(!(x11==([118]:af)))=true then
    some true
   else
    some ((v.length:Int)==1)
  else
   some false
 else
  some false
theorem tv{x:Bool}(h:kR v=some x):aE Pg GE 0 (cA CN 60) (EX .normal (fO v x)) (u3 v):=by
 obtain⟨x3,bx3,h⟩:=au h
 obtain⟨r4,br4,h⟩:=au h
 have p6:=fun{sc F} (r:PS sc F)=>sv (ol.ia (k:=.i64) bx3)<|sv (mO D7 (.str x3) [])<|bY (wy br4)<|r
 rcases aM h with⟨c5,h⟩|⟨c5,h⟩
 ·obtain⟨x7,bx7,h⟩:=au h
  obtain⟨r8,br8,h⟩:=au h
  have p10:=fun{sc F} (r:PS sc F)=>p6<|sg 6 c5<|sv (ol.ia (k:=.i64) bx7)<|sv (mO D7 (.str x7) [])<|bY (wA br8)<|r
  rcases aM h with⟨c9,h⟩|⟨c9,h⟩
  ·obtain⟨x11,bx11,h⟩:=au h
   have p13:=fun{sc F} (r:PS sc F)=>p10<|sg 13 c9<|sv (ol.ia (k:=.i64) bx11)<|sv (mO D7 (.str x11) [])<|r
   rcases aM h with⟨c12,h⟩|⟨c12,h⟩
   ·obtain rfl:=lf h
    exact di AE (p13<|sg 18 c12<|eF .normal (fO v true))<|by kernel_rfl
   ·obtain rfl:=lf h
    exact di AE (p13<|sg 18 c12<|eG (ol.ln v)<|eF .normal (fO v ((v.length:Int)==1)))<|by kernel_rfl
  ·obtain rfl:=lf h
   exact di AE (p10<|sg 13 c9<|eF .normal (fO v false))<|by kernel_rfl
 ·obtain rfl:=lf h
  exact di AE (p6<|sg 6 c5<|eF .normal (fO v false))<|by kernel_rfl
end
section
variable(t35:waC)(t36:Int)(t37:Int)
def fP:aj:=a7 45 [(35,sl cS t35),(36,.int .i64 t36),(37,.int .i64 t37)] [] []
def fR(o:Unit⊕(Unit)):Exit:=match o with
 |(.inl _)=>.ret
 |(.inr _)=>.exit 0
def eA(o:Unit⊕(Unit)):aj:=match o with
 |(.inl o)=>a7 45 [(2,.int .i64 3)] [] []
 |(.inr o)=>a7 45 [] [] []
def fQ:Option (Int⊕(Unit⊕(Unit))):=
 if(decide (t37<t36))=true then
  (gk t35 t37).bind fun x19=>
  (pT x19).bind fun r20=>
  if(!r20)=true then
   some (.inr (.inl ()))
  else
   some (.inl (cD (t37+1)))
 else
  some (.inr (.inr ()))
def nB:Option (Unit⊕(Unit)):=loop (fun(zz:Int)=>fQ t35 t36 zz) t37
theorem sB{y:Int⊕(Unit⊕(Unit))}(h:fQ t35 t36 t37=some y):aE Pg GE 0 (cA CN 503) (LQ (fun(zz:Int)=>fP t35 t36 zz) fR eA y) (fP t35 t36 t37):=by
 rcases aM h with⟨c18,h⟩|⟨c18,h⟩
 ·obtain⟨x19,bx19,h⟩:=au h
  obtain⟨r20,br20,h⟩:=au h
  have p22:=fun{sc F} (r:PS sc F)=>sg 0 c18<|sv (ol.ia (k:=.i64) bx19)<|sv (mO D7 (.str x19) [])<|bY (xv br20)<|r
  rcases aM h with⟨c21,h⟩|⟨c21,h⟩
  ·obtain rfl:=lf h
   have z:=p22<|sg 0 c21<|eF (fR (.inl ())) (eA (.inl ()))
   exact j5 AE (by intro hx;cases hx) z<|by kernel_rfl
  ·obtain rfl:=lf h
   exact qO AE (p22<|sg 0 c21<|eF .normal (fP t35 t36 (cD (t37+1))))<|by kernel_rfl
 ·obtain rfl:=lf h
  have z:=sg 0 c18<|eF (fR (.inr ())) (eA (.inr ()))
  exact j5 AE (by intro hx;cases hx) z<|by kernel_rfl
theorem nC{x:Unit⊕(Unit)}(h:nB t35 t36 t37=some x):aE Pg GE 0 (.loop (cA CN 503)) (EX (fR x) (eA x)) (fP t35 t36 t37):=
 aE.loop (S:=fun(zz:Int)=>fP t35 t36 zz) (ex:=fR) (s:=t37) h fun zz y hy=>sB t35 t36 zz hy
end
def nA(s:af):Option Int:=
 if(decide ((s.length:Int)>120))=true then
  some 3
 else
  (oF s).bind fun r2=>
  (kR r2).bind fun o14=>
  if o14=true then
   some 3
  else
   (yt r2 (some 1) none).bind fun l17=>
   (nB l17 (l17.length:Int) 0).bind fun o23=>match o23 with
   |(.inl o23)=>
    some 3
   |(.inr o23)=>
    some 0
theorem rG{s:af}{r:Int}(h:nA s=some r):CC Pg GE 28 [.str s] (.int .i64 r) []:=by
 rcases aM h with⟨c1,h⟩|⟨c1,h⟩
 ·obtain rfl:=lf h
  have z:=eG (dg underlying9 s)<|sg 0 c1<|en (aI (rP (.int .i64 3))<|trivial)
  exact bv AE call28 func28 (c:=CN) rfl (aI trivial trivial) z<|by kernel_rfl
 ·obtain⟨r2,br2,h⟩:=au h
  obtain⟨o14,bo14,h⟩:=au h
  have p16:=fun{sc F} (r:PS sc F)=>eG (dg underlying9 s)<|sg 0 c1<|bY (wC br2)<|oX 1<|dz (tv r2 bo14)<|r
  rcases aM h with⟨c15,h⟩|⟨c15,h⟩
  ·obtain rfl:=lf h
   have z:=p16<|sg 0 c15<|en (aI (rP (.int .i64 3))<|trivial)
   exact bv AE call28 func28 (c:=CN) rfl (aI trivial trivial) z<|by kernel_rfl
  ·obtain⟨l17,bl17,h⟩:=au h
   obtain⟨o23,bo23,h⟩:=au h
   rcases o23 with o23|o23
   ·obtain rfl:=lf h
    have z:=p16<|sg 0 c15<|sv (ol.sc bl17)<|eG (ol.ln l17)<|dz (e:=.ret) (s1:=eA (.inl o23)) (nC l17 (l17.length:Int) 0 bo23)<|en (aI (rP (.int .i64 3))<|trivial)
    exact bv AE call28 func28 (c:=CN) rfl (aI trivial trivial) z<|by kernel_rfl
   ·obtain rfl:=lf h
    have z:=p16<|sg 0 c15<|sv (ol.sc bl17)<|eG (ol.ln l17)<|dz (e:=.exit 0) (s1:=eA (.inr o23)) (nC l17 (l17.length:Int) 0 bo23)<|en (aI (rP (.int .i64 0))<|trivial)
    exact bv AE call28 func28 (c:=CN) rfl (aI trivial trivial) z<|by kernel_rfl
noncomputable def EC:Code:=f29.body.getD .skip
def Ev:List Nat:=[]
def py(a:am)(a2:am):Option Bool:=
 if(decide (a.From<a2.From))=true then
  some true
 else
  if(a.From==a2.From)=true then
   some (decide (a.To<a2.To))
  else
   some false
theorem va{a:am}{a2:am}{r:Bool}(h:py a a2=some r):CC Pg GE 29 [.agg (ak a),.agg (ak a2)] (.bool r) []:=by
 have p2:=fun{sc F} (r:PS sc F)=>se (mM a)<|se (mM a2)<|sv (bS a)<|sv (co a)<|sv (bS a2)<|sv (co a2)<|r
 rcases aM h with⟨c1,h⟩|⟨c1,h⟩
 ·obtain rfl:=lf h
  have z:=p2<|sg 6 c1<|en (aI (rP (.bool true))<|trivial)
  exact bv Ev call29 func29 (c:=EC) rfl (aI (aA a) (aI (aA a2) trivial)) z<|by kernel_rfl
 ·have p4:=fun{sc F} (r:PS sc F)=>p2<|sg 6 c1<|sv (bS a)<|sv (co a)<|sv (bS a2)<|sv (co a2)<|r
  rcases aM h with⟨c3,h⟩|⟨c3,h⟩
  ·obtain rfl:=lf h
   have z:=p4<|sg 12 c3<|sv (d9 a)<|sv (fi a)<|sv (d9 a2)<|sv (fi a2)<|en (aI (rP (.bool (decide (a.To<a2.To))))<|trivial)
   exact bv Ev call29 func29 (c:=EC) rfl (aI (aA a) (aI (aA a2) trivial)) z<|by kernel_rfl
  ·obtain rfl:=lf h
   have z:=p4<|sg 12 c3<|en (aI (rP (.bool false))<|trivial)
   exact bv Ev call29 func29 (c:=EC) rfl (aI (aA a) (aI (aA a2) trivial)) z<|by kernel_rfl
end Go.Proofs.YtoficachfgggjaaDoor
