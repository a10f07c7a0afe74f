/- PROVED: a part of the proof. Conditions: none. -/
import Derived.Test.YtoficachfgggjaaDoorPkC10
noncomputable section
namespace Go.Proofs.YtoficachfgggjaaDoor
open Go Go.Proofs.Tryd
set_option linter.unusedVariables false
set_option maxRecDepth 100000
noncomputable def Cu:Code:=f19.body.getD .skip
def zr:List Nat:=[24]
section
variable(v:waA)(t15:Int)(t16:Int)
def cb:ak:=aY 109 [(0,sl ac v),(14,sl ac v),(15,.int .i64 t15),(16,.int .i64 t16)] [] []
def ch(o:(waA×Int)⊕(Unit)):Exit:=match o with
 |(.inl _)=>.ret
 |(.inr _)=>.exit 0
def bE(o:(waA×Int)⊕(Unit)):ak:=match o with
 |(.inl o)=>aY 109 [(2,sl ac o.1),(3,.int .i64 o.2)] [] [((2,0),24)]
 |(.inr o)=>aY 109 [(0,sl ac v)] [] []
def ce:Option (Int⊕((waA×Int)⊕(Unit))):=
 if(decide (t16<t15))=true then
  (eQ v t16).bind fun x2=>
  (cq x2).bind fun r3=>
  if(r3 !=0)=true then
   some (.inr (.inl (([]:List aa),r3)))
  else
   some (.inl (bA (t16+1)))
 else
  some (.inr (.inr ()))
def bp:Option ((waA×Int)⊕(Unit)):=loop (fun(zz:Int)=>ce v t15 zz) t16
theorem nc{y:Int⊕((waA×Int)⊕(Unit))}(h:ce v t15 t16=some y):aA Pg GE 0 (cA Cu 55) (LQ (fun(zz:Int)=>cb v t15 zz) ch (bE v) y) (cb v t15 t16):=by
 rcases aG h with⟨c1,h⟩|⟨c1,h⟩
 ·obtain⟨x2,bx2,h⟩:=ax h
  obtain⟨r3,br3,h⟩:=ax h
  have p5:=fun{sc F} (r:PS sc F)=>sg 0 c1<|sv (bQ.ia (k:=.i64) bx2)<|sv (aT x2)<|sx qo<|sx (dA x2)<|sv (aV x2 [])<|bW (dH br3)<|r
  rcases aG h with⟨c4,h⟩|⟨c4,h⟩
  ·obtain rfl:=lf h
   have z:=p5<|sg 0 c4<|mW 0 (ch (.inl (([]:List aa),r3))) (bE v (.inl (([]:List aa),r3))) rfl (bN (aI (up (aq ae ([]:List aa))) (aI trivial trivial))) trivial
   exact im (A:=zr) mixed (by intro hx;cases hx) z<|by kernel_rfl
  ·obtain rfl:=lf h
   have z:=p5<|sg 0 c4<|mW 0 .normal (cb v t15 (bA (t16+1))) rfl (bN (aI (up (aq ae v)) (aI (up (aq ae v)) (aI trivial (aI trivial trivial))))) trivial
   exact cJ (A:=zr) mixed z<|by kernel_rfl
 ·obtain rfl:=lf h
  have z:=sg 0 c1<|eF (ch (.inr ())) (bE v (.inr ()))
  exact jI zr (by intro hx;cases hx) z<|by kernel_rfl
theorem jd{x:(waA×Int)⊕(Unit)}(h:bp v t15 t16=some x):aA Pg GE 0 (.loop (cA Cu 55)) (EX (ch x) (bE v x)) (cb v t15 t16):=
 aA.loop (S:=fun(zz:Int)=>cb v t15 zz) (ex:=ch) (s:=t16) h fun zz y hy=>nc v t15 zz hy
end
section
variable(t28:waA)(t29:Int)(t30:Int)(m0:(List (ag×Bool)))(m:waA)
def cj:ak:=aY 109 [(8,.bptr 2 0),(9,.func (.func 36) [] [.bptr 1 0,.bptr 2 0]),(28,sl ac t28),(29,.int .i64 t29),(30,.int .i64 t30)] [.map (dw PVal.bool m0),.cells [.mapr 0] [],.cells [sl ac m] [(0,24)]] []
def fG(o:(List (ag×Bool))×waA):ak:=aY 109 [(8,.bptr 2 0),(9,.func (.func 36) [] [.bptr 1 0,.bptr 2 0])] [.map (dw PVal.bool o.1),.cells [.mapr 0] [],.cells [sl ac o.2] [(0,24)]] []
def cm:Option ((Int×(List (ag×Bool))×waA)⊕(((List (ag×Bool))×waA))):=
 if(decide (t30<t29))=true then
  (eQ t28 t30).bind fun x8=>
  (bK x8 m0 m).bind fun r9=>
  some (.inl (bA (t30+1),r9.1,r9.2))
 else
  some (.inr (m0,m))
def bR:Option (((List (ag×Bool))×waA)):=loop (fun(zz:Int×(List (ag×Bool))×waA)=>cm t28 t29 zz.1 zz.2.1 zz.2.2) (t30,m0,m)
theorem nf{y:(Int×(List (ag×Bool))×waA)⊕(((List (ag×Bool))×waA))}(h:cm t28 t29 t30 m0 m=some y):aA Pg GE 0 (cA Cu 1015) (LQ (fun(zz:Int×(List (ag×Bool))×waA)=>cj t28 t29 zz.1 zz.2.1 zz.2.2) (fun _=>.exit 2) fG y) (cj t28 t29 t30 m0 m):=by
 rcases aG h with⟨c7,h⟩|⟨c7,h⟩
 ·obtain⟨x8,bx8,h⟩:=ax h
  obtain⟨r9,br9,h⟩:=ax h
  obtain rfl:=lf h
  have z:=sg 0 c7<|sv (bQ.ia (k:=.i64) bx8)<|sv (aT x8)<|sx qo<|sx (dA x8)<|sv (aV x8 [])<|si (.cg ⟨[1,0,2],[.agg (ac x8),.bptr 0 0,.bptr 2 0],[],[.cells [.mapr 0] [],.map (dw PVal.bool m0),.cells [sl ac m] [(0,24)]],[.cells [.mapr 1] [],.map (dw PVal.bool m0),.cells [sl ac m] [(0,24)]],[.cells [.mapr 0] [],.map (dw PVal.bool r9.1),.cells [sl ac r9.2] [(0,24)]],[.cells [.mapr 1] [],.map (dw PVal.bool r9.1),.cells [sl ac r9.2] [(0,24)]],.tuple [],.tuple [],[]⟩) (fB br9)<|sf (aI (xR [1,0,2] (.agg (ac x8)) (ae x8)) (aI (xB [1,0,2] 0 1 0 rfl) (aI (xB [1,0,2] 2 2 0 rfl) trivial)))<|sf (aI (aI (rB (.cells [.mapr 0] [])) (aI (rW []) (aI (xM [1,0,2] 1 0 rfl) trivial))) (aI (aI (rB (.map (dw PVal.bool m0))) (aI (rM (dw PVal.bool m0)) (Gk (n:=0) PVal.bool (fun x=>trivial) m0))) (aI (aI (rB (.cells [sl ac m] [(0,24)])) (aI (rW [(0,24)]) (aI (xR [1,0,2] (sl ac m) (aq ae m)) trivial))) trivial)))<|sf (aI (aI (rW []) (aI (xM [1,0,2] 1 0 rfl) trivial)) (aI (aI (rM (dw PVal.bool r9.1)) (Gk (n:=0) PVal.bool (fun x=>trivial) r9.1)) (aI (aI (rW [(0,24)]) (aI (xR [1,0,2] (sl ac r9.2) (aq ae r9.2)) trivial)) trivial)))<|sf (xR [1,0,2] (.tuple []) trivial)<|mW 0 .normal (cj t28 t29 (bA (t30+1)) r9.1 r9.2) rfl (bN (aI (dj rfl) (aI (aI trivial (aI (dj rfl) (aI (dj rfl) trivial))) (aI (up (aq ae t28)) (aI trivial (aI trivial trivial)))))) (aI (Gk PVal.bool (fun x=>trivial) r9.1) (aI (aI (dj rfl) trivial) (aI (aI (up (aq ae r9.2)) trivial) trivial)))
  exact cJ (A:=zr) mixed z<|by kernel_rfl
 ·obtain rfl:=lf h
  have z:=sg 0 c7<|eF (.exit 2) (fG (m0,m))
  exact jI zr (by intro hx;cases hx) z<|by kernel_rfl
theorem og{x:((List (ag×Bool))×waA)}(h:bR t28 t29 t30 m0 m=some x):aA Pg GE 0 (.loop (cA Cu 1015)) (EX (.exit 2) (fG x)) (cj t28 t29 t30 m0 m):=
 aA.loop (S:=fun(zz:Int×(List (ag×Bool))×waA)=>cj t28 t29 zz.1 zz.2.1 zz.2.2) (ex:=(fun _=>.exit 2)) (s:=(t30,m0,m)) h fun zz y hy=>nf t28 t29 zz.1 zz.2.1 zz.2.2 hy
end
section
variable(i:Int)(m0:(List (ag×Bool)))(m:waA)
def oU:ak:=aY 109 [(8,.bptr 2 0),(9,.func (.func 36) [] [.bptr 1 0,.bptr 2 0]),(12,.int .i64 i)] [.map (dw PVal.bool m0),.cells [.mapr 0] [],.cells [sl ac m] [(0,24)]] []
def fC(o:Bool):ak:=aY 109 [(8,.bptr 2 0),(9,.func (.func 36) [] [.bptr 1 0,.bptr 2 0]),(12,.int .i64 i),(46,.bool o)] [.map (dw PVal.bool m0),.cells [.mapr 0] [],.cells [sl ac m] [(0,24)]] []
def ee:Option Bool:=
 if(decide (i<(m.length:Int)))=true then
  some (decide ((m.length:Int)<=400))
 else
  some false
theorem n9{x:Bool}(h:ee i m=some x):aA Pg GE 0 (cA Cu 8156) (EX .normal (fC i m0 m x)) (oU i m0 m):=by
 have p12:=fun{sc F} (r:PS sc F)=>ss<|dB (bQ.ln m)<|r
 rcases aG h with⟨c11,h⟩|⟨c11,h⟩
 ·obtain rfl:=lf h
  exact dz zr (p12<|sg 5 c11<|ss<|dB (bQ.ln m)<|eF .normal (fC i m0 m (decide ((m.length:Int)<=400))))<|by kernel_rfl
 ·obtain rfl:=lf h
  exact dz zr (p12<|sg 5 c11<|eF .normal (fC i m0 m false))<|by kernel_rfl
end
section
variable(i:Int)(k:Int)(m0:(List (ag×Bool)))(m:waA)
def oV:ak:=aY 109 [(8,.bptr 2 0),(9,.func (.func 36) [] [.bptr 1 0,.bptr 2 0]),(12,.int .i64 i),(13,.int .i64 k)] [.map (dw PVal.bool m0),.cells [.mapr 0] [],.cells [sl ac m] [(0,24)]] []
def fD(o:Bool):ak:=aY 109 [(8,.bptr 2 0),(9,.func (.func 36) [] [.bptr 1 0,.bptr 2 0]),(12,.int .i64 i),(13,.int .i64 k),(56,.bool o)] [.map (dw PVal.bool m0),.cells [.mapr 0] [],.cells [sl ac m] [(0,24)]] []
def ef:Option Bool:=
 if(decide (k<=i))=true then
  some (decide ((m.length:Int)<=400))
 else
  some false
theorem oc{x:Bool}(h:ef i k m=some x):aA Pg GE 0 (cA Cu 522172) (EX .normal (fD i k m0 m x)) (oV i k m0 m):=by
 rcases aG h with⟨c16,h⟩|⟨c16,h⟩
 ·obtain rfl:=lf h
  exact dz zr (sg 4 c16<|ss<|dB (bQ.ln m)<|eF .normal (fD i k m0 m (decide ((m.length:Int)<=400))))<|by kernel_rfl
 ·obtain rfl:=lf h
  exact dz zr (sg 4 c16<|eF .normal (fD i k m0 m false))<|by kernel_rfl
end
section
variable(i:Int)(k:Int)(m0:(List (ag×Bool)))(m:waA)
def oX:ak:=aY 109 [(8,.bptr 2 0),(9,.func (.func 36) [] [.bptr 1 0,.bptr 2 0]),(12,.int .i64 i),(13,.int .i64 k)] [.map (dw PVal.bool m0),.cells [.mapr 0] [],.cells [sl ac m] [(0,24)]] []
def fF(o:(List (ag×Bool))×waA):ak:=aY 109 [(8,.bptr 2 0),(9,.func (.func 36) [] [.bptr 1 0,.bptr 2 0]),(12,.int .i64 i),(13,.int .i64 k)] [.map (dw PVal.bool o.1),.cells [.mapr 0] [],.cells [sl ac o.2] [(0,24)]] []
def cO:Option (((List (ag×Bool))×waA)):=
 (eQ m i).bind fun x20=>
 (eQ m k).bind fun x21=>
 if(x20.Callee==x21.Caller)=true then
  (eQ m i).bind fun x24=>
  (eQ m k).bind fun x25=>
  (bM x24 x25).bind fun r26=>
  (bK r26 m0 m).bind fun r27=>
  some (r27.1,r27.2)
 else
  some (m0,m)
theorem oe{x:((List (ag×Bool))×waA)}(h:cO i k m0 m=some x):aA Pg GE 0 (cA Cu 2088698) (EX .normal (fF i k x)) (oX i k m0 m):=by
 obtain⟨x20,bx20,h⟩:=ax h
 obtain⟨x21,bx21,h⟩:=ax h
 have p23:=fun{sc F} (r:PS sc F)=>zQ [0,0,3,7,15,0,0,96,224,480,1023]<|ss<|sv (bQ.ia (k:=.i64) bx20)<|sv (aE x20)<|sv (aN x20)<|ss<|sv (bQ.ia (k:=.i64) bx21)<|sv (aD x21)<|sv (aM x21)<|r
 rcases aG h with⟨c22,h⟩|⟨c22,h⟩
 ·obtain⟨x24,bx24,h⟩:=ax h
  obtain⟨x25,bx25,h⟩:=ax h
  obtain⟨r26,br26,h⟩:=ax h
  obtain⟨r27,br27,h⟩:=ax h
  obtain rfl:=lf h
  exact dz zr (p23<|sg 0 c22<|sk<|Ji (.dx [0,0,0,6,14,0,0,96,224,510] [] [] [])<|ss<|sv (bQ.ia (k:=.i64) bx24)<|sv (aT x24)<|ss<|sv (bQ.ia (k:=.i64) bx25)<|sv (aT x25)<|bW (ep br26)<|si (.cg ⟨[1,0,2],[.agg (ac r26),.bptr 0 0,.bptr 2 0],[],[.cells [.mapr 0] [],.map (dw PVal.bool m0),.cells [sl ac m] [(0,24)]],[.cells [.mapr 1] [],.map (dw PVal.bool m0),.cells [sl ac m] [(0,24)]],[.cells [.mapr 0] [],.map (dw PVal.bool r27.1),.cells [sl ac r27.2] [(0,24)]],[.cells [.mapr 1] [],.map (dw PVal.bool r27.1),.cells [sl ac r27.2] [(0,24)]],.tuple [],.tuple [],[]⟩) (fB br27)<|sf (aI (xR [1,0,2] (.agg (ac r26)) (ae r26)) (aI (xB [1,0,2] 0 1 0 rfl) (aI (xB [1,0,2] 2 2 0 rfl) trivial)))<|sf (aI (aI (rB (.cells [.mapr 0] [])) (aI (rW []) (aI (xM [1,0,2] 1 0 rfl) trivial))) (aI (aI (rB (.map (dw PVal.bool m0))) (aI (rM (dw PVal.bool m0)) (Gk (n:=0) PVal.bool (fun x=>trivial) m0))) (aI (aI (rB (.cells [sl ac m] [(0,24)])) (aI (rW [(0,24)]) (aI (xR [1,0,2] (sl ac m) (aq ae m)) trivial))) trivial)))<|sf (aI (aI (rW []) (aI (xM [1,0,2] 1 0 rfl) trivial)) (aI (aI (rM (dw PVal.bool r27.1)) (Gk (n:=0) PVal.bool (fun x=>trivial) r27.1)) (aI (aI (rW [(0,24)]) (aI (xR [1,0,2] (sl ac r27.2) (aq ae r27.2)) trivial)) trivial)))<|sf (xR [1,0,2] (.tuple []) trivial)<|eF .normal (fF i k (r27.1,r27.2)))<|by kernel_rfl
 ·obtain rfl:=lf h
  exact dz zr (p23<|sg 0 c22<|eF .normal (fF i k (m0,m)))<|by kernel_rfl
end
section
variable(i:Int)(k:Int)(m0:(List (ag×Bool)))(m:waA)
def oW:ak:=aY 109 [(8,.bptr 2 0),(9,.func (.func 36) [] [.bptr 1 0,.bptr 2 0]),(12,.int .i64 i),(13,.int .i64 k)] [.map (dw PVal.bool m0),.cells [.mapr 0] [],.cells [sl ac m] [(0,24)]] []
def fE(o:(List (ag×Bool))×waA):ak:=aY 109 [(8,.bptr 2 0),(9,.func (.func 36) [] [.bptr 1 0,.bptr 2 0]),(12,.int .i64 i),(13,.int .i64 k)] [.map (dw PVal.bool o.1),.cells [.mapr 0] [],.cells [sl ac o.2] [(0,24)]] []
def eh:Option (((List (ag×Bool))×waA)):=
 (cO i k m0 m).bind fun o28=>
 (eQ o28.2 k).bind fun x29=>
 (eQ o28.2 i).bind fun x30=>
 if(x29.Callee==x30.Caller)=true then
  (eQ o28.2 k).bind fun x33=>
  (eQ o28.2 i).bind fun x34=>
  (bM x33 x34).bind fun r35=>
  (bK r35 o28.1 o28.2).bind fun r36=>
  some (r36.1,r36.2)
 else
  some (o28.1,o28.2)
theorem od{x:((List (ag×Bool))×waA)}(h:eh i k m0 m=some x):aA Pg GE 0 (cA Cu 522174) (EX .normal (fE i k x)) (oW i k m0 m):=by
 obtain⟨o28,bo28,h⟩:=ax h
 obtain⟨x29,bx29,h⟩:=ax h
 obtain⟨x30,bx30,h⟩:=ax h
 have p32:=fun{sc F} (r:PS sc F)=>pZ 0<|da (oe i k m0 m bo28)<|zQ [0,0,3,7,15,0,0,96,224,480,1023]<|ss<|sv (bQ.ia (k:=.i64) bx29)<|sv (aE x29)<|sv (aN x29)<|ss<|sv (bQ.ia (k:=.i64) bx30)<|sv (aD x30)<|sv (aM x30)<|r
 rcases aG h with⟨c31,h⟩|⟨c31,h⟩
 ·obtain⟨x33,bx33,h⟩:=ax h
  obtain⟨x34,bx34,h⟩:=ax h
  obtain⟨r35,br35,h⟩:=ax h
  obtain⟨r36,br36,h⟩:=ax h
  obtain rfl:=lf h
  exact dz zr (p32<|sg 0 c31<|sk<|Ji (.dx [0,0,0,6,14,0,0,96,224,510] [] [] [])<|ss<|sv (bQ.ia (k:=.i64) bx33)<|sv (aT x33)<|ss<|sv (bQ.ia (k:=.i64) bx34)<|sv (aT x34)<|bW (ep br35)<|si (.cg ⟨[1,0,2],[.agg (ac r35),.bptr 0 0,.bptr 2 0],[],[.cells [.mapr 0] [],.map (dw PVal.bool o28.1),.cells [sl ac o28.2] [(0,24)]],[.cells [.mapr 1] [],.map (dw PVal.bool o28.1),.cells [sl ac o28.2] [(0,24)]],[.cells [.mapr 0] [],.map (dw PVal.bool r36.1),.cells [sl ac r36.2] [(0,24)]],[.cells [.mapr 1] [],.map (dw PVal.bool r36.1),.cells [sl ac r36.2] [(0,24)]],.tuple [],.tuple [],[]⟩) (fB br36)<|sf (aI (xR [1,0,2] (.agg (ac r35)) (ae r35)) (aI (xB [1,0,2] 0 1 0 rfl) (aI (xB [1,0,2] 2 2 0 rfl) trivial)))<|sf (aI (aI (rB (.cells [.mapr 0] [])) (aI (rW []) (aI (xM [1,0,2] 1 0 rfl) trivial))) (aI (aI (rB (.map (dw PVal.bool o28.1))) (aI (rM (dw PVal.bool o28.1)) (Gk (n:=0) PVal.bool (fun x=>trivial) o28.1))) (aI (aI (rB (.cells [sl ac o28.2] [(0,24)])) (aI (rW [(0,24)]) (aI (xR [1,0,2] (sl ac o28.2) (aq ae o28.2)) trivial))) trivial)))<|sf (aI (aI (rW []) (aI (xM [1,0,2] 1 0 rfl) trivial)) (aI (aI (rM (dw PVal.bool r36.1)) (Gk (n:=0) PVal.bool (fun x=>trivial) r36.1)) (aI (aI (rW [(0,24)]) (aI (xR [1,0,2] (sl ac r36.2) (aq ae r36.2)) trivial)) trivial)))<|sf (xR [1,0,2] (.tuple []) trivial)<|eF .normal (fE i k (r36.1,r36.2)))<|by kernel_rfl
 ·obtain rfl:=lf h
  exact dz zr (p32<|sg 0 c31<|eF .normal (fE i k (o28.1,o28.2)))<|by kernel_rfl
end
section
variable(i:Int)(k:Int)(m0:(List (ag×Bool)))(m:waA)
def co:ak:=aY 109 [(8,.bptr 2 0),(9,.func (.func 36) [] [.bptr 1 0,.bptr 2 0]),(12,.int .i64 i),(13,.int .i64 k)] [.map (dw PVal.bool m0),.cells [.mapr 0] [],.cells [sl ac m] [(0,24)]] []
def fI(o:(List (ag×Bool))×waA):ak:=aY 109 [(8,.bptr 2 0),(9,.func (.func 36) [] [.bptr 1 0,.bptr 2 0]),(12,.int .i64 i)] [.map (dw PVal.bool o.1),.cells [.mapr 0] [],.cells [sl ac o.2] [(0,24)]] []
def dt:Option ((Int×(List (ag×Bool))×waA)⊕(((List (ag×Bool))×waA))):=
 (ef i k m).bind fun o17=>
 if o17=true then
  (eh i k m0 m).bind fun o37=>
  some (.inl (bA (k+1),o37.1,o37.2))
 else
  some (.inr (m0,m))
def ej:Option (((List (ag×Bool))×waA)):=loop (fun(zz:Int×(List (ag×Bool))×waA)=>dt i zz.1 zz.2.1 zz.2.2) (k,m0,m)
theorem nh{y:(Int×(List (ag×Bool))×waA)⊕(((List (ag×Bool))×waA))}(h:dt i k m0 m=some y):aA Pg GE 0 (cA Cu 130543) (LQ (fun(zz:Int×(List (ag×Bool))×waA)=>co i zz.1 zz.2.1 zz.2.2) (fun _=>.exit 6) (fI i) y) (co i k m0 m):=by
 obtain⟨o17,bo17,h⟩:=ax h
 have p19:=fun{sc F} (r:PS sc F)=>pZ 1<|da (oc i k m0 m bo17)<|r
 rcases aG h with⟨c18,h⟩|⟨c18,h⟩
 ·obtain⟨o37,bo37,h⟩:=ax h
  obtain rfl:=lf h
  exact tg zr (p19<|sg 0 c18<|pZ 0<|da (od i k m0 m bo37)<|eF .normal (co i (bA (k+1)) o37.1 o37.2))<|by kernel_rfl
 ·obtain rfl:=lf h
  have z:=p19<|sg 0 c18<|eF (.exit 6) (fI i (m0,m))
  exact jI zr (by intro hx;cases hx) z<|by kernel_rfl
theorem ol{x:((List (ag×Bool))×waA)}(h:ej i k m0 m=some x):aA Pg GE 0 (.loop (cA Cu 130543)) (EX (.exit 6) (fI i x)) (co i k m0 m):=
 aA.loop (S:=fun(zz:Int×(List (ag×Bool))×waA)=>co i zz.1 zz.2.1 zz.2.2) (ex:=(fun _=>.exit 6)) (s:=(k,m0,m)) h fun zz y hy=>nh i zz.1 zz.2.1 zz.2.2 hy
end
section
variable(i:Int)(m0:(List (ag×Bool)))(m:waA)
def cn:ak:=aY 109 [(8,.bptr 2 0),(9,.func (.func 36) [] [.bptr 1 0,.bptr 2 0]),(12,.int .i64 i)] [.map (dw PVal.bool m0),.cells [.mapr 0] [],.cells [sl ac m] [(0,24)]] []
def fH(o:(List (ag×Bool))×waA):ak:=aY 109 [(8,.bptr 2 0)] [.map (dw PVal.bool o.1),.cells [.mapr 0] [],.cells [sl ac o.2] [(0,24)]] []
def dq:Option ((Int×(List (ag×Bool))×waA)⊕(((List (ag×Bool))×waA))):=
 (ee i m).bind fun o13=>
 if o13=true then
  (ej i 0 m0 m).bind fun o38=>
  some (.inl (bA (i+1),o38.1,o38.2))
 else
  some (.inr (m0,m))
def ei:Option (((List (ag×Bool))×waA)):=loop (fun(zz:Int×(List (ag×Bool))×waA)=>dq zz.1 zz.2.1 zz.2.2) (i,m0,m)
theorem ng{y:(Int×(List (ag×Bool))×waA)⊕(((List (ag×Bool))×waA))}(h:dq i m0 m=some y):aA Pg GE 0 (cA Cu 2039) (LQ (fun(zz:Int×(List (ag×Bool))×waA)=>cn zz.1 zz.2.1 zz.2.2) (fun _=>.exit 4) fH y) (cn i m0 m):=by
 obtain⟨o13,bo13,h⟩:=ax h
 have p15:=fun{sc F} (r:PS sc F)=>pZ 1<|da (n9 i m0 m bo13)<|r
 rcases aG h with⟨c14,h⟩|⟨c14,h⟩
 ·obtain⟨o38,bo38,h⟩:=ax h
  obtain rfl:=lf h
  exact tg zr (p15<|sg 0 c14<|da (ol i 0 m0 m bo38)<|eF .normal (cn (bA (i+1)) o38.1 o38.2))<|by kernel_rfl
 ·obtain rfl:=lf h
  have z:=p15<|sg 0 c14<|eF (.exit 4) (fH (m0,m))
  exact jI zr (by intro hx;cases hx) z<|by kernel_rfl
theorem oh{x:((List (ag×Bool))×waA)}(h:ei i m0 m=some x):aA Pg GE 0 (.loop (cA Cu 2039)) (EX (.exit 4) (fH x)) (cn i m0 m):=
 aA.loop (S:=fun(zz:Int×(List (ag×Bool))×waA)=>cn zz.1 zz.2.1 zz.2.2) (ex:=(fun _=>.exit 4)) (s:=(i,m0,m)) h fun zz y hy=>ng zz.1 zz.2.1 zz.2.2 hy
end
theorem qp{l r:List aa}(h:sI bo l=some r):aA Pg GE 0 (cA Cu 1022) (EX .normal (aY 109 [(8,.bptr 2 0)] [.dead,.dead,.cells [sl ac r] [(0,24)]] [])) (aY 109 [(8,.bptr 2 0)] [.dead,.dead,.cells [sl ac l] [(0,24)]] []):=
 Jj (K:=[3,4]) (c:=ac) (n:=109) (nb:=3) (i:=2) bQ GI J0 (fun x y r h=>sh h) call39 Eb rfl rfl rfl rfl rfl rfl rfl rfl (h0:=by kernel_rfl) (h00:=by kernel_rfl) h
def aK(a:waA):Option (waA×Int):=
 (bp a (a.length:Int) 0).bind fun o6=>match o6 with
 |(.inl o6)=>
  some (o6.1,o6.2)
 | (.inr o6) =>
  (bR a (a.length:Int) 0 ([]:List (ag×Bool)) ([]:List aa)).bind fun o10=>
  (ei 0 o10.1 o10.2).bind fun o39=>
  if(decide ((o39.2.length:Int)>400))=true then
   some (([]:List aa),7)
  else
   (sI bo o39.2).bind fun l42=>
   some (l42,0)
theorem cP{a:waA}{r:waA×Int}(h:aK a=some r):CC Pg GE 19 [sl ac a] (.tuple [sl ac r.1,.int .i64 r.2]) []:=by
 obtain⟨o6,bo6,h⟩:=ax h
 rcases o6 with o6|o6
 ·obtain rfl:=lf h
  have z:=dB (bQ.ln a)<|da (e:=.ret) (s1:=bE a (.inl o6)) (jd a (a.length:Int) 0 bo6)<|en (aI (rP (.tuple [sl ac o6.1,.int .i64 o6.2]))<|(aI (aq ae o6.1) (aI trivial trivial)))
  exact bm zr call19 func19 (c:=Cu) rfl (aI (aq ae a) trivial) z<|by kernel_rfl
 ·obtain⟨o10,bo10,h⟩:=ax h
  obtain⟨o39,bo39,h⟩:=ax h
  have p41:=fun{sc F} (r:PS sc F)=>dB (bQ.ln a)<|da (e:=.exit 0) (s1:=bE a (.inr o6)) (jd a (a.length:Int) 0 bo6)<|sx JZ<|ss<|sx JX<|dB (bQ.ln a)<|da (og a (a.length:Int) 0 ([]:List (ag×Bool)) ([]:List aa) bo10)<|da (oh 0 o10.1 o10.2 bo39)<|ss<|dB (bQ.ln o39.2)<|r
  rcases aG h with⟨c40,h⟩|⟨c40,h⟩
  ·obtain rfl:=lf h
   have z:=p41<|sg 0 c40<|en (aI (rP (.tuple [sl ac ([]:List aa),.int .i64 7]))<|(aI (aq ae ([]:List aa)) (aI trivial trivial)))
   exact bm zr call19 func19 (c:=Cu) rfl (aI (aq ae a) trivial) z<|by kernel_rfl
  ·obtain⟨l42,bl42,h⟩:=ax h
   obtain rfl:=lf h
   have z:=p41<|sg 0 c40<|pZ 0<|da (qp bl42)<|ss<|en (aI (rP (.tuple [sl ac l42,.int .i64 0]))<|(aI (aq ae l42) (aI trivial trivial)))
   exact bm zr call19 func19 (c:=Cu) rfl (aI (aq ae a) trivial) z<|by kernel_rfl
noncomputable def IJ:Code:=f30.body.getD .skip
def H7:List Nat:=[15]
section
variable(s1:waB)(s2:waB)(t12:Int)(t13:Int)
def eJ:ak:=aY 26 [(0,sl ai s1),(1,sl ai s2),(12,.int .i64 t12),(13,.int .i64 t13)] [] []
def eK(o:Unit⊕(Unit)):Exit:=match o with
 |(.inl _)=>.ret
 |(.inr _)=>.exit 0
def dv(o:Unit⊕(Unit)):ak:=match o with
 |(.inl o)=>aY 26 [(4,.bool false)] [] []
 |(.inr o)=>aY 26 [] [] []
def kg:Option (Int⊕(Unit⊕(Unit))):=
 if(decide (t13<t12))=true then
  (eQ s1 t13).bind fun x4=>
  (eQ s2 t13).bind fun x5=>
  if(!(lW x4 x5))=true then
   some (.inr (.inl ()))
  else
   some (.inl (bA (t13+1)))
 else
  some (.inr (.inr ()))
def lz:Option (Unit⊕(Unit)):=loop (fun(zz:Int)=>kg s1 s2 t12 zz) t13
theorem sj{y:Int⊕(Unit⊕(Unit))}(h:kg s1 s2 t12 t13=some y):aA Pg GE 0 (cA IJ 119) (LQ (fun(zz:Int)=>eJ s1 s2 t12 zz) eK dv y) (eJ s1 s2 t12 t13):=by
 rcases aG h with⟨c3,h⟩|⟨c3,h⟩
 ·obtain⟨x4,bx4,h⟩:=ax h
  obtain⟨x5,bx5,h⟩:=ax h
  have p7:=fun{sc F} (r:PS sc F)=>sg 0 c3<|zQ [0,0,3,7,0,0,48,112,255]<|sv (cx.ia (k:=.i64) bx4)<|sv (dJ x4)<|sv (cx.ia (k:=.i64) bx5)<|sv (dJ x5)<|sv (BW x4 x5)<|r
  rcases aG h with⟨c6,h⟩|⟨c6,h⟩
  ·obtain rfl:=lf h
   have z:=p7<|sg 0 c6<|eF (eK (.inl ())) (dv (.inl ()))
   exact jI H7 (by intro hx;cases hx) z<|by kernel_rfl
  ·obtain rfl:=lf h
   exact tg H7 (p7<|sg 0 c6<|eF .normal (eJ s1 s2 t12 (bA (t13+1))))<|by kernel_rfl
 ·obtain rfl:=lf h
  have z:=sg 0 c3<|eF (eK (.inr ())) (dv (.inr ()))
  exact jI H7 (by intro hx;cases hx) z<|by kernel_rfl
theorem mR{x:Unit⊕(Unit)}(h:lz s1 s2 t12 t13=some x):aA Pg GE 0 (.loop (cA IJ 119)) (EX (eK x) (dv x)) (eJ s1 s2 t12 t13):=
 aA.loop (S:=fun(zz:Int)=>eJ s1 s2 t12 zz) (ex:=eK) (s:=t13) h fun zz y hy=>sj s1 s2 t12 zz hy
end
def mb(s1:waB)(s2:waB):Option Bool:=
 if((s1.length:Int)!=(s2.length:Int))=true then
  some false
 else
  (lz s1 s2 (s1.length:Int) 0).bind fun o8=>match o8 with
  |(.inl o8)=>
   some false
  |(.inr o8)=>
   some true
theorem wI{s1:waB}{s2:waB}{r:Bool}(h:mb s1 s2=some r):CC Pg GE 30 [sl ai s1,sl ai s2] (.bool r) []:=by
 have p2:=fun{sc F} (r:PS sc F)=>dB (cx.ln s1)<|dB (cx.ln s2)<|r
 rcases aG h with⟨c1,h⟩|⟨c1,h⟩
 ·obtain rfl:=lf h
  have z:=p2<|sg 0 c1<|en (aI (rP (.bool false))<|trivial)
  exact bm H7 call30 func30 (c:=IJ) rfl (aI (aq ay s1) (aI (aq ay s2) trivial)) z<|by kernel_rfl
 ·obtain⟨o8,bo8,h⟩:=ax h
  rcases o8 with o8|o8
  ·obtain rfl:=lf h
   have z:=p2<|sg 0 c1<|dB (cx.ln s1)<|da (e:=.ret) (s1:=dv (.inl o8)) (mR s1 s2 (s1.length:Int) 0 bo8)<|en (aI (rP (.bool false))<|trivial)
   exact bm H7 call30 func30 (c:=IJ) rfl (aI (aq ay s1) (aI (aq ay s2) trivial)) z<|by kernel_rfl
  ·obtain rfl:=lf h
   have z:=p2<|sg 0 c1<|dB (cx.ln s1)<|da (e:=.exit 0) (s1:=dv (.inr o8)) (mR s1 s2 (s1.length:Int) 0 bo8)<|en (aI (rP (.bool true))<|trivial)
   exact bm H7 call30 func30 (c:=IJ) rfl (aI (aq ay s1) (aI (aq ay s2) trivial)) z<|by kernel_rfl
noncomputable def JF:Code:=f12.body.getD .skip
def Jx:List Nat:=[]
def gm(a:aa)(a2:aa):Option Bool:=
 if(a.Caller==a2.Caller)=true then
  if(a.Callee==a2.Callee)=true then
   (mb a.Arcs a2.Arcs).bind fun r5=>
   some r5
  else
   some false
 else
  some false
theorem mN{a:aa}{a2:aa}{r:Bool}(h:gm a a2=some r):CC Pg GE 12 [.agg (ac a),.agg (ac a2)] (.bool r) []:=by
 have p2:=fun{sc F} (r:PS sc F)=>se (ba a)<|se (ba a2)<|sv (aD a)<|sv (aM a)<|sv (aD a2)<|sv (aM a2)<|r
 rcases aG h with⟨c1,h⟩|⟨c1,h⟩
 ·have p4:=fun{sc F} (r:PS sc F)=>p2<|sg 6 c1<|sv (aE a)<|sv (aN a)<|sv (aE a2)<|sv (aN a2)<|r
  rcases aG h with⟨c3,h⟩|⟨c3,h⟩
  ·obtain⟨r5,br5,h⟩:=ax h
   obtain rfl:=lf h
   have z:=p4<|sg 13 c3<|sv (au a)<|sv (av a)<|sv (au a2)<|sv (av a2)<|bW (wI br5)<|en (aI (rP (.bool r5))<|trivial)
   exact bm Jx call12 func12 (c:=JF) rfl (aI (ae a) (aI (ae a2) trivial)) z<|by kernel_rfl
  ·obtain rfl:=lf h
   have z:=p4<|sg 13 c3<|en (aI (rP (.bool false))<|trivial)
   exact bm Jx call12 func12 (c:=JF) rfl (aI (ae a) (aI (ae a2) trivial)) z<|by kernel_rfl
 ·obtain rfl:=lf h
  have z:=p2<|sg 6 c1<|en (aI (rP (.bool false))<|trivial)
  exact bm Jx call12 func12 (c:=JF) rfl (aI (ae a) (aI (ae a2) trivial)) z<|by kernel_rfl
noncomputable def Kj:Code:=f42.body.getD .skip
def J6:List Nat:=[]
def cp(a:ah):Option Bool:=
 if(a.From==a.To)=true then
  some a.Strict
 else
  some false
theorem mO{a:ah}{r:Bool}(h:cp a=some r):CC Pg GE 42 [.agg (ai a)] (.bool r) []:=by
 have p2:=fun{sc F} (r:PS sc F)=>se (pL a)<|sv (cC a)<|sv (di a)<|sv (fS a)<|sv (ig a)<|r
 rcases aG h with⟨c1,h⟩|⟨c1,h⟩
 ·obtain rfl:=lf h
  have z:=p2<|sg 6 c1<|sv (pC a)<|sv (q7 a)<|en (aI (rP (.bool a.Strict))<|trivial)
  exact bm J6 call42 func42 (c:=Kj) rfl (aI (ay a) trivial) z<|by kernel_rfl
 ·obtain rfl:=lf h
  have z:=p2<|sg 6 c1<|en (aI (rP (.bool false))<|trivial)
  exact bm J6 call42 func42 (c:=Kj) rfl (aI (ay a) trivial) z<|by kernel_rfl
noncomputable def Jq:Code:=f65.body.getD .skip
def Im:List Nat:=[10,17]
section
variable(s:waB)(t7:Int)(t8:Int)
def cT:ak:=aY 19 [(0,sl ai s),(1,.func (.func 42) [] []),(7,.int .i64 t7),(8,.int .i64 t8)] [] []
def cU(o:Int⊕(Unit)):Exit:=match o with
 |(.inl _)=>.ret
 |(.inr _)=>.exit 0
def bU(o:Int⊕(Unit)):ak:=match o with
 |(.inl o)=>aY 19 [(4,.int .i64 o)] [] []
 |(.inr o)=>aY 19 [] [] []
def gH:Option (Int⊕(Int⊕(Unit))):=
 if(decide (t8<t7))=true then
  (eQ s t8).bind fun x2=>
  (cp x2).bind fun r3=>
  if r3=true then
   some (.inr (.inl t8))
  else
   some (.inl (bA (t8+1)))
 else
  some (.inr (.inr ()))
def iL:Option (Int⊕(Unit)):=loop (fun(zz:Int)=>gH s t7 zz) t8
theorem o4{y:Int⊕(Int⊕(Unit))}(h:gH s t7 t8=some y):aA Pg GE 0 (cA Jq 55) (LQ (fun(zz:Int)=>cT s t7 zz) cU bU y) (cT s t7 t8):=by
 rcases aG h with⟨c1,h⟩|⟨c1,h⟩
 ·obtain⟨x2,bx2,h⟩:=ax h
  obtain⟨r3,br3,h⟩:=ax h
  have p5:=fun{sc F} (r:PS sc F)=>sg 0 c1<|sv (cx.ia (k:=.i64) bx2)<|sv (dJ x2)<|bW (mO br3)<|r
  rcases aG h with⟨c4,h⟩|⟨c4,h⟩
  ·obtain rfl:=lf h
   have z:=p5<|sg 0 c4<|eF (cU (.inl t8)) (bU (.inl t8))
   exact jI Im (by intro hx;cases hx) z<|by kernel_rfl
  ·obtain rfl:=lf h
   exact tg Im (p5<|sg 0 c4<|eF .normal (cT s t7 (bA (t8+1))))<|by kernel_rfl
 ·obtain rfl:=lf h
  have z:=sg 0 c1<|eF (cU (.inr ())) (bU (.inr ()))
  exact jI Im (by intro hx;cases hx) z<|by kernel_rfl
theorem kh{x:Int⊕(Unit)}(h:iL s t7 t8=some x):aA Pg GE 0 (.loop (cA Jq 55)) (EX (cU x) (bU x)) (cT s t7 t8):=
 aA.loop (S:=fun(zz:Int)=>cT s t7 zz) (ex:=cU) (s:=t8) h fun zz y hy=>o4 s t7 zz hy
end
def kE(s:waB):Option Int:=
 (iL s (s.length:Int) 0).bind fun o6=>match o6 with
 |(.inl o6)=>
  some o6
 |(.inr o6)=>
  some (-1)
theorem sm{s:waB}{r:Int}(h:kE s=some r):CC Pg GE 65 [sl ai s,.func (.func 42) [] []] (.int .i64 r) []:=by
 obtain⟨o6,bo6,h⟩:=ax h
 rcases o6 with o6|o6
 ·obtain rfl:=lf h
  have z:=dB (cx.ln s)<|da (e:=.ret) (s1:=bU (.inl o6)) (kh s (s.length:Int) 0 bo6)<|en (aI (rP (.int .i64 o6))<|trivial)
  exact bm Im call65 func65 (c:=Jq) rfl (aI (aq ay s) (aI (aI trivial trivial) trivial)) z<|by kernel_rfl
 ·obtain rfl:=lf h
  have z:=dB (cx.ln s)<|da (e:=.exit 0) (s1:=bU (.inr o6)) (kh s (s.length:Int) 0 bo6)<|en (aI (rP (.int .i64 (-1)))<|trivial)
  exact bm Im call65 func65 (c:=Jq) rfl (aI (aq ay s) (aI (aI trivial trivial) trivial)) z<|by kernel_rfl
noncomputable def KD:Code:=f41.body.getD .skip
def Kx:List Nat:=[]
def dI(s:waB):Option Bool:=
 (kE s).bind fun r1=>
 some (decide (r1>=0))
theorem pY{s:waB}{r:Bool}(h:dI s=some r):CC Pg GE 41 [sl ai s,.func (.func 42) [] []] (.bool r) []:=by
 obtain⟨r1,br1,h⟩:=ax h
 obtain rfl:=lf h
 have z:=bW (sm br1)<|en (aI (rP (.bool (decide (r1>=0))))<|trivial)
 exact bm Kx call41 func41 (c:=KD) rfl (aI (aq ay s) (aI (aI trivial trivial) trivial)) z<|by kernel_rfl
noncomputable def Ib:Code:=f21.body.getD .skip
def F7:List Nat:=[15]
section
variable(t16:waA)(t17:Int)(t18:Int)(m:ag)(m2:ag)(m3:waB)
def mP:ak:=aY 40 [(7,.bptr 0 0),(16,sl ac t16),(17,.int .i64 t17),(18,.int .i64 t18)] [.cells [.str m,.str m2,sl ai m3] []] []
def ea(o:Bool):ak:=aY 40 [(7,.bptr 0 0),(16,sl ac t16),(17,.int .i64 t17),(18,.int .i64 t18),(34,.bool o)] [.cells [.str m,.str m2,sl ai m3] []] []
def bX:Option Bool:=
 if(!(m==m2))=true then
  some true
 else
  (bM (⟨m,m2,m3⟩:aa) (⟨m,m2,m3⟩:aa)).bind fun r7=>
  (gm r7 (⟨m,m2,m3⟩:aa)).bind fun r8=>
  some (!r8)
theorem ma{x:Bool}(h:bX m m2 m3=some x):aA Pg GE 0 (cA Ib 31724) (EX .normal (ea t16 t17 t18 m m2 m3 x)) (mP t16 t17 t18 m m2 m3):=by
 have p6:=fun{sc F} (r:PS sc F)=>zQ [0,1,0,4,15,31,63,63,255,63,1023,2047,4095]<|ss<|ss<|r
 rcases aG h with⟨c5,h⟩|⟨c5,h⟩
 ·obtain rfl:=lf h
  exact dz F7 (p6<|sg 6 c5<|eF .normal (ea t16 t17 t18 m m2 m3 true))<|by kernel_rfl
 ·obtain⟨r7,br7,h⟩:=ax h
  obtain⟨r8,br8,h⟩:=ax h
  obtain rfl:=lf h
  exact dz F7 (p6<|sg 6 c5<|sv (aV (⟨m,m2,m3⟩:aa) [])<|sv (aV (⟨m,m2,m3⟩:aa) [])<|bW (ep br7)<|sv (aV (⟨m,m2,m3⟩:aa) [])<|bW (mN br8)<|eF .normal (ea t16 t17 t18 m m2 m3 (!r8)))<|by kernel_rfl
end
section
variable(t16:waA)(t17:Int)(t18:Int)
def bg:ak:=aY 40 [(16,sl ac t16),(17,.int .i64 t17),(18,.int .i64 t18)] [] []
def bL(o:Unit⊕(Unit)):Exit:=match o with
 |(.inl _)=>.ret
 |(.inr _)=>.exit 0
def bh(o:Unit⊕(Unit)):ak:=match o with
 |(.inl o)=>aY 40 [(2,.bool false),(3,.int .i64 0)] [] []
 |(.inr o)=>aY 40 [] [] []
def eb:Option (Int⊕(Unit⊕(Unit))):=
 if (decide (t18 < t17)) = true then
  (eQ t16 t18).bind fun x4=>
  (bX x4.Caller x4.Callee x4.Arcs).bind fun o9=>
  if o9=true then
   some (.inl (bA (t18+1)))
  else
   (dI x4.Arcs).bind fun r12=>
   if(!r12)=true then
    some (.inr (.inl ()))
   else
    some (.inl (bA (t18+1)))
 else
  some (.inr (.inr ()))
def dc:Option (Unit⊕(Unit)):=loop (fun(zz:Int)=>eb t16 t17 zz) t18
theorem ly{y:Int⊕(Unit⊕(Unit))}(h:eb t16 t17 t18=some y):aA Pg GE 0 (cA Ib 247) (LQ (fun(zz:Int)=>bg t16 t17 zz) bL bh y) (bg t16 t17 t18):=by
 rcases aG h with⟨c3,h⟩|⟨c3,h⟩
 ·obtain⟨x4,bx4,h⟩:=ax h
  obtain⟨o9,bo9,h⟩:=ax h
  have p11:=fun{sc F} (r:PS sc F)=>sg 0 c3<|sv (bQ.ia (k:=.i64) bx4)<|sv (aT x4)<|sx qo<|sx (dA x4)<|pZ 1<|da (ma t16 t17 t18 x4.Caller x4.Callee x4.Arcs bo9)<|r
  rcases aG h with⟨c10,h⟩|⟨c10,h⟩
  ·obtain rfl:=lf h
   have z:=p11<|sg 0 c10<|mW 0 .normal (bg t16 t17 (bA (t18+1))) rfl (bN (aI (up (aq ae t16)) (aI trivial (aI trivial trivial)))) trivial
   exact cJ (A:=F7) mixed z<|by kernel_rfl
  ·obtain⟨r12,br12,h⟩:=ax h
   have p14:=fun{sc F} (r:PS sc F)=>p11<|sg 0 c10<|ss<|bW (pY br12)<|r
   rcases aG h with⟨c13,h⟩|⟨c13,h⟩
   ·obtain rfl:=lf h
    have z:=p14<|sg 0 c13<|mW 0 (bL (.inl ())) (bh (.inl ())) rfl (bN (aI trivial (aI trivial trivial))) trivial
    exact im (A:=F7) mixed (by intro hx;cases hx) z<|by kernel_rfl
   ·obtain rfl:=lf h
    have z:=p14<|sg 0 c13<|mW 0 .normal (bg t16 t17 (bA (t18+1))) rfl (bN (aI (up (aq ae t16)) (aI trivial (aI trivial trivial)))) trivial
    exact cJ (A:=F7) mixed z<|by kernel_rfl
 ·obtain rfl:=lf h
  have z:=sg 0 c3<|eF (bL (.inr ())) (bh (.inr ()))
  exact jI F7 (by intro hx;cases hx) z<|by kernel_rfl
theorem gN{x:Unit⊕(Unit)}(h:dc t16 t17 t18=some x):aA Pg GE 0 (.loop (cA Ib 247)) (EX (bL x) (bh x)) (bg t16 t17 t18):=
 aA.loop (S:=fun(zz:Int)=>bg t16 t17 zz) (ex:=bL) (s:=t18) h fun zz y hy=>ly t16 t17 zz hy
end
def bq(a:waA):Option (Bool×Int):=
 (aK a).bind fun r1=>
 if(r1.2 !=0)=true then
  some (false,r1.2)
 else
  (dc r1.1 (r1.1.length:Int) 0).bind fun o15=>match o15 with
  |(.inl o15)=>
   some (false,0)
  |(.inr o15)=>
   some (true,0)
theorem eS{a:waA}{r:Bool×Int}(h:bq a=some r):CC Pg GE 21 [sl ac a] (.tuple [.bool r.1,.int .i64 r.2]) []:=by
 obtain⟨r1,br1,h⟩:=ax h
 rcases aG h with⟨c2,h⟩|⟨c2,h⟩
 ·obtain rfl:=lf h
  have z:=bW (cP br1)<|sg 0 c2<|en (aI (rP (.tuple [.bool false,.int .i64 r1.2]))<|(aI trivial (aI trivial trivial)))
  exact bm F7 call21 func21 (c:=Ib) rfl (aI (aq ae a) trivial) z<|by kernel_rfl
 ·obtain⟨o15,bo15,h⟩:=ax h
  rcases o15 with o15|o15
  ·obtain rfl:=lf h
   have z:=bW (cP br1)<|sg 0 c2<|dB (bQ.ln r1.1)<|da (e:=.ret) (s1:=bh (.inl o15)) (gN r1.1 (r1.1.length:Int) 0 bo15)<|en (aI (rP (.tuple [.bool false,.int .i64 0]))<|(aI trivial (aI trivial trivial)))
   exact bm F7 call21 func21 (c:=Ib) rfl (aI (aq ae a) trivial) z<|by kernel_rfl
  ·obtain rfl:=lf h
   have z:=bW (cP br1)<|sg 0 c2<|dB (bQ.ln r1.1)<|da (e:=.exit 0) (s1:=bh (.inr o15)) (gN r1.1 (r1.1.length:Int) 0 bo15)<|en (aI (rP (.tuple [.bool true,.int .i64 0]))<|(aI trivial (aI trivial trivial)))
   exact bm F7 call21 func21 (c:=Ib) rfl (aI (aq ae a) trivial) z<|by kernel_rfl
noncomputable def Jn:Code:=f17.body.getD .skip
def Jk:List Nat:=[13,19]
def mM(a:aa)(a2:aa):Option (aa×Int):=
 (cq a).bind fun r1=>
 if(r1 !=0)=true then
  some ((⟨([]:ag),([]:ag),([]:List ah)⟩:aa),r1)
 else
  (cq a2).bind fun r4=>
  if(r4 !=0)=true then
   some ((⟨([]:ag),([]:ag),([]:List ah)⟩:aa),r4)
  else
   if(!(a.Callee==a2.Caller))=true then
    some ((⟨([]:ag),([]:ag),([]:List ah)⟩:aa),6)
   else
    (bM a a2).bind fun r9=>
    some (r9,0)
theorem qq{a:aa}{a2:aa}{r:aa×Int}(h:mM a a2=some r):CC Pg GE 17 [.agg (ac a),.agg (ac a2)] (.tuple [.agg (ac r.1),.int .i64 r.2]) []:=by
 obtain⟨r1,br1,h⟩:=ax h
 have p3:=fun{sc F} (r:PS sc F)=>se (ba a)<|se (ba a2)<|sx qo<|sv (aT a)<|bW (dH br1)<|r
 rcases aG h with⟨c2,h⟩|⟨c2,h⟩
 ·obtain rfl:=lf h
  have z:=p3<|sg 0 c2<|sb (jz) (jy)<|sy (bC (⟨([]:ag),([]:ag),([]:List ah)⟩:aa))<|en (aI (va8 PVal.tuple (ki (eR (⟨([]:ag),([]:ag),([]:List ah)⟩:aa)) (ki (rP (.int .i64 r1)) (rfl:([]:List PVal)=[]))))<|(aI (ae (⟨([]:ag),([]:ag),([]:List ah)⟩:aa)) (aI trivial trivial)))
  exact bm Jk call17 func17 (c:=Jn) rfl (aI (ae a) (aI (ae a2) trivial)) z<|by kernel_rfl
 ·obtain⟨r4,br4,h⟩:=ax h
  have p6:=fun{sc F} (r:PS sc F)=>p3<|sg 0 c2<|sv (aT a2)<|bW (dH br4)<|r
  rcases aG h with⟨c5,h⟩|⟨c5,h⟩
  ·obtain rfl:=lf h
   have z:=p6<|sg 0 c5<|sb (jz) (jy)<|sy (bC (⟨([]:ag),([]:ag),([]:List ah)⟩:aa))<|en (aI (va8 PVal.tuple (ki (eR (⟨([]:ag),([]:ag),([]:List ah)⟩:aa)) (ki (rP (.int .i64 r4)) (rfl:([]:List PVal)=[]))))<|(aI (ae (⟨([]:ag),([]:ag),([]:List ah)⟩:aa)) (aI trivial trivial)))
   exact bm Jk call17 func17 (c:=Jn) rfl (aI (ae a) (aI (ae a2) trivial)) z<|by kernel_rfl
  ·have p8:=fun{sc F} (r:PS sc F)=>p6<|sg 0 c5<|sv (aE a)<|sv (aN a)<|sv (aD a2)<|sv (aM a2)<|r
   rcases aG h with⟨c7,h⟩|⟨c7,h⟩
   ·obtain rfl:=lf h
    have z:=p8<|sg 0 c7<|sb (jz) (jy)<|sy (bC (⟨([]:ag),([]:ag),([]:List ah)⟩:aa))<|en (aI (va8 PVal.tuple (ki (eR (⟨([]:ag),([]:ag),([]:List ah)⟩:aa)) (ki (rP (.int .i64 6)) (rfl:([]:List PVal)=[]))))<|(aI (ae (⟨([]:ag),([]:ag),([]:List ah)⟩:aa)) (aI trivial trivial)))
    exact bm Jk call17 func17 (c:=Jn) rfl (aI (ae a) (aI (ae a2) trivial)) z<|by kernel_rfl
   ·obtain⟨r9,br9,h⟩:=ax h
    obtain rfl:=lf h
    have z:=p8<|sg 0 c7<|sv (aT a)<|sv (aT a2)<|bW (ep br9)<|sy (bC r9)<|en (aI (va8 PVal.tuple (ki (eR r9) (ki (rP (.int .i64 0)) (rfl:([]:List PVal)=[]))))<|(aI (ae r9) (aI trivial trivial)))
    exact bm Jk call17 func17 (c:=Jn) rfl (aI (ae a) (aI (ae a2) trivial)) z<|by kernel_rfl
noncomputable def EY:Code:=f16.body.getD .skip
def EG:List Nat:=[]
def rE:Option Bool:=
 (jx ([102]:ag) ([102]:ag) ([(nR 0 [0,1,1]),(nR 0 [1,0,0])]:List ls)).bind fun r1=>
 (bq ([r1]:List aa)).bind fun r2=>
 (jx ([102]:ag) ([102]:ag) ([(nR 0 [0,1,0]),(nR 0 [1,0,0])]:List ls)).bind fun r3=>
 (bq ([r3]:List aa)).bind fun r4=>
 (jx ([102]:ag) ([103]:ag) ([(nR 0 [0,1,1])]:List ls)).bind fun r5=>
 (jx ([103]:ag) ([104]:ag) ([(nR 0 [1,2,0])]:List ls)).bind fun r6=>
 (mM r5 r6).bind fun r7=>
 (jx ([102]:ag) ([102]:ag) ([(nR 0 [0,1,1]),(nR 0 [1,0,0])]:List ls)).bind fun r8=>
 (aK ([r8]:List aa)).bind fun r9=>
 if r2.1 = true then
  if (r2.2 == 0) = true then
   if (!r4.1) = true then
    if (r4.2 == 0) = true then
     if (r7.2 == 0) = true then
      (jx ([102]:ag) ([104]:ag) ([(nR 0 [0,2,1])]:List ls)).bind fun r20=>
      (gm r7.1 r20).bind fun r21=>
      if r21=true then
       (gn r7.1).bind fun r24=>
       if (r24 == ([102,32,45,62,32,104,58,32,48,32,62,32,50]:ag)) = true then
        if (decide ((r9.1.length:Int) ≥ 2)) = true then
         if(r9.2==0)=true then
          (cq r7.1).bind fun r31=>
          if(r31==0)=true then
           (jx ([102]:ag) ([102]:ag) ([(nR 0 [0,6,0])]:List ls)).bind fun r34=>
           (cq r34).bind fun r35=>
           some (r35==2)
          else
           some false
         else
          some false
        else
         some false
       else
        some false
      else
       some false
     else
      some false
    else
     some false
   else
    some false
  else
   some false
 else
  some false
theorem tL {r:Bool} (h:rE = some r):CC Pg GE 16 [] (.bool r) []:=by
 obtain⟨r1,br1,h⟩:=ax h
 obtain⟨r2,br2,h⟩:=ax h
 obtain⟨r3,br3,h⟩:=ax h
 obtain⟨r4,br4,h⟩:=ax h
 obtain⟨r5,br5,h⟩:=ax h
 obtain⟨r6,br6,h⟩:=ax h
 obtain⟨r7,br7,h⟩:=ax h
 obtain⟨r8,br8,h⟩:=ax h
 obtain⟨r9,br9,h⟩:=ax h
 have p11:=fun{sc F} (r:PS sc F)=>sv (db 0 1 1)<|sv (db 1 0 0)<|sv (AT.mk' (v:=rz) ll ([(nR 0 [0,1,1]),(nR 0 [1,0,0])]:List ls) 2 (by kernel_rfl))<|bW (fR br1)<|sv (bQ.mk' (v:=mT) kD ([r1]:List aa) 1 (by kernel_rfl))<|bW (eS br2)<|sv (db 0 1 0)<|sv (db 1 0 0)<|sv (AT.mk' (v:=rz) ll ([(nR 0 [0,1,0]),(nR 0 [1,0,0])]:List ls) 2 (by kernel_rfl))<|bW (fR br3)<|sv (bQ.mk' (v:=mT) kD ([r3]:List aa) 1 (by kernel_rfl))<|bW (eS br4)<|sv (db 0 1 1)<|sv (AT.mk' (v:=rz) ll ([(nR 0 [0,1,1])]:List ls) 1 (by kernel_rfl))<|bW (fR br5)<|sv (db 1 2 0)<|sv (AT.mk' (v:=rz) ll ([(nR 0 [1,2,0])]:List ls) 1 (by kernel_rfl))<|bW (fR br6)<|bW (qq br7)<|sx qo<|sx (dA r7.1)<|sv (db 0 1 1)<|sv (db 1 0 0)<|sv (AT.mk' (v:=rz) ll ([(nR 0 [0,1,1]),(nR 0 [1,0,0])]:List ls) 2 (by kernel_rfl))<|bW (fR br8)<|sv (bQ.mk' (v:=mT) kD ([r8]:List aa) 1 (by kernel_rfl))<|bW (cP br9)<|zQ [0,1,3,7,15,31,63,127,255,511,1023,2047,4095,8191,16383,32767,65535,131071,262143,262143,786431,1835007,4194303,8388607,16777215,33554431,67108863,134217727,268435455,536870911,1073741823,2147483647,4294967295,8589934591,17179869183,34359738367,68719476735,137438953471,274877906943,549755813887,1099511627775,2199023255551,4398046511103,8796093022207,17592186044415,35184372088831,70368744177663,140737488355327,281474976710655,562949953421311,1125899906842623]<|r
 rcases aG h with⟨c10,h⟩|⟨c10,h⟩
 ·have p13:=fun{sc F} (r:PS sc F)=>p11<|sg 2 c10<|r
  rcases aG h with⟨c12,h⟩|⟨c12,h⟩
  ·have p15:=fun{sc F} (r:PS sc F)=>p13<|sg 6 c12<|r
   rcases aG h with⟨c14,h⟩|⟨c14,h⟩
   ·have p17:=fun{sc F} (r:PS sc F)=>p15<|sg 10 c14<|r
    rcases aG h with⟨c16,h⟩|⟨c16,h⟩
    ·have p19:=fun{sc F} (r:PS sc F)=>p17<|sg 14 c16<|r
     rcases aG h with⟨c18,h⟩|⟨c18,h⟩
     ·obtain⟨r20,br20,h⟩:=ax h
      obtain⟨r21,br21,h⟩:=ax h
      have p23:=fun{sc F} (r:PS sc F)=>p19<|sg 18 c18<|sv (aV r7.1 [])<|sv (db 0 2 1)<|sv (AT.mk' (v:=rz) ll ([(nR 0 [0,2,1])]:List ls) 1 (by kernel_rfl))<|bW (fR br20)<|bW (mN br21)<|r
      rcases aG h with⟨c22,h⟩|⟨c22,h⟩
      ·obtain⟨r24,br24,h⟩:=ax h
       have p26:=fun{sc F} (r:PS sc F)=>p23<|sg 25 c22<|sv (aV r7.1 [])<|bW (mQ br24)<|r
       rcases aG h with⟨c25,h⟩|⟨c25,h⟩
       ·have p28:=fun{sc F} (r:PS sc F)=>p26<|sg 30 c25<|dB (bQ.ln r9.1)<|r
        rcases aG h with⟨c27,h⟩|⟨c27,h⟩
        ·have p30:=fun{sc F} (r:PS sc F)=>p28<|sg 35 c27<|r
         rcases aG h with⟨c29,h⟩|⟨c29,h⟩
         ·obtain⟨r31,br31,h⟩:=ax h
          have p33:=fun{sc F} (r:PS sc F)=>p30<|sg 39 c29<|sv (aV r7.1 [])<|bW (dH br31)<|r
          rcases aG h with⟨c32,h⟩|⟨c32,h⟩
          ·obtain⟨r34,br34,h⟩:=ax h
           obtain⟨r35,br35,h⟩:=ax h
           obtain rfl:=lf h
           have z:=p33<|sg 44 c32<|sv (db 0 6 0)<|sv (AT.mk' (v:=rz) ll ([(nR 0 [0,6,0])]:List ls) 1 (by kernel_rfl))<|bW (fR br34)<|bW (dH br35)<|en (aI (rP (.bool (r35==2)))<|trivial)
           exact bm EG call16 func16 (c:=EY) rfl trivial z<|by kernel_rfl
          ·obtain rfl:=lf h
           have z:=p33<|sg 44 c32<|en (aI (rP (.bool false))<|trivial)
           exact bm EG call16 func16 (c:=EY) rfl trivial z<|by kernel_rfl
         ·obtain rfl:=lf h
          have z:=p30<|sg 39 c29<|en (aI (rP (.bool false))<|trivial)
          exact bm EG call16 func16 (c:=EY) rfl trivial z<|by kernel_rfl
        ·obtain rfl:=lf h
         have z:=p28<|sg 35 c27<|en (aI (rP (.bool false))<|trivial)
         exact bm EG call16 func16 (c:=EY) rfl trivial z<|by kernel_rfl
       ·obtain rfl:=lf h
        have z:=p26<|sg 30 c25<|en (aI (rP (.bool false))<|trivial)
        exact bm EG call16 func16 (c:=EY) rfl trivial z<|by kernel_rfl
      ·obtain rfl:=lf h
       have z:=p23<|sg 25 c22<|en (aI (rP (.bool false))<|trivial)
       exact bm EG call16 func16 (c:=EY) rfl trivial z<|by kernel_rfl
     ·obtain rfl:=lf h
      have z:=p19<|sg 18 c18<|en (aI (rP (.bool false))<|trivial)
      exact bm EG call16 func16 (c:=EY) rfl trivial z<|by kernel_rfl
    ·obtain rfl:=lf h
     have z:=p17<|sg 14 c16<|en (aI (rP (.bool false))<|trivial)
     exact bm EG call16 func16 (c:=EY) rfl trivial z<|by kernel_rfl
   ·obtain rfl:=lf h
    have z:=p15<|sg 10 c14<|en (aI (rP (.bool false))<|trivial)
    exact bm EG call16 func16 (c:=EY) rfl trivial z<|by kernel_rfl
  ·obtain rfl:=lf h
   have z:=p13<|sg 6 c12<|en (aI (rP (.bool false))<|trivial)
   exact bm EG call16 func16 (c:=EY) rfl trivial z<|by kernel_rfl
 ·obtain rfl:=lf h
  have z:=p11<|sg 2 c10<|en (aI (rP (.bool false))<|trivial)
  exact bm EG call16 func16 (c:=EY) rfl trivial z<|by kernel_rfl
noncomputable def JJ:Code:=f50.body.getD .skip
def Jl:List Nat:=[10,15,25]
section
variable(s:ag)(t7:Int)(out:waC)(begin:Int)(t8:Int)
def e8:ak:=aY 31 [(0,.str s),(3,sl cS out),(4,.int .i64 begin),(7,.int .i64 t7),(8,.int .i64 t8)] [] [((3,0),9)]
def ml(o:waC×Int):ak:=aY 31 [(0,.str s),(3,sl cS o.1),(4,.int .i64 o.2)] [] [((3,0),9)]
def gW:Option ((waC×Int×Int)⊕((waC×Int))):=
 if(decide (t8<t7))=true then
  (iJ s t8).bind fun c2=>
  if(c2==46)=true then
   (AW s (some begin) (some t8)).bind fun s5=>
   (app out ([s5]:List ag)).bind fun l6=>
   some (.inl (l6,bA (t8+1),bA (t8+1)))
  else
   some (.inl (out,begin,bA (t8+1)))
 else
  some (.inr (out,begin))
def pf:Option ((waC×Int)):=loop (fun(zz:waC×Int×Int)=>gW s t7 zz.1 zz.2.1 zz.2.2) (out,begin,t8)
theorem uK{y:(waC×Int×Int)⊕((waC×Int))}(h:gW s t7 out begin t8=some y):aA Pg GE 0 (cA JJ 247) (LQ (fun(zz:waC×Int×Int)=>e8 s t7 zz.1 zz.2.1 zz.2.2) (fun _=>.exit 0) (ml s) y) (e8 s t7 out begin t8):=by
 rcases aG h with⟨c1,h⟩|⟨c1,h⟩
 ·obtain⟨c2,bc2,h⟩:=ax h
  have p4:=fun{sc F} (r:PS sc F)=>sg 0 c1<|sv (eU (k:=.i64) underlying9 bc2)<|r
  rcases aG h with⟨c3,h⟩|⟨c3,h⟩
  ·obtain⟨s5,bs5,h⟩:=ax h
   obtain⟨l6,bl6,h⟩:=ax h
   obtain rfl:=lf h
   exact tg Jl (p4<|sg 0 c3<|sv (DT underlying9 bs5)<|sv (rl.mk' (v:=PVal.str) JV ([s5]:List ag) 1 (by kernel_rfl))<|sv (rl.ap bl6)<|eF .normal (e8 s t7 l6 (bA (t8+1)) (bA (t8+1))))<|by kernel_rfl
  ·obtain rfl:=lf h
   exact tg Jl (p4<|sg 0 c3<|eF .normal (e8 s t7 out begin (bA (t8+1))))<|by kernel_rfl
 ·obtain rfl:=lf h
  have z:=sg 0 c1<|eF (.exit 0) (ml s (out,begin))
  exact jI Jl (by intro hx;cases hx) z<|by kernel_rfl
theorem wr{x:(waC×Int)}(h:pf s t7 out begin t8=some x):aA Pg GE 0 (.loop (cA JJ 247)) (EX (.exit 0) (ml s x)) (e8 s t7 out begin t8):=
 aA.loop (S:=fun(zz:waC×Int×Int)=>e8 s t7 zz.1 zz.2.1 zz.2.2) (ex:=(fun _=>.exit 0)) (s:=(out,begin,t8)) h fun zz y hy=>uK s t7 zz.1 zz.2.1 zz.2.2 hy
end
def rD(s:ag):Option waC:=
 (pf s (s.length:Int) ([]:List ag) 0 0).bind fun o7=>
 (AW s (some o7.2) none).bind fun s8=>
 (app o7.1 ([s8]:List ag)).bind fun l9=>
 some l9
theorem Aa{s:ag}{r:waC}(h:rD s=some r):CC Pg GE 50 [.str s] (sl cS r) [(0,9)]:=by
 obtain⟨o7,bo7,h⟩:=ax h
 obtain⟨s8,bs8,h⟩:=ax h
 obtain⟨l9,bl9,h⟩:=ax h
 obtain rfl:=lf h
 have z:=dB (eu underlying9 s)<|da (wr s (s.length:Int) ([]:List ag) 0 0 bo7)<|sv (DT underlying9 bs8)<|sv (rl.mk' (v:=PVal.str) JV ([s8]:List ag) 1 (by kernel_rfl))<|sv (rl.ap bl9)<|en (aI (rP (sl cS l9))<|(aq IP l9))
 exact bm Jl call50 func50 (c:=JJ) rfl (aI trivial trivial) z<|by kernel_rfl
noncomputable def Kp:Code:=f70.body.getD .skip
def Kc:List Nat:=[]
def iu(c:Int):Option Bool:=
 if(decide (c>=97))=true then
  some (decide (c<=122))
 else
  some false
theorem iw{c:Int}{r:Bool}(h:iu c=some r):CC Pg GE 70 [.int .u8 c] (.bool r) []:=by
 rcases aG h with⟨c1,h⟩|⟨c1,h⟩
 ·obtain rfl:=lf h
  have z:=sg 3 c1<|en (aI (rP (.bool (decide (c<=122))))<|trivial)
  exact bm Kc call70 func70 (c:=Kp) rfl (aI trivial trivial) z<|by kernel_rfl
 ·obtain rfl:=lf h
  have z:=sg 3 c1<|en (aI (rP (.bool false))<|trivial)
  exact bm Kc call70 func70 (c:=Kp) rfl (aI trivial trivial) z<|by kernel_rfl
noncomputable def KI:Code:=f88.body.getD .skip
def KC:List Nat:=[]
def pe:Option waC:=
 some ([([97,110,100]:ag),([97,115,115,117,109,101]:ag),([98,111,111,108]:ag),([98,111,117,110,100]:ag),([99,97,115,101]:ag),([99,101,108,108]:ag),([99,108,97,115,115]:ag),([100,97,116,97]:ag),([100,101,102]:ag),([100,105,118]:ag),([101,108,115,101]:ag),([101,110,100]:ag),([102,97,108,115,101]:ag),([102,111,114,97,108,108]:ag),([102,117,110]:ag),([103,101,116]:ag),([105,102]:ag),([105,110]:ag),([105,110,115,116]:ag),([105,110,116]:ag),([105,110,118,97,114,105,97,110,116]:ag),([108,101,116]:ag),([109,97,116,99,104]:ag),([109,101,97,115,117,114,101]:ag),([109,101,116,114,105,99]:ag),([109,111,100]:ag),([109,117]:ag),([110,101,119]:ag),([110,111,116]:ag),([111,102]:ag),([111,114]:ag),([113,117,97,108]:ag),([114,101,102,108,101,99,116]:ag),([115,101,116]:ag),([116,104,101,110]:ag),([116,114,117,101]:ag),([117,115,101]:ag),([118]:ag),([118,97,108]:ag),([116,97,103]:ag),([119,104,101,114,101]:ag),([119,105,116,104]:ag)]:List ag)
theorem wo{r:waC}(h:pe=some r):CC Pg GE 88 [] (sl cS r) [(0,9)]:=by
 obtain rfl:=lf h
 have z:=sv (rl.mk' (v:=PVal.str) JV ([([97,110,100]:ag),([97,115,115,117,109,101]:ag),([98,111,111,108]:ag),([98,111,117,110,100]:ag),([99,97,115,101]:ag),([99,101,108,108]:ag),([99,108,97,115,115]:ag),([100,97,116,97]:ag),([100,101,102]:ag),([100,105,118]:ag),([101,108,115,101]:ag),([101,110,100]:ag),([102,97,108,115,101]:ag),([102,111,114,97,108,108]:ag),([102,117,110]:ag),([103,101,116]:ag),([105,102]:ag),([105,110]:ag),([105,110,115,116]:ag),([105,110,116]:ag),([105,110,118,97,114,105,97,110,116]:ag),([108,101,116]:ag),([109,97,116,99,104]:ag),([109,101,97,115,117,114,101]:ag),([109,101,116,114,105,99]:ag),([109,111,100]:ag),([109,117]:ag),([110,101,119]:ag),([110,111,116]:ag),([111,102]:ag),([111,114]:ag),([113,117,97,108]:ag),([114,101,102,108,101,99,116]:ag),([115,101,116]:ag),([116,104,101,110]:ag),([116,114,117,101]:ag),([117,115,101]:ag),([118]:ag),([118,97,108]:ag),([116,97,103]:ag),([119,104,101,114,101]:ag),([119,105,116,104]:ag)]:List ag) 42 (by kernel_rfl))<|en (aI (rP (sl cS ([([97,110,100]:ag),([97,115,115,117,109,101]:ag),([98,111,111,108]:ag),([98,111,117,110,100]:ag),([99,97,115,101]:ag),([99,101,108,108]:ag),([99,108,97,115,115]:ag),([100,97,116,97]:ag),([100,101,102]:ag),([100,105,118]:ag),([101,108,115,101]:ag),([101,110,100]:ag),([102,97,108,115,101]:ag),([102,111,114,97,108,108]:ag),([102,117,110]:ag),([103,101,116]:ag),([105,102]:ag),([105,110]:ag),([105,110,115,116]:ag),([105,110,116]:ag),([105,110,118,97,114,105,97,110,116]:ag),([108,101,116]:ag),([109,97,116,99,104]:ag),([109,101,97,115,117,114,101]:ag),([109,101,116,114,105,99]:ag),([109,111,100]:ag),([109,117]:ag),([110,101,119]:ag),([110,111,116]:ag),([111,102]:ag),([111,114]:ag),([113,117,97,108]:ag),([114,101,102,108,101,99,116]:ag),([115,101,116]:ag),([116,104,101,110]:ag),([116,114,117,101]:ag),([117,115,101]:ag),([118]:ag),([118,97,108]:ag),([116,97,103]:ag),([119,104,101,114,101]:ag),([119,105,116,104]:ag)]:List ag)))<|(aq IP ([([97,110,100]:ag),([97,115,115,117,109,101]:ag),([98,111,111,108]:ag),([98,111,117,110,100]:ag),([99,97,115,101]:ag),([99,101,108,108]:ag),([99,108,97,115,115]:ag),([100,97,116,97]:ag),([100,101,102]:ag),([100,105,118]:ag),([101,108,115,101]:ag),([101,110,100]:ag),([102,97,108,115,101]:ag),([102,111,114,97,108,108]:ag),([102,117,110]:ag),([103,101,116]:ag),([105,102]:ag),([105,110]:ag),([105,110,115,116]:ag),([105,110,116]:ag),([105,110,118,97,114,105,97,110,116]:ag),([108,101,116]:ag),([109,97,116,99,104]:ag),([109,101,97,115,117,114,101]:ag),([109,101,116,114,105,99]:ag),([109,111,100]:ag),([109,117]:ag),([110,101,119]:ag),([110,111,116]:ag),([111,102]:ag),([111,114]:ag),([113,117,97,108]:ag),([114,101,102,108,101,99,116]:ag),([115,101,116]:ag),([116,104,101,110]:ag),([116,114,117,101]:ag),([117,115,101]:ag),([118]:ag),([118,97,108]:ag),([116,97,103]:ag),([119,104,101,114,101]:ag),([119,105,116,104]:ag)]:List ag)))
 exact bm KC call88 func88 (c:=KI) rfl trivial z<|by kernel_rfl
noncomputable def Js:Code:=f87.body.getD .skip
def Ip:List Nat:=[10,17]
section
variable(v:waC)(s:ag)(t7:Int)(t8:Int)
def iQ:ak:=aY 19 [(0,sl cS v),(1,.str s),(7,.int .i64 t7),(8,.int .i64 t8)] [] []
def iS(o:Int⊕(Unit)):Exit:=match o with
 |(.inl _)=>.ret
 |(.inr _)=>.exit 0
def gr(o:Int⊕(Unit)):ak:=match o with
 |(.inl o)=>aY 19 [(4,.int .i64 o)] [] []
 |(.inr o)=>aY 19 [] [] []
def iR:Option (Int⊕(Int⊕(Unit))):=
 if(decide (t8<t7))=true then
  (eQ v t8).bind fun x2=>
  if(x2==s)=true then
   some (.inr (.inl t8))
  else
   some (.inl (bA (t8+1)))
 else
  some (.inr (.inr ()))
def qH:Option (Int⊕(Unit)):=loop (fun(zz:Int)=>iR v s t7 zz) t8
theorem wg{y:Int⊕(Int⊕(Unit))}(h:iR v s t7 t8=some y):aA Pg GE 0 (cA Js 55) (LQ (fun(zz:Int)=>iQ v s t7 zz) iS gr y) (iQ v s t7 t8):=by
 rcases aG h with⟨c1,h⟩|⟨c1,h⟩
 ·obtain⟨x2,bx2,h⟩:=ax h
  have p4:=fun{sc F} (r:PS sc F)=>sg 0 c1<|sv (rl.ia (k:=.i64) bx2)<|sv (pN Jf (.str x2) [])<|r
  rcases aG h with⟨c3,h⟩|⟨c3,h⟩
  ·obtain rfl:=lf h
   have z:=p4<|sg 0 c3<|eF (iS (.inl t8)) (gr (.inl t8))
   exact jI Ip (by intro hx;cases hx) z<|by kernel_rfl
  ·obtain rfl:=lf h
   exact tg Ip (p4<|sg 0 c3<|eF .normal (iQ v s t7 (bA (t8+1))))<|by kernel_rfl
 ·obtain rfl:=lf h
  have z:=sg 0 c1<|eF (iS (.inr ())) (gr (.inr ()))
  exact jI Ip (by intro hx;cases hx) z<|by kernel_rfl
theorem qI{x:Int⊕(Unit)}(h:qH v s t7 t8=some x):aA Pg GE 0 (.loop (cA Js 55)) (EX (iS x) (gr x)) (iQ v s t7 t8):=
 aA.loop (S:=fun(zz:Int)=>iQ v s t7 zz) (ex:=iS) (s:=t8) h fun zz y hy=>wg v s t7 zz hy
end
def tx(a:waC)(s:ag):Option Int:=
 (qH a s (a.length:Int) 0).bind fun o5=>match o5 with
 |(.inl o5)=>
  some o5
 |(.inr o5)=>
  some (-1)
theorem Bf{a:waC}{s:ag}{r:Int}(h:tx a s=some r):CC Pg GE 87 [sl cS a,.str s] (.int .i64 r) []:=by
 obtain⟨o5,bo5,h⟩:=ax h
 rcases o5 with o5|o5
 ·obtain rfl:=lf h
  have z:=dB (rl.ln a)<|da (e:=.ret) (s1:=gr (.inl o5)) (qI a s (a.length:Int) 0 bo5)<|en (aI (rP (.int .i64 o5))<|trivial)
  exact bm Ip call87 func87 (c:=Js) rfl (aI (aq IP a) (aI trivial trivial)) z<|by kernel_rfl
 ·obtain rfl:=lf h
  have z:=dB (rl.ln a)<|da (e:=.exit 0) (s1:=gr (.inr o5)) (qI a s (a.length:Int) 0 bo5)<|en (aI (rP (.int .i64 (-1)))<|trivial)
  exact bm Ip call87 func87 (c:=Js) rfl (aI (aq IP a) (aI trivial trivial)) z<|by kernel_rfl
noncomputable def KF:Code:=f71.body.getD .skip
def Kz:List Nat:=[]
def nn(s:ag):Option Bool:=
 pe.bind fun r1=>
 (tx r1 s).bind fun r2=>
 some (decide (r2>=0))
theorem w3{s:ag}{r:Bool}(h:nn s=some r):CC Pg GE 71 [.str s] (.bool r) []:=by
 obtain⟨r1,br1,h⟩:=ax h
 obtain⟨r2,br2,h⟩:=ax h
 obtain rfl:=lf h
 have z:=bW (wo br1)<|bW (Bf br2)<|en (aI (rP (.bool (decide (r2>=0))))<|trivial)
 exact bm Kz call71 func71 (c:=KF) rfl (aI trivial trivial) z<|by kernel_rfl
noncomputable def Kq:Code:=f72.body.getD .skip
def Kd:List Nat:=[]
def ko(c:Int):Option Bool:=
 if(decide (c>=48))=true then
  some (decide (c<=57))
 else
  some false
theorem lP{c:Int}{r:Bool}(h:ko c=some r):CC Pg GE 72 [.int .u8 c] (.bool r) []:=by
 rcases aG h with⟨c1,h⟩|⟨c1,h⟩
 ·obtain rfl:=lf h
  have z:=sg 3 c1<|en (aI (rP (.bool (decide (c<=57))))<|trivial)
  exact bm Kd call72 func72 (c:=Kq) rfl (aI trivial trivial) z<|by kernel_rfl
 ·obtain rfl:=lf h
  have z:=sg 3 c1<|en (aI (rP (.bool false))<|trivial)
  exact bm Kd call72 func72 (c:=Kq) rfl (aI trivial trivial) z<|by kernel_rfl
noncomputable def Ho:Code:=f51.body.getD .skip
def DW:List Nat:=[26]
section
variable(s:ag)
def wW:ak:=aY 46 [(0,.str s)] [] []
def gP(o:Bool):ak:=aY 46 [(0,.str s),(21,.bool o)] [] []
def lI:Option Bool:=
 if(decide ((s.length:Int)<1))=true then
  some true
 else
  if(decide ((s.length:Int)>24))=true then
   some true
  else
   (iJ s 0).bind fun c4=>
   (iu c4).bind fun r5=>
   if(!r5)=true then
    some true
   else
    (nn s).bind fun r8=>
    some r8
theorem wa{x:Bool}(h:lI s=some x):aA Pg GE 0 (cA Ho 12) (EX .normal (gP s x)) (wW s):=by
 rcases aG h with⟨c1,h⟩|⟨c1,h⟩
 ·obtain rfl:=lf h
  exact dz DW (dB (eu underlying9 s)<|sg 4 c1<|eF .normal (gP s true))<|by kernel_rfl
 ·have p3:=fun{sc F} (r:PS sc F)=>dB (eu underlying9 s)<|sg 4 c1<|dB (eu underlying9 s)<|r
  rcases aG h with⟨c2,h⟩|⟨c2,h⟩
  ·obtain rfl:=lf h
   exact dz DW (p3<|sg 9 c2<|eF .normal (gP s true))<|by kernel_rfl
  ·obtain⟨c4,bc4,h⟩:=ax h
   obtain⟨r5,br5,h⟩:=ax h
   have p7:=fun{sc F} (r:PS sc F)=>p3<|sg 9 c2<|sv (eU (k:=.i64) underlying9 bc4)<|bW (iw br5)<|r
   rcases aG h with⟨c6,h⟩|⟨c6,h⟩
   ·obtain rfl:=lf h
    exact dz DW (p7<|sg 15 c6<|eF .normal (gP s true))<|by kernel_rfl
   ·obtain⟨r8,br8,h⟩:=ax h
    obtain rfl:=lf h
    exact dz DW (p7<|sg 15 c6<|bW (w3 br8)<|eF .normal (gP s r8))<|by kernel_rfl
end
section
variable(s:ag)(i:Int)(t23:Int)
def wX:ak:=aY 46 [(0,.str s),(3,.int .i64 i),(23,.int .i64 t23),(24,.int .i64 i)] [] []
def jM(o:Bool):ak:=aY 46 [(0,.str s),(23,.int .i64 t23),(24,.int .i64 i),(44,.bool o)] [] []
def lJ:Option Bool:=
 (iJ s i).bind fun c13=>
 (iu c13).bind fun r14=>
 if(!r14)=true then
  (iJ s i).bind fun c17=>
  (ko c17).bind fun r18=>
  if(!r18)=true then
   (iJ s i).bind fun c21=>
   some (c21 !=95)
  else
   some false
 else
  some false
theorem wc{x:Bool}(h:lJ s i=some x):aA Pg GE 0 (cA Ho 7670) (EX .normal (jM s i t23 x)) (wX s i t23):=by
 obtain⟨c13,bc13,h⟩:=ax h
 obtain⟨r14,br14,h⟩:=ax h
 have p16:=fun{sc F} (r:PS sc F)=>sv (eU (k:=.i64) underlying9 bc13)<|bW (iw br14)<|r
 rcases aG h with⟨c15,h⟩|⟨c15,h⟩
 ·obtain⟨c17,bc17,h⟩:=ax h
  obtain⟨r18,br18,h⟩:=ax h
  have p20:=fun{sc F} (r:PS sc F)=>p16<|sg 6 c15<|sv (eU (k:=.i64) underlying9 bc17)<|bW (lP br18)<|r
  rcases aG h with⟨c19,h⟩|⟨c19,h⟩
  ·obtain⟨c21,bc21,h⟩:=ax h
   obtain rfl:=lf h
   exact dz DW (p20<|sg 13 c19<|sv (eU (k:=.i64) underlying9 bc21)<|eF .normal (jM s i t23 (c21 !=95)))<|by kernel_rfl
  ·obtain rfl:=lf h
   exact dz DW (p20<|sg 13 c19<|eF .normal (jM s i t23 false))<|by kernel_rfl
 ·obtain rfl:=lf h
  exact dz DW (p16<|sg 6 c15<|eF .normal (jM s i t23 false))<|by kernel_rfl
end
section
variable(s:ag)(t23:Int)(t24:Int)
def gQ:ak:=aY 46 [(0,.str s),(23,.int .i64 t23),(24,.int .i64 t24)] [] []
def gS(o:Unit⊕(Unit)):Exit:=match o with
 |(.inl _)=>.ret
 |(.inr _)=>.exit 0
def e6(o:Unit⊕(Unit)):ak:=match o with
 |(.inl o)=>aY 46 [(2,.int .i64 3)] [] []
 |(.inr o)=>aY 46 [] [] []
def gR:Option (Int⊕(Unit⊕(Unit))):=
 if(decide (t24<t23))=true then
  (lJ s t24).bind fun o22=>
  if o22=true then
   some (.inr (.inl ()))
  else
   some (.inl (bA (t24+1)))
 else
  some (.inr (.inr ()))
def lK:Option (Unit⊕(Unit)):=loop (fun(zz:Int)=>gR s t23 zz) t24
theorem uI{y:Int⊕(Unit⊕(Unit))}(h:gR s t23 t24=some y):aA Pg GE 0 (cA Ho 119) (LQ (fun(zz:Int)=>gQ s t23 zz) gS e6 y) (gQ s t23 t24):=by
 rcases aG h with⟨c12,h⟩|⟨c12,h⟩
 ·obtain⟨o22,bo22,h⟩:=ax h
  have p24:=fun{sc F} (r:PS sc F)=>sg 0 c12<|pZ 2<|da (wc s t24 t23 bo22)<|r
  rcases aG h with⟨c23,h⟩|⟨c23,h⟩
  ·obtain rfl:=lf h
   have z:=p24<|sg 0 c23<|eF (gS (.inl ())) (e6 (.inl ()))
   exact jI DW (by intro hx;cases hx) z<|by kernel_rfl
  ·obtain rfl:=lf h
   exact tg DW (p24<|sg 0 c23<|eF .normal (gQ s t23 (bA (t24+1))))<|by kernel_rfl
 ·obtain rfl:=lf h
  have z:=sg 0 c12<|eF (gS (.inr ())) (e6 (.inr ()))
  exact jI DW (by intro hx;cases hx) z<|by kernel_rfl
theorem qb{x:Unit⊕(Unit)}(h:lK s t23 t24=some x):aA Pg GE 0 (.loop (cA Ho 119)) (EX (gS x) (e6 x)) (gQ s t23 t24):=
 aA.loop (S:=fun(zz:Int)=>gQ s t23 zz) (ex:=gS) (s:=t24) h fun zz y hy=>uI s t23 zz hy
end
def rA(s:ag):Option Int:=
 (lI s).bind fun o9=>
 if o9=true then
  some 3
 else
  (lK s (s.length:Int) 0).bind fun o25=>match o25 with
  |(.inl o25)=>
   some 3
  |(.inr o25)=>
   some 0
theorem zZ{s:ag}{r:Int}(h:rA s=some r):CC Pg GE 51 [.str s] (.int .i64 r) []:=by
 obtain⟨o9,bo9,h⟩:=ax h
 have p11:=fun{sc F} (r:PS sc F)=>pZ 2<|da (wa s bo9)<|r
 rcases aG h with⟨c10,h⟩|⟨c10,h⟩
 ·obtain rfl:=lf h
  have z:=p11<|sg 0 c10<|en (aI (rP (.int .i64 3))<|trivial)
  exact bm DW call51 func51 (c:=Ho) rfl (aI trivial trivial) z<|by kernel_rfl
 ·obtain⟨o25,bo25,h⟩:=ax h
  rcases o25 with o25|o25
  ·obtain rfl:=lf h
   have z:=p11<|sg 0 c10<|dB (eu underlying9 s)<|da (e:=.ret) (s1:=e6 (.inl o25)) (qb s (s.length:Int) 0 bo25)<|en (aI (rP (.int .i64 3))<|trivial)
   exact bm DW call51 func51 (c:=Ho) rfl (aI trivial trivial) z<|by kernel_rfl
  ·obtain rfl:=lf h
   have z:=p11<|sg 0 c10<|dB (eu underlying9 s)<|da (e:=.exit 0) (s1:=e6 (.inr o25)) (qb s (s.length:Int) 0 bo25)<|en (aI (rP (.int .i64 0))<|trivial)
   exact bm DW call51 func51 (c:=Ho) rfl (aI trivial trivial) z<|by kernel_rfl
noncomputable def Kr:Code:=f73.body.getD .skip
def Ke:List Nat:=[]
def jw(c:Int):Option Bool:=
 if(decide (c>=65))=true then
  some (decide (c<=90))
 else
  some false
theorem mj{c:Int}{r:Bool}(h:jw c=some r):CC Pg GE 73 [.int .u8 c] (.bool r) []:=by
 rcases aG h with⟨c1,h⟩|⟨c1,h⟩
 ·obtain rfl:=lf h
  have z:=sg 3 c1<|en (aI (rP (.bool (decide (c<=90))))<|trivial)
  exact bm Ke call73 func73 (c:=Kr) rfl (aI trivial trivial) z<|by kernel_rfl
 ·obtain rfl:=lf h
  have z:=sg 3 c1<|en (aI (rP (.bool false))<|trivial)
  exact bm Ke call73 func73 (c:=Kr) rfl (aI trivial trivial) z<|by kernel_rfl
noncomputable def Hp:Code:=f52.body.getD .skip
def Ct:List Nat:=[38]
section
variable(s:ag)
def w4:ak:=aY 59 [(0,.str s)] [] []
def de(o:Bool):ak:=aY 59 [(0,.str s),(33,.bool o)] [] []
def lL:Option Bool:=
 if(decide ((s.length:Int)<1))=true then
  some true
 else
  if(decide ((s.length:Int)>24))=true then
   some true
  else
   (iJ s 0).bind fun c4=>
   (jw c4).bind fun r5=>
   if(!r5)=true then
    some true
   else
    if(s==([73,110,116]:ag))=true then
     some true
    else
     if(s==([66,111,111,108]:ag))=true then
      some true
     else
      if(s==([67,101,108,108]:ag))=true then
       some true
      else
       some (s==([70,117,110]:ag))
theorem wj{x:Bool}(h:lL s=some x):aA Pg GE 0 (cA Hp 12) (EX .normal (de s x)) (w4 s):=by
 rcases aG h with⟨c1,h⟩|⟨c1,h⟩
 ·obtain rfl:=lf h
  exact dz Ct (dB (eu underlying9 s)<|sg 4 c1<|eF .normal (de s true))<|by kernel_rfl
 ·have p3:=fun{sc F} (r:PS sc F)=>dB (eu underlying9 s)<|sg 4 c1<|dB (eu underlying9 s)<|r
  rcases aG h with⟨c2,h⟩|⟨c2,h⟩
  ·obtain rfl:=lf h
   exact dz Ct (p3<|sg 9 c2<|eF .normal (de s true))<|by kernel_rfl
  ·obtain⟨c4,bc4,h⟩:=ax h
   obtain⟨r5,br5,h⟩:=ax h
   have p7:=fun{sc F} (r:PS sc F)=>p3<|sg 9 c2<|sv (eU (k:=.i64) underlying9 bc4)<|bW (mj br5)<|r
   rcases aG h with⟨c6,h⟩|⟨c6,h⟩
   ·obtain rfl:=lf h
    exact dz Ct (p7<|sg 15 c6<|eF .normal (de s true))<|by kernel_rfl
   ·have p9:=fun{sc F} (r:PS sc F)=>p7<|sg 15 c6<|r
    rcases aG h with⟨c8,h⟩|⟨c8,h⟩
    ·obtain rfl:=lf h
     exact dz Ct (p9<|sg 19 c8<|eF .normal (de s true))<|by kernel_rfl
    ·have p11:=fun{sc F} (r:PS sc F)=>p9<|sg 19 c8<|r
     rcases aG h with⟨c10,h⟩|⟨c10,h⟩
     ·obtain rfl:=lf h
      exact dz Ct (p11<|sg 23 c10<|eF .normal (de s true))<|by kernel_rfl
     ·have p13:=fun{sc F} (r:PS sc F)=>p11<|sg 23 c10<|r
      rcases aG h with⟨c12,h⟩|⟨c12,h⟩
      ·obtain rfl:=lf h
       exact dz Ct (p13<|sg 27 c12<|eF .normal (de s true))<|by kernel_rfl
      ·obtain rfl:=lf h
       exact dz Ct (p13<|sg 27 c12<|eF .normal (de s (s==([70,117,110]:ag))))<|by kernel_rfl
end
section
variable(s:ag)(i:Int)(t35:Int)
def w5:ak:=aY 59 [(0,.str s),(3,.int .i64 i),(35,.int .i64 t35),(36,.int .i64 i)] [] []
def jN(o:Bool):ak:=aY 59 [(0,.str s),(35,.int .i64 t35),(36,.int .i64 i),(57,.bool o)] [] []
def lM:Option Bool:=
 (iJ s i).bind fun c18=>
 (iu c18).bind fun r19=>
 if(!r19)=true then
  (iJ s i).bind fun c22=>
  (jw c22).bind fun r23=>
  if(!r23)=true then
   (iJ s i).bind fun c26=>
   (ko c26).bind fun r27=>
   some (!r27)
  else
   some false
 else
  some false
theorem wl{x:Bool}(h:lM s i=some x):aA Pg GE 0 (cA Hp 7670) (EX .normal (jN s i t35 x)) (w5 s i t35):=by
 obtain⟨c18,bc18,h⟩:=ax h
 obtain⟨r19,br19,h⟩:=ax h
 have p21:=fun{sc F} (r:PS sc F)=>sv (eU (k:=.i64) underlying9 bc18)<|bW (iw br19)<|r
 rcases aG h with⟨c20,h⟩|⟨c20,h⟩
 ·obtain⟨c22,bc22,h⟩:=ax h
  obtain⟨r23,br23,h⟩:=ax h
  have p25:=fun{sc F} (r:PS sc F)=>p21<|sg 6 c20<|sv (eU (k:=.i64) underlying9 bc22)<|bW (mj br23)<|r
  rcases aG h with⟨c24,h⟩|⟨c24,h⟩
  ·obtain⟨c26,bc26,h⟩:=ax h
   obtain⟨r27,br27,h⟩:=ax h
   obtain rfl:=lf h
   exact dz Ct (p25<|sg 13 c24<|sv (eU (k:=.i64) underlying9 bc26)<|bW (lP br27)<|eF .normal (jN s i t35 (!r27)))<|by kernel_rfl
  ·obtain rfl:=lf h
   exact dz Ct (p25<|sg 13 c24<|eF .normal (jN s i t35 false))<|by kernel_rfl
 ·obtain rfl:=lf h
  exact dz Ct (p21<|sg 6 c20<|eF .normal (jN s i t35 false))<|by kernel_rfl
end
section
variable(s:ag)(t35:Int)(t36:Int)
def gT:ak:=aY 59 [(0,.str s),(35,.int .i64 t35),(36,.int .i64 t36)] [] []
def gV(o:Unit⊕(Unit)):Exit:=match o with
 |(.inl _)=>.ret
 |(.inr _)=>.exit 0
def e7(o:Unit⊕(Unit)):ak:=match o with
 |(.inl o)=>aY 59 [(2,.int .i64 3)] [] []
 |(.inr o)=>aY 59 [] [] []
def gU:Option (Int⊕(Unit⊕(Unit))):=
 if(decide (t36<t35))=true then
  (lM s t36).bind fun o28=>
  if o28=true then
   some (.inr (.inl ()))
  else
   some (.inl (bA (t36+1)))
 else
  some (.inr (.inr ()))
def lN:Option (Unit⊕(Unit)):=loop (fun(zz:Int)=>gU s t35 zz) t36
theorem uJ{y:Int⊕(Unit⊕(Unit))}(h:gU s t35 t36=some y):aA Pg GE 0 (cA Hp 119) (LQ (fun(zz:Int)=>gT s t35 zz) gV e7 y) (gT s t35 t36):=by
 rcases aG h with⟨c17,h⟩|⟨c17,h⟩
 ·obtain⟨o28,bo28,h⟩:=ax h
  have p30:=fun{sc F} (r:PS sc F)=>sg 0 c17<|pZ 2<|da (wl s t36 t35 bo28)<|r
  rcases aG h with⟨c29,h⟩|⟨c29,h⟩
  ·obtain rfl:=lf h
   have z:=p30<|sg 0 c29<|eF (gV (.inl ())) (e7 (.inl ()))
   exact jI Ct (by intro hx;cases hx) z<|by kernel_rfl
  ·obtain rfl:=lf h
   exact tg Ct (p30<|sg 0 c29<|eF .normal (gT s t35 (bA (t36+1))))<|by kernel_rfl
 ·obtain rfl:=lf h
  have z:=sg 0 c17<|eF (gV (.inr ())) (e7 (.inr ()))
  exact jI Ct (by intro hx;cases hx) z<|by kernel_rfl
theorem qc{x:Unit⊕(Unit)}(h:lN s t35 t36=some x):aA Pg GE 0 (.loop (cA Hp 119)) (EX (gV x) (e7 x)) (gT s t35 t36):=
 aA.loop (S:=fun(zz:Int)=>gT s t35 zz) (ex:=gV) (s:=t36) h fun zz y hy=>uJ s t35 zz hy
end
def rC(s:ag):Option Int:=
 (lL s).bind fun o14=>
 if o14=true then
  some 3
 else
  (lN s (s.length:Int) 0).bind fun o31=>match o31 with
  |(.inl o31)=>
   some 3
  |(.inr o31)=>
   some 0
theorem z7{s:ag}{r:Int}(h:rC s=some r):CC Pg GE 52 [.str s] (.int .i64 r) []:=by
 obtain⟨o14,bo14,h⟩:=ax h
 have p16:=fun{sc F} (r:PS sc F)=>pZ 2<|da (wj s bo14)<|r
 rcases aG h with⟨c15,h⟩|⟨c15,h⟩
 ·obtain rfl:=lf h
  have z:=p16<|sg 0 c15<|en (aI (rP (.int .i64 3))<|trivial)
  exact bm Ct call52 func52 (c:=Hp) rfl (aI trivial trivial) z<|by kernel_rfl
 ·obtain⟨o31,bo31,h⟩:=ax h
  rcases o31 with o31|o31
  ·obtain rfl:=lf h
   have z:=p16<|sg 0 c15<|dB (eu underlying9 s)<|da (e:=.ret) (s1:=e7 (.inl o31)) (qc s (s.length:Int) 0 bo31)<|en (aI (rP (.int .i64 3))<|trivial)
   exact bm Ct call52 func52 (c:=Hp) rfl (aI trivial trivial) z<|by kernel_rfl
  ·obtain rfl:=lf h
   have z:=p16<|sg 0 c15<|dB (eu underlying9 s)<|da (e:=.exit 0) (s1:=e7 (.inr o31)) (qc s (s.length:Int) 0 bo31)<|en (aI (rP (.int .i64 0))<|trivial)
   exact bm Ct call52 func52 (c:=Hp) rfl (aI trivial trivial) z<|by kernel_rfl
noncomputable def Hq:Code:=f53.body.getD .skip
def Di:List Nat:=[21]
section
variable(p:ag)
def yR:ak:=aY 65 [(0,.str p)] [] []
def nM(o:Bool):ak:=aY 65 [(0,.str p),(13,.bool o)] [] []
def qJ:Option Bool:=
 if(decide ((p.length:Int)<1))=true then
  some true
 else
  some (decide ((p.length:Int)>24))
theorem w6{x:Bool}(h:qJ p=some x):aA Pg GE 0 (cA Hq 12) (EX .normal (nM p x)) (yR p):=by
 rcases aG h with⟨c1,h⟩|⟨c1,h⟩
 ·obtain rfl:=lf h
  exact dz Di (dB (eu underlying9 p)<|sg 4 c1<|eF .normal (nM p true))<|by kernel_rfl
 ·obtain rfl:=lf h
  exact dz Di (dB (eu underlying9 p)<|sg 4 c1<|dB (eu underlying9 p)<|eF .normal (nM p (decide ((p.length:Int)>24))))<|by kernel_rfl
end
section
variable(p:ag)(plain:Bool)(word:Bool)(i:Int)(t18:Int)
def yS:ak:=aY 65 [(0,.str p),(3,.bool plain),(4,.bool word),(5,.int .i64 i),(18,.int .i64 t18),(19,.int .i64 i)] [] []
def iT(o:Bool):ak:=aY 65 [(0,.str p),(3,.bool o),(4,.bool word),(5,.int .i64 i),(18,.int .i64 t18),(19,.int .i64 i)] [] []
def np:Option Bool:=
 if plain=true then
  (iJ p i).bind fun c9=>
  (iu c9).bind fun r10=>
  if r10=true then
   some true
  else
   (iJ p i).bind fun c13=>
   (jw c13).bind fun r14=>
   if r14=true then
    some true
   else
    (iJ p i).bind fun c17=>
    (ko c17).bind fun r18=>
    some r18
 else
  some false
theorem w8{x:Bool}(h:np p plain i=some x):aA Pg GE 0 (cA Hq 32246) (EX .normal (iT p word i t18 x)) (yS p plain word i t18):=by
 rcases aG h with⟨c8,h⟩|⟨c8,h⟩
 ·obtain⟨c9,bc9,h⟩:=ax h
  obtain⟨r10,br10,h⟩:=ax h
  have p12:=fun{sc F} (r:PS sc F)=>sg 2 c8<|sv (eU (k:=.i64) underlying9 bc9)<|bW (iw br10)<|r
  rcases aG h with⟨c11,h⟩|⟨c11,h⟩
  ·obtain rfl:=lf h
   exact dz Di (p12<|sg 7 c11<|eF .normal (iT p word i t18 true))<|by kernel_rfl
  ·obtain⟨c13,bc13,h⟩:=ax h
   obtain⟨r14,br14,h⟩:=ax h
   have p16:=fun{sc F} (r:PS sc F)=>p12<|sg 7 c11<|sv (eU (k:=.i64) underlying9 bc13)<|bW (mj br14)<|r
   rcases aG h with⟨c15,h⟩|⟨c15,h⟩
   ·obtain rfl:=lf h
    exact dz Di (p16<|sg 13 c15<|eF .normal (iT p word i t18 true))<|by kernel_rfl
   ·obtain⟨c17,bc17,h⟩:=ax h
    obtain⟨r18,br18,h⟩:=ax h
    obtain rfl:=lf h
    exact dz Di (p16<|sg 13 c15<|sv (eU (k:=.i64) underlying9 bc17)<|bW (lP br18)<|eF .normal (iT p word i t18 r18))<|by kernel_rfl
 ·obtain rfl:=lf h
  exact dz Di (sg 2 c8<|eF .normal (iT p word i t18 false))<|by kernel_rfl
end
section
variable(p:ag)(t18:Int)(plain:Bool)(word:Bool)(t19:Int)
def dL:ak:=aY 65 [(0,.str p),(3,.bool plain),(4,.bool word),(18,.int .i64 t18),(19,.int .i64 t19)] [] []
def nN(o:Bool×Bool):ak:=aY 65 [(3,.bool o.1),(4,.bool o.2)] [] []
def iU:Option ((Bool×Bool×Int)⊕((Bool×Bool))):=
 if (decide (t19 < t18)) = true then
  (np p plain t19).bind fun o19=>
  if word=true then
   (iJ p t19).bind fun c22=>
   (iu c22).bind fun r23=>
   if r23=true then
    some (.inl (o19,true,bA (t19+1)))
   else
    (iJ p t19).bind fun c26=>
    (ko c26).bind fun r27=>
    if r27=true then
     some (.inl (o19,true,bA (t19+1)))
    else
     (iJ p t19).bind fun c30=>
     some (.inl (o19,c30==95,bA (t19+1)))
  else
   some (.inl (o19,false,bA (t19+1)))
 else
  some (.inr (plain,word))
def nq:Option ((Bool×Bool)):=loop (fun(zz:Bool×Bool×Int)=>iU p t18 zz.1 zz.2.1 zz.2.2) (plain,word,t19)
theorem wq{y:(Bool×Bool×Int)⊕((Bool×Bool))}(h:iU p t18 plain word t19=some y):aA Pg GE 0 (cA Hq 503) (LQ (fun(zz:Bool×Bool×Int)=>dL p t18 zz.1 zz.2.1 zz.2.2) (fun _=>.exit 0) nN y) (dL p t18 plain word t19):=by
 rcases aG h with⟨c7,h⟩|⟨c7,h⟩
 ·obtain⟨o19,bo19,h⟩:=ax h
  have p21:=fun{sc F} (r:PS sc F)=>sg 0 c7<|pZ 2<|da (w8 p plain word t19 t18 bo19)<|r
  rcases aG h with⟨c20,h⟩|⟨c20,h⟩
  ·obtain⟨c22,bc22,h⟩:=ax h
   obtain⟨r23,br23,h⟩:=ax h
   have p25:=fun{sc F} (r:PS sc F)=>p21<|sg 2 c20<|sv (eU (k:=.i64) underlying9 bc22)<|bW (iw br23)<|r
   rcases aG h with⟨c24,h⟩|⟨c24,h⟩
   ·obtain rfl:=lf h
    exact tg Di (p25<|sg 7 c24<|eF .normal (dL p t18 o19 true (bA (t19+1))))<|by kernel_rfl
   ·obtain⟨c26,bc26,h⟩:=ax h
    obtain⟨r27,br27,h⟩:=ax h
    have p29:=fun{sc F} (r:PS sc F)=>p25<|sg 7 c24<|sv (eU (k:=.i64) underlying9 bc26)<|bW (lP br27)<|r
    rcases aG h with⟨c28,h⟩|⟨c28,h⟩
    ·obtain rfl:=lf h
     exact tg Di (p29<|sg 13 c28<|eF .normal (dL p t18 o19 true (bA (t19+1))))<|by kernel_rfl
    ·obtain⟨c30,bc30,h⟩:=ax h
     obtain rfl:=lf h
     exact tg Di (p29<|sg 13 c28<|sv (eU (k:=.i64) underlying9 bc30)<|eF .normal (dL p t18 o19 (c30==95) (bA (t19+1))))<|by kernel_rfl
  ·obtain rfl:=lf h
   exact tg Di (p21<|sg 2 c20<|eF .normal (dL p t18 o19 false (bA (t19+1))))<|by kernel_rfl
 ·obtain rfl:=lf h
  have z:=sg 0 c7<|eF (.exit 0) (nN (plain,word))
  exact jI Di (by intro hx;cases hx) z<|by kernel_rfl
theorem xa{x:(Bool×Bool)}(h:nq p t18 plain word t19=some x):aA Pg GE 0 (.loop (cA Hq 503)) (EX (.exit 0) (nN x)) (dL p t18 plain word t19):=
 aA.loop (S:=fun(zz:Bool×Bool×Int)=>dL p t18 zz.1 zz.2.1 zz.2.2) (ex:=(fun _=>.exit 0)) (s:=(plain,word,t19)) h fun zz y hy=>wq p t18 zz.1 zz.2.1 zz.2.2 hy
end
def tz(p:ag):Option Bool:=
 (qJ p).bind fun o2=>
 if o2=true then
  some false
 else
  (iJ p 0).bind fun c5=>
  (iu c5).bind fun r6=>
  (nq p (p.length:Int) true r6 0).bind fun o31=>
  if o31.1=true then
   some true
  else
   some o31.2
theorem Bh{p:ag}{r:Bool}(h:tz p=some r):CC Pg GE 53 [.str p] (.bool r) []:=by
 obtain⟨o2,bo2,h⟩:=ax h
 have p4:=fun{sc F} (r:PS sc F)=>pZ 2<|da (w6 p bo2)<|r
 rcases aG h with⟨c3,h⟩|⟨c3,h⟩
 ·obtain rfl:=lf h
  have z:=p4<|sg 0 c3<|en (aI (rP (.bool false))<|trivial)
  exact bm Di call53 func53 (c:=Hq) rfl (aI trivial trivial) z<|by kernel_rfl
 ·obtain⟨c5,bc5,h⟩:=ax h
  obtain⟨r6,br6,h⟩:=ax h
  obtain⟨o31,bo31,h⟩:=ax h
  have p33:=fun{sc F} (r:PS sc F)=>p4<|sg 0 c3<|sv (eU (k:=.i64) underlying9 bc5)<|bW (iw br6)<|dB (eu underlying9 p)<|da (xa p (p.length:Int) true r6 0 bo31)<|r
  rcases aG h with⟨c32,h⟩|⟨c32,h⟩
  ·obtain rfl:=lf h
   have z:=p33<|sg 2 c32<|en (aI (rP (.bool true))<|trivial)
   exact bm Di call53 func53 (c:=Hq) rfl (aI trivial trivial) z<|by kernel_rfl
  ·obtain rfl:=lf h
   have z:=p33<|sg 2 c32<|en (aI (rP (.bool o31.2))<|trivial)
   exact bm Di call53 func53 (c:=Hq) rfl (aI trivial trivial) z<|by kernel_rfl
noncomputable def Hm:Code:=f28.body.getD .skip
def EH:List Nat:=[]
section
variable(v:waC)
def yQ:ak:=aY 45 [(3,sl cS v)] [] [((3,0),9)]
def iM(o:Bool):ak:=aY 45 [(3,sl cS v),(33,.bool o)] [] [((3,0),9)]
def nm:Option Bool:=
 (eQ v 0).bind fun x3=>
 (rA x3).bind fun r4=>
 if (r4 != 0) = true then
  (eQ v 0).bind fun x7=>
  (rC x7).bind fun r8=>
  if(r8 !=0)=true then
   (eQ v 0).bind fun x11=>
   if(!(x11==([118]:ag)))=true then
    some true
   else
    some ((v.length:Int)==1)
  else
   some false
 else
  some false
theorem wZ{x:Bool}(h:nm v=some x):aA Pg GE 0 (cA Hm 60) (EX .normal (iM v x)) (yQ v):=by
 obtain⟨x3,bx3,h⟩:=ax h
 obtain⟨r4,br4,h⟩:=ax h
 have p6:=fun{sc F} (r:PS sc F)=>sv (rl.ia (k:=.i64) bx3)<|sv (pN Jf (.str x3) [])<|bW (zZ br4)<|r
 rcases aG h with⟨c5,h⟩|⟨c5,h⟩
 ·obtain⟨x7,bx7,h⟩:=ax h
  obtain⟨r8,br8,h⟩:=ax h
  have p10:=fun{sc F} (r:PS sc F)=>p6<|sg 6 c5<|sv (rl.ia (k:=.i64) bx7)<|sv (pN Jf (.str x7) [])<|bW (z7 br8)<|r
  rcases aG h with⟨c9,h⟩|⟨c9,h⟩
  ·obtain⟨x11,bx11,h⟩:=ax h
   have p13:=fun{sc F} (r:PS sc F)=>p10<|sg 13 c9<|sv (rl.ia (k:=.i64) bx11)<|sv (pN Jf (.str x11) [])<|r
   rcases aG h with⟨c12,h⟩|⟨c12,h⟩
   ·obtain rfl:=lf h
    exact dz EH (p13<|sg 18 c12<|eF .normal (iM v true))<|by kernel_rfl
   ·obtain rfl:=lf h
    exact dz EH (p13<|sg 18 c12<|dB (rl.ln v)<|eF .normal (iM v ((v.length:Int)==1)))<|by kernel_rfl
  ·obtain rfl:=lf h
   exact dz EH (p10<|sg 13 c9<|eF .normal (iM v false))<|by kernel_rfl
 ·obtain rfl:=lf h
  exact dz EH (p6<|sg 6 c5<|eF .normal (iM v false))<|by kernel_rfl
end
section
variable(t35:waC)(t36:Int)(t37:Int)
def iN:ak:=aY 45 [(35,sl cS t35),(36,.int .i64 t36),(37,.int .i64 t37)] [] []
def iP(o:Unit⊕(Unit)):Exit:=match o with
 |(.inl _)=>.ret
 |(.inr _)=>.exit 0
def gq(o:Unit⊕(Unit)):ak:=match o with
 |(.inl o)=>aY 45 [(2,.int .i64 3)] [] []
 |(.inr o)=>aY 45 [] [] []
def iO:Option (Int⊕(Unit⊕(Unit))):=
 if(decide (t37<t36))=true then
  (eQ t35 t37).bind fun x19=>
  (tz x19).bind fun r20=>
  if(!r20)=true then
   some (.inr (.inl ()))
  else
   some (.inl (bA (t37+1)))
 else
  some (.inr (.inr ()))
def qF:Option (Unit⊕(Unit)):=loop (fun(zz:Int)=>iO t35 t36 zz) t37
theorem we{y:Int⊕(Unit⊕(Unit))}(h:iO t35 t36 t37=some y):aA Pg GE 0 (cA Hm 503) (LQ (fun(zz:Int)=>iN t35 t36 zz) iP gq y) (iN t35 t36 t37):=by
 rcases aG h with⟨c18,h⟩|⟨c18,h⟩
 ·obtain⟨x19,bx19,h⟩:=ax h
  obtain⟨r20,br20,h⟩:=ax h
  have p22:=fun{sc F} (r:PS sc F)=>sg 0 c18<|sv (rl.ia (k:=.i64) bx19)<|sv (pN Jf (.str x19) [])<|bW (Bh br20)<|r
  rcases aG h with⟨c21,h⟩|⟨c21,h⟩
  ·obtain rfl:=lf h
   have z:=p22<|sg 0 c21<|eF (iP (.inl ())) (gq (.inl ()))
   exact jI EH (by intro hx;cases hx) z<|by kernel_rfl
  ·obtain rfl:=lf h
   exact tg EH (p22<|sg 0 c21<|eF .normal (iN t35 t36 (bA (t37+1))))<|by kernel_rfl
 ·obtain rfl:=lf h
  have z:=sg 0 c18<|eF (iP (.inr ())) (gq (.inr ()))
  exact jI EH (by intro hx;cases hx) z<|by kernel_rfl
theorem qG{x:Unit⊕(Unit)}(h:qF t35 t36 t37=some x):aA Pg GE 0 (.loop (cA Hm 503)) (EX (iP x) (gq x)) (iN t35 t36 t37):=
 aA.loop (S:=fun(zz:Int)=>iN t35 t36 zz) (ex:=iP) (s:=t37) h fun zz y hy=>we t35 t36 zz hy
end
def qE(s:ag):Option Int:=
 if(decide ((s.length:Int)>120))=true then
  some 3
 else
  (rD s).bind fun r2=>
  (nm r2).bind fun o14=>
  if o14=true then
   some 3
  else
   (AW r2 (some 1) none).bind fun l17=>
   (qF l17 (l17.length:Int) 0).bind fun o23=>match o23 with
   |(.inl o23)=>
    some 3
   |(.inr o23)=>
    some 0
theorem vO{s:ag}{r:Int}(h:qE s=some r):CC Pg GE 28 [.str s] (.int .i64 r) []:=by
 rcases aG h with⟨c1,h⟩|⟨c1,h⟩
 ·obtain rfl:=lf h
  have z:=dB (eu underlying9 s)<|sg 0 c1<|en (aI (rP (.int .i64 3))<|trivial)
  exact bm EH call28 func28 (c:=Hm) rfl (aI trivial trivial) z<|by kernel_rfl
 ·obtain⟨r2,br2,h⟩:=ax h
  obtain⟨o14,bo14,h⟩:=ax h
  have p16:=fun{sc F} (r:PS sc F)=>dB (eu underlying9 s)<|sg 0 c1<|bW (Aa br2)<|pZ 1<|da (wZ r2 bo14)<|r
  rcases aG h with⟨c15,h⟩|⟨c15,h⟩
  ·obtain rfl:=lf h
   have z:=p16<|sg 0 c15<|en (aI (rP (.int .i64 3))<|trivial)
   exact bm EH call28 func28 (c:=Hm) rfl (aI trivial trivial) z<|by kernel_rfl
  ·obtain⟨l17,bl17,h⟩:=ax h
   obtain⟨o23,bo23,h⟩:=ax h
   rcases o23 with o23|o23
   ·obtain rfl:=lf h
    have z:=p16<|sg 0 c15<|sv (rl.sc bl17)<|dB (rl.ln l17)<|da (e:=.ret) (s1:=gq (.inl o23)) (qG l17 (l17.length:Int) 0 bo23)<|en (aI (rP (.int .i64 3))<|trivial)
    exact bm EH call28 func28 (c:=Hm) rfl (aI trivial trivial) z<|by kernel_rfl
   ·obtain rfl:=lf h
    have z:=p16<|sg 0 c15<|sv (rl.sc bl17)<|dB (rl.ln l17)<|da (e:=.exit 0) (s1:=gq (.inr o23)) (qG l17 (l17.length:Int) 0 bo23)<|en (aI (rP (.int .i64 0))<|trivial)
    exact bm EH call28 func28 (c:=Hm) rfl (aI trivial trivial) z<|by kernel_rfl
noncomputable def JH:Code:=f29.body.getD .skip
def Jz:List Nat:=[]
def ky(a:ah)(a2:ah):Option Bool:=
 if(decide (a.From<a2.From))=true then
  some true
 else
  if(a.From==a2.From)=true then
   some (decide (a.To<a2.To))
  else
   some false
theorem kG{a:ah}{a2:ah}{r:Bool}(h:ky a a2=some r):CC Pg GE 29 [.agg (ai a),.agg (ai a2)] (.bool r) []:=by
 have p2:=fun{sc F} (r:PS sc F)=>se (pL a)<|se (pL a2)<|sv (cC a)<|sv (di a)<|sv (cC a2)<|sv (di a2)<|r
 rcases aG h with⟨c1,h⟩|⟨c1,h⟩
 ·obtain rfl:=lf h
  have z:=p2<|sg 6 c1<|en (aI (rP (.bool true))<|trivial)
  exact bm Jz call29 func29 (c:=JH) rfl (aI (ay a) (aI (ay a2) trivial)) z<|by kernel_rfl
 ·have p4:=fun{sc F} (r:PS sc F)=>p2<|sg 6 c1<|sv (cC a)<|sv (di a)<|sv (cC a2)<|sv (di a2)<|r
  rcases aG h with⟨c3,h⟩|⟨c3,h⟩
  ·obtain rfl:=lf h
   have z:=p4<|sg 12 c3<|sv (fS a)<|sv (ig a)<|sv (fS a2)<|sv (ig a2)<|en (aI (rP (.bool (decide (a.To<a2.To))))<|trivial)
   exact bm Jz call29 func29 (c:=JH) rfl (aI (ay a) (aI (ay a2) trivial)) z<|by kernel_rfl
  ·obtain rfl:=lf h
   have z:=p4<|sg 12 c3<|en (aI (rP (.bool false))<|trivial)
   exact bm Jz call29 func29 (c:=JH) rfl (aI (ay a) (aI (ay a2) trivial)) z<|by kernel_rfl
end Go.Proofs.YtoficachfgggjaaDoor
