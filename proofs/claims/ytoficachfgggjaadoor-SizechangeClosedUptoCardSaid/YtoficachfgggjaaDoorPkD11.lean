/- PROVED: a part of the proof. Conditions: none. -/
import Derived.Test.YtoficachfgggjaaDoorPkD10
noncomputable section
namespace Go.Proofs.YtoficachfgggjaaDoor
open Go Go.Proofs.Tryd
set_option linter.unusedVariables false
set_option maxRecDepth 100000
noncomputable def Ah:Code:=f19.body.getD .skip
def xd:List Nat:=[24]
section
variable(v:waA)(t15:Int)(t16:Int)
def cr:ak:=cJ 109 [(0,sl ac v),(14,sl ac v),(15,.int .i64 t15),(16,.int .i64 t16)] [] []
def cu(o:(waA×Int)⊕(Unit)):Exit:=match o with
 |(.inl _)=>.ret
 |(.inr _)=>.exit 0
def bv(o:(waA×Int)⊕(Unit)):ak:=match o with
 |(.inl o)=>cJ 109 [(2,sl ac o.1),(3,.int .i64 o.2)] [] [((2,0),24)]
 |(.inr o)=>cJ 109 [(0,sl ac v)] [] []
def ct:Option (Int⊕((waA×Int)⊕(Unit))):=
 if(decide (t16<t15))=true then
  (ep v t16).bind fun x2=>
  (cD x2).bind fun r3=>
  if(r3 !=0)=true then
   some (.inr (.inl (([]:List aa),r3)))
  else
   some (.inl (bU (t16+1)))
 else
  some (.inr (.inr ()))
def bj:Option ((waA×Int)⊕(Unit)):=loop (fun(zz:Int)=>ct v t15 zz) t16
theorem lY{y:Int⊕((waA×Int)⊕(Unit))}(h:ct v t15 t16=some y):aL Pg GE 0 (cA Ah 55) (LQ (fun(zz:Int)=>cr v t15 zz) cu (bv v) y) (cr v t15 t16):=by
 rcases bC h with⟨c1,h⟩|⟨c1,h⟩
 ·obtain⟨x2,bx2,h⟩:=aC h
  obtain⟨r3,br3,h⟩:=aC h
  have p5:=fun{sc F} (r:PS sc F)=>sg 0 c1<|sv (cQ.ia (k:=.i64) bx2)<|sv (aU x2)<|sx qB<|sx (dG x2)<|sv (bD x2 [])<|eb (dK br3)<|r
  rcases bC h with⟨c4,h⟩|⟨c4,h⟩
  ·obtain rfl:=lf h
   have z:=p5<|sg 0 c4<|tc 0 (cu (.inl (([]:List aa),r3))) (bv v (.inl (([]:List aa),r3))) rfl (eR (aI (up (aw af ([]:List aa))) (aI trivial trivial))) trivial
   exact kp (A:=xd) mixed (by intro hx;cases hx) z<|by kernel_rfl
  ·obtain rfl:=lf h
   have z:=p5<|sg 0 c4<|tc 0 .normal (cr v t15 (bU (t16+1))) rfl (eR (aI (up (aw af v)) (aI (up (aw af v)) (aI trivial (aI trivial trivial))))) trivial
   exact iz (A:=xd) mixed z<|by kernel_rfl
 ·obtain rfl:=lf h
  have z:=sg 0 c1<|eF (cu (.inr ())) (bv v (.inr ()))
  exact ny xd (by intro hx;cases hx) z<|by kernel_rfl
theorem ik{x:(waA×Int)⊕(Unit)}(h:bj v t15 t16=some x):aL Pg GE 0 (.loop (cA Ah 55)) (EX (cu x) (bv v x)) (cr v t15 t16):=
 aL.loop (S:=fun(zz:Int)=>cr v t15 zz) (ex:=cu) (s:=t16) h fun zz y hy=>lY v t15 zz hy
end
section
variable(t28:waA)(t29:Int)(t30:Int)(m0:(List (ah×Bool)))(m:waA)
def cw:ak:=cJ 109 [(8,.bptr 2 0),(9,.func (.func 36) [] [.bptr 1 0,.bptr 2 0]),(28,sl ac t28),(29,.int .i64 t29),(30,.int .i64 t30)] [.map (dE PVal.bool m0),.cells [.mapr 0] [],.cells [sl ac m] [(0,24)]] []
def fh(o:(List (ah×Bool))×waA):ak:=cJ 109 [(8,.bptr 2 0),(9,.func (.func 36) [] [.bptr 1 0,.bptr 2 0])] [.map (dE PVal.bool o.1),.cells [.mapr 0] [],.cells [sl ac o.2] [(0,24)]] []
def cx:Option ((Int×(List (ah×Bool))×waA)⊕(((List (ah×Bool))×waA))):=
 if(decide (t30<t29))=true then
  (ep t28 t30).bind fun x8=>
  (bF x8 m0 m).bind fun r9=>
  some (.inl (bU (t30+1),r9.1,r9.2))
 else
  some (.inr (m0,m))
def bX:Option (((List (ah×Bool))×waA)):=loop (fun(zz:Int×(List (ah×Bool))×waA)=>cx t28 t29 zz.1 zz.2.1 zz.2.2) (t30,m0,m)
theorem lZ{y:(Int×(List (ah×Bool))×waA)⊕(((List (ah×Bool))×waA))}(h:cx t28 t29 t30 m0 m=some y):aL Pg GE 0 (cA Ah 1015) (LQ (fun(zz:Int×(List (ah×Bool))×waA)=>cw t28 t29 zz.1 zz.2.1 zz.2.2) (fun _=>.exit 2) fh y) (cw t28 t29 t30 m0 m):=by
 rcases bC h with⟨c7,h⟩|⟨c7,h⟩
 ·obtain⟨x8,bx8,h⟩:=aC h
  obtain⟨r9,br9,h⟩:=aC h
  obtain rfl:=lf h
  have z:=sg 0 c7<|sv (cQ.ia (k:=.i64) bx8)<|sv (aU x8)<|sx qB<|sx (dG x8)<|sv (bD x8 [])<|si (.cg ⟨[1,0,2],[.agg (ac x8),.bptr 0 0,.bptr 2 0],[],[.cells [.mapr 0] [],.map (dE PVal.bool m0),.cells [sl ac m] [(0,24)]],[.cells [.mapr 1] [],.map (dE PVal.bool m0),.cells [sl ac m] [(0,24)]],[.cells [.mapr 0] [],.map (dE PVal.bool r9.1),.cells [sl ac r9.2] [(0,24)]],[.cells [.mapr 1] [],.map (dE PVal.bool r9.1),.cells [sl ac r9.2] [(0,24)]],.tuple [],.tuple [],[]⟩) (fb br9)<|sf (aI (xR [1,0,2] (.agg (ac x8)) (af x8)) (aI (xB [1,0,2] 0 1 0 rfl) (aI (xB [1,0,2] 2 2 0 rfl) trivial)))<|sf (aI (aI (rB (.cells [.mapr 0] [])) (aI (rW []) (aI (xM [1,0,2] 1 0 rfl) trivial))) (aI (aI (rB (.map (dE PVal.bool m0))) (aI (rM (dE PVal.bool m0)) (D4 (n:=0) PVal.bool (fun x=>trivial) m0))) (aI (aI (rB (.cells [sl ac m] [(0,24)])) (aI (rW [(0,24)]) (aI (xR [1,0,2] (sl ac m) (aw af m)) trivial))) trivial)))<|sf (aI (aI (rW []) (aI (xM [1,0,2] 1 0 rfl) trivial)) (aI (aI (rM (dE PVal.bool r9.1)) (D4 (n:=0) PVal.bool (fun x=>trivial) r9.1)) (aI (aI (rW [(0,24)]) (aI (xR [1,0,2] (sl ac r9.2) (aw af r9.2)) trivial)) trivial)))<|sf (xR [1,0,2] (.tuple []) trivial)<|tc 0 .normal (cw t28 t29 (bU (t30+1)) r9.1 r9.2) rfl (eR (aI (mr rfl) (aI (aI trivial (aI (mr rfl) (aI (mr rfl) trivial))) (aI (up (aw af t28)) (aI trivial (aI trivial trivial)))))) (aI (D4 PVal.bool (fun x=>trivial) r9.1) (aI (aI (mr rfl) trivial) (aI (aI (up (aw af r9.2)) trivial) trivial)))
  exact iz (A:=xd) mixed z<|by kernel_rfl
 ·obtain rfl:=lf h
  have z:=sg 0 c7<|eF (.exit 2) (fh (m0,m))
  exact ny xd (by intro hx;cases hx) z<|by kernel_rfl
theorem mT{x:((List (ah×Bool))×waA)}(h:bX t28 t29 t30 m0 m=some x):aL Pg GE 0 (.loop (cA Ah 1015)) (EX (.exit 2) (fh x)) (cw t28 t29 t30 m0 m):=
 aL.loop (S:=fun(zz:Int×(List (ah×Bool))×waA)=>cw t28 t29 zz.1 zz.2.1 zz.2.2) (ex:=(fun _=>.exit 2)) (s:=(t30,m0,m)) h fun zz y hy=>lZ t28 t29 zz.1 zz.2.1 zz.2.2 hy
end
section
variable(i:Int)(m0:(List (ah×Bool)))(m:waA)
def nD:ak:=cJ 109 [(8,.bptr 2 0),(9,.func (.func 36) [] [.bptr 1 0,.bptr 2 0]),(12,.int .i64 i)] [.map (dE PVal.bool m0),.cells [.mapr 0] [],.cells [sl ac m] [(0,24)]] []
def fc(o:Bool):ak:=cJ 109 [(8,.bptr 2 0),(9,.func (.func 36) [] [.bptr 1 0,.bptr 2 0]),(12,.int .i64 i),(46,.bool o)] [.map (dE PVal.bool m0),.cells [.mapr 0] [],.cells [sl ac m] [(0,24)]] []
def ec:Option Bool:=
 if(decide (i<(m.length:Int)))=true then
  some (decide ((m.length:Int)<=400))
 else
  some false
theorem mP{x:Bool}(h:ec i m=some x):aL Pg GE 0 (cA Ah 8156) (EX .normal (fc i m0 m x)) (nD i m0 m):=by
 have p12:=fun{sc F} (r:PS sc F)=>ss<|g8 (cQ.ln m)<|r
 rcases bC h with⟨c11,h⟩|⟨c11,h⟩
 ·obtain rfl:=lf h
  exact kj xd (p12<|sg 5 c11<|ss<|g8 (cQ.ln m)<|eF .normal (fc i m0 m (decide ((m.length:Int)<=400))))<|by kernel_rfl
 ·obtain rfl:=lf h
  exact kj xd (p12<|sg 5 c11<|eF .normal (fc i m0 m false))<|by kernel_rfl
end
section
variable(i:Int)(k:Int)(m0:(List (ah×Bool)))(m:waA)
def nE:ak:=cJ 109 [(8,.bptr 2 0),(9,.func (.func 36) [] [.bptr 1 0,.bptr 2 0]),(12,.int .i64 i),(13,.int .i64 k)] [.map (dE PVal.bool m0),.cells [.mapr 0] [],.cells [sl ac m] [(0,24)]] []
def fe(o:Bool):ak:=cJ 109 [(8,.bptr 2 0),(9,.func (.func 36) [] [.bptr 1 0,.bptr 2 0]),(12,.int .i64 i),(13,.int .i64 k),(56,.bool o)] [.map (dE PVal.bool m0),.cells [.mapr 0] [],.cells [sl ac m] [(0,24)]] []
def ed:Option Bool:=
 if(decide (k<=i))=true then
  some (decide ((m.length:Int)<=400))
 else
  some false
theorem mQ{x:Bool}(h:ed i k m=some x):aL Pg GE 0 (cA Ah 522172) (EX .normal (fe i k m0 m x)) (nE i k m0 m):=by
 rcases bC h with⟨c16,h⟩|⟨c16,h⟩
 ·obtain rfl:=lf h
  exact kj xd (sg 4 c16<|ss<|g8 (cQ.ln m)<|eF .normal (fe i k m0 m (decide ((m.length:Int)<=400))))<|by kernel_rfl
 ·obtain rfl:=lf h
  exact kj xd (sg 4 c16<|eF .normal (fe i k m0 m false))<|by kernel_rfl
end
section
variable(i:Int)(k:Int)(m0:(List (ah×Bool)))(m:waA)
def nG:ak:=cJ 109 [(8,.bptr 2 0),(9,.func (.func 36) [] [.bptr 1 0,.bptr 2 0]),(12,.int .i64 i),(13,.int .i64 k)] [.map (dE PVal.bool m0),.cells [.mapr 0] [],.cells [sl ac m] [(0,24)]] []
def fg(o:(List (ah×Bool))×waA):ak:=cJ 109 [(8,.bptr 2 0),(9,.func (.func 36) [] [.bptr 1 0,.bptr 2 0]),(12,.int .i64 i),(13,.int .i64 k)] [.map (dE PVal.bool o.1),.cells [.mapr 0] [],.cells [sl ac o.2] [(0,24)]] []
def cW:Option (((List (ah×Bool))×waA)):=
 (ep m i).bind fun x20=>
 (ep m k).bind fun x21=>
 if(x20.Callee==x21.Caller)=true then
  (ep m i).bind fun x24=>
  (ep m k).bind fun x25=>
  (bH x24 x25).bind fun r26=>
  (bF r26 m0 m).bind fun r27=>
  some (r27.1,r27.2)
 else
  some (m0,m)
theorem mS{x:((List (ah×Bool))×waA)}(h:cW i k m0 m=some x):aL Pg GE 0 (cA Ah 2088698) (EX .normal (fg i k x)) (nG i k m0 m):=by
 obtain⟨x20,bx20,h⟩:=aC h
 obtain⟨x21,bx21,h⟩:=aC h
 have p23:=fun{sc F} (r:PS sc F)=>Aj [0,0,3,7,15,0,0,96,224,480,1023]<|ss<|sv (cQ.ia (k:=.i64) bx20)<|sv (bg x20)<|sv (bJ x20)<|ss<|sv (cQ.ia (k:=.i64) bx21)<|sv (be x21)<|sv (bI x21)<|r
 rcases bC h with⟨c22,h⟩|⟨c22,h⟩
 ·obtain⟨x24,bx24,h⟩:=aC h
  obtain⟨x25,bx25,h⟩:=aC h
  obtain⟨r26,br26,h⟩:=aC h
  obtain⟨r27,br27,h⟩:=aC h
  obtain rfl:=lf h
  exact kj xd (p23<|sg 0 c22<|sk<|GR (.dx [0,0,0,6,14,0,0,96,224,510] [] [] [])<|ss<|sv (cQ.ia (k:=.i64) bx24)<|sv (aU x24)<|ss<|sv (cQ.ia (k:=.i64) bx25)<|sv (aU x25)<|eb (ek br26)<|si (.cg ⟨[1,0,2],[.agg (ac r26),.bptr 0 0,.bptr 2 0],[],[.cells [.mapr 0] [],.map (dE PVal.bool m0),.cells [sl ac m] [(0,24)]],[.cells [.mapr 1] [],.map (dE PVal.bool m0),.cells [sl ac m] [(0,24)]],[.cells [.mapr 0] [],.map (dE PVal.bool r27.1),.cells [sl ac r27.2] [(0,24)]],[.cells [.mapr 1] [],.map (dE PVal.bool r27.1),.cells [sl ac r27.2] [(0,24)]],.tuple [],.tuple [],[]⟩) (fb br27)<|sf (aI (xR [1,0,2] (.agg (ac r26)) (af r26)) (aI (xB [1,0,2] 0 1 0 rfl) (aI (xB [1,0,2] 2 2 0 rfl) trivial)))<|sf (aI (aI (rB (.cells [.mapr 0] [])) (aI (rW []) (aI (xM [1,0,2] 1 0 rfl) trivial))) (aI (aI (rB (.map (dE PVal.bool m0))) (aI (rM (dE PVal.bool m0)) (D4 (n:=0) PVal.bool (fun x=>trivial) m0))) (aI (aI (rB (.cells [sl ac m] [(0,24)])) (aI (rW [(0,24)]) (aI (xR [1,0,2] (sl ac m) (aw af m)) trivial))) trivial)))<|sf (aI (aI (rW []) (aI (xM [1,0,2] 1 0 rfl) trivial)) (aI (aI (rM (dE PVal.bool r27.1)) (D4 (n:=0) PVal.bool (fun x=>trivial) r27.1)) (aI (aI (rW [(0,24)]) (aI (xR [1,0,2] (sl ac r27.2) (aw af r27.2)) trivial)) trivial)))<|sf (xR [1,0,2] (.tuple []) trivial)<|eF .normal (fg i k (r27.1,r27.2)))<|by kernel_rfl
 ·obtain rfl:=lf h
  exact kj xd (p23<|sg 0 c22<|eF .normal (fg i k (m0,m)))<|by kernel_rfl
end
section
variable(i:Int)(k:Int)(m0:(List (ah×Bool)))(m:waA)
def nF:ak:=cJ 109 [(8,.bptr 2 0),(9,.func (.func 36) [] [.bptr 1 0,.bptr 2 0]),(12,.int .i64 i),(13,.int .i64 k)] [.map (dE PVal.bool m0),.cells [.mapr 0] [],.cells [sl ac m] [(0,24)]] []
def ff(o:(List (ah×Bool))×waA):ak:=cJ 109 [(8,.bptr 2 0),(9,.func (.func 36) [] [.bptr 1 0,.bptr 2 0]),(12,.int .i64 i),(13,.int .i64 k)] [.map (dE PVal.bool o.1),.cells [.mapr 0] [],.cells [sl ac o.2] [(0,24)]] []
def ee:Option (((List (ah×Bool))×waA)):=
 (cW i k m0 m).bind fun o28=>
 (ep o28.2 k).bind fun x29=>
 (ep o28.2 i).bind fun x30=>
 if(x29.Callee==x30.Caller)=true then
  (ep o28.2 k).bind fun x33=>
  (ep o28.2 i).bind fun x34=>
  (bH x33 x34).bind fun r35=>
  (bF r35 o28.1 o28.2).bind fun r36=>
  some (r36.1,r36.2)
 else
  some (o28.1,o28.2)
theorem mR{x:((List (ah×Bool))×waA)}(h:ee i k m0 m=some x):aL Pg GE 0 (cA Ah 522174) (EX .normal (ff i k x)) (nF i k m0 m):=by
 obtain⟨o28,bo28,h⟩:=aC h
 obtain⟨x29,bx29,h⟩:=aC h
 obtain⟨x30,bx30,h⟩:=aC h
 have p32:=fun{sc F} (r:PS sc F)=>wJ 0<|gq (mS i k m0 m bo28)<|Aj [0,0,3,7,15,0,0,96,224,480,1023]<|ss<|sv (cQ.ia (k:=.i64) bx29)<|sv (bg x29)<|sv (bJ x29)<|ss<|sv (cQ.ia (k:=.i64) bx30)<|sv (be x30)<|sv (bI x30)<|r
 rcases bC h with⟨c31,h⟩|⟨c31,h⟩
 ·obtain⟨x33,bx33,h⟩:=aC h
  obtain⟨x34,bx34,h⟩:=aC h
  obtain⟨r35,br35,h⟩:=aC h
  obtain⟨r36,br36,h⟩:=aC h
  obtain rfl:=lf h
  exact kj xd (p32<|sg 0 c31<|sk<|GR (.dx [0,0,0,6,14,0,0,96,224,510] [] [] [])<|ss<|sv (cQ.ia (k:=.i64) bx33)<|sv (aU x33)<|ss<|sv (cQ.ia (k:=.i64) bx34)<|sv (aU x34)<|eb (ek br35)<|si (.cg ⟨[1,0,2],[.agg (ac r35),.bptr 0 0,.bptr 2 0],[],[.cells [.mapr 0] [],.map (dE PVal.bool o28.1),.cells [sl ac o28.2] [(0,24)]],[.cells [.mapr 1] [],.map (dE PVal.bool o28.1),.cells [sl ac o28.2] [(0,24)]],[.cells [.mapr 0] [],.map (dE PVal.bool r36.1),.cells [sl ac r36.2] [(0,24)]],[.cells [.mapr 1] [],.map (dE PVal.bool r36.1),.cells [sl ac r36.2] [(0,24)]],.tuple [],.tuple [],[]⟩) (fb br36)<|sf (aI (xR [1,0,2] (.agg (ac r35)) (af r35)) (aI (xB [1,0,2] 0 1 0 rfl) (aI (xB [1,0,2] 2 2 0 rfl) trivial)))<|sf (aI (aI (rB (.cells [.mapr 0] [])) (aI (rW []) (aI (xM [1,0,2] 1 0 rfl) trivial))) (aI (aI (rB (.map (dE PVal.bool o28.1))) (aI (rM (dE PVal.bool o28.1)) (D4 (n:=0) PVal.bool (fun x=>trivial) o28.1))) (aI (aI (rB (.cells [sl ac o28.2] [(0,24)])) (aI (rW [(0,24)]) (aI (xR [1,0,2] (sl ac o28.2) (aw af o28.2)) trivial))) trivial)))<|sf (aI (aI (rW []) (aI (xM [1,0,2] 1 0 rfl) trivial)) (aI (aI (rM (dE PVal.bool r36.1)) (D4 (n:=0) PVal.bool (fun x=>trivial) r36.1)) (aI (aI (rW [(0,24)]) (aI (xR [1,0,2] (sl ac r36.2) (aw af r36.2)) trivial)) trivial)))<|sf (xR [1,0,2] (.tuple []) trivial)<|eF .normal (ff i k (r36.1,r36.2)))<|by kernel_rfl
 ·obtain rfl:=lf h
  exact kj xd (p32<|sg 0 c31<|eF .normal (ff i k (o28.1,o28.2)))<|by kernel_rfl
end
section
variable(i:Int)(k:Int)(m0:(List (ah×Bool)))(m:waA)
def cz:ak:=cJ 109 [(8,.bptr 2 0),(9,.func (.func 36) [] [.bptr 1 0,.bptr 2 0]),(12,.int .i64 i),(13,.int .i64 k)] [.map (dE PVal.bool m0),.cells [.mapr 0] [],.cells [sl ac m] [(0,24)]] []
def fj(o:(List (ah×Bool))×waA):ak:=cJ 109 [(8,.bptr 2 0),(9,.func (.func 36) [] [.bptr 1 0,.bptr 2 0]),(12,.int .i64 i)] [.map (dE PVal.bool o.1),.cells [.mapr 0] [],.cells [sl ac o.2] [(0,24)]] []
def dB:Option ((Int×(List (ah×Bool))×waA)⊕(((List (ah×Bool))×waA))):=
 (ed i k m).bind fun o17=>
 if o17=true then
  (ee i k m0 m).bind fun o37=>
  some (.inl (bU (k+1),o37.1,o37.2))
 else
  some (.inr (m0,m))
def eh:Option (((List (ah×Bool))×waA)):=loop (fun(zz:Int×(List (ah×Bool))×waA)=>dB i zz.1 zz.2.1 zz.2.2) (k,m0,m)
theorem l8{y:(Int×(List (ah×Bool))×waA)⊕(((List (ah×Bool))×waA))}(h:dB i k m0 m=some y):aL Pg GE 0 (cA Ah 130543) (LQ (fun(zz:Int×(List (ah×Bool))×waA)=>cz i zz.1 zz.2.1 zz.2.2) (fun _=>.exit 6) (fj i) y) (cz i k m0 m):=by
 obtain⟨o17,bo17,h⟩:=aC h
 have p19:=fun{sc F} (r:PS sc F)=>wJ 1<|gq (mQ i k m0 m bo17)<|r
 rcases bC h with⟨c18,h⟩|⟨c18,h⟩
 ·obtain⟨o37,bo37,h⟩:=aC h
  obtain rfl:=lf h
  exact yl xd (p19<|sg 0 c18<|wJ 0<|gq (mR i k m0 m bo37)<|eF .normal (cz i (bU (k+1)) o37.1 o37.2))<|by kernel_rfl
 ·obtain rfl:=lf h
  have z:=p19<|sg 0 c18<|eF (.exit 6) (fj i (m0,m))
  exact ny xd (by intro hx;cases hx) z<|by kernel_rfl
theorem mV{x:((List (ah×Bool))×waA)}(h:eh i k m0 m=some x):aL Pg GE 0 (.loop (cA Ah 130543)) (EX (.exit 6) (fj i x)) (cz i k m0 m):=
 aL.loop (S:=fun(zz:Int×(List (ah×Bool))×waA)=>cz i zz.1 zz.2.1 zz.2.2) (ex:=(fun _=>.exit 6)) (s:=(k,m0,m)) h fun zz y hy=>l8 i zz.1 zz.2.1 zz.2.2 hy
end
section
variable(i:Int)(m0:(List (ah×Bool)))(m:waA)
def cy:ak:=cJ 109 [(8,.bptr 2 0),(9,.func (.func 36) [] [.bptr 1 0,.bptr 2 0]),(12,.int .i64 i)] [.map (dE PVal.bool m0),.cells [.mapr 0] [],.cells [sl ac m] [(0,24)]] []
def fi(o:(List (ah×Bool))×waA):ak:=cJ 109 [(8,.bptr 2 0)] [.map (dE PVal.bool o.1),.cells [.mapr 0] [],.cells [sl ac o.2] [(0,24)]] []
def dA:Option ((Int×(List (ah×Bool))×waA)⊕(((List (ah×Bool))×waA))):=
 (ec i m).bind fun o13=>
 if o13=true then
  (eh i 0 m0 m).bind fun o38=>
  some (.inl (bU (i+1),o38.1,o38.2))
 else
  some (.inr (m0,m))
def ef:Option (((List (ah×Bool))×waA)):=loop (fun(zz:Int×(List (ah×Bool))×waA)=>dA zz.1 zz.2.1 zz.2.2) (i,m0,m)
theorem l7{y:(Int×(List (ah×Bool))×waA)⊕(((List (ah×Bool))×waA))}(h:dA i m0 m=some y):aL Pg GE 0 (cA Ah 2039) (LQ (fun(zz:Int×(List (ah×Bool))×waA)=>cy zz.1 zz.2.1 zz.2.2) (fun _=>.exit 4) fi y) (cy i m0 m):=by
 obtain⟨o13,bo13,h⟩:=aC h
 have p15:=fun{sc F} (r:PS sc F)=>wJ 1<|gq (mP i m0 m bo13)<|r
 rcases bC h with⟨c14,h⟩|⟨c14,h⟩
 ·obtain⟨o38,bo38,h⟩:=aC h
  obtain rfl:=lf h
  exact yl xd (p15<|sg 0 c14<|gq (mV i 0 m0 m bo38)<|eF .normal (cy (bU (i+1)) o38.1 o38.2))<|by kernel_rfl
 ·obtain rfl:=lf h
  have z:=p15<|sg 0 c14<|eF (.exit 4) (fi (m0,m))
  exact ny xd (by intro hx;cases hx) z<|by kernel_rfl
theorem mU{x:((List (ah×Bool))×waA)}(h:ef i m0 m=some x):aL Pg GE 0 (.loop (cA Ah 2039)) (EX (.exit 4) (fi x)) (cy i m0 m):=
 aL.loop (S:=fun(zz:Int×(List (ah×Bool))×waA)=>cy zz.1 zz.2.1 zz.2.2) (ex:=(fun _=>.exit 4)) (s:=(i,m0,m)) h fun zz y hy=>l7 zz.1 zz.2.1 zz.2.2 hy
end
theorem o4{l r:List aa}(h:qW bh l=some r):aL Pg GE 0 (cA Ah 1022) (EX .normal (cJ 109 [(8,.bptr 2 0)] [.dead,.dead,.cells [sl ac r] [(0,24)]] [])) (cJ 109 [(8,.bptr 2 0)] [.dead,.dead,.cells [sl ac l] [(0,24)]] []):=
 GS (K:=[3,4]) (c:=ac) (n:=109) (nb:=3) (i:=2) cQ Ep Ht (fun x y r h=>qC h) call39 B4 rfl rfl rfl rfl rfl rfl rfl rfl (h0:=by kernel_rfl) (h00:=by kernel_rfl) h
def av(a:waA):Option (waA×Int):=
 (bj a (a.length:Int) 0).bind fun o6=>match o6 with
 |(.inl o6)=>
  some (o6.1,o6.2)
 | (.inr o6) =>
  (bX a (a.length:Int) 0 ([]:List (ah×Bool)) ([]:List aa)).bind fun o10=>
  (ef 0 o10.1 o10.2).bind fun o39=>
  if(decide ((o39.2.length:Int)>400))=true then
   some (([]:List aa),7)
  else
   (qW bh o39.2).bind fun l42=>
   some (l42,0)
theorem bY{a:waA}{r:waA×Int}(h:av a=some r):CC Pg GE 19 [sl ac a] (.tuple [sl ac r.1,.int .i64 r.2]) []:=by
 obtain⟨o6,bo6,h⟩:=aC h
 rcases o6 with o6|o6
 ·obtain rfl:=lf h
  have z:=g8 (cQ.ln a)<|gq (e:=.ret) (s1:=bv a (.inl o6)) (ik a (a.length:Int) 0 bo6)<|en (aI (rP (.tuple [sl ac o6.1,.int .i64 o6.2]))<|(aI (aw af o6.1) (aI trivial trivial)))
  exact cT xd call19 func19 (c:=Ah) rfl (aI (aw af a) trivial) z<|by kernel_rfl
 ·obtain⟨o10,bo10,h⟩:=aC h
  obtain⟨o39,bo39,h⟩:=aC h
  have p41:=fun{sc F} (r:PS sc F)=>g8 (cQ.ln a)<|gq (e:=.exit 0) (s1:=bv a (.inr o6)) (ik a (a.length:Int) 0 bo6)<|sx Hs<|ss<|sx Hq<|g8 (cQ.ln a)<|gq (mT a (a.length:Int) 0 ([]:List (ah×Bool)) ([]:List aa) bo10)<|gq (mU 0 o10.1 o10.2 bo39)<|ss<|g8 (cQ.ln o39.2)<|r
  rcases bC h with⟨c40,h⟩|⟨c40,h⟩
  ·obtain rfl:=lf h
   have z:=p41<|sg 0 c40<|en (aI (rP (.tuple [sl ac ([]:List aa),.int .i64 7]))<|(aI (aw af ([]:List aa)) (aI trivial trivial)))
   exact cT xd call19 func19 (c:=Ah) rfl (aI (aw af a) trivial) z<|by kernel_rfl
  ·obtain⟨l42,bl42,h⟩:=aC h
   obtain rfl:=lf h
   have z:=p41<|sg 0 c40<|wJ 0<|gq (o4 bl42)<|ss<|en (aI (rP (.tuple [sl ac l42,.int .i64 0]))<|(aI (aw af l42) (aI trivial trivial)))
   exact cT xd call19 func19 (c:=Ah) rfl (aI (aw af a) trivial) z<|by kernel_rfl
noncomputable def Gn:Code:=f30.body.getD .skip
def FL:List Nat:=[15]
section
variable(s1:waB)(s2:waB)(t12:Int)(t13:Int)
def eK:ak:=cJ 26 [(0,sl am s1),(1,sl am s2),(12,.int .i64 t12),(13,.int .i64 t13)] [] []
def eM(o:Unit⊕(Unit)):Exit:=match o with
 |(.inl _)=>.ret
 |(.inr _)=>.exit 0
def dD(o:Unit⊕(Unit)):ak:=match o with
 |(.inl o)=>cJ 26 [(4,.bool false)] [] []
 |(.inr o)=>cJ 26 [] [] []
def jw:Option (Int⊕(Unit⊕(Unit))):=
 if(decide (t13<t12))=true then
  (ep s1 t13).bind fun x4=>
  (ep s2 t13).bind fun x5=>
  if(!(kN x4 x5))=true then
   some (.inr (.inl ()))
  else
   some (.inl (bU (t13+1)))
 else
  some (.inr (.inr ()))
def kr:Option (Unit⊕(Unit)):=loop (fun(zz:Int)=>jw s1 s2 t12 zz) t13
theorem qD{y:Int⊕(Unit⊕(Unit))}(h:jw s1 s2 t12 t13=some y):aL Pg GE 0 (cA Gn 119) (LQ (fun(zz:Int)=>eK s1 s2 t12 zz) eM dD y) (eK s1 s2 t12 t13):=by
 rcases bC h with⟨c3,h⟩|⟨c3,h⟩
 ·obtain⟨x4,bx4,h⟩:=aC h
  obtain⟨x5,bx5,h⟩:=aC h
  have p7:=fun{sc F} (r:PS sc F)=>sg 0 c3<|Aj [0,0,3,7,0,0,48,112,255]<|sv (gp.ia (k:=.i64) bx4)<|sv (jk x4)<|sv (gp.ia (k:=.i64) bx5)<|sv (jk x5)<|sv (zF x4 x5)<|r
  rcases bC h with⟨c6,h⟩|⟨c6,h⟩
  ·obtain rfl:=lf h
   have z:=p7<|sg 0 c6<|eF (eM (.inl ())) (dD (.inl ()))
   exact ny FL (by intro hx;cases hx) z<|by kernel_rfl
  ·obtain rfl:=lf h
   exact yl FL (p7<|sg 0 c6<|eF .normal (eK s1 s2 t12 (bU (t13+1))))<|by kernel_rfl
 ·obtain rfl:=lf h
  have z:=sg 0 c3<|eF (eM (.inr ())) (dD (.inr ()))
  exact ny FL (by intro hx;cases hx) z<|by kernel_rfl
theorem lO{x:Unit⊕(Unit)}(h:kr s1 s2 t12 t13=some x):aL Pg GE 0 (.loop (cA Gn 119)) (EX (eM x) (dD x)) (eK s1 s2 t12 t13):=
 aL.loop (S:=fun(zz:Int)=>eK s1 s2 t12 zz) (ex:=eM) (s:=t13) h fun zz y hy=>qD s1 s2 t12 zz hy
end
def kU(s1:waB)(s2:waB):Option Bool:=
 if((s1.length:Int)!=(s2.length:Int))=true then
  some false
 else
  (kr s1 s2 (s1.length:Int) 0).bind fun o8=>match o8 with
  |(.inl o8)=>
   some false
  |(.inr o8)=>
   some true
theorem uE{s1:waB}{s2:waB}{r:Bool}(h:kU s1 s2=some r):CC Pg GE 30 [sl am s1,sl am s2] (.bool r) []:=by
 have p2:=fun{sc F} (r:PS sc F)=>g8 (gp.ln s1)<|g8 (gp.ln s2)<|r
 rcases bC h with⟨c1,h⟩|⟨c1,h⟩
 ·obtain rfl:=lf h
  have z:=p2<|sg 0 c1<|en (aI (rP (.bool false))<|trivial)
  exact cT FL call30 func30 (c:=Gn) rfl (aI (aw aM s1) (aI (aw aM s2) trivial)) z<|by kernel_rfl
 ·obtain⟨o8,bo8,h⟩:=aC h
  rcases o8 with o8|o8
  ·obtain rfl:=lf h
   have z:=p2<|sg 0 c1<|g8 (gp.ln s1)<|gq (e:=.ret) (s1:=dD (.inl o8)) (lO s1 s2 (s1.length:Int) 0 bo8)<|en (aI (rP (.bool false))<|trivial)
   exact cT FL call30 func30 (c:=Gn) rfl (aI (aw aM s1) (aI (aw aM s2) trivial)) z<|by kernel_rfl
  ·obtain rfl:=lf h
   have z:=p2<|sg 0 c1<|g8 (gp.ln s1)<|gq (e:=.exit 0) (s1:=dD (.inr o8)) (lO s1 s2 (s1.length:Int) 0 bo8)<|en (aI (rP (.bool true))<|trivial)
   exact cT FL call30 func30 (c:=Gn) rfl (aI (aw aM s1) (aI (aw aM s2) trivial)) z<|by kernel_rfl
noncomputable def Hb:Code:=f12.body.getD .skip
def G4:List Nat:=[]
def dH(a:aa)(a2:aa):Option Bool:=
 if(a.Caller==a2.Caller)=true then
  if(a.Callee==a2.Callee)=true then
   (kU a.Arcs a2.Arcs).bind fun r5=>
   some r5
  else
   some false
 else
  some false
theorem iC{a:aa}{a2:aa}{r:Bool}(h:dH a a2=some r):CC Pg GE 12 [.agg (ac a),.agg (ac a2)] (.bool r) []:=by
 have p2:=fun{sc F} (r:PS sc F)=>se (df a)<|se (df a2)<|sv (be a)<|sv (bI a)<|sv (be a2)<|sv (bI a2)<|r
 rcases bC h with⟨c1,h⟩|⟨c1,h⟩
 ·have p4:=fun{sc F} (r:PS sc F)=>p2<|sg 6 c1<|sv (bg a)<|sv (bJ a)<|sv (bg a2)<|sv (bJ a2)<|r
  rcases bC h with⟨c3,h⟩|⟨c3,h⟩
  ·obtain⟨r5,br5,h⟩:=aC h
   obtain rfl:=lf h
   have z:=p4<|sg 13 c3<|sv (aN a)<|sv (aO a)<|sv (aN a2)<|sv (aO a2)<|eb (uE br5)<|en (aI (rP (.bool r5))<|trivial)
   exact cT G4 call12 func12 (c:=Hb) rfl (aI (af a) (aI (af a2) trivial)) z<|by kernel_rfl
  ·obtain rfl:=lf h
   have z:=p4<|sg 13 c3<|en (aI (rP (.bool false))<|trivial)
   exact cT G4 call12 func12 (c:=Hb) rfl (aI (af a) (aI (af a2) trivial)) z<|by kernel_rfl
 ·obtain rfl:=lf h
  have z:=p2<|sg 6 c1<|en (aI (rP (.bool false))<|trivial)
  exact cT G4 call12 func12 (c:=Hb) rfl (aI (af a) (aI (af a2) trivial)) z<|by kernel_rfl
noncomputable def HJ:Code:=f42.body.getD .skip
def Hz:List Nat:=[]
def cC(a:ag):Option Bool:=
 if(a.From==a.To)=true then
  some a.Strict
 else
  some false
theorem lL{a:ag}{r:Bool}(h:cC a=some r):CC Pg GE 42 [.agg (am a)] (.bool r) []:=by
 have p2:=fun{sc F} (r:PS sc F)=>se (sK a)<|sv (fx a)<|sv (gE a)<|sv (jf a)<|sv (kc a)<|r
 rcases bC h with⟨c1,h⟩|⟨c1,h⟩
 ·obtain rfl:=lf h
  have z:=p2<|sg 6 c1<|sv (oo a)<|sv (pO a)<|en (aI (rP (.bool a.Strict))<|trivial)
  exact cT Hz call42 func42 (c:=HJ) rfl (aI (aM a) trivial) z<|by kernel_rfl
 ·obtain rfl:=lf h
  have z:=p2<|sg 6 c1<|en (aI (rP (.bool false))<|trivial)
  exact cT Hz call42 func42 (c:=HJ) rfl (aI (aM a) trivial) z<|by kernel_rfl
noncomputable def GZ:Code:=f65.body.getD .skip
def F3:List Nat:=[10,17]
section
variable(s:waB)(t7:Int)(t8:Int)
def cZ:ak:=cJ 19 [(0,sl am s),(1,.func (.func 42) [] []),(7,.int .i64 t7),(8,.int .i64 t8)] [] []
def da(o:Int⊕(Unit)):Exit:=match o with
 |(.inl _)=>.ret
 |(.inr _)=>.exit 0
def b8(o:Int⊕(Unit)):ak:=match o with
 |(.inl o)=>cJ 19 [(4,.int .i64 o)] [] []
 |(.inr o)=>cJ 19 [] [] []
def gb:Option (Int⊕(Int⊕(Unit))):=
 if(decide (t8<t7))=true then
  (ep s t8).bind fun x2=>
  (cC x2).bind fun r3=>
  if r3=true then
   some (.inr (.inl t8))
  else
   some (.inl (bU (t8+1)))
 else
  some (.inr (.inr ()))
def g7:Option (Int⊕(Unit)):=loop (fun(zz:Int)=>gb s t7 zz) t8
theorem nK{y:Int⊕(Int⊕(Unit))}(h:gb s t7 t8=some y):aL Pg GE 0 (cA GZ 55) (LQ (fun(zz:Int)=>cZ s t7 zz) da b8 y) (cZ s t7 t8):=by
 rcases bC h with⟨c1,h⟩|⟨c1,h⟩
 ·obtain⟨x2,bx2,h⟩:=aC h
  obtain⟨r3,br3,h⟩:=aC h
  have p5:=fun{sc F} (r:PS sc F)=>sg 0 c1<|sv (gp.ia (k:=.i64) bx2)<|sv (jk x2)<|eb (lL br3)<|r
  rcases bC h with⟨c4,h⟩|⟨c4,h⟩
  ·obtain rfl:=lf h
   have z:=p5<|sg 0 c4<|eF (da (.inl t8)) (b8 (.inl t8))
   exact ny F3 (by intro hx;cases hx) z<|by kernel_rfl
  ·obtain rfl:=lf h
   exact yl F3 (p5<|sg 0 c4<|eF .normal (cZ s t7 (bU (t8+1))))<|by kernel_rfl
 ·obtain rfl:=lf h
  have z:=sg 0 c1<|eF (da (.inr ())) (b8 (.inr ()))
  exact ny F3 (by intro hx;cases hx) z<|by kernel_rfl
theorem jx{x:Int⊕(Unit)}(h:g7 s t7 t8=some x):aL Pg GE 0 (.loop (cA GZ 55)) (EX (da x) (b8 x)) (cZ s t7 t8):=
 aL.loop (S:=fun(zz:Int)=>cZ s t7 zz) (ex:=da) (s:=t8) h fun zz y hy=>nK s t7 zz hy
end
def jI(s:waB):Option Int:=
 (g7 s (s.length:Int) 0).bind fun o6=>match o6 with
 |(.inl o6)=>
  some o6
 |(.inr o6)=>
  some (-1)
theorem qE{s:waB}{r:Int}(h:jI s=some r):CC Pg GE 65 [sl am s,.func (.func 42) [] []] (.int .i64 r) []:=by
 obtain⟨o6,bo6,h⟩:=aC h
 rcases o6 with o6|o6
 ·obtain rfl:=lf h
  have z:=g8 (gp.ln s)<|gq (e:=.ret) (s1:=b8 (.inl o6)) (jx s (s.length:Int) 0 bo6)<|en (aI (rP (.int .i64 o6))<|trivial)
  exact cT F3 call65 func65 (c:=GZ) rfl (aI (aw aM s) (aI (aI trivial trivial) trivial)) z<|by kernel_rfl
 ·obtain rfl:=lf h
  have z:=g8 (gp.ln s)<|gq (e:=.exit 0) (s1:=b8 (.inr o6)) (jx s (s.length:Int) 0 bo6)<|en (aI (rP (.int .i64 (-1)))<|trivial)
  exact cT F3 call65 func65 (c:=GZ) rfl (aI (aw aM s) (aI (aI trivial trivial) trivial)) z<|by kernel_rfl
noncomputable def HZ:Code:=f41.body.getD .skip
def HV:List Nat:=[]
def dL(s:waB):Option Bool:=
 (jI s).bind fun r1=>
 some (decide (r1>=0))
theorem oQ{s:waB}{r:Bool}(h:dL s=some r):CC Pg GE 41 [sl am s,.func (.func 42) [] []] (.bool r) []:=by
 obtain⟨r1,br1,h⟩:=aC h
 obtain rfl:=lf h
 have z:=eb (qE br1)<|en (aI (rP (.bool (decide (r1>=0))))<|trivial)
 exact cT HV call41 func41 (c:=HZ) rfl (aI (aw aM s) (aI (aI trivial trivial) trivial)) z<|by kernel_rfl
noncomputable def FQ:Code:=f21.body.getD .skip
def DT:List Nat:=[15]
section
variable(t16:waA)(t17:Int)(t18:Int)(m:ah)(m2:ah)(m3:waB)
def lM:ak:=cJ 40 [(7,.bptr 0 0),(16,sl ac t16),(17,.int .i64 t17),(18,.int .i64 t18)] [.cells [.str m,.str m2,sl am m3] []] []
def d6(o:Bool):ak:=cJ 40 [(7,.bptr 0 0),(16,sl ac t16),(17,.int .i64 t17),(18,.int .i64 t18),(34,.bool o)] [.cells [.str m,.str m2,sl am m3] []] []
def cb:Option Bool:=
 if(!(m==m2))=true then
  some true
 else
  (bH (⟨m,m2,m3⟩:aa) (⟨m,m2,m3⟩:aa)).bind fun r7=>
  (dH r7 (⟨m,m2,m3⟩:aa)).bind fun r8=>
  some (!r8)
theorem kT{x:Bool}(h:cb m m2 m3=some x):aL Pg GE 0 (cA FQ 31724) (EX .normal (d6 t16 t17 t18 m m2 m3 x)) (lM t16 t17 t18 m m2 m3):=by
 have p6:=fun{sc F} (r:PS sc F)=>Aj [0,1,0,4,15,31,63,63,255,63,1023,2047,4095]<|ss<|ss<|r
 rcases bC h with⟨c5,h⟩|⟨c5,h⟩
 ·obtain rfl:=lf h
  exact kj DT (p6<|sg 6 c5<|eF .normal (d6 t16 t17 t18 m m2 m3 true))<|by kernel_rfl
 ·obtain⟨r7,br7,h⟩:=aC h
  obtain⟨r8,br8,h⟩:=aC h
  obtain rfl:=lf h
  exact kj DT (p6<|sg 6 c5<|sv (bD (⟨m,m2,m3⟩:aa) [])<|sv (bD (⟨m,m2,m3⟩:aa) [])<|eb (ek br7)<|sv (bD (⟨m,m2,m3⟩:aa) [])<|eb (iC br8)<|eF .normal (d6 t16 t17 t18 m m2 m3 (!r8)))<|by kernel_rfl
end
section
variable(t16:waA)(t17:Int)(t18:Int)
def aX:ak:=cJ 40 [(16,sl ac t16),(17,.int .i64 t17),(18,.int .i64 t18)] [] []
def bG(o:Unit⊕(Unit)):Exit:=match o with
 |(.inl _)=>.ret
 |(.inr _)=>.exit 0
def aY(o:Unit⊕(Unit)):ak:=match o with
 |(.inl o)=>cJ 40 [(2,.bool false),(3,.int .i64 0)] [] []
 |(.inr o)=>cJ 40 [] [] []
def d7:Option (Int⊕(Unit⊕(Unit))):=
 if (decide (t18 < t17)) = true then
  (ep t16 t18).bind fun x4=>
  (cb x4.Caller x4.Callee x4.Arcs).bind fun o9=>
  if o9=true then
   some (.inl (bU (t18+1)))
  else
   (dL x4.Arcs).bind fun r12=>
   if(!r12)=true then
    some (.inr (.inl ()))
   else
    some (.inl (bU (t18+1)))
 else
  some (.inr (.inr ()))
def dl:Option (Unit⊕(Unit)):=loop (fun(zz:Int)=>d7 t16 t17 zz) t18
theorem kq{y:Int⊕(Unit⊕(Unit))}(h:d7 t16 t17 t18=some y):aL Pg GE 0 (cA FQ 247) (LQ (fun(zz:Int)=>aX t16 t17 zz) bG aY y) (aX t16 t17 t18):=by
 rcases bC h with⟨c3,h⟩|⟨c3,h⟩
 ·obtain⟨x4,bx4,h⟩:=aC h
  obtain⟨o9,bo9,h⟩:=aC h
  have p11:=fun{sc F} (r:PS sc F)=>sg 0 c3<|sv (cQ.ia (k:=.i64) bx4)<|sv (aU x4)<|sx qB<|sx (dG x4)<|wJ 1<|gq (kT t16 t17 t18 x4.Caller x4.Callee x4.Arcs bo9)<|r
  rcases bC h with⟨c10,h⟩|⟨c10,h⟩
  ·obtain rfl:=lf h
   have z:=p11<|sg 0 c10<|tc 0 .normal (aX t16 t17 (bU (t18+1))) rfl (eR (aI (up (aw af t16)) (aI trivial (aI trivial trivial)))) trivial
   exact iz (A:=DT) mixed z<|by kernel_rfl
  ·obtain⟨r12,br12,h⟩:=aC h
   have p14:=fun{sc F} (r:PS sc F)=>p11<|sg 0 c10<|ss<|eb (oQ br12)<|r
   rcases bC h with⟨c13,h⟩|⟨c13,h⟩
   ·obtain rfl:=lf h
    have z:=p14<|sg 0 c13<|tc 0 (bG (.inl ())) (aY (.inl ())) rfl (eR (aI trivial (aI trivial trivial))) trivial
    exact kp (A:=DT) mixed (by intro hx;cases hx) z<|by kernel_rfl
   ·obtain rfl:=lf h
    have z:=p14<|sg 0 c13<|tc 0 .normal (aX t16 t17 (bU (t18+1))) rfl (eR (aI (up (aw af t16)) (aI trivial (aI trivial trivial)))) trivial
    exact iz (A:=DT) mixed z<|by kernel_rfl
 ·obtain rfl:=lf h
  have z:=sg 0 c3<|eF (bG (.inr ())) (aY (.inr ()))
  exact ny DT (by intro hx;cases hx) z<|by kernel_rfl
theorem gm{x:Unit⊕(Unit)}(h:dl t16 t17 t18=some x):aL Pg GE 0 (.loop (cA FQ 247)) (EX (bG x) (aY x)) (aX t16 t17 t18):=
 aL.loop (S:=fun(zz:Int)=>aX t16 t17 zz) (ex:=bG) (s:=t18) h fun zz y hy=>kq t16 t17 zz hy
end
def bZ(a:waA):Option (Bool×Int):=
 (av a).bind fun r1=>
 if(r1.2 !=0)=true then
  some (false,r1.2)
 else
  (dl r1.1 (r1.1.length:Int) 0).bind fun o15=>match o15 with
  |(.inl o15)=>
   some (false,0)
  |(.inr o15)=>
   some (true,0)
theorem il{a:waA}{r:Bool×Int}(h:bZ a=some r):CC Pg GE 21 [sl ac a] (.tuple [.bool r.1,.int .i64 r.2]) []:=by
 obtain⟨r1,br1,h⟩:=aC h
 rcases bC h with⟨c2,h⟩|⟨c2,h⟩
 ·obtain rfl:=lf h
  have z:=eb (bY br1)<|sg 0 c2<|en (aI (rP (.tuple [.bool false,.int .i64 r1.2]))<|(aI trivial (aI trivial trivial)))
  exact cT DT call21 func21 (c:=FQ) rfl (aI (aw af a) trivial) z<|by kernel_rfl
 ·obtain⟨o15,bo15,h⟩:=aC h
  rcases o15 with o15|o15
  ·obtain rfl:=lf h
   have z:=eb (bY br1)<|sg 0 c2<|g8 (cQ.ln r1.1)<|gq (e:=.ret) (s1:=aY (.inl o15)) (gm r1.1 (r1.1.length:Int) 0 bo15)<|en (aI (rP (.tuple [.bool false,.int .i64 0]))<|(aI trivial (aI trivial trivial)))
   exact cT DT call21 func21 (c:=FQ) rfl (aI (aw af a) trivial) z<|by kernel_rfl
  ·obtain rfl:=lf h
   have z:=eb (bY br1)<|sg 0 c2<|g8 (cQ.ln r1.1)<|gq (e:=.exit 0) (s1:=aY (.inr o15)) (gm r1.1 (r1.1.length:Int) 0 bo15)<|en (aI (rP (.tuple [.bool true,.int .i64 0]))<|(aI trivial (aI trivial trivial)))
   exact cT DT call21 func21 (c:=FQ) rfl (aI (aw af a) trivial) z<|by kernel_rfl
noncomputable def GV:Code:=f17.body.getD .skip
def GT:List Nat:=[13,19]
def cj(a:aa)(a2:aa):Option (aa×Int):=
 (cD a).bind fun r1=>
 if(r1 !=0)=true then
  some ((⟨([]:ah),([]:ah),([]:List ag)⟩:aa),r1)
 else
  (cD a2).bind fun r4=>
  if(r4 !=0)=true then
   some ((⟨([]:ah),([]:ah),([]:List ag)⟩:aa),r4)
  else
   if(!(a.Callee==a2.Caller))=true then
    some ((⟨([]:ah),([]:ah),([]:List ag)⟩:aa),6)
   else
    (bH a a2).bind fun r9=>
    some (r9,0)
theorem jB{a:aa}{a2:aa}{r:aa×Int}(h:cj a a2=some r):CC Pg GE 17 [.agg (ac a),.agg (ac a2)] (.tuple [.agg (ac r.1),.int .i64 r.2]) []:=by
 obtain⟨r1,br1,h⟩:=aC h
 have p3:=fun{sc F} (r:PS sc F)=>se (df a)<|se (df a2)<|sx qB<|sv (aU a)<|eb (dK br1)<|r
 rcases bC h with⟨c2,h⟩|⟨c2,h⟩
 ·obtain rfl:=lf h
  have z:=p3<|sg 0 c2<|sb (pF) (pE)<|sy (db (⟨([]:ah),([]:ah),([]:List ag)⟩:aa))<|en (aI (vbi PVal.tuple (tX (jH (⟨([]:ah),([]:ah),([]:List ag)⟩:aa)) (tX (rP (.int .i64 r1)) (rfl:([]:List PVal)=[]))))<|(aI (af (⟨([]:ah),([]:ah),([]:List ag)⟩:aa)) (aI trivial trivial)))
  exact cT GT call17 func17 (c:=GV) rfl (aI (af a) (aI (af a2) trivial)) z<|by kernel_rfl
 ·obtain⟨r4,br4,h⟩:=aC h
  have p6:=fun{sc F} (r:PS sc F)=>p3<|sg 0 c2<|sv (aU a2)<|eb (dK br4)<|r
  rcases bC h with⟨c5,h⟩|⟨c5,h⟩
  ·obtain rfl:=lf h
   have z:=p6<|sg 0 c5<|sb (pF) (pE)<|sy (db (⟨([]:ah),([]:ah),([]:List ag)⟩:aa))<|en (aI (vbi PVal.tuple (tX (jH (⟨([]:ah),([]:ah),([]:List ag)⟩:aa)) (tX (rP (.int .i64 r4)) (rfl:([]:List PVal)=[]))))<|(aI (af (⟨([]:ah),([]:ah),([]:List ag)⟩:aa)) (aI trivial trivial)))
   exact cT GT call17 func17 (c:=GV) rfl (aI (af a) (aI (af a2) trivial)) z<|by kernel_rfl
  ·have p8:=fun{sc F} (r:PS sc F)=>p6<|sg 0 c5<|sv (bg a)<|sv (bJ a)<|sv (be a2)<|sv (bI a2)<|r
   rcases bC h with⟨c7,h⟩|⟨c7,h⟩
   ·obtain rfl:=lf h
    have z:=p8<|sg 0 c7<|sb (pF) (pE)<|sy (db (⟨([]:ah),([]:ah),([]:List ag)⟩:aa))<|en (aI (vbi PVal.tuple (tX (jH (⟨([]:ah),([]:ah),([]:List ag)⟩:aa)) (tX (rP (.int .i64 6)) (rfl:([]:List PVal)=[]))))<|(aI (af (⟨([]:ah),([]:ah),([]:List ag)⟩:aa)) (aI trivial trivial)))
    exact cT GT call17 func17 (c:=GV) rfl (aI (af a) (aI (af a2) trivial)) z<|by kernel_rfl
   ·obtain⟨r9,br9,h⟩:=aC h
    obtain rfl:=lf h
    have z:=p8<|sg 0 c7<|sv (aU a)<|sv (aU a2)<|eb (ek br9)<|sy (db r9)<|en (aI (vbi PVal.tuple (tX (jH r9) (tX (rP (.int .i64 0)) (rfl:([]:List PVal)=[]))))<|(aI (af r9) (aI trivial trivial)))
    exact cT GT call17 func17 (c:=GV) rfl (aI (af a) (aI (af a2) trivial)) z<|by kernel_rfl
noncomputable def CO:Code:=f16.body.getD .skip
def Cz:List Nat:=[]
def kW:Option Bool:=
 (iF ([102]:ah) ([102]:ah) ([(mF 0 [0,1,1]),(mF 0 [1,0,0])]:List kl)).bind fun r1=>
 (bZ ([r1]:List aa)).bind fun r2=>
 (iF ([102]:ah) ([102]:ah) ([(mF 0 [0,1,0]),(mF 0 [1,0,0])]:List kl)).bind fun r3=>
 (bZ ([r3]:List aa)).bind fun r4=>
 (iF ([102]:ah) ([103]:ah) ([(mF 0 [0,1,1])]:List kl)).bind fun r5=>
 (iF ([103]:ah) ([104]:ah) ([(mF 0 [1,2,0])]:List kl)).bind fun r6=>
 (cj r5 r6).bind fun r7=>
 (iF ([102]:ah) ([102]:ah) ([(mF 0 [0,1,1]),(mF 0 [1,0,0])]:List kl)).bind fun r8=>
 (av ([r8]:List aa)).bind fun r9=>
 if r2.1 = true then
  if (r2.2 == 0) = true then
   if (!r4.1) = true then
    if (r4.2 == 0) = true then
     if (r7.2 == 0) = true then
      (iF ([102]:ah) ([104]:ah) ([(mF 0 [0,2,1])]:List kl)).bind fun r20=>
      (dH r7.1 r20).bind fun r21=>
      if r21=true then
       (fQ r7.1).bind fun r24=>
       if (r24 == ([102,32,45,62,32,104,58,32,48,32,62,32,50]:ah)) = true then
        if (decide ((r9.1.length:Int) ≥ 2)) = true then
         if(r9.2==0)=true then
          (cD r7.1).bind fun r31=>
          if(r31==0)=true then
           (iF ([102]:ah) ([102]:ah) ([(mF 0 [0,6,0])]:List kl)).bind fun r34=>
           (cD r34).bind fun r35=>
           some (r35==2)
          else
           some false
         else
          some false
        else
         some false
       else
        some false
      else
       some false
     else
      some false
    else
     some false
   else
    some false
  else
   some false
 else
  some false
theorem kL {r:Bool} (h:kW = some r):CC Pg GE 16 [] (.bool r) []:=by
 obtain⟨r1,br1,h⟩:=aC h
 obtain⟨r2,br2,h⟩:=aC h
 obtain⟨r3,br3,h⟩:=aC h
 obtain⟨r4,br4,h⟩:=aC h
 obtain⟨r5,br5,h⟩:=aC h
 obtain⟨r6,br6,h⟩:=aC h
 obtain⟨r7,br7,h⟩:=aC h
 obtain⟨r8,br8,h⟩:=aC h
 obtain⟨r9,br9,h⟩:=aC h
 have p11:=fun{sc F} (r:PS sc F)=>sv (dj 0 1 1)<|sv (dj 1 0 0)<|sv (yI.mk' (v:=qh) ke ([(mF 0 [0,1,1]),(mF 0 [1,0,0])]:List kl) 2 (by kernel_rfl))<|eb (fw br1)<|sv (cQ.mk' (v:=nO) lI ([r1]:List aa) 1 (by kernel_rfl))<|eb (il br2)<|sv (dj 0 1 0)<|sv (dj 1 0 0)<|sv (yI.mk' (v:=qh) ke ([(mF 0 [0,1,0]),(mF 0 [1,0,0])]:List kl) 2 (by kernel_rfl))<|eb (fw br3)<|sv (cQ.mk' (v:=nO) lI ([r3]:List aa) 1 (by kernel_rfl))<|eb (il br4)<|sv (dj 0 1 1)<|sv (yI.mk' (v:=qh) ke ([(mF 0 [0,1,1])]:List kl) 1 (by kernel_rfl))<|eb (fw br5)<|sv (dj 1 2 0)<|sv (yI.mk' (v:=qh) ke ([(mF 0 [1,2,0])]:List kl) 1 (by kernel_rfl))<|eb (fw br6)<|eb (jB br7)<|sx qB<|sx (dG r7.1)<|sv (dj 0 1 1)<|sv (dj 1 0 0)<|sv (yI.mk' (v:=qh) ke ([(mF 0 [0,1,1]),(mF 0 [1,0,0])]:List kl) 2 (by kernel_rfl))<|eb (fw br8)<|sv (cQ.mk' (v:=nO) lI ([r8]:List aa) 1 (by kernel_rfl))<|eb (bY br9)<|Aj [0,1,3,7,15,31,63,127,255,511,1023,2047,4095,8191,16383,32767,65535,131071,262143,262143,786431,1835007,4194303,8388607,16777215,33554431,67108863,134217727,268435455,536870911,1073741823,2147483647,4294967295,8589934591,17179869183,34359738367,68719476735,137438953471,274877906943,549755813887,1099511627775,2199023255551,4398046511103,8796093022207,17592186044415,35184372088831,70368744177663,140737488355327,281474976710655,562949953421311,1125899906842623]<|r
 rcases bC h with⟨c10,h⟩|⟨c10,h⟩
 ·have p13:=fun{sc F} (r:PS sc F)=>p11<|sg 2 c10<|r
  rcases bC h with⟨c12,h⟩|⟨c12,h⟩
  ·have p15:=fun{sc F} (r:PS sc F)=>p13<|sg 6 c12<|r
   rcases bC h with⟨c14,h⟩|⟨c14,h⟩
   ·have p17:=fun{sc F} (r:PS sc F)=>p15<|sg 10 c14<|r
    rcases bC h with⟨c16,h⟩|⟨c16,h⟩
    ·have p19:=fun{sc F} (r:PS sc F)=>p17<|sg 14 c16<|r
     rcases bC h with⟨c18,h⟩|⟨c18,h⟩
     ·obtain⟨r20,br20,h⟩:=aC h
      obtain⟨r21,br21,h⟩:=aC h
      have p23:=fun{sc F} (r:PS sc F)=>p19<|sg 18 c18<|sv (bD r7.1 [])<|sv (dj 0 2 1)<|sv (yI.mk' (v:=qh) ke ([(mF 0 [0,2,1])]:List kl) 1 (by kernel_rfl))<|eb (fw br20)<|eb (iC br21)<|r
      rcases bC h with⟨c22,h⟩|⟨c22,h⟩
      ·obtain⟨r24,br24,h⟩:=aC h
       have p26:=fun{sc F} (r:PS sc F)=>p23<|sg 25 c22<|sv (bD r7.1 [])<|eb (lN br24)<|r
       rcases bC h with⟨c25,h⟩|⟨c25,h⟩
       ·have p28:=fun{sc F} (r:PS sc F)=>p26<|sg 30 c25<|g8 (cQ.ln r9.1)<|r
        rcases bC h with⟨c27,h⟩|⟨c27,h⟩
        ·have p30:=fun{sc F} (r:PS sc F)=>p28<|sg 35 c27<|r
         rcases bC h with⟨c29,h⟩|⟨c29,h⟩
         ·obtain⟨r31,br31,h⟩:=aC h
          have p33:=fun{sc F} (r:PS sc F)=>p30<|sg 39 c29<|sv (bD r7.1 [])<|eb (dK br31)<|r
          rcases bC h with⟨c32,h⟩|⟨c32,h⟩
          ·obtain⟨r34,br34,h⟩:=aC h
           obtain⟨r35,br35,h⟩:=aC h
           obtain rfl:=lf h
           have z:=p33<|sg 44 c32<|sv (dj 0 6 0)<|sv (yI.mk' (v:=qh) ke ([(mF 0 [0,6,0])]:List kl) 1 (by kernel_rfl))<|eb (fw br34)<|eb (dK br35)<|en (aI (rP (.bool (r35==2)))<|trivial)
           exact cT Cz call16 func16 (c:=CO) rfl trivial z<|by kernel_rfl
          ·obtain rfl:=lf h
           have z:=p33<|sg 44 c32<|en (aI (rP (.bool false))<|trivial)
           exact cT Cz call16 func16 (c:=CO) rfl trivial z<|by kernel_rfl
         ·obtain rfl:=lf h
          have z:=p30<|sg 39 c29<|en (aI (rP (.bool false))<|trivial)
          exact cT Cz call16 func16 (c:=CO) rfl trivial z<|by kernel_rfl
        ·obtain rfl:=lf h
         have z:=p28<|sg 35 c27<|en (aI (rP (.bool false))<|trivial)
         exact cT Cz call16 func16 (c:=CO) rfl trivial z<|by kernel_rfl
       ·obtain rfl:=lf h
        have z:=p26<|sg 30 c25<|en (aI (rP (.bool false))<|trivial)
        exact cT Cz call16 func16 (c:=CO) rfl trivial z<|by kernel_rfl
      ·obtain rfl:=lf h
       have z:=p23<|sg 25 c22<|en (aI (rP (.bool false))<|trivial)
       exact cT Cz call16 func16 (c:=CO) rfl trivial z<|by kernel_rfl
     ·obtain rfl:=lf h
      have z:=p19<|sg 18 c18<|en (aI (rP (.bool false))<|trivial)
      exact cT Cz call16 func16 (c:=CO) rfl trivial z<|by kernel_rfl
    ·obtain rfl:=lf h
     have z:=p17<|sg 14 c16<|en (aI (rP (.bool false))<|trivial)
     exact cT Cz call16 func16 (c:=CO) rfl trivial z<|by kernel_rfl
   ·obtain rfl:=lf h
    have z:=p15<|sg 10 c14<|en (aI (rP (.bool false))<|trivial)
    exact cT Cz call16 func16 (c:=CO) rfl trivial z<|by kernel_rfl
  ·obtain rfl:=lf h
   have z:=p13<|sg 6 c12<|en (aI (rP (.bool false))<|trivial)
   exact cT Cz call16 func16 (c:=CO) rfl trivial z<|by kernel_rfl
 ·obtain rfl:=lf h
  have z:=p11<|sg 2 c10<|en (aI (rP (.bool false))<|trivial)
  exact cT Cz call16 func16 (c:=CO) rfl trivial z<|by kernel_rfl
open Go
section
variable(s:ah)(t7:Int)(out:waC)(begin:Int)(t8:Int)
def iU:Option ((waC×Int×Int)⊕((waC×Int))):=
 if(decide (t8<t7))=true then
  (g5 s t8).bind fun c2=>
  if(c2==46)=true then
   (Aa s (some begin) (some t8)).bind fun s5=>
   (app out ([s5]:List ah)).bind fun l6=>
   some (.inl (l6,bU (t8+1),bU (t8+1)))
  else
   some (.inl (out,begin,bU (t8+1)))
 else
  some (.inr (out,begin))
def rG:Option ((waC×Int)):=loop (fun(zz:waC×Int×Int)=>iU s t7 zz.1 zz.2.1 zz.2.2) (out,begin,t8)
end
def sZ(s:ah):Option waC:=
 (rG s (s.length:Int) ([]:List ah) 0 0).bind fun o7=>
 (Aa s (some o7.2) none).bind fun s8=>
 (app o7.1 ([s8]:List ah)).bind fun l9=>
 some l9
def iD(c:Int):Option Bool:=
 if(decide (c>=97))=true then
  some (decide (c<=122))
 else
  some false
def rE:Option waC:=
 some ([([97,110,100]:ah),([97,115,115,117,109,101]:ah),([98,111,111,108]:ah),([98,111,117,110,100]:ah),([99,97,115,101]:ah),([99,101,108,108]:ah),([99,108,97,115,115]:ah),([100,97,116,97]:ah),([100,101,102]:ah),([100,105,118]:ah),([101,108,115,101]:ah),([101,110,100]:ah),([102,97,108,115,101]:ah),([102,111,114,97,108,108]:ah),([102,117,110]:ah),([103,101,116]:ah),([105,102]:ah),([105,110]:ah),([105,110,115,116]:ah),([105,110,116]:ah),([105,110,118,97,114,105,97,110,116]:ah),([108,101,116]:ah),([109,97,116,99,104]:ah),([109,101,97,115,117,114,101]:ah),([109,101,116,114,105,99]:ah),([109,111,100]:ah),([109,117]:ah),([110,101,119]:ah),([110,111,116]:ah),([111,102]:ah),([111,114]:ah),([113,117,97,108]:ah),([114,101,102,108,101,99,116]:ah),([115,101,116]:ah),([116,104,101,110]:ah),([116,114,117,101]:ah),([117,115,101]:ah),([118]:ah),([118,97,108]:ah),([116,97,103]:ah),([119,104,101,114,101]:ah),([119,105,116,104]:ah)]:List ah)
section
variable(v:waC)(s:ah)(t7:Int)(t8:Int)
def jK:Option (Int⊕(Int⊕(Unit))):=
 if(decide (t8<t7))=true then
  (ep v t8).bind fun x2=>
  if(x2==s)=true then
   some (.inr (.inl t8))
  else
   some (.inl (bU (t8+1)))
 else
  some (.inr (.inr ()))
def tU:Option (Int⊕(Unit)):=loop (fun(zz:Int)=>jK v s t7 zz) t8
end
def uS(a:waC)(s:ah):Option Int:=
 (tU a s (a.length:Int) 0).bind fun o5=>match o5 with
 |(.inl o5)=>
  some o5
 |(.inr o5)=>
  some (-1)
def pr(s:ah):Option Bool:=
 rE.bind fun r1=>
 (uS r1 s).bind fun r2=>
 some (decide (r2>=0))
def kV(c:Int):Option Bool:=
 if(decide (c>=48))=true then
  some (decide (c<=57))
 else
  some false
section
variable(s:ah)
def nQ:Option Bool:=
 if(decide ((s.length:Int)<1))=true then
  some true
 else
  if(decide ((s.length:Int)>24))=true then
   some true
  else
   (g5 s 0).bind fun c4=>
   (iD c4).bind fun r5=>
   if(!r5)=true then
    some true
   else
    (pr s).bind fun r8=>
    some r8
end
section
variable(s:ah)(i:Int)(t23:Int)
def nR:Option Bool:=
 (g5 s i).bind fun c13=>
 (iD c13).bind fun r14=>
 if(!r14)=true then
  (g5 s i).bind fun c17=>
  (kV c17).bind fun r18=>
  if(!r18)=true then
   (g5 s i).bind fun c21=>
   some (c21 !=95)
  else
   some false
 else
  some false
end
section
variable(s:ah)(t23:Int)(t24:Int)
def iS:Option (Int⊕(Unit⊕(Unit))):=
 if(decide (t24<t23))=true then
  (nR s t24).bind fun o22=>
  if o22=true then
   some (.inr (.inl ()))
  else
   some (.inl (bU (t24+1)))
 else
  some (.inr (.inr ()))
def nS:Option (Unit⊕(Unit)):=loop (fun(zz:Int)=>iS s t23 zz) t24
end
def sX(s:ah):Option Int:=
 (nQ s).bind fun o9=>
 if o9=true then
  some 3
 else
  (nS s (s.length:Int) 0).bind fun o25=>match o25 with
  |(.inl o25)=>
   some 3
  |(.inr o25)=>
   some 0
def j1(c:Int):Option Bool:=
 if(decide (c>=65))=true then
  some (decide (c<=90))
 else
  some false
section
variable(s:ah)
def nT:Option Bool:=
 if(decide ((s.length:Int)<1))=true then
  some true
 else
  if(decide ((s.length:Int)>24))=true then
   some true
  else
   (g5 s 0).bind fun c4=>
   (j1 c4).bind fun r5=>
   if(!r5)=true then
    some true
   else
    if(s==([73,110,116]:ah))=true then
     some true
    else
     if(s==([66,111,111,108]:ah))=true then
      some true
     else
      if(s==([67,101,108,108]:ah))=true then
       some true
      else
       some (s==([70,117,110]:ah))
end
section
variable(s:ah)(i:Int)(t35:Int)
def nU:Option Bool:=
 (g5 s i).bind fun c18=>
 (iD c18).bind fun r19=>
 if(!r19)=true then
  (g5 s i).bind fun c22=>
  (j1 c22).bind fun r23=>
  if(!r23)=true then
   (g5 s i).bind fun c26=>
   (kV c26).bind fun r27=>
   some (!r27)
  else
   some false
 else
  some false
end
section
variable(s:ah)(t35:Int)(t36:Int)
def iT:Option (Int⊕(Unit⊕(Unit))):=
 if(decide (t36<t35))=true then
  (nU s t36).bind fun o28=>
  if o28=true then
   some (.inr (.inl ()))
  else
   some (.inl (bU (t36+1)))
 else
  some (.inr (.inr ()))
def nV:Option (Unit⊕(Unit)):=loop (fun(zz:Int)=>iT s t35 zz) t36
end
def sY(s:ah):Option Int:=
 (nT s).bind fun o14=>
 if o14=true then
  some 3
 else
  (nV s (s.length:Int) 0).bind fun o31=>match o31 with
  |(.inl o31)=>
   some 3
  |(.inr o31)=>
   some 0
section
variable(p:ah)
def tV:Option Bool:=
 if(decide ((p.length:Int)<1))=true then
  some true
 else
  some (decide ((p.length:Int)>24))
end
section
variable(p:ah)(plain:Bool)(word:Bool)(i:Int)(t18:Int)
def pu:Option Bool:=
 if plain=true then
  (g5 p i).bind fun c9=>
  (iD c9).bind fun r10=>
  if r10=true then
   some true
  else
   (g5 p i).bind fun c13=>
   (j1 c13).bind fun r14=>
   if r14=true then
    some true
   else
    (g5 p i).bind fun c17=>
    (kV c17).bind fun r18=>
    some r18
 else
  some false
end
section
variable(p:ah)(t18:Int)(plain:Bool)(word:Bool)(t19:Int)
def jL:Option ((Bool×Bool×Int)⊕((Bool×Bool))):=
 if (decide (t19 < t18)) = true then
  (pu p plain t19).bind fun o19=>
  if word=true then
   (g5 p t19).bind fun c22=>
   (iD c22).bind fun r23=>
   if r23=true then
    some (.inl (o19,true,bU (t19+1)))
   else
    (g5 p t19).bind fun c26=>
    (kV c26).bind fun r27=>
    if r27=true then
     some (.inl (o19,true,bU (t19+1)))
    else
     (g5 p t19).bind fun c30=>
     some (.inl (o19,c30==95,bU (t19+1)))
  else
   some (.inl (o19,false,bU (t19+1)))
 else
  some (.inr (plain,word))
def pw:Option ((Bool×Bool)):=loop (fun(zz:Bool×Bool×Int)=>jL p t18 zz.1 zz.2.1 zz.2.2) (plain,word,t19)
end
def uU(p:ah):Option Bool:=
 (tV p).bind fun o2=>
 if o2=true then
  some false
 else
  (g5 p 0).bind fun c5=>
  (iD c5).bind fun r6=>
  (pw p (p.length:Int) true r6 0).bind fun o31=>
  if o31.1=true then
   some true
  else
   some o31.2
section
variable(v:waC)
def pq:Option Bool:=
 (ep v 0).bind fun x3=>
 (sX x3).bind fun r4=>
 if (r4 != 0) = true then
  (ep v 0).bind fun x7=>
  (sY x7).bind fun r8=>
  if(r8 !=0)=true then
   (ep v 0).bind fun x11=>
   if(!(x11==([118]:ah)))=true then
    some true
   else
    some ((v.length:Int)==1)
  else
   some false
 else
  some false
end
section
variable(t35:waC)(t36:Int)(t37:Int)
def jJ:Option (Int⊕(Unit⊕(Unit))):=
 if(decide (t37<t36))=true then
  (ep t35 t37).bind fun x19=>
  (uU x19).bind fun r20=>
  if(!r20)=true then
   some (.inr (.inl ()))
  else
   some (.inl (bU (t37+1)))
 else
  some (.inr (.inr ()))
def tS:Option (Unit⊕(Unit)):=loop (fun(zz:Int)=>jJ t35 t36 zz) t37
end
def rD(s:ah):Option Int:=
 if(decide ((s.length:Int)>120))=true then
  some 3
 else
  (sZ s).bind fun r2=>
  (pq r2).bind fun o14=>
  if o14=true then
   some 3
  else
   (Aa r2 (some 1) none).bind fun l17=>
   (tS l17 (l17.length:Int) 0).bind fun o23=>match o23 with
   |(.inl o23)=>
    some 3
   |(.inr o23)=>
    some 0
def lr(a:ag)(a2:ag):Option Bool:=
 if(decide (a.From<a2.From))=true then
  some true
 else
  if(a.From==a2.From)=true then
   some (decide (a.To<a2.To))
  else
   some false
section
variable(g:aa)
def nW:Option Bool:=
 (rD g.Caller).bind fun r1=>
 if(r1 !=0)=true then
  some true
 else
  (rD g.Callee).bind fun r4=>
  some (r4 !=0)
end
section
variable(g:aa)(i:Int)(t18:waB)(t19:Int)(m:Int)(m2:Int)(m3:Bool)
def nX:Option Bool:=
 if(decide (m<0))=true then
  some true
 else
  if(decide (m>=6))=true then
   some true
  else
   if(decide (m2<0))=true then
    some true
   else
    some (decide (m2>=6))
end
section
variable(g:aa)(i:Int)(t18:waB)(t19:Int)(t46:waB)(t47:Int)(t48:Int)(m:Int)(m2:Int)(m3:Bool)(m4:Int)(m5:Int)(m6:Bool)
def kE:Option Bool:=
 if(m==m4)=true then
  some (m2==m5)
 else
  some false
end
section
variable(g:aa)(i:Int)(t18:waB)(t19:Int)(t46:waB)(t47:Int)(m:Int)(m2:Int)(m3:Bool)(t48:Int)
def u3:Option (Int⊕(Unit⊕(Unit))):=
 if(decide (t48<t47))=true then
  (ep t46 t48).bind fun x20=>
  (kE m m2 x20.From x20.To).bind fun o23=>
  if o23=true then
   some (.inr (.inl ()))
  else
   some (.inl (bU (t48+1)))
 else
  some (.inr (.inr ()))
def nZ:Option (Unit⊕(Unit)):=loop (fun(zz:Int)=>u3 t46 t47 m m2 zz) t48
end
section
variable(g:aa)(i:Int)(t18:waB)(t19:Int)(m:Int)(m2:Int)(m3:Bool)
def nY:Option Bool:=
 if(decide (i>0))=true then
  (ep g.Arcs (bU (i - 1))).bind fun x28=>
  (lr (⟨m,m2,m3⟩:ag) x28).bind fun r29=>
  some r29
 else
  some false
end
section
variable(g:aa)(t18:waB)(t19:Int)(t20:Int)
def iX:Option (Int⊕(Int⊕(Unit))):=
 if (decide (t20 < t19)) = true then
  (ep t18 t20).bind fun x9=>
  (nX x9.From x9.To).bind fun o15=>
  if o15=true then
   some (.inr (.inl 2))
  else
   (Aa g.Arcs none (some t20)).bind fun l18=>
   (nZ l18 (l18.length:Int) x9.From x9.To 0).bind fun o26=>match o26 with
   |(.inl o26)=>
    some (.inr (.inl 4))
   | (.inr o26) =>
    (nY g t20 x9.From x9.To x9.Strict).bind fun o30=>
    if o30=true then
     some (.inr (.inl 9))
    else
     some (.inl (bU (t20+1)))
 else
  some (.inr (.inr ()))
def iW:Option (Int⊕(Unit)):=loop (fun(zz:Int)=>iX g t18 t19 zz) t20
end
def na(g:aa):Option Int:=
 (nW g).bind fun o5=>
 if o5=true then
  some 3
 else
  (iW g g.Arcs (g.Arcs.length:Int) 0).bind fun o33=>match o33 with
  |(.inl o33)=>
   some o33
  |(.inr o33)=>
   some 0
noncomputable def FP:Code:=f13.body.getD .skip
def DS:List Nat:=[32]
section
variable(v:aa)(v2:aa)
def wL:ak:=cJ 45 [(2,.eptr (ac v)),(3,.eptr (ac v2))] [.dead,.dead] []
def jM(o:Bool):ak:=cJ 45 [(2,.eptr (ac v)),(3,.eptr (ac v2)),(26,.bool o)] [.dead,.dead] []
def py:Option Bool:=
 if(!(v.Caller==v2.Caller))=true then
  some true
 else
  if(!(v.Callee==v2.Callee))=true then
   some true
  else
   some ((v.Arcs.length:Int)!=(v2.Arcs.length:Int))
theorem uZ{x:Bool}(h:py v v2=some x):aL Pg GE 0 (cA FP 12) (EX .normal (jM v v2 x)) (wL v v2):=by
 have p2:=fun{sc F} (r:PS sc F)=>sv (be v)<|sv (bI v)<|sv (be v2)<|sv (bI v2)<|r
 rcases bC h with⟨c1,h⟩|⟨c1,h⟩
 ·obtain rfl:=lf h
  exact kj DS (p2<|sg 6 c1<|eF .normal (jM v v2 true))<|by kernel_rfl
 ·have p4:=fun{sc F} (r:PS sc F)=>p2<|sg 6 c1<|sv (bg v)<|sv (bJ v)<|sv (bg v2)<|sv (bJ v2)<|r
  rcases bC h with⟨c3,h⟩|⟨c3,h⟩
  ·obtain rfl:=lf h
   exact kj DS (p4<|sg 13 c3<|eF .normal (jM v v2 true))<|by kernel_rfl
  ·obtain rfl:=lf h
   exact kj DS (p4<|sg 13 c3<|sv (aN v)<|sv (aO v)<|g8 (gp.ln v.Arcs)<|sv (aN v2)<|sv (aO v2)<|g8 (gp.ln v2.Arcs)<|eF .normal (jM v v2 ((v.Arcs.length:Int)!=(v2.Arcs.length:Int))))<|by kernel_rfl
end
section
variable(v:aa)(v2:aa)(t29:Int)(t30:Int)
def g9:ak:=cJ 45 [(2,.eptr (ac v)),(3,.eptr (ac v2)),(29,.int .i64 t29),(30,.int .i64 t30)] [.dead,.dead] []
def hU(o:Unit⊕(Unit)):Exit:=match o with
 |(.inl _)=>.ret
 |(.inr _)=>.exit 0
def fS(o:Unit⊕(Unit)):ak:=match o with
 |(.inl o)=>cJ 45 [(4,.bool false)] [.dead,.dead] []
 |(.inr o)=>cJ 45 [] [.dead,.dead] []
def mD:Option (Int⊕(Unit⊕(Unit))):=
 if(decide (t30<t29))=true then
  (ep v.Arcs t30).bind fun x9=>
  (ep v2.Arcs t30).bind fun x10=>
  if(!(kN x9 x10))=true then
   some (.inr (.inl ()))
  else
   some (.inl (bU (t30+1)))
 else
  some (.inr (.inr ()))
def pz:Option (Unit⊕(Unit)):=loop (fun(zz:Int)=>mD v v2 t29 zz) t30
theorem ut{y:Int⊕(Unit⊕(Unit))}(h:mD v v2 t29 t30=some y):aL Pg GE 0 (cA FP 119) (LQ (fun(zz:Int)=>g9 v v2 t29 zz) hU fS y) (g9 v v2 t29 t30):=by
 rcases bC h with⟨c8,h⟩|⟨c8,h⟩
 ·obtain⟨x9,bx9,h⟩:=aC h
  obtain⟨x10,bx10,h⟩:=aC h
  have p12:=fun{sc F} (r:PS sc F)=>sg 0 c8<|Aj [0,1,0,7,15,0,32,0,224,480,1023]<|sv (aN v)<|sv (aO v)<|sv (gp.ia (k:=.i64) bx9)<|sv (jk x9)<|sv (aN v2)<|sv (aO v2)<|sv (gp.ia (k:=.i64) bx10)<|sv (jk x10)<|sv (zF x9 x10)<|r
  rcases bC h with⟨c11,h⟩|⟨c11,h⟩
  ·obtain rfl:=lf h
   have z:=p12<|sg 0 c11<|eF (hU (.inl ())) (fS (.inl ()))
   exact ny DS (by intro hx;cases hx) z<|by kernel_rfl
  ·obtain rfl:=lf h
   exact yl DS (p12<|sg 0 c11<|eF .normal (g9 v v2 t29 (bU (t30+1))))<|by kernel_rfl
 ·obtain rfl:=lf h
  have z:=sg 0 c8<|eF (hU (.inr ())) (fS (.inr ()))
  exact ny DS (by intro hx;cases hx) z<|by kernel_rfl
theorem pA{x:Unit⊕(Unit)}(h:pz v v2 t29 t30=some x):aL Pg GE 0 (.loop (cA FP 119)) (EX (hU x) (fS x)) (g9 v v2 t29 t30):=
 aL.loop (S:=fun(zz:Int)=>g9 v v2 t29 zz) (ex:=hU) (s:=t30) h fun zz y hy=>ut v v2 t29 zz hy
end
def lm(a:aa)(a2:aa):Option Bool:=
 (py a a2).bind fun o5=>
 if o5=true then
  some false
 else
  (pz a a2 (a.Arcs.length:Int) 0).bind fun o13=>match o13 with
  |(.inl o13)=>
   some false
  |(.inr o13)=>
   some true
theorem y1{a:aa}{a2:aa}{r:Bool}(h:lm a a2=some r):CC Pg GE 13 [.agg (ac a),.agg (ac a2)] (.bool r) []:=by
 obtain⟨o5,bo5,h⟩:=aC h
 have p7:=fun{sc F} (r:PS sc F)=>se (df a)<|se (df a2)<|wJ 1<|gq (uZ a a2 bo5)<|r
 rcases bC h with⟨c6,h⟩|⟨c6,h⟩
 ·obtain rfl:=lf h
  have z:=p7<|sg 0 c6<|en (aI (rP (.bool false))<|trivial)
  exact cT DS call13 func13 (c:=FP) rfl (aI (af a) (aI (af a2) trivial)) z<|by kernel_rfl
 ·obtain⟨o13,bo13,h⟩:=aC h
  rcases o13 with o13|o13
  ·obtain rfl:=lf h
   have z:=p7<|sg 0 c6<|sv (aN a)<|sv (aO a)<|g8 (gp.ln a.Arcs)<|gq (e:=.ret) (s1:=fS (.inl o13)) (pA a a2 (a.Arcs.length:Int) 0 bo13)<|en (aI (rP (.bool false))<|trivial)
   exact cT DS call13 func13 (c:=FP) rfl (aI (af a) (aI (af a2) trivial)) z<|by kernel_rfl
  ·obtain rfl:=lf h
   have z:=p7<|sg 0 c6<|sv (aN a)<|sv (aO a)<|g8 (gp.ln a.Arcs)<|gq (e:=.exit 0) (s1:=fS (.inr o13)) (pA a a2 (a.Arcs.length:Int) 0 bo13)<|en (aI (rP (.bool true))<|trivial)
   exact cT DS call13 func13 (c:=FP) rfl (aI (af a) (aI (af a2) trivial)) z<|by kernel_rfl
noncomputable def b3:Code:=Tryd.f3.body.getD .skip
section
variable(v:Int)(to:Int)(v2:aa)(found:Bool)(t20:waB)(t21:Int)(t22:Int)(t27:waB)(t28:Int)(t29:Int)(m:Bool)(m2:Int)(m3:Int)(m4:Bool)(m5:Int)(m6:Int)(m7:Bool)
def n7:Option Bool:=
 if(m2==v)=true then
  if(m3==m5)=true then
   some (m6==to)
  else
   some false
 else
  some false
end
section
variable(v:Int)(to:Int)(v2:aa)(t20:waB)(t21:Int)(t22:Int)(t27:waB)(t28:Int)(m2:Int)(m3:Int)(m4:Bool)(found:Bool)(t29:Int)(m:Bool)
def rI:Option ((Bool×Int×Bool)⊕((Bool×Bool))):=
 if (decide (t29 < t28)) = true then
  (ep t27 t29).bind fun x4=>
  (n7 v to m2 m3 x4.From x4.To).bind fun o8=>
  if o8=true then
   if m=true then
    some (.inl (true,bU (t29+1),true))
   else
    if m4=true then
     some (.inl (true,bU (t29+1),true))
    else
     some (.inl (true,bU (t29+1),x4.Strict))
  else
   some (.inl (found,bU (t29+1),m))
 else
  some (.inr (found,m))
def n8:Option ((Bool×Bool)):=loop (fun(zz:Bool×Int×Bool)=>rI v to t27 t28 m2 m3 m4 zz.1 zz.2.1 zz.2.2) (found,t29,m)
end
section
variable(v:Int)(to:Int)(v2:aa)(t20:waB)(t21:Int)(found:Bool)(t22:Int)(m:Bool)
def rH:Option ((Bool×Int×Bool)⊕((Bool×Bool))):=
 if(decide (t22<t21))=true then
  (ep t20 t22).bind fun x2=>
  (n8 v to v2.Arcs (v2.Arcs.length:Int) x2.From x2.To x2.Strict found 0 m).bind fun o15=>
  some (.inl (o15.1,bU (t22+1),o15.2))
 else
  some (.inr (found,m))
def u4:Option ((Bool×Bool)):=loop (fun(zz:Bool×Int×Bool)=>rH v to v2 t20 t21 zz.1 zz.2.1 zz.2.2) (found,t22,m)
end
def xO(a:aa)(a2:aa)(a3:Int)(to:Int):Option (ag×Bool):=
 (u4 a3 to a2 a.Arcs (a.Arcs.length:Int) false 0 false).bind fun o16=>
 some ((⟨a3,to,o16.2⟩:ag),o16.1)
section
variable(v:aa)(v2:aa)(v3:Int)(m:waB)(m2:ah)(m3:ah)(t39:Int)(m4:waB)
def gS:Option ((Int×waB)⊕(waB)):=
 if(decide (t39<6))=true then
  (xO v v2 v3 t39).bind fun r11=>
  if r11.2=true then
   (app m4 ([r11.1]:List ag)).bind fun l14=>
   some (.inl (bU (t39+1),l14))
  else
   some (.inl (bU (t39+1),m4))
 else
  some (.inr m4)
def uX:Option waB:=loop (fun(zz:Int×waB)=>gS v v2 v3 zz.1 zz.2) (t39,m4)
end
section
variable(v:aa)(v2:aa)(m:waB)(m2:ah)(m3:ah)(t36:Int)(m4:waB)
def gR:Option ((Int×waB)⊕(waB)):=
 if(decide (t36<6))=true then
  (uX v v2 t36 0 m4).bind fun o15=>
  some (.inl (bU (t36+1),o15))
 else
  some (.inr m4)
def px:Option waB:=loop (fun(zz:Int×waB)=>gR v v2 zz.1 zz.2) (t36,m4)
end
def iE(a:aa)(a2:aa):Option (aa×Int):=
 (na a).bind fun r1=>
 if(r1 !=0)=true then
  some ((⟨([]:ah),([]:ah),([]:List ag)⟩:aa),r1)
 else
  (na a2).bind fun r4=>
  if(r4 !=0)=true then
   some ((⟨([]:ah),([]:ah),([]:List ag)⟩:aa),r4)
  else
   if(!(a.Callee==a2.Caller))=true then
    some ((⟨([]:ah),([]:ah),([]:List ag)⟩:aa),6)
   else
    (px a a2 0 ([]:List ag)).bind fun o16=>
    some ((⟨a.Caller,a2.Callee,o16⟩:aa),0)
section
variable(v:aa)(v2:aa)(t30:Int)(t31:Int)(m:Int)(m2:Int)(m3:Bool)(m4:Int)(m5:Int)(m6:Bool)
def pC:Option Bool:=
 (lr (⟨m,m2,m3⟩:ag) (⟨m4,m5,m6⟩:ag)).bind fun r10=>
 if r10=true then
  some true
 else
  (lr (⟨m4,m5,m6⟩:ag) (⟨m,m2,m3⟩:ag)).bind fun r13=>
  some r13
end
section
variable(v:aa)(v2:aa)(t30:Int)(t31:Int)
def h9:Option (Int⊕(Bool⊕(Unit))):=
 if (decide (t31 < t30)) = true then
  if(decide (t31>=(v2.Arcs.length:Int)))=true then
   some (.inr (.inl false))
  else
   (ep v.Arcs t31).bind fun x8=>
   (ep v2.Arcs t31).bind fun x9=>
   (pC x8.From x8.To x8.Strict x9.From x9.To x9.Strict).bind fun o14=>
   if o14=true then
    (lr x8 x9).bind fun r17=>
    some (.inr (.inl r17))
   else
    if(!(x8.Strict==x9.Strict))=true then
     some (.inr (.inl (!x8.Strict)))
    else
     some (.inl (bU (t31+1)))
 else
  some (.inr (.inr ()))
def gu:Option (Bool⊕(Unit)):=loop (fun(zz:Int)=>h9 v v2 t30 zz) t31
end
def u5(a:aa)(a2:aa):Option Bool:=
 if(!(a.Caller==a2.Caller))=true then
  some (Op.bytesLess a.Caller a2.Caller)
 else
  if(!(a.Callee==a2.Callee))=true then
   some (Op.bytesLess a.Callee a2.Callee)
  else
   (gu a a2 (a.Arcs.length:Int) 0).bind fun o20=>match o20 with
   |(.inl o20)=>
    some o20
   |(.inr o20)=>
    some (decide ((a.Arcs.length:Int)<(a2.Arcs.length:Int)))
section
variable(v:waA)(g:aa)(i:Int)
def ls:Option Bool:=
 if(decide (i<(v.length:Int)))=true then
  (ep v i).bind fun x3=>
  (u5 x3 g).bind fun r4=>
  some r4
 else
  some false
end
section
variable(v:waA)(g:aa)(i:Int)
def kG:Option (Int⊕(Int)):=
 (ls v g i).bind fun o5=>
 if o5=true then
  some (.inl (bU (i+1)))
 else
  some (.inr i)
def jE:Option Int:=loop (fun(zz:Int)=>kG v g zz) i
end
section
variable(v:waA)(g:aa)(i:Int)
def qY:Option Bool:=
 if(decide (i<(v.length:Int)))=true then
  (ep v i).bind fun x11=>
  (lm x11 g).bind fun r12=>
  some r12
 else
  some false
end
def uF(a:waA)(g:aa):Option waA:=
 (jE a g 0).bind fun o8=>
 (qY a g o8).bind fun o13=>
 if o13=true then
  some a
 else
  (Aa a none (some o8)).bind fun l16=>
  (app ([]:List aa) l16).bind fun l17=>
  (app l17 ([g]:List aa)).bind fun l18=>
  (Aa a (some o8) none).bind fun l19=>
  (app l18 l19).bind fun l20=>
  some l20
section
variable(t18:waA)(t19:Int)(out:waA)(t20:Int)
def eX:Option ((waA×Int)⊕((waA×Int)⊕(waA))):=
 if(decide (t20<t19))=true then
  (ep t18 t20).bind fun x2=>
  (na x2).bind fun r3=>
  if(r3 !=0)=true then
   some (.inr (.inl (([]:List aa),r3)))
  else
   (uF out x2).bind fun r6=>
   some (.inl (r6,bU (t20+1)))
 else
  some (.inr (.inr out))
def dm:Option ((waA×Int)⊕(waA)):=loop (fun(zz:waA×Int)=>eX t18 t19 zz.1 zz.2) (out,t20)
end
section
variable(out:waA)(todo:waA)(first:waA)
def li:Option Bool:=
 if(decide ((todo.length:Int)>0))=true then
  some (decide ((out.length:Int)<=400))
 else
  some false
end
section
variable(out:waA)(first:waA)(v:waA)(e:Int)(t43:waA)(t44:Int)(t45:Int)(t50:Int)(t51:Int)(m:ah)(m2:ah)(m3:waB)(m4:ah)(m5:ah)(m6:waB)(m7:ah)(m8:ah)(m9:waB)
def gr:Option Bool:=
 if(e !=0)=true then
  some true
 else
  some (decide ((out.length:Int)>400))
end
section
variable(first:waA)(t43:waA)(t44:Int)(t45:Int)(t50:Int)(m:ah)(m2:ah)(m3:waB)(out:waA)(v:waA)(t51:Int)
def gQ:Option ((waA×waA×Int)⊕((waA×waA))):=
 if (decide (t51 < t50)) = true then
  (ep first t51).bind fun x15=>
  (iE (⟨m,m2,m3⟩:aa) x15).bind fun r16=>
  (gr out r16.2).bind fun o18=>
  if o18=true then
   some (.inl (out,v,bU (t51+1)))
  else
   (uF out r16.1).bind fun r21=>
   if(decide ((r21.length:Int)>(out.length:Int)))=true then
    (app v ([r16.1]:List aa)).bind fun l24=>
    some (.inl (r21,l24,bU (t51+1)))
   else
    some (.inl (r21,v,bU (t51+1)))
 else
  some (.inr (out,v))
def ll:Option ((waA×waA)):=loop (fun(zz:waA×waA×Int)=>gQ first t50 m m2 m3 zz.1 zz.2.1 zz.2.2) (out,v,t51)
end
section
variable(first:waA)(t43:waA)(t44:Int)(out:waA)(v:waA)(t45:Int)
def gP:Option ((waA×waA×Int)⊕((waA×waA))):=
 if(decide (t45<t44))=true then
  (ep t43 t45).bind fun x13=>
  (ll first (first.length:Int) x13.Caller x13.Callee x13.Arcs out v 0).bind fun o25=>
  some (.inl (o25.1,o25.2,bU (t45+1)))
 else
  some (.inr (out,v))
def lk:Option ((waA×waA)):=loop (fun(zz:waA×waA×Int)=>gP first t43 t44 zz.1 zz.2.1 zz.2.2) (out,v,t45)
end
section
variable(first:waA)(out:waA)(todo:waA)
def jD:Option ((waA×waA)⊕(waA)):=
 (li out todo).bind fun o9=>
 if o9=true then
  (lk first todo (todo.length:Int) out ([]:List aa) 0).bind fun o26=>
  some (.inl (o26.1,o26.2))
 else
  some (.inr out)
def lj:Option waA:=loop (fun(zz:waA×waA)=>jD first zz.1 zz.2) (out,todo)
end
def eG(a:waA):Option (waA×Int):=
 (dm a (a.length:Int) ([]:List aa) 0).bind fun o7=>match o7 with
 |(.inl o7)=>
  some (o7.1,o7.2)
 | (.inr o7) =>
  (lj o7 o7 o7).bind fun o27=>
  if(decide ((o27.length:Int)>400))=true then
   some (([]:List aa),7)
  else
   some (o27,0)
section
variable(t6:waB)(t7:Int)(t8:Int)(m:Int)(m2:Int)(m3:Bool)
def kF:Option Bool:=
 if(m==m2)=true then
  some m3
 else
  some false
end
section
variable(t6:waB)(t7:Int)(t8:Int)
def pB:Option (Int⊕(Unit⊕(Unit))):=
 if(decide (t8<t7))=true then
  (ep t6 t8).bind fun x2=>
  (kF x2.From x2.To x2.Strict).bind fun o5=>
  if o5=true then
   some (.inr (.inl ()))
  else
   some (.inl (bU (t8+1)))
 else
  some (.inr (.inr ()))
def rJ:Option (Unit⊕(Unit)):=loop (fun(zz:Int)=>pB t6 t7 zz) t8
end
def qi(g:aa):Option Bool:=
 (rJ g.Arcs (g.Arcs.length:Int) 0).bind fun o8=>match o8 with
 |(.inl o8)=>
  some true
 |(.inr o8)=>
  some false
section
variable(f:Int)(t18:waA)(t19:Int)(t20:Int)(m:ah)(m2:ah)(m3:waB)(m4:ah)(m5:ah)(m6:waB)
def gd:Option Bool:=
 if(f==0)=true then
  (lm (⟨m4,m5,m6⟩:aa) (⟨m,m2,m3⟩:aa)).bind fun r7=>
  if r7=true then
   (qi (⟨m,m2,m3⟩:aa)).bind fun r10=>
   some (!r10)
  else
   some false
 else
  some false
end
section
variable(t18:waA)(t19:Int)(t20:Int)
def ks:Option (Int⊕(Unit⊕(Unit))):=
 if(decide (t20<t19))=true then
  (ep t18 t20).bind fun x4=>
  (iE x4 x4).bind fun r5=>
  (gd r5.2 x4.Caller x4.Callee x4.Arcs r5.1.Caller r5.1.Callee r5.1.Arcs).bind fun o11=>
  if o11=true then
   some (.inr (.inl ()))
  else
   some (.inl (bU (t20+1)))
 else
  some (.inr (.inr ()))
def iV:Option (Unit⊕(Unit)):=loop (fun(zz:Int)=>ks t18 t19 zz) t20
end
def lq(a:waA):Option (Bool×Int):=
 (eG a).bind fun r1=>
 if(r1.2 !=0)=true then
  some (false,r1.2)
 else
  (iV r1.1 (r1.1.length:Int) 0).bind fun o14=>match o14 with
  |(.inl o14)=>
   some (false,0)
  |(.inr o14)=>
   some (true,0)
end Go.Proofs.YtoficachfgggjaaDoor
