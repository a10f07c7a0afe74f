/- PROVED: a part of the proof. Conditions: none. -/
import Derived.Test.YtoficachfgggjaaDoorPkB10
import Derived.Test.YtoficachfgggjaaDoorPkB8
import Derived.Test.YtoficachfgggjaaDoorPkB7
noncomputable section
namespace Go.Proofs.YtoficachfgggjaaDoor
open Go Go.Proofs.Tryd
set_option linter.unusedVariables false
set_option maxRecDepth 100000
noncomputable def uK:Code:=f19.body.getD .skip
def rG:List Nat:=[24]
section
variable(v:waB)(t15:Int)(t16:Int)
def bH:aj:=cE 109 [(0,sl ae v),(14,sl ae v),(15,.int .i64 t15),(16,.int .i64 t16)] [] []
def bI(o:(waB×Int)⊕(Unit)):Exit:=match o with
 |(.inl _)=>.ret
 |(.inr _)=>.exit 0
def aY(o:(waB×Int)⊕(Unit)):aj:=match o with
 |(.inl o)=>cE 109 [(2,sl ae o.1),(3,.int .i64 o.2)] [] [((2,0),24)]
 |(.inr o)=>cE 109 [(0,sl ae v)] [] []
def fD:Option (Int⊕((waB×Int)⊕(Unit))):=
 if(decide (t16<t15))=true then
  (g9 v t16).bind fun x2=>
  (bk x2).bind fun r3=>
  if(r3 !=0)=true then
   some (.inr (.inl (([]:List ac),r3)))
  else
   some (.inl (eW (t16+1)))
 else
  some (.inr (.inr ()))
def gj:Option ((waB×Int)⊕(Unit)):=loop (fun(zz:Int)=>fD v t15 zz) t16
theorem jo{y:Int⊕((waB×Int)⊕(Unit))}(h:fD v t15 t16=some y):aL Pg GE 0 (cA uK 55) (LQ (fun(zz:Int)=>bH v t15 zz) bI (aY v) y) (bH v t15 t16):=by
 rcases bB h with⟨c1,h⟩|⟨c1,h⟩
 ·obtain⟨x2,bx2,h⟩:=aF h
  obtain⟨r3,br3,h⟩:=aF h
  have p5:=fun{sc F} (r:PS sc F)=>sg 0 c1<|sv (e7.ia (k:=.i64) bx2)<|sv (aN x2)<|sx ou<|sx (dy x2)<|sv (ba x2 [])<|dj (bY br3)<|r
  rcases bB h with⟨c4,h⟩|⟨c4,h⟩
  ·obtain rfl:=lf h
   have z:=p5<|sg 0 c4<|sN 0 (bI (.inl (([]:List ac),r3))) (aY v (.inl (([]:List ac),r3))) rfl (fu (aI (up (aK af ([]:List ac))) (aI trivial trivial))) trivial
   exact lZ (A:=rG) mixed (by intro hx;cases hx) z<|by kernel_rfl
  ·obtain rfl:=lf h
   have z:=p5<|sg 0 c4<|sN 0 .normal (bH v t15 (eW (t16+1))) rfl (fu (aI (up (aK af v)) (aI (up (aK af v)) (aI trivial (aI trivial trivial))))) trivial
   exact iQ (A:=rG) mixed z<|by kernel_rfl
 ·obtain rfl:=lf h
  have z:=sg 0 c1<|eF (bI (.inr ())) (aY v (.inr ()))
  exact mY rG (by intro hx;cases hx) z<|by kernel_rfl
theorem e8{x:(waB×Int)⊕(Unit)}(h:gj v t15 t16=some x):aL Pg GE 0 (.loop (cA uK 55)) (EX (bI x) (aY v x)) (bH v t15 t16):=
 aL.loop (S:=fun(zz:Int)=>bH v t15 zz) (ex:=bI) (s:=t16) h fun zz y hy=>jo v t15 zz hy
end
section
variable(t28:waB)(t29:Int)(t30:Int)(m0:(List (am×Bool)))(m:waB)
def bJ:aj:=cE 109 [(8,.bptr 2 0),(9,.func (.func 36) [] [.bptr 1 0,.bptr 2 0]),(28,sl ae t28),(29,.int .i64 t29),(30,.int .i64 t30)] [.map (cz PVal.bool m0),.cells [.mapr 0] [],.cells [sl ae m] [(0,24)]] []
def dN(o:(List (am×Bool))×waB):aj:=cE 109 [(8,.bptr 2 0),(9,.func (.func 36) [] [.bptr 1 0,.bptr 2 0])] [.map (cz PVal.bool o.1),.cells [.mapr 0] [],.cells [sl ae o.2] [(0,24)]] []
def fE:Option ((Int×(List (am×Bool))×waB)⊕(((List (am×Bool))×waB))):=
 if(decide (t30<t29))=true then
  (g9 t28 t30).bind fun x8=>
  (dp x8 m0 m).bind fun r9=>
  some (.inl (eW (t30+1),r9.1,r9.2))
 else
  some (.inr (m0,m))
def gk:Option (((List (am×Bool))×waB)):=loop (fun(zz:Int×(List (am×Bool))×waB)=>fE t28 t29 zz.1 zz.2.1 zz.2.2) (t30,m0,m)
theorem jp{y:(Int×(List (am×Bool))×waB)⊕(((List (am×Bool))×waB))}(h:fE t28 t29 t30 m0 m=some y):aL Pg GE 0 (cA uK 1015) (LQ (fun(zz:Int×(List (am×Bool))×waB)=>bJ t28 t29 zz.1 zz.2.1 zz.2.2) (fun _=>.exit 2) dN y) (bJ t28 t29 t30 m0 m):=by
 rcases bB h with⟨c7,h⟩|⟨c7,h⟩
 ·obtain⟨x8,bx8,h⟩:=aF h
  obtain⟨r9,br9,h⟩:=aF h
  obtain rfl:=lf h
  have z:=sg 0 c7<|sv (e7.ia (k:=.i64) bx8)<|sv (aN x8)<|sx ou<|sx (dy x8)<|sv (ba x8 [])<|si (.cg ⟨[1,0,2],[.agg (ae x8),.bptr 0 0,.bptr 2 0],[],[.cells [.mapr 0] [],.map (cz PVal.bool m0),.cells [sl ae m] [(0,24)]],[.cells [.mapr 1] [],.map (cz PVal.bool m0),.cells [sl ae m] [(0,24)]],[.cells [.mapr 0] [],.map (cz PVal.bool r9.1),.cells [sl ae r9.2] [(0,24)]],[.cells [.mapr 1] [],.map (cz PVal.bool r9.1),.cells [sl ae r9.2] [(0,24)]],.tuple [],.tuple [],[]⟩) (dI br9)<|sf (aI (xR [1,0,2] (.agg (ae x8)) (af x8)) (aI (xB [1,0,2] 0 1 0 rfl) (aI (xB [1,0,2] 2 2 0 rfl) trivial)))<|sf (aI (aI (rB (.cells [.mapr 0] [])) (aI (rW []) (aI (xM [1,0,2] 1 0 rfl) trivial))) (aI (aI (rB (.map (cz PVal.bool m0))) (aI (rM (cz PVal.bool m0)) (yR (n:=0) PVal.bool (fun x=>trivial) m0))) (aI (aI (rB (.cells [sl ae m] [(0,24)])) (aI (rW [(0,24)]) (aI (xR [1,0,2] (sl ae m) (aK af m)) trivial))) trivial)))<|sf (aI (aI (rW []) (aI (xM [1,0,2] 1 0 rfl) trivial)) (aI (aI (rM (cz PVal.bool r9.1)) (yR (n:=0) PVal.bool (fun x=>trivial) r9.1)) (aI (aI (rW [(0,24)]) (aI (xR [1,0,2] (sl ae r9.2) (aK af r9.2)) trivial)) trivial)))<|sf (xR [1,0,2] (.tuple []) trivial)<|sN 0 .normal (bJ t28 t29 (eW (t30+1)) r9.1 r9.2) rfl (fu (aI (j9 rfl) (aI (aI trivial (aI (j9 rfl) (aI (j9 rfl) trivial))) (aI (up (aK af t28)) (aI trivial (aI trivial trivial)))))) (aI (yR PVal.bool (fun x=>trivial) r9.1) (aI (aI (j9 rfl) trivial) (aI (aI (up (aK af r9.2)) trivial) trivial)))
  exact iQ (A:=rG) mixed z<|by kernel_rfl
 ·obtain rfl:=lf h
  have z:=sg 0 c7<|eF (.exit 2) (dN (m0,m))
  exact mY rG (by intro hx;cases hx) z<|by kernel_rfl
theorem jY{x:((List (am×Bool))×waB)}(h:gk t28 t29 t30 m0 m=some x):aL Pg GE 0 (.loop (cA uK 1015)) (EX (.exit 2) (dN x)) (bJ t28 t29 t30 m0 m):=
 aL.loop (S:=fun(zz:Int×(List (am×Bool))×waB)=>bJ t28 t29 zz.1 zz.2.1 zz.2.2) (ex:=(fun _=>.exit 2)) (s:=(t30,m0,m)) h fun zz y hy=>jp t28 t29 zz.1 zz.2.1 zz.2.2 hy
end
section
variable(i:Int)(m0:(List (am×Bool)))(m:waB)
def kp:aj:=cE 109 [(8,.bptr 2 0),(9,.func (.func 36) [] [.bptr 1 0,.bptr 2 0]),(12,.int .i64 i)] [.map (cz PVal.bool m0),.cells [.mapr 0] [],.cells [sl ae m] [(0,24)]] []
def dJ(o:Bool):aj:=cE 109 [(8,.bptr 2 0),(9,.func (.func 36) [] [.bptr 1 0,.bptr 2 0]),(12,.int .i64 i),(46,.bool o)] [.map (cz PVal.bool m0),.cells [.mapr 0] [],.cells [sl ae m] [(0,24)]] []
def gf:Option Bool:=
 if(decide (i<(m.length:Int)))=true then
  some (decide ((m.length:Int)<=400))
 else
  some false
theorem jU{x:Bool}(h:gf i m=some x):aL Pg GE 0 (cA uK 8156) (EX .normal (dJ i m0 m x)) (kp i m0 m):=by
 have p12:=fun{sc F} (r:PS sc F)=>ss<|jy (e7.ln m)<|r
 rcases bB h with⟨c11,h⟩|⟨c11,h⟩
 ·obtain rfl:=lf h
  exact iT rG (p12<|sg 5 c11<|ss<|jy (e7.ln m)<|eF .normal (dJ i m0 m (decide ((m.length:Int)<=400))))<|by kernel_rfl
 ·obtain rfl:=lf h
  exact iT rG (p12<|sg 5 c11<|eF .normal (dJ i m0 m false))<|by kernel_rfl
end
section
variable(i:Int)(k:Int)(m0:(List (am×Bool)))(m:waB)
def kq:aj:=cE 109 [(8,.bptr 2 0),(9,.func (.func 36) [] [.bptr 1 0,.bptr 2 0]),(12,.int .i64 i),(13,.int .i64 k)] [.map (cz PVal.bool m0),.cells [.mapr 0] [],.cells [sl ae m] [(0,24)]] []
def dK(o:Bool):aj:=cE 109 [(8,.bptr 2 0),(9,.func (.func 36) [] [.bptr 1 0,.bptr 2 0]),(12,.int .i64 i),(13,.int .i64 k),(56,.bool o)] [.map (cz PVal.bool m0),.cells [.mapr 0] [],.cells [sl ae m] [(0,24)]] []
def gg:Option Bool:=
 if(decide (k<=i))=true then
  some (decide ((m.length:Int)<=400))
 else
  some false
theorem jV{x:Bool}(h:gg i k m=some x):aL Pg GE 0 (cA uK 522172) (EX .normal (dK i k m0 m x)) (kq i k m0 m):=by
 rcases bB h with⟨c16,h⟩|⟨c16,h⟩
 ·obtain rfl:=lf h
  exact iT rG (sg 4 c16<|ss<|jy (e7.ln m)<|eF .normal (dK i k m0 m (decide ((m.length:Int)<=400))))<|by kernel_rfl
 ·obtain rfl:=lf h
  exact iT rG (sg 4 c16<|eF .normal (dK i k m0 m false))<|by kernel_rfl
end
section
variable(i:Int)(k:Int)(m0:(List (am×Bool)))(m:waB)
def ks:aj:=cE 109 [(8,.bptr 2 0),(9,.func (.func 36) [] [.bptr 1 0,.bptr 2 0]),(12,.int .i64 i),(13,.int .i64 k)] [.map (cz PVal.bool m0),.cells [.mapr 0] [],.cells [sl ae m] [(0,24)]] []
def dM(o:(List (am×Bool))×waB):aj:=cE 109 [(8,.bptr 2 0),(9,.func (.func 36) [] [.bptr 1 0,.bptr 2 0]),(12,.int .i64 i),(13,.int .i64 k)] [.map (cz PVal.bool o.1),.cells [.mapr 0] [],.cells [sl ae o.2] [(0,24)]] []
def gi:Option (((List (am×Bool))×waB)):=
 (g9 m i).bind fun x20=>
 (g9 m k).bind fun x21=>
 if(x20.Callee==x21.Caller)=true then
  (g9 m i).bind fun x24=>
  (g9 m k).bind fun x25=>
  (bC x24 x25).bind fun r26=>
  (dp r26 m0 m).bind fun r27=>
  some (r27.1,r27.2)
 else
  some (m0,m)
theorem jX{x:((List (am×Bool))×waB)}(h:gi i k m0 m=some x):aL Pg GE 0 (cA uK 2088698) (EX .normal (dM i k x)) (ks i k m0 m):=by
 obtain⟨x20,bx20,h⟩:=aF h
 obtain⟨x21,bx21,h⟩:=aF h
 have p23:=fun{sc F} (r:PS sc F)=>wA [0,0,3,7,15,0,0,96,224,480,1023]<|ss<|sv (e7.ia (k:=.i64) bx20)<|sv (bv x20)<|sv (bR x20)<|ss<|sv (e7.ia (k:=.i64) bx21)<|sv (bu x21)<|sv (bQ x21)<|r
 rcases bB h with⟨c22,h⟩|⟨c22,h⟩
 ·obtain⟨x24,bx24,h⟩:=aF h
  obtain⟨x25,bx25,h⟩:=aF h
  obtain⟨r26,br26,h⟩:=aF h
  obtain⟨r27,br27,h⟩:=aF h
  obtain rfl:=lf h
  exact iT rG (p23<|sg 0 c22<|sk<|AY (.dx [0,0,0,6,14,0,0,96,224,510] [] [] [])<|ss<|sv (e7.ia (k:=.i64) bx24)<|sv (aN x24)<|ss<|sv (e7.ia (k:=.i64) bx25)<|sv (aN x25)<|dj (db br26)<|si (.cg ⟨[1,0,2],[.agg (ae r26),.bptr 0 0,.bptr 2 0],[],[.cells [.mapr 0] [],.map (cz PVal.bool m0),.cells [sl ae m] [(0,24)]],[.cells [.mapr 1] [],.map (cz PVal.bool m0),.cells [sl ae m] [(0,24)]],[.cells [.mapr 0] [],.map (cz PVal.bool r27.1),.cells [sl ae r27.2] [(0,24)]],[.cells [.mapr 1] [],.map (cz PVal.bool r27.1),.cells [sl ae r27.2] [(0,24)]],.tuple [],.tuple [],[]⟩) (dI br27)<|sf (aI (xR [1,0,2] (.agg (ae r26)) (af r26)) (aI (xB [1,0,2] 0 1 0 rfl) (aI (xB [1,0,2] 2 2 0 rfl) trivial)))<|sf (aI (aI (rB (.cells [.mapr 0] [])) (aI (rW []) (aI (xM [1,0,2] 1 0 rfl) trivial))) (aI (aI (rB (.map (cz PVal.bool m0))) (aI (rM (cz PVal.bool m0)) (yR (n:=0) PVal.bool (fun x=>trivial) m0))) (aI (aI (rB (.cells [sl ae m] [(0,24)])) (aI (rW [(0,24)]) (aI (xR [1,0,2] (sl ae m) (aK af m)) trivial))) trivial)))<|sf (aI (aI (rW []) (aI (xM [1,0,2] 1 0 rfl) trivial)) (aI (aI (rM (cz PVal.bool r27.1)) (yR (n:=0) PVal.bool (fun x=>trivial) r27.1)) (aI (aI (rW [(0,24)]) (aI (xR [1,0,2] (sl ae r27.2) (aK af r27.2)) trivial)) trivial)))<|sf (xR [1,0,2] (.tuple []) trivial)<|eF .normal (dM i k (r27.1,r27.2)))<|by kernel_rfl
 ·obtain rfl:=lf h
  exact iT rG (p23<|sg 0 c22<|eF .normal (dM i k (m0,m)))<|by kernel_rfl
end
section
variable(i:Int)(k:Int)(m0:(List (am×Bool)))(m:waB)
def kr:aj:=cE 109 [(8,.bptr 2 0),(9,.func (.func 36) [] [.bptr 1 0,.bptr 2 0]),(12,.int .i64 i),(13,.int .i64 k)] [.map (cz PVal.bool m0),.cells [.mapr 0] [],.cells [sl ae m] [(0,24)]] []
def dL(o:(List (am×Bool))×waB):aj:=cE 109 [(8,.bptr 2 0),(9,.func (.func 36) [] [.bptr 1 0,.bptr 2 0]),(12,.int .i64 i),(13,.int .i64 k)] [.map (cz PVal.bool o.1),.cells [.mapr 0] [],.cells [sl ae o.2] [(0,24)]] []
def gh:Option (((List (am×Bool))×waB)):=
 (gi i k m0 m).bind fun o28=>
 (g9 o28.2 k).bind fun x29=>
 (g9 o28.2 i).bind fun x30=>
 if(x29.Callee==x30.Caller)=true then
  (g9 o28.2 k).bind fun x33=>
  (g9 o28.2 i).bind fun x34=>
  (bC x33 x34).bind fun r35=>
  (dp r35 o28.1 o28.2).bind fun r36=>
  some (r36.1,r36.2)
 else
  some (o28.1,o28.2)
theorem jW{x:((List (am×Bool))×waB)}(h:gh i k m0 m=some x):aL Pg GE 0 (cA uK 522174) (EX .normal (dL i k x)) (kr i k m0 m):=by
 obtain⟨o28,bo28,h⟩:=aF h
 obtain⟨x29,bx29,h⟩:=aF h
 obtain⟨x30,bx30,h⟩:=aF h
 have p32:=fun{sc F} (r:PS sc F)=>sw 0<|ga (jX i k m0 m bo28)<|wA [0,0,3,7,15,0,0,96,224,480,1023]<|ss<|sv (e7.ia (k:=.i64) bx29)<|sv (bv x29)<|sv (bR x29)<|ss<|sv (e7.ia (k:=.i64) bx30)<|sv (bu x30)<|sv (bQ x30)<|r
 rcases bB h with⟨c31,h⟩|⟨c31,h⟩
 ·obtain⟨x33,bx33,h⟩:=aF h
  obtain⟨x34,bx34,h⟩:=aF h
  obtain⟨r35,br35,h⟩:=aF h
  obtain⟨r36,br36,h⟩:=aF h
  obtain rfl:=lf h
  exact iT rG (p32<|sg 0 c31<|sk<|AY (.dx [0,0,0,6,14,0,0,96,224,510] [] [] [])<|ss<|sv (e7.ia (k:=.i64) bx33)<|sv (aN x33)<|ss<|sv (e7.ia (k:=.i64) bx34)<|sv (aN x34)<|dj (db br35)<|si (.cg ⟨[1,0,2],[.agg (ae r35),.bptr 0 0,.bptr 2 0],[],[.cells [.mapr 0] [],.map (cz PVal.bool o28.1),.cells [sl ae o28.2] [(0,24)]],[.cells [.mapr 1] [],.map (cz PVal.bool o28.1),.cells [sl ae o28.2] [(0,24)]],[.cells [.mapr 0] [],.map (cz PVal.bool r36.1),.cells [sl ae r36.2] [(0,24)]],[.cells [.mapr 1] [],.map (cz PVal.bool r36.1),.cells [sl ae r36.2] [(0,24)]],.tuple [],.tuple [],[]⟩) (dI br36)<|sf (aI (xR [1,0,2] (.agg (ae r35)) (af r35)) (aI (xB [1,0,2] 0 1 0 rfl) (aI (xB [1,0,2] 2 2 0 rfl) trivial)))<|sf (aI (aI (rB (.cells [.mapr 0] [])) (aI (rW []) (aI (xM [1,0,2] 1 0 rfl) trivial))) (aI (aI (rB (.map (cz PVal.bool o28.1))) (aI (rM (cz PVal.bool o28.1)) (yR (n:=0) PVal.bool (fun x=>trivial) o28.1))) (aI (aI (rB (.cells [sl ae o28.2] [(0,24)])) (aI (rW [(0,24)]) (aI (xR [1,0,2] (sl ae o28.2) (aK af o28.2)) trivial))) trivial)))<|sf (aI (aI (rW []) (aI (xM [1,0,2] 1 0 rfl) trivial)) (aI (aI (rM (cz PVal.bool r36.1)) (yR (n:=0) PVal.bool (fun x=>trivial) r36.1)) (aI (aI (rW [(0,24)]) (aI (xR [1,0,2] (sl ae r36.2) (aK af r36.2)) trivial)) trivial)))<|sf (xR [1,0,2] (.tuple []) trivial)<|eF .normal (dL i k (r36.1,r36.2)))<|by kernel_rfl
 ·obtain rfl:=lf h
  exact iT rG (p32<|sg 0 c31<|eF .normal (dL i k (o28.1,o28.2)))<|by kernel_rfl
end
section
variable(i:Int)(k:Int)(m0:(List (am×Bool)))(m:waB)
def bL:aj:=cE 109 [(8,.bptr 2 0),(9,.func (.func 36) [] [.bptr 1 0,.bptr 2 0]),(12,.int .i64 i),(13,.int .i64 k)] [.map (cz PVal.bool m0),.cells [.mapr 0] [],.cells [sl ae m] [(0,24)]] []
def dP(o:(List (am×Bool))×waB):aj:=cE 109 [(8,.bptr 2 0),(9,.func (.func 36) [] [.bptr 1 0,.bptr 2 0]),(12,.int .i64 i)] [.map (cz PVal.bool o.1),.cells [.mapr 0] [],.cells [sl ae o.2] [(0,24)]] []
def fG:Option ((Int×(List (am×Bool))×waB)⊕(((List (am×Bool))×waB))):=
 (gg i k m).bind fun o17=>
 if o17=true then
  (gh i k m0 m).bind fun o37=>
  some (.inl (eW (k+1),o37.1,o37.2))
 else
  some (.inr (m0,m))
def gn:Option (((List (am×Bool))×waB)):=loop (fun(zz:Int×(List (am×Bool))×waB)=>fG i zz.1 zz.2.1 zz.2.2) (k,m0,m)
theorem jr{y:(Int×(List (am×Bool))×waB)⊕(((List (am×Bool))×waB))}(h:fG i k m0 m=some y):aL Pg GE 0 (cA uK 130543) (LQ (fun(zz:Int×(List (am×Bool))×waB)=>bL i zz.1 zz.2.1 zz.2.2) (fun _=>.exit 6) (dP i) y) (bL i k m0 m):=by
 obtain⟨o17,bo17,h⟩:=aF h
 have p19:=fun{sc F} (r:PS sc F)=>sw 1<|ga (jV i k m0 m bo17)<|r
 rcases bB h with⟨c18,h⟩|⟨c18,h⟩
 ·obtain⟨o37,bo37,h⟩:=aF h
  obtain rfl:=lf h
  exact uM rG (p19<|sg 0 c18<|sw 0<|ga (jW i k m0 m bo37)<|eF .normal (bL i (eW (k+1)) o37.1 o37.2))<|by kernel_rfl
 ·obtain rfl:=lf h
  have z:=p19<|sg 0 c18<|eF (.exit 6) (dP i (m0,m))
  exact mY rG (by intro hx;cases hx) z<|by kernel_rfl
theorem j0{x:((List (am×Bool))×waB)}(h:gn i k m0 m=some x):aL Pg GE 0 (.loop (cA uK 130543)) (EX (.exit 6) (dP i x)) (bL i k m0 m):=
 aL.loop (S:=fun(zz:Int×(List (am×Bool))×waB)=>bL i zz.1 zz.2.1 zz.2.2) (ex:=(fun _=>.exit 6)) (s:=(k,m0,m)) h fun zz y hy=>jr i zz.1 zz.2.1 zz.2.2 hy
end
section
variable(i:Int)(m0:(List (am×Bool)))(m:waB)
def bK:aj:=cE 109 [(8,.bptr 2 0),(9,.func (.func 36) [] [.bptr 1 0,.bptr 2 0]),(12,.int .i64 i)] [.map (cz PVal.bool m0),.cells [.mapr 0] [],.cells [sl ae m] [(0,24)]] []
def dO(o:(List (am×Bool))×waB):aj:=cE 109 [(8,.bptr 2 0)] [.map (cz PVal.bool o.1),.cells [.mapr 0] [],.cells [sl ae o.2] [(0,24)]] []
def fF:Option ((Int×(List (am×Bool))×waB)⊕(((List (am×Bool))×waB))):=
 (gf i m).bind fun o13=>
 if o13=true then
  (gn i 0 m0 m).bind fun o38=>
  some (.inl (eW (i+1),o38.1,o38.2))
 else
  some (.inr (m0,m))
def gm:Option (((List (am×Bool))×waB)):=loop (fun(zz:Int×(List (am×Bool))×waB)=>fF zz.1 zz.2.1 zz.2.2) (i,m0,m)
theorem jq{y:(Int×(List (am×Bool))×waB)⊕(((List (am×Bool))×waB))}(h:fF i m0 m=some y):aL Pg GE 0 (cA uK 2039) (LQ (fun(zz:Int×(List (am×Bool))×waB)=>bK zz.1 zz.2.1 zz.2.2) (fun _=>.exit 4) dO y) (bK i m0 m):=by
 obtain⟨o13,bo13,h⟩:=aF h
 have p15:=fun{sc F} (r:PS sc F)=>sw 1<|ga (jU i m0 m bo13)<|r
 rcases bB h with⟨c14,h⟩|⟨c14,h⟩
 ·obtain⟨o38,bo38,h⟩:=aF h
  obtain rfl:=lf h
  exact uM rG (p15<|sg 0 c14<|ga (j0 i 0 m0 m bo38)<|eF .normal (bK (eW (i+1)) o38.1 o38.2))<|by kernel_rfl
 ·obtain rfl:=lf h
  have z:=p15<|sg 0 c14<|eF (.exit 4) (dO (m0,m))
  exact mY rG (by intro hx;cases hx) z<|by kernel_rfl
theorem jZ{x:((List (am×Bool))×waB)}(h:gm i m0 m=some x):aL Pg GE 0 (.loop (cA uK 2039)) (EX (.exit 4) (dO x)) (bK i m0 m):=
 aL.loop (S:=fun(zz:Int×(List (am×Bool))×waB)=>bK zz.1 zz.2.1 zz.2.2) (ex:=(fun _=>.exit 4)) (s:=(i,m0,m)) h fun zz y hy=>jq zz.1 zz.2.1 zz.2.2 hy
end
theorem lw{l r:List ac}(h:pJ gz l=some r):aL Pg GE 0 (cA uK 1022) (EX .normal (cE 109 [(8,.bptr 2 0)] [.dead,.dead,.cells [sl ae r] [(0,24)]] [])) (cE 109 [(8,.bptr 2 0)] [.dead,.dead,.cells [sl ae l] [(0,24)]] []):=
 AZ (K:=[3,4]) (c:=ae) (n:=109) (nb:=3) (i:=2) e7 za BE (fun x y r h=>mG h) call39 wR rfl rfl rfl rfl rfl rfl rfl rfl (h0:=by kernel_rfl) (h00:=by kernel_rfl) h
def fp(a:waB):Option (waB×Int):=
 (gj a (a.length:Int) 0).bind fun o6=>match o6 with
 |(.inl o6)=>
  some (o6.1,o6.2)
 | (.inr o6) =>
  (gk a (a.length:Int) 0 ([]:List (am×Bool)) ([]:List ac)).bind fun o10=>
  (gm 0 o10.1 o10.2).bind fun o39=>
  if(decide ((o39.2.length:Int)>400))=true then
   some (([]:List ac),7)
  else
   (pJ gz o39.2).bind fun l42=>
   some (l42,0)
theorem cY{a:waB}{r:waB×Int}(h:fp a=some r):CC Pg GE 19 [sl ae a] (.tuple [sl ae r.1,.int .i64 r.2]) []:=by
 obtain⟨o6,bo6,h⟩:=aF h
 rcases o6 with o6|o6
 ·obtain rfl:=lf h
  have z:=jy (e7.ln a)<|ga (e:=.ret) (s1:=aY a (.inl o6)) (e8 a (a.length:Int) 0 bo6)<|en (aI (rP (.tuple [sl ae o6.1,.int .i64 o6.2]))<|(aI (aK af o6.1) (aI trivial trivial)))
  exact cq rG call19 func19 (c:=uK) rfl (aI (aK af a) trivial) z<|by kernel_rfl
 ·obtain⟨o10,bo10,h⟩:=aF h
  obtain⟨o39,bo39,h⟩:=aF h
  have p41:=fun{sc F} (r:PS sc F)=>jy (e7.ln a)<|ga (e:=.exit 0) (s1:=aY a (.inr o6)) (e8 a (a.length:Int) 0 bo6)<|sx BD<|ss<|sx BB<|jy (e7.ln a)<|ga (jY a (a.length:Int) 0 ([]:List (am×Bool)) ([]:List ac) bo10)<|ga (jZ 0 o10.1 o10.2 bo39)<|ss<|jy (e7.ln o39.2)<|r
  rcases bB h with⟨c40,h⟩|⟨c40,h⟩
  ·obtain rfl:=lf h
   have z:=p41<|sg 0 c40<|en (aI (rP (.tuple [sl ae ([]:List ac),.int .i64 7]))<|(aI (aK af ([]:List ac)) (aI trivial trivial)))
   exact cq rG call19 func19 (c:=uK) rfl (aI (aK af a) trivial) z<|by kernel_rfl
  ·obtain⟨l42,bl42,h⟩:=aF h
   obtain rfl:=lf h
   have z:=p41<|sg 0 c40<|sw 0<|ga (lw bl42)<|ss<|en (aI (rP (.tuple [sl ae l42,.int .i64 0]))<|(aI (aK af l42) (aI trivial trivial)))
   exact cq rG call19 func19 (c:=uK) rfl (aI (aK af a) trivial) z<|by kernel_rfl
noncomputable def Ax:Code:=f30.body.getD .skip
def Aa:List Nat:=[15]
section
variable(s1:waA)(s2:waA)(t12:Int)(t13:Int)
def dq:aj:=cE 26 [(0,sl al s1),(1,sl al s2),(12,.int .i64 t12),(13,.int .i64 t13)] [] []
def dt(o:Unit⊕(Unit)):Exit:=match o with
 |(.inl _)=>.ret
 |(.inr _)=>.exit 0
def cy(o:Unit⊕(Unit)):aj:=match o with
 |(.inl o)=>cE 26 [(4,.bool false)] [] []
 |(.inr o)=>cE 26 [] [] []
def f7:Option (Int⊕(Unit⊕(Unit))):=
 if(decide (t13<t12))=true then
  (g9 s1 t13).bind fun x4=>
  (g9 s2 t13).bind fun x5=>
  if(!(jz x4 x5))=true then
   some (.inr (.inl ()))
  else
   some (.inl (eW (t13+1)))
 else
  some (.inr (.inr ()))
def ic:Option (Unit⊕(Unit)):=loop (fun(zz:Int)=>f7 s1 s2 t12 zz) t13
theorem mH{y:Int⊕(Unit⊕(Unit))}(h:f7 s1 s2 t12 t13=some y):aL Pg GE 0 (cA Ax 119) (LQ (fun(zz:Int)=>dq s1 s2 t12 zz) dt cy y) (dq s1 s2 t12 t13):=by
 rcases bB h with⟨c3,h⟩|⟨c3,h⟩
 ·obtain⟨x4,bx4,h⟩:=aF h
  obtain⟨x5,bx5,h⟩:=aF h
  have p7:=fun{sc F} (r:PS sc F)=>sg 0 c3<|wA [0,0,3,7,0,0,48,112,255]<|sv (fK.ia (k:=.i64) bx4)<|sv (iv x4)<|sv (fK.ia (k:=.i64) bx5)<|sv (iv x5)<|sv (ya x4 x5)<|r
  rcases bB h with⟨c6,h⟩|⟨c6,h⟩
  ·obtain rfl:=lf h
   have z:=p7<|sg 0 c6<|eF (dt (.inl ())) (cy (.inl ()))
   exact mY Aa (by intro hx;cases hx) z<|by kernel_rfl
  ·obtain rfl:=lf h
   exact uM Aa (p7<|sg 0 c6<|eF .normal (dq s1 s2 t12 (eW (t13+1))))<|by kernel_rfl
 ·obtain rfl:=lf h
  have z:=sg 0 c3<|eF (dt (.inr ())) (cy (.inr ()))
  exact mY Aa (by intro hx;cases hx) z<|by kernel_rfl
theorem jf{x:Unit⊕(Unit)}(h:ic s1 s2 t12 t13=some x):aL Pg GE 0 (.loop (cA Ax 119)) (EX (dt x) (cy x)) (dq s1 s2 t12 t13):=
 aL.loop (S:=fun(zz:Int)=>dq s1 s2 t12 zz) (ex:=dt) (s:=t13) h fun zz y hy=>mH s1 s2 t12 zz hy
end
def iC(s1:waA)(s2:waA):Option Bool:=
 if((s1.length:Int)!=(s2.length:Int))=true then
  some false
 else
  (ic s1 s2 (s1.length:Int) 0).bind fun o8=>match o8 with
  |(.inl o8)=>
   some false
  |(.inr o8)=>
   some true
theorem pT{s1:waA}{s2:waA}{r:Bool}(h:iC s1 s2=some r):CC Pg GE 30 [sl al s1,sl al s2] (.bool r) []:=by
 have p2:=fun{sc F} (r:PS sc F)=>jy (fK.ln s1)<|jy (fK.ln s2)<|r
 rcases bB h with⟨c1,h⟩|⟨c1,h⟩
 ·obtain rfl:=lf h
  have z:=p2<|sg 0 c1<|en (aI (rP (.bool false))<|trivial)
  exact cq Aa call30 func30 (c:=Ax) rfl (aI (aK aJ s1) (aI (aK aJ s2) trivial)) z<|by kernel_rfl
 ·obtain⟨o8,bo8,h⟩:=aF h
  rcases o8 with o8|o8
  ·obtain rfl:=lf h
   have z:=p2<|sg 0 c1<|jy (fK.ln s1)<|ga (e:=.ret) (s1:=cy (.inl o8)) (jf s1 s2 (s1.length:Int) 0 bo8)<|en (aI (rP (.bool false))<|trivial)
   exact cq Aa call30 func30 (c:=Ax) rfl (aI (aK aJ s1) (aI (aK aJ s2) trivial)) z<|by kernel_rfl
  ·obtain rfl:=lf h
   have z:=p2<|sg 0 c1<|jy (fK.ln s1)<|ga (e:=.exit 0) (s1:=cy (.inr o8)) (jf s1 s2 (s1.length:Int) 0 bo8)<|en (aI (rP (.bool true))<|trivial)
   exact cq Aa call30 func30 (c:=Ax) rfl (aI (aK aJ s1) (aI (aK aJ s2) trivial)) z<|by kernel_rfl
noncomputable def Bk:Code:=f12.body.getD .skip
def Bd:List Nat:=[]
def dl(a:ac)(a2:ac):Option Bool:=
 if(a.Caller==a2.Caller)=true then
  if(a.Callee==a2.Callee)=true then
   (iC a.Arcs a2.Arcs).bind fun r5=>
   some r5
  else
   some false
 else
  some false
theorem fq{a:ac}{a2:ac}{r:Bool}(h:dl a a2=some r):CC Pg GE 12 [.agg (ae a),.agg (ae a2)] (.bool r) []:=by
 have p2:=fun{sc F} (r:PS sc F)=>se (cw a)<|se (cw a2)<|sv (bu a)<|sv (bQ a)<|sv (bu a2)<|sv (bQ a2)<|r
 rcases bB h with⟨c1,h⟩|⟨c1,h⟩
 ·have p4:=fun{sc F} (r:PS sc F)=>p2<|sg 6 c1<|sv (bv a)<|sv (bR a)<|sv (bv a2)<|sv (bR a2)<|r
  rcases bB h with⟨c3,h⟩|⟨c3,h⟩
  ·obtain⟨r5,br5,h⟩:=aF h
   obtain rfl:=lf h
   have z:=p4<|sg 13 c3<|sv (bS a)<|sv (bT a)<|sv (bS a2)<|sv (bT a2)<|dj (pT br5)<|en (aI (rP (.bool r5))<|trivial)
   exact cq Bd call12 func12 (c:=Bk) rfl (aI (af a) (aI (af a2) trivial)) z<|by kernel_rfl
  ·obtain rfl:=lf h
   have z:=p4<|sg 13 c3<|en (aI (rP (.bool false))<|trivial)
   exact cq Bd call12 func12 (c:=Bk) rfl (aI (af a) (aI (af a2) trivial)) z<|by kernel_rfl
 ·obtain rfl:=lf h
  have z:=p2<|sg 6 c1<|en (aI (rP (.bool false))<|trivial)
  exact cq Bd call12 func12 (c:=Bk) rfl (aI (af a) (aI (af a2) trivial)) z<|by kernel_rfl
noncomputable def BU:Code:=f42.body.getD .skip
def BJ:List Nat:=[]
def fH(a:ak):Option Bool:=
 if(a.From==a.To)=true then
  some a.Strict
 else
  some false
theorem iW{a:ak}{r:Bool}(h:fH a=some r):CC Pg GE 42 [.agg (al a)] (.bool r) []:=by
 have p2:=fun{sc F} (r:PS sc F)=>se (ol a)<|sv (dX a)<|sv (eG a)<|sv (fS a)<|sv (gX a)<|r
 rcases bB h with⟨c1,h⟩|⟨c1,h⟩
 ·obtain rfl:=lf h
  have z:=p2<|sg 6 c1<|sv (kM a)<|sv (lW a)<|en (aI (rP (.bool a.Strict))<|trivial)
  exact cq BJ call42 func42 (c:=BU) rfl (aI (aJ a) trivial) z<|by kernel_rfl
 ·obtain rfl:=lf h
  have z:=p2<|sg 6 c1<|en (aI (rP (.bool false))<|trivial)
  exact cq BJ call42 func42 (c:=BU) rfl (aI (aJ a) trivial) z<|by kernel_rfl
noncomputable def A5:Code:=f65.body.getD .skip
def Ak:List Nat:=[10,17]
section
variable(s:waA)(t7:Int)(t8:Int)
def cb:aj:=cE 19 [(0,sl al s),(1,.func (.func 42) [] []),(7,.int .i64 t7),(8,.int .i64 t8)] [] []
def ce(o:Int⊕(Unit)):Exit:=match o with
 |(.inl _)=>.ret
 |(.inr _)=>.exit 0
def bq(o:Int⊕(Unit)):aj:=match o with
 |(.inl o)=>cE 19 [(4,.int .i64 o)] [] []
 |(.inr o)=>cE 19 [] [] []
def gr:Option (Int⊕(Int⊕(Unit))):=
 if(decide (t8<t7))=true then
  (g9 s t8).bind fun x2=>
  (fH x2).bind fun r3=>
  if r3=true then
   some (.inr (.inl t8))
  else
   some (.inl (eW (t8+1)))
 else
  some (.inr (.inr ()))
def io:Option (Int⊕(Unit)):=loop (fun(zz:Int)=>gr s t7 zz) t8
theorem kz{y:Int⊕(Int⊕(Unit))}(h:gr s t7 t8=some y):aL Pg GE 0 (cA A5 55) (LQ (fun(zz:Int)=>cb s t7 zz) ce bq y) (cb s t7 t8):=by
 rcases bB h with⟨c1,h⟩|⟨c1,h⟩
 ·obtain⟨x2,bx2,h⟩:=aF h
  obtain⟨r3,br3,h⟩:=aF h
  have p5:=fun{sc F} (r:PS sc F)=>sg 0 c1<|sv (fK.ia (k:=.i64) bx2)<|sv (iv x2)<|dj (iW br3)<|r
  rcases bB h with⟨c4,h⟩|⟨c4,h⟩
  ·obtain rfl:=lf h
   have z:=p5<|sg 0 c4<|eF (ce (.inl t8)) (bq (.inl t8))
   exact mY Ak (by intro hx;cases hx) z<|by kernel_rfl
  ·obtain rfl:=lf h
   exact uM Ak (p5<|sg 0 c4<|eF .normal (cb s t7 (eW (t8+1))))<|by kernel_rfl
 ·obtain rfl:=lf h
  have z:=sg 0 c1<|eF (ce (.inr ())) (bq (.inr ()))
  exact mY Ak (by intro hx;cases hx) z<|by kernel_rfl
theorem f8{x:Int⊕(Unit)}(h:io s t7 t8=some x):aL Pg GE 0 (.loop (cA A5 55)) (EX (ce x) (bq x)) (cb s t7 t8):=
 aL.loop (S:=fun(zz:Int)=>cb s t7 zz) (ex:=ce) (s:=t8) h fun zz y hy=>kz s t7 zz hy
end
def ky(s:waA):Option Int:=
 (io s (s.length:Int) 0).bind fun o6=>match o6 with
 |(.inl o6)=>
  some o6
 |(.inr o6)=>
  some (-1)
theorem mI{s:waA}{r:Int}(h:ky s=some r):CC Pg GE 65 [sl al s,.func (.func 42) [] []] (.int .i64 r) []:=by
 obtain⟨o6,bo6,h⟩:=aF h
 rcases o6 with o6|o6
 ·obtain rfl:=lf h
  have z:=jy (fK.ln s)<|ga (e:=.ret) (s1:=bq (.inl o6)) (f8 s (s.length:Int) 0 bo6)<|en (aI (rP (.int .i64 o6))<|trivial)
  exact cq Ak call65 func65 (c:=A5) rfl (aI (aK aJ s) (aI (aI trivial trivial) trivial)) z<|by kernel_rfl
 ·obtain rfl:=lf h
  have z:=jy (fK.ln s)<|ga (e:=.exit 0) (s1:=bq (.inr o6)) (f8 s (s.length:Int) 0 bo6)<|en (aI (rP (.int .i64 (-1)))<|trivial)
  exact cq Ak call65 func65 (c:=A5) rfl (aI (aK aJ s) (aI (aI trivial trivial) trivial)) z<|by kernel_rfl
noncomputable def Cd:Code:=f41.body.getD .skip
def B9:List Nat:=[]
def im(s:waA):Option Bool:=
 (ky s).bind fun r1=>
 some (decide (r1>=0))
theorem lk{s:waA}{r:Bool}(h:im s=some r):CC Pg GE 41 [sl al s,.func (.func 42) [] []] (.bool r) []:=by
 obtain⟨r1,br1,h⟩:=aF h
 obtain rfl:=lf h
 have z:=dj (mI br1)<|en (aI (rP (.bool (decide (r1>=0))))<|trivial)
 exact cq B9 call41 func41 (c:=Cd) rfl (aI (aK aJ s) (aI (aI trivial trivial) trivial)) z<|by kernel_rfl
noncomputable def Ad:Code:=f21.body.getD .skip
def yF:List Nat:=[15]
section
variable(t16:waB)(t17:Int)(t18:Int)(m:am)(m2:am)(m3:waA)
def iX:aj:=cE 40 [(7,.bptr 0 0),(16,sl ae t16),(17,.int .i64 t17),(18,.int .i64 t18)] [.cells [.str m,.str m2,sl al m3] []] []
def cV(o:Bool):aj:=cE 40 [(7,.bptr 0 0),(16,sl ae t16),(17,.int .i64 t17),(18,.int .i64 t18),(34,.bool o)] [.cells [.str m,.str m2,sl al m3] []] []
def e9:Option Bool:=
 if(!(m==m2))=true then
  some true
 else
  (bC (⟨m,m2,m3⟩:ac) (⟨m,m2,m3⟩:ac)).bind fun r7=>
  (dl r7 (⟨m,m2,m3⟩:ac)).bind fun r8=>
  some (!r8)
theorem iB{x:Bool}(h:e9 m m2 m3=some x):aL Pg GE 0 (cA Ad 31724) (EX .normal (cV t16 t17 t18 m m2 m3 x)) (iX t16 t17 t18 m m2 m3):=by
 have p6:=fun{sc F} (r:PS sc F)=>wA [0,1,0,4,15,31,63,63,255,63,1023,2047,4095]<|ss<|ss<|r
 rcases bB h with⟨c5,h⟩|⟨c5,h⟩
 ·obtain rfl:=lf h
  exact iT yF (p6<|sg 6 c5<|eF .normal (cV t16 t17 t18 m m2 m3 true))<|by kernel_rfl
 ·obtain⟨r7,br7,h⟩:=aF h
  obtain⟨r8,br8,h⟩:=aF h
  obtain rfl:=lf h
  exact iT yF (p6<|sg 6 c5<|sv (ba (⟨m,m2,m3⟩:ac) [])<|sv (ba (⟨m,m2,m3⟩:ac) [])<|dj (db br7)<|sv (ba (⟨m,m2,m3⟩:ac) [])<|dj (fq br8)<|eF .normal (cV t16 t17 t18 m m2 m3 (!r8)))<|by kernel_rfl
end
section
variable(t16:waB)(t17:Int)(t18:Int)
def aP:aj:=cE 40 [(16,sl ae t16),(17,.int .i64 t17),(18,.int .i64 t18)] [] []
def bj(o:Unit⊕(Unit)):Exit:=match o with
 |(.inl _)=>.ret
 |(.inr _)=>.exit 0
def aQ(o:Unit⊕(Unit)):aj:=match o with
 |(.inl o)=>cE 40 [(2,.bool false),(3,.int .i64 0)] [] []
 |(.inr o)=>cE 40 [] [] []
def eL:Option (Int⊕(Unit⊕(Unit))):=
 if (decide (t18 < t17)) = true then
  (g9 t16 t18).bind fun x4=>
  (e9 x4.Caller x4.Callee x4.Arcs).bind fun o9=>
  if o9=true then
   some (.inl (eW (t18+1)))
  else
   (im x4.Arcs).bind fun r12=>
   if(!r12)=true then
    some (.inr (.inl ()))
   else
    some (.inl (eW (t18+1)))
 else
  some (.inr (.inr ()))
def fa:Option (Unit⊕(Unit)):=loop (fun(zz:Int)=>eL t16 t17 zz) t18
theorem h9{y:Int⊕(Unit⊕(Unit))}(h:eL t16 t17 t18=some y):aL Pg GE 0 (cA Ad 247) (LQ (fun(zz:Int)=>aP t16 t17 zz) bj aQ y) (aP t16 t17 t18):=by
 rcases bB h with⟨c3,h⟩|⟨c3,h⟩
 ·obtain⟨x4,bx4,h⟩:=aF h
  obtain⟨o9,bo9,h⟩:=aF h
  have p11:=fun{sc F} (r:PS sc F)=>sg 0 c3<|sv (e7.ia (k:=.i64) bx4)<|sv (aN x4)<|sx ou<|sx (dy x4)<|sw 1<|ga (iB t16 t17 t18 x4.Caller x4.Callee x4.Arcs bo9)<|r
  rcases bB h with⟨c10,h⟩|⟨c10,h⟩
  ·obtain rfl:=lf h
   have z:=p11<|sg 0 c10<|sN 0 .normal (aP t16 t17 (eW (t18+1))) rfl (fu (aI (up (aK af t16)) (aI trivial (aI trivial trivial)))) trivial
   exact iQ (A:=yF) mixed z<|by kernel_rfl
  ·obtain⟨r12,br12,h⟩:=aF h
   have p14:=fun{sc F} (r:PS sc F)=>p11<|sg 0 c10<|ss<|dj (lk br12)<|r
   rcases bB h with⟨c13,h⟩|⟨c13,h⟩
   ·obtain rfl:=lf h
    have z:=p14<|sg 0 c13<|sN 0 (bj (.inl ())) (aQ (.inl ())) rfl (fu (aI trivial (aI trivial trivial))) trivial
    exact lZ (A:=yF) mixed (by intro hx;cases hx) z<|by kernel_rfl
   ·obtain rfl:=lf h
    have z:=p14<|sg 0 c13<|sN 0 .normal (aP t16 t17 (eW (t18+1))) rfl (fu (aI (up (aK af t16)) (aI trivial (aI trivial trivial)))) trivial
    exact iQ (A:=yF) mixed z<|by kernel_rfl
 ·obtain rfl:=lf h
  have z:=sg 0 c3<|eF (bj (.inr ())) (aQ (.inr ()))
  exact mY yF (by intro hx;cases hx) z<|by kernel_rfl
theorem eA{x:Unit⊕(Unit)}(h:fa t16 t17 t18=some x):aL Pg GE 0 (.loop (cA Ad 247)) (EX (bj x) (aQ x)) (aP t16 t17 t18):=
 aL.loop (S:=fun(zz:Int)=>aP t16 t17 zz) (ex:=bj) (s:=t18) h fun zz y hy=>h9 t16 t17 zz hy
end
def ei(a:waB):Option (Bool×Int):=
 (fp a).bind fun r1=>
 if(r1.2 !=0)=true then
  some (false,r1.2)
 else
  (fa r1.1 (r1.1.length:Int) 0).bind fun o15=>match o15 with
  |(.inl o15)=>
   some (false,0)
  |(.inr o15)=>
   some (true,0)
theorem fb{a:waB}{r:Bool×Int}(h:ei a=some r):CC Pg GE 21 [sl ae a] (.tuple [.bool r.1,.int .i64 r.2]) []:=by
 obtain⟨r1,br1,h⟩:=aF h
 rcases bB h with⟨c2,h⟩|⟨c2,h⟩
 ·obtain rfl:=lf h
  have z:=dj (cY br1)<|sg 0 c2<|en (aI (rP (.tuple [.bool false,.int .i64 r1.2]))<|(aI trivial (aI trivial trivial)))
  exact cq yF call21 func21 (c:=Ad) rfl (aI (aK af a) trivial) z<|by kernel_rfl
 ·obtain⟨o15,bo15,h⟩:=aF h
  rcases o15 with o15|o15
  ·obtain rfl:=lf h
   have z:=dj (cY br1)<|sg 0 c2<|jy (e7.ln r1.1)<|ga (e:=.ret) (s1:=aQ (.inl o15)) (eA r1.1 (r1.1.length:Int) 0 bo15)<|en (aI (rP (.tuple [.bool false,.int .i64 0]))<|(aI trivial (aI trivial trivial)))
   exact cq yF call21 func21 (c:=Ad) rfl (aI (aK af a) trivial) z<|by kernel_rfl
  ·obtain rfl:=lf h
   have z:=dj (cY br1)<|sg 0 c2<|jy (e7.ln r1.1)<|ga (e:=.exit 0) (s1:=aQ (.inr o15)) (eA r1.1 (r1.1.length:Int) 0 bo15)<|en (aI (rP (.tuple [.bool true,.int .i64 0]))<|(aI trivial (aI trivial trivial)))
   exact cq yF call21 func21 (c:=Ad) rfl (aI (aK af a) trivial) z<|by kernel_rfl
noncomputable def A2:Code:=f17.body.getD .skip
def A0:List Nat:=[13,19]
def bh(a:ac)(a2:ac):Option (ac×Int):=
 (bk a).bind fun r1=>
 if(r1 !=0)=true then
  some ((⟨([]:am),([]:am),([]:List ak)⟩:ac),r1)
 else
  (bk a2).bind fun r4=>
  if(r4 !=0)=true then
   some ((⟨([]:am),([]:am),([]:List ak)⟩:ac),r4)
  else
   if(!(a.Callee==a2.Caller))=true then
    some ((⟨([]:am),([]:am),([]:List ak)⟩:ac),6)
   else
    (bC a a2).bind fun r9=>
    some (r9,0)
theorem b7{a:ac}{a2:ac}{r:ac×Int}(h:bh a a2=some r):CC Pg GE 17 [.agg (ae a),.agg (ae a2)] (.tuple [.agg (ae r.1),.int .i64 r.2]) []:=by
 obtain⟨r1,br1,h⟩:=aF h
 have p3:=fun{sc F} (r:PS sc F)=>se (cw a)<|se (cw a2)<|sx ou<|sv (aN a)<|dj (bY br1)<|r
 rcases bB h with⟨c2,h⟩|⟨c2,h⟩
 ·obtain rfl:=lf h
  have z:=p3<|sg 0 c2<|sb (lL) (lK)<|sy (ch (⟨([]:am),([]:am),([]:List ak)⟩:ac))<|en (aI (vbh PVal.tuple (px (gy (⟨([]:am),([]:am),([]:List ak)⟩:ac)) (px (rP (.int .i64 r1)) (rfl:([]:List PVal)=[]))))<|(aI (af (⟨([]:am),([]:am),([]:List ak)⟩:ac)) (aI trivial trivial)))
  exact cq A0 call17 func17 (c:=A2) rfl (aI (af a) (aI (af a2) trivial)) z<|by kernel_rfl
 ·obtain⟨r4,br4,h⟩:=aF h
  have p6:=fun{sc F} (r:PS sc F)=>p3<|sg 0 c2<|sv (aN a2)<|dj (bY br4)<|r
  rcases bB h with⟨c5,h⟩|⟨c5,h⟩
  ·obtain rfl:=lf h
   have z:=p6<|sg 0 c5<|sb (lL) (lK)<|sy (ch (⟨([]:am),([]:am),([]:List ak)⟩:ac))<|en (aI (vbh PVal.tuple (px (gy (⟨([]:am),([]:am),([]:List ak)⟩:ac)) (px (rP (.int .i64 r4)) (rfl:([]:List PVal)=[]))))<|(aI (af (⟨([]:am),([]:am),([]:List ak)⟩:ac)) (aI trivial trivial)))
   exact cq A0 call17 func17 (c:=A2) rfl (aI (af a) (aI (af a2) trivial)) z<|by kernel_rfl
  ·have p8:=fun{sc F} (r:PS sc F)=>p6<|sg 0 c5<|sv (bv a)<|sv (bR a)<|sv (bu a2)<|sv (bQ a2)<|r
   rcases bB h with⟨c7,h⟩|⟨c7,h⟩
   ·obtain rfl:=lf h
    have z:=p8<|sg 0 c7<|sb (lL) (lK)<|sy (ch (⟨([]:am),([]:am),([]:List ak)⟩:ac))<|en (aI (vbh PVal.tuple (px (gy (⟨([]:am),([]:am),([]:List ak)⟩:ac)) (px (rP (.int .i64 6)) (rfl:([]:List PVal)=[]))))<|(aI (af (⟨([]:am),([]:am),([]:List ak)⟩:ac)) (aI trivial trivial)))
    exact cq A0 call17 func17 (c:=A2) rfl (aI (af a) (aI (af a2) trivial)) z<|by kernel_rfl
   ·obtain⟨r9,br9,h⟩:=aF h
    obtain rfl:=lf h
    have z:=p8<|sg 0 c7<|sv (aN a)<|sv (aN a2)<|dj (db br9)<|sy (ch r9)<|en (aI (vbh PVal.tuple (px (gy r9) (px (rP (.int .i64 0)) (rfl:([]:List PVal)=[]))))<|(aI (af r9) (aI trivial trivial)))
    exact cq A0 call17 func17 (c:=A2) rfl (aI (af a) (aI (af a2) trivial)) z<|by kernel_rfl
noncomputable def xy:Code:=f16.body.getD .skip
def xo:List Nat:=[]
def j5:Option Bool:=
 (ft ([102]:am) ([102]:am) ([(jL 0 [0,1,1]),(jL 0 [1,0,0])]:List g6)).bind fun r1=>
 (ei ([r1]:List ac)).bind fun r2=>
 (ft ([102]:am) ([102]:am) ([(jL 0 [0,1,0]),(jL 0 [1,0,0])]:List g6)).bind fun r3=>
 (ei ([r3]:List ac)).bind fun r4=>
 (ft ([102]:am) ([103]:am) ([(jL 0 [0,1,1])]:List g6)).bind fun r5=>
 (ft ([103]:am) ([104]:am) ([(jL 0 [1,2,0])]:List g6)).bind fun r6=>
 (bh r5 r6).bind fun r7=>
 (ft ([102]:am) ([102]:am) ([(jL 0 [0,1,1]),(jL 0 [1,0,0])]:List g6)).bind fun r8=>
 (fp ([r8]:List ac)).bind fun r9=>
 if r2.1 = true then
  if (r2.2 == 0) = true then
   if (!r4.1) = true then
    if (r4.2 == 0) = true then
     if (r7.2 == 0) = true then
      (ft ([102]:am) ([104]:am) ([(jL 0 [0,2,1])]:List g6)).bind fun r20=>
      (dl r7.1 r20).bind fun r21=>
      if r21=true then
       (ib r7.1).bind fun r24=>
       if (r24 == ([102,32,45,62,32,104,58,32,48,32,62,32,50]:am)) = true then
        if (decide ((r9.1.length:Int) ≥ 2)) = true then
         if(r9.2==0)=true then
          (bk r7.1).bind fun r31=>
          if(r31==0)=true then
           (ft ([102]:am) ([102]:am) ([(jL 0 [0,6,0])]:List g6)).bind fun r34=>
           (bk r34).bind fun r35=>
           some (r35==2)
          else
           some false
         else
          some false
        else
         some false
       else
        some false
      else
       some false
     else
      some false
    else
     some false
   else
    some false
  else
   some false
 else
  some false
theorem kF {r:Bool} (h:j5 = some r):CC Pg GE 16 [] (.bool r) []:=by
 obtain⟨r1,br1,h⟩:=aF h
 obtain⟨r2,br2,h⟩:=aF h
 obtain⟨r3,br3,h⟩:=aF h
 obtain⟨r4,br4,h⟩:=aF h
 obtain⟨r5,br5,h⟩:=aF h
 obtain⟨r6,br6,h⟩:=aF h
 obtain⟨r7,br7,h⟩:=aF h
 obtain⟨r8,br8,h⟩:=aF h
 obtain⟨r9,br9,h⟩:=aF h
 have p11:=fun{sc F} (r:PS sc F)=>sv (cm 0 1 1)<|sv (cm 1 0 0)<|sv (tr.mk' (v:=mn) gY ([(jL 0 [0,1,1]),(jL 0 [1,0,0])]:List g6) 2 (by kernel_rfl))<|dj (dW br1)<|sv (e7.mk' (v:=kC) iS ([r1]:List ac) 1 (by kernel_rfl))<|dj (fb br2)<|sv (cm 0 1 0)<|sv (cm 1 0 0)<|sv (tr.mk' (v:=mn) gY ([(jL 0 [0,1,0]),(jL 0 [1,0,0])]:List g6) 2 (by kernel_rfl))<|dj (dW br3)<|sv (e7.mk' (v:=kC) iS ([r3]:List ac) 1 (by kernel_rfl))<|dj (fb br4)<|sv (cm 0 1 1)<|sv (tr.mk' (v:=mn) gY ([(jL 0 [0,1,1])]:List g6) 1 (by kernel_rfl))<|dj (dW br5)<|sv (cm 1 2 0)<|sv (tr.mk' (v:=mn) gY ([(jL 0 [1,2,0])]:List g6) 1 (by kernel_rfl))<|dj (dW br6)<|dj (b7 br7)<|sx ou<|sx (dy r7.1)<|sv (cm 0 1 1)<|sv (cm 1 0 0)<|sv (tr.mk' (v:=mn) gY ([(jL 0 [0,1,1]),(jL 0 [1,0,0])]:List g6) 2 (by kernel_rfl))<|dj (dW br8)<|sv (e7.mk' (v:=kC) iS ([r8]:List ac) 1 (by kernel_rfl))<|dj (cY br9)<|wA [0,1,3,7,15,31,63,127,255,511,1023,2047,4095,8191,16383,32767,65535,131071,262143,262143,786431,1835007,4194303,8388607,16777215,33554431,67108863,134217727,268435455,536870911,1073741823,2147483647,4294967295,8589934591,17179869183,34359738367,68719476735,137438953471,274877906943,549755813887,1099511627775,2199023255551,4398046511103,8796093022207,17592186044415,35184372088831,70368744177663,140737488355327,281474976710655,562949953421311,1125899906842623]<|r
 rcases bB h with⟨c10,h⟩|⟨c10,h⟩
 ·have p13:=fun{sc F} (r:PS sc F)=>p11<|sg 2 c10<|r
  rcases bB h with⟨c12,h⟩|⟨c12,h⟩
  ·have p15:=fun{sc F} (r:PS sc F)=>p13<|sg 6 c12<|r
   rcases bB h with⟨c14,h⟩|⟨c14,h⟩
   ·have p17:=fun{sc F} (r:PS sc F)=>p15<|sg 10 c14<|r
    rcases bB h with⟨c16,h⟩|⟨c16,h⟩
    ·have p19:=fun{sc F} (r:PS sc F)=>p17<|sg 14 c16<|r
     rcases bB h with⟨c18,h⟩|⟨c18,h⟩
     ·obtain⟨r20,br20,h⟩:=aF h
      obtain⟨r21,br21,h⟩:=aF h
      have p23:=fun{sc F} (r:PS sc F)=>p19<|sg 18 c18<|sv (ba r7.1 [])<|sv (cm 0 2 1)<|sv (tr.mk' (v:=mn) gY ([(jL 0 [0,2,1])]:List g6) 1 (by kernel_rfl))<|dj (dW br20)<|dj (fq br21)<|r
      rcases bB h with⟨c22,h⟩|⟨c22,h⟩
      ·obtain⟨r24,br24,h⟩:=aF h
       have p26:=fun{sc F} (r:PS sc F)=>p23<|sg 25 c22<|sv (ba r7.1 [])<|dj (jb br24)<|r
       rcases bB h with⟨c25,h⟩|⟨c25,h⟩
       ·have p28:=fun{sc F} (r:PS sc F)=>p26<|sg 30 c25<|jy (e7.ln r9.1)<|r
        rcases bB h with⟨c27,h⟩|⟨c27,h⟩
        ·have p30:=fun{sc F} (r:PS sc F)=>p28<|sg 35 c27<|r
         rcases bB h with⟨c29,h⟩|⟨c29,h⟩
         ·obtain⟨r31,br31,h⟩:=aF h
          have p33:=fun{sc F} (r:PS sc F)=>p30<|sg 39 c29<|sv (ba r7.1 [])<|dj (bY br31)<|r
          rcases bB h with⟨c32,h⟩|⟨c32,h⟩
          ·obtain⟨r34,br34,h⟩:=aF h
           obtain⟨r35,br35,h⟩:=aF h
           obtain rfl:=lf h
           have z:=p33<|sg 44 c32<|sv (cm 0 6 0)<|sv (tr.mk' (v:=mn) gY ([(jL 0 [0,6,0])]:List g6) 1 (by kernel_rfl))<|dj (dW br34)<|dj (bY br35)<|en (aI (rP (.bool (r35==2)))<|trivial)
           exact cq xo call16 func16 (c:=xy) rfl trivial z<|by kernel_rfl
          ·obtain rfl:=lf h
           have z:=p33<|sg 44 c32<|en (aI (rP (.bool false))<|trivial)
           exact cq xo call16 func16 (c:=xy) rfl trivial z<|by kernel_rfl
         ·obtain rfl:=lf h
          have z:=p30<|sg 39 c29<|en (aI (rP (.bool false))<|trivial)
          exact cq xo call16 func16 (c:=xy) rfl trivial z<|by kernel_rfl
        ·obtain rfl:=lf h
         have z:=p28<|sg 35 c27<|en (aI (rP (.bool false))<|trivial)
         exact cq xo call16 func16 (c:=xy) rfl trivial z<|by kernel_rfl
       ·obtain rfl:=lf h
        have z:=p26<|sg 30 c25<|en (aI (rP (.bool false))<|trivial)
        exact cq xo call16 func16 (c:=xy) rfl trivial z<|by kernel_rfl
      ·obtain rfl:=lf h
       have z:=p23<|sg 25 c22<|en (aI (rP (.bool false))<|trivial)
       exact cq xo call16 func16 (c:=xy) rfl trivial z<|by kernel_rfl
     ·obtain rfl:=lf h
      have z:=p19<|sg 18 c18<|en (aI (rP (.bool false))<|trivial)
      exact cq xo call16 func16 (c:=xy) rfl trivial z<|by kernel_rfl
    ·obtain rfl:=lf h
     have z:=p17<|sg 14 c16<|en (aI (rP (.bool false))<|trivial)
     exact cq xo call16 func16 (c:=xy) rfl trivial z<|by kernel_rfl
   ·obtain rfl:=lf h
    have z:=p15<|sg 10 c14<|en (aI (rP (.bool false))<|trivial)
    exact cq xo call16 func16 (c:=xy) rfl trivial z<|by kernel_rfl
  ·obtain rfl:=lf h
   have z:=p13<|sg 6 c12<|en (aI (rP (.bool false))<|trivial)
   exact cq xo call16 func16 (c:=xy) rfl trivial z<|by kernel_rfl
 ·obtain rfl:=lf h
  have z:=p11<|sg 2 c10<|en (aI (rP (.bool false))<|trivial)
  exact cq xo call16 func16 (c:=xy) rfl trivial z<|by kernel_rfl
open Go
noncomputable def b3:Code:=Tryd.f3.body.getD .skip
noncomputable def b6:Code:=Tryd.f6.body.getD .skip
def A6:List Nat:=[]
section
variable(v:ac)(c:ac)(e:Int)(f:Int)(m:am)(m2:am)(m3:waA)(m4:am)(m5:am)(m6:waA)
def gO:aj:=cE 72 [(3,.eptr (ae v)),(5,.eptr (ae c)),(7,.bptr 3 0),(8,.int .i64 e),(9,.bptr 4 0),(10,.int .i64 f)] [.dead,.dead,.dead,.cells [.str m,.str m2,sl al m3] [],.cells [.str m4,.str m5,sl al m6] []] []
def cn(o:Bool):aj:=cE 72 [(3,.eptr (ae v)),(5,.eptr (ae c)),(7,.bptr 3 0),(9,.bptr 4 0),(39,.bool o)] [.dead,.dead,.dead,.cells [.str m,.str m2,sl al m3] [],.cells [.str m4,.str m5,sl al m6] []] []
def ay:Option Bool:=
 if(e !=0)=true then
  some true
 else
  some (f !=0)
theorem gu{x:Bool}(h:ay e f=some x):aL Pg GE 0 (cA b6 124) (EX .normal (cn v c m m2 m3 m4 m5 m6 x)) (gO v c e f m m2 m3 m4 m5 m6):=by
 rcases bB h with⟨c7,h⟩|⟨c7,h⟩
 ·obtain rfl:=lf h
  exact iT A6 (sg 3 c7<|eF .normal (cn v c m m2 m3 m4 m5 m6 true))<|by kernel_rfl
 ·obtain rfl:=lf h
  exact iT A6 (sg 3 c7<|eF .normal (cn v c m m2 m3 m4 m5 m6 (f !=0)))<|by kernel_rfl
end
def du (a:ac) (a2:ac) (c:ac):Option Bool :=
 (pU 3 ([a,a2,c]:List ac)).bind fun r1=>
 if(!r1)=true then
  j5.bind fun r4=>
  some r4
 else
  (bh a a2).bind fun r5=>
  (bh a2 c).bind fun r6=>
  (ay r5.2 r6.2).bind fun o8=>
  if o8=true then
   j5.bind fun r11=>
   some r11
  else
   (bh r5.1 c).bind fun r12=>
   (bh a r6.1).bind fun r13=>
   if (r12.2 == 0) = true then
    if (r13.2 == 0) = true then
     (dl r12.1 r13.1).bind fun r18=>
     if r18=true then
      (bk r12.1).bind fun r21=>
      if(r21==0)=true then
       j5.bind fun r24=>
       some r24
      else
       some false
     else
      some false
    else
     some false
   else
    some false
theorem ir{a:ac}{a2:ac}{c:ac}{r:Bool}(h:du a a2 c=some r):CC Pg GE 6 [.agg (ae a),.agg (ae a2),.agg (ae c)] (.bool r) []:=by
 obtain⟨r1,br1,h⟩:=aF h
 have p3:=fun{sc F} (r:PS sc F)=>se (cw a)<|se (cw a2)<|se (cw c)<|sv (aN a)<|sv (aN a2)<|sv (aN c)<|sv (e7.mk' (v:=kC) iS ([a,a2,c]:List ac) 3 (by kernel_rfl))<|dj (uO br1)<|r
 rcases bB h with⟨c2,h⟩|⟨c2,h⟩
 ·obtain⟨r4,br4,h⟩:=aF h
  obtain rfl:=lf h
  have z:=p3<|sg 0 c2<|dj (kF br4)<|en (aI (rP (.bool r4))<|trivial)
  exact cq A6 call6 func6 (c:=b6) rfl (aI (af a) (aI (af a2) (aI (af c) trivial))) z<|by kernel_rfl
 ·obtain⟨r5,br5,h⟩:=aF h
  obtain⟨r6,br6,h⟩:=aF h
  obtain⟨o8,bo8,h⟩:=aF h
  have p10:=fun{sc F} (r:PS sc F)=>p3<|sg 0 c2<|sv (aN a)<|sv (aN a2)<|dj (b7 br5)<|sx ou<|sx (dy r5.1)<|sv (aN a2)<|sv (aN c)<|dj (b7 br6)<|sx ou<|sx (dy r6.1)<|sw 1<|ga (gu a c r5.2 r6.2 r5.1.Caller r5.1.Callee r5.1.Arcs r6.1.Caller r6.1.Callee r6.1.Arcs bo8)<|r
  rcases bB h with⟨c9,h⟩|⟨c9,h⟩
  ·obtain⟨r11,br11,h⟩:=aF h
   obtain rfl:=lf h
   have z:=p10<|sg 0 c9<|dj (kF br11)<|en (aI (rP (.bool r11))<|trivial)
   exact cq A6 call6 func6 (c:=b6) rfl (aI (af a) (aI (af a2) (aI (af c) trivial))) z<|by kernel_rfl
  ·obtain⟨r12,br12,h⟩:=aF h
   obtain⟨r13,br13,h⟩:=aF h
   have p15:=fun{sc F} (r:PS sc F)=>p10<|sg 0 c9<|sv (ba r5.1 [])<|sv (aN c)<|dj (b7 br12)<|sx ou<|sx (dy r12.1)<|sv (aN a)<|sv (ba r6.1 [])<|dj (b7 br13)<|sx ou<|sx (dy r13.1)<|r
   rcases bB h with⟨c14,h⟩|⟨c14,h⟩
   ·have p17:=fun{sc F} (r:PS sc F)=>p15<|sg 3 c14<|r
    rcases bB h with⟨c16,h⟩|⟨c16,h⟩
    ·obtain⟨r18,br18,h⟩:=aF h
     have p20:=fun{sc F} (r:PS sc F)=>p17<|sg 7 c16<|sv (ba r12.1 [])<|sv (ba r13.1 [])<|dj (fq br18)<|r
     rcases bB h with⟨c19,h⟩|⟨c19,h⟩
     ·obtain⟨r21,br21,h⟩:=aF h
      have p23:=fun{sc F} (r:PS sc F)=>p20<|sg 12 c19<|sv (ba r12.1 [])<|dj (bY br21)<|r
      rcases bB h with⟨c22,h⟩|⟨c22,h⟩
      ·obtain⟨r24,br24,h⟩:=aF h
       obtain rfl:=lf h
       have z:=p23<|sg 17 c22<|dj (kF br24)<|en (aI (rP (.bool r24))<|trivial)
       exact cq A6 call6 func6 (c:=b6) rfl (aI (af a) (aI (af a2) (aI (af c) trivial))) z<|by kernel_rfl
      ·obtain rfl:=lf h
       have z:=p23<|sg 17 c22<|en (aI (rP (.bool false))<|trivial)
       exact cq A6 call6 func6 (c:=b6) rfl (aI (af a) (aI (af a2) (aI (af c) trivial))) z<|by kernel_rfl
     ·obtain rfl:=lf h
      have z:=p20<|sg 12 c19<|en (aI (rP (.bool false))<|trivial)
      exact cq A6 call6 func6 (c:=b6) rfl (aI (af a) (aI (af a2) (aI (af c) trivial))) z<|by kernel_rfl
    ·obtain rfl:=lf h
     have z:=p17<|sg 7 c16<|en (aI (rP (.bool false))<|trivial)
     exact cq A6 call6 func6 (c:=b6) rfl (aI (af a) (aI (af a2) (aI (af c) trivial))) z<|by kernel_rfl
   ·obtain rfl:=lf h
    have z:=p15<|sg 3 c14<|en (aI (rP (.bool false))<|trivial)
    exact cq A6 call6 func6 (c:=b6) rfl (aI (af a) (aI (af a2) (aI (af c) trivial))) z<|by kernel_rfl
set_option linter.unusedSimpArgs false
def ct(c:Int):Bool:=decide (97<=c)&&decide (c<=122)
def pE(c:Int):Bool:=decide (65<=c)&&decide (c<=90)
def rV(c:Int):Bool:=decide (48<=c)&&decide (c<=57)
theorem fU(c:Int):eK c=some (ct c):=by unfold eK ct;split<;>simp_all<;>omega
theorem kg(c:Int):e6 c=some (pE c):=by unfold e6 pE;split<;>simp_all<;>omega
theorem iN(c:Int):fx c=some (rV c):=by unfold fx rV;split<;>simp_all<;>omega
def ip(b:UInt8):Bool:=ct b.toNat||rV b.toNat||(b.toNat:Int)==95
def jK(b:UInt8):Bool:=ct b.toNat||pE b.toNat||rV b.toNat
def il(s:am):Bool:=decide ((s.length:Int)>=1)&&decide ((s.length:Int)<=24)
def AM(s:am):Bool:=be.any fun k=>k==s
def lT(p:Int->Bool)(s:am):Bool:=match s with|[]=>false|c::_=>p c.toNat
abbrev xv(s:am):Prop:=s.length<9223372036854775808
theorem iP(s:am):fy s=some (il s):=by
 unfold fy il
 by_cases h:(s.length:Int)>=1
 ·rw[vav (decide_eq_true h),decide_eq_true h];rfl
 ·rw[vaw (by simpa using h),decide_eq_false h];rfl
theorem oU(s:am):gH s=some (AM s):=by
 unfold gH gw
 have h42:be.length=42:=rfl
 have:=lX be (by rw[h42];omega) (fun zz=>cP s zz) (fun k=>k==s) (Sum.inl ()) (Sum.inr ()) (fun i h=>by
  rw[h42]at h
  simp only[cP]
  rw[vav (by simp;omega),kQ _ i (by rw[h42];omega)]
  simp only[vab]
  split<;>simp_all) (by simp only[cP];rw[vaw (by rw[h42];simp)]) 0 (vaI _)
 simp only[Int.ofNat_zero,vbj]at this
 rw[this]
 unfold AM
 cases be.any (fun k=>k==s)<;>rfl
def nj(s:am):Bool:=il s&&lT ct s&&!AM s&&s.all ip
def kR(s:am):Bool:=il s&&lT pE s&&s.all jK&&!(s==[73,110,116])&&!(s==[66,111,111,108])&&!(s==[67,101,108,108])&&!(s==[70,117,110])
def xK(b:Bool):Int:=if b then 0 else 3
theorem pq{s:am}(h:il s=true):∃c r,s=c::r:=by
 cases s with
 |nil=>simp[il]at h
 |cons c r=>exact⟨c,r,rfl⟩
theorem oZ(s:am)(i:Nat)(h:i<s.length):gJ s i=some (!ip s[i]):=by
 unfold gJ ip
 simp only[lV s i h,vab,fU,iN]
 cases ct (s[i].toNat:Int)<;>cases rV (s[i].toNat:Int)<;>simp[bne]
theorem o4(s:am)(hs:xv s)(i:Nat)(hi:i<=s.length):gK s i=some (if(s.drop i).any (fun b=>!ip b)=true then .inl ()else .inr ()):=by
 unfold gK
 refine lX s hs _ (fun b=>!ip b) _ _ (fun j h=>?_) ?_ i hi
 ·simp only[fi]
  rw[vav (by simp;omega),oZ s j h]
  simp only[vab]
  split<;>simp_all
 ·simp only[fi];rw[vaw (by simp)]
theorem su{b:UInt8}(h:ct b.toNat=true):ip b=true:=by simp[ip,h]
theorem oX(s:am):gI s=some (!(il s&&lT ct s&&!AM s)):=by
 unfold gI
 rw[iP]
 simp only[vab]
 by_cases h:il s=true
 ·obtain⟨c,r,rfl⟩:=pq h
  simp only[h,rS,vab,fU,oU,lT]
  cases ct (c.toNat:Int)<;>simp
 ·simp[h]
theorem rx(s:am)(hs:xv s):kT s=some (nj s):=by
 unfold kT nj
 rw[oX]
 simp only[vab]
 by_cases h:(il s&&lT ct s&&!AM s)=true
 ·have hs1:il s=true:=by revert h;cases il s<;>simp
  obtain⟨c,r,rfl⟩:=pq hs1
  have hc:ct (c.toNat:Int)=true:=by revert h;simp[lT];intro _ h _;exact h
  have hL:=o4 (c::r) hs 1 (by simp)
  simp only[Int.ofNat_one]at hL
  rw[h,hL]
  simp only[List.drop_succ_cons,vbj,List.all_cons,su hc,vb9]
  rw[vbH]
  simp only[vcC]
  cases r.all ip<;>simp
 ·simp[h]
theorem jP(s:am)(i:Nat)(h:i<s.length):cX s i=some (!jK s[i]):=by
 unfold cX jK
 simp only[lV s i h,vab,fU,kg,iN]
 cases ct (s[i].toNat:Int)<;>cases pE (s[i].toNat:Int)<;>simp
theorem gb(s:am)(hs:xv s):cR s=some (s.all jK):=by
 unfold cR eh
 have:=lX s hs (fun zz=>bF s zz) (fun b=>!jK b) (.inl ()) (.inr ()) (fun j h=>by
  simp only[bF]
  rw[vav (by simp;omega),jP s j h]
  simp only[vab]
  split<;>simp_all) (by simp only[bF];rw[vaw (by simp)]) 0 (vaI _)
 simp only[Int.ofNat_zero,vbj]at this
 rw[this,vbH]
 simp only[vcC]
 cases s.all jK<;>rfl
theorem n7(s:am)(hs:xv s):fW s=some (!(il s&&lT pE s&&s.all jK)):=by
 unfold fW
 rw[iP]
 simp only[vab]
 by_cases h:il s=true
 ·obtain⟨c,r,rfl⟩:=pq h
  simp only[h,rS,vab,kg,gb _ hs,lT]
  cases pE (c.toNat:Int)<;>simp
 ·simp[h]
theorem qG(s:am)(hs:xv s):jG s=some (kR s):=by
 unfold jG kR
 rw[n7 s hs]
 simp only[vab]
 cases(il s&&lT pE s&&s.all jK)<;>cases(s==[73,110,116])<;>cases(s==[66,111,111,108])<;>cases(s==[67,101,108,108])<;>cases(s==[70,117,110])<;>rfl
theorem zN(b:UInt8):((b.toNat:Int)==46)=(b==46):=by
 rw[vcn]
 simp only[vaG]
 constructor
 ·intro h
  have:b.toNat=46:=by omega
  exact UInt8.toNat_inj.1 this
 ·rintro rfl;rfl
def jM:am->List am
 |[]=>[[]]
 |c::r=>if(c==46)=true then[]::jM r else match jM r with
  |[]=>[[c]]
  |h::t=>(c::h)::t
def tj(p:am):List am->List am
 |[]=>[p]
 |h::t=>(p++h)::t
theorem v7:∀(s:am),jM s≠[]
 |[]=>by simp[jM]
 | c :: r => by
  unfold jM
  split
  ·simp
  ·split<;>simp
theorem wN(c:UInt8)(r:am)(h:¬(c==46)=true):jM (c::r)=tj [c] (jM r):=by
 conv=>lhs;unfold jM
 rw[vaw h]
 cases jM r<;>rfl
theorem xd(p q:am)(l:List am):tj p (tj q l)=tj (p++q) l:=by cases l<;>simp[tj]
theorem yo{l:List am}(h:l≠[]):tj [] l=l:=by cases l with
 |nil=>exact absurd rfl h
 |cons=>rfl
theorem ql:∀(p s:am),p.all (fun c=>!(c==46))=true->jM (p++s)=tj p (jM s)
 |[],s,_=>(yo (v7 s)).symm
 |c::p,s,h=>by
  rw[List.all_cons,vac]at h
  rw[vcd,wN _ _ (by simpa using h.1),ql p s h.2,xd]
  rfl
def eX(s:am):am×am×Bool:=match s.findIdx? (fun c=>c==46)with
 |some j=>(s.take j,s.drop (j+1),true)
 |none=>(s,[],false)
theorem nW(s:am)(hs:xv s):ki s=some (eX s):=by
 unfold ki kS
 have:=wY s hs (fun zz=>eI s zz) (fun c=>c==46) (fun j=>Sum.inl (s.take j,s.drop (j+1))) (Sum.inr ()) (fun i h=>by
  simp only[eI]
  rw[vav (by simp;omega),lV s i h]
  simp only[vab,zN]
  by_cases hd:(s[i]==46)=true
  ·rw[vav hd,vav hd,zV s i (by omega)]
   have hs':s.length<9223372036854775808:=hs
   have e:eW ((i:Int)+1)=((i+1:Nat):Int):=by rw[nA (by omega) (by omega)];omega
   rw[e]
   simp only[vab,yx s (i+1) (by omega)]
  ·rw[vaw hd,vaw hd]) (by simp only[eI];rw[vaw (by simp)])
 rw[this]
 unfold eX
 cases s.findIdx? (fun c=>c==46)<;>rfl
theorem tS(s:am):jM s=if(eX s).2.2=true then(eX s).1::jM (eX s).2.1 else[(eX s).1]:=by
 unfold eX
 cases h:s.findIdx? (fun c=>c==46)with
 |none=>
  rw[List.findIdx?_eq_none_iff]at h
  have:=ql s [] (by simp only[vao,vaJ];exact h)
  rw[vbl]at this
  simp only[vaR,if_false]
  rw[this]
  simp[jM,tj]
 | some j =>
  rw[vbI]at h
  obtain⟨hj,h1,h2⟩:=h
  have e:s=s.take j++s[j]::s.drop (j+1):=by
   conv=>lhs;rw[<-vci j s]
   rw[vbd hj]
  have:=ql (s.take j) (s[j]::s.drop (j+1)) (by
   simp only[vao,vaJ]
   intro x hx
   obtain⟨i,hi,rfl⟩:=List.getElem_of_mem hx
   rw[List.getElem_take]
   have hi':i<j:=by simp at hi;omega
   simpa using h2 i hi')
  rw[<-e]at this
  simp only[if_true]
  rw[this]
  conv=>lhs;arg 2;unfold jM
  rw[vav h1]
  simp[tj]
theorem tR(s:am):(eX s).1.length<=s.length/\(eX s).2.1.length<=s.length/\((eX s).2.2=true->(eX s).2.1.length<s.length):=by
 unfold eX
 cases h:s.findIdx? (fun c=>c==46)with
 |none=>simp
 |some j=>
  rw[vbI]at h
  obtain⟨hj,_⟩:=h
  simp
  omega
def yB(p:am):Bool:=(p.isEmpty||lT ct p)&&p.all ip
def jO(p:am):Bool:=il p&&(p.all jK||yB p)
theorem sq{α X:Type}(p:Nat->α->Bool)(q:α->Bool)(y e:X)(k:Nat)(h:∀i x,k<=i->p i x=q x):∀(l:List α) (i:Nat),k<=i->ny (fun i x (_:Unit)=>if p i x=true then Sum.inr y else .inl ()) (fun _=>e) l i ()=if l.any q=true then y else e
 |[],i,_=>by simp[ny]
 | x :: l,i,hk => by
  have ih:=sq p q y e k h l (i+1) (by omega)
  unfold ny
  rw[h i x hk]
  by_cases hq:q x=true
  ·simp[hq]
  ·simp only[hq,if_false,ih,List.any_cons,vcx,vaR]
theorem pd(s:am)(i:Nat)(h:i<s.length):gL s i=some (if i=0 then !ct s[i].toNat else !ip s[i]):=by
 unfold gL ip
 simp only[lV s i h,vab,fU,iN]
 by_cases h0:i=0
 ·subst h0
  cases ct ((s[0]).toNat:Int)<;>simp
 ·have:((i:Int)==0)=false:=by simp;omega
  simp only[this,vaw h0]
  cases ct (s[i].toNat:Int)<;>cases rV (s[i].toNat:Int)<;>simp[bne]
theorem ry(s:am)(hs:xv s):kU s=some (yB s):=by
 unfold kU jR
 have:=nS s hs (fun i (_:Unit)=>i) (fun zz=>eb s zz) (fun _ _=>True) (fun i x _=>if(if i=0 then !ct x.toNat else !ip x)=true then .inr (.inl ())else .inl ()) (fun _=>.inr ()) (fun i h t _=>⟨by
  simp only[eb]
  rw[vav (by simp;omega),pd s i h]
  simp only[vab]
  cases(if i=0 then !ct s[i].toNat else !ip s[i])<;>rfl,fun _ _=>trivial⟩) (fun t _=>by simp only[eb];rw[vaw (by simp)]) 0 () (vaI _) trivial
 simp only[Int.ofNat_zero,vbj]at this
 rw[this]
 cases s with
 |nil=>rfl
 | cons c r =>
  unfold ny yB lT
  simp only[if_true,List.isEmpty_cons,vcx,List.all_cons]
  by_cases hc:ct c.toNat=true
  ·have:=sq (X:=Unit⊕Unit) (fun i (x:UInt8)=>if i=0 then !ct x.toNat else !ip x) (fun x=>!ip x) (.inl ()) (.inr ()) 1 (fun i x hi=>by rw[vaw (by omega)]) r 1 (van _)
   simp only[hc,Bool.not_true,vaR,if_false,su hc,vb9,vaz]
   rw[this,vbH]
   simp only[vcC]
   cases r.all ip<;>rfl
  ·simp[hc]
theorem oR(p:am)(hs:xv p):gG p=some (!jO p):=by
 unfold gG jO
 rw[iP,gb p hs,ry p hs]
 cases il p<;>cases p.all jK<;>simp
theorem ig(r:am):cH r false=some (.inr ()):=j8 rfl
theorem iM:∀(k:Nat) (r:am),r.length<k->xv r->cH r true=some (if(!(jM r).all jO)=true then .inl ()else .inr ())
 |0,r,hk,_=>absurd hk (by omega)
 | k + 1,r,hk,hs => by
  obtain⟨c1,c2,c3⟩:=tR r
  have hs':r.length<9223372036854775808:=hs
  have hb:df r true=some (if(!jO (eX r).1)=true then .inr (.inl ())else .inl ((eX r).2.1,(eX r).2.2)):=by
   simp only[df,if_true,nW r hs,vab]
   rw[oR _ (show _<_ by omega)]
   simp only[vab]
   cases jO (eX r).1<;>rfl
  rw[tS r]
  unfold cH
  by_cases hp:jO (eX r).1=true
  ·rw[hp]at hb
   refine(oN (body:=fun zz:am×Bool=>df zz.1 zz.2) (s:=(r,true)) (s':=((eX r).2.1,(eX r).2.2)) hb).trans ?_
   cases hm:(eX r).2.2 with
   |false=>
    have:=ig (eX r).2.1
    unfold cH at this
    rw[this]
    simp[hp]
   |true=>
    have c4:=c3 hm
    have:=iM k (eX r).2.1 (by omega) (show _<_ by omega)
    unfold cH at this
    rw[this]
    simp[hp]
  ·have hp':jO (eX r).1=false:=by simpa using hp
   rw[hp']at hb
   refine(j8 (body:=fun zz:am×Bool=>df zz.1 zz.2) (s:=(r,true)) hb).trans ?_
   cases(eX r).2.2<;>simp[hp']
theorem oT(r:am)(more:Bool)(hs:xv r):cH r more=some (if(more&&!(jM r).all jO)=true then .inl ()else .inr ()):=by
 cases more with
 |false=>exact ig r
 |true=>exact iM (r.length+1) r (by omega) hs
def iK(s:am):Bool:=decide (s.length<=120)&&match jM s with
 |[]=>false
 |f::r=>(nj f||kR f||(f==[118]&&!r.isEmpty))&&r.all jO
theorem oP(f:am)(hf:xv f)(more:Bool):gF f more=some (!(nj f||kR f||(f==[118]&&more))):=by
 unfold gF
 rw[rx f hf,qG f hf]
 simp only[vab]
 cases nj f<;>cases kR f<;>cases(f==[118])<;>simp
theorem mV(s:am):iL s=some (xK (iK s)):=by
 unfold iL iK xK
 by_cases h:s.length<=120
 ·have h1:¬((s.length:Int)>120):=by omega
  obtain⟨c1,c2,c3⟩:=tR s
  simp only[h1,h,decide_false,decide_true,vaR,if_false,vb9,nW s (show _<_ by omega),vab]
  rw[oP _ (show _<_ by omega),oT _ _ (show _<_ by omega),tS s]
  simp only[vab]
  cases hm:(eX s).2.2 with
  |false=>
   by_cases hn:nj (eX s).1=true<;>by_cases ht:kR (eX s).1=true<;>simp[hn,ht]
  | true =>
   have:(jM (eX s).2.1).isEmpty=false:=by
    cases hd:jM (eX s).2.1 with
    |nil=>exact absurd hd (v7 _)
    |cons=>rfl
   simp only[this,if_true,Bool.not_false,Bool.and_true,vb9]
   cases(nj (eX s).1||kR (eX s).1||(eX s).1==[118])<;>cases(jM (eX s).2.1).all jO<;>simp
 ·have h1:((s.length:Int)>120):=by omega
  simp[h1,h]
def yE(x:ak):Bool:=(decide (0<=x.From)&&decide (x.From<6))&&(decide (0<=x.To)&&decide (x.To<6))
def xz(a b:ak):Bool:=decide (a.From<b.From)||(a.From==b.From&&decide (a.To<b.To))
def pI(a b:ak):Bool:=a.From==b.From&&a.To==b.To
def rZ(pre:List ak)(x:ak):Bool:=match pre.getLast? with
 |some y=>xz x y
 |none=>false
def ls(pre:List ak)(x:ak):Option Int:=if yE x=false then some 2 else if pre.any (pI x)=true then some 4 else if rZ pre x=true then some 9 else none
def vA:List ak->List ak->Int
 |_,[]=>0
 |pre,x::r=>match ls pre x with
  |some e=>e
  |none=>vA (pre++[x]) r
def vG(g:ac):Int:=if(iK g.Caller&&iK g.Callee)=true then vA [] g.Arcs else 3
theorem va{x:ak}(h:yE x=true):rg x:=by
 unfold yE at h
 simp only[vac,vah]at h
 exact⟨h.1.1,h.1.2,h.2.1,h.2.2⟩
theorem rt{i:Int}(h0:0<=i)(h1:i<6):lF 6 i=some i.toNat:=by
 unfold lF;rw[vav ⟨h0,by omega⟩]
theorem uz(n:Int):dU n=some (decide (0<=n)&&decide (n<6)):=by
 unfold dU
 by_cases h:0<=n
 ·rw[vav (by simpa using h)];simp[h]
 ·rw[vaw (by simpa using h)];simp[h]
theorem zZ(x:ak):dB x.From x.To=some (!yE x):=by
 unfold dB
 rw[uz,vab]
 unfold yE
 cases h:(decide (0<=x.From)&&decide (x.From<6))with
 |false=>simp
 |true=>
  rw[vaw (by simp),uz,vab]
  simp
theorem wF(a b:ak):eB a b=some (xz a b):=by
 unfold eB xz
 split
 ·rename_i h;simp only[vah]at h;simp[h]
 ·rename_i h;simp only[vah]at h
  split
  ·rename_i h2;simp only[vaG]at h2;simp[h2]
  ·rename_i h2;simp only[vaG]at h2;simp[h,h2]
theorem wh{α:Type}(pre:List α)(x:α)(r:List α):g9 (pre++x::r) (pre.length:Int)=some x:=by
 rw[kQ _ _ (by simp)];simp
theorem xT{α:Type}{pre r:List α}{y:α}(h:pre.getLast?=some y)(hl:pre.length<4611686018427387904):g9 (pre++r) (eW ((pre.length:Int) - 1))=some y:=by
 obtain⟨q,rfl⟩:∃q,pre=q++[y]:=by
  have hne:pre≠[]:=by intro e;rw[e]at h;cases h
  rw[vbp hne]at h
  refine⟨pre.dropLast,?_⟩
  rw[<-va3 h];exact(vbt hne).symm
 have e1:((q++[y]).length:Int) - 1=(q.length:Int):=by simp
 rw[e1,nA (by omega) (by simp at hl;omega),vbK]
 exact wh q y r
theorem z6(g:ac){pre r:List ak}{x:ak}(hg:g.Arcs=pre++r)(hl:pre.length<4611686018427387904):dC g (pre.length:Int) x.From x.To x.Strict=some (rZ pre x):=by
 unfold dC rZ
 cases hp:pre.getLast? with
 |none=>
  have:pre=[]:=by simpa using hp
  subst this
  rw[vaw (by simp)]
 |some y=>
  have hne:pre≠[]:=by intro e;rw[e]at hp;cases hp
  have hpos:=vct.2 hne
  rw[vav (by simp;omega),hg,xT hp hl,vab,wF]
  rfl
def AX(m:Nat->Bool)(pre:List ak):Prop:=∀x:ak,rg x->m (0+x.From.toNat * 6+x.To.toNat * 1)=pre.any (pI x)
theorem q9(g:ac)(hl:g.Arcs.length<4611686018427387904):∀(r pre:List ak) (m:Nat->Bool),g.Arcs=pre++r->AX m pre->
  ∃o,bX g g.Arcs (g.Arcs.length:Int) (pre.length:Int) m=some o/\(match o with|.inl o=>vA pre r=o.1/\o.1≠0|.inr _=>vA pre r=0)
 |[],pre,m,hg,hs=>by
  refine⟨.inr m,?_,rfl⟩
  unfold bX
  refine j8 ?_
  unfold ca
  simp only
  rw[vaw (by rw[hg];simp)]
 | x :: r,pre,m,hg,hs => by
  have hlt:pre.length<g.Arcs.length:=by rw[hg];simp
  have hb:ca g g.Arcs (g.Arcs.length:Int) (pre.length:Int) m=(match ls pre x with|some e=>some (.inr (.inl (e,m)))|none=>some (.inl (((pre++[x]).length:Int),eQ m (0+x.From.toNat * 6+x.To.toNat * 1) true))):=by
   unfold ca
   rw[vav (by simpa using hlt)]
   conv=>lhs;rw[hg]
   rw[wh,vab,zZ,vab]
   unfold ls
   cases hr:yE x with
   |false=>simp
   | true =>
    obtain⟨a,b,c,d⟩:=va hr
    rw[vaw (by simp),vaw (by simp),rt a b,rt c d]
    simp only[vab]
    rw[hs x ⟨a,b,c,d⟩]
    cases hy:pre.any (pI x)with
    |true=>simp
    | false =>
     rw[vaw (by simp),vaw (by simp),z6 g hg (by omega),vab]
     cases hz:rZ pre x with
     |true=>simp
     |false=>
      simp only[vaR,if_false]
      rw[nA (by omega) (by omega)]
      congr 3
      simp
  cases hv:ls pre x with
  | some e =>
   rw[hv]at hb
   refine⟨.inl (e,m),?_,?_⟩
   ·unfold bX;exact j8 hb
   ·simp only[vA,hv,vb6]
    unfold ls at hv
    split at hv
    ·cases hv;decide
    ·split at hv
     ·cases hv;decide
     ·split at hv
      ·cases hv;decide
      ·cases hv
  | none =>
   rw[hv]at hb
   have hin:yE x=true:=by
    cases h:yE x with
    |true=>rfl
    |false=>unfold ls at hv;rw[vav h]at hv;cases hv
   obtain⟨a,b,c,d⟩:=va hin
   obtain⟨o,h1,h2⟩:=q9 g hl r (pre++[x]) (eQ m (0+x.From.toNat * 6+x.To.toNat * 1) true) (by rw[hg];simp) (fun y hy=>by
    obtain⟨a',b',c',d'⟩:=hy
    unfold eQ
    rw[List.any_append]
    by_cases he:0+y.From.toNat * 6+y.To.toNat * 1=0+x.From.toNat * 6+x.To.toNat * 1
    ·rw[vav he]
     have h1:y.From=x.From:=by omega
     have h2:y.To=x.To:=by omega
     simp[pI,h1,h2]
    ·rw [vaw he,hs y ⟨a',b',c',d'⟩]
     have:pI y x=false:=by
      unfold pI
      cases h1:(y.From==x.From)with
      |false=>rfl
      | true =>
       cases h2:(y.To==x.To)with
       |false=>rfl
       |true=>
        simp only[vaG]at h1 h2
        rw[h1,h2]at he
        exact absurd rfl he
     simp[this])
   refine⟨o,?_,?_⟩
   ·unfold bX at h1 ⊢
    rw[oN hb];exact h1
   ·cases o with
    |inl o=>simp only[vA,hv]at h2 ⊢;exact h2
    |inr o=>simp only[vA,hv]at h2 ⊢;exact h2
theorem tU(b:Bool):(xK b !=0)= !b:=by cases b<;>rfl
theorem qf(g:ac)(hl:g.Arcs.length<4611686018427387904):bk g=some (vG g):=by
 unfold bk
 have hJ:dA g=some (!(iK g.Caller&&iK g.Callee)):=by
  unfold dA
  rw[mV,vab,tU]
  cases h:iK g.Caller with
  |false=>simp
  |true=>simp only[Bool.not_true,vaR,if_false];rw[mV,vab,tU];simp
 rw[hJ,vab]
 unfold vG
 cases h:(iK g.Caller&&iK g.Callee)with
 |false=>simp
 |true=>
  rw[vaw (by simp),vav rfl]
  obtain⟨o,h1,h2⟩:=q9 g hl g.Arcs [] (nc false) rfl (fun x _=>rfl)
  rw[show(([]:List ak).length:Int)=0 from rfl]at h1
  rw[h1,vab]
  cases o with
  |inl o=>simp only at h2 ⊢;rw[h2.1]
  |inr o=>simp only at h2 ⊢;rw[h2]
structure zl(g:ac):Prop where
 caller:iK g.Caller=true
 callee:iK g.Callee=true
 arcs:w4 g.Arcs
theorem xA{x y:ak}(hx:rg x)(hy:rg y):xz x y=true↔ix x<ix y:=by
 unfold rg at hx hy
 unfold xz ix
 simp only[vaM,vah,vac,vaG]
 omega
theorem tu{x y:ak}(hx:rg x)(hy:rg y):pI x y=true↔ix x=ix y:=by
 unfold rg at hx hy
 unfold pI ix
 simp only[vac,vaG]
 omega
theorem zq:∀(r pre:List ak),w4 pre->vA pre r=0->w4 (pre++r)
 |[],pre,h,_=>by simpa using h
 | x :: r,pre,h,hv => by
  have hx:ls pre x=none:=by
   cases hs:ls pre x with
   |none=>rfl
   | some e =>
    simp only[vA,hs]at hv
    unfold ls at hs
    split at hs
    ·cases hs;cases hv
    ·split at hs
     ·cases hs;cases hv
     ·split at hs
      ·cases hs;cases hv
      ·cases hs
  have hv':vA (pre++[x]) r=0:=by simp only[vA,hx]at hv;exact hv
  have key:w4 (pre++[x]):=by
   unfold ls at hx
   split at hx
   ·cases hx
   rename_i h1
   split at hx
   ·cases hx
   rename_i h2
   split at hx
   ·cases hx
   rename_i h3
   have hr:rg x:=va (by simpa using h1)
   refine⟨fun y hy=>?_,?_⟩
   ·rcases vaK.1 hy with hy|hy
    ·exact h.1 y hy
    ·rw[vbs.1 hy];exact hr
   ·rw[vbU]
    refine⟨h.2,List.pairwise_singleton _ _,fun y hy z hz=>?_⟩
    rw[vbs.1 hz]
    have hne:ix x≠ix y:=fun e=>h2 (vbA.2 ⟨y,hy,(tu hr (h.1 y hy)).2 e⟩)
    have hnil:pre≠[]:=by intro e;rw[e]at hy;cases hy
    have hl:pre.getLast?=some (pre.getLast hnil):=vbp hnil
    unfold rZ at h3
    rw[hl]at h3
    simp only at h3
    have hlm:=List.getLast_mem hnil
    have h4:¬ix x<ix (pre.getLast hnil):=fun hh=>h3 ((xA hr (h.1 _ hlm)).2 hh)
    have h5:ix y<=ix (pre.getLast hnil):=by
     have hp:=h.2
     rw[<-vbt hnil]at hp hy
     rcases vaK.1 hy with hy|hy
     ·have:=(vbU.1 hp).2.2 y hy _ (vbs.2 rfl);omega
     ·rw[vbs.1 hy];exact van _
    have h6:ix x≠ix (pre.getLast hnil):=fun e=>h2 (vbA.2 ⟨_,hlm,(tu hr (h.1 _ hlm)).2 e⟩)
    omega
  have:=zq r (pre++[x]) key hv'
  simpa using this
theorem zp:∀(r pre:List ak),w4 (pre++r)->vA pre r=0
 |[],_,_=>rfl
 | x :: r,pre,h => by
  have hr:rg x:=h.1 x (by simp)
  have hp:=vbU.1 h.2
  have hs:ls pre x=none:=by
   unfold ls
   have h1:yE x=true:=by
    unfold rg at hr
    unfold yE
    simp only[vac,vah]
    exact⟨⟨hr.1,hr.2.1⟩,hr.2.2⟩
   rw[vaw (by simp[h1]),vaw,vaw]
   ·intro hb
    unfold rZ at hb
    split at hb
    ·rename_i y hy
     have hym:y∈pre:=List.mem_of_getLast? hy
     have:=hp.2.2 y hym x (by simp)
     have:=(xA hr (h.1 y (by simp[hym]))).1 hb
     omega
    ·cases hb
   ·intro hb
    obtain⟨y,hy,hsm⟩:=vbA.1 hb
    have:=hp.2.2 y hy x (by simp)
    have:=(tu hr (h.1 y (by simp[hy]))).1 hsm
    omega
  simp only[vA,hs]
  exact zp r (pre++[x]) (by simpa using h)
theorem q8{g:ac}:vG g=0↔zl g:=by
 unfold vG
 constructor
 ·intro h
  split at h
  ·rename_i hc
   simp only[vac]at hc
   exact⟨hc.1,hc.2,by simpa using zq g.Arcs [] ⟨by simp,by simp⟩ h⟩
  ·cases h
 ·rintro⟨h1,h2,h3⟩
  rw[vav (by simp[h1,h2])]
  exact zp g.Arcs [] (by simpa using h3)
theorem og{a b:ac}(ha:zl a)(hb:zl b):zl (mO a b):=⟨ha.caller,hb.callee,pg _⟩
theorem qc{l:List ak}(h:w4 l):l.length<=36:=by
 rw[<-wE h]
 unfold gP
 exact vaL (vb5 _ _) (by simp)
theorem wB:∀(s1 s2:List ak),s1.length=s2.length->(s1.zip s2).any (fun z=>!(jz z.1 z.2))= !decide (s1=s2)
 |[],[],_=>by simp
 |[],_::_,h=>by simp at h
 |_::_,[],h=>by simp at h
 | x :: r,y :: s,h => by
  rw[List.zip_cons_cons,List.any_cons,wB r s (by simpa using h),uZ]
  by_cases h1:x=y
  ·subst h1
   by_cases h2:r=s
   ·subst h2;simp
   ·simp[h2]
  ·simp[h1]
theorem x7(s1 s2:List ak)(hlen:s1.length=s2.length)(hl:s1.length<4611686018427387904)(body:Int->Option (Int⊕(Unit⊕Unit)))
  (hb:∀i:Int,body i=if decide (i<(s1.length:Int))=true then(g9 s1 i).bind fun x=>(g9 s2 i).bind fun y=>if(!(jz x y))=true then some (.inr (.inl ()))else some (.inl (eW (i+1)))else some (.inr (.inr ()))):
  loop body 0=some (if s1=s2 then .inr ()else .inl ()):=by
 have hz:(s1.zip s2).length=s1.length:=by rw[List.length_zip];omega
 have:=lX (s1.zip s2) (by omega) body (fun z=>!(jz z.1 z.2)) (.inl ()) (.inr ()) (fun i hi=>?_) (by rw[hb,vaw (by simp[hz])]) 0 (vaI _)
 ·rw[vbj,wB s1 s2 hlen]at this
  rw[show((0:Nat):Int)=0 from rfl]at this
  rw[this]
  by_cases h:s1=s2<;>simp[h]
 ·have h1:i<s1.length:=by omega
  have h2:i<s2.length:=by omega
  rw[hb,vav (by simp;omega),kQ s1 i h1,vab,kQ s2 i h2,vab]
  rw[List.getElem_zip]
  cases jz s1[i] s2[i]<;>rfl
theorem xq(s1 s2:List ak)(hl:s1.length<4611686018427387904):iC s1 s2=some (decide (s1=s2)):=by
 unfold iC
 by_cases h:s1.length=s2.length
 ·rw[vaw (by simp[h])]
  unfold ic
  rw[x7 s1 s2 h hl (fun zz=>f7 s1 s2 (s1.length:Int) zz) (fun i=>rfl),vab]
  by_cases h2:s1=s2<;>simp[h2]
 ·rw[vav (by simp;omega)]
  have:s1≠s2:=fun e=>h (by rw[e])
  simp[this]
theorem yJ(a b:ac)(hl:a.Arcs.length<4611686018427387904):dl a b=some (decide (a=b)):=by
 unfold dl
 obtain⟨a1,a2,a3⟩:=a
 obtain⟨b1,b2,b3⟩:=b
 simp only at hl ⊢
 by_cases h1:a1=b1
 ·subst h1
  rw[vav (by simp)]
  by_cases h2:a2=b2
  ·subst h2
   rw[vav (by simp),xq a3 b3 hl]
   simp
  ·rw[vaw (by simp[h2])];simp[h2]
 ·rw[vaw (by simp[h1])];simp[h1]
theorem u4(m:Nat->Int)(L:Nat)(a b:Int):eQ (eQ m L a) L b=eQ m L b:=by
 funext k;unfold eQ;split<;>rfl
theorem uG(g:ac)(h:w4 g.Arcs):dV g=some (eT g.Arcs):=by
 unfold dV eY
 have hl:=qc h
 have key:=vj (X:=Nat->Int) g.Arcs (by omega) (fun(i:Int) (m:Nat->Int)=>(i,m)) (fun(zz:Int×(Nat->Int))=>er g.Arcs (g.Arcs.length:Int) zz.1 zz.2)
  (fun i m x=>(lF 6 x.From).bind fun i3=>(lF 6 x.To).bind fun i4=>if x.Strict=true then(lF 6 x.From).bind fun i7=>(lF 6 x.To).bind fun i8=>some (.inl (eW (i+1),eQ (eQ m (0+i3 * 6+i4 * 1) 1) (0+i7 * 6+i8 * 1) 2))else some (.inl (eW (i+1),eQ m (0+i3 * 6+i4 * 1) 1)))
  (fun _ _=>True) (fun x m=>eQ m (ix x) (wt x)) id (nc 0) trivial (fun i s=>rfl) (fun i hi s _=>⟨?_,trivial⟩)
 ·rw[key,vab]
  have:∀(l:List ak) (m:Nat->Int),l.foldl (fun s x=>eQ s (ix x) (wt x)) m=tz l m:=by
   intro l
   induction l with
   |nil=>intro m;rfl
   |cons x r ih=>intro m;rw[List.foldl_cons,ih];rfl
  rw[this]
  rfl
 ·obtain⟨a,b,c,d⟩:=h.1 _ (vbi hi)
  rw[rt a b,rt c d]
  simp only[vab]
  have e:0+g.Arcs[i].From.toNat * 6+g.Arcs[i].To.toNat * 1=ix g.Arcs[i]:=by unfold ix;omega
  rw[e]
  unfold wt
  split
  ·rw[u4]
  ·rfl
theorem zH(X Y:Nat->Int)(f t m:Nat)(hf:f<6)(ht:t<6)(hm:m<6):cZ (f:Int) (t:Int) (m:Int) X Y=some (decide (X (f * 6+m)>0/\Y (m * 6+t)>0)):=by
 unfold cZ
 rw[rt (by omega) (by omega),rt (by omega) (by omega)]
 simp only[vab,Int.toNat_natCast,vaz,vcs]
 by_cases h:X (f * 6+m)>0
 ·rw[vav (by simpa using h),rt (by omega) (by omega)]
  simp[h]
 ·rw[vaw (by simpa using h)];simp[h]
theorem zI(X Y:Nat->Int)(f t:Nat)(hf:f<6)(ht:t<6):da (f:Int) (t:Int) X Y 0 0=some (rN X Y f t 6):=by
 unfold da
 refine np 6 _ (fun m=>(rN X Y f t m,(m:Int))) _ (fun m hm=>?_) ?_
 ·unfold cx
  rw[vav (by simp;omega),zH X Y f t m hf ht hm,vab]
  have hw:eW ((m:Int)+1)=((m+1:Nat):Int):=by rw[nA (by omega) (by omega)];omega
  by_cases h:X (f * 6+m)>0/\Y (m * 6+t)>0
  ·rw[vav (by simpa using h),rt (by omega) (by omega),rt (by omega) (by omega),rt (by omega) (by omega)]
   simp only[vab,Int.toNat_natCast,vaz,vcs]
   rw[hw]
   show some (Sum.inl _)=some (Sum.inl (rN X Y f t (m+1),((m+1:Nat):Int)))
   congr 3
   show _=qh X Y f t m (rN X Y f t m)
   unfold qh mx
   rw[vav h]
  ·rw[vaw (by simpa using h),hw]
   show some (Sum.inl _)=some (Sum.inl (rN X Y f t (m+1),((m+1:Nat):Int)))
   congr 3
   show _=qh X Y f t m (rN X Y f t m)
   unfold qh
   rw[vaw h]
 ·unfold cx
  rw[vaw (by simp)]
def kI(M:Nat->Int)(n:Nat):List ak:=(List.range n).filterMap fun L=>if M L>0 then some (iH M L)else none
theorem tK(M:Nat->Int)(n:Nat):kI M (n+1)=kI M n++(if M n>0 then[iH M n]else[]):=by
 unfold kI
 rw[List.range_succ,List.filterMap_append]
 congr 1
 by_cases h:M n>0<;>simp[h]
theorem uP(M:Nat->Int)(n:Nat):(kI M n).length<=n:=by
 unfold kI
 exact vaL (vb5 _ _) (by simp)
theorem u9{X:Type}(M:Nat->Int)(inner:Int->Int×List ak->Option ((Int×List ak)⊕List ak))(outer:Int×List ak->Option ((Int×List ak)⊕List ak))
  (hi:∀(f t:Nat) l,f<6->t<6->l.length<=36->inner f (t,l)=some (.inl (((t+1:Nat):Int),l++(if M (f * 6+t)>0 then[iH M (f * 6+t)]else[]))))
  (hie:∀(f:Nat) l,inner f (6,l)=some (.inr l))
  (ho:∀(f:Nat) l,f<6->outer (f,l)=(loop (inner f) (0,l)).bind fun o=>some (.inl (((f+1:Nat):Int),o)))
  (hoe:∀l,outer (6,l)=some (.inr l)):loop outer (0,[])=some (gP M):=by
 have hin:∀f:Nat,f<6->loop (inner (f:Int)) (0,kI M (f * 6))=some (kI M ((f+1) * 6)):=fun f hf=>by
  have h6:(f+1) * 6=f * 6+6:=by omega
  rw[h6]
  refine np 6 _ (fun t=>((t:Int),kI M (f * 6+t))) _ (fun t ht=>?_) (hie f _)
  rw[hi f t _ hf ht (vaL (uP _ _) (by omega)),<-tK]
  rfl
 refine np 6 _ (fun f=>((f:Int),kI M (f * 6))) _ (fun f hf=>?_) (hoe _)
 rw[ho f _ hf,hin f hf,vab]
theorem uX(a b:ac)(ha:w4 a.Arcs)(hb:w4 b.Arcs):bC a b=some (mO a b):=by
 unfold bC
 rw[uG a ha,vab,uG b hb,vab]
 have:=u9 (X:=Unit) (hU (eT a.Arcs) (eT b.Arcs)) (fun f zz=>bO f (eT a.Arcs) (eT b.Arcs) zz.1 zz.2) (fun zz=>bN (eT a.Arcs) (eT b.Arcs) zz.1 zz.2)
  (fun f t l hf ht hl=>?_) (fun f l=>?_) (fun f l hf=>?_) (fun l=>?_)
 ·unfold ep
  rw[this]
  rfl
 ·simp only
  unfold bO
  rw[vav (by simp;omega),zI _ _ f t hf ht,vab,<-iw hf ht]
  have hw:eW ((t:Int)+1)=((t+1:Nat):Int):=by rw[nA (by omega) (by omega)];omega
  by_cases h:hU (eT a.Arcs) (eT b.Arcs) (f * 6+t)>0
  ·rw[vav (by simpa using h),vav h,zE (by simp;omega),vab,hw]
   congr 4
   unfold iH
   rw[show(f * 6+t) / 6=f by omega,show(f * 6+t) % 6=t by omega]
  ·rw[vaw (by simpa using h),vaw h,hw]
   simp
 ·simp only
  unfold bO
  rw[vaw (by simp)]
 ·simp only
  unfold bN
  rw[vav (by simp;omega),nA (by omega) (by omega)]
  rfl
 ·simp only
  unfold bN
  rw[vaw (by simp)]
def Bx:ac:=⟨[],[],[]⟩
def oI(a b:ac):ac×Int:=if vG a≠0 then(Bx,vG a)else if vG b≠0 then(Bx,vG b)else if a.Callee=b.Caller then(mO a b,0)else(Bx,6)
theorem kE(a b:ac)(ha:a.Arcs.length<4611686018427387904)(hb:b.Arcs.length<4611686018427387904):bh a b=some (oI a b):=by
 unfold bh oI
 rw[qf a ha,vab]
 by_cases h1:vG a=0
 ·simp only[h1,bne_self_eq_false,vaR,if_false,ne_eq,not_true_eq_false]
  rw[qf b hb,vab]
  by_cases h2:vG b=0
  ·simp only[h2,bne_self_eq_false,vaR,if_false,ne_eq,not_true_eq_false]
   by_cases h3:a.Callee=b.Caller
   ·rw[vaw (by simp[h3]),vav h3,uX a b (q8.1 h1).arcs (q8.1 h2).arcs]
    rfl
   ·rw[vav (by simp[h3]),vaw h3];rfl
  ·simp only[show(vG b !=0)=true by simp[h2],if_true,ne_eq,h2,not_false_eq_true];rfl
 ·simp only[show(vG a !=0)=true by simp[h1],if_true,ne_eq,h1,not_false_eq_true];rfl
theorem kH:j5=some true:=by kernel_rfl
theorem zO(n:Int)(l:List ac)(hl:l.length<4611686018427387904):pU n l=some (l.all (fun g=>decide (g.Arcs.length<=40))&&decide ((l.length:Int)<=n)):=by
 unfold pU m9
 rw[wX l (by omega) (fun zz=>kG l (l.length:Int) zz) (fun i x2=>if(decide ((x2.Arcs.length:Int)>40))=true then some (.inr (.inl ()))else some (.inl (eW (i+1)))) (fun g=>decide ((g.Arcs.length:Int)>40)) (.inl ()) (.inr ()) (fun i=>rfl) (fun x hx i=>by split<;>simp_all),vab]
 have:l.any (fun g=>decide ((g.Arcs.length:Int)>40))= !l.all (fun g=>decide (g.Arcs.length<=40)):=by
  rw[List.not_all_eq_any_not]
  congr 1
  funext g
  rw[vcn];simp;omega
 rw[this]
 cases l.all (fun g=>decide (g.Arcs.length<=40))<;>simp
theorem xL{n:Int}{l:List ac}(h:(l.all (fun g=>decide (g.Arcs.length<=40))&&decide ((l.length:Int)<=n))=true):(∀g∈l,g.Arcs.length<=40)/\(l.length:Int)<=n:=by
 simp only[vac,vao,vah]at h
 exact h
theorem jn(a b c:ac)(h:tf (ae a)+(tf (ae b)+(tf (ae c)+0))<=1048576):du a b c=some true:=by
 unfold du
 rw[zO 3 [a,b,c] (by simp),vab]
 cases hf:([a,b,c].all (fun g=>decide (g.Arcs.length<=40))&&decide ((([a,b,c]:List ac).length:Int)<=3))with
 |false=>rw[vav (by simp),kH];rfl
 | true =>
  obtain⟨h1,_⟩:=xL hf
  have ha:=h1 a (by simp)
  have hb:=h1 b (by simp)
  have hc:=h1 c (by simp)
  rw[vaw (by simp),kE a b (by omega) (by omega),vab,kE b c (by omega) (by omega),vab]
  by_cases e1:(oI a b).2=0
  ·by_cases e2:(oI b c).2=0
   ·have key:∀x y,(oI x y).2=0->zl x/\zl y/\x.Callee=y.Caller/\oI x y=(mO x y,0):=fun x y e=>by
     unfold oI at e ⊢
     split at e
     ·rename_i hv;exact absurd e hv
     ·rename_i hv
      split at e
      ·rename_i hw;exact absurd e hw
      ·rename_i hw
       split at e
       ·rename_i hq
        rw[vaw hv,vaw hw,vav hq]
        exact⟨q8.1 (by simpa using hv),q8.1 (by simpa using hw),hq,rfl⟩
       ·cases e
    obtain⟨oa,ob,q1,r1⟩:=key a b e1
    obtain⟨_,oc,q2,r2⟩:=key b c e2
    have cr:∀x y,zl x->zl y->x.Callee=y.Caller->oI x y=(mO x y,0):=fun x y hx hy hq=>by
     unfold oI
     rw[vaw (by simp[q8.2 hx]),vaw (by simp[q8.2 hy]),vav hq]
    have oab:=og oa ob
    have obc:=og ob oc
    rw[r1,r2]
    have hJ:ay 0 0=some false:=by unfold ay;rfl
    rw[hJ,vab,vaw (by simp)]
    have l1:=qc oab.arcs
    have l2:=qc obc.arcs
    have l3:=qc (og oab oc).arcs
    simp only
    rw[kE _ _ (by omega) (by omega),vab,kE _ _ (by omega) (by omega),vab,cr _ _ oab oc q2,cr _ _ oa obc q1]
    simp only[beq_self_eq_true,if_true]
    rw[yJ _ _ (by omega),vab,vav (by rw[tQ];simp),qf _ (by omega),vab,q8.2 (og oab oc)]
    simp only[beq_self_eq_true,if_true]
    rw[kH];rfl
   ·have hJ:ay (oI a b).2 (oI b c).2=some true:=by
     unfold ay
     simp[e1,e2]
    rw[hJ,vab,vav rfl,kH];rfl
  ·have hJ:ay (oI a b).2 (oI b c).2=some true:=by
    unfold ay
    simp[e1]
   rw[hJ,vab,vav rfl,kH];rfl
end Go.Proofs.YtoficachfgggjaaDoor
