/- PROVED: a part of the proof. Conditions: none. -/
import Derived.Test.YtggeppllafbidaaGreatDoorPkF9
noncomputable section
namespace Go.Proofs.YtggeppllafbidaaGreatDoor
open Go Go.Proofs.Tryz
set_option linter.unusedVariables false
set_option maxRecDepth 100000
noncomputable def Yy:Code:=f99.body.getD .skip
def Yg:List Nat:=[21]
section
variable(R23:pg)(t14:waB)(t15:Int)(m:waB)(m2:Int)(m3:ag)(m4:Int)(t16:Int)(m5:waB)
def gD:ax:=aP 29 [(2,.bptr 1 0),(3,.bptr 2 0),(14,sl ac t14),(15,.int .i64 t15),(16,.int .i64 t16)] [.dead,.cells [.int .i64 0,.str ([]:ag),.int .i64 0,sl ac m] [(3,28)],.cells [.int .i64 m2,.str m3,.int .i64 m4,sl ac m5] [(3,28)]] []
def oR(o:waB):ax:=aP 29 [(2,.bptr 1 0),(3,.bptr 2 0)] [.dead,.cells [.int .i64 0,.str ([]:ag),.int .i64 0,sl ac m] [(3,28)],.cells [.int .i64 m2,.str m3,.int .i64 m4,sl ac o] [(3,28)]] []
def kz:Option ((Int×waB)⊕(waB)):=
 if(decide (t16<t15))=true then
  (dt t14 t16).bind fun x2=>
  (R23 x2).bind fun r3=>
  (app m5 ([r3]:List aa)).bind fun l4=>
  some (.inl (bA (t16+1),l4))
 else
  some (.inr m5)
def tb:Option waB:=loop (fun(zz:Int×waB)=>kz R23 t14 t15 zz.1 zz.2) (t16,m5)
theorem CB(hR23:uM R23){y:(Int×waB)⊕(waB)}(h:kz R23 t14 t15 t16 m5=some y):aL Pg GE 0 (cA Yy 119) (LQ (fun(zz:Int×waB)=>gD t14 t15 m m2 m3 m4 zz.1 zz.2) (fun _=>.exit 0) (oR m m2 m3 m4) y) (gD t14 t15 m m2 m3 m4 t16 m5):=by
 rcases aK h with⟨c1,h⟩|⟨c1,h⟩
 ·obtain⟨x2,bx2,h⟩:=aw h
  obtain⟨r3,br3,h⟩:=aw h
  obtain⟨l4,bl4,h⟩:=aw h
  obtain rfl:=lf h
  have z:=sg 0 c1<|sv (aS.ia (k:=.i64) bx2)<|sv (az x2)<|sx d9<|sx (bp x2)<|CO [0,1,0,4,12,31,63,127]<|sv (aU x2 [])<|aX (hR23 _ _ br3)<|sv (aS.mk' (v:=cj) bz ([r3]:List aa) 1 (by kernel_rfl))<|sv (aS.ap bl4)<|V1 (rfl:ct (sl ac l4)=some [sl ac l4])<|lG 0 .normal (gD t14 t15 m m2 m3 m4 (bA (t16+1)) l4) rfl (cb (aI (cQ rfl) (aI (cQ rfl) (aI (up (am ah t14)) (aI trivial (aI trivial trivial)))))) (aI trivial (aI (aI trivial (aI trivial (aI trivial (aI (up (am ah m)) trivial)))) (aI (aI trivial (aI trivial (aI trivial (aI (up (am ah l4)) trivial)))) trivial)))
  exact cc (A:=Yg) mixed z<|by kernel_rfl
 ·obtain rfl:=lf h
  have z:=sg 0 c1<|eF (.exit 0) (oR m m2 m3 m4 m5)
  exact eS Yg (by intro hx;cases hx) z<|by kernel_rfl
theorem DV(hR23:uM R23){x:waB}(h:tb R23 t14 t15 t16 m5=some x):aL Pg GE 0 (.loop (cA Yy 119)) (EX (.exit 0) (oR m m2 m3 m4 x)) (gD t14 t15 m m2 m3 m4 t16 m5):=
 aL.loop (S:=fun(zz:Int×waB)=>gD t14 t15 m m2 m3 m4 zz.1 zz.2) (ex:=(fun _=>.exit 0)) (s:=(t16,m5)) h fun zz y hy=>CB R23 t14 t15 m m2 m3 m4 zz.1 zz.2 hR23 hy
end
def vw(R23:pg)(p:aa):Option aa:=
 (tb R23 p.Kids (p.Kids.length:Int) 0 ([]:List aa)).bind fun o5=>
 some (⟨p.Op,p.Name,p.N,o5⟩:aa)
theorem Hh(R23:pg)(hR23:uM R23){p:aa}{r:aa}(h:vw R23 p=some r):CC Pg GE 99 [.agg (ac p)] (.agg (ac r)) [(3,28)]:=by
 obtain⟨o5,bo5,h⟩:=aw h
 obtain rfl:=lf h
 have z:=se (bh p)<|sx d9<|sv (aB p)<|sv (aC p)<|sv (bF p)<|sv (bN p)<|sv (bG p)<|sv (bO p)<|sb (sL p.Op p.Name p.N) (sJ p.Op p.Name p.N)<|sx d9<|sy (aR (⟨p.Op,p.Name,p.N,([]:List aa)⟩:aa))<|sv (aH p)<|sv (aJ p)<|b9 (aS.ln p.Kids)<|cm (DV R23 p.Kids (p.Kids.length:Int) ([]:List aa) p.Op p.Name p.N 0 ([]:List aa) hR23 bo5)<|sz (aU (⟨p.Op,p.Name,p.N,o5⟩:aa) [])<|sy (aR (⟨p.Op,p.Name,p.N,o5⟩:aa))<|en (aI (dG (⟨p.Op,p.Name,p.N,o5⟩:aa))<|aI (ah (⟨p.Op,p.Name,p.N,o5⟩:aa))<|rT)
 exact bo Yg call99 func99 (c:=Yy) rfl (aI (ah p) trivial) z<|by kernel_rfl
def pw:(aa->Option aa)->(aa)->Option aa:=fun(rec:aa->Option aa) (x:aa)=>vw (fun p=>rec p) x
def mU(p:aa):Option aa:=ku pw p
theorem nI{p:aa}{r:aa}(h:mU p=some r):CC Pg GE 99 [.agg (ac p)] (.agg (ac r)) [(3,28)]:=
 cn (F:=pw) (M:=fun(x:aa) (r:aa)=>CC Pg GE 99 [.agg (ac x)] (.agg (ac r)) [(3,28)]) (fun rec hrec x r h=>Hh _ (fun p r h=>hrec p r h) h) h
noncomputable def Q8:Code:=f101.body.getD .skip
def Mc:List Nat:=[46]
section
variable(v:waA)(v2:waB)(p:aa)(i:Int)(m:waB)
def CA:ax:=aP 56 [(1,sl cS v),(2,sl ac v2),(3,.eptr (ac p)),(6,.bptr 1 0),(7,.int .i64 i)] [.dead,.cells [.int .i64 0,.str ([]:ag),.int .i64 0,sl ac m] [(3,28)]] []
def mF(o:Bool):ax:=aP 56 [(1,sl cS v),(2,sl ac v2),(3,.eptr (ac p)),(6,.bptr 1 0),(7,.int .i64 i),(25,.bool o)] [.dead,.cells [.int .i64 0,.str ([]:ag),.int .i64 0,sl ac m] [(3,28)]] []
def wv:Option Bool:=
 if(decide (i>=0))=true then
  some (decide (i<(v2.length:Int)))
 else
  some false
theorem AW{x:Bool}(h:wv v2 i=some x):aL Pg GE 0 (cA Q8 106) (EX .normal (mF v v2 p i m x)) (CA v v2 p i m):=by
 rcases aK h with⟨c4,h⟩|⟨c4,h⟩
 ·obtain rfl:=lf h
  exact bE Mc (sg 3 c4<|b9 (aS.ln v2)<|eF .normal (mF v v2 p i m (decide (i<(v2.length:Int)))))<|by kernel_rfl
 ·obtain rfl:=lf h
  exact bE Mc (sg 3 c4<|eF .normal (mF v v2 p i m false))<|by kernel_rfl
end
section
variable(v:waA)(v2:waB)(p:aa)(m:waB)
def Cz:ax:=aP 56 [(1,sl cS v),(2,sl ac v2),(3,.eptr (ac p)),(6,.bptr 1 0)] [.dead,.cells [.int .i64 0,.str ([]:ag),.int .i64 0,sl ac m] [(3,28)]] []
def hZ(o:(Int×ag×Int×waB)⊕(Unit)):Exit:=match o with
 |(.inl _)=>.ret
 |(.inr _)=>.normal
def dT(o:(Int×ag×Int×waB)⊕(Unit)):ax:=match o with
 |(.inl o)=>aP 56 [(6,.bptr 1 0)] [.dead,.cells [.int .i64 o.1,.str o.2.1,.int .i64 o.2.2.1,sl ac o.2.2.2] [(3,28)]] []
 |(.inr o)=>aP 56 [(1,sl cS v),(2,sl ac v2),(3,.eptr (ac p)),(6,.bptr 1 0)] [.dead,.cells [.int .i64 0,.str ([]:ag),.int .i64 0,sl ac m] [(3,28)]] []
def wu:Option ((Int×ag×Int×waB)⊕(Unit)):=
 if(p.Op==3)=true then
  (Cp v p.Name).bind fun r3=>
  (wv v2 r3).bind fun o5=>
  if o5=true then
   (dt v2 r3).bind fun x8=>
   (mU x8).bind fun r9=>
   some (.inl (r9.Op,r9.Name,r9.N,r9.Kids))
  else
   some (.inr ())
 else
  some (.inr ())
theorem qK{x:(Int×ag×Int×waB)⊕(Unit)}(h:wu v v2 p=some x):aL Pg GE 0 (cA Q8 6) (EX (hZ x) (dT v v2 p m x)) (Cz v v2 p m):=by
 have p2:=fun{sc F} (r:PS sc F)=>sv (aB p)<|sv (aC p)<|r
 rcases aK h with⟨c1,h⟩|⟨c1,h⟩
 ·obtain⟨r3,br3,h⟩:=aw h
  obtain⟨o5,bo5,h⟩:=aw h
  have p7:=fun{sc F} (r:PS sc F)=>p2<|sg 0 c1<|sv (bF p)<|sv (bN p)<|aX (Bx br3)<|jC 0<|cm (AW v v2 p r3 m bo5)<|r
  rcases aK h with⟨c6,h⟩|⟨c6,h⟩
  ·obtain⟨x8,bx8,h⟩:=aw h
   obtain⟨r9,br9,h⟩:=aw h
   obtain rfl:=lf h
   exact bE Mc (p7<|sg 0 c6<|sv (aS.ia (k:=.i64) bx8)<|sv (az x8)<|aX (nI br9)<|sy (aR r9)<|eF (hZ (.inl (r9.Op,r9.Name,r9.N,r9.Kids))) (dT v v2 p m (.inl (r9.Op,r9.Name,r9.N,r9.Kids))))<|by kernel_rfl
  ·obtain rfl:=lf h
   exact bE Mc (p7<|sg 0 c6<|eF (hZ (.inr ())) (dT v v2 p m (.inr ())))<|by kernel_rfl
 ·obtain rfl:=lf h
  exact bE Mc (p2<|sg 0 c1<|eF (hZ (.inr ())) (dT v v2 p m (.inr ())))<|by kernel_rfl
end
section
variable(R21:mb)(v:waA)(v2:waB)(t39:waB)(t40:Int)(m:waB)(m2:Int)(m3:ag)(m4:Int)(t41:Int)(m5:waB)
def fe:ax:=aP 56 [(1,sl cS v),(2,sl ac v2),(6,.bptr 1 0),(8,.bptr 2 0),(39,sl ac t39),(40,.int .i64 t40),(41,.int .i64 t41)] [.dead,.cells [.int .i64 0,.str ([]:ag),.int .i64 0,sl ac m] [(3,28)],.cells [.int .i64 m2,.str m3,.int .i64 m4,sl ac m5] [(3,28)]] []
def mG(o:waB):ax:=aP 56 [(6,.bptr 1 0),(8,.bptr 2 0)] [.dead,.cells [.int .i64 0,.str ([]:ag),.int .i64 0,sl ac m] [(3,28)],.cells [.int .i64 m2,.str m3,.int .i64 m4,sl ac o] [(3,28)]] []
def ta:Option ((Int×waB)⊕(waB)):=
 if(decide (t41<t40))=true then
  (dt t39 t41).bind fun x12=>
  (R21 x12 v v2).bind fun r13=>
  (app m5 ([r13]:List aa)).bind fun l14=>
  some (.inl (bA (t41+1),l14))
 else
  some (.inr m5)
def ww:Option waB:=loop (fun(zz:Int×waB)=>ta R21 v v2 t39 t40 zz.1 zz.2) (t41,m5)
theorem zV(hR21:ql R21){y:(Int×waB)⊕(waB)}(h:ta R21 v v2 t39 t40 t41 m5=some y):aL Pg GE 0 (cA Q8 247) (LQ (fun(zz:Int×waB)=>fe v v2 t39 t40 m m2 m3 m4 zz.1 zz.2) (fun _=>.exit 0) (mG m m2 m3 m4) y) (fe v v2 t39 t40 m m2 m3 m4 t41 m5):=by
 rcases aK h with⟨c11,h⟩|⟨c11,h⟩
 ·obtain⟨x12,bx12,h⟩:=aw h
  obtain⟨r13,br13,h⟩:=aw h
  obtain⟨l14,bl14,h⟩:=aw h
  obtain rfl:=lf h
  have z:=sg 0 c11<|sv (aS.ia (k:=.i64) bx12)<|sv (az x12)<|sx d9<|sx (bp x12)<|CO [0,1,0,0,0,28,60,127,255,511]<|sv (aU x12 [])<|aX (hR21 _ _ _ _ br13)<|sv (aS.mk' (v:=cj) bz ([r13]:List aa) 1 (by kernel_rfl))<|sv (aS.ap bl14)<|V1 (rfl:ct (sl ac l14)=some [sl ac l14])<|lG 0 .normal (fe v v2 t39 t40 m m2 m3 m4 (bA (t41+1)) l14) rfl (cb (aI (up (am d8 v)) (aI (up (am ah v2)) (aI (cQ rfl) (aI (cQ rfl) (aI (up (am ah t39)) (aI trivial (aI trivial trivial)))))))) (aI trivial (aI (aI trivial (aI trivial (aI trivial (aI (up (am ah m)) trivial)))) (aI (aI trivial (aI trivial (aI trivial (aI (up (am ah l14)) trivial)))) trivial)))
  exact cc (A:=Mc) mixed z<|by kernel_rfl
 ·obtain rfl:=lf h
  have z:=sg 0 c11<|eF (.exit 0) (mG m m2 m3 m4 m5)
  exact eS Mc (by intro hx;cases hx) z<|by kernel_rfl
theorem AX(hR21:ql R21){x:waB}(h:ww R21 v v2 t39 t40 t41 m5=some x):aL Pg GE 0 (.loop (cA Q8 247)) (EX (.exit 0) (mG m m2 m3 m4 x)) (fe v v2 t39 t40 m m2 m3 m4 t41 m5):=
 aL.loop (S:=fun(zz:Int×waB)=>fe v v2 t39 t40 m m2 m3 m4 zz.1 zz.2) (ex:=(fun _=>.exit 0)) (s:=(t41,m5)) h fun zz y hy=>zV R21 v v2 t39 t40 m m2 m3 m4 zz.1 zz.2 hR21 hy
end
def yA(R21:mb)(p:aa)(a:waA)(a2:waB):Option aa:=
 (wu a a2 p).bind fun o10=>match o10 with
 |(.inl o10)=>
  some (⟨o10.1,o10.2.1,o10.2.2.1,o10.2.2.2⟩:aa)
 |(.inr o10)=>
  (ww R21 a a2 p.Kids (p.Kids.length:Int) 0 ([]:List aa)).bind fun o15=>
  some (⟨p.Op,p.Name,p.N,o15⟩:aa)
theorem DU(R21:mb)(hR21:ql R21){p:aa}{a:waA}{a2:waB}{r:aa}(h:yA R21 p a a2=some r):CC Pg GE 101 [.agg (ac p),sl cS a,sl ac a2] (.agg (ac r)) [(3,28)]:=by
 obtain⟨o10,bo10,h⟩:=aw h
 rcases o10 with o10|o10
 ·obtain rfl:=lf h
  have z:=se (bh p)<|sx d9<|jC 0<|cm (e:=.ret) (s1:=dT a a2 p ([]:List aa) (.inl o10)) (qK a a2 p ([]:List aa) bo10)<|en (aI (dG (⟨o10.1,o10.2.1,o10.2.2.1,o10.2.2.2⟩:aa))<|aI (ah (⟨o10.1,o10.2.1,o10.2.2.1,o10.2.2.2⟩:aa))<|rT)
  exact bo Mc call101 func101 (c:=Q8) rfl (aI (ah p) (aI (am d8 a) (aI (am ah a2) trivial))) z<|by kernel_rfl
 ·obtain⟨o15,bo15,h⟩:=aw h
  obtain rfl:=lf h
  have z:=se (bh p)<|sx d9<|jC 0<|cm (e:=.normal) (s1:=dT a a2 p ([]:List aa) (.inr o10)) (qK a a2 p ([]:List aa) bo10)<|sv (aB p)<|sv (aC p)<|sv (bF p)<|sv (bN p)<|sv (bG p)<|sv (bO p)<|sb (sL p.Op p.Name p.N) (sJ p.Op p.Name p.N)<|sx d9<|sy (aR (⟨p.Op,p.Name,p.N,([]:List aa)⟩:aa))<|sv (aH p)<|sv (aJ p)<|b9 (aS.ln p.Kids)<|cm (AX R21 a a2 p.Kids (p.Kids.length:Int) ([]:List aa) p.Op p.Name p.N 0 ([]:List aa) hR21 bo15)<|sz (aU (⟨p.Op,p.Name,p.N,o15⟩:aa) [])<|sy (aR (⟨p.Op,p.Name,p.N,o15⟩:aa))<|en (aI (dG (⟨p.Op,p.Name,p.N,o15⟩:aa))<|aI (ah (⟨p.Op,p.Name,p.N,o15⟩:aa))<|rT)
  exact bo Mc call101 func101 (c:=Q8) rfl (aI (ah p) (aI (am d8 a) (aI (am ah a2) trivial))) z<|by kernel_rfl
def yB:((aa×waA×waB)->Option aa)->(aa×waA×waB)->Option aa:=fun(rec:(aa×waA×waB)->Option aa) (x:aa×waA×waB)=>yA (fun p a a2=>rec (p,a,a2)) x.1 x.2.1 x.2.2
def vq(p:aa)(a:waA)(a2:waB):Option aa:=ku yB (p,a,a2)
theorem wx{p:aa}{a:waA}{a2:waB}{r:aa}(h:vq p a a2=some r):CC Pg GE 101 [.agg (ac p),sl cS a,sl ac a2] (.agg (ac r)) [(3,28)]:=
 cn (F:=yB) (M:=fun(x:aa×waA×waB) (r:aa)=>CC Pg GE 101 [.agg (ac x.1),sl cS x.2.1,sl ac x.2.2] (.agg (ac r)) [(3,28)]) (fun rec hrec x r h=>DU _ (fun p a a2 r h=>hrec (p,a,a2) r h) h) h
noncomputable def qal:Code:=f89.body.getD .skip
def Z3:List Nat:=[]
def dM(s:ai)(p:aa):Option aa:=
 (vq p s.names s.by_).bind fun r1=>
 some r1
theorem eA{s:ai}{p:aa}{r:aa}(h:dM s p=some r):CC Pg GE 89 [.agg (aq s),.agg (ac p)] (.agg (ac r)) [(3,28)]:=by
 obtain⟨r1,br1,h⟩:=aw h
 obtain rfl:=lf h
 have z:=se (cG s)<|se (bh p)<|sx d9<|sv (az p)<|sv (io s)<|sv (iq s)<|sv (ey s)<|sv (ez s)<|aX (wx br1)<|sy (aR r1)<|en (aI (dG r1)<|aI (ah r1)<|rT)
 exact bo Z3 call89 func89 (c:=qal) rfl (aI (aY s) (aI (ah p) trivial)) z<|by kernel_rfl
noncomputable def Yt:Code:=f73.body.getD .skip
def Yc:List Nat:=[14,21]
section
variable(v:ai)(t8:waB)(t9:Int)(out:waB)(t10:Int)
def eH:ax:=aP 22 [(1,.func (.func 89) [.agg (aq v)] []),(5,sl ac out),(8,sl ac t8),(9,.int .i64 t9),(10,.int .i64 t10)] [] [((5,0),28)]
def kL(o:waB):ax:=aP 22 [(5,sl ac o)] [] [((5,0),28)]
def qN:Option ((waB×Int)⊕(waB)):=
 if(decide (t10<t9))=true then
  (dt t8 t10).bind fun x2=>
  (dM v x2).bind fun r3=>
  (app out ([r3]:List aa)).bind fun l4=>
  some (.inl (l4,bA (t10+1)))
 else
  some (.inr out)
def uD:Option waB:=loop (fun(zz:waB×Int)=>qN v t8 t9 zz.1 zz.2) (out,t10)
theorem yV{y:(waB×Int)⊕(waB)}(h:qN v t8 t9 out t10=some y):aL Pg GE 0 (cA Yt 119) (LQ (fun(zz:waB×Int)=>eH v t8 t9 zz.1 zz.2) (fun _=>.exit 0) kL y) (eH v t8 t9 out t10):=by
 rcases aK h with⟨c1,h⟩|⟨c1,h⟩
 ·obtain⟨x2,bx2,h⟩:=aw h
  obtain⟨r3,br3,h⟩:=aw h
  obtain⟨l4,bl4,h⟩:=aw h
  obtain rfl:=lf h
  have z:=sg 0 c1<|sv (aS.ia (k:=.i64) bx2)<|sv (az x2)<|sx d9<|sx (bp x2)<|sv (aU x2 [])<|aX (eA br3)<|sv (aS.mk' (v:=cj) bz ([r3]:List aa) 1 (by kernel_rfl))<|sv (aS.ap bl4)<|lG 0 .normal (eH v t8 t9 l4 (bA (t10+1))) rfl (cb (aI (aI (aI (up (aY v)) trivial) trivial) (aI (up (am ah l4)) (aI (up (am ah t8)) (aI trivial (aI trivial trivial)))))) trivial
  exact cc (A:=Yc) mixed z<|by kernel_rfl
 ·obtain rfl:=lf h
  have z:=sg 0 c1<|eF (.exit 0) (kL out)
  exact eS Yc (by intro hx;cases hx) z<|by kernel_rfl
theorem Aa{x:waB}(h:uD v t8 t9 out t10=some x):aL Pg GE 0 (.loop (cA Yt 119)) (EX (.exit 0) (kL x)) (eH v t8 t9 out t10):=
 aL.loop (S:=fun(zz:waB×Int)=>eH v t8 t9 zz.1 zz.2) (ex:=(fun _=>.exit 0)) (s:=(out,t10)) h fun zz y hy=>yV v t8 t9 zz.1 zz.2 hy
end
def tr(a:waB)(c:ai):Option waB:=
 (uD c a (a.length:Int) ([]:List aa) 0).bind fun o5=>
 some o5
theorem uE{a:waB}{c:ai}{r:waB}(h:tr a c=some r):CC Pg GE 73 [sl ac a,.func (.func 89) [.agg (aq c)] []] (sl ac r) [(0,28)]:=by
 obtain⟨o5,bo5,h⟩:=aw h
 obtain rfl:=lf h
 have z:=b9 (aS.ln a)<|cm (Aa c a (a.length:Int) ([]:List aa) 0 bo5)<|en (aI (rP (sl ac o5))<|(am ah o5))
 exact bo Yc call73 func73 (c:=Yt) rfl (aI (am ah a) (aI (aI (aI (aY c) trivial) trivial) trivial)) z<|by kernel_rfl
noncomputable def Vy:Code:=f118.body.getD .skip
def Vf:List Nat:=[13,18]
section
variable(t7:waB)(t8:Int)(out:waA)(t9:Int)
def cx:ax:=aP 19 [(3,sl cS out),(7,sl ac t7),(8,.int .i64 t8),(9,.int .i64 t9)] [.dead] [((3,0),9)]
def dW(o:waA):ax:=aP 19 [(3,sl cS o)] [.dead] [((3,0),9)]
def gG:Option ((waA×Int)⊕(waA)):=
 if(decide (t9<t8))=true then
  (dt t7 t9).bind fun x2=>
  (rU x2).bind fun r3=>
  (app out r3).bind fun l4=>
  some (.inl (l4,bA (t9+1)))
 else
  some (.inr out)
def iM:Option waA:=loop (fun(zz:waA×Int)=>gG t7 t8 zz.1 zz.2) (out,t9)
theorem nW{y:(waA×Int)⊕(waA)}(h:gG t7 t8 out t9=some y):aL Pg GE 0 (cA Vy 119) (LQ (fun(zz:waA×Int)=>cx t7 t8 zz.1 zz.2) (fun _=>.exit 0) dW y) (cx t7 t8 out t9):=by
 rcases aK h with⟨c1,h⟩|⟨c1,h⟩
 ·obtain⟨x2,bx2,h⟩:=aw h
  obtain⟨r3,br3,h⟩:=aw h
  obtain⟨l4,bl4,h⟩:=aw h
  obtain rfl:=lf h
  have z:=sg 0 c1<|sv (aS.ia (k:=.i64) bx2)<|sv (az x2)<|sx d9<|sx (bp x2)<|sv (aU x2 [])<|aX (DR br3)<|sv (aZ.ap bl4)<|lG 0 .normal (cx t7 t8 l4 (bA (t9+1))) rfl (cb (aI (up (am d8 l4)) (aI (up (am ah t7)) (aI trivial (aI trivial trivial))))) (aI trivial trivial)
  exact cc (A:=Vf) mixed z<|by kernel_rfl
 ·obtain rfl:=lf h
  have z:=sg 0 c1<|eF (.exit 0) (dW out)
  exact eS Vf (by intro hx;cases hx) z<|by kernel_rfl
theorem oe{x:waA}(h:iM t7 t8 out t9=some x):aL Pg GE 0 (.loop (cA Vy 119)) (EX (.exit 0) (dW x)) (cx t7 t8 out t9):=
 aL.loop (S:=fun(zz:waA×Int)=>cx t7 t8 zz.1 zz.2) (ex:=(fun _=>.exit 0)) (s:=(out,t9)) h fun zz y hy=>nW t7 t8 zz.1 zz.2 hy
end
def fq(s:ai):Option waA:=
 (iM s.by_ (s.by_.length:Int) ([]:List ag) 0).bind fun o5=>
 some o5
theorem iN{s:ai}{r:waA}(h:fq s=some r):CC Pg GE 118 [.agg (aq s)] (sl cS r) [(0,9)]:=by
 obtain⟨o5,bo5,h⟩:=aw h
 obtain rfl:=lf h
 have z:=se (cG s)<|sv (ey s)<|sv (ez s)<|b9 (aS.ln s.by_)<|cm (oe s.by_ (s.by_.length:Int) ([]:List ag) 0 bo5)<|en (aI (rP (sl cS o5))<|(am d8 o5))
 exact bo Vf call118 func118 (c:=Vy) rfl (aI (aY s) trivial) z<|by kernel_rfl
abbrev np:=(ae->Option waA)
abbrev rX(R:np):Prop:=∀(t:ae) (r:waA),R t=some r->CC Pg GE 29 [.agg (af t)] (sl cS r) [(0,9)]
noncomputable def Zl:Code:=f65.body.getD .skip
def Za:List Nat:=[]
def ka(t:ae)(i:Int):Option waA:=
 if(t.Op !=6)=true then
  some ([]:List ag)
 else
  (Hy t.Names none (some (if(t.Names.length:Int)<i then(t.Names.length:Int)else i))).bind fun l3=>
  some l3
theorem D5{t:ae}{i:Int}{r:waA}(h:ka t i=some r):CC Pg GE 65 [.agg (af t),.int .i64 i] (sl cS r) []:=by
 have p2:=fun{sc F} (r:PS sc F)=>se (bH t)<|sv (au t)<|sv (av t)<|r
 rcases aK h with⟨c1,h⟩|⟨c1,h⟩
 ·obtain rfl:=lf h
  have z:=p2<|sg 0 c1<|en (aI (rP (sl cS ([]:List ag)))<|(am d8 ([]:List ag)))
  exact bo Za call65 func65 (c:=Zl) rfl (aI (aj t) (aI trivial trivial)) z<|by kernel_rfl
 ·obtain⟨l3,bl3,h⟩:=aw h
  obtain rfl:=lf h
  have z:=p2<|sg 0 c1<|sv (aM t)<|sv (aN t)<|sv (aM t)<|sv (aN t)<|b9 (aZ.ln t.Names)<|sv (aZ.sc bl3)<|en (aI (rP (sl cS l3))<|(am d8 l3))
  exact bo Za call65 func65 (c:=Zl) rfl (aI (aj t) (aI trivial trivial)) z<|by kernel_rfl
noncomputable def Ui:Code:=f29.body.getD .skip
def Sq:List Nat:=[33,44,61]
section
variable(t:ae)(t18:waB)(t19:Int)(t20:Int)(t25:waA)(t26:Int)(m:Int)(m2:ag)(m3:Int)(m4:waB)(out:waA)(t27:Int)
def eg:ax:=aP 69 [(1,.eptr (af t)),(3,sl cS out),(18,sl ac t18),(19,.int .i64 t19),(20,.int .i64 t20),(25,sl cS t25),(26,.int .i64 t26),(27,.int .i64 t27)] [.dead,.cells [.int .i64 m,.str m2,.int .i64 m3,sl ac m4] []] [((25,0),9),((18,0),28),((3,0),9)]
def nR(o:waA):ax:=aP 69 [(1,.eptr (af t)),(3,sl cS o),(18,sl ac t18),(19,.int .i64 t19),(20,.int .i64 t20)] [.dead,.cells [.int .i64 m,.str m2,.int .i64 m3,sl ac m4] []] [((18,0),28),((3,0),9)]
def uz:Option ((waA×Int)⊕(waA)):=
 if(decide (t27<t26))=true then
  (dt t25 t27).bind fun x6=>
  if(!(x6==([118]:ag)))=true then
   (app out ([x6]:List ag)).bind fun l9=>
   some (.inl (l9,bA (t27+1)))
  else
   some (.inl (out,bA (t27+1)))
 else
  some (.inr out)
def iK:Option waA:=loop (fun(zz:waA×Int)=>uz t25 t26 zz.1 zz.2) (out,t27)
theorem A1{y:(waA×Int)⊕(waA)}(h:uz t25 t26 out t27=some y):aL Pg GE 0 (cA Ui 30687) (LQ (fun(zz:waA×Int)=>eg t t18 t19 t20 t25 t26 m m2 m3 m4 zz.1 zz.2) (fun _=>.exit 2) (nR t t18 t19 t20 m m2 m3 m4) y) (eg t t18 t19 t20 t25 t26 m m2 m3 m4 out t27):=by
 rcases aK h with⟨c5,h⟩|⟨c5,h⟩
 ·obtain⟨x6,bx6,h⟩:=aw h
  have p8:=fun{sc F} (r:PS sc F)=>sg 0 c5<|sv (aZ.ia (k:=.i64) bx6)<|sv (dB Es (.str x6) [])<|r
  rcases aK h with⟨c7,h⟩|⟨c7,h⟩
  ·obtain⟨l9,bl9,h⟩:=aw h
   obtain rfl:=lf h
   exact vJ Sq (p8<|sg 0 c7<|sv (aZ.mk' (v:=PVal.str) Ge ([x6]:List ag) 1 (by kernel_rfl))<|sv (aZ.ap bl9)<|eF .normal (eg t t18 t19 t20 t25 t26 m m2 m3 m4 l9 (bA (t27+1))))<|by kernel_rfl
  ·obtain rfl:=lf h
   exact vJ Sq (p8<|sg 0 c7<|eF .normal (eg t t18 t19 t20 t25 t26 m m2 m3 m4 out (bA (t27+1))))<|by kernel_rfl
 ·obtain rfl:=lf h
  have z:=sg 0 c5<|eF (.exit 2) (nR t t18 t19 t20 m m2 m3 m4 out)
  exact eS Sq (by intro hx;cases hx) z<|by kernel_rfl
theorem CH{x:waA}(h:iK t25 t26 out t27=some x):aL Pg GE 0 (.loop (cA Ui 30687)) (EX (.exit 2) (nR t t18 t19 t20 m m2 m3 m4 x)) (eg t t18 t19 t20 t25 t26 m m2 m3 m4 out t27):=
 aL.loop (S:=fun(zz:waA×Int)=>eg t t18 t19 t20 t25 t26 m m2 m3 m4 zz.1 zz.2) (ex:=(fun _=>.exit 2)) (s:=(out,t27)) h fun zz y hy=>A1 t t18 t19 t20 t25 t26 m m2 m3 m4 zz.1 zz.2 hy
end
section
variable(t:ae)(t18:waB)(t19:Int)(out:waA)(t20:Int)
def fN:ax:=aP 69 [(1,.eptr (af t)),(3,sl cS out),(18,sl ac t18),(19,.int .i64 t19),(20,.int .i64 t20)] [.dead] [((18,0),28),((3,0),9)]
def nQ(o:waA):ax:=aP 69 [(1,.eptr (af t)),(3,sl cS o)] [.dead] [((3,0),9)]
def uy:Option ((waA×Int)⊕(waA)):=
 if(decide (t20<t19))=true then
  (dt t18 t20).bind fun x3=>
  (rU x3).bind fun r4=>
  (iK r4 (r4.length:Int) out 0).bind fun o10=>
  some (.inl (o10,bA (t20+1)))
 else
  some (.inr out)
def qu:Option waA:=loop (fun(zz:waA×Int)=>uy t18 t19 zz.1 zz.2) (out,t20)
theorem A0{y:(waA×Int)⊕(waA)}(h:uy t18 t19 out t20=some y):aL Pg GE 0 (cA Ui 119) (LQ (fun(zz:waA×Int)=>fN t t18 t19 zz.1 zz.2) (fun _=>.exit 0) (nQ t) y) (fN t t18 t19 out t20):=by
 rcases aK h with⟨c2,h⟩|⟨c2,h⟩
 ·obtain⟨x3,bx3,h⟩:=aw h
  obtain⟨r4,br4,h⟩:=aw h
  obtain⟨o10,bo10,h⟩:=aw h
  obtain rfl:=lf h
  have z:=sg 0 c2<|sv (aS.ia (k:=.i64) bx3)<|sv (az x3)<|sx d9<|sx (bp x3)<|sv (aU x3 [])<|aX (DR br4)<|b9 (aZ.ln r4)<|cm (CH t t18 t19 t20 r4 (r4.length:Int) x3.Op x3.Name x3.N x3.Kids out 0 bo10)<|lG 0 .normal (fN t t18 t19 o10 (bA (t20+1))) rfl (cb (aI (hU (aj t)) (aI (up (am d8 o10)) (aI (up (am ah t18)) (aI trivial (aI trivial trivial)))))) (aI trivial trivial)
  exact cc (A:=Sq) mixed z<|by kernel_rfl
 ·obtain rfl:=lf h
  have z:=sg 0 c2<|eF (.exit 0) (nQ t out)
  exact eS Sq (by intro hx;cases hx) z<|by kernel_rfl
theorem CG{x:waA}(h:qu t18 t19 out t20=some x):aL Pg GE 0 (.loop (cA Ui 119)) (EX (.exit 0) (nQ t x)) (fN t t18 t19 out t20):=
 aL.loop (S:=fun(zz:waA×Int)=>fN t t18 t19 zz.1 zz.2) (ex:=(fun _=>.exit 0)) (s:=(out,t20)) h fun zz y hy=>A0 t t18 t19 zz.1 zz.2 hy
end
section
variable(t:ae)(bound:waA)(t40:waC)(t41:Int)(t42:Int)(t51:waA)(t52:Int)(m:Int)(m2:ag)(m3:waC)(m4:waA)(m5:Int)(m6:ag)(m7:Int)(m8:waB)(m9:waB)(out:waA)(t53:Int)
def eh:ax:=aP 69 [(1,.eptr (af t)),(3,sl cS out),(10,sl cS bound),(40,sl af t40),(41,.int .i64 t41),(42,.int .i64 t42),(51,sl cS t51),(52,.int .i64 t52),(53,.int .i64 t53)] [.dead,.cells [.int .i64 m,.str m2,sl af m3,sl cS m4,.int .i64 m5,.str m6,.int .i64 m7,sl ac m8,sl ac m9] []] [((51,0),9),((3,0),9)]
def nT(o:waA):ax:=aP 69 [(1,.eptr (af t)),(3,sl cS o),(40,sl af t40),(41,.int .i64 t41),(42,.int .i64 t42)] [.dead,.cells [.int .i64 m,.str m2,sl af m3,sl cS m4,.int .i64 m5,.str m6,.int .i64 m7,sl ac m8,sl ac m9] []] [((3,0),9)]
def uB:Option ((waA×Int)⊕(waA)):=
 if(decide (t53<t52))=true then
  (dt t51 t53).bind fun x17=>
  (da bound x17).bind fun r18=>
  if(!r18)=true then
   (app out ([x17]:List ag)).bind fun l21=>
   some (.inl (l21,bA (t53+1)))
  else
   some (.inl (out,bA (t53+1)))
 else
  some (.inr out)
def iL:Option waA:=loop (fun(zz:waA×Int)=>uB bound t51 t52 zz.1 zz.2) (out,t53)
theorem A3{y:(waA×Int)⊕(waA)}(h:uB bound t51 t52 out t53=some y):aL Pg GE 0 (cA Ui 126911) (LQ (fun(zz:waA×Int)=>eh t bound t40 t41 t42 t51 t52 m m2 m3 m4 m5 m6 m7 m8 m9 zz.1 zz.2) (fun _=>.exit 6) (nT t t40 t41 t42 m m2 m3 m4 m5 m6 m7 m8 m9) y) (eh t bound t40 t41 t42 t51 t52 m m2 m3 m4 m5 m6 m7 m8 m9 out t53):=by
 rcases aK h with⟨c16,h⟩|⟨c16,h⟩
 ·obtain⟨x17,bx17,h⟩:=aw h
  obtain⟨r18,br18,h⟩:=aw h
  have p20:=fun{sc F} (r:PS sc F)=>sg 0 c16<|sv (aZ.ia (k:=.i64) bx17)<|sv (dB Es (.str x17) [])<|aX (dX br18)<|r
  rcases aK h with⟨c19,h⟩|⟨c19,h⟩
  ·obtain⟨l21,bl21,h⟩:=aw h
   obtain rfl:=lf h
   exact vJ Sq (p20<|sg 0 c19<|sv (aZ.mk' (v:=PVal.str) Ge ([x17]:List ag) 1 (by kernel_rfl))<|sv (aZ.ap bl21)<|eF .normal (eh t bound t40 t41 t42 t51 t52 m m2 m3 m4 m5 m6 m7 m8 m9 l21 (bA (t53+1))))<|by kernel_rfl
  ·obtain rfl:=lf h
   exact vJ Sq (p20<|sg 0 c19<|eF .normal (eh t bound t40 t41 t42 t51 t52 m m2 m3 m4 m5 m6 m7 m8 m9 out (bA (t53+1))))<|by kernel_rfl
 ·obtain rfl:=lf h
  have z:=sg 0 c16<|eF (.exit 6) (nT t t40 t41 t42 m m2 m3 m4 m5 m6 m7 m8 m9 out)
  exact eS Sq (by intro hx;cases hx) z<|by kernel_rfl
theorem CJ{x:waA}(h:iL bound t51 t52 out t53=some x):aL Pg GE 0 (.loop (cA Ui 126911)) (EX (.exit 6) (nT t t40 t41 t42 m m2 m3 m4 m5 m6 m7 m8 m9 x)) (eh t bound t40 t41 t42 t51 t52 m m2 m3 m4 m5 m6 m7 m8 m9 out t53):=
 aL.loop (S:=fun(zz:waA×Int)=>eh t bound t40 t41 t42 t51 t52 m m2 m3 m4 m5 m6 m7 m8 m9 zz.1 zz.2) (ex:=(fun _=>.exit 6)) (s:=(out,t53)) h fun zz y hy=>A3 t bound t40 t41 t42 t51 t52 m m2 m3 m4 m5 m6 m7 m8 m9 zz.1 zz.2 hy
end
section
variable(R26:np)(t:ae)(t40:waC)(t41:Int)(out:waA)(t42:Int)
def fO:ax:=aP 69 [(1,.eptr (af t)),(3,sl cS out),(40,sl af t40),(41,.int .i64 t41),(42,.int .i64 t42)] [.dead] [((3,0),9)]
def nS(o:waA):ax:=aP 69 [(3,sl cS o)] [.dead] [((3,0),9)]
def uA:Option ((waA×Int)⊕(waA)):=
 if(decide (t42<t41))=true then
  (dt t40 t42).bind fun x13=>
  (ka t t42).bind fun r14=>
  (R26 x13).bind fun r15=>
  (iL r14 r15 (r15.length:Int) out 0).bind fun o22=>
  some (.inl (o22,bA (t42+1)))
 else
  some (.inr out)
def qv:Option waA:=loop (fun(zz:waA×Int)=>uA R26 t t40 t41 zz.1 zz.2) (out,t42)
theorem A2(hR26:rX R26){y:(waA×Int)⊕(waA)}(h:uA R26 t t40 t41 out t42=some y):aL Pg GE 0 (cA Ui 247) (LQ (fun(zz:waA×Int)=>fO t t40 t41 zz.1 zz.2) (fun _=>.exit 4) nS y) (fO t t40 t41 out t42):=by
 rcases aK h with⟨c12,h⟩|⟨c12,h⟩
 ·obtain⟨x13,bx13,h⟩:=aw h
  obtain⟨r14,br14,h⟩:=aw h
  obtain⟨r15,br15,h⟩:=aw h
  obtain⟨o22,bo22,h⟩:=aw h
  obtain rfl:=lf h
  have z:=sg 0 c12<|sv (cJ.ia (k:=.i64) bx13)<|sv (aQ x13)<|sx jl<|sx (cu x13)<|sv (aQ t)<|aX (D5 br14)<|sv (bu x13 [])<|aX (hR26 _ _ br15)<|b9 (aZ.ln r15)<|cm (CJ t r14 t40 t41 t42 r15 (r15.length:Int) x13.Op x13.Name x13.Args x13.Names x13.Pred.Op x13.Pred.Name x13.Pred.N x13.Pred.Kids x13.Preds out 0 bo22)<|lG 0 .normal (fO t t40 t41 o22 (bA (t42+1))) rfl (cb (aI (hU (aj t)) (aI (up (am d8 o22)) (aI (up (am aj t40)) (aI trivial (aI trivial trivial)))))) (aI trivial trivial)
  exact cc (A:=Sq) mixed z<|by kernel_rfl
 ·obtain rfl:=lf h
  have z:=sg 0 c12<|eF (.exit 4) (nS out)
  exact eS Sq (by intro hx;cases hx) z<|by kernel_rfl
theorem CI(hR26:rX R26){x:waA}(h:qv R26 t t40 t41 out t42=some x):aL Pg GE 0 (.loop (cA Ui 247)) (EX (.exit 4) (nS x)) (fO t t40 t41 out t42):=
 aL.loop (S:=fun(zz:waA×Int)=>fO t t40 t41 zz.1 zz.2) (ex:=(fun _=>.exit 4)) (s:=(out,t42)) h fun zz y hy=>A2 R26 t t40 t41 zz.1 zz.2 hR26 hy
end
def nO(R26:np)(t:ae):Option waA:=
 (app ([t.Pred]:List aa) t.Preds).bind fun l1=>
 (qu l1 (l1.length:Int) ([]:List ag) 0).bind fun o11=>
 (qv R26 t t.Args (t.Args.length:Int) o11 0).bind fun o23=>
 (mP o23 ([]:List ag)).bind fun r24=>
 some r24
theorem Fv(R26:np)(hR26:rX R26){t:ae}{r:waA}(h:nO R26 t=some r):CC Pg GE 29 [.agg (af t)] (sl cS r) [(0,9)]:=by
 obtain⟨l1,bl1,h⟩:=aw h
 obtain⟨o11,bo11,h⟩:=aw h
 obtain⟨o23,bo23,h⟩:=aw h
 obtain⟨r24,br24,h⟩:=aw h
 obtain rfl:=lf h
 have z:=se (bH t)<|sv (bv t)<|sv (bw t)<|sv (aS.mk' (v:=cj) bz ([t.Pred]:List aa) 1 (by kernel_rfl))<|sv (bk t)<|sv (bm t)<|sv (aS.ap bl1)<|b9 (aS.ln l1)<|cm (CG t l1 (l1.length:Int) ([]:List ag) 0 bo11)<|sv (aF t)<|sv (aG t)<|b9 (cJ.ln t.Args)<|cm (CI R26 t t.Args (t.Args.length:Int) o11 0 hR26 bo23)<|aX (zP br24)<|en (aI (rP (sl cS r24))<|(am d8 r24))
 exact bo Sq call29 func29 (c:=Ui) rfl (aI (aj t) trivial) z<|by kernel_rfl
def tk:(ae->Option waA)->(ae)->Option waA:=fun(rec:ae->Option waA) (x:ae)=>nO (fun t=>rec t) x
def nN(t:ae):Option waA:=ku tk t
theorem qw{t:ae}{r:waA}(h:nN t=some r):CC Pg GE 29 [.agg (af t)] (sl cS r) [(0,9)]:=
 cn (F:=tk) (M:=fun(x:ae) (r:waA)=>CC Pg GE 29 [.agg (af x)] (sl cS r) [(0,9)]) (fun rec hrec x r h=>Fv _ (fun t r h=>hrec t r h) h) h
noncomputable def Q9:Code:=f119.body.getD .skip
def Q2:List Nat:=[24,35]
section
variable(base:ag)(t11:waA)(t12:Int)(t13:Int)(m0:(List (ag×Bool)))
def gy:ax:=aP 36 [(1,.str base),(5,.mapr 0),(11,sl cS t11),(12,.int .i64 t12),(13,.int .i64 t13)] [.map (yP PVal.bool m0)] []
def oL(o:(List (ag×Bool))):ax:=aP 36 [(1,.str base),(5,.mapr 0)] [.map (yP PVal.bool o)] []
def wd:Option ((Int×(List (ag×Bool)))⊕(((List (ag×Bool))))):=
 if(decide (t13<t12))=true then
  (dt t11 t13).bind fun x2=>
  some (.inl (bA (t13+1),Co m0 x2 true))
 else
  some (.inr m0)
def zL:Option (((List (ag×Bool)))):=loop (fun(zz:Int×(List (ag×Bool)))=>wd t11 t12 zz.1 zz.2) (t13,m0)
theorem Cq{y:(Int×(List (ag×Bool)))⊕(((List (ag×Bool))))}(h:wd t11 t12 t13 m0=some y):aL Pg GE 0 (cA Q9 119) (LQ (fun(zz:Int×(List (ag×Bool)))=>gy base t11 t12 zz.1 zz.2) (fun _=>.exit 0) (oL base) y) (gy base t11 t12 t13 m0):=by
 rcases aK h with⟨c1,h⟩|⟨c1,h⟩
 ·obtain⟨x2,bx2,h⟩:=aw h
  obtain rfl:=lf h
  exact vJ Q2 (sg 0 c1<|sv (aZ.ia (k:=.i64) bx2)<|sv (dB Es (.str x2) [])<|ZE (Tc (f:=PVal.bool) underlying121 underlying9 m0 x2 true)<|eF .normal (gy base t11 t12 (bA (t13+1)) (Co m0 x2 true)))<|by kernel_rfl
 ·obtain rfl:=lf h
  have z:=sg 0 c1<|eF (.exit 0) (oL base m0)
  exact eS Q2 (by intro hx;cases hx) z<|by kernel_rfl
theorem Dz{x:((List (ag×Bool)))}(h:zL t11 t12 t13 m0=some x):aL Pg GE 0 (.loop (cA Q9 119)) (EX (.exit 0) (oL base x)) (gy base t11 t12 t13 m0):=
 aL.loop (S:=fun(zz:Int×(List (ag×Bool)))=>gy base t11 t12 zz.1 zz.2) (ex:=(fun _=>.exit 0)) (s:=(t13,m0)) h fun zz y hy=>Cq base t11 t12 zz.1 zz.2 hy
end
section
variable(base:ag)(m0:(List (ag×Bool)))(n:Int)
def gz:ax:=aP 36 [(1,.str base),(5,.mapr 0),(8,.int .i64 n)] [.map (yP PVal.bool m0)] []
def oM(o:ag):ax:=aP 36 [(4,.str o)] [.map (yP PVal.bool m0)] []
def wg:Option (Int⊕(ag)):=
 (U7 n).bind fun r6=>
 (YC base r6).bind fun s7=>
 if(!((xJ m0 s7).getD false))=true then
  some (.inr s7)
 else
  some (.inl (bA (n+1)))
def zM:Option ag:=loop (fun(zz:Int)=>wg base m0 zz) n
theorem Cr{y:Int⊕(ag)}(h:wg base m0 n=some y):aL Pg GE 0 (cA Q9 255) (LQ (fun(zz:Int)=>gz base m0 zz) (fun _=>.ret) (oM m0) y) (gz base m0 n):=by
 obtain⟨r6,br6,h⟩:=aw h
 obtain⟨s7,bs7,h⟩:=aw h
 have p9:=fun{sc F} (r:PS sc F)=>aX (Uw br6)<|sv (V4 (P:=Pg) (t:=9) bs7)<|sv (PT (f:=PVal.bool) underlying121 underlying9 Y4 m0 s7)<|r
 rcases aK h with⟨c8,h⟩|⟨c8,h⟩
 ·obtain rfl:=lf h
  have z:=p9<|sg 0 c8<|eF .ret (oM m0 s7)
  exact eS Q2 (by intro hx;cases hx) z<|by kernel_rfl
 ·obtain rfl:=lf h
  exact vJ Q2 (p9<|sg 0 c8<|eF .normal (gz base m0 (bA (n+1))))<|by kernel_rfl
theorem DA{x:ag}(h:zM base m0 n=some x):aL Pg GE 0 (.loop (cA Q9 255)) (EX .ret (oM m0 x)) (gz base m0 n):=
 aL.loop (S:=fun(zz:Int)=>gz base m0 zz) (ex:=(fun _=>.ret)) (s:=n) h fun zz y hy=>Cr base m0 zz hy
end
def Gc(used:waA)(base:ag):Option ag:=
 (zL used (used.length:Int) 0 ([]:List (ag×Bool))).bind fun o3=>
 if(!((xJ o3 base).getD false))=true then
  some base
 else
  (zM base o3 1).bind fun o10=>
  some o10
theorem Jm{used:waA}{base:ag}{r:ag}(h:Gc used base=some r):CC Pg GE 119 [sl cS used,.str base] (.str r) []:=by
 obtain⟨o3,bo3,h⟩:=aw h
 have p5:=fun{sc F} (r:PS sc F)=>b9 (aZ.ln used)<|cm (Dz base used (used.length:Int) 0 ([]:List (ag×Bool)) bo3)<|sv (PT (f:=PVal.bool) underlying121 underlying9 Y4 o3 base)<|r
 rcases aK h with⟨c4,h⟩|⟨c4,h⟩
 ·obtain rfl:=lf h
  have z:=p5<|sg 0 c4<|en (aI (rP (.str base))<|trivial)
  exact bo Q2 call119 func119 (c:=Q9) rfl (aI (am d8 used) (aI trivial trivial)) z<|by kernel_rfl
 ·obtain⟨o10,bo10,h⟩:=aw h
  obtain rfl:=lf h
  have z:=p5<|sg 0 c4<|cm (DA base o3 1 bo10)<|en (aI (rP (.str o10))<|trivial)
  exact bo Q2 call119 func119 (c:=Q9) rfl (aI (am d8 used) (aI trivial trivial)) z<|by kernel_rfl
noncomputable def qad:Code:=f52.body.getD .skip
def ZV:List Nat:=[13,19]
def ft(s:ai)(name:ag)(a:aa):Option ai:=
 (cZ s ([name]:List ag)).bind fun r1=>
 (app r1.names ([name]:List ag)).bind fun l2=>
 (app r1.by_ ([a]:List aa)).bind fun l3=>
 some (⟨l2,l3⟩:ai)
theorem iO{s:ai}{name:ag}{a:aa}{r:ai}(h:ft s name a=some r):CC Pg GE 52 [.agg (aq s),.str name,.agg (ac a)] (.agg (aq r)) [(0,9),(1,28)]:=by
 obtain⟨r1,br1,h⟩:=aw h
 obtain⟨l2,bl2,h⟩:=aw h
 obtain⟨l3,bl3,h⟩:=aw h
 obtain rfl:=lf h
 have z:=se (cG s)<|se (bh a)<|sx Qa<|sv (b6 s)<|sv (aZ.mk' (v:=PVal.str) Ge ([name]:List ag) 1 (by kernel_rfl))<|aX (dK br1)<|sx Qa<|sy (bZ r1)<|sv (aZ.mk' (v:=PVal.str) Ge ([name]:List ag) 1 (by kernel_rfl))<|sv (aZ.ap bl2)<|sv (az a)<|sv (aS.mk' (v:=cj) bz ([a]:List aa) 1 (by kernel_rfl))<|sv (aS.ap bl3)<|sz (bQ (⟨l2,l3⟩:ai) [])<|sy (bZ (⟨l2,l3⟩:ai))<|en (aI (lY (⟨l2,l3⟩:ai))<|aI (aY (⟨l2,l3⟩:ai))<|rT)
 exact bo ZV call52 func52 (c:=qad) rfl (aI (aY s) (aI trivial (aI (ah a) trivial))) z<|by kernel_rfl
noncomputable def Yx:Code:=f88.body.getD .skip
def WG:List Nat:=[44,48,80]
section
variable(R18:bK)(t:ae)(t40:waC)(t41:Int)(m:waC)(m2:waB)(m3:Int)(m4:ag)(n:Nat)(m6:Int)(m7:ag)(m8:Int)(m9:waB)(m10:waB)(m11:waA)(m12:waB)(used:waA)(t42:Int)(w3:List ag)(m5:waC)(m13:waA)(m14:waB)
def bC:ax:=aP 99 [(3,.eptr (af t)),(4,.bptr 2 0),(5,.bptr 4 0),(7,sl cS used),(8,.bptr 6 0),(40,sl af t40),(41,.int .i64 t41),(42,.int .i64 t42)] [.dead,.dead,.cells [.int .i64 0,.str ([]:ag),sl af m,sl cS ([]:List ag),.int .i64 0,.str ([]:ag),.int .i64 0,sl ac m2,sl ac m2] [(2,30),(3,9),(7,28),(8,28)],.cells (wP cS w3) [],.cells [.int .i64 m3,.str m4,sl af m5,.bsl 3 0 n,.int .i64 m6,.str m7,.int .i64 m8,sl ac m9,sl ac m10] [(2,30)],.cells [sl cS m11,sl ac m12] [],.cells [sl cS m13,sl ac m14] []] [((7,0),9)]
def de(o:List ag×waC×waA×waB):ax:=aP 99 [(4,.bptr 2 0),(5,.bptr 4 0)] [.dead,.dead,.cells [.int .i64 0,.str ([]:ag),sl af m,sl cS ([]:List ag),.int .i64 0,.str ([]:ag),.int .i64 0,sl ac m2,sl ac m2] [(2,30),(3,9),(7,28),(8,28)],.cells (wP cS o.1) [],.cells [.int .i64 m3,.str m4,sl af o.2.1,.bsl 3 0 n,.int .i64 m6,.str m7,.int .i64 m8,sl ac m9,sl ac m10] [(2,30)],.cells [sl cS m11,sl ac m12] [],.cells [sl cS o.2.2.1,sl ac o.2.2.2] []] []
def fh:Option ((waA×Int×List ag×waC×waA×waB)⊕((List ag×waC×waA×waB))):=
 if (decide (t42 < t41)) = true then
  (dt t40 t42).bind fun x9=>
  (R18 (⟨m13,m14⟩:ai) x9).bind fun r10=>
  (app m5 ([r10]:List ae)).bind fun l11=>
  if(decide (t42>=(t.Names.length:Int)))=true then
   some (.inl (used,bA (t42+1),w3,l11,m13,m14))
  else
   (dt t.Names t42).bind fun x14=>
   (cZ (⟨m13,m14⟩:ai) ([x14]:List ag)).bind fun r15=>
   (fq r15).bind fun r16=>
   (da r16 x14).bind fun r17=>
   if r17=true then
    (Gc used x14).bind fun r20=>
    (U5 n w3 t42).bind fun x21=>
    (X2 w3 t42 r20).bind fun l22=>
    (U5 n l22 t42).bind fun x23=>
    (app used ([x23]:List ag)).bind fun l24=>
    (U5 n l22 t42).bind fun x25=>
    (ft r15 x14 (⟨3,x25,0,([]:List aa)⟩:aa)).bind fun r26=>
    some (.inl (l24,bA (t42+1),l22,l11,r26.names,r26.by_))
   else
    some (.inl (used,bA (t42+1),w3,l11,r15.names,r15.by_))
 else
  some (.inr (w3,m5,m13,m14))
def fS:Option ((List ag×waC×waA×waB)):=loop (fun(zz:waA×Int×List ag×waC×waA×waB)=>fh R18 t t40 t41 n zz.1 zz.2.1 zz.2.2.1 zz.2.2.2.1 zz.2.2.2.2.1 zz.2.2.2.2.2) (used,t42,w3,m5,m13,m14)
theorem kM(hR18:ch R18){y:(waA×Int×List ag×waC×waA×waB)⊕((List ag×waC×waA×waB))}(h:fh R18 t t40 t41 n used t42 w3 m5 m13 m14=some y):aL Pg GE 0 (cA Yx 1015) (LQ (fun(zz:waA×Int×List ag×waC×waA×waB)=>bC t t40 t41 m m2 m3 m4 n m6 m7 m8 m9 m10 m11 m12 zz.1 zz.2.1 zz.2.2.1 zz.2.2.2.1 zz.2.2.2.2.1 zz.2.2.2.2.2) (fun _=>.exit 0) (de m m2 m3 m4 n m6 m7 m8 m9 m10 m11 m12) y) (bC t t40 t41 m m2 m3 m4 n m6 m7 m8 m9 m10 m11 m12 used t42 w3 m5 m13 m14):=by
 rcases aK h with⟨c8,h⟩|⟨c8,h⟩
 ·obtain⟨x9,bx9,h⟩:=aw h
  obtain⟨r10,br10,h⟩:=aw h
  obtain⟨l11,bl11,h⟩:=aw h
  have p13:=fun{sc F} (r:PS sc F)=>sg 0 c8<|sv (cJ.ia (k:=.i64) bx9)<|sv (aQ x9)<|sx jl<|sx (cu x9)<|CO [0,1,0,0,12,28,63,127,255]<|sv (bQ (⟨m13,m14⟩:ai) [])<|sv (bu x9 [])<|aX (hR18 _ _ _ br10)<|sv (cJ.mk' (v:=AR) wq ([r10]:List ae) 1 (by kernel_rfl))<|sv (cJ.ap bl11)<|V1 (rfl:ct (sl af l11)=some [sl af l11])<|sv (aM t)<|sv (aN t)<|b9 (aZ.ln t.Names)<|r
  rcases aK h with⟨c12,h⟩|⟨c12,h⟩
  ·obtain rfl:=lf h
   have z:=p13<|sg 0 c12<|lG 0 .normal (bC t t40 t41 m m2 m3 m4 n m6 m7 m8 m9 m10 m11 m12 used (bA (t42+1)) w3 l11 m13 m14) rfl (cb (aI (hU (aj t)) (aI (cQ rfl) (aI (cQ rfl) (aI (up (am d8 used)) (aI (cQ rfl) (aI (up (am aj t40)) (aI trivial (aI trivial trivial))))))))) (aI trivial (aI trivial (aI (aI trivial (aI trivial (aI (up (am aj m)) (aI (up (am d8 ([]:List ag))) (aI trivial (aI trivial (aI trivial (aI (up (am ah m2)) (aI (up (am ah m2)) trivial))))))))) (aI (XY _ d8 w3) (aI (aI trivial (aI trivial (aI (up (am aj l11)) (aI (cQ rfl) (aI trivial (aI trivial (aI trivial (aI (up (am ah m9)) (aI (up (am ah m10)) trivial))))))))) (aI (aI (up (am d8 m11)) (aI (up (am ah m12)) trivial)) (aI (aI (up (am d8 m13)) (aI (up (am ah m14)) trivial)) trivial)))))))
   exact cc (A:=WG) mixed z<|by kernel_rfl
  ·obtain⟨x14,bx14,h⟩:=aw h
   obtain⟨r15,br15,h⟩:=aw h
   obtain⟨r16,br16,h⟩:=aw h
   obtain⟨r17,br17,h⟩:=aw h
   have p19:=fun{sc F} (r:PS sc F)=>p13<|sg 0 c12<|sv (aM t)<|sv (aN t)<|sv (aZ.ia (k:=.i64) bx14)<|sv (dB Es (.str x14) [])<|sv (bQ (⟨m13,m14⟩:ai) [])<|sv (aZ.mk' (v:=PVal.str) Ge ([x14]:List ag) 1 (by kernel_rfl))<|aX (dK br15)<|sy (bZ r15)<|sv (bQ r15 [])<|aX (iN br16)<|aX (dX br17)<|r
   rcases aK h with⟨c18,h⟩|⟨c18,h⟩
   ·obtain⟨r20,br20,h⟩:=aw h
    obtain⟨x21,bx21,h⟩:=aw h
    obtain⟨l22,bl22,h⟩:=aw h
    obtain⟨x23,bx23,h⟩:=aw h
    obtain⟨l24,bl24,h⟩:=aw h
    obtain⟨x25,bx25,h⟩:=aw h
    obtain⟨r26,br26,h⟩:=aw h
    obtain rfl:=lf h
    have z:=p19<|sg 0 c18<|ZD (.dx [0,1,0,0,0,24,63,127] [] [] [3])<|ss<|aX (Jm br20)<|sv (aZ.iaN 3 (k:=.i64) bx21)<|qaK (aZ.stR (Ge r20) bl22)<|ss<|sv (aZ.iaN 3 (k:=.i64) bx23)<|sv (aZ.ldN (fun r=>dB Es (.str x23) r) bx23)<|sv (aZ.mk' (v:=PVal.str) Ge ([x23]:List ag) 1 (by kernel_rfl))<|sv (aZ.ap bl24)<|CO [0,0,0,4,0,28,60,124,255,511]<|sv (bQ r15 [])<|ss<|sv (aZ.iaN 3 (k:=.i64) bx25)<|sv (aZ.ldN (fun r=>dB Es (.str x25) r) bx25)<|sb (rj 3 x25) (rf 3 x25)<|aX (iO br26)<|UL (cX r26)<|lG 0 .normal (bC t t40 t41 m m2 m3 m4 n m6 m7 m8 m9 m10 m11 m12 l24 (bA (t42+1)) l22 l11 r26.names r26.by_) rfl (cb (aI (hU (aj t)) (aI (cQ rfl) (aI (cQ rfl) (aI (up (am d8 l24)) (aI (cQ rfl) (aI (up (am aj t40)) (aI trivial (aI trivial trivial))))))))) (aI trivial (aI trivial (aI (aI trivial (aI trivial (aI (up (am aj m)) (aI (up (am d8 ([]:List ag))) (aI trivial (aI trivial (aI trivial (aI (up (am ah m2)) (aI (up (am ah m2)) trivial))))))))) (aI (XY _ d8 l22) (aI (aI trivial (aI trivial (aI (up (am aj l11)) (aI (cQ rfl) (aI trivial (aI trivial (aI trivial (aI (up (am ah m9)) (aI (up (am ah m10)) trivial))))))))) (aI (aI (up (am d8 m11)) (aI (up (am ah m12)) trivial)) (aI (aI (up (am d8 r26.names)) (aI (up (am ah r26.by_)) trivial)) trivial)))))))
    exact cc (A:=WG) mixed z<|by kernel_rfl
   ·obtain rfl:=lf h
    have z:=p19<|sg 0 c18<|lG 0 .normal (bC t t40 t41 m m2 m3 m4 n m6 m7 m8 m9 m10 m11 m12 used (bA (t42+1)) w3 l11 r15.names r15.by_) rfl (cb (aI (hU (aj t)) (aI (cQ rfl) (aI (cQ rfl) (aI (up (am d8 used)) (aI (cQ rfl) (aI (up (am aj t40)) (aI trivial (aI trivial trivial))))))))) (aI trivial (aI trivial (aI (aI trivial (aI trivial (aI (up (am aj m)) (aI (up (am d8 ([]:List ag))) (aI trivial (aI trivial (aI trivial (aI (up (am ah m2)) (aI (up (am ah m2)) trivial))))))))) (aI (XY _ d8 w3) (aI (aI trivial (aI trivial (aI (up (am aj l11)) (aI (cQ rfl) (aI trivial (aI trivial (aI trivial (aI (up (am ah m9)) (aI (up (am ah m10)) trivial))))))))) (aI (aI (up (am d8 m11)) (aI (up (am ah m12)) trivial)) (aI (aI (up (am d8 r15.names)) (aI (up (am ah r15.by_)) trivial)) trivial)))))))
    exact cc (A:=WG) mixed z<|by kernel_rfl
 ·obtain rfl:=lf h
  have z:=sg 0 c8<|eF (.exit 0) (de m m2 m3 m4 n m6 m7 m8 m9 m10 m11 m12 (w3,m5,m13,m14))
  exact eS WG (by intro hx;cases hx) z<|by kernel_rfl
theorem lV(hR18:ch R18){x:(List ag×waC×waA×waB)}(h:fS R18 t t40 t41 n used t42 w3 m5 m13 m14=some x):aL Pg GE 0 (.loop (cA Yx 1015)) (EX (.exit 0) (de m m2 m3 m4 n m6 m7 m8 m9 m10 m11 m12 x)) (bC t t40 t41 m m2 m3 m4 n m6 m7 m8 m9 m10 m11 m12 used t42 w3 m5 m13 m14):=
 aL.loop (S:=fun(zz:waA×Int×List ag×waC×waA×waB)=>bC t t40 t41 m m2 m3 m4 n m6 m7 m8 m9 m10 m11 m12 zz.1 zz.2.1 zz.2.2.1 zz.2.2.2.1 zz.2.2.2.2.1 zz.2.2.2.2.2) (ex:=(fun _=>.exit 0)) (s:=(used,t42,w3,m5,m13,m14)) h fun zz y hy=>kM R18 t t40 t41 m m2 m3 m4 n m6 m7 m8 m9 m10 m11 m12 zz.1 zz.2.1 zz.2.2.1 zz.2.2.2.1 zz.2.2.2.2.1 zz.2.2.2.2.2 hR18 hy
end
def gV(R18:bK)(s:ai)(t:ae):Option ae:=
 (Cg t.Names).bind fun r1=>
 (dM s t.Pred).bind fun r2=>
 (tr t.Preds s).bind fun r3=>
 (fq s).bind fun r4=>
 (nN t).bind fun r5=>
 (app r4 r5).bind fun l6=>
 (app l6 t.Names).bind fun l7=>
 (fS R18 t t.Args (t.Args.length:Int) r1.length l7 0 r1 ([]:List ae) s.names s.by_).bind fun o27=>
 (Xq r1.length o27.1).bind fun l28=>
 some (⟨t.Op,t.Name,o27.2.1,l28,r2,r3⟩:ae)
theorem nX(R18:bK)(hR18:ch R18){s:ai}{t:ae}{r:ae}(h:gV R18 s t=some r):CC Pg GE 88 [.agg (aq s),.agg (af t)] (.agg (af r)) [(2,30)]:=by
 obtain⟨r1,br1,h⟩:=aw h
 obtain⟨r2,br2,h⟩:=aw h
 obtain⟨r3,br3,h⟩:=aw h
 obtain⟨r4,br4,h⟩:=aw h
 obtain⟨r5,br5,h⟩:=aw h
 obtain⟨l6,bl6,h⟩:=aw h
 obtain⟨l7,bl7,h⟩:=aw h
 obtain⟨o27,bo27,h⟩:=aw h
 obtain⟨l28,bl28,h⟩:=aw h
 obtain rfl:=lf h
 have z:=se (cG s)<|se (bH t)<|sx jl<|ZD (.dx [0,1,0,4,0,16,48,0,0,256,1008,0,2048,0,8192,32752,65535,0,262143] [.cells (wP cS r1) []] [(6,3)] [])<|sv (au t)<|sv (av t)<|sv (ck t)<|sv (cq t)<|sv (aM t)<|sv (aN t)<|qaJ 3 9 (aZ.cloneR Lw br1)<|sv (b6 s)<|sv (bv t)<|sv (bw t)<|aX (eA br2)<|sv (bk t)<|sv (bm t)<|sv (b6 s)<|aX (uE br3)<|sb (yN t.Op t.Name 3 r1.length r2 r3) (yM t.Op t.Name 3 r1.length r2 r3)<|UL (qaG [.int .i64 t.Op,.str t.Name,sl af ([]:List ae),.bsl 3 0 r1.length,.int .i64 r2.Op,.str r2.Name,.int .i64 r2.N,sl ac r2.Kids,sl ac r3])<|sv (b6 s)<|sx Qa<|sx (cX s)<|CO [0,1,0,7,15,0,32,127,255]<|sv (bQ s [])<|aX (iN br4)<|sv (aQ t)<|aX (qw br5)<|sv (aZ.ap bl6)<|sv (aM t)<|sv (aN t)<|sv (aZ.ap bl7)<|sv (b6 s)<|sx Qa<|sx (cX s)<|sv (aF t)<|sv (aG t)<|b9 (cJ.ln t.Args)<|cm (lV R18 t t.Args (t.Args.length:Int) ([]:List ae) ([]:List aa) t.Op t.Name r1.length r2.Op r2.Name r2.N r2.Kids r3 s.names s.by_ l7 0 r1 ([]:List ae) s.names s.by_ hR18 bo27)<|YT 3 (l28.map cS) [4,5] [] (aZ.fz1 (m:=0) (b:=3) rfl l28) (aZ.fz2 3 l28) (qap cS bl28)<|sf (Si 3 (p:=sl af ([]:List ae)) (am aj ([]:List ae)))<|sf (Si 3 (p:=sl cS ([]:List ag)) (am d8 ([]:List ag)))<|sf (Si 3 (p:=sl ac ([]:List aa)) (am ah ([]:List aa)))<|sf (Si 3 (p:=sl ac ([]:List aa)) (am ah ([]:List aa)))<|sf (Si 3 (p:=sl af o27.2.1) (am aj o27.2.1))<|sf (qaq cS bl28)<|sf (Si 3 (p:=sl ac r2.Kids) (am ah r2.Kids))<|sf (Si 3 (p:=sl ac r3) (am ah r3))<|sf (Si 3 (p:=sl cS s.names) (am d8 s.names))<|sf (Si 3 (p:=sl ac s.by_) (am ah s.by_))<|sf (Si 3 (p:=sl cS o27.2.2.1) (am d8 o27.2.2.1))<|sf (Si 3 (p:=sl ac o27.2.2.2) (am ah o27.2.2.2))<|sz (bu (⟨t.Op,t.Name,o27.2.1,l28,r2,r3⟩:ae) [])<|sy (ba (⟨t.Op,t.Name,o27.2.1,l28,r2,r3⟩:ae))<|en (aI (dH (⟨t.Op,t.Name,o27.2.1,l28,r2,r3⟩:ae))<|aI (aj (⟨t.Op,t.Name,o27.2.1,l28,r2,r3⟩:ae))<|rT)
 exact bo WG call88 func88 (c:=Yx) rfl (aI (aY s) (aI (aj t) trivial)) z<|by kernel_rfl
noncomputable def Yu:Code:=f74.body.getD .skip
def Ye:List Nat:=[14,21]
section
variable(R18:bK)(v:ai)(t8:waC)(t9:Int)(out:waC)(t10:Int)
def dN:ax:=aP 22 [(1,.func (.func 50) [.agg (aq v)] []),(5,sl af out),(8,sl af t8),(9,.int .i64 t9),(10,.int .i64 t10)] [] [((5,0),30)]
def jm(o:waC):ax:=aP 22 [(5,sl af o)] [] [((5,0),30)]
def om:Option ((waC×Int)⊕(waC)):=
 if(decide (t10<t9))=true then
  (dt t8 t10).bind fun x2=>
  (R18 v x2).bind fun r3=>
  (app out ([r3]:List ae)).bind fun l4=>
  some (.inl (l4,bA (t10+1)))
 else
  some (.inr out)
def qM:Option waC:=loop (fun(zz:waC×Int)=>om R18 v t8 t9 zz.1 zz.2) (out,t10)
theorem wD(hR18:ch R18){y:(waC×Int)⊕(waC)}(h:om R18 v t8 t9 out t10=some y):aL Pg GE 0 (cA Yu 119) (LQ (fun(zz:waC×Int)=>dN v t8 t9 zz.1 zz.2) (fun _=>.exit 0) jm y) (dN v t8 t9 out t10):=by
 rcases aK h with⟨c1,h⟩|⟨c1,h⟩
 ·obtain⟨x2,bx2,h⟩:=aw h
  obtain⟨r3,br3,h⟩:=aw h
  obtain⟨l4,bl4,h⟩:=aw h
  obtain rfl:=lf h
  have z:=sg 0 c1<|sv (cJ.ia (k:=.i64) bx2)<|sv (aQ x2)<|sx jl<|sx (cu x2)<|sv (bu x2 [])<|aX (hR18 _ _ _ br3)<|sv (cJ.mk' (v:=AR) wq ([r3]:List ae) 1 (by kernel_rfl))<|sv (cJ.ap bl4)<|lG 0 .normal (dN v t8 t9 l4 (bA (t10+1))) rfl (cb (aI (aI (aI (up (aY v)) trivial) trivial) (aI (up (am aj l4)) (aI (up (am aj t8)) (aI trivial (aI trivial trivial)))))) trivial
  exact cc (A:=Ye) mixed z<|by kernel_rfl
 ·obtain rfl:=lf h
  have z:=sg 0 c1<|eF (.exit 0) (jm out)
  exact eS Ye (by intro hx;cases hx) z<|by kernel_rfl
theorem ym(hR18:ch R18){x:waC}(h:qM R18 v t8 t9 out t10=some x):aL Pg GE 0 (.loop (cA Yu 119)) (EX (.exit 0) (jm x)) (dN v t8 t9 out t10):=
 aL.loop (S:=fun(zz:waC×Int)=>dN v t8 t9 zz.1 zz.2) (ex:=(fun _=>.exit 0)) (s:=(out,t10)) h fun zz y hy=>wD R18 v t8 t9 zz.1 zz.2 hR18 hy
end
def wC(R18:bK)(a:waC)(c:ai):Option waC:=
 (qM R18 c a (a.length:Int) ([]:List ae) 0).bind fun o5=>
 some o5
theorem A5(R18:bK)(hR18:ch R18){a:waC}{c:ai}{r:waC}(h:wC R18 a c=some r):CC Pg GE 74 [sl af a,.func (.func 50) [.agg (aq c)] []] (sl af r) [(0,30)]:=by
 obtain⟨o5,bo5,h⟩:=aw h
 obtain rfl:=lf h
 have z:=b9 (cJ.ln a)<|cm (ym R18 c a (a.length:Int) ([]:List ae) 0 hR18 bo5)<|en (aI (rP (sl af o5))<|(am aj o5))
 exact bo Ye call74 func74 (c:=Yu) rfl (aI (am aj a) (aI (aI (aI (aY c) trivial) trivial) trivial)) z<|by kernel_rfl
noncomputable def Zj:Code:=f50.body.getD .skip
def Y8:List Nat:=[]
def kb(R18:bK)(s:ai)(t:ae):Option ae:=
 if(t.Op==6)=true then
  (gV R18 s t).bind fun r3=>
  some r3
 else
  (Cg t.Names).bind fun r4=>
  (dM s t.Pred).bind fun r5=>
  (tr t.Preds s).bind fun r6=>
  (wC R18 t.Args s).bind fun r7=>
  some (⟨t.Op,t.Name,r7,r4,r5,r6⟩:ae)
theorem qz(R18:bK)(hR18:ch R18){s:ai}{t:ae}{r:ae}(h:kb R18 s t=some r):CC Pg GE 50 [.agg (aq s),.agg (af t)] (.agg (af r)) [(2,30)]:=by
 have p2:=fun{sc F} (r:PS sc F)=>se (cG s)<|se (bH t)<|sx jl<|sv (au t)<|sv (av t)<|r
 rcases aK h with⟨c1,h⟩|⟨c1,h⟩
 ·obtain⟨r3,br3,h⟩:=aw h
  obtain rfl:=lf h
  have z:=p2<|sg 0 c1<|sv (b6 s)<|sv (aQ t)<|aX (nX R18 hR18 br3)<|sy (ba r3)<|en (aI (dH r3)<|aI (aj r3)<|rT)
  exact bo Y8 call50 func50 (c:=Zj) rfl (aI (aY s) (aI (aj t) trivial)) z<|by kernel_rfl
 ·obtain⟨r4,br4,h⟩:=aw h
  obtain⟨r5,br5,h⟩:=aw h
  obtain⟨r6,br6,h⟩:=aw h
  obtain⟨r7,br7,h⟩:=aw h
  obtain rfl:=lf h
  have z:=p2<|sg 0 c1<|CO [0,1,0,4,0,16,48,0,0,256,1008,0,2048,0,8192,32752,65535,0,262143]<|sv (au t)<|sv (av t)<|sv (ck t)<|sv (cq t)<|sv (aM t)<|sv (aN t)<|aX (Pz br4)<|sv (b6 s)<|sv (bv t)<|sv (bw t)<|aX (eA br5)<|sv (bk t)<|sv (bm t)<|sv (b6 s)<|aX (uE br6)<|sb (Ce t.Op t.Name r4 r5 r6) (Cd t.Op t.Name r4 r5 r6)<|UL (cu (⟨t.Op,t.Name,([]:List ae),r4,r5,r6⟩:ae))<|sv (aF t)<|sv (aG t)<|sv (b6 s)<|aX (A5 R18 hR18 br7)<|sz (bu (⟨t.Op,t.Name,r7,r4,r5,r6⟩:ae) [])<|sy (ba (⟨t.Op,t.Name,r7,r4,r5,r6⟩:ae))<|en (aI (dH (⟨t.Op,t.Name,r7,r4,r5,r6⟩:ae))<|aI (aj (⟨t.Op,t.Name,r7,r4,r5,r6⟩:ae))<|rT)
  exact bo Y8 call50 func50 (c:=Zj) rfl (aI (aY s) (aI (aj t) trivial)) z<|by kernel_rfl
def kc:((ai×ae)->Option ae)->(ai×ae)->Option ae:=fun(rec:(ai×ae)->Option ae) (x:ai×ae)=>kb (fun s t=>rec (s,t)) x.1 x.2
def lW(s:ai)(t:ae):Option ae:=ku kc (s,t)
theorem rC{s:ai}{t:ae}{r:ae}(h:lW s t=some r):CC Pg GE 50 [.agg (aq s),.agg (af t)] (.agg (af r)) [(2,30)]:=
 cn (F:=kc) (M:=fun(x:ai×ae) (r:ae)=>CC Pg GE 50 [.agg (aq x.1),.agg (af x.2)] (.agg (af r)) [(2,30)]) (fun rec hrec x r h=>qz _ (fun s t r h=>hrec (s,t) r h) h) h
noncomputable def Z5:Code:=f15.body.getD .skip
def ZN:List Nat:=[]
def oS(t:ae)(a:waA)(a2:waB):Option ae:=
 (Hy a none (some (if(a2.length:Int)<(a.length:Int)then(a2.length:Int)else(a.length:Int)))).bind fun l1=>
 (Hy a2 none (some (if(a2.length:Int)<(a.length:Int)then(a2.length:Int)else(a.length:Int)))).bind fun l2=>
 (cZ (⟨l1,l2⟩:ai) ([([118]:ag)]:List ag)).bind fun r3=>
 (lW r3 t).bind fun r4=>
 some r4
theorem qL{t:ae}{a:waA}{a2:waB}{r:ae}(h:oS t a a2=some r):CC Pg GE 15 [.agg (af t),sl cS a,sl ac a2] (.agg (af r)) [(2,30)]:=by
 obtain⟨l1,bl1,h⟩:=aw h
 obtain⟨l2,bl2,h⟩:=aw h
 obtain⟨r3,br3,h⟩:=aw h
 obtain⟨r4,br4,h⟩:=aw h
 obtain rfl:=lf h
 have z:=se (bH t)<|sx jl<|b9 (aZ.ln a)<|b9 (aS.ln a2)<|CO [0,0,3,0,0,24,63,0,255,0,1023]<|sv (aZ.sc bl1)<|sv (aS.sc bl2)<|sv (ri l1 l2)<|sv (aZ.mk' (v:=PVal.str) Ge ([([118]:ag)]:List ag) 1 (by kernel_rfl))<|aX (dK br3)<|UL (cX r3)<|sv (bQ r3 [])<|sv (aQ t)<|aX (rC br4)<|sy (ba r4)<|en (aI (dH r4)<|aI (aj r4)<|rT)
 exact bo ZN call15 func15 (c:=Z5) rfl (aI (aj t) (aI (am d8 a) (aI (am ah a2) trivial))) z<|by kernel_rfl
noncomputable def Z4:Code:=f13.body.getD .skip
def ZM:List Nat:=[]
def pz(t:ae)(name:ag)(a:aa):Option ae:=
 (oS t ([name]:List ag) ([a]:List aa)).bind fun r1=>
 some r1
theorem oT{t:ae}{name:ag}{a:aa}{r:ae}(h:pz t name a=some r):CC Pg GE 13 [.agg (af t),.str name,.agg (ac a)] (.agg (af r)) [(2,30)]:=by
 obtain⟨r1,br1,h⟩:=aw h
 obtain rfl:=lf h
 have z:=se (bH t)<|se (bh a)<|sx jl<|sv (aQ t)<|sv (aZ.mk' (v:=PVal.str) Ge ([name]:List ag) 1 (by kernel_rfl))<|sv (az a)<|sv (aS.mk' (v:=cj) bz ([a]:List aa) 1 (by kernel_rfl))<|aX (qL br1)<|sy (ba r1)<|en (aI (dH r1)<|aI (aj r1)<|rT)
 exact bo ZM call13 func13 (c:=Z4) rfl (aI (aj t) (aI trivial (aI (ah a) trivial))) z<|by kernel_rfl
noncomputable def WZ:Code:=f18.body.getD .skip
def Vl:List Nat:=[28]
section
variable(args:waB)(t:ae)(m:waC)(m2:waB)
def CF:ax:=aP 54 [(1,sl ac args),(2,.eptr (af t)),(4,.bptr 1 0)] [.dead,.cells [.int .i64 0,.str ([]:ag),sl af m,sl cS ([]:List ag),.int .i64 0,.str ([]:ag),.int .i64 0,sl ac m2,sl ac m2] [(2,30),(3,9),(7,28),(8,28)]] []
def mH(o:Bool):ax:=aP 54 [(1,sl ac args),(2,.eptr (af t)),(4,.bptr 1 0),(20,.bool o)] [.dead,.cells [.int .i64 0,.str ([]:ag),sl af m,sl cS ([]:List ag),.int .i64 0,.str ([]:ag),.int .i64 0,sl ac m2,sl ac m2] [(2,30),(3,9),(7,28),(8,28)]] []
def wz:Option Bool:=
 if(t.Op !=6)=true then
  some true
 else
  some ((t.Args.length:Int)!=(bA ((args.length:Int)+1)))
theorem AY{x:Bool}(h:wz args t=some x):aL Pg GE 0 (cA WZ 12) (EX .normal (mH args t m m2 x)) (CF args t m m2):=by
 have p2:=fun{sc F} (r:PS sc F)=>sv (au t)<|sv (av t)<|r
 rcases aK h with⟨c1,h⟩|⟨c1,h⟩
 ·obtain rfl:=lf h
  exact bE Vl (p2<|sg 4 c1<|eF .normal (mH args t m m2 true))<|by kernel_rfl
 ·obtain rfl:=lf h
  exact bE Vl (p2<|sg 4 c1<|sv (aF t)<|sv (aG t)<|b9 (cJ.ln t.Args)<|b9 (aS.ln args)<|eF .normal (mH args t m m2 ((t.Args.length:Int)!=(bA ((args.length:Int)+1)))))<|by kernel_rfl
end
section
variable(args:waB)(t:ae)(t24:waA)(t25:Int)(m:waC)(m2:waB)(t26:Int)(m3:waA)(m4:waB)
def dU:ax:=aP 54 [(1,sl ac args),(2,.eptr (af t)),(4,.bptr 1 0),(6,.bptr 2 0),(24,sl cS t24),(25,.int .i64 t25),(26,.int .i64 t26)] [.dead,.cells [.int .i64 0,.str ([]:ag),sl af m,sl cS ([]:List ag),.int .i64 0,.str ([]:ag),.int .i64 0,sl ac m2,sl ac m2] [(2,30),(3,9),(7,28),(8,28)],.cells [sl cS m3,sl ac m4] [(0,9),(1,28)]] []
def mI(o:waA×waB):ax:=aP 54 [(1,sl ac args),(2,.eptr (af t)),(4,.bptr 1 0),(6,.bptr 2 0)] [.dead,.cells [.int .i64 0,.str ([]:ag),sl af m,sl cS ([]:List ag),.int .i64 0,.str ([]:ag),.int .i64 0,sl ac m2,sl ac m2] [(2,30),(3,9),(7,28),(8,28)],.cells [sl cS o.1,sl ac o.2] [(0,9),(1,28)]] []
def tj:Option ((Int×waA×waB)⊕((waA×waB))):=
 if(decide (t26<t25))=true then
  (dt t24 t26).bind fun x7=>
  if(decide (t26<(args.length:Int)))=true then
   (dt args t26).bind fun x10=>
   (ft (⟨m3,m4⟩:ai) x7 x10).bind fun r11=>
   some (.inl (bA (t26+1),r11.names,r11.by_))
  else
   some (.inl (bA (t26+1),m3,m4))
 else
  some (.inr (m3,m4))
def wA:Option ((waA×waB)):=loop (fun(zz:Int×waA×waB)=>tj args t24 t25 zz.1 zz.2.1 zz.2.2) (t26,m3,m4)
theorem z8{y:(Int×waA×waB)⊕((waA×waB))}(h:tj args t24 t25 t26 m3 m4=some y):aL Pg GE 0 (cA WZ 247) (LQ (fun(zz:Int×waA×waB)=>dU args t t24 t25 m m2 zz.1 zz.2.1 zz.2.2) (fun _=>.exit 0) (mI args t m m2) y) (dU args t t24 t25 m m2 t26 m3 m4):=by
 rcases aK h with⟨c6,h⟩|⟨c6,h⟩
 ·obtain⟨x7,bx7,h⟩:=aw h
  have p9:=fun{sc F} (r:PS sc F)=>sg 0 c6<|sv (aZ.ia (k:=.i64) bx7)<|sv (dB Es (.str x7) [])<|b9 (aS.ln args)<|r
  rcases aK h with⟨c8,h⟩|⟨c8,h⟩
  ·obtain⟨x10,bx10,h⟩:=aw h
   obtain⟨r11,br11,h⟩:=aw h
   obtain rfl:=lf h
   exact vJ Vl (p9<|sg 0 c8<|CO [0,0,0,0,12,28,63,127]<|sv (bQ (⟨m3,m4⟩:ai) [])<|sv (aS.ia (k:=.i64) bx10)<|sv (az x10)<|aX (iO br11)<|UL (cX r11)<|eF .normal (dU args t t24 t25 m m2 (bA (t26+1)) r11.names r11.by_))<|by kernel_rfl
  ·obtain rfl:=lf h
   exact vJ Vl (p9<|sg 0 c8<|eF .normal (dU args t t24 t25 m m2 (bA (t26+1)) m3 m4))<|by kernel_rfl
 ·obtain rfl:=lf h
  have z:=sg 0 c6<|eF (.exit 0) (mI args t m m2 (m3,m4))
  exact eS Vl (by intro hx;cases hx) z<|by kernel_rfl
theorem AZ{x:(waA×waB)}(h:wA args t24 t25 t26 m3 m4=some x):aL Pg GE 0 (.loop (cA WZ 247)) (EX (.exit 0) (mI args t m m2 x)) (dU args t t24 t25 m m2 t26 m3 m4):=
 aL.loop (S:=fun(zz:Int×waA×waB)=>dU args t t24 t25 m m2 zz.1 zz.2.1 zz.2.2) (ex:=(fun _=>.exit 0)) (s:=(t26,m3,m4)) h fun zz y hy=>z8 args t t24 t25 m m2 zz.1 zz.2.1 zz.2.2 hy
end
def BF(t:ae)(args:waB):Option (ae×Int):=
 (wz args t).bind fun o3=>
 if o3=true then
  some ((⟨0,([]:ag),([]:List ae),([]:List ag),(⟨0,([]:ag),0,([]:List aa)⟩:aa),([]:List aa)⟩:ae),13)
 else
  (wA args t.Names (t.Names.length:Int) 0 ([]:List ag) ([]:List aa)).bind fun o12=>
  (dt t.Args (args.length:Int)).bind fun x13=>
  (oS x13 o12.1 o12.2).bind fun r14=>
  some (r14,0)
theorem Ft{t:ae}{args:waB}{r:ae×Int}(h:BF t args=some r):CC Pg GE 18 [.agg (af t),sl ac args] (.tuple [.agg (af r.1),.int .i64 r.2]) []:=by
 obtain⟨o3,bo3,h⟩:=aw h
 have p5:=fun{sc F} (r:PS sc F)=>se (bH t)<|sx jl<|jC 1<|cm (AY args t ([]:List ae) ([]:List aa) bo3)<|r
 rcases aK h with⟨c4,h⟩|⟨c4,h⟩
 ·obtain rfl:=lf h
  have z:=p5<|sg 0 c4<|sb (Pu) (Ps)<|sy (ba (⟨0,([]:ag),([]:List ae),([]:List ag),(⟨0,([]:ag),0,([]:List aa)⟩:aa),([]:List aa)⟩:ae))<|en (aI (vbt PVal.tuple (Qr (dH (⟨0,([]:ag),([]:List ae),([]:List ag),(⟨0,([]:ag),0,([]:List aa)⟩:aa),([]:List aa)⟩:ae)) (Qr (rP (.int .i64 13)) (rfl:([]:List PVal)=[]))))<|(aI (aj (⟨0,([]:ag),([]:List ae),([]:List ag),(⟨0,([]:ag),0,([]:List aa)⟩:aa),([]:List aa)⟩:ae)) (aI trivial trivial)))
  exact bo Vl call18 func18 (c:=WZ) rfl (aI (aj t) (aI (am ah args) trivial)) z<|by kernel_rfl
 ·obtain⟨o12,bo12,h⟩:=aw h
  obtain⟨x13,bx13,h⟩:=aw h
  obtain⟨r14,br14,h⟩:=aw h
  obtain rfl:=lf h
  have z:=p5<|sg 0 c4<|sb (tF) (tE)<|sx Qa<|sy (bZ (⟨([]:List ag),([]:List aa)⟩:ai))<|sv (aM t)<|sv (aN t)<|b9 (aZ.ln t.Names)<|cm (AZ args t t.Names (t.Names.length:Int) ([]:List ae) ([]:List aa) 0 ([]:List ag) ([]:List aa) bo12)<|CO [0,1,0,4,15,31,0,64,0,256,1023,2047,4095]<|sv (aF t)<|sv (aG t)<|b9 (aS.ln args)<|sv (cJ.ia (k:=.i64) bx13)<|sv (aQ x13)<|ss<|ss<|aX (qL br14)<|UL (cu r14)<|en (aI (vbt PVal.tuple (Qr (dH r14) (Qr (rP (.int .i64 0)) (rfl:([]:List PVal)=[]))))<|(aI (aj r14) (aI trivial trivial)))
  exact bo Vl call18 func18 (c:=WZ) rfl (aI (aj t) (aI (am ah args) trivial)) z<|by kernel_rfl
abbrev lD:=(ae->waA->waC->Option ae)
abbrev o0(R:lD):Prop:=∀(t:ae) (a:waA) (a2:waC) (r:ae),R t a a2=some r->CC Pg GE 95 [.agg (af t),sl cS a,sl af a2] (.agg (af r)) [(2,30),(8,28)]
noncomputable def Ub:Code:=f122.body.getD .skip
def TX:List Nat:=[]
def CV(p:aa):Option Bool:=
 if (p.Op == 0) = true then
  if(p.Name==([]:ag))=true then
   if(p.N==0)=true then
    some ((p.Kids.length:Int)==0)
   else
    some false
  else
   some false
 else
  some false
theorem BL{p:aa}{r:Bool}(h:CV p=some r):CC Pg GE 122 [.agg (ac p)] (.bool r) []:=by
 have p2:=fun{sc F} (r:PS sc F)=>se (bh p)<|sv (aB p)<|sv (aC p)<|r
 rcases aK h with⟨c1,h⟩|⟨c1,h⟩
 ·have p4:=fun{sc F} (r:PS sc F)=>p2<|sg 4 c1<|sv (bF p)<|sv (bN p)<|r
  rcases aK h with⟨c3,h⟩|⟨c3,h⟩
  ·have p6:=fun{sc F} (r:PS sc F)=>p4<|sg 9 c3<|sv (bG p)<|sv (bO p)<|r
   rcases aK h with⟨c5,h⟩|⟨c5,h⟩
   ·obtain rfl:=lf h
    have z:=p6<|sg 14 c5<|sv (aH p)<|sv (aJ p)<|b9 (aS.ln p.Kids)<|en (aI (rP (.bool ((p.Kids.length:Int)==0)))<|trivial)
    exact bo TX call122 func122 (c:=Ub) rfl (aI (ah p) trivial) z<|by kernel_rfl
   ·obtain rfl:=lf h
    have z:=p6<|sg 14 c5<|en (aI (rP (.bool false))<|trivial)
    exact bo TX call122 func122 (c:=Ub) rfl (aI (ah p) trivial) z<|by kernel_rfl
  ·obtain rfl:=lf h
   have z:=p4<|sg 9 c3<|en (aI (rP (.bool false))<|trivial)
   exact bo TX call122 func122 (c:=Ub) rfl (aI (ah p) trivial) z<|by kernel_rfl
 ·obtain rfl:=lf h
  have z:=p2<|sg 4 c1<|en (aI (rP (.bool false))<|trivial)
  exact bo TX call122 func122 (c:=Ub) rfl (aI (ah p) trivial) z<|by kernel_rfl
abbrev rb:=(aa->Option aa)
abbrev wV(R:rb):Prop:=∀(p:aa) (r:aa),R p=some r->CC Pg GE 123 [.agg (ac p)] (.agg (ac r)) [(3,28)]
noncomputable def Vz:Code:=f123.body.getD .skip
def Vg:List Nat:=[21]
section
variable(R36:rb)(t14:waB)(t15:Int)(m:waB)(m2:Int)(m3:ag)(m4:Int)(t16:Int)(m5:waB)
def iT:ax:=aP 29 [(2,.bptr 1 0),(3,.bptr 2 0),(14,sl ac t14),(15,.int .i64 t15),(16,.int .i64 t16)] [.dead,.cells [.int .i64 0,.str ([]:ag),.int .i64 0,sl ac m] [(3,28)],.cells [.int .i64 m2,.str m3,.int .i64 m4,sl ac m5] [(3,28)]] []
def qF(o:waB):ax:=aP 29 [(2,.bptr 1 0),(3,.bptr 2 0)] [.dead,.cells [.int .i64 0,.str ([]:ag),.int .i64 0,sl ac m] [(3,28)],.cells [.int .i64 m2,.str m3,.int .i64 m4,sl ac o] [(3,28)]] []
def yJ:Option ((Int×waB)⊕(waB)):=
 if(decide (t16<t15))=true then
  (dt t14 t16).bind fun x2=>
  (R36 x2).bind fun r3=>
  (app m5 ([r3]:List aa)).bind fun l4=>
  some (.inl (bA (t16+1),l4))
 else
  some (.inr m5)
def BK:Option waB:=loop (fun(zz:Int×waB)=>yJ R36 t14 t15 zz.1 zz.2) (t16,m5)
theorem En(hR36:wV R36){y:(Int×waB)⊕(waB)}(h:yJ R36 t14 t15 t16 m5=some y):aL Pg GE 0 (cA Vz 119) (LQ (fun(zz:Int×waB)=>iT t14 t15 m m2 m3 m4 zz.1 zz.2) (fun _=>.exit 0) (qF m m2 m3 m4) y) (iT t14 t15 m m2 m3 m4 t16 m5):=by
 rcases aK h with⟨c1,h⟩|⟨c1,h⟩
 ·obtain⟨x2,bx2,h⟩:=aw h
  obtain⟨r3,br3,h⟩:=aw h
  obtain⟨l4,bl4,h⟩:=aw h
  obtain rfl:=lf h
  have z:=sg 0 c1<|sv (aS.ia (k:=.i64) bx2)<|sv (az x2)<|sx d9<|sx (bp x2)<|CO [0,1,0,4,12,31,63,127]<|sv (aU x2 [])<|aX (hR36 _ _ br3)<|sv (aS.mk' (v:=cj) bz ([r3]:List aa) 1 (by kernel_rfl))<|sv (aS.ap bl4)<|V1 (rfl:ct (sl ac l4)=some [sl ac l4])<|lG 0 .normal (iT t14 t15 m m2 m3 m4 (bA (t16+1)) l4) rfl (cb (aI (cQ rfl) (aI (cQ rfl) (aI (up (am ah t14)) (aI trivial (aI trivial trivial)))))) (aI trivial (aI (aI trivial (aI trivial (aI trivial (aI (up (am ah m)) trivial)))) (aI (aI trivial (aI trivial (aI trivial (aI (up (am ah l4)) trivial)))) trivial)))
  exact cc (A:=Vg) mixed z<|by kernel_rfl
 ·obtain rfl:=lf h
  have z:=sg 0 c1<|eF (.exit 0) (qF m m2 m3 m4 m5)
  exact eS Vg (by intro hx;cases hx) z<|by kernel_rfl
theorem FP(hR36:wV R36){x:waB}(h:BK R36 t14 t15 t16 m5=some x):aL Pg GE 0 (.loop (cA Vz 119)) (EX (.exit 0) (qF m m2 m3 m4 x)) (iT t14 t15 m m2 m3 m4 t16 m5):=
 aL.loop (S:=fun(zz:Int×waB)=>iT t14 t15 m m2 m3 m4 zz.1 zz.2) (ex:=(fun _=>.exit 0)) (s:=(t16,m5)) h fun zz y hy=>En R36 t14 t15 m m2 m3 m4 zz.1 zz.2 hR36 hy
end
def El(R36:rb)(p:aa):Option aa:=
 (BK R36 p.Kids (p.Kids.length:Int) 0 ([]:List aa)).bind fun o5=>
 some (⟨p.Op,p.Name,p.N,o5⟩:aa)
theorem Kk(R36:rb)(hR36:wV R36){p:aa}{r:aa}(h:El R36 p=some r):CC Pg GE 123 [.agg (ac p)] (.agg (ac r)) [(3,28)]:=by
 obtain⟨o5,bo5,h⟩:=aw h
 obtain rfl:=lf h
 have z:=se (bh p)<|sx d9<|sv (aB p)<|sv (aC p)<|sv (bF p)<|sv (bN p)<|sv (bG p)<|sv (bO p)<|sb (sL p.Op p.Name p.N) (sJ p.Op p.Name p.N)<|sx d9<|sy (aR (⟨p.Op,p.Name,p.N,([]:List aa)⟩:aa))<|sv (aH p)<|sv (aJ p)<|b9 (aS.ln p.Kids)<|cm (FP R36 p.Kids (p.Kids.length:Int) ([]:List aa) p.Op p.Name p.N 0 ([]:List aa) hR36 bo5)<|sz (aU (⟨p.Op,p.Name,p.N,o5⟩:aa) [])<|sy (aR (⟨p.Op,p.Name,p.N,o5⟩:aa))<|en (aI (dG (⟨p.Op,p.Name,p.N,o5⟩:aa))<|aI (ah (⟨p.Op,p.Name,p.N,o5⟩:aa))<|rT)
 exact bo Vg call123 func123 (c:=Vz) rfl (aI (ah p) trivial) z<|by kernel_rfl
def Em:(aa->Option aa)->(aa)->Option aa:=fun(rec:aa->Option aa) (x:aa)=>El (fun p=>rec p) x
def tC(p:aa):Option aa:=ku Em p
theorem pG{p:aa}{r:aa}(h:tC p=some r):CC Pg GE 123 [.agg (ac p)] (.agg (ac r)) [(3,28)]:=
 cn (F:=Em) (M:=fun(x:aa) (r:aa)=>CC Pg GE 123 [.agg (ac x)] (.agg (ac r)) [(3,28)]) (fun rec hrec x r h=>Kk _ (fun p r h=>hrec p r h) h) h
end Go.Proofs.YtggeppllafbidaaGreatDoor
