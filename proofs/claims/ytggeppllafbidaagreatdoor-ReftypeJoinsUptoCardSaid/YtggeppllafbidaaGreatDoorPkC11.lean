/- PROVED: a part of the proof. Conditions: none. -/
import Derived.Test.YtggeppllafbidaaGreatDoorPkC10
noncomputable section
namespace Go.Proofs.YtggeppllafbidaaGreatDoor
open Go Go.Proofs.Tryz
set_option linter.unusedVariables false
set_option maxRecDepth 100000
noncomputable def UU:Code:=f88.body.getD .skip
def Td:List Nat:=[44,48,80]
section
variable(R18:bw)(t:ae)(t40:waC)(t41:Int)(m:waC)(m2:waB)(m3:Int)(m4:ag)(n:Nat)(m6:Int)(m7:ag)(m8:Int)(m9:waB)(m10:waB)(m11:waA)(m12:waB)(used:waA)(t42:Int)(w3:List ag)(m5:waC)(m13:waA)(m14:waB)
def bk:av:=aM 99 [(3,.eptr (af t)),(4,.bptr 2 0),(5,.bptr 4 0),(7,sl cS used),(8,.bptr 6 0),(40,sl af t40),(41,.int .i64 t41),(42,.int .i64 t42)] [.dead,.dead,.cells [.int .i64 0,.str ([]:ag),sl af m,sl cS ([]:List ag),.int .i64 0,.str ([]:ag),.int .i64 0,sl ac m2,sl ac m2] [(2,30),(3,9),(7,28),(8,28)],.cells (mr cS w3) [],.cells [.int .i64 m3,.str m4,sl af m5,.bsl 3 0 n,.int .i64 m6,.str m7,.int .i64 m8,sl ac m9,sl ac m10] [(2,30)],.cells [sl cS m11,sl ac m12] [],.cells [sl cS m13,sl ac m14] []] [((7,0),9)]
def dm(o:List ag×waC×waA×waB):av:=aM 99 [(4,.bptr 2 0),(5,.bptr 4 0)] [.dead,.dead,.cells [.int .i64 0,.str ([]:ag),sl af m,sl cS ([]:List ag),.int .i64 0,.str ([]:ag),.int .i64 0,sl ac m2,sl ac m2] [(2,30),(3,9),(7,28),(8,28)],.cells (mr cS o.1) [],.cells [.int .i64 m3,.str m4,sl af o.2.1,.bsl 3 0 n,.int .i64 m6,.str m7,.int .i64 m8,sl ac m9,sl ac m10] [(2,30)],.cells [sl cS m11,sl ac m12] [],.cells [sl cS o.2.2.1,sl ac o.2.2.2] []] []
def aX:Option ((waA×Int×List ag×waC×waA×waB)⊕((List ag×waC×waA×waB))):=
 if (decide (t42 < t41)) = true then
  (dz t40 t42).bind fun x9=>
  (R18 (⟨m13,m14⟩:ai) x9).bind fun r10=>
  (app m5 ([r10]:List ae)).bind fun l11=>
  if(decide (t42>=(t.Names.length:Int)))=true then
   some (.inl (used,bC (t42+1),w3,l11,m13,m14))
  else
   (dz t.Names t42).bind fun x14=>
   (bX (⟨m13,m14⟩:ai) ([x14]:List ag)).bind fun r15=>
   (cV r15).bind fun r16=>
   (dK r16 x14).bind fun r17=>
   if r17=true then
    (rv used x14).bind fun r20=>
    (OC n w3 t42).bind fun x21=>
    (SJ w3 t42 r20).bind fun l22=>
    (OC n l22 t42).bind fun x23=>
    (app used ([x23]:List ag)).bind fun l24=>
    (OC n l22 t42).bind fun x25=>
    (cW r15 x14 (⟨3,x25,0,([]:List aa)⟩:aa)).bind fun r26=>
    some (.inl (l24,bC (t42+1),l22,l11,r26.names,r26.by_))
   else
    some (.inl (used,bC (t42+1),w3,l11,r15.names,r15.by_))
 else
  some (.inr (w3,m5,m13,m14))
def dE:Option ((List ag×waC×waA×waB)):=loop (fun(zz:waA×Int×List ag×waC×waA×waB)=>aX R18 t t40 t41 n zz.1 zz.2.1 zz.2.2.1 zz.2.2.2.1 zz.2.2.2.2.1 zz.2.2.2.2.2) (used,t42,w3,m5,m13,m14)
theorem jT(hR18:ce R18){y:(waA×Int×List ag×waC×waA×waB)⊕((List ag×waC×waA×waB))}(h:aX R18 t t40 t41 n used t42 w3 m5 m13 m14=some y):aF Pg GE 0 (cA UU 1015) (LQ (fun(zz:waA×Int×List ag×waC×waA×waB)=>bk t t40 t41 m m2 m3 m4 n m6 m7 m8 m9 m10 m11 m12 zz.1 zz.2.1 zz.2.2.1 zz.2.2.2.1 zz.2.2.2.2.1 zz.2.2.2.2.2) (fun _=>.exit 0) (dm m m2 m3 m4 n m6 m7 m8 m9 m10 m11 m12) y) (bk t t40 t41 m m2 m3 m4 n m6 m7 m8 m9 m10 m11 m12 used t42 w3 m5 m13 m14):=by
 rcases aU h with⟨c8,h⟩|⟨c8,h⟩
 ·obtain⟨x9,bx9,h⟩:=aw h
  obtain⟨r10,br10,h⟩:=aw h
  obtain⟨l11,bl11,h⟩:=aw h
  have p13:=fun{sc F} (r:PS sc F)=>sg 0 c8<|sv (dP.ia (k:=.i64) bx9)<|sv (aW x9)<|sx iq<|sx (cn x9)<|sU [0,1,0,0,12,28,63,127,255]<|sv (bH (⟨m13,m14⟩:ai) [])<|sv (bh x9 [])<|bg (hR18 _ _ _ br10)<|sv (dP.mk' (v:=uV) pI ([r10]:List ae) 1 (by kernel_rfl))<|sv (dP.ap bl11)<|Ol (rfl:b6 (sl af l11)=some [sl af l11])<|sv (aB t)<|sv (aD t)<|cG (ba.ln t.Names)<|r
  rcases aU h with⟨c12,h⟩|⟨c12,h⟩
  ·obtain rfl:=lf h
   have z:=p13<|sg 0 c12<|oz 0 .normal (bk t t40 t41 m m2 m3 m4 n m6 m7 m8 m9 m10 m11 m12 used (bC (t42+1)) w3 l11 m13 m14) rfl (cz (aI (lM (ak t)) (aI (cF rfl) (aI (cF rfl) (aI (up (am d7 used)) (aI (cF rfl) (aI (up (am ak t40)) (aI trivial (aI trivial trivial))))))))) (aI trivial (aI trivial (aI (aI trivial (aI trivial (aI (up (am ak m)) (aI (up (am d7 ([]:List ag))) (aI trivial (aI trivial (aI trivial (aI (up (am ah m2)) (aI (up (am ah m2)) trivial))))))))) (aI (Ql _ d7 w3) (aI (aI trivial (aI trivial (aI (up (am ak l11)) (aI (cF rfl) (aI trivial (aI trivial (aI trivial (aI (up (am ah m9)) (aI (up (am ah m10)) trivial))))))))) (aI (aI (up (am d7 m11)) (aI (up (am ah m12)) trivial)) (aI (aI (up (am d7 m13)) (aI (up (am ah m14)) trivial)) trivial)))))))
   exact cw (A:=Td) mixed z<|by kernel_rfl
  ·obtain⟨x14,bx14,h⟩:=aw h
   obtain⟨r15,br15,h⟩:=aw h
   obtain⟨r16,br16,h⟩:=aw h
   obtain⟨r17,br17,h⟩:=aw h
   have p19:=fun{sc F} (r:PS sc F)=>p13<|sg 0 c12<|sv (aB t)<|sv (aD t)<|sv (ba.ia (k:=.i64) bx14)<|sv (cY yR (.str x14) [])<|sv (bH (⟨m13,m14⟩:ai) [])<|sv (ba.mk' (v:=PVal.str) CW ([x14]:List ag) 1 (by kernel_rfl))<|bg (dO br15)<|sy (bP r15)<|sv (bH r15 [])<|bg (iu br16)<|bg (ff br17)<|r
   rcases aU h with⟨c18,h⟩|⟨c18,h⟩
   ·obtain⟨r20,br20,h⟩:=aw h
    obtain⟨x21,bx21,h⟩:=aw h
    obtain⟨l22,bl22,h⟩:=aw h
    obtain⟨x23,bx23,h⟩:=aw h
    obtain⟨l24,bl24,h⟩:=aw h
    obtain⟨x25,bx25,h⟩:=aw h
    obtain⟨r26,br26,h⟩:=aw h
    obtain rfl:=lf h
    have z:=p19<|sg 0 c18<|Vh (.dx [0,1,0,0,0,24,63,127] [] [] [3])<|ss<|bg (Ge br20)<|sv (ba.iaN 3 (k:=.i64) bx21)<|V7 (ba.stR (CW r20) bl22)<|ss<|sv (ba.iaN 3 (k:=.i64) bx23)<|sv (ba.ldN (fun r=>cY yR (.str x23) r) bx23)<|sv (ba.mk' (v:=PVal.str) CW ([x23]:List ag) 1 (by kernel_rfl))<|sv (ba.ap bl24)<|sU [0,0,0,4,0,28,60,124,255,511]<|sv (bH r15 [])<|ss<|sv (ba.iaN 3 (k:=.i64) bx25)<|sv (ba.ldN (fun r=>cY yR (.str x25) r) bx25)<|sb (gJ 3 x25) (gI 3 x25)<|bg (iv br26)<|P8 (dg r26)<|oz 0 .normal (bk t t40 t41 m m2 m3 m4 n m6 m7 m8 m9 m10 m11 m12 l24 (bC (t42+1)) l22 l11 r26.names r26.by_) rfl (cz (aI (lM (ak t)) (aI (cF rfl) (aI (cF rfl) (aI (up (am d7 l24)) (aI (cF rfl) (aI (up (am ak t40)) (aI trivial (aI trivial trivial))))))))) (aI trivial (aI trivial (aI (aI trivial (aI trivial (aI (up (am ak m)) (aI (up (am d7 ([]:List ag))) (aI trivial (aI trivial (aI trivial (aI (up (am ah m2)) (aI (up (am ah m2)) trivial))))))))) (aI (Ql _ d7 l22) (aI (aI trivial (aI trivial (aI (up (am ak l11)) (aI (cF rfl) (aI trivial (aI trivial (aI trivial (aI (up (am ah m9)) (aI (up (am ah m10)) trivial))))))))) (aI (aI (up (am d7 m11)) (aI (up (am ah m12)) trivial)) (aI (aI (up (am d7 r26.names)) (aI (up (am ah r26.by_)) trivial)) trivial)))))))
    exact cw (A:=Td) mixed z<|by kernel_rfl
   ·obtain rfl:=lf h
    have z:=p19<|sg 0 c18<|oz 0 .normal (bk t t40 t41 m m2 m3 m4 n m6 m7 m8 m9 m10 m11 m12 used (bC (t42+1)) w3 l11 r15.names r15.by_) rfl (cz (aI (lM (ak t)) (aI (cF rfl) (aI (cF rfl) (aI (up (am d7 used)) (aI (cF rfl) (aI (up (am ak t40)) (aI trivial (aI trivial trivial))))))))) (aI trivial (aI trivial (aI (aI trivial (aI trivial (aI (up (am ak m)) (aI (up (am d7 ([]:List ag))) (aI trivial (aI trivial (aI trivial (aI (up (am ah m2)) (aI (up (am ah m2)) trivial))))))))) (aI (Ql _ d7 w3) (aI (aI trivial (aI trivial (aI (up (am ak l11)) (aI (cF rfl) (aI trivial (aI trivial (aI trivial (aI (up (am ah m9)) (aI (up (am ah m10)) trivial))))))))) (aI (aI (up (am d7 m11)) (aI (up (am ah m12)) trivial)) (aI (aI (up (am d7 r15.names)) (aI (up (am ah r15.by_)) trivial)) trivial)))))))
    exact cw (A:=Td) mixed z<|by kernel_rfl
 ·obtain rfl:=lf h
  have z:=sg 0 c8<|eF (.exit 0) (dm m m2 m3 m4 n m6 m7 m8 m9 m10 m11 m12 (w3,m5,m13,m14))
  exact fX Td (by intro hx;cases hx) z<|by kernel_rfl
theorem kl(hR18:ce R18){x:(List ag×waC×waA×waB)}(h:dE R18 t t40 t41 n used t42 w3 m5 m13 m14=some x):aF Pg GE 0 (.loop (cA UU 1015)) (EX (.exit 0) (dm m m2 m3 m4 n m6 m7 m8 m9 m10 m11 m12 x)) (bk t t40 t41 m m2 m3 m4 n m6 m7 m8 m9 m10 m11 m12 used t42 w3 m5 m13 m14):=
 aF.loop (S:=fun(zz:waA×Int×List ag×waC×waA×waB)=>bk t t40 t41 m m2 m3 m4 n m6 m7 m8 m9 m10 m11 m12 zz.1 zz.2.1 zz.2.2.1 zz.2.2.2.1 zz.2.2.2.2.1 zz.2.2.2.2.2) (ex:=(fun _=>.exit 0)) (s:=(used,t42,w3,m5,m13,m14)) h fun zz y hy=>jT R18 t t40 t41 m m2 m3 m4 n m6 m7 m8 m9 m10 m11 m12 zz.1 zz.2.1 zz.2.2.1 zz.2.2.2.1 zz.2.2.2.2.1 zz.2.2.2.2.2 hR18 hy
end
def ea(R18:bw)(s:ai)(t:ae):Option ae:=
 (wx t.Names).bind fun r1=>
 (ck s t.Pred).bind fun r2=>
 (jv t.Preds s).bind fun r3=>
 (cV s).bind fun r4=>
 (pz t).bind fun r5=>
 (app r4 r5).bind fun l6=>
 (app l6 t.Names).bind fun l7=>
 (dE R18 t t.Args (t.Args.length:Int) r1.length l7 0 r1 ([]:List ae) s.names s.by_).bind fun o27=>
 (Sr r1.length o27.1).bind fun l28=>
 some (⟨t.Op,t.Name,o27.2.1,l28,r2,r3⟩:ae)
theorem mi(R18:bw)(hR18:ce R18){s:ai}{t:ae}{r:ae}(h:ea R18 s t=some r):CC Pg GE 88 [.agg (aq s),.agg (af t)] (.agg (af r)) [(2,30)]:=by
 obtain⟨r1,br1,h⟩:=aw h
 obtain⟨r2,br2,h⟩:=aw h
 obtain⟨r3,br3,h⟩:=aw h
 obtain⟨r4,br4,h⟩:=aw h
 obtain⟨r5,br5,h⟩:=aw h
 obtain⟨l6,bl6,h⟩:=aw h
 obtain⟨l7,bl7,h⟩:=aw h
 obtain⟨o27,bo27,h⟩:=aw h
 obtain⟨l28,bl28,h⟩:=aw h
 obtain rfl:=lf h
 have z:=se (cO s)<|se (bE t)<|sx iq<|Vh (.dx [0,1,0,4,0,16,48,0,0,256,1008,0,2048,0,8192,32752,65535,0,262143] [.cells (mr cS r1) []] [(6,3)] [])<|sv (aA t)<|sv (aC t)<|sv (dc t)<|sv (dB t)<|sv (aB t)<|sv (aD t)<|V5 3 9 (ba.cloneR Ic br1)<|sv (bQ s)<|sv (bF t)<|sv (bG t)<|bg (eB br2)<|sv (bT t)<|sv (bU t)<|sv (bQ s)<|bg (rI br3)<|sb (vF t.Op t.Name 3 r1.length r2 r3) (vD t.Op t.Name 3 r1.length r2 r3)<|P8 (W1 [.int .i64 t.Op,.str t.Name,sl af ([]:List ae),.bsl 3 0 r1.length,.int .i64 r2.Op,.str r2.Name,.int .i64 r2.N,sl ac r2.Kids,sl ac r3])<|sv (bQ s)<|sx Mj<|sx (dg s)<|sU [0,1,0,7,15,0,32,127,255]<|sv (bH s [])<|bg (iu br4)<|sv (aW t)<|bg (va br5)<|sv (ba.ap bl6)<|sv (aB t)<|sv (aD t)<|sv (ba.ap bl7)<|sv (bQ s)<|sx Mj<|sx (dg s)<|sv (aH t)<|sv (aJ t)<|cG (dP.ln t.Args)<|cC (kl R18 t t.Args (t.Args.length:Int) ([]:List ae) ([]:List aa) t.Op t.Name r1.length r2.Op r2.Name r2.N r2.Kids r3 s.names s.by_ l7 0 r1 ([]:List ae) s.names s.by_ hR18 bo27)<|Ur 3 (l28.map cS) [4,5] [] (ba.fz1 (m:=0) (b:=3) rfl l28) (ba.fz2 3 l28) (VW cS bl28)<|sf (HK 3 (p:=sl af ([]:List ae)) (am ak ([]:List ae)))<|sf (HK 3 (p:=sl cS ([]:List ag)) (am d7 ([]:List ag)))<|sf (HK 3 (p:=sl ac ([]:List aa)) (am ah ([]:List aa)))<|sf (HK 3 (p:=sl ac ([]:List aa)) (am ah ([]:List aa)))<|sf (HK 3 (p:=sl af o27.2.1) (am ak o27.2.1))<|sf (VX cS bl28)<|sf (HK 3 (p:=sl ac r2.Kids) (am ah r2.Kids))<|sf (HK 3 (p:=sl ac r3) (am ah r3))<|sf (HK 3 (p:=sl cS s.names) (am d7 s.names))<|sf (HK 3 (p:=sl ac s.by_) (am ah s.by_))<|sf (HK 3 (p:=sl cS o27.2.2.1) (am d7 o27.2.2.1))<|sf (HK 3 (p:=sl ac o27.2.2.2) (am ah o27.2.2.2))<|sz (bh (⟨t.Op,t.Name,o27.2.1,l28,r2,r3⟩:ae) [])<|sy (aT (⟨t.Op,t.Name,o27.2.1,l28,r2,r3⟩:ae))<|en (aI (cr (⟨t.Op,t.Name,o27.2.1,l28,r2,r3⟩:ae))<|aI (ak (⟨t.Op,t.Name,o27.2.1,l28,r2,r3⟩:ae))<|rT)
 exact bS Td call88 func88 (c:=UU) rfl (aI (aV s) (aI (ak t) trivial)) z<|by kernel_rfl
noncomputable def US:Code:=f74.body.getD .skip
def UA:List Nat:=[14,21]
section
variable(R18:bw)(v:ai)(t8:waC)(t9:Int)(out:waC)(t10:Int)
def dR:av:=aM 22 [(1,.func (.func 50) [.agg (aq v)] []),(5,sl af out),(8,sl af t8),(9,.int .i64 t9),(10,.int .i64 t10)] [] [((5,0),30)]
def iL(o:waC):av:=aM 22 [(5,sl af o)] [] [((5,0),30)]
def mC:Option ((waC×Int)⊕(waC)):=
 if(decide (t10<t9))=true then
  (dz t8 t10).bind fun x2=>
  (R18 v x2).bind fun r3=>
  (app out ([r3]:List ae)).bind fun l4=>
  some (.inl (l4,bC (t10+1)))
 else
  some (.inr out)
def jR:Option waC:=loop (fun(zz:waC×Int)=>mC R18 v t8 t9 zz.1 zz.2) (out,t10)
theorem tB(hR18:ce R18){y:(waC×Int)⊕(waC)}(h:mC R18 v t8 t9 out t10=some y):aF Pg GE 0 (cA US 119) (LQ (fun(zz:waC×Int)=>dR v t8 t9 zz.1 zz.2) (fun _=>.exit 0) iL y) (dR v t8 t9 out t10):=by
 rcases aU h with⟨c1,h⟩|⟨c1,h⟩
 ·obtain⟨x2,bx2,h⟩:=aw h
  obtain⟨r3,br3,h⟩:=aw h
  obtain⟨l4,bl4,h⟩:=aw h
  obtain rfl:=lf h
  have z:=sg 0 c1<|sv (dP.ia (k:=.i64) bx2)<|sv (aW x2)<|sx iq<|sx (cn x2)<|sv (bh x2 [])<|bg (hR18 _ _ _ br3)<|sv (dP.mk' (v:=uV) pI ([r3]:List ae) 1 (by kernel_rfl))<|sv (dP.ap bl4)<|oz 0 .normal (dR v t8 t9 l4 (bC (t10+1))) rfl (cz (aI (aI (aI (up (aV v)) trivial) trivial) (aI (up (am ak l4)) (aI (up (am ak t8)) (aI trivial (aI trivial trivial)))))) trivial
  exact cw (A:=UA) mixed z<|by kernel_rfl
 ·obtain rfl:=lf h
  have z:=sg 0 c1<|eF (.exit 0) (iL out)
  exact fX UA (by intro hx;cases hx) z<|by kernel_rfl
theorem uQ(hR18:ce R18){x:waC}(h:jR R18 v t8 t9 out t10=some x):aF Pg GE 0 (.loop (cA US 119)) (EX (.exit 0) (iL x)) (dR v t8 t9 out t10):=
 aF.loop (S:=fun(zz:waC×Int)=>dR v t8 t9 zz.1 zz.2) (ex:=(fun _=>.exit 0)) (s:=(out,t10)) h fun zz y hy=>tB R18 v t8 t9 zz.1 zz.2 hR18 hy
end
def ng(R18:bw)(a:waC)(c:ai):Option waC:=
 (jR R18 c a (a.length:Int) ([]:List ae) 0).bind fun o5=>
 some o5
theorem ye(R18:bw)(hR18:ce R18){a:waC}{c:ai}{r:waC}(h:ng R18 a c=some r):CC Pg GE 74 [sl af a,.func (.func 50) [.agg (aq c)] []] (sl af r) [(0,30)]:=by
 obtain⟨o5,bo5,h⟩:=aw h
 obtain rfl:=lf h
 have z:=cG (dP.ln a)<|cC (uQ R18 c a (a.length:Int) ([]:List ae) 0 hR18 bo5)<|en (aI (rP (sl af o5))<|(am ak o5))
 exact bS UA call74 func74 (c:=US) rfl (aI (am ak a) (aI (aI (aI (aV c) trivial) trivial) trivial)) z<|by kernel_rfl
noncomputable def VJ:Code:=f50.body.getD .skip
def Vx:List Nat:=[]
def dF(R18:bw)(s:ai)(t:ae):Option ae:=
 if(t.Op==6)=true then
  (ea R18 s t).bind fun r3=>
  some r3
 else
  (wx t.Names).bind fun r4=>
  (ck s t.Pred).bind fun r5=>
  (jv t.Preds s).bind fun r6=>
  (ng R18 t.Args s).bind fun r7=>
  some (⟨t.Op,t.Name,r7,r4,r5,r6⟩:ae)
theorem oJ(R18:bw)(hR18:ce R18){s:ai}{t:ae}{r:ae}(h:dF R18 s t=some r):CC Pg GE 50 [.agg (aq s),.agg (af t)] (.agg (af r)) [(2,30)]:=by
 have p2:=fun{sc F} (r:PS sc F)=>se (cO s)<|se (bE t)<|sx iq<|sv (aA t)<|sv (aC t)<|r
 rcases aU h with⟨c1,h⟩|⟨c1,h⟩
 ·obtain⟨r3,br3,h⟩:=aw h
  obtain rfl:=lf h
  have z:=p2<|sg 0 c1<|sv (bQ s)<|sv (aW t)<|bg (mi R18 hR18 br3)<|sy (aT r3)<|en (aI (cr r3)<|aI (ak r3)<|rT)
  exact bS Vx call50 func50 (c:=VJ) rfl (aI (aV s) (aI (ak t) trivial)) z<|by kernel_rfl
 ·obtain⟨r4,br4,h⟩:=aw h
  obtain⟨r5,br5,h⟩:=aw h
  obtain⟨r6,br6,h⟩:=aw h
  obtain⟨r7,br7,h⟩:=aw h
  obtain rfl:=lf h
  have z:=p2<|sg 0 c1<|sU [0,1,0,4,0,16,48,0,0,256,1008,0,2048,0,8192,32752,65535,0,262143]<|sv (aA t)<|sv (aC t)<|sv (dc t)<|sv (dB t)<|sv (aB t)<|sv (aD t)<|bg (LS br4)<|sv (bQ s)<|sv (bF t)<|sv (bG t)<|bg (eB br5)<|sv (bT t)<|sv (bU t)<|sv (bQ s)<|bg (rI br6)<|sb (zv t.Op t.Name r4 r5 r6) (zu t.Op t.Name r4 r5 r6)<|P8 (cn (⟨t.Op,t.Name,([]:List ae),r4,r5,r6⟩:ae))<|sv (aH t)<|sv (aJ t)<|sv (bQ s)<|bg (ye R18 hR18 br7)<|sz (bh (⟨t.Op,t.Name,r7,r4,r5,r6⟩:ae) [])<|sy (aT (⟨t.Op,t.Name,r7,r4,r5,r6⟩:ae))<|en (aI (cr (⟨t.Op,t.Name,r7,r4,r5,r6⟩:ae))<|aI (ak (⟨t.Op,t.Name,r7,r4,r5,r6⟩:ae))<|rT)
  exact bS Vx call50 func50 (c:=VJ) rfl (aI (aV s) (aI (ak t) trivial)) z<|by kernel_rfl
def fe:((ai×ae)->Option ae)->(ai×ae)->Option ae:=fun(rec:(ai×ae)->Option ae) (x:ai×ae)=>dF (fun s t=>rec (s,t)) x.1 x.2
def fS(s:ai)(t:ae):Option ae:=nS fe (s,t)
theorem pA{s:ai}{t:ae}{r:ae}(h:fS s t=some r):CC Pg GE 50 [.agg (aq s),.agg (af t)] (.agg (af r)) [(2,30)]:=
 cU (F:=fe) (M:=fun(x:ai×ae) (r:ae)=>CC Pg GE 50 [.agg (aq x.1),.agg (af x.2)] (.agg (af r)) [(2,30)]) (fun rec hrec x r h=>oJ _ (fun s t r h=>hrec (s,t) r h) h) h
noncomputable def Ww:Code:=f15.body.getD .skip
def Wg:List Nat:=[]
def gu(t:ae)(a:waA)(a2:waB):Option ae:=
 (Lo a none (some (if(a2.length:Int)<(a.length:Int)then(a2.length:Int)else(a.length:Int)))).bind fun l1=>
 (Lo a2 none (some (if(a2.length:Int)<(a.length:Int)then(a2.length:Int)else(a.length:Int)))).bind fun l2=>
 (bX (⟨l1,l2⟩:ai) ([([118]:ag)]:List ag)).bind fun r3=>
 (fS r3 t).bind fun r4=>
 some r4
theorem oV{t:ae}{a:waA}{a2:waB}{r:ae}(h:gu t a a2=some r):CC Pg GE 15 [.agg (af t),sl cS a,sl ac a2] (.agg (af r)) [(2,30)]:=by
 obtain⟨l1,bl1,h⟩:=aw h
 obtain⟨l2,bl2,h⟩:=aw h
 obtain⟨r3,br3,h⟩:=aw h
 obtain⟨r4,br4,h⟩:=aw h
 obtain rfl:=lf h
 have z:=se (bE t)<|sx iq<|cG (ba.ln a)<|cG (aP.ln a2)<|sU [0,0,3,0,0,24,63,0,255,0,1023]<|sv (ba.sc bl1)<|sv (aP.sc bl2)<|sv (pp l1 l2)<|sv (ba.mk' (v:=PVal.str) CW ([([118]:ag)]:List ag) 1 (by kernel_rfl))<|bg (dO br3)<|P8 (dg r3)<|sv (bH r3 [])<|sv (aW t)<|bg (pA br4)<|sy (aT r4)<|en (aI (cr r4)<|aI (ak r4)<|rT)
 exact bS Wg call15 func15 (c:=Ww) rfl (aI (ak t) (aI (am d7 a) (aI (am ah a2) trivial))) z<|by kernel_rfl
noncomputable def Wv:Code:=f13.body.getD .skip
def Wf:List Nat:=[]
def nC(t:ae)(name:ag)(a:aa):Option ae:=
 (gu t ([name]:List ag) ([a]:List aa)).bind fun r1=>
 some r1
theorem nf{t:ae}{name:ag}{a:aa}{r:ae}(h:nC t name a=some r):CC Pg GE 13 [.agg (af t),.str name,.agg (ac a)] (.agg (af r)) [(2,30)]:=by
 obtain⟨r1,br1,h⟩:=aw h
 obtain rfl:=lf h
 have z:=se (bE t)<|se (bz a)<|sx iq<|sv (aW t)<|sv (ba.mk' (v:=PVal.str) CW ([name]:List ag) 1 (by kernel_rfl))<|sv (az a)<|sv (aP.mk' (v:=bR) aY ([a]:List aa) 1 (by kernel_rfl))<|bg (oV br1)<|sy (aT r1)<|en (aI (cr r1)<|aI (ak r1)<|rT)
 exact bS Wf call13 func13 (c:=Wv) rfl (aI (ak t) (aI trivial (aI (ah a) trivial))) z<|by kernel_rfl
noncomputable def Tu:Code:=f18.body.getD .skip
def RV:List Nat:=[28]
section
variable(args:waB)(t:ae)(m:waC)(m2:waB)
def zV:av:=aM 54 [(1,sl ac args),(2,.eptr (af t)),(4,.bptr 1 0)] [.dead,.cells [.int .i64 0,.str ([]:ag),sl af m,sl cS ([]:List ag),.int .i64 0,.str ([]:ag),.int .i64 0,sl ac m2,sl ac m2] [(2,30),(3,9),(7,28),(8,28)]] []
def kS(o:Bool):av:=aM 54 [(1,sl ac args),(2,.eptr (af t)),(4,.bptr 1 0),(20,.bool o)] [.dead,.cells [.int .i64 0,.str ([]:ag),sl af m,sl cS ([]:List ag),.int .i64 0,.str ([]:ag),.int .i64 0,sl ac m2,sl ac m2] [(2,30),(3,9),(7,28),(8,28)]] []
def gr:Option Bool:=
 if(t.Op !=6)=true then
  some true
 else
  some ((t.Args.length:Int)!=(bC ((args.length:Int)+1)))
theorem xY{x:Bool}(h:gr args t=some x):aF Pg GE 0 (cA Tu 12) (EX .normal (kS args t m m2 x)) (zV args t m m2):=by
 have p2:=fun{sc F} (r:PS sc F)=>sv (aA t)<|sv (aC t)<|r
 rcases aU h with⟨c1,h⟩|⟨c1,h⟩
 ·obtain rfl:=lf h
  exact cm RV (p2<|sg 4 c1<|eF .normal (kS args t m m2 true))<|by kernel_rfl
 ·obtain rfl:=lf h
  exact cm RV (p2<|sg 4 c1<|sv (aH t)<|sv (aJ t)<|cG (dP.ln t.Args)<|cG (aP.ln args)<|eF .normal (kS args t m m2 ((t.Args.length:Int)!=(bC ((args.length:Int)+1)))))<|by kernel_rfl
end
section
variable(args:waB)(t:ae)(t24:waA)(t25:Int)(m:waC)(m2:waB)(t26:Int)(m3:waA)(m4:waB)
def dX:av:=aM 54 [(1,sl ac args),(2,.eptr (af t)),(4,.bptr 1 0),(6,.bptr 2 0),(24,sl cS t24),(25,.int .i64 t25),(26,.int .i64 t26)] [.dead,.cells [.int .i64 0,.str ([]:ag),sl af m,sl cS ([]:List ag),.int .i64 0,.str ([]:ag),.int .i64 0,sl ac m2,sl ac m2] [(2,30),(3,9),(7,28),(8,28)],.cells [sl cS m3,sl ac m4] [(0,9),(1,28)]] []
def kT(o:waA×waB):av:=aM 54 [(1,sl ac args),(2,.eptr (af t)),(4,.bptr 1 0),(6,.bptr 2 0)] [.dead,.cells [.int .i64 0,.str ([]:ag),sl af m,sl cS ([]:List ag),.int .i64 0,.str ([]:ag),.int .i64 0,sl ac m2,sl ac m2] [(2,30),(3,9),(7,28),(8,28)],.cells [sl cS o.1,sl ac o.2] [(0,9),(1,28)]] []
def dl:Option ((Int×waA×waB)⊕((waA×waB))):=
 if(decide (t26<t25))=true then
  (dz t24 t26).bind fun x7=>
  if(decide (t26<(args.length:Int)))=true then
   (dz args t26).bind fun x10=>
   (cW (⟨m3,m4⟩:ai) x7 x10).bind fun r11=>
   some (.inl (bC (t26+1),r11.names,r11.by_))
  else
   some (.inl (bC (t26+1),m3,m4))
 else
  some (.inr (m3,m4))
def jL:Option ((waA×waB)):=loop (fun(zz:Int×waA×waB)=>dl args t24 t25 zz.1 zz.2.1 zz.2.2) (t26,m3,m4)
theorem wX{y:(Int×waA×waB)⊕((waA×waB))}(h:dl args t24 t25 t26 m3 m4=some y):aF Pg GE 0 (cA Tu 247) (LQ (fun(zz:Int×waA×waB)=>dX args t t24 t25 m m2 zz.1 zz.2.1 zz.2.2) (fun _=>.exit 0) (kT args t m m2) y) (dX args t t24 t25 m m2 t26 m3 m4):=by
 rcases aU h with⟨c6,h⟩|⟨c6,h⟩
 ·obtain⟨x7,bx7,h⟩:=aw h
  have p9:=fun{sc F} (r:PS sc F)=>sg 0 c6<|sv (ba.ia (k:=.i64) bx7)<|sv (cY yR (.str x7) [])<|cG (aP.ln args)<|r
  rcases aU h with⟨c8,h⟩|⟨c8,h⟩
  ·obtain⟨x10,bx10,h⟩:=aw h
   obtain⟨r11,br11,h⟩:=aw h
   obtain rfl:=lf h
   exact sT RV (p9<|sg 0 c8<|sU [0,0,0,0,12,28,63,127]<|sv (bH (⟨m3,m4⟩:ai) [])<|sv (aP.ia (k:=.i64) bx10)<|sv (az x10)<|bg (iv br11)<|P8 (dg r11)<|eF .normal (dX args t t24 t25 m m2 (bC (t26+1)) r11.names r11.by_))<|by kernel_rfl
  ·obtain rfl:=lf h
   exact sT RV (p9<|sg 0 c8<|eF .normal (dX args t t24 t25 m m2 (bC (t26+1)) m3 m4))<|by kernel_rfl
 ·obtain rfl:=lf h
  have z:=sg 0 c6<|eF (.exit 0) (kT args t m m2 (m3,m4))
  exact fX RV (by intro hx;cases hx) z<|by kernel_rfl
theorem xZ{x:(waA×waB)}(h:jL args t24 t25 t26 m3 m4=some x):aF Pg GE 0 (.loop (cA Tu 247)) (EX (.exit 0) (kT args t m m2 x)) (dX args t t24 t25 m m2 t26 m3 m4):=
 aF.loop (S:=fun(zz:Int×waA×waB)=>dX args t t24 t25 m m2 zz.1 zz.2.1 zz.2.2) (ex:=(fun _=>.exit 0)) (s:=(t26,m3,m4)) h fun zz y hy=>wX args t t24 t25 m m2 zz.1 zz.2.1 zz.2.2 hy
end
def eP(t:ae)(args:waB):Option (ae×Int):=
 (gr args t).bind fun o3=>
 if o3=true then
  some ((⟨0,([]:ag),([]:List ae),([]:List ag),(⟨0,([]:ag),0,([]:List aa)⟩:aa),([]:List aa)⟩:ae),13)
 else
  (jL args t.Names (t.Names.length:Int) 0 ([]:List ag) ([]:List aa)).bind fun o12=>
  (dz t.Args (args.length:Int)).bind fun x13=>
  (gu x13 o12.1 o12.2).bind fun r14=>
  some (r14,0)
theorem tA{t:ae}{args:waB}{r:ae×Int}(h:eP t args=some r):CC Pg GE 18 [.agg (af t),sl ac args] (.tuple [.agg (af r.1),.int .i64 r.2]) []:=by
 obtain⟨o3,bo3,h⟩:=aw h
 have p5:=fun{sc F} (r:PS sc F)=>se (bE t)<|sx iq<|kq 1<|cC (xY args t ([]:List ae) ([]:List aa) bo3)<|r
 rcases aU h with⟨c4,h⟩|⟨c4,h⟩
 ·obtain rfl:=lf h
  have z:=p5<|sg 0 c4<|sb (FB) (Fw)<|sy (aT (⟨0,([]:ag),([]:List ae),([]:List ag),(⟨0,([]:ag),0,([]:List aa)⟩:aa),([]:List aa)⟩:ae))<|en (aI (vbo PVal.tuple (Dr (cr (⟨0,([]:ag),([]:List ae),([]:List ag),(⟨0,([]:ag),0,([]:List aa)⟩:aa),([]:List aa)⟩:ae)) (Dr (rP (.int .i64 13)) (rfl:([]:List PVal)=[]))))<|(aI (ak (⟨0,([]:ag),([]:List ae),([]:List ag),(⟨0,([]:ag),0,([]:List aa)⟩:aa),([]:List aa)⟩:ae)) (aI trivial trivial)))
  exact bS RV call18 func18 (c:=Tu) rfl (aI (ak t) (aI (am ah args) trivial)) z<|by kernel_rfl
 ·obtain⟨o12,bo12,h⟩:=aw h
  obtain⟨x13,bx13,h⟩:=aw h
  obtain⟨r14,br14,h⟩:=aw h
  obtain rfl:=lf h
  have z:=p5<|sg 0 c4<|sb (qO) (qN)<|sx Mj<|sy (bP (⟨([]:List ag),([]:List aa)⟩:ai))<|sv (aB t)<|sv (aD t)<|cG (ba.ln t.Names)<|cC (xZ args t t.Names (t.Names.length:Int) ([]:List ae) ([]:List aa) 0 ([]:List ag) ([]:List aa) bo12)<|sU [0,1,0,4,15,31,0,64,0,256,1023,2047,4095]<|sv (aH t)<|sv (aJ t)<|cG (aP.ln args)<|sv (dP.ia (k:=.i64) bx13)<|sv (aW x13)<|ss<|ss<|bg (oV br14)<|P8 (cn r14)<|en (aI (vbo PVal.tuple (Dr (cr r14) (Dr (rP (.int .i64 0)) (rfl:([]:List PVal)=[]))))<|(aI (ak r14) (aI trivial trivial)))
  exact bS RV call18 func18 (c:=Tu) rfl (aI (ak t) (aI (am ah args) trivial)) z<|by kernel_rfl
abbrev ka:=(ae->waA->waC->Option ae)
abbrev nn(R:ka):Prop:=∀(t:ae) (a:waA) (a2:waC) (r:ae),R t a a2=some r->CC Pg GE 95 [.agg (af t),sl cS a,sl af a2] (.agg (af r)) [(2,30),(8,28)]
noncomputable def QH:Code:=f122.body.getD .skip
def Qr:List Nat:=[]
def Ah(p:aa):Option Bool:=
 if (p.Op == 0) = true then
  if(p.Name==([]:ag))=true then
   if(p.N==0)=true then
    some ((p.Kids.length:Int)==0)
   else
    some false
  else
   some false
 else
  some false
theorem y1{p:aa}{r:Bool}(h:Ah p=some r):CC Pg GE 122 [.agg (ac p)] (.bool r) []:=by
 have p2:=fun{sc F} (r:PS sc F)=>se (bz p)<|sv (aR p)<|sv (aS p)<|r
 rcases aU h with⟨c1,h⟩|⟨c1,h⟩
 ·have p4:=fun{sc F} (r:PS sc F)=>p2<|sg 4 c1<|sv (ca p)<|sv (cq p)<|r
  rcases aU h with⟨c3,h⟩|⟨c3,h⟩
  ·have p6:=fun{sc F} (r:PS sc F)=>p4<|sg 9 c3<|sv (ch p)<|sv (ct p)<|r
   rcases aU h with⟨c5,h⟩|⟨c5,h⟩
   ·obtain rfl:=lf h
    have z:=p6<|sg 14 c5<|sv (aK p)<|sv (aL p)<|cG (aP.ln p.Kids)<|en (aI (rP (.bool ((p.Kids.length:Int)==0)))<|trivial)
    exact bS Qr call122 func122 (c:=QH) rfl (aI (ah p) trivial) z<|by kernel_rfl
   ·obtain rfl:=lf h
    have z:=p6<|sg 14 c5<|en (aI (rP (.bool false))<|trivial)
    exact bS Qr call122 func122 (c:=QH) rfl (aI (ah p) trivial) z<|by kernel_rfl
  ·obtain rfl:=lf h
   have z:=p4<|sg 9 c3<|en (aI (rP (.bool false))<|trivial)
   exact bS Qr call122 func122 (c:=QH) rfl (aI (ah p) trivial) z<|by kernel_rfl
 ·obtain rfl:=lf h
  have z:=p2<|sg 4 c1<|en (aI (rP (.bool false))<|trivial)
  exact bS Qr call122 func122 (c:=QH) rfl (aI (ah p) trivial) z<|by kernel_rfl
abbrev ph:=(aa->Option aa)
abbrev tS(R:ph):Prop:=∀(p:aa) (r:aa),R p=some r->CC Pg GE 123 [.agg (ac p)] (.agg (ac r)) [(3,28)]
noncomputable def Se:Code:=f123.body.getD .skip
def RR:List Nat:=[21]
section
variable(R36:ph)(t14:waB)(t15:Int)(m:waB)(m2:Int)(m3:ag)(m4:Int)(t16:Int)(m5:waB)
def iB:av:=aM 29 [(2,.bptr 1 0),(3,.bptr 2 0),(14,sl ac t14),(15,.int .i64 t15),(16,.int .i64 t16)] [.dead,.cells [.int .i64 0,.str ([]:ag),.int .i64 0,sl ac m] [(3,28)],.cells [.int .i64 m2,.str m3,.int .i64 m4,sl ac m5] [(3,28)]] []
def oP(o:waB):av:=aM 29 [(2,.bptr 1 0),(3,.bptr 2 0)] [.dead,.cells [.int .i64 0,.str ([]:ag),.int .i64 0,sl ac m] [(3,28)],.cells [.int .i64 m2,.str m3,.int .i64 m4,sl ac o] [(3,28)]] []
def vA:Option ((Int×waB)⊕(waB)):=
 if(decide (t16<t15))=true then
  (dz t14 t16).bind fun x2=>
  (R36 x2).bind fun r3=>
  (app m5 ([r3]:List aa)).bind fun l4=>
  some (.inl (bC (t16+1),l4))
 else
  some (.inr m5)
def sS:Option waB:=loop (fun(zz:Int×waB)=>vA R36 t14 t15 zz.1 zz.2) (t16,m5)
theorem Ce(hR36:tS R36){y:(Int×waB)⊕(waB)}(h:vA R36 t14 t15 t16 m5=some y):aF Pg GE 0 (cA Se 119) (LQ (fun(zz:Int×waB)=>iB t14 t15 m m2 m3 m4 zz.1 zz.2) (fun _=>.exit 0) (oP m m2 m3 m4) y) (iB t14 t15 m m2 m3 m4 t16 m5):=by
 rcases aU h with⟨c1,h⟩|⟨c1,h⟩
 ·obtain⟨x2,bx2,h⟩:=aw h
  obtain⟨r3,br3,h⟩:=aw h
  obtain⟨l4,bl4,h⟩:=aw h
  obtain rfl:=lf h
  have z:=sg 0 c1<|sv (aP.ia (k:=.i64) bx2)<|sv (az x2)<|sx dW<|sx (aZ x2)<|sU [0,1,0,4,12,31,63,127]<|sv (aO x2 [])<|bg (hR36 _ _ br3)<|sv (aP.mk' (v:=bR) aY ([r3]:List aa) 1 (by kernel_rfl))<|sv (aP.ap bl4)<|Ol (rfl:b6 (sl ac l4)=some [sl ac l4])<|oz 0 .normal (iB t14 t15 m m2 m3 m4 (bC (t16+1)) l4) rfl (cz (aI (cF rfl) (aI (cF rfl) (aI (up (am ah t14)) (aI trivial (aI trivial trivial)))))) (aI trivial (aI (aI trivial (aI trivial (aI trivial (aI (up (am ah m)) trivial)))) (aI (aI trivial (aI trivial (aI trivial (aI (up (am ah l4)) trivial)))) trivial)))
  exact cw (A:=RR) mixed z<|by kernel_rfl
 ·obtain rfl:=lf h
  have z:=sg 0 c1<|eF (.exit 0) (oP m m2 m3 m4 m5)
  exact fX RR (by intro hx;cases hx) z<|by kernel_rfl
theorem Dk(hR36:tS R36){x:waB}(h:sS R36 t14 t15 t16 m5=some x):aF Pg GE 0 (.loop (cA Se 119)) (EX (.exit 0) (oP m m2 m3 m4 x)) (iB t14 t15 m m2 m3 m4 t16 m5):=
 aF.loop (S:=fun(zz:Int×waB)=>iB t14 t15 m m2 m3 m4 zz.1 zz.2) (ex:=(fun _=>.exit 0)) (s:=(t16,m5)) h fun zz y hy=>Ce R36 t14 t15 m m2 m3 m4 zz.1 zz.2 hR36 hy
end
def pC(R36:ph)(p:aa):Option aa:=
 (sS R36 p.Kids (p.Kids.length:Int) 0 ([]:List aa)).bind fun o5=>
 some (⟨p.Op,p.Name,p.N,o5⟩:aa)
theorem Hb(R36:ph)(hR36:tS R36){p:aa}{r:aa}(h:pC R36 p=some r):CC Pg GE 123 [.agg (ac p)] (.agg (ac r)) [(3,28)]:=by
 obtain⟨o5,bo5,h⟩:=aw h
 obtain rfl:=lf h
 have z:=se (bz p)<|sx dW<|sv (aR p)<|sv (aS p)<|sv (ca p)<|sv (cq p)<|sv (ch p)<|sv (ct p)<|sb (qg p.Op p.Name p.N) (qe p.Op p.Name p.N)<|sx dW<|sy (aE (⟨p.Op,p.Name,p.N,([]:List aa)⟩:aa))<|sv (aK p)<|sv (aL p)<|cG (aP.ln p.Kids)<|cC (Dk R36 p.Kids (p.Kids.length:Int) ([]:List aa) p.Op p.Name p.N 0 ([]:List aa) hR36 bo5)<|sz (aO (⟨p.Op,p.Name,p.N,o5⟩:aa) [])<|sy (aE (⟨p.Op,p.Name,p.N,o5⟩:aa))<|en (aI (co (⟨p.Op,p.Name,p.N,o5⟩:aa))<|aI (ah (⟨p.Op,p.Name,p.N,o5⟩:aa))<|rT)
 exact bS RR call123 func123 (c:=Se) rfl (aI (ah p) trivial) z<|by kernel_rfl
def uU:(aa->Option aa)->(aa)->Option aa:=fun(rec:aa->Option aa) (x:aa)=>pC (fun p=>rec p) x
def kW(p:aa):Option aa:=nS uU p
theorem nF{p:aa}{r:aa}(h:kW p=some r):CC Pg GE 123 [.agg (ac p)] (.agg (ac r)) [(3,28)]:=
 cU (F:=uU) (M:=fun(x:aa) (r:aa)=>CC Pg GE 123 [.agg (ac x)] (.agg (ac r)) [(3,28)]) (fun rec hrec x r h=>Hb _ (fun p r h=>hrec p r h) h) h
noncomputable def QM:Code:=f95.body.getD .skip
def LA:List Nat:=[79,96]
section
variable(v:waA)(v2:waC)(t:ae)(i:Int)(m:waC)(m2:waB)
def Dc:av:=aM 104 [(1,sl cS v),(2,sl af v2),(3,.eptr (af t)),(6,.bptr 1 0),(7,.int .i64 i)] [.dead,.cells [.int .i64 0,.str ([]:ag),sl af m,sl cS ([]:List ag),.int .i64 0,.str ([]:ag),.int .i64 0,sl ac m2,sl ac m2] [(2,30),(3,9),(7,28),(8,28)]] []
def nh(o:Bool):av:=aM 104 [(1,sl cS v),(2,sl af v2),(3,.eptr (af t)),(6,.bptr 1 0),(7,.int .i64 i),(28,.bool o)] [.dead,.cells [.int .i64 0,.str ([]:ag),sl af m,sl cS ([]:List ag),.int .i64 0,.str ([]:ag),.int .i64 0,sl ac m2,sl ac m2] [(2,30),(3,9),(7,28),(8,28)]] []
def xf:Option Bool:=
 if(decide (i>=0))=true then
  some (decide (i<(v2.length:Int)))
 else
  some false
theorem B5{x:Bool}(h:xf v2 i=some x):aF Pg GE 0 (cA QM 106) (EX .normal (nh v v2 t i m m2 x)) (Dc v v2 t i m m2):=by
 rcases aU h with⟨c4,h⟩|⟨c4,h⟩
 ·obtain rfl:=lf h
  exact cm LA (sg 3 c4<|cG (dP.ln v2)<|eF .normal (nh v v2 t i m m2 (decide (i<(v2.length:Int)))))<|by kernel_rfl
 ·obtain rfl:=lf h
  exact cm LA (sg 3 c4<|eF .normal (nh v v2 t i m m2 false))<|by kernel_rfl
end
section
variable(t:ae)(m:waC)(m2:waB)(m3:Int)(m4:ag)(m5:waC)(m6:waA)(m7:Int)(m8:ag)(m9:Int)(m10:waB)(m11:waB)
def De:av:=aM 104 [(3,.eptr (af t)),(6,.bptr 1 0),(8,.bptr 2 0)] [.dead,.cells [.int .i64 0,.str ([]:ag),sl af m,sl cS ([]:List ag),.int .i64 0,.str ([]:ag),.int .i64 0,sl ac m2,sl ac m2] [(2,30),(3,9),(7,28),(8,28)],.cells [.int .i64 m3,.str m4,sl af m5,sl cS m6,.int .i64 m7,.str m8,.int .i64 m9,sl ac m10,sl ac m11] [(2,30),(8,28)]] []
def ni(o:Bool):av:=aM 104 [(3,.eptr (af t)),(6,.bptr 1 0),(8,.bptr 2 0),(42,.bool o)] [.dead,.cells [.int .i64 0,.str ([]:ag),sl af m,sl cS ([]:List ag),.int .i64 0,.str ([]:ag),.int .i64 0,sl ac m2,sl ac m2] [(2,30),(3,9),(7,28),(8,28)],.cells [.int .i64 m3,.str m4,sl af m5,sl cS m6,.int .i64 m7,.str m8,.int .i64 m9,sl ac m10,sl ac m11] [(2,30),(8,28)]] []
def xg:Option Bool:=
 (Ah t.Pred).bind fun r10=>
 if(!r10)=true then
  some (m3 !=6)
 else
  some false
theorem B6{x:Bool}(h:xg t m3=some x):aF Pg GE 0 (cA QM 1716) (EX .normal (ni t m m2 m3 m4 m5 m6 m7 m8 m9 m10 m11 x)) (De t m m2 m3 m4 m5 m6 m7 m8 m9 m10 m11):=by
 obtain⟨r10,br10,h⟩:=aw h
 have p12:=fun{sc F} (r:PS sc F)=>sv (bF t)<|sv (bG t)<|bg (y1 br10)<|r
 rcases aU h with⟨c11,h⟩|⟨c11,h⟩
 ·obtain rfl:=lf h
  exact cm LA (p12<|sg 5 c11<|ss<|eF .normal (ni t m m2 m3 m4 m5 m6 m7 m8 m9 m10 m11 (m3 !=6)))<|by kernel_rfl
 ·obtain rfl:=lf h
  exact cm LA (p12<|sg 5 c11<|eF .normal (ni t m m2 m3 m4 m5 m6 m7 m8 m9 m10 m11 false))<|by kernel_rfl
end
section
variable(R34:ka)(v:waA)(v2:waC)(t:ae)(m:waC)(m2:waB)
def Db:av:=aM 104 [(1,sl cS v),(2,sl af v2),(3,.eptr (af t)),(6,.bptr 1 0)] [.dead,.cells [.int .i64 0,.str ([]:ag),sl af m,sl cS ([]:List ag),.int .i64 0,.str ([]:ag),.int .i64 0,sl ac m2,sl ac m2] [(2,30),(3,9),(7,28),(8,28)]] []
def eT(o:(Int×ag×waC×waA×Int×ag×Int×waB×waB×Int×ag×waC×waA×Int×ag×Int×waB×waB)⊕(Unit)):Exit:=match o with
 |(.inl _)=>.ret
 |(.inr _)=>.normal
def du(o:(Int×ag×waC×waA×Int×ag×Int×waB×waB×Int×ag×waC×waA×Int×ag×Int×waB×waB)⊕(Unit)):av:=match o with
 |(.inl o)=>aM 104 [(6,.bptr 1 0)] [.dead,.cells [.int .i64 o.1,.str o.2.1,sl af o.2.2.1,sl cS o.2.2.2.1,.int .i64 o.2.2.2.2.1,.str o.2.2.2.2.2.1,.int .i64 o.2.2.2.2.2.2.1,sl ac o.2.2.2.2.2.2.2.1,sl ac o.2.2.2.2.2.2.2.2.1] [(2,30),(8,28)],.cells [.int .i64 o.2.2.2.2.2.2.2.2.2.1,.str o.2.2.2.2.2.2.2.2.2.2.1,sl af o.2.2.2.2.2.2.2.2.2.2.2.1,sl cS o.2.2.2.2.2.2.2.2.2.2.2.2.1,.int .i64 o.2.2.2.2.2.2.2.2.2.2.2.2.2.1,.str o.2.2.2.2.2.2.2.2.2.2.2.2.2.2.1,.int .i64 o.2.2.2.2.2.2.2.2.2.2.2.2.2.2.2.1,sl ac o.2.2.2.2.2.2.2.2.2.2.2.2.2.2.2.2.1,sl ac o.2.2.2.2.2.2.2.2.2.2.2.2.2.2.2.2.2] []] []
 |(.inr o)=>aM 104 [(1,sl cS v),(2,sl af v2),(3,.eptr (af t)),(6,.bptr 1 0)] [.dead,.cells [.int .i64 0,.str ([]:ag),sl af m,sl cS ([]:List ag),.int .i64 0,.str ([]:ag),.int .i64 0,sl ac m2,sl ac m2] [(2,30),(3,9),(7,28),(8,28)]] []
def mq:Option ((Int×ag×waC×waA×Int×ag×Int×waB×waB×Int×ag×waC×waA×Int×ag×Int×waB×waB)⊕(Unit)):=
 if (t.Op == 5) = true then
  (uE v t.Name).bind fun r3=>
  (xf v2 r3).bind fun o5=>
  if o5=true then
   (dz v2 r3).bind fun x8=>
   (R34 x8 ([]:List ag) ([]:List ae)).bind fun r9=>
   (xg t r9.Op).bind fun o13=>
   if o13=true then
    (Ah r9.Pred).bind fun r16=>
    if r16=true then
     (kW t.Pred).bind fun r19=>
     some (.inl (r9.Op,r9.Name,r9.Args,r9.Names,r19.Op,r19.Name,r19.N,r19.Kids,r9.Preds,r9.Op,r9.Name,r9.Args,r9.Names,r19.Op,r19.Name,r19.N,r19.Kids,r9.Preds))
    else
     (kW t.Pred).bind fun r20=>
     some (.inl (r9.Op,r9.Name,r9.Args,r9.Names,15,([]:ag),0,([r9.Pred,r20]:List aa),r9.Preds,r9.Op,r9.Name,r9.Args,r9.Names,15,([]:ag),0,([r9.Pred,r20]:List aa),r9.Preds))
   else
    some (.inl (r9.Op,r9.Name,r9.Args,r9.Names,r9.Pred.Op,r9.Pred.Name,r9.Pred.N,r9.Pred.Kids,r9.Preds,r9.Op,r9.Name,r9.Args,r9.Names,r9.Pred.Op,r9.Pred.Name,r9.Pred.N,r9.Pred.Kids,r9.Preds))
  else
   some (.inr ())
 else
  some (.inr ())
theorem rQ(hR34:nn R34){x:(Int×ag×waC×waA×Int×ag×Int×waB×waB×Int×ag×waC×waA×Int×ag×Int×waB×waB)⊕(Unit)}(h:mq R34 v v2 t=some x):aF Pg GE 0 (cA QM 6) (EX (eT x) (du v v2 t m m2 x)) (Db v v2 t m m2):=by
 have p2:=fun{sc F} (r:PS sc F)=>sv (aA t)<|sv (aC t)<|r
 rcases aU h with⟨c1,h⟩|⟨c1,h⟩
 ·obtain⟨r3,br3,h⟩:=aw h
  obtain⟨o5,bo5,h⟩:=aw h
  have p7:=fun{sc F} (r:PS sc F)=>p2<|sg 0 c1<|sv (dc t)<|sv (dB t)<|bg (yC br3)<|kq 0<|cC (B5 v v2 t r3 m m2 bo5)<|r
  rcases aU h with⟨c6,h⟩|⟨c6,h⟩
  ·obtain⟨x8,bx8,h⟩:=aw h
   obtain⟨r9,br9,h⟩:=aw h
   obtain⟨o13,bo13,h⟩:=aw h
   have p15:=fun{sc F} (r:PS sc F)=>p7<|sg 0 c6<|sv (dP.ia (k:=.i64) bx8)<|sv (aW x8)<|bg (hR34 _ _ _ _ br9)<|sx iq<|sy (aT r9)<|kq 1<|cC (B6 t m m2 r9.Op r9.Name r9.Args r9.Names r9.Pred.Op r9.Pred.Name r9.Pred.N r9.Pred.Kids r9.Preds bo13)<|r
   rcases aU h with⟨c14,h⟩|⟨c14,h⟩
   ·obtain⟨r16,br16,h⟩:=aw h
    have p18:=fun{sc F} (r:PS sc F)=>p15<|sg 0 c14<|sv (aO r9.Pred [sl ac r9.Preds])<|bg (y1 br16)<|r
    rcases aU h with⟨c17,h⟩|⟨c17,h⟩
    ·obtain⟨r19,br19,h⟩:=aw h
     obtain rfl:=lf h
     exact cm LA (p18<|sg 0 c17<|sv (bF t)<|sv (bG t)<|bg (nF br19)<|sy (aE r19)<|sz (bh (⟨r9.Op,r9.Name,r9.Args,r9.Names,r19,r9.Preds⟩:ae) [])<|sy (aT (⟨r9.Op,r9.Name,r9.Args,r9.Names,r19,r9.Preds⟩:ae))<|eF (eT (.inl (r9.Op,r9.Name,r9.Args,r9.Names,r19.Op,r19.Name,r19.N,r19.Kids,r9.Preds,r9.Op,r9.Name,r9.Args,r9.Names,r19.Op,r19.Name,r19.N,r19.Kids,r9.Preds))) (du v v2 t m m2 (.inl (r9.Op,r9.Name,r9.Args,r9.Names,r19.Op,r19.Name,r19.N,r19.Kids,r9.Preds,r9.Op,r9.Name,r9.Args,r9.Names,r19.Op,r19.Name,r19.N,r19.Kids,r9.Preds))))<|by kernel_rfl
    ·obtain⟨r20,br20,h⟩:=aw h
     obtain rfl:=lf h
     exact cm LA (p18<|sg 0 c17<|sU [0,1,0,4,12,31,63,127,255]<|sv (aO r9.Pred [sl ac r9.Preds])<|sv (bF t)<|sv (bG t)<|bg (nF br20)<|sv (aP.mk' (v:=bR) aY ([r9.Pred,r20]:List aa) 2 (by kernel_rfl))<|sv (jF 15 ([r9.Pred,r20]:List aa))<|sx (aZ (⟨15,([]:ag),0,([r9.Pred,r20]:List aa)⟩:aa))<|sz (bh (⟨r9.Op,r9.Name,r9.Args,r9.Names,(⟨15,([]:ag),0,([r9.Pred,r20]:List aa)⟩:aa),r9.Preds⟩:ae) [])<|sy (aT (⟨r9.Op,r9.Name,r9.Args,r9.Names,(⟨15,([]:ag),0,([r9.Pred,r20]:List aa)⟩:aa),r9.Preds⟩:ae))<|eF (eT (.inl (r9.Op,r9.Name,r9.Args,r9.Names,15,([]:ag),0,([r9.Pred,r20]:List aa),r9.Preds,r9.Op,r9.Name,r9.Args,r9.Names,15,([]:ag),0,([r9.Pred,r20]:List aa),r9.Preds))) (du v v2 t m m2 (.inl (r9.Op,r9.Name,r9.Args,r9.Names,15,([]:ag),0,([r9.Pred,r20]:List aa),r9.Preds,r9.Op,r9.Name,r9.Args,r9.Names,15,([]:ag),0,([r9.Pred,r20]:List aa),r9.Preds))))<|by kernel_rfl
   ·obtain rfl:=lf h
    exact cm LA (p15<|sg 0 c14<|sz (bh r9 [])<|sy (aT r9)<|eF (eT (.inl (r9.Op,r9.Name,r9.Args,r9.Names,r9.Pred.Op,r9.Pred.Name,r9.Pred.N,r9.Pred.Kids,r9.Preds,r9.Op,r9.Name,r9.Args,r9.Names,r9.Pred.Op,r9.Pred.Name,r9.Pred.N,r9.Pred.Kids,r9.Preds))) (du v v2 t m m2 (.inl (r9.Op,r9.Name,r9.Args,r9.Names,r9.Pred.Op,r9.Pred.Name,r9.Pred.N,r9.Pred.Kids,r9.Preds,r9.Op,r9.Name,r9.Args,r9.Names,r9.Pred.Op,r9.Pred.Name,r9.Pred.N,r9.Pred.Kids,r9.Preds))))<|by kernel_rfl
  ·obtain rfl:=lf h
   exact cm LA (p7<|sg 0 c6<|eF (eT (.inr ())) (du v v2 t m m2 (.inr ())))<|by kernel_rfl
 ·obtain rfl:=lf h
  exact cm LA (p2<|sg 0 c1<|eF (eT (.inr ())) (du v v2 t m m2 (.inr ())))<|by kernel_rfl
end
section
variable(R34:ka)(v:waA)(v2:waC)(t:ae)(t72:waC)(t73:Int)(m:waC)(m2:waB)(m3:Int)(m4:ag)(m6:waA)(m7:Int)(m8:ag)(m9:Int)(m10:waB)(t74:Int)(m5:waC)
def gv:av:=aM 104 [(1,sl cS v),(2,sl af v2),(3,.eptr (af t)),(6,.bptr 1 0),(9,.bptr 2 0),(72,sl af t72),(73,.int .i64 t73),(74,.int .i64 t74)] [.dead,.cells [.int .i64 0,.str ([]:ag),sl af m,sl cS ([]:List ag),.int .i64 0,.str ([]:ag),.int .i64 0,sl ac m2,sl ac m2] [(2,30),(3,9),(7,28),(8,28)],.cells [.int .i64 m3,.str m4,sl af m5,sl cS m6,.int .i64 m7,.str m8,.int .i64 m9,sl ac m10,sl ac m2] [(2,30),(8,28)]] []
def nj(o:waC):av:=aM 104 [(3,.eptr (af t)),(6,.bptr 1 0),(9,.bptr 2 0)] [.dead,.cells [.int .i64 0,.str ([]:ag),sl af m,sl cS ([]:List ag),.int .i64 0,.str ([]:ag),.int .i64 0,sl ac m2,sl ac m2] [(2,30),(3,9),(7,28),(8,28)],.cells [.int .i64 m3,.str m4,sl af o,sl cS m6,.int .i64 m7,.str m8,.int .i64 m9,sl ac m10,sl ac m2] [(2,30),(8,28)]] []
def tI:Option ((Int×waC)⊕(waC)):=
 if(decide (t74<t73))=true then
  (dz t72 t74).bind fun x25=>
  (R34 x25 v v2).bind fun r26=>
  (app m5 ([r26]:List ae)).bind fun l27=>
  some (.inl (bC (t74+1),l27))
 else
  some (.inr m5)
def qL:Option waC:=loop (fun(zz:Int×waC)=>tI R34 v v2 t72 t73 zz.1 zz.2) (t74,m5)
theorem Ae(hR34:nn R34){y:(Int×waC)⊕(waC)}(h:tI R34 v v2 t72 t73 t74 m5=some y):aF Pg GE 0 (cA QM 247) (LQ (fun(zz:Int×waC)=>gv v v2 t t72 t73 m m2 m3 m4 m6 m7 m8 m9 m10 zz.1 zz.2) (fun _=>.exit 0) (nj t m m2 m3 m4 m6 m7 m8 m9 m10) y) (gv v v2 t t72 t73 m m2 m3 m4 m6 m7 m8 m9 m10 t74 m5):=by
 rcases aU h with⟨c24,h⟩|⟨c24,h⟩
 ·obtain⟨x25,bx25,h⟩:=aw h
  obtain⟨r26,br26,h⟩:=aw h
  obtain⟨l27,bl27,h⟩:=aw h
  obtain rfl:=lf h
  have z:=sg 0 c24<|sv (dP.ia (k:=.i64) bx25)<|sv (aW x25)<|sx iq<|sx (cn x25)<|sU [0,1,0,0,0,28,60,127,255,511]<|sv (bh x25 [])<|bg (hR34 _ _ _ _ br26)<|sv (dP.mk' (v:=uV) pI ([r26]:List ae) 1 (by kernel_rfl))<|sv (dP.ap bl27)<|Ol (rfl:b6 (sl af l27)=some [sl af l27])<|oz 0 .normal (gv v v2 t t72 t73 m m2 m3 m4 m6 m7 m8 m9 m10 (bC (t74+1)) l27) rfl (cz (aI (up (am d7 v)) (aI (up (am ak v2)) (aI (lM (ak t)) (aI (cF rfl) (aI (cF rfl) (aI (up (am ak t72)) (aI trivial (aI trivial trivial))))))))) (aI trivial (aI (aI trivial (aI trivial (aI (up (am ak m)) (aI (up (am d7 ([]:List ag))) (aI trivial (aI trivial (aI trivial (aI (up (am ah m2)) (aI (up (am ah m2)) trivial))))))))) (aI (aI trivial (aI trivial (aI (up (am ak l27)) (aI (up (am d7 m6)) (aI trivial (aI trivial (aI trivial (aI (up (am ah m10)) (aI (up (am ah m2)) trivial))))))))) trivial)))
  exact cw (A:=LA) mixed z<|by kernel_rfl
 ·obtain rfl:=lf h
  have z:=sg 0 c24<|eF (.exit 0) (nj t m m2 m3 m4 m6 m7 m8 m9 m10 m5)
  exact fX LA (by intro hx;cases hx) z<|by kernel_rfl
theorem B7(hR34:nn R34){x:waC}(h:qL R34 v v2 t72 t73 t74 m5=some x):aF Pg GE 0 (.loop (cA QM 247)) (EX (.exit 0) (nj t m m2 m3 m4 m6 m7 m8 m9 m10 x)) (gv v v2 t t72 t73 m m2 m3 m4 m6 m7 m8 m9 m10 t74 m5):=
 aF.loop (S:=fun(zz:Int×waC)=>gv v v2 t t72 t73 m m2 m3 m4 m6 m7 m8 m9 m10 zz.1 zz.2) (ex:=(fun _=>.exit 0)) (s:=(t74,m5)) h fun zz y hy=>Ae R34 v v2 t t72 t73 m m2 m3 m4 m6 m7 m8 m9 m10 zz.1 zz.2 hR34 hy
end
section
variable(t89:waB)(t90:Int)(m:waC)(m2:waB)(m3:Int)(m4:ag)(m5:waC)(m6:waA)(m7:Int)(m8:ag)(m9:Int)(m10:waB)(t91:Int)(m11:waB)
def gw:av:=aM 104 [(6,.bptr 1 0),(9,.bptr 2 0),(89,sl ac t89),(90,.int .i64 t90),(91,.int .i64 t91)] [.dead,.cells [.int .i64 0,.str ([]:ag),sl af m,sl cS ([]:List ag),.int .i64 0,.str ([]:ag),.int .i64 0,sl ac m2,sl ac m2] [(2,30),(3,9),(7,28),(8,28)],.cells [.int .i64 m3,.str m4,sl af m5,sl cS m6,.int .i64 m7,.str m8,.int .i64 m9,sl ac m10,sl ac m11] [(2,30),(8,28)]] []
def nk(o:waB):av:=aM 104 [(6,.bptr 1 0),(9,.bptr 2 0)] [.dead,.cells [.int .i64 0,.str ([]:ag),sl af m,sl cS ([]:List ag),.int .i64 0,.str ([]:ag),.int .i64 0,sl ac m2,sl ac m2] [(2,30),(3,9),(7,28),(8,28)],.cells [.int .i64 m3,.str m4,sl af m5,sl cS m6,.int .i64 m7,.str m8,.int .i64 m9,sl ac m10,sl ac o] [(2,30),(8,28)]] []
def tJ:Option ((Int×waB)⊕(waB)):=
 if(decide (t91<t90))=true then
  (dz t89 t91).bind fun x30=>
  (kW x30).bind fun r31=>
  (app m11 ([r31]:List aa)).bind fun l32=>
  some (.inl (bC (t91+1),l32))
 else
  some (.inr m11)
def qM:Option waB:=loop (fun(zz:Int×waB)=>tJ t89 t90 zz.1 zz.2) (t91,m11)
theorem Af{y:(Int×waB)⊕(waB)}(h:tJ t89 t90 t91 m11=some y):aF Pg GE 0 (cA QM 503) (LQ (fun(zz:Int×waB)=>gw t89 t90 m m2 m3 m4 m5 m6 m7 m8 m9 m10 zz.1 zz.2) (fun _=>.exit 2) (nk m m2 m3 m4 m5 m6 m7 m8 m9 m10) y) (gw t89 t90 m m2 m3 m4 m5 m6 m7 m8 m9 m10 t91 m11):=by
 rcases aU h with⟨c29,h⟩|⟨c29,h⟩
 ·obtain⟨x30,bx30,h⟩:=aw h
  obtain⟨r31,br31,h⟩:=aw h
  obtain⟨l32,bl32,h⟩:=aw h
  obtain rfl:=lf h
  have z:=sg 0 c29<|sv (aP.ia (k:=.i64) bx30)<|sv (az x30)<|sx dW<|sx (aZ x30)<|sU [0,1,0,4,12,31,63,127]<|sv (aO x30 [])<|bg (nF br31)<|sv (aP.mk' (v:=bR) aY ([r31]:List aa) 1 (by kernel_rfl))<|sv (aP.ap bl32)<|Ol (rfl:b6 (sl ac l32)=some [sl ac l32])<|oz 0 .normal (gw t89 t90 m m2 m3 m4 m5 m6 m7 m8 m9 m10 (bC (t91+1)) l32) rfl (cz (aI (cF rfl) (aI (cF rfl) (aI (up (am ah t89)) (aI trivial (aI trivial trivial)))))) (aI trivial (aI (aI trivial (aI trivial (aI (up (am ak m)) (aI (up (am d7 ([]:List ag))) (aI trivial (aI trivial (aI trivial (aI (up (am ah m2)) (aI (up (am ah m2)) trivial))))))))) (aI (aI trivial (aI trivial (aI (up (am ak m5)) (aI (up (am d7 m6)) (aI trivial (aI trivial (aI trivial (aI (up (am ah m10)) (aI (up (am ah l32)) trivial))))))))) trivial)))
  exact cw (A:=LA) mixed z<|by kernel_rfl
 ·obtain rfl:=lf h
  have z:=sg 0 c29<|eF (.exit 2) (nk m m2 m3 m4 m5 m6 m7 m8 m9 m10 m11)
  exact fX LA (by intro hx;cases hx) z<|by kernel_rfl
theorem B8{x:waB}(h:qM t89 t90 t91 m11=some x):aF Pg GE 0 (.loop (cA QM 503)) (EX (.exit 2) (nk m m2 m3 m4 m5 m6 m7 m8 m9 m10 x)) (gw t89 t90 m m2 m3 m4 m5 m6 m7 m8 m9 m10 t91 m11):=
 aF.loop (S:=fun(zz:Int×waB)=>gw t89 t90 m m2 m3 m4 m5 m6 m7 m8 m9 m10 zz.1 zz.2) (ex:=(fun _=>.exit 2)) (s:=(t91,m11)) h fun zz y hy=>Af t89 t90 m m2 m3 m4 m5 m6 m7 m8 m9 m10 zz.1 zz.2 hy
end
def nE(R34:ka)(t:ae)(a:waA)(a2:waC):Option ae:=
 (mq R34 a a2 t).bind fun o21=>match o21 with
 |(.inl o21)=>
  some (⟨o21.1,o21.2.1,o21.2.2.1,o21.2.2.2.1,(⟨o21.2.2.2.2.1,o21.2.2.2.2.2.1,o21.2.2.2.2.2.2.1,o21.2.2.2.2.2.2.2.1⟩:aa),o21.2.2.2.2.2.2.2.2.1⟩:ae)
 |(.inr o21)=>
  (app ([]:List ag) t.Names).bind fun l22=>
  (kW t.Pred).bind fun r23=>
  (qL R34 a a2 t.Args (t.Args.length:Int) 0 ([]:List ae)).bind fun o28=>
  (qM t.Preds (t.Preds.length:Int) 0 ([]:List aa)).bind fun o33=>
  some (⟨t.Op,t.Name,o28,l22,r23,o33⟩:ae)
theorem EB(R34:ka)(hR34:nn R34){t:ae}{a:waA}{a2:waC}{r:ae}(h:nE R34 t a a2=some r):CC Pg GE 95 [.agg (af t),sl cS a,sl af a2] (.agg (af r)) [(2,30),(8,28)]:=by
 obtain⟨o21,bo21,h⟩:=aw h
 rcases o21 with o21|o21
 ·obtain rfl:=lf h
  have z:=se (bE t)<|sx iq<|kq 0<|cC (e:=.ret) (s1:=du a a2 t ([]:List ae) ([]:List aa) (.inl o21)) (rQ R34 a a2 t ([]:List ae) ([]:List aa) hR34 bo21)<|en (aI (cr (⟨o21.1,o21.2.1,o21.2.2.1,o21.2.2.2.1,(⟨o21.2.2.2.2.1,o21.2.2.2.2.2.1,o21.2.2.2.2.2.2.1,o21.2.2.2.2.2.2.2.1⟩:aa),o21.2.2.2.2.2.2.2.2.1⟩:ae))<|aI (ak (⟨o21.1,o21.2.1,o21.2.2.1,o21.2.2.2.1,(⟨o21.2.2.2.2.1,o21.2.2.2.2.2.1,o21.2.2.2.2.2.2.1,o21.2.2.2.2.2.2.2.1⟩:aa),o21.2.2.2.2.2.2.2.2.1⟩:ae))<|rT)
  exact bS LA call95 func95 (c:=QM) rfl (aI (ak t) (aI (am d7 a) (aI (am ak a2) trivial))) z<|by kernel_rfl
 ·obtain⟨l22,bl22,h⟩:=aw h
  obtain⟨r23,br23,h⟩:=aw h
  obtain⟨o28,bo28,h⟩:=aw h
  obtain⟨o33,bo33,h⟩:=aw h
  obtain rfl:=lf h
  have z:=se (bE t)<|sx iq<|kq 0<|cC (e:=.normal) (s1:=du a a2 t ([]:List ae) ([]:List aa) (.inr o21)) (rQ R34 a a2 t ([]:List ae) ([]:List aa) hR34 bo21)<|sU [0,1,0,4,0,0,32,112,0,256,1008,2047,0,8191]<|sv (aA t)<|sv (aC t)<|sv (dc t)<|sv (dB t)<|sv (ba.mk' (v:=PVal.str) CW ([]:List ag) 0 (by kernel_rfl))<|sv (aB t)<|sv (aD t)<|sv (ba.ap bl22)<|sv (bF t)<|sv (bG t)<|bg (nF br23)<|sb (Cz t.Op t.Name l22 r23) (Cx t.Op t.Name l22 r23)<|P8 (cn (⟨t.Op,t.Name,([]:List ae),l22,r23,([]:List aa)⟩:ae))<|sv (aH t)<|sv (aJ t)<|cG (dP.ln t.Args)<|cC (B7 R34 a a2 t t.Args (t.Args.length:Int) ([]:List ae) ([]:List aa) t.Op t.Name l22 r23.Op r23.Name r23.N r23.Kids 0 ([]:List ae) hR34 bo28)<|sv (bT t)<|sv (bU t)<|cG (aP.ln t.Preds)<|cC (B8 t.Preds (t.Preds.length:Int) ([]:List ae) ([]:List aa) t.Op t.Name o28 l22 r23.Op r23.Name r23.N r23.Kids 0 ([]:List aa) bo33)<|sz (bh (⟨t.Op,t.Name,o28,l22,r23,o33⟩:ae) [])<|sy (aT (⟨t.Op,t.Name,o28,l22,r23,o33⟩:ae))<|en (aI (cr (⟨t.Op,t.Name,o28,l22,r23,o33⟩:ae))<|aI (ak (⟨t.Op,t.Name,o28,l22,r23,o33⟩:ae))<|rT)
  exact bS LA call95 func95 (c:=QM) rfl (aI (ak t) (aI (am d7 a) (aI (am ak a2) trivial))) z<|by kernel_rfl
def sR:((ae×waA×waC)->Option ae)->(ae×waA×waC)->Option ae:=fun(rec:(ae×waA×waC)->Option ae) (x:ae×waA×waC)=>nE (fun t a a2=>rec (t,a,a2)) x.1 x.2.1 x.2.2
def xe(t:ae)(a:waA)(a2:waC):Option ae:=nS sR (t,a,a2)
theorem G6{t:ae}{a:waA}{a2:waC}{r:ae}(h:xe t a a2=some r):CC Pg GE 95 [.agg (af t),sl cS a,sl af a2] (.agg (af r)) [(2,30),(8,28)]:=
 cU (F:=sR) (M:=fun(x:ae×waA×waC) (r:ae)=>CC Pg GE 95 [.agg (af x.1),sl cS x.2.1,sl af x.2.2] (.agg (af r)) [(2,30),(8,28)]) (fun rec hrec x r h=>EB _ (fun t a a2 r h=>hrec (t,a,a2) r h) h) h
noncomputable def WD:Code:=f53.body.getD .skip
def Wn:List Nat:=[]
def jt(t:ae):Option ae:=
 (xe t ([]:List ag) ([]:List ae)).bind fun r1=>
 some r1
theorem rH{t:ae}{r:ae}(h:jt t=some r):CC Pg GE 53 [.agg (af t)] (.agg (af r)) [(2,30),(8,28)]:=by
 obtain⟨r1,br1,h⟩:=aw h
 obtain rfl:=lf h
 have z:=se (bE t)<|sx iq<|sv (aW t)<|bg (G6 br1)<|sy (aT r1)<|en (aI (cr r1)<|aI (ak r1)<|rT)
 exact bS Wn call53 func53 (c:=WD) rfl (aI (ak t) trivial) z<|by kernel_rfl
noncomputable def VO:Code:=f96.body.getD .skip
def VC:List Nat:=[]
def eO(is:Bool):Option aa:=
 if is=true then
  some (⟨2,([]:ag),1,([]:List aa)⟩:aa)
 else
  some (⟨2,([]:ag),0,([]:List aa)⟩:aa)
theorem gn{is:Bool}{r:aa}(h:eO is=some r):CC Pg GE 96 [.bool is] (.agg (ac r)) [(3,28)]:=by
 rcases aU h with⟨c1,h⟩|⟨c1,h⟩
 ·obtain rfl:=lf h
  have z:=sx dW<|sg 0 c1<|sb (pq 2 1) (pn 2 1)<|sy (aE (⟨2,([]:ag),1,([]:List aa)⟩:aa))<|en (aI (co (⟨2,([]:ag),1,([]:List aa)⟩:aa))<|aI (ah (⟨2,([]:ag),1,([]:List aa)⟩:aa))<|rT)
  exact bS VC call96 func96 (c:=VO) rfl (aI trivial trivial) z<|by kernel_rfl
 ·obtain rfl:=lf h
  have z:=sx dW<|sg 0 c1<|sb (Fx 2) (Ft 2)<|sy (aE (⟨2,([]:ag),0,([]:List aa)⟩:aa))<|en (aI (co (⟨2,([]:ag),0,([]:List aa)⟩:aa))<|aI (ah (⟨2,([]:ag),0,([]:List aa)⟩:aa))<|rT)
  exact bS VC call96 func96 (c:=VO) rfl (aI trivial trivial) z<|by kernel_rfl
abbrev kZ:=(aa->aa->Option Bool)
abbrev qQ(R:kZ):Prop:=∀(a:aa) (a2:aa) (r:Bool),R a a2=some r->CC Pg GE 98 [.agg (ac a),.agg (ac a2)] (.bool r) []
noncomputable def OR:Code:=f124.body.getD .skip
def Nl:List Nat:=[17]
section
variable(R41:kZ)(v:waB)(v2:waB)(t14:Int)(t15:Int)
def im:av:=aM 30 [(0,sl ac v),(1,sl ac v2),(2,.func (.func 98) [] []),(14,.int .i64 t14),(15,.int .i64 t15)] [] []
def ip(o:Unit⊕(Unit)):Exit:=match o with
 |(.inl _)=>.ret
 |(.inr _)=>.exit 0
def ft(o:Unit⊕(Unit)):av:=match o with
 |(.inl o)=>aM 30 [(6,.bool false)] [] []
 |(.inr o)=>aM 30 [] [] []
def io:Option (Int⊕(Unit⊕(Unit))):=
 if(decide (t15<t14))=true then
  (dz v t15).bind fun x4=>
  (dz v2 t15).bind fun x5=>
  (R41 x4 x5).bind fun r6=>
  if(!r6)=true then
   some (.inr (.inl ()))
  else
   some (.inl (bC (t15+1)))
 else
  some (.inr (.inr ()))
def sM:Option (Unit⊕(Unit)):=loop (fun(zz:Int)=>io R41 v v2 t14 zz) t15
theorem Bz(hR41:qQ R41){y:Int⊕(Unit⊕(Unit))}(h:io R41 v v2 t14 t15=some y):aF Pg GE 0 (cA OR 119) (LQ (fun(zz:Int)=>im v v2 t14 zz) ip ft y) (im v v2 t14 t15):=by
 rcases aU h with⟨c3,h⟩|⟨c3,h⟩
 ·obtain⟨x4,bx4,h⟩:=aw h
  obtain⟨x5,bx5,h⟩:=aw h
  obtain⟨r6,br6,h⟩:=aw h
  have p8:=fun{sc F} (r:PS sc F)=>sg 0 c3<|sU [0,0,0,6,14,0,0,96,224,511,1023]<|sv (aP.ia (k:=.i64) bx4)<|sv (az x4)<|sv (aP.ia (k:=.i64) bx5)<|sv (az x5)<|bg (hR41 _ _ _ br6)<|r
  rcases aU h with⟨c7,h⟩|⟨c7,h⟩
  ·obtain rfl:=lf h
   have z:=p8<|sg 0 c7<|eF (ip (.inl ())) (ft (.inl ()))
   exact fX Nl (by intro hx;cases hx) z<|by kernel_rfl
  ·obtain rfl:=lf h
   exact sT Nl (p8<|sg 0 c7<|eF .normal (im v v2 t14 (bC (t15+1))))<|by kernel_rfl
 ·obtain rfl:=lf h
  have z:=sg 0 c3<|eF (ip (.inr ())) (ft (.inr ()))
  exact fX Nl (by intro hx;cases hx) z<|by kernel_rfl
theorem tz(hR41:qQ R41){x:Unit⊕(Unit)}(h:sM R41 v v2 t14 t15=some x):aF Pg GE 0 (.loop (cA OR 119)) (EX (ip x) (ft x)) (im v v2 t14 t15):=
 aF.loop (S:=fun(zz:Int)=>im v v2 t14 zz) (ex:=ip) (s:=t15) h fun zz y hy=>Bz R41 v v2 t14 zz hR41 hy
end
def uM(R41:kZ)(a:waB)(a2:waB):Option Bool:=
 if((a.length:Int)!=(a2.length:Int))=true then
  some false
 else
  (sM R41 a a2 (a.length:Int) 0).bind fun o9=>match o9 with
  |(.inl o9)=>
   some false
  |(.inr o9)=>
   some true
theorem HS(R41:kZ)(hR41:qQ R41){a:waB}{a2:waB}{r:Bool}(h:uM R41 a a2=some r):CC Pg GE 124 [sl ac a,sl ac a2,.func (.func 98) [] []] (.bool r) []:=by
 have p2:=fun{sc F} (r:PS sc F)=>cG (aP.ln a)<|cG (aP.ln a2)<|r
 rcases aU h with⟨c1,h⟩|⟨c1,h⟩
 ·obtain rfl:=lf h
  have z:=p2<|sg 0 c1<|en (aI (rP (.bool false))<|trivial)
  exact bS Nl call124 func124 (c:=OR) rfl (aI (am ah a) (aI (am ah a2) (aI (aI trivial trivial) trivial))) z<|by kernel_rfl
 ·obtain⟨o9,bo9,h⟩:=aw h
  rcases o9 with o9|o9
  ·obtain rfl:=lf h
   have z:=p2<|sg 0 c1<|cG (aP.ln a)<|cC (e:=.ret) (s1:=ft (.inl o9)) (tz R41 a a2 (a.length:Int) 0 hR41 bo9)<|en (aI (rP (.bool false))<|trivial)
   exact bS Nl call124 func124 (c:=OR) rfl (aI (am ah a) (aI (am ah a2) (aI (aI trivial trivial) trivial))) z<|by kernel_rfl
  ·obtain rfl:=lf h
   have z:=p2<|sg 0 c1<|cG (aP.ln a)<|cC (e:=.exit 0) (s1:=ft (.inr o9)) (tz R41 a a2 (a.length:Int) 0 hR41 bo9)<|en (aI (rP (.bool true))<|trivial)
   exact bS Nl call124 func124 (c:=OR) rfl (aI (am ah a) (aI (am ah a2) (aI (aI trivial trivial) trivial))) z<|by kernel_rfl
noncomputable def Um:Code:=f98.body.getD .skip
def Ub:List Nat:=[]
def rC(R41:kZ)(a:aa)(a2:aa):Option Bool:=
 if (a.Op == a2.Op) = true then
  if(a.Name==a2.Name)=true then
   if(a.N==a2.N)=true then
    (uM R41 a.Kids a2.Kids).bind fun r7=>
    some r7
   else
    some false
  else
   some false
 else
  some false
theorem HQ(R41:kZ)(hR41:qQ R41){a:aa}{a2:aa}{r:Bool}(h:rC R41 a a2=some r):CC Pg GE 98 [.agg (ac a),.agg (ac a2)] (.bool r) []:=by
 have p2:=fun{sc F} (r:PS sc F)=>se (bz a)<|se (bz a2)<|sv (aR a)<|sv (aS a)<|sv (aR a2)<|sv (aS a2)<|r
 rcases aU h with⟨c1,h⟩|⟨c1,h⟩
 ·have p4:=fun{sc F} (r:PS sc F)=>p2<|sg 6 c1<|sv (ca a)<|sv (cq a)<|sv (ca a2)<|sv (cq a2)<|r
  rcases aU h with⟨c3,h⟩|⟨c3,h⟩
  ·have p6:=fun{sc F} (r:PS sc F)=>p4<|sg 13 c3<|sv (ch a)<|sv (ct a)<|sv (ch a2)<|sv (ct a2)<|r
   rcases aU h with⟨c5,h⟩|⟨c5,h⟩
   ·obtain⟨r7,br7,h⟩:=aw h
    obtain rfl:=lf h
    have z:=p6<|sg 20 c5<|sv (aK a)<|sv (aL a)<|sv (aK a2)<|sv (aL a2)<|bg (HS R41 hR41 br7)<|en (aI (rP (.bool r7))<|trivial)
    exact bS Ub call98 func98 (c:=Um) rfl (aI (ah a) (aI (ah a2) trivial)) z<|by kernel_rfl
   ·obtain rfl:=lf h
    have z:=p6<|sg 20 c5<|en (aI (rP (.bool false))<|trivial)
    exact bS Ub call98 func98 (c:=Um) rfl (aI (ah a) (aI (ah a2) trivial)) z<|by kernel_rfl
  ·obtain rfl:=lf h
   have z:=p4<|sg 13 c3<|en (aI (rP (.bool false))<|trivial)
   exact bS Ub call98 func98 (c:=Um) rfl (aI (ah a) (aI (ah a2) trivial)) z<|by kernel_rfl
 ·obtain rfl:=lf h
  have z:=p2<|sg 6 c1<|en (aI (rP (.bool false))<|trivial)
  exact bS Ub call98 func98 (c:=Um) rfl (aI (ah a) (aI (ah a2) trivial)) z<|by kernel_rfl
def wQ:((aa×aa)->Option Bool)->(aa×aa)->Option Bool:=fun(rec:(aa×aa)->Option Bool) (x:aa×aa)=>rC (fun a a2=>rec (a,a2)) x.1 x.2
def jI(a:aa)(a2:aa):Option Bool:=nS wQ (a,a2)
theorem px{a:aa}{a2:aa}{r:Bool}(h:jI a a2=some r):CC Pg GE 98 [.agg (ac a),.agg (ac a2)] (.bool r) []:=
 cU (F:=wQ) (M:=fun(x:aa×aa) (r:Bool)=>CC Pg GE 98 [.agg (ac x.1),.agg (ac x.2)] (.bool r) []) (fun rec hrec x r h=>HQ _ (fun a a2 r h=>hrec (a,a2) r h) h) h
noncomputable def VP:Code:=f97.body.getD .skip
def VD:List Nat:=[]
def xK(p:aa):Option Bool:=
 (jI p (⟨0,([]:ag),0,([]:List aa)⟩:aa)).bind fun r1=>
 if r1=true then
  some true
 else
  (eO true).bind fun r4=>
  (jI p r4).bind fun r5=>
  some r5
theorem JQ{p:aa}{r:Bool}(h:xK p=some r):CC Pg GE 97 [.agg (ac p)] (.bool r) []:=by
 obtain⟨r1,br1,h⟩:=aw h
 have p3:=fun{sc F} (r:PS sc F)=>se (bz p)<|sU [0,0,3,7,15,15,63,127,255]<|sv (az p)<|sb (qh) (qf)<|bg (px br1)<|r
 rcases aU h with⟨c2,h⟩|⟨c2,h⟩
 ·obtain rfl:=lf h
  have z:=p3<|sg 4 c2<|en (aI (rP (.bool true))<|trivial)
  exact bS VD call97 func97 (c:=VP) rfl (aI (ah p) trivial) z<|by kernel_rfl
 ·obtain⟨r4,br4,h⟩:=aw h
  obtain⟨r5,br5,h⟩:=aw h
  obtain rfl:=lf h
  have z:=p3<|sg 4 c2<|sv (az p)<|bg (gn br4)<|bg (px br5)<|en (aI (rP (.bool r5))<|trivial)
  exact bS VD call97 func97 (c:=VP) rfl (aI (ah p) trivial) z<|by kernel_rfl
noncomputable def Ui:Code:=f54.body.getD .skip
def RY:List Nat:=[25]
section
variable(t8:waB)(t9:Int)(v:Bool)(t10:Int)(m:Int)(m2:ag)(m3:Int)(m4:waB)(m5:Int)(m6:ag)(m7:Int)(m8:waB)
def fR:av:=aM 33 [(2,.bptr 0 0),(3,.bptr 1 0),(4,.bool v),(8,sl ac t8),(9,.int .i64 t9),(10,.int .i64 t10)] [.cells [.int .i64 m,.str m2,.int .i64 m3,sl ac m4] [(3,28)],.cells [.int .i64 m5,.str m6,.int .i64 m7,sl ac m8] []] []
def kj(o:(Int×ag×Int×waB×Int×ag×Int×waB)⊕(Int×ag×Int×waB×Int×ag×Int×waB)):Exit:=match o with
 |(.inl _)=>.ret
 |(.inr _)=>.exit 0
def iJ(o:(Int×ag×Int×waB×Int×ag×Int×waB)⊕(Int×ag×Int×waB×Int×ag×Int×waB)):av:=match o with
 |(.inl o)=>aM 33 [(2,.bptr 0 0)] [.cells [.int .i64 o.1,.str o.2.1,.int .i64 o.2.2.1,sl ac o.2.2.2.1] [(3,28)],.cells [.int .i64 o.2.2.2.2.1,.str o.2.2.2.2.2.1,.int .i64 o.2.2.2.2.2.2.1,sl ac o.2.2.2.2.2.2.2] []] []
 |(.inr o)=>aM 33 [(2,.bptr 0 0),(3,.bptr 1 0)] [.cells [.int .i64 o.1,.str o.2.1,.int .i64 o.2.2.1,sl ac o.2.2.2.1] [(3,28)],.cells [.int .i64 o.2.2.2.2.1,.str o.2.2.2.2.2.1,.int .i64 o.2.2.2.2.2.2.1,sl ac o.2.2.2.2.2.2.2] []] []
def eN:Option ((Bool×Int×Int×ag×Int×waB×Int×ag×Int×waB)⊕((Int×ag×Int×waB×Int×ag×Int×waB)⊕(Int×ag×Int×waB×Int×ag×Int×waB))):=
 if (decide (t10 < t9)) = true then
  (dz t8 t10).bind fun x3=>
  (xK x3).bind fun r4=>
  if r4=true then
   some (.inl (v,bC (t10+1),m,m2,m3,m4,m5,m6,m7,m8))
  else
   (eO false).bind fun r7=>
   (jI x3 r7).bind fun r8=>
   if r8=true then
    (eO false).bind fun r11=>
    some (.inr (.inl (r11.Op,r11.Name,r11.N,r11.Kids,m5,m6,m7,m8)))
   else
    if v=true then
     (nZ x3).bind fun r14=>
     some (.inl (v,bC (t10+1),m,m2,m3,m4,15,([]:ag),0,([(⟨m5,m6,m7,m8⟩:aa),r14]:List aa)))
    else
     (nZ x3).bind fun r15=>
     some (.inl (true,bC (t10+1),m,m2,m3,m4,r15.Op,r15.Name,r15.N,r15.Kids))
 else
  some (.inr (.inr (m,m2,m3,m4,m5,m6,m7,m8)))
def wO:Option ((Int×ag×Int×waB×Int×ag×Int×waB)⊕(Int×ag×Int×waB×Int×ag×Int×waB)):=loop (fun(zz:Bool×Int×Int×ag×Int×waB×Int×ag×Int×waB)=>eN t8 t9 zz.1 zz.2.1 zz.2.2.1 zz.2.2.2.1 zz.2.2.2.2.1 zz.2.2.2.2.2.1 zz.2.2.2.2.2.2.1 zz.2.2.2.2.2.2.2.1 zz.2.2.2.2.2.2.2.2.1 zz.2.2.2.2.2.2.2.2.2) (v,t10,m,m2,m3,m4,m5,m6,m7,m8)
theorem El{y:(Bool×Int×Int×ag×Int×waB×Int×ag×Int×waB)⊕((Int×ag×Int×waB×Int×ag×Int×waB)⊕(Int×ag×Int×waB×Int×ag×Int×waB))}(h:eN t8 t9 v t10 m m2 m3 m4 m5 m6 m7 m8=some y):aF Pg GE 0 (cA Ui 119) (LQ (fun(zz:Bool×Int×Int×ag×Int×waB×Int×ag×Int×waB)=>fR t8 t9 zz.1 zz.2.1 zz.2.2.1 zz.2.2.2.1 zz.2.2.2.2.1 zz.2.2.2.2.2.1 zz.2.2.2.2.2.2.1 zz.2.2.2.2.2.2.2.1 zz.2.2.2.2.2.2.2.2.1 zz.2.2.2.2.2.2.2.2.2) kj iJ y) (fR t8 t9 v t10 m m2 m3 m4 m5 m6 m7 m8):=by
 rcases aU h with⟨c2,h⟩|⟨c2,h⟩
 ·obtain⟨x3,bx3,h⟩:=aw h
  obtain⟨r4,br4,h⟩:=aw h
  have p6:=fun{sc F} (r:PS sc F)=>sg 0 c2<|sv (aP.ia (k:=.i64) bx3)<|sv (az x3)<|sx dW<|sx (aZ x3)<|sv (aO x3 [])<|bg (JQ br4)<|r
  rcases aU h with⟨c5,h⟩|⟨c5,h⟩
  ·obtain rfl:=lf h
   have z:=p6<|sg 0 c5<|oz 0 .normal (fR t8 t9 v (bC (t10+1)) m m2 m3 m4 m5 m6 m7 m8) rfl (cz (aI (cF rfl) (aI (cF rfl) (aI trivial (aI (up (am ah t8)) (aI trivial (aI trivial trivial))))))) (aI (aI trivial (aI trivial (aI trivial (aI (up (am ah m4)) trivial)))) (aI (aI trivial (aI trivial (aI trivial (aI (up (am ah m8)) trivial)))) trivial))
   exact cw (A:=RY) mixed z<|by kernel_rfl
  ·obtain⟨r7,br7,h⟩:=aw h
   obtain⟨r8,br8,h⟩:=aw h
   have p10:=fun{sc F} (r:PS sc F)=>p6<|sg 0 c5<|sU [0,0,3,7]<|sv (aO x3 [])<|bg (gn br7)<|bg (px br8)<|r
   rcases aU h with⟨c9,h⟩|⟨c9,h⟩
   ·obtain⟨r11,br11,h⟩:=aw h
    obtain rfl:=lf h
    have z:=p10<|sg 0 c9<|bg (gn br11)<|sy (aE r11)<|oz 0 (kj (.inl (r11.Op,r11.Name,r11.N,r11.Kids,m5,m6,m7,m8))) (iJ (.inl (r11.Op,r11.Name,r11.N,r11.Kids,m5,m6,m7,m8))) rfl (cz (aI (cF rfl) trivial)) (aI (aI trivial (aI trivial (aI trivial (aI (up (am ah r11.Kids)) trivial)))) (aI (aI trivial (aI trivial (aI trivial (aI (up (am ah m8)) trivial)))) trivial))
    exact sI (A:=RY) mixed (by intro hx;cases hx) z<|by kernel_rfl
   ·have p13:=fun{sc F} (r:PS sc F)=>p10<|sg 0 c9<|r
    rcases aU h with⟨c12,h⟩|⟨c12,h⟩
    ·obtain⟨r14,br14,h⟩:=aw h
     obtain rfl:=lf h
     have z:=p13<|sg 0 c12<|sU [0,0,2,7,15,31]<|sv (aO (⟨m5,m6,m7,m8⟩:aa) [])<|sv (aO x3 [])<|bg (qv br14)<|sv (aP.mk' (v:=bR) aY ([(⟨m5,m6,m7,m8⟩:aa),r14]:List aa) 2 (by kernel_rfl))<|sv (jF 15 ([(⟨m5,m6,m7,m8⟩:aa),r14]:List aa))<|sx (aZ (⟨15,([]:ag),0,([(⟨m5,m6,m7,m8⟩:aa),r14]:List aa)⟩:aa))<|oz 0 .normal (fR t8 t9 v (bC (t10+1)) m m2 m3 m4 15 ([]:ag) 0 ([(⟨m5,m6,m7,m8⟩:aa),r14]:List aa)) rfl (cz (aI (cF rfl) (aI (cF rfl) (aI trivial (aI (up (am ah t8)) (aI trivial (aI trivial trivial))))))) (aI (aI trivial (aI trivial (aI trivial (aI (up (am ah m4)) trivial)))) (aI (aI trivial (aI trivial (aI trivial (aI (up (am ah ([(⟨m5,m6,m7,m8⟩:aa),r14]:List aa))) trivial)))) trivial))
     exact cw (A:=RY) mixed z<|by kernel_rfl
    ·obtain⟨r15,br15,h⟩:=aw h
     obtain rfl:=lf h
     have z:=p13<|sg 0 c12<|sv (aO x3 [])<|bg (qv br15)<|sy (aE r15)<|oz 0 .normal (fR t8 t9 true (bC (t10+1)) m m2 m3 m4 r15.Op r15.Name r15.N r15.Kids) rfl (cz (aI (cF rfl) (aI (cF rfl) (aI trivial (aI (up (am ah t8)) (aI trivial (aI trivial trivial))))))) (aI (aI trivial (aI trivial (aI trivial (aI (up (am ah m4)) trivial)))) (aI (aI trivial (aI trivial (aI trivial (aI (up (am ah r15.Kids)) trivial)))) trivial))
     exact cw (A:=RY) mixed z<|by kernel_rfl
 ·obtain rfl:=lf h
  have z:=sg 0 c2<|eF (kj (.inr (m,m2,m3,m4,m5,m6,m7,m8))) (iJ (.inr (m,m2,m3,m4,m5,m6,m7,m8)))
  exact fX RY (by intro hx;cases hx) z<|by kernel_rfl
theorem wP{x:(Int×ag×Int×waB×Int×ag×Int×waB)⊕(Int×ag×Int×waB×Int×ag×Int×waB)}(h:wO t8 t9 v t10 m m2 m3 m4 m5 m6 m7 m8=some x):aF Pg GE 0 (.loop (cA Ui 119)) (EX (kj x) (iJ x)) (fR t8 t9 v t10 m m2 m3 m4 m5 m6 m7 m8):=
 aF.loop (S:=fun(zz:Bool×Int×Int×ag×Int×waB×Int×ag×Int×waB)=>fR t8 t9 zz.1 zz.2.1 zz.2.2.1 zz.2.2.2.1 zz.2.2.2.2.1 zz.2.2.2.2.2.1 zz.2.2.2.2.2.2.1 zz.2.2.2.2.2.2.2.1 zz.2.2.2.2.2.2.2.2.1 zz.2.2.2.2.2.2.2.2.2) (ex:=kj) (s:=(v,t10,m,m2,m3,m4,m5,m6,m7,m8)) h fun zz y hy=>El t8 t9 zz.1 zz.2.1 zz.2.2.1 zz.2.2.2.1 zz.2.2.2.2.1 zz.2.2.2.2.2.1 zz.2.2.2.2.2.2.1 zz.2.2.2.2.2.2.2.1 zz.2.2.2.2.2.2.2.2.1 zz.2.2.2.2.2.2.2.2.2 hy
end
def Bn(a:waB):Option aa:=
 (eO true).bind fun r1=>
 (wO a (a.length:Int) false 0 0 ([]:ag) 0 ([]:List aa) r1.Op r1.Name r1.N r1.Kids).bind fun o16=>match o16 with
 |(.inl o16)=>
  some (⟨o16.1,o16.2.1,o16.2.2.1,o16.2.2.2.1⟩:aa)
 |(.inr o16)=>
  some (⟨o16.2.2.2.2.1,o16.2.2.2.2.2.1,o16.2.2.2.2.2.2.1,o16.2.2.2.2.2.2.2⟩:aa)
theorem K8{a:waB}{r:aa}(h:Bn a=some r):CC Pg GE 54 [sl ac a] (.agg (ac r)) []:=by
 obtain⟨r1,br1,h⟩:=aw h
 obtain⟨o16,bo16,h⟩:=aw h
 rcases o16 with o16|o16
 ·obtain rfl:=lf h
  have z:=sx dW<|bg (gn br1)<|sx dW<|sy (aE r1)<|cG (aP.ln a)<|cC (e:=.ret) (s1:=iJ (.inl o16)) (wP a (a.length:Int) false 0 0 ([]:ag) 0 ([]:List aa) r1.Op r1.Name r1.N r1.Kids bo16)<|en (aI (co (⟨o16.1,o16.2.1,o16.2.2.1,o16.2.2.2.1⟩:aa))<|(ah (⟨o16.1,o16.2.1,o16.2.2.1,o16.2.2.2.1⟩:aa)))
  exact bS RY call54 func54 (c:=Ui) rfl (aI (am ah a) trivial) z<|by kernel_rfl
 ·obtain rfl:=lf h
  have z:=sx dW<|bg (gn br1)<|sx dW<|sy (aE r1)<|cG (aP.ln a)<|cC (e:=.exit 0) (s1:=iJ (.inr o16)) (wP a (a.length:Int) false 0 0 ([]:ag) 0 ([]:List aa) r1.Op r1.Name r1.N r1.Kids bo16)<|sv (aO (⟨o16.2.2.2.2.1,o16.2.2.2.2.2.1,o16.2.2.2.2.2.2.1,o16.2.2.2.2.2.2.2⟩:aa) [])<|sx (aZ (⟨o16.2.2.2.2.1,o16.2.2.2.2.2.1,o16.2.2.2.2.2.2.1,o16.2.2.2.2.2.2.2⟩:aa))<|en (aI (co (⟨o16.2.2.2.2.1,o16.2.2.2.2.2.1,o16.2.2.2.2.2.2.1,o16.2.2.2.2.2.2.2⟩:aa))<|(ah (⟨o16.2.2.2.2.1,o16.2.2.2.2.2.1,o16.2.2.2.2.2.2.1,o16.2.2.2.2.2.2.2⟩:aa)))
  exact bS RY call54 func54 (c:=Ui) rfl (aI (am ah a) trivial) z<|by kernel_rfl
noncomputable def VG:Code:=f20.body.getD .skip
def Vu:List Nat:=[]
def n8(t:ae)(p:aa):Option ae:=
 (jt t).bind fun r1=>
 if(t.Op !=6)=true then
  (Bn ([t.Pred,p]:List aa)).bind fun r4=>
  some (⟨r1.Op,r1.Name,r1.Args,r1.Names,r4,r1.Preds⟩:ae)
 else
  some r1
theorem wW{t:ae}{p:aa}{r:ae}(h:n8 t p=some r):CC Pg GE 20 [.agg (af t),.agg (ac p)] (.agg (af r)) [(2,30),(8,28)]:=by
 obtain⟨r1,br1,h⟩:=aw h
 have p3:=fun{sc F} (r:PS sc F)=>se (bE t)<|se (bz p)<|sx iq<|sv (aW t)<|bg (rH br1)<|sx iq<|sy (aT r1)<|sv (aA t)<|sv (aC t)<|r
 rcases aU h with⟨c2,h⟩|⟨c2,h⟩
 ·obtain⟨r4,br4,h⟩:=aw h
  obtain rfl:=lf h
  have z:=p3<|sg 0 c2<|sv (bF t)<|sv (bG t)<|sv (az p)<|sv (aP.mk' (v:=bR) aY ([t.Pred,p]:List aa) 2 (by kernel_rfl))<|bg (K8 br4)<|sx (aZ r4)<|sz (bh (⟨r1.Op,r1.Name,r1.Args,r1.Names,r4,r1.Preds⟩:ae) [])<|sy (aT (⟨r1.Op,r1.Name,r1.Args,r1.Names,r4,r1.Preds⟩:ae))<|en (aI (cr (⟨r1.Op,r1.Name,r1.Args,r1.Names,r4,r1.Preds⟩:ae))<|aI (ak (⟨r1.Op,r1.Name,r1.Args,r1.Names,r4,r1.Preds⟩:ae))<|rT)
  exact bS Vu call20 func20 (c:=VG) rfl (aI (ak t) (aI (ah p) trivial)) z<|by kernel_rfl
 ·obtain rfl:=lf h
  have z:=p3<|sg 0 c2<|sz (bh r1 [])<|sy (aT r1)<|en (aI (cr r1)<|aI (ak r1)<|rT)
  exact bS Vu call20 func20 (c:=VG) rfl (aI (ak t) (aI (ah p) trivial)) z<|by kernel_rfl
noncomputable def Ue:Code:=f25.body.getD .skip
def Ry:List Nat:=[]
section
variable(name:ag)(t:ae)(t7:Int)(m:waC)(m2:waB)
def BQ:av:=aM 24 [(1,.str name),(2,.eptr (af t)),(4,.bptr 1 0),(5,.int .i64 10),(7,.int .i64 t7)] [.dead,.cells [.int .i64 0,.str ([]:ag),sl af m,sl cS ([]:List ag),.int .i64 0,.str ([]:ag),.int .i64 0,sl ac m2,sl ac m2] [(2,30),(3,9),(7,28),(8,28)]] []
def iU(o:Bool):av:=aM 24 [(1,.str name),(2,.eptr (af t)),(4,.bptr 1 0),(5,.int .i64 10),(12,.bool o)] [.dead,.cells [.int .i64 0,.str ([]:ag),sl af m,sl cS ([]:List ag),.int .i64 0,.str ([]:ag),.int .i64 0,sl ac m2,sl ac m2] [(2,30),(3,9),(7,28),(8,28)]] []
def oI:Option Bool:=
 if(t7==1)=true then
  some (t7==1)
 else
  if(t7==3)=true then
   some (t7==3)
  else
   some (t7==4)
theorem z6{x:Bool}(h:oI t7=some x):aF Pg GE 0 (cA Ue 478) (EX .normal (iU name t m m2 x)) (BQ name t t7 m m2):=by
 rcases aU h with⟨c3,h⟩|⟨c3,h⟩
 ·obtain rfl:=lf h
  exact cm Ry (sg 0 c3<|eF .normal (iU name t m m2 (t7==1)))<|by kernel_rfl
 ·rcases aU h with⟨c4,h⟩|⟨c4,h⟩
  ·obtain rfl:=lf h
   exact cm Ry (sg 0 c3<|sg 0 c4<|eF .normal (iU name t m m2 (t7==3)))<|by kernel_rfl
  ·obtain rfl:=lf h
   exact cm Ry (sg 0 c3<|sg 0 c4<|eF .normal (iU name t m m2 (t7==4)))<|by kernel_rfl
end
section
variable(name:ag)(t:ae)(m:waC)(m2:waB)
def BP:av:=aM 24 [(1,.str name),(2,.eptr (af t)),(4,.bptr 1 0),(5,.int .i64 10)] [.dead,.cells [.int .i64 0,.str ([]:ag),sl af m,sl cS ([]:List ag),.int .i64 0,.str ([]:ag),.int .i64 0,sl ac m2,sl ac m2] [(2,30),(3,9),(7,28),(8,28)]] []
def iT(o:Int⊕(Int×ag×waC×waA×Int×ag×Int×waB×waB)):Exit:=match o with
 |(.inl _)=>.normal
 |(.inr _)=>.ret
def ek(o:Int⊕(Int×ag×waC×waA×Int×ag×Int×waB×waB)):av:=match o with
 |(.inl o)=>aM 24 [(1,.str name),(2,.eptr (af t)),(4,.bptr 1 0),(5,.int .i64 o)] [.dead,.cells [.int .i64 0,.str ([]:ag),sl af m,sl cS ([]:List ag),.int .i64 0,.str ([]:ag),.int .i64 0,sl ac m2,sl ac m2] [(2,30),(3,9),(7,28),(8,28)]] []
 |(.inr o)=>aM 24 [(4,.bptr 1 0)] [.dead,.cells [.int .i64 o.1,.str o.2.1,sl af o.2.2.1,sl cS o.2.2.2.1,.int .i64 o.2.2.2.2.1,.str o.2.2.2.2.2.1,.int .i64 o.2.2.2.2.2.2.1,sl ac o.2.2.2.2.2.2.2.1,sl ac o.2.2.2.2.2.2.2.2] [(2,30),(8,28)]] []
def oH:Option (Int⊕(Int×ag×waC×waA×Int×ag×Int×waB×waB)):=
 if(t.Op==2)=true then
  some (.inl 18)
 else
  (oI t.Op).bind fun o5=>
  if o5=true then
   some (.inl 10)
  else
   (jt t).bind fun r8=>
   some (.inr (r8.Op,r8.Name,r8.Args,r8.Names,r8.Pred.Op,r8.Pred.Name,r8.Pred.N,r8.Pred.Kids,r8.Preds))
theorem qF{x:Int⊕(Int×ag×waC×waA×Int×ag×Int×waB×waB)}(h:oH t=some x):aF Pg GE 0 (cA Ue 14) (EX (iT x) (ek name t m m2 x)) (BP name t m m2):=by
 have p2:=fun{sc F} (r:PS sc F)=>sv (aA t)<|sv (aC t)<|r
 rcases aU h with⟨c1,h⟩|⟨c1,h⟩
 ·obtain rfl:=lf h
  exact cm Ry (p2<|sg 0 c1<|eF (iT (.inl 18)) (ek name t m m2 (.inl 18)))<|by kernel_rfl
 ·obtain⟨o5,bo5,h⟩:=aw h
  have p7:=fun{sc F} (r:PS sc F)=>p2<|sg 0 c1<|kq 0<|cC (z6 name t t.Op m m2 bo5)<|r
  rcases aU h with⟨c6,h⟩|⟨c6,h⟩
  ·obtain rfl:=lf h
   exact cm Ry (p7<|sg 0 c6<|eF (iT (.inl 10)) (ek name t m m2 (.inl 10)))<|by kernel_rfl
  ·obtain⟨r8,br8,h⟩:=aw h
   obtain rfl:=lf h
   exact cm Ry (p7<|sg 0 c6<|sv (aW t)<|bg (rH br8)<|sy (aT r8)<|eF (iT (.inr (r8.Op,r8.Name,r8.Args,r8.Names,r8.Pred.Op,r8.Pred.Name,r8.Pred.N,r8.Pred.Kids,r8.Preds))) (ek name t m m2 (.inr (r8.Op,r8.Name,r8.Args,r8.Names,r8.Pred.Op,r8.Pred.Name,r8.Pred.N,r8.Pred.Kids,r8.Preds))))<|by kernel_rfl
end
def mf(t:ae)(name:ag):Option ae:=
 (oH t).bind fun o9=>match o9 with
 |(.inl o9)=>
  (n8 t (⟨o9,([]:ag),0,([(⟨3,([118]:ag),0,([]:List aa)⟩:aa),(⟨3,name,0,([]:List aa)⟩:aa)]:List aa)⟩:aa)).bind fun r10=>
  some r10
 |(.inr o9)=>
  some (⟨o9.1,o9.2.1,o9.2.2.1,o9.2.2.2.1,(⟨o9.2.2.2.2.1,o9.2.2.2.2.2.1,o9.2.2.2.2.2.2.1,o9.2.2.2.2.2.2.2.1⟩:aa),o9.2.2.2.2.2.2.2.2⟩:ae)
theorem vb{t:ae}{name:ag}{r:ae}(h:mf t name=some r):CC Pg GE 25 [.agg (af t),.str name] (.agg (af r)) [(2,30),(8,28)]:=by
 obtain⟨o9,bo9,h⟩:=aw h
 rcases o9 with o9|o9
 ·obtain⟨r10,br10,h⟩:=aw h
  obtain rfl:=lf h
  have z:=se (bE t)<|sx iq<|kq 1<|cC (e:=.normal) (s1:=ek name t ([]:List ae) ([]:List aa) (.inl o9)) (qF name t ([]:List ae) ([]:List aa) bo9)<|sv (aW t)<|sb (gJ 3 ([118]:ag)) (gI 3 ([118]:ag))<|sb (gJ 3 name) (gI 3 name)<|sv (aP.mk' (v:=bR) aY ([(⟨3,([118]:ag),0,([]:List aa)⟩:aa),(⟨3,name,0,([]:List aa)⟩:aa)]:List aa) 2 (by kernel_rfl))<|sv (jF o9 ([(⟨3,([118]:ag),0,([]:List aa)⟩:aa),(⟨3,name,0,([]:List aa)⟩:aa)]:List aa))<|bg (wW br10)<|sy (aT r10)<|en (aI (cr r10)<|aI (ak r10)<|rT)
  exact bS Ry call25 func25 (c:=Ue) rfl (aI (ak t) (aI trivial trivial)) z<|by kernel_rfl
 ·obtain rfl:=lf h
  have z:=se (bE t)<|sx iq<|kq 1<|cC (e:=.ret) (s1:=ek name t ([]:List ae) ([]:List aa) (.inr o9)) (qF name t ([]:List ae) ([]:List aa) bo9)<|en (aI (cr (⟨o9.1,o9.2.1,o9.2.2.1,o9.2.2.2.1,(⟨o9.2.2.2.2.1,o9.2.2.2.2.2.1,o9.2.2.2.2.2.2.1,o9.2.2.2.2.2.2.2.1⟩:aa),o9.2.2.2.2.2.2.2.2⟩:ae))<|aI (ak (⟨o9.1,o9.2.1,o9.2.2.1,o9.2.2.2.1,(⟨o9.2.2.2.2.1,o9.2.2.2.2.2.1,o9.2.2.2.2.2.2.1,o9.2.2.2.2.2.2.2.1⟩:aa),o9.2.2.2.2.2.2.2.2⟩:ae))<|rT)
  exact bS Ry call25 func25 (c:=Ue) rfl (aI (ak t) (aI trivial trivial)) z<|by kernel_rfl
abbrev nw:=(ae->Option Int)
abbrev rU(R:nw):Prop:=∀(t:ae) (r:Int),R t=some r->CC Pg GE 112 [.agg (af t)] (.int .i64 r) []
noncomputable def Sc:Code:=f112.body.getD .skip
def RP:List Nat:=[]
section
variable(R45:nw)(t7:waC)(t8:Int)(n:Int)(t9:Int)
def gz:av:=aM 20 [(3,.int .i64 n),(7,sl af t7),(8,.int .i64 t8),(9,.int .i64 t9)] [.dead] []
def nl(o:Int):av:=aM 20 [(3,.int .i64 o)] [.dead] []
def tK:Option ((Int×Int)⊕(Int)):=
 if(decide (t9<t8))=true then
  (dz t7 t9).bind fun x2=>
  (R45 x2).bind fun r3=>
  some (.inl ((if r3>n then r3 else n),bC (t9+1)))
 else
  some (.inr n)
def xi:Option Int:=loop (fun(zz:Int×Int)=>tK R45 t7 t8 zz.1 zz.2) (n,t9)
theorem Ag(hR45:rU R45){y:(Int×Int)⊕(Int)}(h:tK R45 t7 t8 n t9=some y):aF Pg GE 0 (cA Sc 119) (LQ (fun(zz:Int×Int)=>gz t7 t8 zz.1 zz.2) (fun _=>.exit 0) nl y) (gz t7 t8 n t9):=by
 rcases aU h with⟨c1,h⟩|⟨c1,h⟩
 ·obtain⟨x2,bx2,h⟩:=aw h
  obtain⟨r3,br3,h⟩:=aw h
  obtain rfl:=lf h
  have z:=sg 0 c1<|sv (dP.ia (k:=.i64) bx2)<|sv (aW x2)<|sx iq<|sx (cn x2)<|sv (bh x2 [])<|bg (hR45 _ _ br3)<|oz 0 .normal (gz t7 t8 (if r3>n then r3 else n) (bC (t9+1))) rfl (cz (aI trivial (aI (up (am ak t7)) (aI trivial (aI trivial trivial))))) (aI trivial trivial)
  exact cw (A:=RP) mixed z<|by kernel_rfl
 ·obtain rfl:=lf h
  have z:=sg 0 c1<|eF (.exit 0) (nl n)
  exact fX RP (by intro hx;cases hx) z<|by kernel_rfl
theorem Ca(hR45:rU R45){x:Int}(h:xi R45 t7 t8 n t9=some x):aF Pg GE 0 (.loop (cA Sc 119)) (EX (.exit 0) (nl x)) (gz t7 t8 n t9):=
 aF.loop (S:=fun(zz:Int×Int)=>gz t7 t8 zz.1 zz.2) (ex:=(fun _=>.exit 0)) (s:=(n,t9)) h fun zz y hy=>Ag R45 t7 t8 zz.1 zz.2 hR45 hy
end
def yS(R45:nw)(t:ae):Option Int:=
 (xi R45 t.Args (t.Args.length:Int) 0 0).bind fun o4=>
 some (bC (o4+1))
theorem EC(R45:nw)(hR45:rU R45){t:ae}{r:Int}(h:yS R45 t=some r):CC Pg GE 112 [.agg (af t)] (.int .i64 r) []:=by
 obtain⟨o4,bo4,h⟩:=aw h
 obtain rfl:=lf h
 have z:=se (bE t)<|sv (aH t)<|sv (aJ t)<|cG (dP.ln t.Args)<|cC (Ca R45 t.Args (t.Args.length:Int) 0 0 hR45 bo4)<|en (aI (rP (.int .i64 (bC (o4+1))))<|trivial)
 exact bS RP call112 func112 (c:=Sc) rfl (aI (ak t) trivial) z<|by kernel_rfl
def yU:(ae->Option Int)->(ae)->Option Int:=fun(rec:ae->Option Int) (x:ae)=>yS (fun t=>rec t) x
def DM(t:ae):Option Int:=nS yU t
theorem G8{t:ae}{r:Int}(h:DM t=some r):CC Pg GE 112 [.agg (af t)] (.int .i64 r) []:=
 cU (F:=yU) (M:=fun(x:ae) (r:Int)=>CC Pg GE 112 [.agg (af x)] (.int .i64 r) []) (fun rec hrec x r h=>EC _ (fun t r h=>hrec t r h) h) h
abbrev pg:=(ae->Option Int)
abbrev tR(R:pg):Prop:=∀(t:ae) (r:Int),R t=some r->CC Pg GE 113 [.agg (af t)] (.int .i64 r) []
end Go.Proofs.YtggeppllafbidaaGreatDoor
