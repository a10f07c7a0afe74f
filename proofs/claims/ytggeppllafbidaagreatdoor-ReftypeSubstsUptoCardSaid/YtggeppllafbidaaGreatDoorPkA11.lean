/- PROVED: a part of the proof. Conditions: none. -/
import Derived.Test.YtggeppllafbidaaGreatDoorPkA10
noncomputable section
namespace Go.Proofs.YtggeppllafbidaaGreatDoor
open Go Go.Proofs.Tryz
set_option linter.unusedVariables false
set_option maxRecDepth 100000
noncomputable def Tc:Code:=f88.body.getD .skip
def Rw:List Nat:=[44,48,80]
section
variable(R18:bp)(t:ae)(t40:waC)(t41:Int)(m:waC)(m2:waB)(m3:Int)(m4:ag)(n:Nat)(m6:Int)(m7:ag)(m8:Int)(m9:waB)(m10:waB)(m11:waA)(m12:waB)(used:waA)(t42:Int)(w3:List ag)(m5:waC)(m13:waA)(m14:waB)
def aZ:av:=aN 99 [(3,.eptr (af t)),(4,.bptr 2 0),(5,.bptr 4 0),(7,sl cS used),(8,.bptr 6 0),(40,sl af t40),(41,.int .i64 t41),(42,.int .i64 t42)] [.dead,.dead,.cells [.int .i64 0,.str ([]:ag),sl af m,sl cS ([]:List ag),.int .i64 0,.str ([]:ag),.int .i64 0,sl ac m2,sl ac m2] [(2,30),(3,9),(7,28),(8,28)],.cells (lS cS w3) [],.cells [.int .i64 m3,.str m4,sl af m5,.bsl 3 0 n,.int .i64 m6,.str m7,.int .i64 m8,sl ac m9,sl ac m10] [(2,30)],.cells [sl cS m11,sl ac m12] [],.cells [sl cS m13,sl ac m14] []] [((7,0),9)]
def dl(o:List ag×waC×waA×waB):av:=aN 99 [(4,.bptr 2 0),(5,.bptr 4 0)] [.dead,.dead,.cells [.int .i64 0,.str ([]:ag),sl af m,sl cS ([]:List ag),.int .i64 0,.str ([]:ag),.int .i64 0,sl ac m2,sl ac m2] [(2,30),(3,9),(7,28),(8,28)],.cells (lS cS o.1) [],.cells [.int .i64 m3,.str m4,sl af o.2.1,.bsl 3 0 n,.int .i64 m6,.str m7,.int .i64 m8,sl ac m9,sl ac m10] [(2,30)],.cells [sl cS m11,sl ac m12] [],.cells [sl cS o.2.2.1,sl ac o.2.2.2] []] []
def aV:Option ((waA×Int×List ag×waC×waA×waB)⊕((List ag×waC×waA×waB))):=
 if (decide (t42 < t41)) = true then
  (dv t40 t42).bind fun x9=>
  (R18 (⟨m13,m14⟩:ai) x9).bind fun r10=>
  (app m5 ([r10]:List ae)).bind fun l11=>
  if(decide (t42>=(t.Names.length:Int)))=true then
   some (.inl (used,bA (t42+1),w3,l11,m13,m14))
  else
   (dv t.Names t42).bind fun x14=>
   (bw (⟨m13,m14⟩:ai) ([x14]:List ag)).bind fun r15=>
   (cW r15).bind fun r16=>
   (dL r16 x14).bind fun r17=>
   if r17=true then
    (ql used x14).bind fun r20=>
    (Nb n w3 t42).bind fun x21=>
    (Q6 w3 t42 r20).bind fun l22=>
    (Nb n l22 t42).bind fun x23=>
    (app used ([x23]:List ag)).bind fun l24=>
    (Nb n l22 t42).bind fun x25=>
    (cX r15 x14 (⟨3,x25,0,([]:List aa)⟩:aa)).bind fun r26=>
    some (.inl (l24,bA (t42+1),l22,l11,r26.names,r26.by_))
   else
    some (.inl (used,bA (t42+1),w3,l11,r15.names,r15.by_))
 else
  some (.inr (w3,m5,m13,m14))
def dF:Option ((List ag×waC×waA×waB)):=loop (fun(zz:waA×Int×List ag×waC×waA×waB)=>aV R18 t t40 t41 n zz.1 zz.2.1 zz.2.2.1 zz.2.2.2.1 zz.2.2.2.2.1 zz.2.2.2.2.2) (used,t42,w3,m5,m13,m14)
theorem jq(hR18:b6 R18){y:(waA×Int×List ag×waC×waA×waB)⊕((List ag×waC×waA×waB))}(h:aV R18 t t40 t41 n used t42 w3 m5 m13 m14=some y):aB Pg GE 0 (cA Tc 1015) (LQ (fun(zz:waA×Int×List ag×waC×waA×waB)=>aZ t t40 t41 m m2 m3 m4 n m6 m7 m8 m9 m10 m11 m12 zz.1 zz.2.1 zz.2.2.1 zz.2.2.2.1 zz.2.2.2.2.1 zz.2.2.2.2.2) (fun _=>.exit 0) (dl m m2 m3 m4 n m6 m7 m8 m9 m10 m11 m12) y) (aZ t t40 t41 m m2 m3 m4 n m6 m7 m8 m9 m10 m11 m12 used t42 w3 m5 m13 m14):=by
 rcases aT h with⟨c8,h⟩|⟨c8,h⟩
 ·obtain⟨x9,bx9,h⟩:=aw h
  obtain⟨r10,br10,h⟩:=aw h
  obtain⟨l11,bl11,h⟩:=aw h
  have p13:=fun{sc F} (r:PS sc F)=>sg 0 c8<|sv (d5.ia (k:=.i64) bx9)<|sv (bh x9)<|sx jh<|sx (db x9)<|rp [0,1,0,0,12,28,63,127,255]<|sv (bC (⟨m13,m14⟩:ai) [])<|sv (bz x9 [])<|ba (hR18 _ _ _ br10)<|sv (d5.mk' (v:=tR) oH ([r10]:List ae) 1 (by kernel_rfl))<|sv (d5.ap bl11)<|M0 (rfl:bR (sl af l11)=some [sl af l11])<|sv (aC t)<|sv (aD t)<|cD (aW.ln t.Names)<|r
  rcases aT h with⟨c12,h⟩|⟨c12,h⟩
  ·obtain rfl:=lf h
   have z:=p13<|sg 0 c12<|pg 0 .normal (aZ t t40 t41 m m2 m3 m4 n m6 m7 m8 m9 m10 m11 m12 used (bA (t42+1)) w3 l11 m13 m14) rfl (cF (aI (lq (al t)) (aI (cV rfl) (aI (cV rfl) (aI (up (am dS used)) (aI (cV rfl) (aI (up (am al t40)) (aI trivial (aI trivial trivial))))))))) (aI trivial (aI trivial (aI (aI trivial (aI trivial (aI (up (am al m)) (aI (up (am dS ([]:List ag))) (aI trivial (aI trivial (aI trivial (aI (up (am ah m2)) (aI (up (am ah m2)) trivial))))))))) (aI (OS _ dS w3) (aI (aI trivial (aI trivial (aI (up (am al l11)) (aI (cV rfl) (aI trivial (aI trivial (aI trivial (aI (up (am ah m9)) (aI (up (am ah m10)) trivial))))))))) (aI (aI (up (am dS m11)) (aI (up (am ah m12)) trivial)) (aI (aI (up (am dS m13)) (aI (up (am ah m14)) trivial)) trivial)))))))
   exact cz (A:=Rw) mixed z<|by kernel_rfl
  ·obtain⟨x14,bx14,h⟩:=aw h
   obtain⟨r15,br15,h⟩:=aw h
   obtain⟨r16,br16,h⟩:=aw h
   obtain⟨r17,br17,h⟩:=aw h
   have p19:=fun{sc F} (r:PS sc F)=>p13<|sg 0 c12<|sv (aC t)<|sv (aD t)<|sv (aW.ia (k:=.i64) bx14)<|sv (cP xe (.str x14) [])<|sv (bC (⟨m13,m14⟩:ai) [])<|sv (aW.mk' (v:=PVal.str) CE ([x14]:List ag) 1 (by kernel_rfl))<|ba (dP br15)<|sy (bK r15)<|sv (bC r15 [])<|ba (g9 br16)<|ba (e8 br17)<|r
   rcases aT h with⟨c18,h⟩|⟨c18,h⟩
   ·obtain⟨r20,br20,h⟩:=aw h
    obtain⟨x21,bx21,h⟩:=aw h
    obtain⟨l22,bl22,h⟩:=aw h
    obtain⟨x23,bx23,h⟩:=aw h
    obtain⟨l24,bl24,h⟩:=aw h
    obtain⟨x25,bx25,h⟩:=aw h
    obtain⟨r26,br26,h⟩:=aw h
    obtain rfl:=lf h
    have z:=p19<|sg 0 c18<|Tz (.dx [0,1,0,0,0,24,63,127] [] [] [3])<|ss<|ba (E1 br20)<|sv (aW.iaN 3 (k:=.i64) bx21)<|Uj (aW.stR (CE r20) bl22)<|ss<|sv (aW.iaN 3 (k:=.i64) bx23)<|sv (aW.ldN (fun r=>cP xe (.str x23) r) bx23)<|sv (aW.mk' (v:=PVal.str) CE ([x23]:List ag) 1 (by kernel_rfl))<|sv (aW.ap bl24)<|rp [0,0,0,4,0,28,60,124,255,511]<|sv (bC r15 [])<|ss<|sv (aW.iaN 3 (k:=.i64) bx25)<|sv (aW.ldN (fun r=>cP xe (.str x25) r) bx25)<|sb (lm 3 x25) (ll 3 x25)<|ba (hO br26)<|OG (dg r26)<|pg 0 .normal (aZ t t40 t41 m m2 m3 m4 n m6 m7 m8 m9 m10 m11 m12 l24 (bA (t42+1)) l22 l11 r26.names r26.by_) rfl (cF (aI (lq (al t)) (aI (cV rfl) (aI (cV rfl) (aI (up (am dS l24)) (aI (cV rfl) (aI (up (am al t40)) (aI trivial (aI trivial trivial))))))))) (aI trivial (aI trivial (aI (aI trivial (aI trivial (aI (up (am al m)) (aI (up (am dS ([]:List ag))) (aI trivial (aI trivial (aI trivial (aI (up (am ah m2)) (aI (up (am ah m2)) trivial))))))))) (aI (OS _ dS l22) (aI (aI trivial (aI trivial (aI (up (am al l11)) (aI (cV rfl) (aI trivial (aI trivial (aI trivial (aI (up (am ah m9)) (aI (up (am ah m10)) trivial))))))))) (aI (aI (up (am dS m11)) (aI (up (am ah m12)) trivial)) (aI (aI (up (am dS r26.names)) (aI (up (am ah r26.by_)) trivial)) trivial)))))))
    exact cz (A:=Rw) mixed z<|by kernel_rfl
   ·obtain rfl:=lf h
    have z:=p19<|sg 0 c18<|pg 0 .normal (aZ t t40 t41 m m2 m3 m4 n m6 m7 m8 m9 m10 m11 m12 used (bA (t42+1)) w3 l11 r15.names r15.by_) rfl (cF (aI (lq (al t)) (aI (cV rfl) (aI (cV rfl) (aI (up (am dS used)) (aI (cV rfl) (aI (up (am al t40)) (aI trivial (aI trivial trivial))))))))) (aI trivial (aI trivial (aI (aI trivial (aI trivial (aI (up (am al m)) (aI (up (am dS ([]:List ag))) (aI trivial (aI trivial (aI trivial (aI (up (am ah m2)) (aI (up (am ah m2)) trivial))))))))) (aI (OS _ dS w3) (aI (aI trivial (aI trivial (aI (up (am al l11)) (aI (cV rfl) (aI trivial (aI trivial (aI trivial (aI (up (am ah m9)) (aI (up (am ah m10)) trivial))))))))) (aI (aI (up (am dS m11)) (aI (up (am ah m12)) trivial)) (aI (aI (up (am dS r15.names)) (aI (up (am ah r15.by_)) trivial)) trivial)))))))
    exact cz (A:=Rw) mixed z<|by kernel_rfl
 ·obtain rfl:=lf h
  have z:=sg 0 c8<|eF (.exit 0) (dl m m2 m3 m4 n m6 m7 m8 m9 m10 m11 m12 (w3,m5,m13,m14))
  exact gf Rw (by intro hx;cases hx) z<|by kernel_rfl
theorem jV(hR18:b6 R18){x:(List ag×waC×waA×waB)}(h:dF R18 t t40 t41 n used t42 w3 m5 m13 m14=some x):aB Pg GE 0 (.loop (cA Tc 1015)) (EX (.exit 0) (dl m m2 m3 m4 n m6 m7 m8 m9 m10 m11 m12 x)) (aZ t t40 t41 m m2 m3 m4 n m6 m7 m8 m9 m10 m11 m12 used t42 w3 m5 m13 m14):=
 aB.loop (S:=fun(zz:waA×Int×List ag×waC×waA×waB)=>aZ t t40 t41 m m2 m3 m4 n m6 m7 m8 m9 m10 m11 m12 zz.1 zz.2.1 zz.2.2.1 zz.2.2.2.1 zz.2.2.2.2.1 zz.2.2.2.2.2) (ex:=(fun _=>.exit 0)) (s:=(used,t42,w3,m5,m13,m14)) h fun zz y hy=>jq R18 t t40 t41 m m2 m3 m4 n m6 m7 m8 m9 m10 m11 m12 zz.1 zz.2.1 zz.2.2.1 zz.2.2.2.1 zz.2.2.2.2.1 zz.2.2.2.2.2 hR18 hy
end
def d8(R18:bp)(s:ai)(t:ae):Option ae:=
 (vj t.Names).bind fun r1=>
 (cj s t.Pred).bind fun r2=>
 (iX t.Preds s).bind fun r3=>
 (cW s).bind fun r4=>
 (oq t).bind fun r5=>
 (app r4 r5).bind fun l6=>
 (app l6 t.Names).bind fun l7=>
 (dF R18 t t.Args (t.Args.length:Int) r1.length l7 0 r1 ([]:List ae) s.names s.by_).bind fun o27=>
 (QO r1.length o27.1).bind fun l28=>
 some (⟨t.Op,t.Name,o27.2.1,l28,r2,r3⟩:ae)
theorem lM(R18:bp)(hR18:b6 R18){s:ai}{t:ae}{r:ae}(h:d8 R18 s t=some r):CC Pg GE 88 [.agg (aq s),.agg (af t)] (.agg (af r)) [(2,30)]:=by
 obtain⟨r1,br1,h⟩:=aw h
 obtain⟨r2,br2,h⟩:=aw h
 obtain⟨r3,br3,h⟩:=aw h
 obtain⟨r4,br4,h⟩:=aw h
 obtain⟨r5,br5,h⟩:=aw h
 obtain⟨l6,bl6,h⟩:=aw h
 obtain⟨l7,bl7,h⟩:=aw h
 obtain⟨o27,bo27,h⟩:=aw h
 obtain⟨l28,bl28,h⟩:=aw h
 obtain rfl:=lf h
 have z:=se (cJ s)<|se (bQ t)<|sx jh<|Tz (.dx [0,1,0,4,0,16,48,0,0,256,1008,0,2048,0,8192,32752,65535,0,262143] [.cells (lS cS r1) []] [(6,3)] [])<|sv (aG t)<|sv (aJ t)<|sv (dc t)<|sv (dC t)<|sv (aC t)<|sv (aD t)<|Uh 3 9 (aW.cloneR G4 br1)<|sv (bL s)<|sv (bU t)<|sv (bX t)<|ba (ew br2)<|sv (bN t)<|sv (bO t)<|sv (bL s)<|ba (qx br3)<|sb (uw t.Op t.Name 3 r1.length r2 r3) (uv t.Op t.Name 3 r1.length r2 r3)<|OG (Vb [.int .i64 t.Op,.str t.Name,sl af ([]:List ae),.bsl 3 0 r1.length,.int .i64 r2.Op,.str r2.Name,.int .i64 r2.N,sl ac r2.Kids,sl ac r3])<|sv (bL s)<|sx K3<|sx (dg s)<|rp [0,1,0,7,15,0,32,127,255]<|sv (bC s [])<|ba (g9 br4)<|sv (bh t)<|ba (uf br5)<|sv (aW.ap bl6)<|sv (aC t)<|sv (aD t)<|sv (aW.ap bl7)<|sv (bL s)<|sx K3<|sx (dg s)<|sv (aK t)<|sv (aL t)<|cD (d5.ln t.Args)<|cC (jV R18 t t.Args (t.Args.length:Int) ([]:List ae) ([]:List aa) t.Op t.Name r1.length r2.Op r2.Name r2.N r2.Kids r3 s.names s.by_ l7 0 r1 ([]:List ae) s.names s.by_ hR18 bo27)<|SL 3 (l28.map cS) [4,5] [] (aW.fz1 (m:=0) (b:=3) rfl l28) (aW.fz2 3 l28) (T8 cS bl28)<|sf (GB 3 (p:=sl af ([]:List ae)) (am al ([]:List ae)))<|sf (GB 3 (p:=sl cS ([]:List ag)) (am dS ([]:List ag)))<|sf (GB 3 (p:=sl ac ([]:List aa)) (am ah ([]:List aa)))<|sf (GB 3 (p:=sl ac ([]:List aa)) (am ah ([]:List aa)))<|sf (GB 3 (p:=sl af o27.2.1) (am al o27.2.1))<|sf (T9 cS bl28)<|sf (GB 3 (p:=sl ac r2.Kids) (am ah r2.Kids))<|sf (GB 3 (p:=sl ac r3) (am ah r3))<|sf (GB 3 (p:=sl cS s.names) (am dS s.names))<|sf (GB 3 (p:=sl ac s.by_) (am ah s.by_))<|sf (GB 3 (p:=sl cS o27.2.2.1) (am dS o27.2.2.1))<|sf (GB 3 (p:=sl ac o27.2.2.2) (am ah o27.2.2.2))<|sz (bz (⟨t.Op,t.Name,o27.2.1,l28,r2,r3⟩:ae) [])<|sy (aS (⟨t.Op,t.Name,o27.2.1,l28,r2,r3⟩:ae))<|en (aI (cR (⟨t.Op,t.Name,o27.2.1,l28,r2,r3⟩:ae))<|aI (al (⟨t.Op,t.Name,o27.2.1,l28,r2,r3⟩:ae))<|rT)
 exact b7 Rw call88 func88 (c:=Tc) rfl (aI (aU s) (aI (al t) trivial)) z<|by kernel_rfl
noncomputable def Ta:Code:=f74.body.getD .skip
def SU:List Nat:=[14,21]
section
variable(R18:bp)(v:ai)(t8:waC)(t9:Int)(out:waC)(t10:Int)
def dQ:av:=aN 22 [(1,.func (.func 50) [.agg (aq v)] []),(5,sl af out),(8,sl af t8),(9,.int .i64 t9),(10,.int .i64 t10)] [] [((5,0),30)]
def iq(o:waC):av:=aN 22 [(5,sl af o)] [] [((5,0),30)]
def lZ:Option ((waC×Int)⊕(waC)):=
 if(decide (t10<t9))=true then
  (dv t8 t10).bind fun x2=>
  (R18 v x2).bind fun r3=>
  (app out ([r3]:List ae)).bind fun l4=>
  some (.inl (l4,bA (t10+1)))
 else
  some (.inr out)
def jo:Option waC:=loop (fun(zz:waC×Int)=>lZ R18 v t8 t9 zz.1 zz.2) (out,t10)
theorem sn(hR18:b6 R18){y:(waC×Int)⊕(waC)}(h:lZ R18 v t8 t9 out t10=some y):aB Pg GE 0 (cA Ta 119) (LQ (fun(zz:waC×Int)=>dQ v t8 t9 zz.1 zz.2) (fun _=>.exit 0) iq y) (dQ v t8 t9 out t10):=by
 rcases aT h with⟨c1,h⟩|⟨c1,h⟩
 ·obtain⟨x2,bx2,h⟩:=aw h
  obtain⟨r3,br3,h⟩:=aw h
  obtain⟨l4,bl4,h⟩:=aw h
  obtain rfl:=lf h
  have z:=sg 0 c1<|sv (d5.ia (k:=.i64) bx2)<|sv (bh x2)<|sx jh<|sx (db x2)<|sv (bz x2 [])<|ba (hR18 _ _ _ br3)<|sv (d5.mk' (v:=tR) oH ([r3]:List ae) 1 (by kernel_rfl))<|sv (d5.ap bl4)<|pg 0 .normal (dQ v t8 t9 l4 (bA (t10+1))) rfl (cF (aI (aI (aI (up (aU v)) trivial) trivial) (aI (up (am al l4)) (aI (up (am al t8)) (aI trivial (aI trivial trivial)))))) trivial
  exact cz (A:=SU) mixed z<|by kernel_rfl
 ·obtain rfl:=lf h
  have z:=sg 0 c1<|eF (.exit 0) (iq out)
  exact gf SU (by intro hx;cases hx) z<|by kernel_rfl
theorem tN(hR18:b6 R18){x:waC}(h:jo R18 v t8 t9 out t10=some x):aB Pg GE 0 (.loop (cA Ta 119)) (EX (.exit 0) (iq x)) (dQ v t8 t9 out t10):=
 aB.loop (S:=fun(zz:waC×Int)=>dQ v t8 t9 zz.1 zz.2) (ex:=(fun _=>.exit 0)) (s:=(out,t10)) h fun zz y hy=>sn R18 v t8 t9 zz.1 zz.2 hR18 hy
end
def mA(R18:bp)(a:waC)(c:ai):Option waC:=
 (jo R18 c a (a.length:Int) ([]:List ae) 0).bind fun o5=>
 some o5
theorem xa(R18:bp)(hR18:b6 R18){a:waC}{c:ai}{r:waC}(h:mA R18 a c=some r):CC Pg GE 74 [sl af a,.func (.func 50) [.agg (aq c)] []] (sl af r) [(0,30)]:=by
 obtain⟨o5,bo5,h⟩:=aw h
 obtain rfl:=lf h
 have z:=cD (d5.ln a)<|cC (tN R18 c a (a.length:Int) ([]:List ae) 0 hR18 bo5)<|en (aI (rP (sl af o5))<|(am al o5))
 exact b7 SU call74 func74 (c:=Ta) rfl (aI (am al a) (aI (aI (aI (aU c) trivial) trivial) trivial)) z<|by kernel_rfl
noncomputable def TX:Code:=f50.body.getD .skip
def TO:List Nat:=[]
def dG(R18:bp)(s:ai)(t:ae):Option ae:=
 if(t.Op==6)=true then
  (d8 R18 s t).bind fun r3=>
  some r3
 else
  (vj t.Names).bind fun r4=>
  (cj s t.Pred).bind fun r5=>
  (iX t.Preds s).bind fun r6=>
  (mA R18 t.Args s).bind fun r7=>
  some (⟨t.Op,t.Name,r7,r4,r5,r6⟩:ae)
theorem nD(R18:bp)(hR18:b6 R18){s:ai}{t:ae}{r:ae}(h:dG R18 s t=some r):CC Pg GE 50 [.agg (aq s),.agg (af t)] (.agg (af r)) [(2,30)]:=by
 have p2:=fun{sc F} (r:PS sc F)=>se (cJ s)<|se (bQ t)<|sx jh<|sv (aG t)<|sv (aJ t)<|r
 rcases aT h with⟨c1,h⟩|⟨c1,h⟩
 ·obtain⟨r3,br3,h⟩:=aw h
  obtain rfl:=lf h
  have z:=p2<|sg 0 c1<|sv (bL s)<|sv (bh t)<|ba (lM R18 hR18 br3)<|sy (aS r3)<|en (aI (cR r3)<|aI (al r3)<|rT)
  exact b7 TO call50 func50 (c:=TX) rfl (aI (aU s) (aI (al t) trivial)) z<|by kernel_rfl
 ·obtain⟨r4,br4,h⟩:=aw h
  obtain⟨r5,br5,h⟩:=aw h
  obtain⟨r6,br6,h⟩:=aw h
  obtain⟨r7,br7,h⟩:=aw h
  obtain rfl:=lf h
  have z:=p2<|sg 0 c1<|rp [0,1,0,4,0,16,48,0,0,256,1008,0,2048,0,8192,32752,65535,0,262143]<|sv (aG t)<|sv (aJ t)<|sv (dc t)<|sv (dC t)<|sv (aC t)<|sv (aD t)<|ba (KA br4)<|sv (bL s)<|sv (bU t)<|sv (bX t)<|ba (ew br5)<|sv (bN t)<|sv (bO t)<|sv (bL s)<|ba (qx br6)<|sb (yI t.Op t.Name r4 r5 r6) (yH t.Op t.Name r4 r5 r6)<|OG (db (⟨t.Op,t.Name,([]:List ae),r4,r5,r6⟩:ae))<|sv (aK t)<|sv (aL t)<|sv (bL s)<|ba (xa R18 hR18 br7)<|sz (bz (⟨t.Op,t.Name,r7,r4,r5,r6⟩:ae) [])<|sy (aS (⟨t.Op,t.Name,r7,r4,r5,r6⟩:ae))<|en (aI (cR (⟨t.Op,t.Name,r7,r4,r5,r6⟩:ae))<|aI (al (⟨t.Op,t.Name,r7,r4,r5,r6⟩:ae))<|rT)
  exact b7 TO call50 func50 (c:=TX) rfl (aI (aU s) (aI (al t) trivial)) z<|by kernel_rfl
def e7:((ai×ae)->Option ae)->(ai×ae)->Option ae:=fun(rec:(ai×ae)->Option ae) (x:ai×ae)=>dG (fun s t=>rec (s,t)) x.1 x.2
def fO(s:ai)(t:ae):Option ae:=nw e7 (s,t)
theorem ou{s:ai}{t:ae}{r:ae}(h:fO s t=some r):CC Pg GE 50 [.agg (aq s),.agg (af t)] (.agg (af r)) [(2,30)]:=
 cT (F:=e7) (M:=fun(x:ai×ae) (r:ae)=>CC Pg GE 50 [.agg (aq x.1),.agg (af x.2)] (.agg (af r)) [(2,30)]) (fun rec hrec x r h=>nD _ (fun s t r h=>hrec (s,t) r h) h) h
noncomputable def UI:Code:=f15.body.getD .skip
def Ut:List Nat:=[]
def dX(t:ae)(a:waA)(a2:waB):Option ae:=
 (IK a none (some (if(a2.length:Int)<(a.length:Int)then(a2.length:Int)else(a.length:Int)))).bind fun l1=>
 (IK a2 none (some (if(a2.length:Int)<(a.length:Int)then(a2.length:Int)else(a.length:Int)))).bind fun l2=>
 (bw (⟨l1,l2⟩:ai) ([([118]:ag)]:List ag)).bind fun r3=>
 (fO r3 t).bind fun r4=>
 some r4
theorem jn{t:ae}{a:waA}{a2:waB}{r:ae}(h:dX t a a2=some r):CC Pg GE 15 [.agg (af t),sl cS a,sl ac a2] (.agg (af r)) [(2,30)]:=by
 obtain⟨l1,bl1,h⟩:=aw h
 obtain⟨l2,bl2,h⟩:=aw h
 obtain⟨r3,br3,h⟩:=aw h
 obtain⟨r4,br4,h⟩:=aw h
 obtain rfl:=lf h
 have z:=se (bQ t)<|sx jh<|cD (aW.ln a)<|cD (aR.ln a2)<|rp [0,0,3,0,0,24,63,0,255,0,1023]<|sv (aW.sc bl1)<|sv (aR.sc bl2)<|sv (oc l1 l2)<|sv (aW.mk' (v:=PVal.str) CE ([([118]:ag)]:List ag) 1 (by kernel_rfl))<|ba (dP br3)<|OG (dg r3)<|sv (bC r3 [])<|sv (bh t)<|ba (ou br4)<|sy (aS r4)<|en (aI (cR r4)<|aI (al r4)<|rT)
 exact b7 Ut call15 func15 (c:=UI) rfl (aI (al t) (aI (am dS a) (aI (am ah a2) trivial))) z<|by kernel_rfl
noncomputable def UG:Code:=f13.body.getD .skip
def Ur:List Nat:=[]
def fN(t:ae)(name:ag)(a:aa):Option ae:=
 (dX t ([name]:List ag) ([a]:List aa)).bind fun r1=>
 some r1
theorem ji{t:ae}{name:ag}{a:aa}{r:ae}(h:fN t name a=some r):CC Pg GE 13 [.agg (af t),.str name,.agg (ac a)] (.agg (af r)) [(2,30)]:=by
 obtain⟨r1,br1,h⟩:=aw h
 obtain rfl:=lf h
 have z:=se (bQ t)<|se (bM a)<|sx jh<|sv (bh t)<|sv (aW.mk' (v:=PVal.str) CE ([name]:List ag) 1 (by kernel_rfl))<|sv (az a)<|sv (aR.mk' (v:=ce) aY ([a]:List aa) 1 (by kernel_rfl))<|ba (jn br1)<|sy (aS r1)<|en (aI (cR r1)<|aI (al r1)<|rT)
 exact b7 Ur call13 func13 (c:=UG) rfl (aI (al t) (aI trivial (aI (ah a) trivial))) z<|by kernel_rfl
noncomputable def RN:Code:=f18.body.getD .skip
def Qq:List Nat:=[28]
section
variable(args:waB)(t:ae)(m:waC)(m2:waB)
def y9:av:=aN 54 [(1,sl ac args),(2,.eptr (af t)),(4,.bptr 1 0)] [.dead,.cells [.int .i64 0,.str ([]:ag),sl af m,sl cS ([]:List ag),.int .i64 0,.str ([]:ag),.int .i64 0,sl ac m2,sl ac m2] [(2,30),(3,9),(7,28),(8,28)]] []
def kp(o:Bool):av:=aN 54 [(1,sl ac args),(2,.eptr (af t)),(4,.bptr 1 0),(20,.bool o)] [.dead,.cells [.int .i64 0,.str ([]:ag),sl af m,sl cS ([]:List ag),.int .i64 0,.str ([]:ag),.int .i64 0,sl ac m2,sl ac m2] [(2,30),(3,9),(7,28),(8,28)]] []
def sk:Option Bool:=
 if(t.Op !=6)=true then
  some true
 else
  some ((t.Args.length:Int)!=(bA ((args.length:Int)+1)))
theorem wV{x:Bool}(h:sk args t=some x):aB Pg GE 0 (cA RN 12) (EX .normal (kp args t m m2 x)) (y9 args t m m2):=by
 have p2:=fun{sc F} (r:PS sc F)=>sv (aG t)<|sv (aJ t)<|r
 rcases aT h with⟨c1,h⟩|⟨c1,h⟩
 ·obtain rfl:=lf h
  exact co Qq (p2<|sg 4 c1<|eF .normal (kp args t m m2 true))<|by kernel_rfl
 ·obtain rfl:=lf h
  exact co Qq (p2<|sg 4 c1<|sv (aK t)<|sv (aL t)<|cD (d5.ln t.Args)<|cD (aR.ln args)<|eF .normal (kp args t m m2 ((t.Args.length:Int)!=(bA ((args.length:Int)+1)))))<|by kernel_rfl
end
section
variable(args:waB)(t:ae)(t24:waA)(t25:Int)(m:waC)(m2:waB)(t26:Int)(m3:waA)(m4:waB)
def dW:av:=aN 54 [(1,sl ac args),(2,.eptr (af t)),(4,.bptr 1 0),(6,.bptr 2 0),(24,sl cS t24),(25,.int .i64 t25),(26,.int .i64 t26)] [.dead,.cells [.int .i64 0,.str ([]:ag),sl af m,sl cS ([]:List ag),.int .i64 0,.str ([]:ag),.int .i64 0,sl ac m2,sl ac m2] [(2,30),(3,9),(7,28),(8,28)],.cells [sl cS m3,sl ac m4] [(0,9),(1,28)]] []
def kq(o:waA×waB):av:=aN 54 [(1,sl ac args),(2,.eptr (af t)),(4,.bptr 1 0),(6,.bptr 2 0)] [.dead,.cells [.int .i64 0,.str ([]:ag),sl af m,sl cS ([]:List ag),.int .i64 0,.str ([]:ag),.int .i64 0,sl ac m2,sl ac m2] [(2,30),(3,9),(7,28),(8,28)],.cells [sl cS o.1,sl ac o.2] [(0,9),(1,28)]] []
def pD:Option ((Int×waA×waB)⊕((waA×waB))):=
 if(decide (t26<t25))=true then
  (dv t24 t26).bind fun x7=>
  if(decide (t26<(args.length:Int)))=true then
   (dv args t26).bind fun x10=>
   (cX (⟨m3,m4⟩:ai) x7 x10).bind fun r11=>
   some (.inl (bA (t26+1),r11.names,r11.by_))
  else
   some (.inl (bA (t26+1),m3,m4))
 else
  some (.inr (m3,m4))
def sm:Option ((waA×waB)):=loop (fun(zz:Int×waA×waB)=>pD args t24 t25 zz.1 zz.2.1 zz.2.2) (t26,m3,m4)
theorem vS{y:(Int×waA×waB)⊕((waA×waB))}(h:pD args t24 t25 t26 m3 m4=some y):aB Pg GE 0 (cA RN 247) (LQ (fun(zz:Int×waA×waB)=>dW args t t24 t25 m m2 zz.1 zz.2.1 zz.2.2) (fun _=>.exit 0) (kq args t m m2) y) (dW args t t24 t25 m m2 t26 m3 m4):=by
 rcases aT h with⟨c6,h⟩|⟨c6,h⟩
 ·obtain⟨x7,bx7,h⟩:=aw h
  have p9:=fun{sc F} (r:PS sc F)=>sg 0 c6<|sv (aW.ia (k:=.i64) bx7)<|sv (cP xe (.str x7) [])<|cD (aR.ln args)<|r
  rcases aT h with⟨c8,h⟩|⟨c8,h⟩
  ·obtain⟨x10,bx10,h⟩:=aw h
   obtain⟨r11,br11,h⟩:=aw h
   obtain rfl:=lf h
   exact rY Qq (p9<|sg 0 c8<|rp [0,0,0,0,12,28,63,127]<|sv (bC (⟨m3,m4⟩:ai) [])<|sv (aR.ia (k:=.i64) bx10)<|sv (az x10)<|ba (hO br11)<|OG (dg r11)<|eF .normal (dW args t t24 t25 m m2 (bA (t26+1)) r11.names r11.by_))<|by kernel_rfl
  ·obtain rfl:=lf h
   exact rY Qq (p9<|sg 0 c8<|eF .normal (dW args t t24 t25 m m2 (bA (t26+1)) m3 m4))<|by kernel_rfl
 ·obtain rfl:=lf h
  have z:=sg 0 c6<|eF (.exit 0) (kq args t m m2 (m3,m4))
  exact gf Qq (by intro hx;cases hx) z<|by kernel_rfl
theorem wW{x:(waA×waB)}(h:sm args t24 t25 t26 m3 m4=some x):aB Pg GE 0 (.loop (cA RN 247)) (EX (.exit 0) (kq args t m m2 x)) (dW args t t24 t25 m m2 t26 m3 m4):=
 aB.loop (S:=fun(zz:Int×waA×waB)=>dW args t t24 t25 m m2 zz.1 zz.2.1 zz.2.2) (ex:=(fun _=>.exit 0)) (s:=(t26,m3,m4)) h fun zz y hy=>vS args t t24 t25 m m2 zz.1 zz.2.1 zz.2.2 hy
end
def xN(t:ae)(args:waB):Option (ae×Int):=
 (sk args t).bind fun o3=>
 if o3=true then
  some ((⟨0,([]:ag),([]:List ae),([]:List ag),(⟨0,([]:ag),0,([]:List aa)⟩:aa),([]:List aa)⟩:ae),13)
 else
  (sm args t.Names (t.Names.length:Int) 0 ([]:List ag) ([]:List aa)).bind fun o12=>
  (dv t.Args (args.length:Int)).bind fun x13=>
  (dX x13 o12.1 o12.2).bind fun r14=>
  some (r14,0)
theorem B5{t:ae}{args:waB}{r:ae×Int}(h:xN t args=some r):CC Pg GE 18 [.agg (af t),sl ac args] (.tuple [.agg (af r.1),.int .i64 r.2]) []:=by
 obtain⟨o3,bo3,h⟩:=aw h
 have p5:=fun{sc F} (r:PS sc F)=>se (bQ t)<|sx jh<|kK 1<|cC (wV args t ([]:List ae) ([]:List aa) bo3)<|r
 rcases aT h with⟨c4,h⟩|⟨c4,h⟩
 ·obtain rfl:=lf h
  have z:=p5<|sg 0 c4<|sb (Ku) (Ks)<|sy (aS (⟨0,([]:ag),([]:List ae),([]:List ag),(⟨0,([]:ag),0,([]:List aa)⟩:aa),([]:List aa)⟩:ae))<|en (aI (vbr PVal.tuple (Lq (cR (⟨0,([]:ag),([]:List ae),([]:List ag),(⟨0,([]:ag),0,([]:List aa)⟩:aa),([]:List aa)⟩:ae)) (Lq (rP (.int .i64 13)) (rfl:([]:List PVal)=[]))))<|(aI (al (⟨0,([]:ag),([]:List ae),([]:List ag),(⟨0,([]:ag),0,([]:List aa)⟩:aa),([]:List aa)⟩:ae)) (aI trivial trivial)))
  exact b7 Qq call18 func18 (c:=RN) rfl (aI (al t) (aI (am ah args) trivial)) z<|by kernel_rfl
 ·obtain⟨o12,bo12,h⟩:=aw h
  obtain⟨x13,bx13,h⟩:=aw h
  obtain⟨r14,br14,h⟩:=aw h
  obtain rfl:=lf h
  have z:=p5<|sg 0 c4<|sb (pP) (pO)<|sx K3<|sy (bK (⟨([]:List ag),([]:List aa)⟩:ai))<|sv (aC t)<|sv (aD t)<|cD (aW.ln t.Names)<|cC (wW args t t.Names (t.Names.length:Int) ([]:List ae) ([]:List aa) 0 ([]:List ag) ([]:List aa) bo12)<|rp [0,1,0,4,15,31,0,64,0,256,1023,2047,4095]<|sv (aK t)<|sv (aL t)<|cD (aR.ln args)<|sv (d5.ia (k:=.i64) bx13)<|sv (bh x13)<|ss<|ss<|ba (jn br14)<|OG (db r14)<|en (aI (vbr PVal.tuple (Lq (cR r14) (Lq (rP (.int .i64 0)) (rfl:([]:List PVal)=[]))))<|(aI (al r14) (aI trivial trivial)))
  exact b7 Qq call18 func18 (c:=RN) rfl (aI (al t) (aI (am ah args) trivial)) z<|by kernel_rfl
abbrev jL:=(ae->waA->waC->Option ae)
abbrev mH(R:jL):Prop:=∀(t:ae) (a:waA) (a2:waC) (r:ae),R t a a2=some r->CC Pg GE 95 [.agg (af t),sl cS a,sl af a2] (.agg (af r)) [(2,30),(8,28)]
noncomputable def Pd:Code:=f122.body.getD .skip
def OY:List Nat:=[]
def zm(p:aa):Option Bool:=
 if (p.Op == 0) = true then
  if(p.Name==([]:ag))=true then
   if(p.N==0)=true then
    some ((p.Kids.length:Int)==0)
   else
    some false
  else
   some false
 else
  some false
theorem ye{p:aa}{r:Bool}(h:zm p=some r):CC Pg GE 122 [.agg (ac p)] (.bool r) []:=by
 have p2:=fun{sc F} (r:PS sc F)=>se (bM p)<|sv (aP p)<|sv (aQ p)<|r
 rcases aT h with⟨c1,h⟩|⟨c1,h⟩
 ·have p4:=fun{sc F} (r:PS sc F)=>p2<|sg 4 c1<|sv (bT p)<|sv (cm p)<|r
  rcases aT h with⟨c3,h⟩|⟨c3,h⟩
  ·have p6:=fun{sc F} (r:PS sc F)=>p4<|sg 9 c3<|sv (cf p)<|sv (cp p)<|r
   rcases aT h with⟨c5,h⟩|⟨c5,h⟩
   ·obtain rfl:=lf h
    have z:=p6<|sg 14 c5<|sv (aF p)<|sv (aH p)<|cD (aR.ln p.Kids)<|en (aI (rP (.bool ((p.Kids.length:Int)==0)))<|trivial)
    exact b7 OY call122 func122 (c:=Pd) rfl (aI (ah p) trivial) z<|by kernel_rfl
   ·obtain rfl:=lf h
    have z:=p6<|sg 14 c5<|en (aI (rP (.bool false))<|trivial)
    exact b7 OY call122 func122 (c:=Pd) rfl (aI (ah p) trivial) z<|by kernel_rfl
  ·obtain rfl:=lf h
   have z:=p4<|sg 9 c3<|en (aI (rP (.bool false))<|trivial)
   exact b7 OY call122 func122 (c:=Pd) rfl (aI (ah p) trivial) z<|by kernel_rfl
 ·obtain rfl:=lf h
  have z:=p2<|sg 4 c1<|en (aI (rP (.bool false))<|trivial)
  exact b7 OY call122 func122 (c:=Pd) rfl (aI (ah p) trivial) z<|by kernel_rfl
abbrev nY:=(aa->Option aa)
abbrev sM(R:nY):Prop:=∀(p:aa) (r:aa),R p=some r->CC Pg GE 123 [.agg (ac p)] (.agg (ac r)) [(3,28)]
noncomputable def QC:Code:=f123.body.getD .skip
def Qm:List Nat:=[21]
section
variable(R36:nY)(t14:waB)(t15:Int)(m:waB)(m2:Int)(m3:ag)(m4:Int)(t16:Int)(m5:waB)
def ic:av:=aN 29 [(2,.bptr 1 0),(3,.bptr 2 0),(14,sl ac t14),(15,.int .i64 t15),(16,.int .i64 t16)] [.dead,.cells [.int .i64 0,.str ([]:ag),.int .i64 0,sl ac m] [(3,28)],.cells [.int .i64 m2,.str m3,.int .i64 m4,sl ac m5] [(3,28)]] []
def nJ(o:waB):av:=aN 29 [(2,.bptr 1 0),(3,.bptr 2 0)] [.dead,.cells [.int .i64 0,.str ([]:ag),.int .i64 0,sl ac m] [(3,28)],.cells [.int .i64 m2,.str m3,.int .i64 m4,sl ac o] [(3,28)]] []
def ut:Option ((Int×waB)⊕(waB)):=
 if(decide (t16<t15))=true then
  (dv t14 t16).bind fun x2=>
  (R36 x2).bind fun r3=>
  (app m5 ([r3]:List aa)).bind fun l4=>
  some (.inl (bA (t16+1),l4))
 else
  some (.inr m5)
def yd:Option waB:=loop (fun(zz:Int×waB)=>ut R36 t14 t15 zz.1 zz.2) (t16,m5)
theorem Be(hR36:sM R36){y:(Int×waB)⊕(waB)}(h:ut R36 t14 t15 t16 m5=some y):aB Pg GE 0 (cA QC 119) (LQ (fun(zz:Int×waB)=>ic t14 t15 m m2 m3 m4 zz.1 zz.2) (fun _=>.exit 0) (nJ m m2 m3 m4) y) (ic t14 t15 m m2 m3 m4 t16 m5):=by
 rcases aT h with⟨c1,h⟩|⟨c1,h⟩
 ·obtain⟨x2,bx2,h⟩:=aw h
  obtain⟨r3,br3,h⟩:=aw h
  obtain⟨l4,bl4,h⟩:=aw h
  obtain rfl:=lf h
  have z:=sg 0 c1<|sv (aR.ia (k:=.i64) bx2)<|sv (az x2)<|sx eX<|sx (bv x2)<|rp [0,1,0,4,12,31,63,127]<|sv (aX x2 [])<|ba (hR36 _ _ br3)<|sv (aR.mk' (v:=ce) aY ([r3]:List aa) 1 (by kernel_rfl))<|sv (aR.ap bl4)<|M0 (rfl:bR (sl ac l4)=some [sl ac l4])<|pg 0 .normal (ic t14 t15 m m2 m3 m4 (bA (t16+1)) l4) rfl (cF (aI (cV rfl) (aI (cV rfl) (aI (up (am ah t14)) (aI trivial (aI trivial trivial)))))) (aI trivial (aI (aI trivial (aI trivial (aI trivial (aI (up (am ah m)) trivial)))) (aI (aI trivial (aI trivial (aI trivial (aI (up (am ah l4)) trivial)))) trivial)))
  exact cz (A:=Qm) mixed z<|by kernel_rfl
 ·obtain rfl:=lf h
  have z:=sg 0 c1<|eF (.exit 0) (nJ m m2 m3 m4 m5)
  exact gf Qm (by intro hx;cases hx) z<|by kernel_rfl
theorem Cl(hR36:sM R36){x:waB}(h:yd R36 t14 t15 t16 m5=some x):aB Pg GE 0 (.loop (cA QC 119)) (EX (.exit 0) (nJ m m2 m3 m4 x)) (ic t14 t15 m m2 m3 m4 t16 m5):=
 aB.loop (S:=fun(zz:Int×waB)=>ic t14 t15 m m2 m3 m4 zz.1 zz.2) (ex:=(fun _=>.exit 0)) (s:=(t16,m5)) h fun zz y hy=>Be R36 t14 t15 m m2 m3 m4 zz.1 zz.2 hR36 hy
end
def Bb(R36:nY)(p:aa):Option aa:=
 (yd R36 p.Kids (p.Kids.length:Int) 0 ([]:List aa)).bind fun o5=>
 some (⟨p.Op,p.Name,p.N,o5⟩:aa)
theorem F6(R36:nY)(hR36:sM R36){p:aa}{r:aa}(h:Bb R36 p=some r):CC Pg GE 123 [.agg (ac p)] (.agg (ac r)) [(3,28)]:=by
 obtain⟨o5,bo5,h⟩:=aw h
 obtain rfl:=lf h
 have z:=se (bM p)<|sx eX<|sv (aP p)<|sv (aQ p)<|sv (bT p)<|sv (cm p)<|sv (cf p)<|sv (cp p)<|sb (pd p.Op p.Name p.N) (pb p.Op p.Name p.N)<|sx eX<|sy (aE (⟨p.Op,p.Name,p.N,([]:List aa)⟩:aa))<|sv (aF p)<|sv (aH p)<|cD (aR.ln p.Kids)<|cC (Cl R36 p.Kids (p.Kids.length:Int) ([]:List aa) p.Op p.Name p.N 0 ([]:List aa) hR36 bo5)<|sz (aX (⟨p.Op,p.Name,p.N,o5⟩:aa) [])<|sy (aE (⟨p.Op,p.Name,p.N,o5⟩:aa))<|en (aI (cQ (⟨p.Op,p.Name,p.N,o5⟩:aa))<|aI (ah (⟨p.Op,p.Name,p.N,o5⟩:aa))<|rT)
 exact b7 Qm call123 func123 (c:=QC) rfl (aI (ah p) trivial) z<|by kernel_rfl
def Bd:(aa->Option aa)->(aa)->Option aa:=fun(rec:aa->Option aa) (x:aa)=>Bb (fun p=>rec p) x
def pM(p:aa):Option aa:=nw Bd p
theorem mT{p:aa}{r:aa}(h:pM p=some r):CC Pg GE 123 [.agg (ac p)] (.agg (ac r)) [(3,28)]:=
 cT (F:=Bd) (M:=fun(x:aa) (r:aa)=>CC Pg GE 123 [.agg (ac x)] (.agg (ac r)) [(3,28)]) (fun rec hrec x r h=>F6 _ (fun p r h=>hrec p r h) h) h
noncomputable def Pk:Code:=f95.body.getD .skip
def Kj:List Nat:=[79,96]
section
variable(v:waA)(v2:waC)(t:ae)(i:Int)(m:waC)(m2:waB)
def Ce:av:=aN 104 [(1,sl cS v),(2,sl af v2),(3,.eptr (af t)),(6,.bptr 1 0),(7,.int .i64 i)] [.dead,.cells [.int .i64 0,.str ([]:ag),sl af m,sl cS ([]:List ag),.int .i64 0,.str ([]:ag),.int .i64 0,sl ac m2,sl ac m2] [(2,30),(3,9),(7,28),(8,28)]] []
def mB(o:Bool):av:=aN 104 [(1,sl cS v),(2,sl af v2),(3,.eptr (af t)),(6,.bptr 1 0),(7,.int .i64 i),(28,.bool o)] [.dead,.cells [.int .i64 0,.str ([]:ag),sl af m,sl cS ([]:List ag),.int .i64 0,.str ([]:ag),.int .i64 0,sl ac m2,sl ac m2] [(2,30),(3,9),(7,28),(8,28)]] []
def v8:Option Bool:=
 if(decide (i>=0))=true then
  some (decide (i<(v2.length:Int)))
 else
  some false
theorem AZ{x:Bool}(h:v8 v2 i=some x):aB Pg GE 0 (cA Pk 106) (EX .normal (mB v v2 t i m m2 x)) (Ce v v2 t i m m2):=by
 rcases aT h with⟨c4,h⟩|⟨c4,h⟩
 ·obtain rfl:=lf h
  exact co Kj (sg 3 c4<|cD (d5.ln v2)<|eF .normal (mB v v2 t i m m2 (decide (i<(v2.length:Int)))))<|by kernel_rfl
 ·obtain rfl:=lf h
  exact co Kj (sg 3 c4<|eF .normal (mB v v2 t i m m2 false))<|by kernel_rfl
end
section
variable(t:ae)(m:waC)(m2:waB)(m3:Int)(m4:ag)(m5:waC)(m6:waA)(m7:Int)(m8:ag)(m9:Int)(m10:waB)(m11:waB)
def Cf:av:=aN 104 [(3,.eptr (af t)),(6,.bptr 1 0),(8,.bptr 2 0)] [.dead,.cells [.int .i64 0,.str ([]:ag),sl af m,sl cS ([]:List ag),.int .i64 0,.str ([]:ag),.int .i64 0,sl ac m2,sl ac m2] [(2,30),(3,9),(7,28),(8,28)],.cells [.int .i64 m3,.str m4,sl af m5,sl cS m6,.int .i64 m7,.str m8,.int .i64 m9,sl ac m10,sl ac m11] [(2,30),(8,28)]] []
def mC(o:Bool):av:=aN 104 [(3,.eptr (af t)),(6,.bptr 1 0),(8,.bptr 2 0),(42,.bool o)] [.dead,.cells [.int .i64 0,.str ([]:ag),sl af m,sl cS ([]:List ag),.int .i64 0,.str ([]:ag),.int .i64 0,sl ac m2,sl ac m2] [(2,30),(3,9),(7,28),(8,28)],.cells [.int .i64 m3,.str m4,sl af m5,sl cS m6,.int .i64 m7,.str m8,.int .i64 m9,sl ac m10,sl ac m11] [(2,30),(8,28)]] []
def wa:Option Bool:=
 (zm t.Pred).bind fun r10=>
 if(!r10)=true then
  some (m3 !=6)
 else
  some false
theorem A0{x:Bool}(h:wa t m3=some x):aB Pg GE 0 (cA Pk 1716) (EX .normal (mC t m m2 m3 m4 m5 m6 m7 m8 m9 m10 m11 x)) (Cf t m m2 m3 m4 m5 m6 m7 m8 m9 m10 m11):=by
 obtain⟨r10,br10,h⟩:=aw h
 have p12:=fun{sc F} (r:PS sc F)=>sv (bU t)<|sv (bX t)<|ba (ye br10)<|r
 rcases aT h with⟨c11,h⟩|⟨c11,h⟩
 ·obtain rfl:=lf h
  exact co Kj (p12<|sg 5 c11<|ss<|eF .normal (mC t m m2 m3 m4 m5 m6 m7 m8 m9 m10 m11 (m3 !=6)))<|by kernel_rfl
 ·obtain rfl:=lf h
  exact co Kj (p12<|sg 5 c11<|eF .normal (mC t m m2 m3 m4 m5 m6 m7 m8 m9 m10 m11 false))<|by kernel_rfl
end
section
variable(R34:jL)(v:waA)(v2:waC)(t:ae)(m:waC)(m2:waB)
def Cd:av:=aN 104 [(1,sl cS v),(2,sl af v2),(3,.eptr (af t)),(6,.bptr 1 0)] [.dead,.cells [.int .i64 0,.str ([]:ag),sl af m,sl cS ([]:List ag),.int .i64 0,.str ([]:ag),.int .i64 0,sl ac m2,sl ac m2] [(2,30),(3,9),(7,28),(8,28)]] []
def eN(o:(Int×ag×waC×waA×Int×ag×Int×waB×waB×Int×ag×waC×waA×Int×ag×Int×waB×waB)⊕(Unit)):Exit:=match o with
 |(.inl _)=>.ret
 |(.inr _)=>.normal
def dt(o:(Int×ag×waC×waA×Int×ag×Int×waB×waB×Int×ag×waC×waA×Int×ag×Int×waB×waB)⊕(Unit)):av:=match o with
 |(.inl o)=>aN 104 [(6,.bptr 1 0)] [.dead,.cells [.int .i64 o.1,.str o.2.1,sl af o.2.2.1,sl cS o.2.2.2.1,.int .i64 o.2.2.2.2.1,.str o.2.2.2.2.2.1,.int .i64 o.2.2.2.2.2.2.1,sl ac o.2.2.2.2.2.2.2.1,sl ac o.2.2.2.2.2.2.2.2.1] [(2,30),(8,28)],.cells [.int .i64 o.2.2.2.2.2.2.2.2.2.1,.str o.2.2.2.2.2.2.2.2.2.2.1,sl af o.2.2.2.2.2.2.2.2.2.2.2.1,sl cS o.2.2.2.2.2.2.2.2.2.2.2.2.1,.int .i64 o.2.2.2.2.2.2.2.2.2.2.2.2.2.1,.str o.2.2.2.2.2.2.2.2.2.2.2.2.2.2.1,.int .i64 o.2.2.2.2.2.2.2.2.2.2.2.2.2.2.2.1,sl ac o.2.2.2.2.2.2.2.2.2.2.2.2.2.2.2.2.1,sl ac o.2.2.2.2.2.2.2.2.2.2.2.2.2.2.2.2.2] []] []
 |(.inr o)=>aN 104 [(1,sl cS v),(2,sl af v2),(3,.eptr (af t)),(6,.bptr 1 0)] [.dead,.cells [.int .i64 0,.str ([]:ag),sl af m,sl cS ([]:List ag),.int .i64 0,.str ([]:ag),.int .i64 0,sl ac m2,sl ac m2] [(2,30),(3,9),(7,28),(8,28)]] []
def v7:Option ((Int×ag×waC×waA×Int×ag×Int×waB×waB×Int×ag×waC×waA×Int×ag×Int×waB×waB)⊕(Unit)):=
 if (t.Op == 5) = true then
  (tC v t.Name).bind fun r3=>
  (v8 v2 r3).bind fun o5=>
  if o5=true then
   (dv v2 r3).bind fun x8=>
   (R34 x8 ([]:List ag) ([]:List ae)).bind fun r9=>
   (wa t r9.Op).bind fun o13=>
   if o13=true then
    (zm r9.Pred).bind fun r16=>
    if r16=true then
     (pM t.Pred).bind fun r19=>
     some (.inl (r9.Op,r9.Name,r9.Args,r9.Names,r19.Op,r19.Name,r19.N,r19.Kids,r9.Preds,r9.Op,r9.Name,r9.Args,r9.Names,r19.Op,r19.Name,r19.N,r19.Kids,r9.Preds))
    else
     (pM t.Pred).bind fun r20=>
     some (.inl (r9.Op,r9.Name,r9.Args,r9.Names,15,([]:ag),0,([r9.Pred,r20]:List aa),r9.Preds,r9.Op,r9.Name,r9.Args,r9.Names,15,([]:ag),0,([r9.Pred,r20]:List aa),r9.Preds))
   else
    some (.inl (r9.Op,r9.Name,r9.Args,r9.Names,r9.Pred.Op,r9.Pred.Name,r9.Pred.N,r9.Pred.Kids,r9.Preds,r9.Op,r9.Name,r9.Args,r9.Names,r9.Pred.Op,r9.Pred.Name,r9.Pred.N,r9.Pred.Kids,r9.Preds))
  else
   some (.inr ())
 else
  some (.inr ())
theorem qC(hR34:mH R34){x:(Int×ag×waC×waA×Int×ag×Int×waB×waB×Int×ag×waC×waA×Int×ag×Int×waB×waB)⊕(Unit)}(h:v7 R34 v v2 t=some x):aB Pg GE 0 (cA Pk 6) (EX (eN x) (dt v v2 t m m2 x)) (Cd v v2 t m m2):=by
 have p2:=fun{sc F} (r:PS sc F)=>sv (aG t)<|sv (aJ t)<|r
 rcases aT h with⟨c1,h⟩|⟨c1,h⟩
 ·obtain⟨r3,br3,h⟩:=aw h
  obtain⟨o5,bo5,h⟩:=aw h
  have p7:=fun{sc F} (r:PS sc F)=>p2<|sg 0 c1<|sv (dc t)<|sv (dC t)<|ba (xz br3)<|kK 0<|cC (AZ v v2 t r3 m m2 bo5)<|r
  rcases aT h with⟨c6,h⟩|⟨c6,h⟩
  ·obtain⟨x8,bx8,h⟩:=aw h
   obtain⟨r9,br9,h⟩:=aw h
   obtain⟨o13,bo13,h⟩:=aw h
   have p15:=fun{sc F} (r:PS sc F)=>p7<|sg 0 c6<|sv (d5.ia (k:=.i64) bx8)<|sv (bh x8)<|ba (hR34 _ _ _ _ br9)<|sx jh<|sy (aS r9)<|kK 1<|cC (A0 t m m2 r9.Op r9.Name r9.Args r9.Names r9.Pred.Op r9.Pred.Name r9.Pred.N r9.Pred.Kids r9.Preds bo13)<|r
   rcases aT h with⟨c14,h⟩|⟨c14,h⟩
   ·obtain⟨r16,br16,h⟩:=aw h
    have p18:=fun{sc F} (r:PS sc F)=>p15<|sg 0 c14<|sv (aX r9.Pred [sl ac r9.Preds])<|ba (ye br16)<|r
    rcases aT h with⟨c17,h⟩|⟨c17,h⟩
    ·obtain⟨r19,br19,h⟩:=aw h
     obtain rfl:=lf h
     exact co Kj (p18<|sg 0 c17<|sv (bU t)<|sv (bX t)<|ba (mT br19)<|sy (aE r19)<|sz (bz (⟨r9.Op,r9.Name,r9.Args,r9.Names,r19,r9.Preds⟩:ae) [])<|sy (aS (⟨r9.Op,r9.Name,r9.Args,r9.Names,r19,r9.Preds⟩:ae))<|eF (eN (.inl (r9.Op,r9.Name,r9.Args,r9.Names,r19.Op,r19.Name,r19.N,r19.Kids,r9.Preds,r9.Op,r9.Name,r9.Args,r9.Names,r19.Op,r19.Name,r19.N,r19.Kids,r9.Preds))) (dt v v2 t m m2 (.inl (r9.Op,r9.Name,r9.Args,r9.Names,r19.Op,r19.Name,r19.N,r19.Kids,r9.Preds,r9.Op,r9.Name,r9.Args,r9.Names,r19.Op,r19.Name,r19.N,r19.Kids,r9.Preds))))<|by kernel_rfl
    ·obtain⟨r20,br20,h⟩:=aw h
     obtain rfl:=lf h
     exact co Kj (p18<|sg 0 c17<|rp [0,1,0,4,12,31,63,127,255]<|sv (aX r9.Pred [sl ac r9.Preds])<|sv (bU t)<|sv (bX t)<|ba (mT br20)<|sv (aR.mk' (v:=ce) aY ([r9.Pred,r20]:List aa) 2 (by kernel_rfl))<|sv (oe 15 ([r9.Pred,r20]:List aa))<|sx (bv (⟨15,([]:ag),0,([r9.Pred,r20]:List aa)⟩:aa))<|sz (bz (⟨r9.Op,r9.Name,r9.Args,r9.Names,(⟨15,([]:ag),0,([r9.Pred,r20]:List aa)⟩:aa),r9.Preds⟩:ae) [])<|sy (aS (⟨r9.Op,r9.Name,r9.Args,r9.Names,(⟨15,([]:ag),0,([r9.Pred,r20]:List aa)⟩:aa),r9.Preds⟩:ae))<|eF (eN (.inl (r9.Op,r9.Name,r9.Args,r9.Names,15,([]:ag),0,([r9.Pred,r20]:List aa),r9.Preds,r9.Op,r9.Name,r9.Args,r9.Names,15,([]:ag),0,([r9.Pred,r20]:List aa),r9.Preds))) (dt v v2 t m m2 (.inl (r9.Op,r9.Name,r9.Args,r9.Names,15,([]:ag),0,([r9.Pred,r20]:List aa),r9.Preds,r9.Op,r9.Name,r9.Args,r9.Names,15,([]:ag),0,([r9.Pred,r20]:List aa),r9.Preds))))<|by kernel_rfl
   ·obtain rfl:=lf h
    exact co Kj (p15<|sg 0 c14<|sz (bz r9 [])<|sy (aS r9)<|eF (eN (.inl (r9.Op,r9.Name,r9.Args,r9.Names,r9.Pred.Op,r9.Pred.Name,r9.Pred.N,r9.Pred.Kids,r9.Preds,r9.Op,r9.Name,r9.Args,r9.Names,r9.Pred.Op,r9.Pred.Name,r9.Pred.N,r9.Pred.Kids,r9.Preds))) (dt v v2 t m m2 (.inl (r9.Op,r9.Name,r9.Args,r9.Names,r9.Pred.Op,r9.Pred.Name,r9.Pred.N,r9.Pred.Kids,r9.Preds,r9.Op,r9.Name,r9.Args,r9.Names,r9.Pred.Op,r9.Pred.Name,r9.Pred.N,r9.Pred.Kids,r9.Preds))))<|by kernel_rfl
  ·obtain rfl:=lf h
   exact co Kj (p7<|sg 0 c6<|eF (eN (.inr ())) (dt v v2 t m m2 (.inr ())))<|by kernel_rfl
 ·obtain rfl:=lf h
  exact co Kj (p2<|sg 0 c1<|eF (eN (.inr ())) (dt v v2 t m m2 (.inr ())))<|by kernel_rfl
end
section
variable(R34:jL)(v:waA)(v2:waC)(t:ae)(t72:waC)(t73:Int)(m:waC)(m2:waB)(m3:Int)(m4:ag)(m6:waA)(m7:Int)(m8:ag)(m9:Int)(m10:waB)(t74:Int)(m5:waC)
def gj:av:=aN 104 [(1,sl cS v),(2,sl af v2),(3,.eptr (af t)),(6,.bptr 1 0),(9,.bptr 2 0),(72,sl af t72),(73,.int .i64 t73),(74,.int .i64 t74)] [.dead,.cells [.int .i64 0,.str ([]:ag),sl af m,sl cS ([]:List ag),.int .i64 0,.str ([]:ag),.int .i64 0,sl ac m2,sl ac m2] [(2,30),(3,9),(7,28),(8,28)],.cells [.int .i64 m3,.str m4,sl af m5,sl cS m6,.int .i64 m7,.str m8,.int .i64 m9,sl ac m10,sl ac m2] [(2,30),(8,28)]] []
def mD(o:waC):av:=aN 104 [(3,.eptr (af t)),(6,.bptr 1 0),(9,.bptr 2 0)] [.dead,.cells [.int .i64 0,.str ([]:ag),sl af m,sl cS ([]:List ag),.int .i64 0,.str ([]:ag),.int .i64 0,sl ac m2,sl ac m2] [(2,30),(3,9),(7,28),(8,28)],.cells [.int .i64 m3,.str m4,sl af o,sl cS m6,.int .i64 m7,.str m8,.int .i64 m9,sl ac m10,sl ac m2] [(2,30),(8,28)]] []
def sC:Option ((Int×waC)⊕(waC)):=
 if(decide (t74<t73))=true then
  (dv t72 t74).bind fun x25=>
  (R34 x25 v v2).bind fun r26=>
  (app m5 ([r26]:List ae)).bind fun l27=>
  some (.inl (bA (t74+1),l27))
 else
  some (.inr m5)
def wb:Option waC:=loop (fun(zz:Int×waC)=>sC R34 v v2 t72 t73 zz.1 zz.2) (t74,m5)
theorem zj(hR34:mH R34){y:(Int×waC)⊕(waC)}(h:sC R34 v v2 t72 t73 t74 m5=some y):aB Pg GE 0 (cA Pk 247) (LQ (fun(zz:Int×waC)=>gj v v2 t t72 t73 m m2 m3 m4 m6 m7 m8 m9 m10 zz.1 zz.2) (fun _=>.exit 0) (mD t m m2 m3 m4 m6 m7 m8 m9 m10) y) (gj v v2 t t72 t73 m m2 m3 m4 m6 m7 m8 m9 m10 t74 m5):=by
 rcases aT h with⟨c24,h⟩|⟨c24,h⟩
 ·obtain⟨x25,bx25,h⟩:=aw h
  obtain⟨r26,br26,h⟩:=aw h
  obtain⟨l27,bl27,h⟩:=aw h
  obtain rfl:=lf h
  have z:=sg 0 c24<|sv (d5.ia (k:=.i64) bx25)<|sv (bh x25)<|sx jh<|sx (db x25)<|rp [0,1,0,0,0,28,60,127,255,511]<|sv (bz x25 [])<|ba (hR34 _ _ _ _ br26)<|sv (d5.mk' (v:=tR) oH ([r26]:List ae) 1 (by kernel_rfl))<|sv (d5.ap bl27)<|M0 (rfl:bR (sl af l27)=some [sl af l27])<|pg 0 .normal (gj v v2 t t72 t73 m m2 m3 m4 m6 m7 m8 m9 m10 (bA (t74+1)) l27) rfl (cF (aI (up (am dS v)) (aI (up (am al v2)) (aI (lq (al t)) (aI (cV rfl) (aI (cV rfl) (aI (up (am al t72)) (aI trivial (aI trivial trivial))))))))) (aI trivial (aI (aI trivial (aI trivial (aI (up (am al m)) (aI (up (am dS ([]:List ag))) (aI trivial (aI trivial (aI trivial (aI (up (am ah m2)) (aI (up (am ah m2)) trivial))))))))) (aI (aI trivial (aI trivial (aI (up (am al l27)) (aI (up (am dS m6)) (aI trivial (aI trivial (aI trivial (aI (up (am ah m10)) (aI (up (am ah m2)) trivial))))))))) trivial)))
  exact cz (A:=Kj) mixed z<|by kernel_rfl
 ·obtain rfl:=lf h
  have z:=sg 0 c24<|eF (.exit 0) (mD t m m2 m3 m4 m6 m7 m8 m9 m10 m5)
  exact gf Kj (by intro hx;cases hx) z<|by kernel_rfl
theorem A1(hR34:mH R34){x:waC}(h:wb R34 v v2 t72 t73 t74 m5=some x):aB Pg GE 0 (.loop (cA Pk 247)) (EX (.exit 0) (mD t m m2 m3 m4 m6 m7 m8 m9 m10 x)) (gj v v2 t t72 t73 m m2 m3 m4 m6 m7 m8 m9 m10 t74 m5):=
 aB.loop (S:=fun(zz:Int×waC)=>gj v v2 t t72 t73 m m2 m3 m4 m6 m7 m8 m9 m10 zz.1 zz.2) (ex:=(fun _=>.exit 0)) (s:=(t74,m5)) h fun zz y hy=>zj R34 v v2 t t72 t73 m m2 m3 m4 m6 m7 m8 m9 m10 zz.1 zz.2 hR34 hy
end
section
variable(t89:waB)(t90:Int)(m:waC)(m2:waB)(m3:Int)(m4:ag)(m5:waC)(m6:waA)(m7:Int)(m8:ag)(m9:Int)(m10:waB)(t91:Int)(m11:waB)
def gk:av:=aN 104 [(6,.bptr 1 0),(9,.bptr 2 0),(89,sl ac t89),(90,.int .i64 t90),(91,.int .i64 t91)] [.dead,.cells [.int .i64 0,.str ([]:ag),sl af m,sl cS ([]:List ag),.int .i64 0,.str ([]:ag),.int .i64 0,sl ac m2,sl ac m2] [(2,30),(3,9),(7,28),(8,28)],.cells [.int .i64 m3,.str m4,sl af m5,sl cS m6,.int .i64 m7,.str m8,.int .i64 m9,sl ac m10,sl ac m11] [(2,30),(8,28)]] []
def mE(o:waB):av:=aN 104 [(6,.bptr 1 0),(9,.bptr 2 0)] [.dead,.cells [.int .i64 0,.str ([]:ag),sl af m,sl cS ([]:List ag),.int .i64 0,.str ([]:ag),.int .i64 0,sl ac m2,sl ac m2] [(2,30),(3,9),(7,28),(8,28)],.cells [.int .i64 m3,.str m4,sl af m5,sl cS m6,.int .i64 m7,.str m8,.int .i64 m9,sl ac m10,sl ac o] [(2,30),(8,28)]] []
def sD:Option ((Int×waB)⊕(waB)):=
 if(decide (t91<t90))=true then
  (dv t89 t91).bind fun x30=>
  (pM x30).bind fun r31=>
  (app m11 ([r31]:List aa)).bind fun l32=>
  some (.inl (bA (t91+1),l32))
 else
  some (.inr m11)
def wc:Option waB:=loop (fun(zz:Int×waB)=>sD t89 t90 zz.1 zz.2) (t91,m11)
theorem zk{y:(Int×waB)⊕(waB)}(h:sD t89 t90 t91 m11=some y):aB Pg GE 0 (cA Pk 503) (LQ (fun(zz:Int×waB)=>gk t89 t90 m m2 m3 m4 m5 m6 m7 m8 m9 m10 zz.1 zz.2) (fun _=>.exit 2) (mE m m2 m3 m4 m5 m6 m7 m8 m9 m10) y) (gk t89 t90 m m2 m3 m4 m5 m6 m7 m8 m9 m10 t91 m11):=by
 rcases aT h with⟨c29,h⟩|⟨c29,h⟩
 ·obtain⟨x30,bx30,h⟩:=aw h
  obtain⟨r31,br31,h⟩:=aw h
  obtain⟨l32,bl32,h⟩:=aw h
  obtain rfl:=lf h
  have z:=sg 0 c29<|sv (aR.ia (k:=.i64) bx30)<|sv (az x30)<|sx eX<|sx (bv x30)<|rp [0,1,0,4,12,31,63,127]<|sv (aX x30 [])<|ba (mT br31)<|sv (aR.mk' (v:=ce) aY ([r31]:List aa) 1 (by kernel_rfl))<|sv (aR.ap bl32)<|M0 (rfl:bR (sl ac l32)=some [sl ac l32])<|pg 0 .normal (gk t89 t90 m m2 m3 m4 m5 m6 m7 m8 m9 m10 (bA (t91+1)) l32) rfl (cF (aI (cV rfl) (aI (cV rfl) (aI (up (am ah t89)) (aI trivial (aI trivial trivial)))))) (aI trivial (aI (aI trivial (aI trivial (aI (up (am al m)) (aI (up (am dS ([]:List ag))) (aI trivial (aI trivial (aI trivial (aI (up (am ah m2)) (aI (up (am ah m2)) trivial))))))))) (aI (aI trivial (aI trivial (aI (up (am al m5)) (aI (up (am dS m6)) (aI trivial (aI trivial (aI trivial (aI (up (am ah m10)) (aI (up (am ah l32)) trivial))))))))) trivial)))
  exact cz (A:=Kj) mixed z<|by kernel_rfl
 ·obtain rfl:=lf h
  have z:=sg 0 c29<|eF (.exit 2) (mE m m2 m3 m4 m5 m6 m7 m8 m9 m10 m11)
  exact gf Kj (by intro hx;cases hx) z<|by kernel_rfl
theorem A2{x:waB}(h:wc t89 t90 t91 m11=some x):aB Pg GE 0 (.loop (cA Pk 503)) (EX (.exit 2) (mE m m2 m3 m4 m5 m6 m7 m8 m9 m10 x)) (gk t89 t90 m m2 m3 m4 m5 m6 m7 m8 m9 m10 t91 m11):=
 aB.loop (S:=fun(zz:Int×waB)=>gk t89 t90 m m2 m3 m4 m5 m6 m7 m8 m9 m10 zz.1 zz.2) (ex:=(fun _=>.exit 2)) (s:=(t91,m11)) h fun zz y hy=>zk t89 t90 m m2 m3 m4 m5 m6 m7 m8 m9 m10 zz.1 zz.2 hy
end
def xT(R34:jL)(t:ae)(a:waA)(a2:waC):Option ae:=
 (v7 R34 a a2 t).bind fun o21=>match o21 with
 |(.inl o21)=>
  some (⟨o21.1,o21.2.1,o21.2.2.1,o21.2.2.2.1,(⟨o21.2.2.2.2.1,o21.2.2.2.2.2.1,o21.2.2.2.2.2.2.1,o21.2.2.2.2.2.2.2.1⟩:aa),o21.2.2.2.2.2.2.2.2.1⟩:ae)
 |(.inr o21)=>
  (app ([]:List ag) t.Names).bind fun l22=>
  (pM t.Pred).bind fun r23=>
  (wb R34 a a2 t.Args (t.Args.length:Int) 0 ([]:List ae)).bind fun o28=>
  (wc t.Preds (t.Preds.length:Int) 0 ([]:List aa)).bind fun o33=>
  some (⟨t.Op,t.Name,o28,l22,r23,o33⟩:ae)
theorem DF(R34:jL)(hR34:mH R34){t:ae}{a:waA}{a2:waC}{r:ae}(h:xT R34 t a a2=some r):CC Pg GE 95 [.agg (af t),sl cS a,sl af a2] (.agg (af r)) [(2,30),(8,28)]:=by
 obtain⟨o21,bo21,h⟩:=aw h
 rcases o21 with o21|o21
 ·obtain rfl:=lf h
  have z:=se (bQ t)<|sx jh<|kK 0<|cC (e:=.ret) (s1:=dt a a2 t ([]:List ae) ([]:List aa) (.inl o21)) (qC R34 a a2 t ([]:List ae) ([]:List aa) hR34 bo21)<|en (aI (cR (⟨o21.1,o21.2.1,o21.2.2.1,o21.2.2.2.1,(⟨o21.2.2.2.2.1,o21.2.2.2.2.2.1,o21.2.2.2.2.2.2.1,o21.2.2.2.2.2.2.2.1⟩:aa),o21.2.2.2.2.2.2.2.2.1⟩:ae))<|aI (al (⟨o21.1,o21.2.1,o21.2.2.1,o21.2.2.2.1,(⟨o21.2.2.2.2.1,o21.2.2.2.2.2.1,o21.2.2.2.2.2.2.1,o21.2.2.2.2.2.2.2.1⟩:aa),o21.2.2.2.2.2.2.2.2.1⟩:ae))<|rT)
  exact b7 Kj call95 func95 (c:=Pk) rfl (aI (al t) (aI (am dS a) (aI (am al a2) trivial))) z<|by kernel_rfl
 ·obtain⟨l22,bl22,h⟩:=aw h
  obtain⟨r23,br23,h⟩:=aw h
  obtain⟨o28,bo28,h⟩:=aw h
  obtain⟨o33,bo33,h⟩:=aw h
  obtain rfl:=lf h
  have z:=se (bQ t)<|sx jh<|kK 0<|cC (e:=.normal) (s1:=dt a a2 t ([]:List ae) ([]:List aa) (.inr o21)) (qC R34 a a2 t ([]:List ae) ([]:List aa) hR34 bo21)<|rp [0,1,0,4,0,0,32,112,0,256,1008,2047,0,8191]<|sv (aG t)<|sv (aJ t)<|sv (dc t)<|sv (dC t)<|sv (aW.mk' (v:=PVal.str) CE ([]:List ag) 0 (by kernel_rfl))<|sv (aC t)<|sv (aD t)<|sv (aW.ap bl22)<|sv (bU t)<|sv (bX t)<|ba (mT br23)<|sb (Bw t.Op t.Name l22 r23) (Bu t.Op t.Name l22 r23)<|OG (db (⟨t.Op,t.Name,([]:List ae),l22,r23,([]:List aa)⟩:ae))<|sv (aK t)<|sv (aL t)<|cD (d5.ln t.Args)<|cC (A1 R34 a a2 t t.Args (t.Args.length:Int) ([]:List ae) ([]:List aa) t.Op t.Name l22 r23.Op r23.Name r23.N r23.Kids 0 ([]:List ae) hR34 bo28)<|sv (bN t)<|sv (bO t)<|cD (aR.ln t.Preds)<|cC (A2 t.Preds (t.Preds.length:Int) ([]:List ae) ([]:List aa) t.Op t.Name o28 l22 r23.Op r23.Name r23.N r23.Kids 0 ([]:List aa) bo33)<|sz (bz (⟨t.Op,t.Name,o28,l22,r23,o33⟩:ae) [])<|sy (aS (⟨t.Op,t.Name,o28,l22,r23,o33⟩:ae))<|en (aI (cR (⟨t.Op,t.Name,o28,l22,r23,o33⟩:ae))<|aI (al (⟨t.Op,t.Name,o28,l22,r23,o33⟩:ae))<|rT)
  exact b7 Kj call95 func95 (c:=Pk) rfl (aI (al t) (aI (am dS a) (aI (am al a2) trivial))) z<|by kernel_rfl
def xU:((ae×waA×waC)->Option ae)->(ae×waA×waC)->Option ae:=fun(rec:(ae×waA×waC)->Option ae) (x:ae×waA×waC)=>xT (fun t a a2=>rec (t,a,a2)) x.1 x.2.1 x.2.2
def CQ(t:ae)(a:waA)(a2:waC):Option ae:=nw xU (t,a,a2)
theorem F1{t:ae}{a:waA}{a2:waC}{r:ae}(h:CQ t a a2=some r):CC Pg GE 95 [.agg (af t),sl cS a,sl af a2] (.agg (af r)) [(2,30),(8,28)]:=
 cT (F:=xU) (M:=fun(x:ae×waA×waC) (r:ae)=>CC Pg GE 95 [.agg (af x.1),sl cS x.2.1,sl af x.2.2] (.agg (af r)) [(2,30),(8,28)]) (fun rec hrec x r h=>DF _ (fun t a a2 r h=>hrec (t,a,a2) r h) h) h
noncomputable def UP:Code:=f53.body.getD .skip
def UA:List Nat:=[]
def pG(t:ae):Option ae:=
 (CQ t ([]:List ag) ([]:List ae)).bind fun r1=>
 some r1
theorem qw{t:ae}{r:ae}(h:pG t=some r):CC Pg GE 53 [.agg (af t)] (.agg (af r)) [(2,30),(8,28)]:=by
 obtain⟨r1,br1,h⟩:=aw h
 obtain rfl:=lf h
 have z:=se (bQ t)<|sx jh<|sv (bh t)<|ba (F1 br1)<|sy (aS r1)<|en (aI (cR r1)<|aI (al r1)<|rT)
 exact b7 UA call53 func53 (c:=UP) rfl (aI (al t) trivial) z<|by kernel_rfl
noncomputable def T1:Code:=f96.body.getD .skip
def TS:List Nat:=[]
def jU(is:Bool):Option aa:=
 if is=true then
  some (⟨2,([]:ag),1,([]:List aa)⟩:aa)
 else
  some (⟨2,([]:ag),0,([]:List aa)⟩:aa)
theorem gg{is:Bool}{r:aa}(h:jU is=some r):CC Pg GE 96 [.bool is] (.agg (ac r)) [(3,28)]:=by
 rcases aT h with⟨c1,h⟩|⟨c1,h⟩
 ·obtain rfl:=lf h
  have z:=sx eX<|sg 0 c1<|sb (od 2 1) (n8 2 1)<|sy (aE (⟨2,([]:ag),1,([]:List aa)⟩:aa))<|en (aI (cQ (⟨2,([]:ag),1,([]:List aa)⟩:aa))<|aI (ah (⟨2,([]:ag),1,([]:List aa)⟩:aa))<|rT)
  exact b7 TS call96 func96 (c:=T1) rfl (aI trivial trivial) z<|by kernel_rfl
 ·obtain rfl:=lf h
  have z:=sx eX<|sg 0 c1<|sb (Kt 2) (Kr 2)<|sy (aE (⟨2,([]:ag),0,([]:List aa)⟩:aa))<|en (aI (cQ (⟨2,([]:ag),0,([]:List aa)⟩:aa))<|aI (ah (⟨2,([]:ag),0,([]:List aa)⟩:aa))<|rT)
  exact b7 TS call96 func96 (c:=T1) rfl (aI trivial trivial) z<|by kernel_rfl
abbrev kC:=(aa->aa->Option Bool)
abbrev pR(R:kC):Prop:=∀(a:aa) (a2:aa) (r:Bool),R a a2=some r->CC Pg GE 98 [.agg (ac a),.agg (ac a2)] (.bool r) []
noncomputable def Ns:Code:=f124.body.getD .skip
def L4:List Nat:=[17]
section
variable(R41:kC)(v:waB)(v2:waB)(t14:Int)(t15:Int)
def gX:av:=aN 30 [(0,sl ac v),(1,sl ac v2),(2,.func (.func 98) [] []),(14,.int .i64 t14),(15,.int .i64 t15)] [] []
def gY(o:Unit⊕(Unit)):Exit:=match o with
 |(.inl _)=>.ret
 |(.inr _)=>.exit 0
def fl(o:Unit⊕(Unit)):av:=match o with
 |(.inl o)=>aN 30 [(6,.bool false)] [] []
 |(.inr o)=>aN 30 [] [] []
def ud:Option (Int⊕(Unit⊕(Unit))):=
 if(decide (t15<t14))=true then
  (dv v t15).bind fun x4=>
  (dv v2 t15).bind fun x5=>
  (R41 x4 x5).bind fun r6=>
  if(!r6)=true then
   some (.inr (.inl ()))
  else
   some (.inl (bA (t15+1)))
 else
  some (.inr (.inr ()))
def xL:Option (Unit⊕(Unit)):=loop (fun(zz:Int)=>ud R41 v v2 t14 zz) t15
theorem Aw(hR41:pR R41){y:Int⊕(Unit⊕(Unit))}(h:ud R41 v v2 t14 t15=some y):aB Pg GE 0 (cA Ns 119) (LQ (fun(zz:Int)=>gX v v2 t14 zz) gY fl y) (gX v v2 t14 t15):=by
 rcases aT h with⟨c3,h⟩|⟨c3,h⟩
 ·obtain⟨x4,bx4,h⟩:=aw h
  obtain⟨x5,bx5,h⟩:=aw h
  obtain⟨r6,br6,h⟩:=aw h
  have p8:=fun{sc F} (r:PS sc F)=>sg 0 c3<|rp [0,0,0,6,14,0,0,96,224,511,1023]<|sv (aR.ia (k:=.i64) bx4)<|sv (az x4)<|sv (aR.ia (k:=.i64) bx5)<|sv (az x5)<|ba (hR41 _ _ _ br6)<|r
  rcases aT h with⟨c7,h⟩|⟨c7,h⟩
  ·obtain rfl:=lf h
   have z:=p8<|sg 0 c7<|eF (gY (.inl ())) (fl (.inl ()))
   exact gf L4 (by intro hx;cases hx) z<|by kernel_rfl
  ·obtain rfl:=lf h
   exact rY L4 (p8<|sg 0 c7<|eF .normal (gX v v2 t14 (bA (t15+1))))<|by kernel_rfl
 ·obtain rfl:=lf h
  have z:=sg 0 c3<|eF (gY (.inr ())) (fl (.inr ()))
  exact gf L4 (by intro hx;cases hx) z<|by kernel_rfl
theorem sj(hR41:pR R41){x:Unit⊕(Unit)}(h:xL R41 v v2 t14 t15=some x):aB Pg GE 0 (.loop (cA Ns 119)) (EX (gY x) (fl x)) (gX v v2 t14 t15):=
 aB.loop (S:=fun(zz:Int)=>gX v v2 t14 zz) (ex:=gY) (s:=t15) h fun zz y hy=>Aw R41 v v2 t14 zz hR41 hy
end
def Fq(R41:kC)(a:waB)(a2:waB):Option Bool:=
 if((a.length:Int)!=(a2.length:Int))=true then
  some false
 else
  (xL R41 a a2 (a.length:Int) 0).bind fun o9=>match o9 with
  |(.inl o9)=>
   some false
  |(.inr o9)=>
   some true
theorem GL(R41:kC)(hR41:pR R41){a:waB}{a2:waB}{r:Bool}(h:Fq R41 a a2=some r):CC Pg GE 124 [sl ac a,sl ac a2,.func (.func 98) [] []] (.bool r) []:=by
 have p2:=fun{sc F} (r:PS sc F)=>cD (aR.ln a)<|cD (aR.ln a2)<|r
 rcases aT h with⟨c1,h⟩|⟨c1,h⟩
 ·obtain rfl:=lf h
  have z:=p2<|sg 0 c1<|en (aI (rP (.bool false))<|trivial)
  exact b7 L4 call124 func124 (c:=Ns) rfl (aI (am ah a) (aI (am ah a2) (aI (aI trivial trivial) trivial))) z<|by kernel_rfl
 ·obtain⟨o9,bo9,h⟩:=aw h
  rcases o9 with o9|o9
  ·obtain rfl:=lf h
   have z:=p2<|sg 0 c1<|cD (aR.ln a)<|cC (e:=.ret) (s1:=fl (.inl o9)) (sj R41 a a2 (a.length:Int) 0 hR41 bo9)<|en (aI (rP (.bool false))<|trivial)
   exact b7 L4 call124 func124 (c:=Ns) rfl (aI (am ah a) (aI (am ah a2) (aI (aI trivial trivial) trivial))) z<|by kernel_rfl
  ·obtain rfl:=lf h
   have z:=p2<|sg 0 c1<|cD (aR.ln a)<|cC (e:=.exit 0) (s1:=fl (.inr o9)) (sj R41 a a2 (a.length:Int) 0 hR41 bo9)<|en (aI (rP (.bool true))<|trivial)
   exact b7 L4 call124 func124 (c:=Ns) rfl (aI (am ah a) (aI (am ah a2) (aI (aI trivial trivial) trivial))) z<|by kernel_rfl
noncomputable def SG:Code:=f98.body.getD .skip
def Sw:List Nat:=[]
def CJ(R41:kC)(a:aa)(a2:aa):Option Bool:=
 if (a.Op == a2.Op) = true then
  if(a.Name==a2.Name)=true then
   if(a.N==a2.N)=true then
    (Fq R41 a.Kids a2.Kids).bind fun r7=>
    some r7
   else
    some false
  else
   some false
 else
  some false
theorem GJ(R41:kC)(hR41:pR R41){a:aa}{a2:aa}{r:Bool}(h:CJ R41 a a2=some r):CC Pg GE 98 [.agg (ac a),.agg (ac a2)] (.bool r) []:=by
 have p2:=fun{sc F} (r:PS sc F)=>se (bM a)<|se (bM a2)<|sv (aP a)<|sv (aQ a)<|sv (aP a2)<|sv (aQ a2)<|r
 rcases aT h with⟨c1,h⟩|⟨c1,h⟩
 ·have p4:=fun{sc F} (r:PS sc F)=>p2<|sg 6 c1<|sv (bT a)<|sv (cm a)<|sv (bT a2)<|sv (cm a2)<|r
  rcases aT h with⟨c3,h⟩|⟨c3,h⟩
  ·have p6:=fun{sc F} (r:PS sc F)=>p4<|sg 13 c3<|sv (cf a)<|sv (cp a)<|sv (cf a2)<|sv (cp a2)<|r
   rcases aT h with⟨c5,h⟩|⟨c5,h⟩
   ·obtain⟨r7,br7,h⟩:=aw h
    obtain rfl:=lf h
    have z:=p6<|sg 20 c5<|sv (aF a)<|sv (aH a)<|sv (aF a2)<|sv (aH a2)<|ba (GL R41 hR41 br7)<|en (aI (rP (.bool r7))<|trivial)
    exact b7 Sw call98 func98 (c:=SG) rfl (aI (ah a) (aI (ah a2) trivial)) z<|by kernel_rfl
   ·obtain rfl:=lf h
    have z:=p6<|sg 20 c5<|en (aI (rP (.bool false))<|trivial)
    exact b7 Sw call98 func98 (c:=SG) rfl (aI (ah a) (aI (ah a2) trivial)) z<|by kernel_rfl
  ·obtain rfl:=lf h
   have z:=p4<|sg 13 c3<|en (aI (rP (.bool false))<|trivial)
   exact b7 Sw call98 func98 (c:=SG) rfl (aI (ah a) (aI (ah a2) trivial)) z<|by kernel_rfl
 ·obtain rfl:=lf h
  have z:=p2<|sg 6 c1<|en (aI (rP (.bool false))<|trivial)
  exact b7 Sw call98 func98 (c:=SG) rfl (aI (ah a) (aI (ah a2) trivial)) z<|by kernel_rfl
def CK:((aa×aa)->Option Bool)->(aa×aa)->Option Bool:=fun(rec:(aa×aa)->Option Bool) (x:aa×aa)=>CJ (fun a a2=>rec (a,a2)) x.1 x.2
def sd(a:aa)(a2:aa):Option Bool:=nw CK (a,a2)
theorem om{a:aa}{a2:aa}{r:Bool}(h:sd a a2=some r):CC Pg GE 98 [.agg (ac a),.agg (ac a2)] (.bool r) []:=
 cT (F:=CK) (M:=fun(x:aa×aa) (r:Bool)=>CC Pg GE 98 [.agg (ac x.1),.agg (ac x.2)] (.bool r) []) (fun rec hrec x r h=>GJ _ (fun a a2 r h=>hrec (a,a2) r h) h) h
noncomputable def T2:Code:=f97.body.getD .skip
def TT:List Nat:=[]
def Hn(p:aa):Option Bool:=
 (sd p (⟨0,([]:ag),0,([]:List aa)⟩:aa)).bind fun r1=>
 if r1=true then
  some true
 else
  (jU true).bind fun r4=>
  (sd p r4).bind fun r5=>
  some r5
theorem IE{p:aa}{r:Bool}(h:Hn p=some r):CC Pg GE 97 [.agg (ac p)] (.bool r) []:=by
 obtain⟨r1,br1,h⟩:=aw h
 have p3:=fun{sc F} (r:PS sc F)=>se (bM p)<|rp [0,0,3,7,15,15,63,127,255]<|sv (az p)<|sb (tn) (tk)<|ba (om br1)<|r
 rcases aT h with⟨c2,h⟩|⟨c2,h⟩
 ·obtain rfl:=lf h
  have z:=p3<|sg 4 c2<|en (aI (rP (.bool true))<|trivial)
  exact b7 TT call97 func97 (c:=T2) rfl (aI (ah p) trivial) z<|by kernel_rfl
 ·obtain⟨r4,br4,h⟩:=aw h
  obtain⟨r5,br5,h⟩:=aw h
  obtain rfl:=lf h
  have z:=p3<|sg 4 c2<|sv (az p)<|ba (gg br4)<|ba (om br5)<|en (aI (rP (.bool r5))<|trivial)
  exact b7 TT call97 func97 (c:=T2) rfl (aI (ah p) trivial) z<|by kernel_rfl
noncomputable def SD:Code:=f54.body.getD .skip
def Qt:List Nat:=[25]
section
variable(t8:waB)(t9:Int)(v:Bool)(t10:Int)(m:Int)(m2:ag)(m3:Int)(m4:waB)(m5:Int)(m6:ag)(m7:Int)(m8:waB)
def fM:av:=aN 33 [(2,.bptr 0 0),(3,.bptr 1 0),(4,.bool v),(8,sl ac t8),(9,.int .i64 t9),(10,.int .i64 t10)] [.cells [.int .i64 m,.str m2,.int .i64 m3,sl ac m4] [(3,28)],.cells [.int .i64 m5,.str m6,.int .i64 m7,sl ac m8] []] []
def jT(o:(Int×ag×Int×waB×Int×ag×Int×waB)⊕(Int×ag×Int×waB×Int×ag×Int×waB)):Exit:=match o with
 |(.inl _)=>.ret
 |(.inr _)=>.exit 0
def io(o:(Int×ag×Int×waB×Int×ag×Int×waB)⊕(Int×ag×Int×waB×Int×ag×Int×waB)):av:=match o with
 |(.inl o)=>aN 33 [(2,.bptr 0 0)] [.cells [.int .i64 o.1,.str o.2.1,.int .i64 o.2.2.1,sl ac o.2.2.2.1] [(3,28)],.cells [.int .i64 o.2.2.2.2.1,.str o.2.2.2.2.2.1,.int .i64 o.2.2.2.2.2.2.1,sl ac o.2.2.2.2.2.2.2] []] []
 |(.inr o)=>aN 33 [(2,.bptr 0 0),(3,.bptr 1 0)] [.cells [.int .i64 o.1,.str o.2.1,.int .i64 o.2.2.1,sl ac o.2.2.2.1] [(3,28)],.cells [.int .i64 o.2.2.2.2.1,.str o.2.2.2.2.2.1,.int .i64 o.2.2.2.2.2.2.1,sl ac o.2.2.2.2.2.2.2] []] []
def xG:Option ((Bool×Int×Int×ag×Int×waB×Int×ag×Int×waB)⊕((Int×ag×Int×waB×Int×ag×Int×waB)⊕(Int×ag×Int×waB×Int×ag×Int×waB))):=
 if (decide (t10 < t9)) = true then
  (dv t8 t10).bind fun x3=>
  (Hn x3).bind fun r4=>
  if r4=true then
   some (.inl (v,bA (t10+1),m,m2,m3,m4,m5,m6,m7,m8))
  else
   (jU false).bind fun r7=>
   (sd x3 r7).bind fun r8=>
   if r8=true then
    (jU false).bind fun r11=>
    some (.inr (.inl (r11.Op,r11.Name,r11.N,r11.Kids,m5,m6,m7,m8)))
   else
    if v=true then
     (nj x3).bind fun r14=>
     some (.inl (v,bA (t10+1),m,m2,m3,m4,15,([]:ag),0,([(⟨m5,m6,m7,m8⟩:aa),r14]:List aa)))
    else
     (nj x3).bind fun r15=>
     some (.inl (true,bA (t10+1),m,m2,m3,m4,r15.Op,r15.Name,r15.N,r15.Kids))
 else
  some (.inr (.inr (m,m2,m3,m4,m5,m6,m7,m8)))
def CI:Option ((Int×ag×Int×waB×Int×ag×Int×waB)⊕(Int×ag×Int×waB×Int×ag×Int×waB)):=loop (fun(zz:Bool×Int×Int×ag×Int×waB×Int×ag×Int×waB)=>xG t8 t9 zz.1 zz.2.1 zz.2.2.1 zz.2.2.2.1 zz.2.2.2.2.1 zz.2.2.2.2.2.1 zz.2.2.2.2.2.2.1 zz.2.2.2.2.2.2.2.1 zz.2.2.2.2.2.2.2.2.1 zz.2.2.2.2.2.2.2.2.2) (v,t10,m,m2,m3,m4,m5,m6,m7,m8)
theorem Do{y:(Bool×Int×Int×ag×Int×waB×Int×ag×Int×waB)⊕((Int×ag×Int×waB×Int×ag×Int×waB)⊕(Int×ag×Int×waB×Int×ag×Int×waB))}(h:xG t8 t9 v t10 m m2 m3 m4 m5 m6 m7 m8=some y):aB Pg GE 0 (cA SD 119) (LQ (fun(zz:Bool×Int×Int×ag×Int×waB×Int×ag×Int×waB)=>fM t8 t9 zz.1 zz.2.1 zz.2.2.1 zz.2.2.2.1 zz.2.2.2.2.1 zz.2.2.2.2.2.1 zz.2.2.2.2.2.2.1 zz.2.2.2.2.2.2.2.1 zz.2.2.2.2.2.2.2.2.1 zz.2.2.2.2.2.2.2.2.2) jT io y) (fM t8 t9 v t10 m m2 m3 m4 m5 m6 m7 m8):=by
 rcases aT h with⟨c2,h⟩|⟨c2,h⟩
 ·obtain⟨x3,bx3,h⟩:=aw h
  obtain⟨r4,br4,h⟩:=aw h
  have p6:=fun{sc F} (r:PS sc F)=>sg 0 c2<|sv (aR.ia (k:=.i64) bx3)<|sv (az x3)<|sx eX<|sx (bv x3)<|sv (aX x3 [])<|ba (IE br4)<|r
  rcases aT h with⟨c5,h⟩|⟨c5,h⟩
  ·obtain rfl:=lf h
   have z:=p6<|sg 0 c5<|pg 0 .normal (fM t8 t9 v (bA (t10+1)) m m2 m3 m4 m5 m6 m7 m8) rfl (cF (aI (cV rfl) (aI (cV rfl) (aI trivial (aI (up (am ah t8)) (aI trivial (aI trivial trivial))))))) (aI (aI trivial (aI trivial (aI trivial (aI (up (am ah m4)) trivial)))) (aI (aI trivial (aI trivial (aI trivial (aI (up (am ah m8)) trivial)))) trivial))
   exact cz (A:=Qt) mixed z<|by kernel_rfl
  ·obtain⟨r7,br7,h⟩:=aw h
   obtain⟨r8,br8,h⟩:=aw h
   have p10:=fun{sc F} (r:PS sc F)=>p6<|sg 0 c5<|rp [0,0,3,7]<|sv (aX x3 [])<|ba (gg br7)<|ba (om br8)<|r
   rcases aT h with⟨c9,h⟩|⟨c9,h⟩
   ·obtain⟨r11,br11,h⟩:=aw h
    obtain rfl:=lf h
    have z:=p10<|sg 0 c9<|ba (gg br11)<|sy (aE r11)<|pg 0 (jT (.inl (r11.Op,r11.Name,r11.N,r11.Kids,m5,m6,m7,m8))) (io (.inl (r11.Op,r11.Name,r11.N,r11.Kids,m5,m6,m7,m8))) rfl (cF (aI (cV rfl) trivial)) (aI (aI trivial (aI trivial (aI trivial (aI (up (am ah r11.Kids)) trivial)))) (aI (aI trivial (aI trivial (aI trivial (aI (up (am ah m8)) trivial)))) trivial))
    exact tE (A:=Qt) mixed (by intro hx;cases hx) z<|by kernel_rfl
   ·have p13:=fun{sc F} (r:PS sc F)=>p10<|sg 0 c9<|r
    rcases aT h with⟨c12,h⟩|⟨c12,h⟩
    ·obtain⟨r14,br14,h⟩:=aw h
     obtain rfl:=lf h
     have z:=p13<|sg 0 c12<|rp [0,0,2,7,15,31]<|sv (aX (⟨m5,m6,m7,m8⟩:aa) [])<|sv (aX x3 [])<|ba (pu br14)<|sv (aR.mk' (v:=ce) aY ([(⟨m5,m6,m7,m8⟩:aa),r14]:List aa) 2 (by kernel_rfl))<|sv (oe 15 ([(⟨m5,m6,m7,m8⟩:aa),r14]:List aa))<|sx (bv (⟨15,([]:ag),0,([(⟨m5,m6,m7,m8⟩:aa),r14]:List aa)⟩:aa))<|pg 0 .normal (fM t8 t9 v (bA (t10+1)) m m2 m3 m4 15 ([]:ag) 0 ([(⟨m5,m6,m7,m8⟩:aa),r14]:List aa)) rfl (cF (aI (cV rfl) (aI (cV rfl) (aI trivial (aI (up (am ah t8)) (aI trivial (aI trivial trivial))))))) (aI (aI trivial (aI trivial (aI trivial (aI (up (am ah m4)) trivial)))) (aI (aI trivial (aI trivial (aI trivial (aI (up (am ah ([(⟨m5,m6,m7,m8⟩:aa),r14]:List aa))) trivial)))) trivial))
     exact cz (A:=Qt) mixed z<|by kernel_rfl
    ·obtain⟨r15,br15,h⟩:=aw h
     obtain rfl:=lf h
     have z:=p13<|sg 0 c12<|sv (aX x3 [])<|ba (pu br15)<|sy (aE r15)<|pg 0 .normal (fM t8 t9 true (bA (t10+1)) m m2 m3 m4 r15.Op r15.Name r15.N r15.Kids) rfl (cF (aI (cV rfl) (aI (cV rfl) (aI trivial (aI (up (am ah t8)) (aI trivial (aI trivial trivial))))))) (aI (aI trivial (aI trivial (aI trivial (aI (up (am ah m4)) trivial)))) (aI (aI trivial (aI trivial (aI trivial (aI (up (am ah r15.Kids)) trivial)))) trivial))
     exact cz (A:=Qt) mixed z<|by kernel_rfl
 ·obtain rfl:=lf h
  have z:=sg 0 c2<|eF (jT (.inr (m,m2,m3,m4,m5,m6,m7,m8))) (io (.inr (m,m2,m3,m4,m5,m6,m7,m8)))
  exact gf Qt (by intro hx;cases hx) z<|by kernel_rfl
theorem vM{x:(Int×ag×Int×waB×Int×ag×Int×waB)⊕(Int×ag×Int×waB×Int×ag×Int×waB)}(h:CI t8 t9 v t10 m m2 m3 m4 m5 m6 m7 m8=some x):aB Pg GE 0 (.loop (cA SD 119)) (EX (jT x) (io x)) (fM t8 t9 v t10 m m2 m3 m4 m5 m6 m7 m8):=
 aB.loop (S:=fun(zz:Bool×Int×Int×ag×Int×waB×Int×ag×Int×waB)=>fM t8 t9 zz.1 zz.2.1 zz.2.2.1 zz.2.2.2.1 zz.2.2.2.2.1 zz.2.2.2.2.2.1 zz.2.2.2.2.2.2.1 zz.2.2.2.2.2.2.2.1 zz.2.2.2.2.2.2.2.2.1 zz.2.2.2.2.2.2.2.2.2) (ex:=jT) (s:=(v,t10,m,m2,m3,m4,m5,m6,m7,m8)) h fun zz y hy=>Do t8 t9 zz.1 zz.2.1 zz.2.2.1 zz.2.2.2.1 zz.2.2.2.2.1 zz.2.2.2.2.2.1 zz.2.2.2.2.2.2.1 zz.2.2.2.2.2.2.2.1 zz.2.2.2.2.2.2.2.2.1 zz.2.2.2.2.2.2.2.2.2 hy
end
def JQ(a:waB):Option aa:=
 (jU true).bind fun r1=>
 (CI a (a.length:Int) false 0 0 ([]:ag) 0 ([]:List aa) r1.Op r1.Name r1.N r1.Kids).bind fun o16=>match o16 with
 |(.inl o16)=>
  some (⟨o16.1,o16.2.1,o16.2.2.1,o16.2.2.2.1⟩:aa)
 |(.inr o16)=>
  some (⟨o16.2.2.2.2.1,o16.2.2.2.2.2.1,o16.2.2.2.2.2.2.1,o16.2.2.2.2.2.2.2⟩:aa)
theorem JR{a:waB}{r:aa}(h:JQ a=some r):CC Pg GE 54 [sl ac a] (.agg (ac r)) []:=by
 obtain⟨r1,br1,h⟩:=aw h
 obtain⟨o16,bo16,h⟩:=aw h
 rcases o16 with o16|o16
 ·obtain rfl:=lf h
  have z:=sx eX<|ba (gg br1)<|sx eX<|sy (aE r1)<|cD (aR.ln a)<|cC (e:=.ret) (s1:=io (.inl o16)) (vM a (a.length:Int) false 0 0 ([]:ag) 0 ([]:List aa) r1.Op r1.Name r1.N r1.Kids bo16)<|en (aI (cQ (⟨o16.1,o16.2.1,o16.2.2.1,o16.2.2.2.1⟩:aa))<|(ah (⟨o16.1,o16.2.1,o16.2.2.1,o16.2.2.2.1⟩:aa)))
  exact b7 Qt call54 func54 (c:=SD) rfl (aI (am ah a) trivial) z<|by kernel_rfl
 ·obtain rfl:=lf h
  have z:=sx eX<|ba (gg br1)<|sx eX<|sy (aE r1)<|cD (aR.ln a)<|cC (e:=.exit 0) (s1:=io (.inr o16)) (vM a (a.length:Int) false 0 0 ([]:ag) 0 ([]:List aa) r1.Op r1.Name r1.N r1.Kids bo16)<|sv (aX (⟨o16.2.2.2.2.1,o16.2.2.2.2.2.1,o16.2.2.2.2.2.2.1,o16.2.2.2.2.2.2.2⟩:aa) [])<|sx (bv (⟨o16.2.2.2.2.1,o16.2.2.2.2.2.1,o16.2.2.2.2.2.2.1,o16.2.2.2.2.2.2.2⟩:aa))<|en (aI (cQ (⟨o16.2.2.2.2.1,o16.2.2.2.2.2.1,o16.2.2.2.2.2.2.1,o16.2.2.2.2.2.2.2⟩:aa))<|(ah (⟨o16.2.2.2.2.1,o16.2.2.2.2.2.1,o16.2.2.2.2.2.2.1,o16.2.2.2.2.2.2.2⟩:aa)))
  exact b7 Qt call54 func54 (c:=SD) rfl (aI (am ah a) trivial) z<|by kernel_rfl
noncomputable def TV:Code:=f20.body.getD .skip
def TM:List Nat:=[]
def CN(t:ae)(p:aa):Option ae:=
 (pG t).bind fun r1=>
 if(t.Op !=6)=true then
  (JQ ([t.Pred,p]:List aa)).bind fun r4=>
  some (⟨r1.Op,r1.Name,r1.Args,r1.Names,r4,r1.Preds⟩:ae)
 else
  some r1
theorem FH{t:ae}{p:aa}{r:ae}(h:CN t p=some r):CC Pg GE 20 [.agg (af t),.agg (ac p)] (.agg (af r)) [(2,30),(8,28)]:=by
 obtain⟨r1,br1,h⟩:=aw h
 have p3:=fun{sc F} (r:PS sc F)=>se (bQ t)<|se (bM p)<|sx jh<|sv (bh t)<|ba (qw br1)<|sx jh<|sy (aS r1)<|sv (aG t)<|sv (aJ t)<|r
 rcases aT h with⟨c2,h⟩|⟨c2,h⟩
 ·obtain⟨r4,br4,h⟩:=aw h
  obtain rfl:=lf h
  have z:=p3<|sg 0 c2<|sv (bU t)<|sv (bX t)<|sv (az p)<|sv (aR.mk' (v:=ce) aY ([t.Pred,p]:List aa) 2 (by kernel_rfl))<|ba (JR br4)<|sx (bv r4)<|sz (bz (⟨r1.Op,r1.Name,r1.Args,r1.Names,r4,r1.Preds⟩:ae) [])<|sy (aS (⟨r1.Op,r1.Name,r1.Args,r1.Names,r4,r1.Preds⟩:ae))<|en (aI (cR (⟨r1.Op,r1.Name,r1.Args,r1.Names,r4,r1.Preds⟩:ae))<|aI (al (⟨r1.Op,r1.Name,r1.Args,r1.Names,r4,r1.Preds⟩:ae))<|rT)
  exact b7 TM call20 func20 (c:=TV) rfl (aI (al t) (aI (ah p) trivial)) z<|by kernel_rfl
 ·obtain rfl:=lf h
  have z:=p3<|sg 0 c2<|sz (bz r1 [])<|sy (aS r1)<|en (aI (cR r1)<|aI (al r1)<|rT)
  exact b7 TM call20 func20 (c:=TV) rfl (aI (al t) (aI (ah p) trivial)) z<|by kernel_rfl
noncomputable def Sz:Code:=f25.body.getD .skip
def P1:List Nat:=[]
section
variable(name:ag)(t:ae)(t7:Int)(m:waC)(m2:waB)
def AO:av:=aN 24 [(1,.str name),(2,.eptr (af t)),(4,.bptr 1 0),(5,.int .i64 10),(7,.int .i64 t7)] [.dead,.cells [.int .i64 0,.str ([]:ag),sl af m,sl cS ([]:List ag),.int .i64 0,.str ([]:ag),.int .i64 0,sl ac m2,sl ac m2] [(2,30),(3,9),(7,28),(8,28)]] []
def iz(o:Bool):av:=aN 24 [(1,.str name),(2,.eptr (af t)),(4,.bptr 1 0),(5,.int .i64 10),(12,.bool o)] [.dead,.cells [.int .i64 0,.str ([]:ag),sl af m,sl cS ([]:List ag),.int .i64 0,.str ([]:ag),.int .i64 0,sl ac m2,sl ac m2] [(2,30),(3,9),(7,28),(8,28)]] []
def uh:Option Bool:=
 if(t7==1)=true then
  some (t7==1)
 else
  if(t7==3)=true then
   some (t7==3)
  else
   some (t7==4)
theorem ze{x:Bool}(h:uh t7=some x):aB Pg GE 0 (cA Sz 478) (EX .normal (iz name t m m2 x)) (AO name t t7 m m2):=by
 rcases aT h with⟨c3,h⟩|⟨c3,h⟩
 ·obtain rfl:=lf h
  exact co P1 (sg 0 c3<|eF .normal (iz name t m m2 (t7==1)))<|by kernel_rfl
 ·rcases aT h with⟨c4,h⟩|⟨c4,h⟩
  ·obtain rfl:=lf h
   exact co P1 (sg 0 c3<|sg 0 c4<|eF .normal (iz name t m m2 (t7==3)))<|by kernel_rfl
  ·obtain rfl:=lf h
   exact co P1 (sg 0 c3<|sg 0 c4<|eF .normal (iz name t m m2 (t7==4)))<|by kernel_rfl
end
section
variable(name:ag)(t:ae)(m:waC)(m2:waB)
def AN:av:=aN 24 [(1,.str name),(2,.eptr (af t)),(4,.bptr 1 0),(5,.int .i64 10)] [.dead,.cells [.int .i64 0,.str ([]:ag),sl af m,sl cS ([]:List ag),.int .i64 0,.str ([]:ag),.int .i64 0,sl ac m2,sl ac m2] [(2,30),(3,9),(7,28),(8,28)]] []
def iy(o:Int⊕(Int×ag×waC×waA×Int×ag×Int×waB×waB)):Exit:=match o with
 |(.inl _)=>.normal
 |(.inr _)=>.ret
def eg(o:Int⊕(Int×ag×waC×waA×Int×ag×Int×waB×waB)):av:=match o with
 |(.inl o)=>aN 24 [(1,.str name),(2,.eptr (af t)),(4,.bptr 1 0),(5,.int .i64 o)] [.dead,.cells [.int .i64 0,.str ([]:ag),sl af m,sl cS ([]:List ag),.int .i64 0,.str ([]:ag),.int .i64 0,sl ac m2,sl ac m2] [(2,30),(3,9),(7,28),(8,28)]] []
 |(.inr o)=>aN 24 [(4,.bptr 1 0)] [.dead,.cells [.int .i64 o.1,.str o.2.1,sl af o.2.2.1,sl cS o.2.2.2.1,.int .i64 o.2.2.2.2.1,.str o.2.2.2.2.2.1,.int .i64 o.2.2.2.2.2.2.1,sl ac o.2.2.2.2.2.2.2.1,sl ac o.2.2.2.2.2.2.2.2] [(2,30),(8,28)]] []
def ug:Option (Int⊕(Int×ag×waC×waA×Int×ag×Int×waB×waB)):=
 if(t.Op==2)=true then
  some (.inl 18)
 else
  (uh t.Op).bind fun o5=>
  if o5=true then
   some (.inl 10)
  else
   (pG t).bind fun r8=>
   some (.inr (r8.Op,r8.Name,r8.Args,r8.Names,r8.Pred.Op,r8.Pred.Name,r8.Pred.N,r8.Pred.Kids,r8.Preds))
theorem pF{x:Int⊕(Int×ag×waC×waA×Int×ag×Int×waB×waB)}(h:ug t=some x):aB Pg GE 0 (cA Sz 14) (EX (iy x) (eg name t m m2 x)) (AN name t m m2):=by
 have p2:=fun{sc F} (r:PS sc F)=>sv (aG t)<|sv (aJ t)<|r
 rcases aT h with⟨c1,h⟩|⟨c1,h⟩
 ·obtain rfl:=lf h
  exact co P1 (p2<|sg 0 c1<|eF (iy (.inl 18)) (eg name t m m2 (.inl 18)))<|by kernel_rfl
 ·obtain⟨o5,bo5,h⟩:=aw h
  have p7:=fun{sc F} (r:PS sc F)=>p2<|sg 0 c1<|kK 0<|cC (ze name t t.Op m m2 bo5)<|r
  rcases aT h with⟨c6,h⟩|⟨c6,h⟩
  ·obtain rfl:=lf h
   exact co P1 (p7<|sg 0 c6<|eF (iy (.inl 10)) (eg name t m m2 (.inl 10)))<|by kernel_rfl
  ·obtain⟨r8,br8,h⟩:=aw h
   obtain rfl:=lf h
   exact co P1 (p7<|sg 0 c6<|sv (bh t)<|ba (qw br8)<|sy (aS r8)<|eF (iy (.inr (r8.Op,r8.Name,r8.Args,r8.Names,r8.Pred.Op,r8.Pred.Name,r8.Pred.N,r8.Pred.Kids,r8.Preds))) (eg name t m m2 (.inr (r8.Op,r8.Name,r8.Args,r8.Names,r8.Pred.Op,r8.Pred.Name,r8.Pred.N,r8.Pred.Kids,r8.Preds))))<|by kernel_rfl
end
def AM(t:ae)(name:ag):Option ae:=
 (ug t).bind fun o9=>match o9 with
 |(.inl o9)=>
  (CN t (⟨o9,([]:ag),0,([(⟨3,([118]:ag),0,([]:List aa)⟩:aa),(⟨3,name,0,([]:List aa)⟩:aa)]:List aa)⟩:aa)).bind fun r10=>
  some r10
 |(.inr o9)=>
  some (⟨o9.1,o9.2.1,o9.2.2.1,o9.2.2.2.1,(⟨o9.2.2.2.2.1,o9.2.2.2.2.2.1,o9.2.2.2.2.2.2.1,o9.2.2.2.2.2.2.2.1⟩:aa),o9.2.2.2.2.2.2.2.2⟩:ae)
theorem DC{t:ae}{name:ag}{r:ae}(h:AM t name=some r):CC Pg GE 25 [.agg (af t),.str name] (.agg (af r)) [(2,30),(8,28)]:=by
 obtain⟨o9,bo9,h⟩:=aw h
 rcases o9 with o9|o9
 ·obtain⟨r10,br10,h⟩:=aw h
  obtain rfl:=lf h
  have z:=se (bQ t)<|sx jh<|kK 1<|cC (e:=.normal) (s1:=eg name t ([]:List ae) ([]:List aa) (.inl o9)) (pF name t ([]:List ae) ([]:List aa) bo9)<|sv (bh t)<|sb (lm 3 ([118]:ag)) (ll 3 ([118]:ag))<|sb (lm 3 name) (ll 3 name)<|sv (aR.mk' (v:=ce) aY ([(⟨3,([118]:ag),0,([]:List aa)⟩:aa),(⟨3,name,0,([]:List aa)⟩:aa)]:List aa) 2 (by kernel_rfl))<|sv (oe o9 ([(⟨3,([118]:ag),0,([]:List aa)⟩:aa),(⟨3,name,0,([]:List aa)⟩:aa)]:List aa))<|ba (FH br10)<|sy (aS r10)<|en (aI (cR r10)<|aI (al r10)<|rT)
  exact b7 P1 call25 func25 (c:=Sz) rfl (aI (al t) (aI trivial trivial)) z<|by kernel_rfl
 ·obtain rfl:=lf h
  have z:=se (bQ t)<|sx jh<|kK 1<|cC (e:=.ret) (s1:=eg name t ([]:List ae) ([]:List aa) (.inr o9)) (pF name t ([]:List ae) ([]:List aa) bo9)<|en (aI (cR (⟨o9.1,o9.2.1,o9.2.2.1,o9.2.2.2.1,(⟨o9.2.2.2.2.1,o9.2.2.2.2.2.1,o9.2.2.2.2.2.2.1,o9.2.2.2.2.2.2.2.1⟩:aa),o9.2.2.2.2.2.2.2.2⟩:ae))<|aI (al (⟨o9.1,o9.2.1,o9.2.2.1,o9.2.2.2.1,(⟨o9.2.2.2.2.1,o9.2.2.2.2.2.1,o9.2.2.2.2.2.2.1,o9.2.2.2.2.2.2.2.1⟩:aa),o9.2.2.2.2.2.2.2.2⟩:ae))<|rT)
  exact b7 P1 call25 func25 (c:=Sz) rfl (aI (al t) (aI trivial trivial)) z<|by kernel_rfl
abbrev mM:=(ae->Option Int)
abbrev qF(R:mM):Prop:=∀(t:ae) (r:Int),R t=some r->CC Pg GE 112 [.agg (af t)] (.int .i64 r) []
noncomputable def QA:Code:=f112.body.getD .skip
def Qk:List Nat:=[]
section
variable(R45:mM)(t7:waC)(t8:Int)(n:Int)(t9:Int)
def gn:av:=aN 20 [(3,.int .i64 n),(7,sl af t7),(8,.int .i64 t8),(9,.int .i64 t9)] [.dead] []
def mF(o:Int):av:=aN 20 [(3,.int .i64 o)] [.dead] []
def sE:Option ((Int×Int)⊕(Int)):=
 if(decide (t9<t8))=true then
  (dv t7 t9).bind fun x2=>
  (R45 x2).bind fun r3=>
  some (.inl ((if r3>n then r3 else n),bA (t9+1)))
 else
  some (.inr n)
def wg:Option Int:=loop (fun(zz:Int×Int)=>sE R45 t7 t8 zz.1 zz.2) (n,t9)
theorem zl(hR45:qF R45){y:(Int×Int)⊕(Int)}(h:sE R45 t7 t8 n t9=some y):aB Pg GE 0 (cA QA 119) (LQ (fun(zz:Int×Int)=>gn t7 t8 zz.1 zz.2) (fun _=>.exit 0) mF y) (gn t7 t8 n t9):=by
 rcases aT h with⟨c1,h⟩|⟨c1,h⟩
 ·obtain⟨x2,bx2,h⟩:=aw h
  obtain⟨r3,br3,h⟩:=aw h
  obtain rfl:=lf h
  have z:=sg 0 c1<|sv (d5.ia (k:=.i64) bx2)<|sv (bh x2)<|sx jh<|sx (db x2)<|sv (bz x2 [])<|ba (hR45 _ _ br3)<|pg 0 .normal (gn t7 t8 (if r3>n then r3 else n) (bA (t9+1))) rfl (cF (aI trivial (aI (up (am al t7)) (aI trivial (aI trivial trivial))))) (aI trivial trivial)
  exact cz (A:=Qk) mixed z<|by kernel_rfl
 ·obtain rfl:=lf h
  have z:=sg 0 c1<|eF (.exit 0) (mF n)
  exact gf Qk (by intro hx;cases hx) z<|by kernel_rfl
theorem A5(hR45:qF R45){x:Int}(h:wg R45 t7 t8 n t9=some x):aB Pg GE 0 (.loop (cA QA 119)) (EX (.exit 0) (mF x)) (gn t7 t8 n t9):=
 aB.loop (S:=fun(zz:Int×Int)=>gn t7 t8 zz.1 zz.2) (ex:=(fun _=>.exit 0)) (s:=(n,t9)) h fun zz y hy=>zl R45 t7 t8 zz.1 zz.2 hR45 hy
end
def xV(R45:mM)(t:ae):Option Int:=
 (wg R45 t.Args (t.Args.length:Int) 0 0).bind fun o4=>
 some (bA (o4+1))
theorem DG(R45:mM)(hR45:qF R45){t:ae}{r:Int}(h:xV R45 t=some r):CC Pg GE 112 [.agg (af t)] (.int .i64 r) []:=by
 obtain⟨o4,bo4,h⟩:=aw h
 obtain rfl:=lf h
 have z:=se (bQ t)<|sv (aK t)<|sv (aL t)<|cD (d5.ln t.Args)<|cC (A5 R45 t.Args (t.Args.length:Int) 0 0 hR45 bo4)<|en (aI (rP (.int .i64 (bA (o4+1))))<|trivial)
 exact b7 Qk call112 func112 (c:=QA) rfl (aI (al t) trivial) z<|by kernel_rfl
def xW:(ae->Option Int)->(ae)->Option Int:=fun(rec:ae->Option Int) (x:ae)=>xV (fun t=>rec t) x
def CS(t:ae):Option Int:=nw xW t
theorem F3{t:ae}{r:Int}(h:CS t=some r):CC Pg GE 112 [.agg (af t)] (.int .i64 r) []:=
 cT (F:=xW) (M:=fun(x:ae) (r:Int)=>CC Pg GE 112 [.agg (af x)] (.int .i64 r) []) (fun rec hrec x r h=>DG _ (fun t r h=>hrec t r h) h) h
abbrev nX:=(ae->Option Int)
abbrev sL(R:nX):Prop:=∀(t:ae) (r:Int),R t=some r->CC Pg GE 113 [.agg (af t)] (.int .i64 r) []
end Go.Proofs.YtggeppllafbidaaGreatDoor
