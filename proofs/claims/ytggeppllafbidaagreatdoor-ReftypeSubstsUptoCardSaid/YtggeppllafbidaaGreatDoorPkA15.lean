/- PROVED: parts of the proof (G3). Conditions: none. -/
import Derived.Test.YtggeppllafbidaaGreatDoorPkA14
noncomputable section
namespace Go.Proofs.YtggeppllafbidaaGreatDoor
open Go
set_option linter.unusedVariables false
set_option maxRecDepth 100000
def Tc:Code:=Tryz.f88.body.getD .skip
def Rw:List Nat:=[44,48,80]
section
variable(R18:bp)(t:ae)(t40:waC)(t41:Int)(m:waC)(m2:waB)(m3:Int)(m4:ag)(n:Nat)(m6:Int)(m7:ag)(m8:Int)(m9:waB)(m10:waB)(m11:waA)(m12:waB)(used:waA)(t42:Int)(w3:List ag)(m5:waC)(m13:waA)(m14:waB)
def aZ:av:=aN 99 [(3,.eptr (af t)),(4,.bptr 2 0),(5,.bptr 4 0),(7,sl cS used),(8,.bptr 6 0),(40,sl af t40),(41,.int .i64 t41),(42,.int .i64 t42)] [.dead,.dead,.cells [.int .i64 0,.str ([]:ag),sl af m,sl cS ([]:List ag),.int .i64 0,.str ([]:ag),.int .i64 0,sl ac m2,sl ac m2] [(2,30),(3,9),(7,28),(8,28)],.cells (lS cS w3) [],.cells [.int .i64 m3,.str m4,sl af m5,.bsl 3 0 n,.int .i64 m6,.str m7,.int .i64 m8,sl ac m9,sl ac m10] [(2,30)],.cells [sl cS m11,sl ac m12] [],.cells [sl cS m13,sl ac m14] []] [((7,0),9)]
def dl(o:List ag×waC×waA×waB):av:=aN 99 [(4,.bptr 2 0),(5,.bptr 4 0)] [.dead,.dead,.cells [.int .i64 0,.str ([]:ag),sl af m,sl cS ([]:List ag),.int .i64 0,.str ([]:ag),.int .i64 0,sl ac m2,sl ac m2] [(2,30),(3,9),(7,28),(8,28)],.cells (lS cS o.1) [],.cells [.int .i64 m3,.str m4,sl af o.2.1,.bsl 3 0 n,.int .i64 m6,.str m7,.int .i64 m8,sl ac m9,sl ac m10] [(2,30)],.cells [sl cS m11,sl ac m12] [],.cells [sl cS o.2.2.1,sl ac o.2.2.2] []] []
def aV:Option ((waA×Int×List ag×waC×waA×waB)⊕((List ag×waC×waA×waB))):=
 if (decide (t42 < t41)) = true then
  (dv t40 t42).bind fun x9=>
  (R18 (⟨m13,m14⟩:ai) x9).bind fun r10=>
  (app m5 ([r10]:List ae)).bind fun l11=>
  if(decide (t42>=(t.Names.length:Int)))=true then
   some (.inl (used,bA (t42+1),w3,l11,m13,m14))
  else
   (dv t.Names t42).bind fun x14=>
   (bw (⟨m13,m14⟩:ai) ([x14]:List ag)).bind fun r15=>
   (cW r15).bind fun r16=>
   (dL r16 x14).bind fun r17=>
   if r17=true then
    (ql used x14).bind fun r20=>
    (Nb n w3 t42).bind fun x21=>
    (Q6 w3 t42 r20).bind fun l22=>
    (Nb n l22 t42).bind fun x23=>
    (app used ([x23]:List ag)).bind fun l24=>
    (Nb n l22 t42).bind fun x25=>
    (cX r15 x14 (⟨3,x25,0,([]:List aa)⟩:aa)).bind fun r26=>
    some (.inl (l24,bA (t42+1),l22,l11,r26.names,r26.by_))
   else
    some (.inl (used,bA (t42+1),w3,l11,r15.names,r15.by_))
 else
  some (.inr (w3,m5,m13,m14))
def dF:Option ((List ag×waC×waA×waB)):=loop (fun(zz:waA×Int×List ag×waC×waA×waB)=>aV R18 t t40 t41 n zz.1 zz.2.1 zz.2.2.1 zz.2.2.2.1 zz.2.2.2.2.1 zz.2.2.2.2.2) (used,t42,w3,m5,m13,m14)
theorem jq(hR18:b6 R18){y:(waA×Int×List ag×waC×waA×waB)⊕((List ag×waC×waA×waB))}(h:aV R18 t t40 t41 n used t42 w3 m5 m13 m14=some y):
  aB Pg GE 0 (cA Tc 1015) (LQ (fun(zz:waA×Int×List ag×waC×waA×waB)=>aZ t t40 t41 m m2 m3 m4 n m6 m7 m8 m9 m10 m11 m12 zz.1 zz.2.1 zz.2.2.1 zz.2.2.2.1 zz.2.2.2.2.1 zz.2.2.2.2.2) (fun _=>.exit 0) (dl m m2 m3 m4 n m6 m7 m8 m9 m10 m11 m12) y) (aZ t t40 t41 m m2 m3 m4 n m6 m7 m8 m9 m10 m11 m12 used t42 w3 m5 m13 m14):=by
 rcases aT h with⟨c8,h⟩|⟨c8,h⟩
 ·obtain⟨x9,bx9,h⟩:=aw h
  obtain⟨r10,br10,h⟩:=aw h
  obtain⟨l11,bl11,h⟩:=aw h
  have p13:=fun{sc F} (r:PS sc F)=>sg 0 c8<|sv (d5.ia (k:=.i64) bx9)<|sv (bh x9)<|sx jh<|sx (db x9)<|rp [0,1,0,0,12,28,63,127,255]<|sv (bC (⟨m13,m14⟩:ai) [])<|sv (bz x9 [])<|ba (hR18 _ _ _ br10)<|sv (d5.mk' (v:=tR) oH ([r10]:List ae) 1 (by kernel_rfl))<|sv (d5.ap bl11)<|M0 (rfl:bR (sl af l11)=some [sl af l11])<|sv (aC t)<|sv (aD t)<|cD (aW.ln t.Names)<|r
  rcases aT h with⟨c12,h⟩|⟨c12,h⟩
  ·obtain rfl:=lf h
   have z:=p13<|sg 0 c12<|pg 0 .normal (aZ t t40 t41 m m2 m3 m4 n m6 m7 m8 m9 m10 m11 m12 used (bA (t42+1)) w3 l11 m13 m14) rfl (cF (aI (lq (al t)) (aI (cV rfl) (aI (cV rfl) (aI (up (am dS used)) (aI (cV rfl) (aI (up (am al t40)) (aI trivial (aI trivial trivial))))))))) (aI trivial (aI trivial (aI (aI trivial (aI trivial (aI (up (am al m)) (aI (up (am dS ([]:List ag))) (aI trivial (aI trivial (aI trivial (aI (up (am ah m2)) (aI (up (am ah m2)) trivial))))))))) (aI (OS _ dS w3) (aI (aI trivial (aI trivial (aI (up (am al l11)) (aI (cV rfl) (aI trivial (aI trivial (aI trivial (aI (up (am ah m9)) (aI (up (am ah m10)) trivial))))))))) (aI (aI (up (am dS m11)) (aI (up (am ah m12)) trivial)) (aI (aI (up (am dS m13)) (aI (up (am ah m14)) trivial)) trivial)))))))
   exact cz (A:=Rw) mixed z (by kernel_rfl)
  ·obtain⟨x14,bx14,h⟩:=aw h
   obtain⟨r15,br15,h⟩:=aw h
   obtain⟨r16,br16,h⟩:=aw h
   obtain⟨r17,br17,h⟩:=aw h
   have p19:=fun{sc F} (r:PS sc F)=>p13<|sg 0 c12<|sv (aC t)<|sv (aD t)<|sv (aW.ia (k:=.i64) bx14)<|sv (cP xe (.str x14) [])<|sv (bC (⟨m13,m14⟩:ai) [])<|sv (aW.mk' (v:=PVal.str) CE ([x14]:List ag) 1 (by kernel_rfl))<|ba (dP br15)<|sy (bK r15)<|sv (bC r15 [])<|ba (g9 br16)<|ba (e8 br17)<|r
   rcases aT h with⟨c18,h⟩|⟨c18,h⟩
   ·obtain⟨r20,br20,h⟩:=aw h
    obtain⟨x21,bx21,h⟩:=aw h
    obtain⟨l22,bl22,h⟩:=aw h
    obtain⟨x23,bx23,h⟩:=aw h
    obtain⟨l24,bl24,h⟩:=aw h
    obtain⟨x25,bx25,h⟩:=aw h
    obtain⟨r26,br26,h⟩:=aw h
    obtain rfl:=lf h
    have z:=p19<|sg 0 c18<|Tz (.dx [0,1,0,0,0,24,63,127] [] [] [3])<|ss<|ba (E1 br20)<|sv (aW.iaN 3 (k:=.i64) bx21)<|Uj (aW.stR (CE r20) bl22)<|ss<|sv (aW.iaN 3 (k:=.i64) bx23)<|sv (aW.ldN (fun r=>cP xe (.str x23) r) bx23)<|sv (aW.mk' (v:=PVal.str) CE ([x23]:List ag) 1 (by kernel_rfl))<|sv (aW.ap bl24)<|rp [0,0,0,4,0,28,60,124,255,511]<|sv (bC r15 [])<|ss<|sv (aW.iaN 3 (k:=.i64) bx25)<|sv (aW.ldN (fun r=>cP xe (.str x25) r) bx25)<|sb (lm 3 x25) (ll 3 x25)<|ba (hO br26)<|OG (dg r26)<|pg 0 .normal (aZ t t40 t41 m m2 m3 m4 n m6 m7 m8 m9 m10 m11 m12 l24 (bA (t42+1)) l22 l11 r26.names r26.by_) rfl (cF (aI (lq (al t)) (aI (cV rfl) (aI (cV rfl) (aI (up (am dS l24)) (aI (cV rfl) (aI (up (am al t40)) (aI trivial (aI trivial trivial))))))))) (aI trivial (aI trivial (aI (aI trivial (aI trivial (aI (up (am al m)) (aI (up (am dS ([]:List ag))) (aI trivial (aI trivial (aI trivial (aI (up (am ah m2)) (aI (up (am ah m2)) trivial))))))))) (aI (OS _ dS l22) (aI (aI trivial (aI trivial (aI (up (am al l11)) (aI (cV rfl) (aI trivial (aI trivial (aI trivial (aI (up (am ah m9)) (aI (up (am ah m10)) trivial))))))))) (aI (aI (up (am dS m11)) (aI (up (am ah m12)) trivial)) (aI (aI (up (am dS r26.names)) (aI (up (am ah r26.by_)) trivial)) trivial)))))))
    exact cz (A:=Rw) mixed z (by kernel_rfl)
   ·obtain rfl:=lf h
    have z:=p19<|sg 0 c18<|pg 0 .normal (aZ t t40 t41 m m2 m3 m4 n m6 m7 m8 m9 m10 m11 m12 used (bA (t42+1)) w3 l11 r15.names r15.by_) rfl (cF (aI (lq (al t)) (aI (cV rfl) (aI (cV rfl) (aI (up (am dS used)) (aI (cV rfl) (aI (up (am al t40)) (aI trivial (aI trivial trivial))))))))) (aI trivial (aI trivial (aI (aI trivial (aI trivial (aI (up (am al m)) (aI (up (am dS ([]:List ag))) (aI trivial (aI trivial (aI trivial (aI (up (am ah m2)) (aI (up (am ah m2)) trivial))))))))) (aI (OS _ dS w3) (aI (aI trivial (aI trivial (aI (up (am al l11)) (aI (cV rfl) (aI trivial (aI trivial (aI trivial (aI (up (am ah m9)) (aI (up (am ah m10)) trivial))))))))) (aI (aI (up (am dS m11)) (aI (up (am ah m12)) trivial)) (aI (aI (up (am dS r15.names)) (aI (up (am ah r15.by_)) trivial)) trivial)))))))
    exact cz (A:=Rw) mixed z (by kernel_rfl)
 ·obtain rfl:=lf h
  have z:=sg 0 c8<|eF (.exit 0) (dl m m2 m3 m4 n m6 m7 m8 m9 m10 m11 m12 (w3,m5,m13,m14))
  exact gf Rw (by intro hx;cases hx) z (by kernel_rfl)
theorem jV(hR18:b6 R18){x:(List ag×waC×waA×waB)}(h:dF R18 t t40 t41 n used t42 w3 m5 m13 m14=some x):
  aB Pg GE 0 (.loop (cA Tc 1015)) (EX (.exit 0) (dl m m2 m3 m4 n m6 m7 m8 m9 m10 m11 m12 x)) (aZ t t40 t41 m m2 m3 m4 n m6 m7 m8 m9 m10 m11 m12 used t42 w3 m5 m13 m14):=
 aB.loop (S:=fun(zz:waA×Int×List ag×waC×waA×waB)=>aZ t t40 t41 m m2 m3 m4 n m6 m7 m8 m9 m10 m11 m12 zz.1 zz.2.1 zz.2.2.1 zz.2.2.2.1 zz.2.2.2.2.1 zz.2.2.2.2.2) (ex:=(fun _=>.exit 0)) (s:=(used,t42,w3,m5,m13,m14)) h fun zz y hy=>jq R18 t t40 t41 m m2 m3 m4 n m6 m7 m8 m9 m10 m11 m12 zz.1 zz.2.1 zz.2.2.1 zz.2.2.2.1 zz.2.2.2.2.1 zz.2.2.2.2.2 hR18 hy
end
def d8(R18:bp)(s:ai)(t:ae):Option ae:=
 (vj t.Names).bind fun r1=>
 (cj s t.Pred).bind fun r2=>
 (iX t.Preds s).bind fun r3=>
 (cW s).bind fun r4=>
 (oq t).bind fun r5=>
 (app r4 r5).bind fun l6=>
 (app l6 t.Names).bind fun l7=>
 (dF R18 t t.Args (t.Args.length:Int) r1.length l7 0 r1 ([]:List ae) s.names s.by_).bind fun o27=>
 (QO r1.length o27.1).bind fun l28=>
 some (⟨t.Op,t.Name,o27.2.1,l28,r2,r3⟩:ae)
theorem lM(R18:bp)(hR18:b6 R18){s:ai}{t:ae}{r:ae}(h:d8 R18 s t=some r):CC Pg GE 88 [.agg (aq s),.agg (af t)] (.agg (af r)) [(2,30)]:=by
 obtain⟨r1,br1,h⟩:=aw h
 obtain⟨r2,br2,h⟩:=aw h
 obtain⟨r3,br3,h⟩:=aw h
 obtain⟨r4,br4,h⟩:=aw h
 obtain⟨r5,br5,h⟩:=aw h
 obtain⟨l6,bl6,h⟩:=aw h
 obtain⟨l7,bl7,h⟩:=aw h
 obtain⟨o27,bo27,h⟩:=aw h
 obtain⟨l28,bl28,h⟩:=aw h
 obtain rfl:=lf h
 have z:=se (cJ s)<|se (bQ t)<|sx jh<|Tz (.dx [0,1,0,4,0,16,48,0,0,256,1008,0,2048,0,8192,32752,65535,0,262143] [.cells (lS cS r1) []] [(6,3)] [])<|sv (aG t)<|sv (aJ t)<|sv (dc t)<|sv (dC t)<|sv (aC t)<|sv (aD t)<|Uh 3 9 (aW.cloneR G4 br1)<|sv (bL s)<|sv (bU t)<|sv (bX t)<|ba (ew br2)<|sv (bN t)<|sv (bO t)<|sv (bL s)<|ba (qx br3)<|sb (uw t.Op t.Name 3 r1.length r2 r3) (uv t.Op t.Name 3 r1.length r2 r3)<|OG (Vb [.int .i64 t.Op,.str t.Name,sl af ([]:List ae),.bsl 3 0 r1.length,.int .i64 r2.Op,.str r2.Name,.int .i64 r2.N,sl ac r2.Kids,sl ac r3])<|sv (bL s)<|sx K3<|sx (dg s)<|rp [0,1,0,7,15,0,32,127,255]<|sv (bC s [])<|ba (g9 br4)<|sv (bh t)<|ba (uf br5)<|sv (aW.ap bl6)<|sv (aC t)<|sv (aD t)<|sv (aW.ap bl7)<|sv (bL s)<|sx K3<|sx (dg s)<|sv (aK t)<|sv (aL t)<|cD (d5.ln t.Args)<|cC (jV R18 t t.Args (t.Args.length:Int) ([]:List ae) ([]:List aa) t.Op t.Name r1.length r2.Op r2.Name r2.N r2.Kids r3 s.names s.by_ l7 0 r1 ([]:List ae) s.names s.by_ hR18 bo27)<|SL 3 (l28.map cS) [4,5] [] (aW.fz1 (m:=0) (b:=3) rfl l28) (aW.fz2 3 l28) (T8 cS bl28)<|sf (GB 3 (p:=sl af ([]:List ae)) (am al ([]:List ae)))<|sf (GB 3 (p:=sl cS ([]:List ag)) (am dS ([]:List ag)))<|sf (GB 3 (p:=sl ac ([]:List aa)) (am ah ([]:List aa)))<|sf (GB 3 (p:=sl ac ([]:List aa)) (am ah ([]:List aa)))<|sf (GB 3 (p:=sl af o27.2.1) (am al o27.2.1))<|sf (T9 cS bl28)<|sf (GB 3 (p:=sl ac r2.Kids) (am ah r2.Kids))<|sf (GB 3 (p:=sl ac r3) (am ah r3))<|sf (GB 3 (p:=sl cS s.names) (am dS s.names))<|sf (GB 3 (p:=sl ac s.by_) (am ah s.by_))<|sf (GB 3 (p:=sl cS o27.2.2.1) (am dS o27.2.2.1))<|sf (GB 3 (p:=sl ac o27.2.2.2) (am ah o27.2.2.2))<|sz (bz (⟨t.Op,t.Name,o27.2.1,l28,r2,r3⟩:ae) [])<|sy (aS (⟨t.Op,t.Name,o27.2.1,l28,r2,r3⟩:ae))<|en (aI (cR (⟨t.Op,t.Name,o27.2.1,l28,r2,r3⟩:ae))<|aI (al (⟨t.Op,t.Name,o27.2.1,l28,r2,r3⟩:ae))<|rT)
 exact b7 Rw Tryz.call88 Tryz.func88 (c:=Tc) rfl (aI (aU s) (aI (al t) trivial)) z (by kernel_rfl)
def Ta:Code:=Tryz.f74.body.getD .skip
def SU:List Nat:=[14,21]
section
variable(R18:bp)(v:ai)(t8:waC)(t9:Int)(out:waC)(t10:Int)
def dQ:av:=aN 22 [(1,.func (.func 50) [.agg (aq v)] []),(5,sl af out),(8,sl af t8),(9,.int .i64 t9),(10,.int .i64 t10)] [] [((5,0),30)]
def iq(o:waC):av:=aN 22 [(5,sl af o)] [] [((5,0),30)]
def lZ:Option ((waC×Int)⊕(waC)):=
 if(decide (t10<t9))=true then
  (dv t8 t10).bind fun x2=>
  (R18 v x2).bind fun r3=>
  (app out ([r3]:List ae)).bind fun l4=>
  some (.inl (l4,bA (t10+1)))
 else
  some (.inr out)
def jo:Option waC:=loop (fun(zz:waC×Int)=>lZ R18 v t8 t9 zz.1 zz.2) (out,t10)
theorem sn(hR18:b6 R18){y:(waC×Int)⊕(waC)}(h:lZ R18 v t8 t9 out t10=some y):
  aB Pg GE 0 (cA Ta 119) (LQ (fun(zz:waC×Int)=>dQ v t8 t9 zz.1 zz.2) (fun _=>.exit 0) iq y) (dQ v t8 t9 out t10):=by
 rcases aT h with⟨c1,h⟩|⟨c1,h⟩
 ·obtain⟨x2,bx2,h⟩:=aw h
  obtain⟨r3,br3,h⟩:=aw h
  obtain⟨l4,bl4,h⟩:=aw h
  obtain rfl:=lf h
  have z:=sg 0 c1<|sv (d5.ia (k:=.i64) bx2)<|sv (bh x2)<|sx jh<|sx (db x2)<|sv (bz x2 [])<|ba (hR18 _ _ _ br3)<|sv (d5.mk' (v:=tR) oH ([r3]:List ae) 1 (by kernel_rfl))<|sv (d5.ap bl4)<|pg 0 .normal (dQ v t8 t9 l4 (bA (t10+1))) rfl (cF (aI (aI (aI (up (aU v)) trivial) trivial) (aI (up (am al l4)) (aI (up (am al t8)) (aI trivial (aI trivial trivial)))))) trivial
  exact cz (A:=SU) mixed z (by kernel_rfl)
 ·obtain rfl:=lf h
  have z:=sg 0 c1<|eF (.exit 0) (iq out)
  exact gf SU (by intro hx;cases hx) z (by kernel_rfl)
theorem tN(hR18:b6 R18){x:waC}(h:jo R18 v t8 t9 out t10=some x):
  aB Pg GE 0 (.loop (cA Ta 119)) (EX (.exit 0) (iq x)) (dQ v t8 t9 out t10):=
 aB.loop (S:=fun(zz:waC×Int)=>dQ v t8 t9 zz.1 zz.2) (ex:=(fun _=>.exit 0)) (s:=(out,t10)) h fun zz y hy=>sn R18 v t8 t9 zz.1 zz.2 hR18 hy
end
def mA(R18:bp)(a:waC)(c:ai):Option waC:=
 (jo R18 c a (a.length:Int) ([]:List ae) 0).bind fun o5=>
 some o5
theorem xa(R18:bp)(hR18:b6 R18){a:waC}{c:ai}{r:waC}(h:mA R18 a c=some r):CC Pg GE 74 [sl af a,.func (.func 50) [.agg (aq c)] []] (sl af r) [(0,30)]:=by
 obtain⟨o5,bo5,h⟩:=aw h
 obtain rfl:=lf h
 have z:=cD (d5.ln a)<|cC (tN R18 c a (a.length:Int) ([]:List ae) 0 hR18 bo5)<|en (aI (rP (sl af o5))<|(am al o5))
 exact b7 SU Tryz.call74 Tryz.func74 (c:=Ta) rfl (aI (am al a) (aI (aI (aI (aU c) trivial) trivial) trivial)) z (by kernel_rfl)
def TX:Code:=Tryz.f50.body.getD .skip
def TO:List Nat:=[]
def dG(R18:bp)(s:ai)(t:ae):Option ae:=
 if(t.Op==6)=true then
  (d8 R18 s t).bind fun r3=>
  some r3
 else
  (vj t.Names).bind fun r4=>
  (cj s t.Pred).bind fun r5=>
  (iX t.Preds s).bind fun r6=>
  (mA R18 t.Args s).bind fun r7=>
  some (⟨t.Op,t.Name,r7,r4,r5,r6⟩:ae)
theorem nD(R18:bp)(hR18:b6 R18){s:ai}{t:ae}{r:ae}(h:dG R18 s t=some r):CC Pg GE 50 [.agg (aq s),.agg (af t)] (.agg (af r)) [(2,30)]:=by
 have p2:=fun{sc F} (r:PS sc F)=>se (cJ s)<|se (bQ t)<|sx jh<|sv (aG t)<|sv (aJ t)<|r
 rcases aT h with⟨c1,h⟩|⟨c1,h⟩
 ·obtain⟨r3,br3,h⟩:=aw h
  obtain rfl:=lf h
  have z:=p2<|sg 0 c1<|sv (bL s)<|sv (bh t)<|ba (lM R18 hR18 br3)<|sy (aS r3)<|en (aI (cR r3)<|aI (al r3)<|rT)
  exact b7 TO Tryz.call50 Tryz.func50 (c:=TX) rfl (aI (aU s) (aI (al t) trivial)) z (by kernel_rfl)
 ·obtain⟨r4,br4,h⟩:=aw h
  obtain⟨r5,br5,h⟩:=aw h
  obtain⟨r6,br6,h⟩:=aw h
  obtain⟨r7,br7,h⟩:=aw h
  obtain rfl:=lf h
  have z:=p2<|sg 0 c1<|rp [0,1,0,4,0,16,48,0,0,256,1008,0,2048,0,8192,32752,65535,0,262143]<|sv (aG t)<|sv (aJ t)<|sv (dc t)<|sv (dC t)<|sv (aC t)<|sv (aD t)<|ba (KA br4)<|sv (bL s)<|sv (bU t)<|sv (bX t)<|ba (ew br5)<|sv (bN t)<|sv (bO t)<|sv (bL s)<|ba (qx br6)<|sb (yI t.Op t.Name r4 r5 r6) (yH t.Op t.Name r4 r5 r6)<|OG (db (⟨t.Op,t.Name,([]:List ae),r4,r5,r6⟩:ae))<|sv (aK t)<|sv (aL t)<|sv (bL s)<|ba (xa R18 hR18 br7)<|sz (bz (⟨t.Op,t.Name,r7,r4,r5,r6⟩:ae) [])<|sy (aS (⟨t.Op,t.Name,r7,r4,r5,r6⟩:ae))<|en (aI (cR (⟨t.Op,t.Name,r7,r4,r5,r6⟩:ae))<|aI (al (⟨t.Op,t.Name,r7,r4,r5,r6⟩:ae))<|rT)
  exact b7 TO Tryz.call50 Tryz.func50 (c:=TX) rfl (aI (aU s) (aI (al t) trivial)) z (by kernel_rfl)
def e7:((ai×ae)->Option ae)->(ai×ae)->Option ae:=fun(rec:(ai×ae)->Option ae) (x:ai×ae)=>dG (fun s t=>rec (s,t)) x.1 x.2
def fO(s:ai)(t:ae):Option ae:=nw e7 (s,t)
theorem ou{s:ai}{t:ae}{r:ae}(h:fO s t=some r):CC Pg GE 50 [.agg (aq s),.agg (af t)] (.agg (af r)) [(2,30)]:=
 cT (F:=e7) (M:=fun(x:ai×ae) (r:ae)=>CC Pg GE 50 [.agg (aq x.1),.agg (af x.2)] (.agg (af r)) [(2,30)]) (fun rec hrec x r h=>nD _ (fun s t r h=>hrec (s,t) r h) h) h
def UI:Code:=Tryz.f15.body.getD .skip
def Ut:List Nat:=[]
def dX(t:ae)(a:waA)(a2:waB):Option ae:=
 (IK a none (some (if(a2.length:Int)<(a.length:Int)then(a2.length:Int)else(a.length:Int)))).bind fun l1=>
 (IK a2 none (some (if(a2.length:Int)<(a.length:Int)then(a2.length:Int)else(a.length:Int)))).bind fun l2=>
 (bw (⟨l1,l2⟩:ai) ([([118]:ag)]:List ag)).bind fun r3=>
 (fO r3 t).bind fun r4=>
 some r4
theorem jn{t:ae}{a:waA}{a2:waB}{r:ae}(h:dX t a a2=some r):CC Pg GE 15 [.agg (af t),sl cS a,sl ac a2] (.agg (af r)) [(2,30)]:=by
 obtain⟨l1,bl1,h⟩:=aw h
 obtain⟨l2,bl2,h⟩:=aw h
 obtain⟨r3,br3,h⟩:=aw h
 obtain⟨r4,br4,h⟩:=aw h
 obtain rfl:=lf h
 have z:=se (bQ t)<|sx jh<|cD (aW.ln a)<|cD (aR.ln a2)<|rp [0,0,3,0,0,24,63,0,255,0,1023]<|sv (aW.sc bl1)<|sv (aR.sc bl2)<|sv (oc l1 l2)<|sv (aW.mk' (v:=PVal.str) CE ([([118]:ag)]:List ag) 1 (by kernel_rfl))<|ba (dP br3)<|OG (dg r3)<|sv (bC r3 [])<|sv (bh t)<|ba (ou br4)<|sy (aS r4)<|en (aI (cR r4)<|aI (al r4)<|rT)
 exact b7 Ut Tryz.call15 Tryz.func15 (c:=UI) rfl (aI (al t) (aI (am dS a) (aI (am ah a2) trivial))) z (by kernel_rfl)
def UG:Code:=Tryz.f13.body.getD .skip
def Ur:List Nat:=[]
def fN(t:ae)(name:ag)(a:aa):Option ae:=
 (dX t ([name]:List ag) ([a]:List aa)).bind fun r1=>
 some r1
theorem ji{t:ae}{name:ag}{a:aa}{r:ae}(h:fN t name a=some r):CC Pg GE 13 [.agg (af t),.str name,.agg (ac a)] (.agg (af r)) [(2,30)]:=by
 obtain⟨r1,br1,h⟩:=aw h
 obtain rfl:=lf h
 have z:=se (bQ t)<|se (bM a)<|sx jh<|sv (bh t)<|sv (aW.mk' (v:=PVal.str) CE ([name]:List ag) 1 (by kernel_rfl))<|sv (az a)<|sv (aR.mk' (v:=ce) aY ([a]:List aa) 1 (by kernel_rfl))<|ba (jn br1)<|sy (aS r1)<|en (aI (cR r1)<|aI (al r1)<|rT)
 exact b7 Ur Tryz.call13 Tryz.func13 (c:=UG) rfl (aI (al t) (aI trivial (aI (ah a) trivial))) z (by kernel_rfl)
def RN:Code:=Tryz.f18.body.getD .skip
def Qq:List Nat:=[28]
section
variable(args:waB)(t:ae)(m:waC)(m2:waB)
def y9:av:=aN 54 [(1,sl ac args),(2,.eptr (af t)),(4,.bptr 1 0)] [.dead,.cells [.int .i64 0,.str ([]:ag),sl af m,sl cS ([]:List ag),.int .i64 0,.str ([]:ag),.int .i64 0,sl ac m2,sl ac m2] [(2,30),(3,9),(7,28),(8,28)]] []
def kp(o:Bool):av:=aN 54 [(1,sl ac args),(2,.eptr (af t)),(4,.bptr 1 0),(20,.bool o)] [.dead,.cells [.int .i64 0,.str ([]:ag),sl af m,sl cS ([]:List ag),.int .i64 0,.str ([]:ag),.int .i64 0,sl ac m2,sl ac m2] [(2,30),(3,9),(7,28),(8,28)]] []
def sk:Option Bool:=
 if(t.Op !=6)=true then
  some true
 else
  some ((t.Args.length:Int)!=(bA ((args.length:Int)+1)))
theorem wV{x:Bool}(h:sk args t=some x):
  aB Pg GE 0 (cA RN 12) (EX .normal (kp args t m m2 x)) (y9 args t m m2):=by
 have p2:=fun{sc F} (r:PS sc F)=>sv (aG t)<|sv (aJ t)<|r
 rcases aT h with⟨c1,h⟩|⟨c1,h⟩
 ·obtain rfl:=lf h
  exact co Qq (p2<|sg 4 c1<|eF .normal (kp args t m m2 true)) (by kernel_rfl)
 ·obtain rfl:=lf h
  exact co Qq (p2<|sg 4 c1<|sv (aK t)<|sv (aL t)<|cD (d5.ln t.Args)<|cD (aR.ln args)<|eF .normal (kp args t m m2 ((t.Args.length:Int)!=(bA ((args.length:Int)+1))))) (by kernel_rfl)
end
section
variable(args:waB)(t:ae)(t24:waA)(t25:Int)(m:waC)(m2:waB)(t26:Int)(m3:waA)(m4:waB)
def dW:av:=aN 54 [(1,sl ac args),(2,.eptr (af t)),(4,.bptr 1 0),(6,.bptr 2 0),(24,sl cS t24),(25,.int .i64 t25),(26,.int .i64 t26)] [.dead,.cells [.int .i64 0,.str ([]:ag),sl af m,sl cS ([]:List ag),.int .i64 0,.str ([]:ag),.int .i64 0,sl ac m2,sl ac m2] [(2,30),(3,9),(7,28),(8,28)],.cells [sl cS m3,sl ac m4] [(0,9),(1,28)]] []
def kq(o:waA×waB):av:=aN 54 [(1,sl ac args),(2,.eptr (af t)),(4,.bptr 1 0),(6,.bptr 2 0)] [.dead,.cells [.int .i64 0,.str ([]:ag),sl af m,sl cS ([]:List ag),.int .i64 0,.str ([]:ag),.int .i64 0,sl ac m2,sl ac m2] [(2,30),(3,9),(7,28),(8,28)],.cells [sl cS o.1,sl ac o.2] [(0,9),(1,28)]] []
def pD:Option ((Int×waA×waB)⊕((waA×waB))):=
 if(decide (t26<t25))=true then
  (dv t24 t26).bind fun x7=>
  if(decide (t26<(args.length:Int)))=true then
   (dv args t26).bind fun x10=>
   (cX (⟨m3,m4⟩:ai) x7 x10).bind fun r11=>
   some (.inl (bA (t26+1),r11.names,r11.by_))
  else
   some (.inl (bA (t26+1),m3,m4))
 else
  some (.inr (m3,m4))
def sm:Option ((waA×waB)):=loop (fun(zz:Int×waA×waB)=>pD args t24 t25 zz.1 zz.2.1 zz.2.2) (t26,m3,m4)
theorem vS{y:(Int×waA×waB)⊕((waA×waB))}(h:pD args t24 t25 t26 m3 m4=some y):
  aB Pg GE 0 (cA RN 247) (LQ (fun(zz:Int×waA×waB)=>dW args t t24 t25 m m2 zz.1 zz.2.1 zz.2.2) (fun _=>.exit 0) (kq args t m m2) y) (dW args t t24 t25 m m2 t26 m3 m4):=by
 rcases aT h with⟨c6,h⟩|⟨c6,h⟩
 ·obtain⟨x7,bx7,h⟩:=aw h
  have p9:=fun{sc F} (r:PS sc F)=>sg 0 c6<|sv (aW.ia (k:=.i64) bx7)<|sv (cP xe (.str x7) [])<|cD (aR.ln args)<|r
  rcases aT h with⟨c8,h⟩|⟨c8,h⟩
  ·obtain⟨x10,bx10,h⟩:=aw h
   obtain⟨r11,br11,h⟩:=aw h
   obtain rfl:=lf h
   exact rY Qq (p9<|sg 0 c8<|rp [0,0,0,0,12,28,63,127]<|sv (bC (⟨m3,m4⟩:ai) [])<|sv (aR.ia (k:=.i64) bx10)<|sv (az x10)<|ba (hO br11)<|OG (dg r11)<|eF .normal (dW args t t24 t25 m m2 (bA (t26+1)) r11.names r11.by_)) (by kernel_rfl)
  ·obtain rfl:=lf h
   exact rY Qq (p9<|sg 0 c8<|eF .normal (dW args t t24 t25 m m2 (bA (t26+1)) m3 m4)) (by kernel_rfl)
 ·obtain rfl:=lf h
  have z:=sg 0 c6<|eF (.exit 0) (kq args t m m2 (m3,m4))
  exact gf Qq (by intro hx;cases hx) z (by kernel_rfl)
theorem wW{x:(waA×waB)}(h:sm args t24 t25 t26 m3 m4=some x):
  aB Pg GE 0 (.loop (cA RN 247)) (EX (.exit 0) (kq args t m m2 x)) (dW args t t24 t25 m m2 t26 m3 m4):=
 aB.loop (S:=fun(zz:Int×waA×waB)=>dW args t t24 t25 m m2 zz.1 zz.2.1 zz.2.2) (ex:=(fun _=>.exit 0)) (s:=(t26,m3,m4)) h fun zz y hy=>vS args t t24 t25 m m2 zz.1 zz.2.1 zz.2.2 hy
end
def xN(t:ae)(args:waB):Option (ae×Int):=
 (sk args t).bind fun o3=>
 if o3=true then
  some ((⟨0,([]:ag),([]:List ae),([]:List ag),(⟨0,([]:ag),0,([]:List aa)⟩:aa),([]:List aa)⟩:ae),13)
 else
  (sm args t.Names (t.Names.length:Int) 0 ([]:List ag) ([]:List aa)).bind fun o12=>
  (dv t.Args (args.length:Int)).bind fun x13=>
  (dX x13 o12.1 o12.2).bind fun r14=>
  some (r14,0)
theorem B5{t:ae}{args:waB}{r:ae×Int}(h:xN t args=some r):CC Pg GE 18 [.agg (af t),sl ac args] (.tuple [.agg (af r.1),.int .i64 r.2]) []:=by
 obtain⟨o3,bo3,h⟩:=aw h
 have p5:=fun{sc F} (r:PS sc F)=>se (bQ t)<|sx jh<|kK 1<|cC (wV args t ([]:List ae) ([]:List aa) bo3)<|r
 rcases aT h with⟨c4,h⟩|⟨c4,h⟩
 ·obtain rfl:=lf h
  have z:=p5<|sg 0 c4<|sb (Ku) (Ks)<|sy (aS (⟨0,([]:ag),([]:List ae),([]:List ag),(⟨0,([]:ag),0,([]:List aa)⟩:aa),([]:List aa)⟩:ae))<|en (aI (vbr PVal.tuple (Lq (cR (⟨0,([]:ag),([]:List ae),([]:List ag),(⟨0,([]:ag),0,([]:List aa)⟩:aa),([]:List aa)⟩:ae)) (Lq (rP (.int .i64 13)) (rfl:([]:List PVal)=[]))))<|(aI (al (⟨0,([]:ag),([]:List ae),([]:List ag),(⟨0,([]:ag),0,([]:List aa)⟩:aa),([]:List aa)⟩:ae)) (aI trivial trivial)))
  exact b7 Qq Tryz.call18 Tryz.func18 (c:=RN) rfl (aI (al t) (aI (am ah args) trivial)) z (by kernel_rfl)
 ·obtain⟨o12,bo12,h⟩:=aw h
  obtain⟨x13,bx13,h⟩:=aw h
  obtain⟨r14,br14,h⟩:=aw h
  obtain rfl:=lf h
  have z:=p5<|sg 0 c4<|sb (pP) (pO)<|sx K3<|sy (bK (⟨([]:List ag),([]:List aa)⟩:ai))<|sv (aC t)<|sv (aD t)<|cD (aW.ln t.Names)<|cC (wW args t t.Names (t.Names.length:Int) ([]:List ae) ([]:List aa) 0 ([]:List ag) ([]:List aa) bo12)<|rp [0,1,0,4,15,31,0,64,0,256,1023,2047,4095]<|sv (aK t)<|sv (aL t)<|cD (aR.ln args)<|sv (d5.ia (k:=.i64) bx13)<|sv (bh x13)<|ss<|ss<|ba (jn br14)<|OG (db r14)<|en (aI (vbr PVal.tuple (Lq (cR r14) (Lq (rP (.int .i64 0)) (rfl:([]:List PVal)=[]))))<|(aI (al r14) (aI trivial trivial)))
  exact b7 Qq Tryz.call18 Tryz.func18 (c:=RN) rfl (aI (al t) (aI (am ah args) trivial)) z (by kernel_rfl)
abbrev jL:=(ae->waA->waC->Option ae)
abbrev mH(R:jL):Prop:=∀(t:ae) (a:waA) (a2:waC) (r:ae),R t a a2=some r->CC Pg GE 95 [.agg (af t),sl cS a,sl af a2] (.agg (af r)) [(2,30),(8,28)]
def Pd:Code:=Tryz.f122.body.getD .skip
def OY:List Nat:=[]
def zm(p:aa):Option Bool:=
 if (p.Op == 0) = true then
  if(p.Name==([]:ag))=true then
   if(p.N==0)=true then
    some ((p.Kids.length:Int)==0)
   else
    some false
  else
   some false
 else
  some false
theorem ye{p:aa}{r:Bool}(h:zm p=some r):CC Pg GE 122 [.agg (ac p)] (.bool r) []:=by
 have p2:=fun{sc F} (r:PS sc F)=>se (bM p)<|sv (aP p)<|sv (aQ p)<|r
 rcases aT h with⟨c1,h⟩|⟨c1,h⟩
 ·have p4:=fun{sc F} (r:PS sc F)=>p2<|sg 4 c1<|sv (bT p)<|sv (cm p)<|r
  rcases aT h with⟨c3,h⟩|⟨c3,h⟩
  ·have p6:=fun{sc F} (r:PS sc F)=>p4<|sg 9 c3<|sv (cf p)<|sv (cp p)<|r
   rcases aT h with⟨c5,h⟩|⟨c5,h⟩
   ·obtain rfl:=lf h
    have z:=p6<|sg 14 c5<|sv (aF p)<|sv (aH p)<|cD (aR.ln p.Kids)<|en (aI (rP (.bool ((p.Kids.length:Int)==0)))<|trivial)
    exact b7 OY Tryz.call122 Tryz.func122 (c:=Pd) rfl (aI (ah p) trivial) z (by kernel_rfl)
   ·obtain rfl:=lf h
    have z:=p6<|sg 14 c5<|en (aI (rP (.bool false))<|trivial)
    exact b7 OY Tryz.call122 Tryz.func122 (c:=Pd) rfl (aI (ah p) trivial) z (by kernel_rfl)
  ·obtain rfl:=lf h
   have z:=p4<|sg 9 c3<|en (aI (rP (.bool false))<|trivial)
   exact b7 OY Tryz.call122 Tryz.func122 (c:=Pd) rfl (aI (ah p) trivial) z (by kernel_rfl)
 ·obtain rfl:=lf h
  have z:=p2<|sg 4 c1<|en (aI (rP (.bool false))<|trivial)
  exact b7 OY Tryz.call122 Tryz.func122 (c:=Pd) rfl (aI (ah p) trivial) z (by kernel_rfl)
abbrev nY:=(aa->Option aa)
abbrev sM(R:nY):Prop:=∀(p:aa) (r:aa),R p=some r->CC Pg GE 123 [.agg (ac p)] (.agg (ac r)) [(3,28)]
def QC:Code:=Tryz.f123.body.getD .skip
def Qm:List Nat:=[21]
section
variable(R36:nY)(t14:waB)(t15:Int)(m:waB)(m2:Int)(m3:ag)(m4:Int)(t16:Int)(m5:waB)
def ic:av:=aN 29 [(2,.bptr 1 0),(3,.bptr 2 0),(14,sl ac t14),(15,.int .i64 t15),(16,.int .i64 t16)] [.dead,.cells [.int .i64 0,.str ([]:ag),.int .i64 0,sl ac m] [(3,28)],.cells [.int .i64 m2,.str m3,.int .i64 m4,sl ac m5] [(3,28)]] []
def nJ(o:waB):av:=aN 29 [(2,.bptr 1 0),(3,.bptr 2 0)] [.dead,.cells [.int .i64 0,.str ([]:ag),.int .i64 0,sl ac m] [(3,28)],.cells [.int .i64 m2,.str m3,.int .i64 m4,sl ac o] [(3,28)]] []
def ut:Option ((Int×waB)⊕(waB)):=
 if(decide (t16<t15))=true then
  (dv t14 t16).bind fun x2=>
  (R36 x2).bind fun r3=>
  (app m5 ([r3]:List aa)).bind fun l4=>
  some (.inl (bA (t16+1),l4))
 else
  some (.inr m5)
def yd:Option waB:=loop (fun(zz:Int×waB)=>ut R36 t14 t15 zz.1 zz.2) (t16,m5)
theorem Be(hR36:sM R36){y:(Int×waB)⊕(waB)}(h:ut R36 t14 t15 t16 m5=some y):
  aB Pg GE 0 (cA QC 119) (LQ (fun(zz:Int×waB)=>ic t14 t15 m m2 m3 m4 zz.1 zz.2) (fun _=>.exit 0) (nJ m m2 m3 m4) y) (ic t14 t15 m m2 m3 m4 t16 m5):=by
 rcases aT h with⟨c1,h⟩|⟨c1,h⟩
 ·obtain⟨x2,bx2,h⟩:=aw h
  obtain⟨r3,br3,h⟩:=aw h
  obtain⟨l4,bl4,h⟩:=aw h
  obtain rfl:=lf h
  have z:=sg 0 c1<|sv (aR.ia (k:=.i64) bx2)<|sv (az x2)<|sx eX<|sx (bv x2)<|rp [0,1,0,4,12,31,63,127]<|sv (aX x2 [])<|ba (hR36 _ _ br3)<|sv (aR.mk' (v:=ce) aY ([r3]:List aa) 1 (by kernel_rfl))<|sv (aR.ap bl4)<|M0 (rfl:bR (sl ac l4)=some [sl ac l4])<|pg 0 .normal (ic t14 t15 m m2 m3 m4 (bA (t16+1)) l4) rfl (cF (aI (cV rfl) (aI (cV rfl) (aI (up (am ah t14)) (aI trivial (aI trivial trivial)))))) (aI trivial (aI (aI trivial (aI trivial (aI trivial (aI (up (am ah m)) trivial)))) (aI (aI trivial (aI trivial (aI trivial (aI (up (am ah l4)) trivial)))) trivial)))
  exact cz (A:=Qm) mixed z (by kernel_rfl)
 ·obtain rfl:=lf h
  have z:=sg 0 c1<|eF (.exit 0) (nJ m m2 m3 m4 m5)
  exact gf Qm (by intro hx;cases hx) z (by kernel_rfl)
theorem Cl(hR36:sM R36){x:waB}(h:yd R36 t14 t15 t16 m5=some x):
  aB Pg GE 0 (.loop (cA QC 119)) (EX (.exit 0) (nJ m m2 m3 m4 x)) (ic t14 t15 m m2 m3 m4 t16 m5):=
 aB.loop (S:=fun(zz:Int×waB)=>ic t14 t15 m m2 m3 m4 zz.1 zz.2) (ex:=(fun _=>.exit 0)) (s:=(t16,m5)) h fun zz y hy=>Be R36 t14 t15 m m2 m3 m4 zz.1 zz.2 hR36 hy
end
def Bb(R36:nY)(p:aa):Option aa:=
 (yd R36 p.Kids (p.Kids.length:Int) 0 ([]:List aa)).bind fun o5=>
 some (⟨p.Op,p.Name,p.N,o5⟩:aa)
theorem F6(R36:nY)(hR36:sM R36){p:aa}{r:aa}(h:Bb R36 p=some r):CC Pg GE 123 [.agg (ac p)] (.agg (ac r)) [(3,28)]:=by
 obtain⟨o5,bo5,h⟩:=aw h
 obtain rfl:=lf h
 have z:=se (bM p)<|sx eX<|sv (aP p)<|sv (aQ p)<|sv (bT p)<|sv (cm p)<|sv (cf p)<|sv (cp p)<|sb (pd p.Op p.Name p.N) (pb p.Op p.Name p.N)<|sx eX<|sy (aE (⟨p.Op,p.Name,p.N,([]:List aa)⟩:aa))<|sv (aF p)<|sv (aH p)<|cD (aR.ln p.Kids)<|cC (Cl R36 p.Kids (p.Kids.length:Int) ([]:List aa) p.Op p.Name p.N 0 ([]:List aa) hR36 bo5)<|sz (aX (⟨p.Op,p.Name,p.N,o5⟩:aa) [])<|sy (aE (⟨p.Op,p.Name,p.N,o5⟩:aa))<|en (aI (cQ (⟨p.Op,p.Name,p.N,o5⟩:aa))<|aI (ah (⟨p.Op,p.Name,p.N,o5⟩:aa))<|rT)
 exact b7 Qm Tryz.call123 Tryz.func123 (c:=QC) rfl (aI (ah p) trivial) z (by kernel_rfl)
def Bd:(aa->Option aa)->(aa)->Option aa:=fun(rec:aa->Option aa) (x:aa)=>Bb (fun p=>rec p) x
def pM(p:aa):Option aa:=nw Bd p
theorem mT{p:aa}{r:aa}(h:pM p=some r):CC Pg GE 123 [.agg (ac p)] (.agg (ac r)) [(3,28)]:=
 cT (F:=Bd) (M:=fun(x:aa) (r:aa)=>CC Pg GE 123 [.agg (ac x)] (.agg (ac r)) [(3,28)]) (fun rec hrec x r h=>F6 _ (fun p r h=>hrec p r h) h) h
end Go.Proofs.YtggeppllafbidaaGreatDoor
