/- PROVED: a part of the proof. Conditions: none. -/
import Derived.Test.YtbaamopmfmpfaaaGreatDoorPkC13
noncomputable section
namespace Go.Proofs.YtbaamopmfmpfaaaGreatDoor
open Go Go.Proofs.Tryz
set_option linter.unusedVariables false
set_option maxRecDepth 100000
noncomputable def N3:Code:=f152.body.getD .skip
def I0:List Nat:=[33,44,61]
section
variable(t:ae)(t18:waB)(t19:Int)(t20:Int)(t25:waA)(t26:Int)(m:Int)(m2:ag)(m3:Int)(m4:waB)(out:waA)(t27:Int)
def fE:az:=aY 69 [(1,.eptr (af t)),(3,sl cS out),(18,sl ac t18),(19,.int .i64 t19),(20,.int .i64 t20),(25,sl cS t25),(26,.int .i64 t26),(27,.int .i64 t27)] [.dead,.cells [.int .i64 m,.str m2,.int .i64 m3,sl ac m4] []] [((25,0),9),((18,0),36),((3,0),9)]
def oR(o:waA):az:=aY 69 [(1,.eptr (af t)),(3,sl cS o),(18,sl ac t18),(19,.int .i64 t19),(20,.int .i64 t20)] [.dead,.cells [.int .i64 m,.str m2,.int .i64 m3,sl ac m4] []] [((18,0),36),((3,0),9)]
def u9:Option ((waA×Int)⊕(waA)):=
 if(decide (t27<t26))=true then
  (cR t25 t27).bind fun x6=>
  if(!(x6==([118]:ag)))=true then
   (app out ([x6]:List ag)).bind fun l9=>
   some (.inl (l9,aR (t27+1)))
  else
   some (.inl (out,aR (t27+1)))
 else
  some (.inr out)
def jD:Option waA:=loop (fun(zz:waA×Int)=>u9 t25 t26 zz.1 zz.2) (out,t27)
theorem Cl{y:(waA×Int)⊕(waA)}(h:u9 t25 t26 out t27=some y):aT Pg GE 0 (cA N3 30687) (LQ (fun(zz:waA×Int)=>fE t t18 t19 t20 t25 t26 m m2 m3 m4 zz.1 zz.2) (fun _=>.exit 2) (oR t t18 t19 t20 m m2 m3 m4) y) (fE t t18 t19 t20 t25 t26 m m2 m3 m4 out t27):=by
 rcases aZ h with⟨c5,h⟩|⟨c5,h⟩
 ·obtain⟨x6,bx6,h⟩:=aB h
  have p8:=fun{sc F} (r:PS sc F)=>sg 0 c5<|sv (bJ.ia (k:=.i64) bx6)<|sv (im Mo (.str x6) [])<|r
  rcases aZ h with⟨c7,h⟩|⟨c7,h⟩
  ·obtain⟨l9,bl9,h⟩:=aB h
   obtain rfl:=lf h
   exact rU I0 (p8<|sg 0 c7<|sv (bJ.mk' (v:=PVal.str) KI ([x6]:List ag) 1 (by kernel_rfl))<|sv (bJ.ap bl9)<|eF .normal (fE t t18 t19 t20 t25 t26 m m2 m3 m4 l9 (aR (t27+1))))<|by kernel_rfl
  ·obtain rfl:=lf h
   exact rU I0 (p8<|sg 0 c7<|eF .normal (fE t t18 t19 t20 t25 t26 m m2 m3 m4 out (aR (t27+1))))<|by kernel_rfl
 ·obtain rfl:=lf h
  have z:=sg 0 c5<|eF (.exit 2) (oR t t18 t19 t20 m m2 m3 m4 out)
  exact i7 I0 (by intro hx;cases hx) z<|by kernel_rfl
theorem DT{x:waA}(h:jD t25 t26 out t27=some x):aT Pg GE 0 (.loop (cA N3 30687)) (EX (.exit 2) (oR t t18 t19 t20 m m2 m3 m4 x)) (fE t t18 t19 t20 t25 t26 m m2 m3 m4 out t27):=
 aT.loop (S:=fun(zz:waA×Int)=>fE t t18 t19 t20 t25 t26 m m2 m3 m4 zz.1 zz.2) (ex:=(fun _=>.exit 2)) (s:=(out,t27)) h fun zz y hy=>Cl t t18 t19 t20 t25 t26 m m2 m3 m4 zz.1 zz.2 hy
end
section
variable(t:ae)(t18:waB)(t19:Int)(out:waA)(t20:Int)
def g9:az:=aY 69 [(1,.eptr (af t)),(3,sl cS out),(18,sl ac t18),(19,.int .i64 t19),(20,.int .i64 t20)] [.dead] [((18,0),36),((3,0),9)]
def oQ(o:waA):az:=aY 69 [(1,.eptr (af t)),(3,sl cS o)] [.dead] [((3,0),9)]
def u7:Option ((waA×Int)⊕(waA)):=
 if(decide (t20<t19))=true then
  (cR t18 t20).bind fun x3=>
  (pO x3).bind fun r4=>
  (jD r4 (r4.length:Int) out 0).bind fun o10=>
  some (.inl (o10,aR (t20+1)))
 else
  some (.inr out)
def rG:Option waA:=loop (fun(zz:waA×Int)=>u7 t18 t19 zz.1 zz.2) (out,t20)
theorem Ck{y:(waA×Int)⊕(waA)}(h:u7 t18 t19 out t20=some y):aT Pg GE 0 (cA N3 119) (LQ (fun(zz:waA×Int)=>g9 t t18 t19 zz.1 zz.2) (fun _=>.exit 0) (oQ t) y) (g9 t t18 t19 out t20):=by
 rcases aZ h with⟨c2,h⟩|⟨c2,h⟩
 ·obtain⟨x3,bx3,h⟩:=aB h
  obtain⟨r4,br4,h⟩:=aB h
  obtain⟨o10,bo10,h⟩:=aB h
  obtain rfl:=lf h
  have z:=sg 0 c2<|sv (ck.ia (k:=.i64) bx3)<|sv (be x3)<|sx lC<|sx (dn x3)<|sv (cm x3 [])<|bT (Fc br4)<|cz (bJ.ln r4)<|di (DT t t18 t19 t20 r4 (r4.length:Int) x3.Op x3.Name x3.N x3.Kids out 0 bo10)<|zn 0 .normal (g9 t t18 t19 o10 (aR (t20+1))) rfl (eg (aI (oA (av t)) (aI (up (aq gG o10)) (aI (up (aq ah t18)) (aI trivial (aI trivial trivial)))))) (aI trivial trivial)
  exact dS (A:=I0) mixed z<|by kernel_rfl
 ·obtain rfl:=lf h
  have z:=sg 0 c2<|eF (.exit 0) (oQ t out)
  exact i7 I0 (by intro hx;cases hx) z<|by kernel_rfl
theorem DS{x:waA}(h:rG t18 t19 out t20=some x):aT Pg GE 0 (.loop (cA N3 119)) (EX (.exit 0) (oQ t x)) (g9 t t18 t19 out t20):=
 aT.loop (S:=fun(zz:waA×Int)=>g9 t t18 t19 zz.1 zz.2) (ex:=(fun _=>.exit 0)) (s:=(out,t20)) h fun zz y hy=>Ck t t18 t19 zz.1 zz.2 hy
end
section
variable(t:ae)(bound:waA)(t40:waC)(t41:Int)(t42:Int)(t51:waA)(t52:Int)(m:Int)(m2:ag)(m3:waC)(m4:waA)(m5:Int)(m6:ag)(m7:Int)(m8:waB)(m9:waB)(out:waA)(t53:Int)
def fF:az:=aY 69 [(1,.eptr (af t)),(3,sl cS out),(10,sl cS bound),(40,sl af t40),(41,.int .i64 t41),(42,.int .i64 t42),(51,sl cS t51),(52,.int .i64 t52),(53,.int .i64 t53)] [.dead,.cells [.int .i64 m,.str m2,sl af m3,sl cS m4,.int .i64 m5,.str m6,.int .i64 m7,sl ac m8,sl ac m9] []] [((51,0),9),((3,0),9)]
def oT(o:waA):az:=aY 69 [(1,.eptr (af t)),(3,sl cS o),(40,sl af t40),(41,.int .i64 t41),(42,.int .i64 t42)] [.dead,.cells [.int .i64 m,.str m2,sl af m3,sl cS m4,.int .i64 m5,.str m6,.int .i64 m7,sl ac m8,sl ac m9] []] [((3,0),9)]
def vb:Option ((waA×Int)⊕(waA)):=
 if(decide (t53<t52))=true then
  (cR t51 t53).bind fun x17=>
  (eH bound x17).bind fun r18=>
  if(!r18)=true then
   (app out ([x17]:List ag)).bind fun l21=>
   some (.inl (l21,aR (t53+1)))
  else
   some (.inl (out,aR (t53+1)))
 else
  some (.inr out)
def jE:Option waA:=loop (fun(zz:waA×Int)=>vb bound t51 t52 zz.1 zz.2) (out,t53)
theorem Cn{y:(waA×Int)⊕(waA)}(h:vb bound t51 t52 out t53=some y):aT Pg GE 0 (cA N3 126911) (LQ (fun(zz:waA×Int)=>fF t bound t40 t41 t42 t51 t52 m m2 m3 m4 m5 m6 m7 m8 m9 zz.1 zz.2) (fun _=>.exit 6) (oT t t40 t41 t42 m m2 m3 m4 m5 m6 m7 m8 m9) y) (fF t bound t40 t41 t42 t51 t52 m m2 m3 m4 m5 m6 m7 m8 m9 out t53):=by
 rcases aZ h with⟨c16,h⟩|⟨c16,h⟩
 ·obtain⟨x17,bx17,h⟩:=aB h
  obtain⟨r18,br18,h⟩:=aB h
  have p20:=fun{sc F} (r:PS sc F)=>sg 0 c16<|sv (bJ.ia (k:=.i64) bx17)<|sv (im Mo (.str x17) [])<|bT (gB br18)<|r
  rcases aZ h with⟨c19,h⟩|⟨c19,h⟩
  ·obtain⟨l21,bl21,h⟩:=aB h
   obtain rfl:=lf h
   exact rU I0 (p20<|sg 0 c19<|sv (bJ.mk' (v:=PVal.str) KI ([x17]:List ag) 1 (by kernel_rfl))<|sv (bJ.ap bl21)<|eF .normal (fF t bound t40 t41 t42 t51 t52 m m2 m3 m4 m5 m6 m7 m8 m9 l21 (aR (t53+1))))<|by kernel_rfl
  ·obtain rfl:=lf h
   exact rU I0 (p20<|sg 0 c19<|eF .normal (fF t bound t40 t41 t42 t51 t52 m m2 m3 m4 m5 m6 m7 m8 m9 out (aR (t53+1))))<|by kernel_rfl
 ·obtain rfl:=lf h
  have z:=sg 0 c16<|eF (.exit 6) (oT t t40 t41 t42 m m2 m3 m4 m5 m6 m7 m8 m9 out)
  exact i7 I0 (by intro hx;cases hx) z<|by kernel_rfl
theorem DV{x:waA}(h:jE bound t51 t52 out t53=some x):aT Pg GE 0 (.loop (cA N3 126911)) (EX (.exit 6) (oT t t40 t41 t42 m m2 m3 m4 m5 m6 m7 m8 m9 x)) (fF t bound t40 t41 t42 t51 t52 m m2 m3 m4 m5 m6 m7 m8 m9 out t53):=
 aT.loop (S:=fun(zz:waA×Int)=>fF t bound t40 t41 t42 t51 t52 m m2 m3 m4 m5 m6 m7 m8 m9 zz.1 zz.2) (ex:=(fun _=>.exit 6)) (s:=(out,t53)) h fun zz y hy=>Cn t bound t40 t41 t42 t51 t52 m m2 m3 m4 m5 m6 m7 m8 m9 zz.1 zz.2 hy
end
section
variable(R69:oh)(t:ae)(t40:waC)(t41:Int)(out:waA)(t42:Int)
def hO:az:=aY 69 [(1,.eptr (af t)),(3,sl cS out),(40,sl af t40),(41,.int .i64 t41),(42,.int .i64 t42)] [.dead] [((3,0),9)]
def oS(o:waA):az:=aY 69 [(3,sl cS o)] [.dead] [((3,0),9)]
def va:Option ((waA×Int)⊕(waA)):=
 if(decide (t42<t41))=true then
  (cR t40 t42).bind fun x13=>
  (kS t t42).bind fun r14=>
  (R69 x13).bind fun r15=>
  (jE r14 r15 (r15.length:Int) out 0).bind fun o22=>
  some (.inl (o22,aR (t42+1)))
 else
  some (.inr out)
def rH:Option waA:=loop (fun(zz:waA×Int)=>va R69 t t40 t41 zz.1 zz.2) (out,t42)
theorem Cm(hR69:sW R69){y:(waA×Int)⊕(waA)}(h:va R69 t t40 t41 out t42=some y):aT Pg GE 0 (cA N3 247) (LQ (fun(zz:waA×Int)=>hO t t40 t41 zz.1 zz.2) (fun _=>.exit 4) oS y) (hO t t40 t41 out t42):=by
 rcases aZ h with⟨c12,h⟩|⟨c12,h⟩
 ·obtain⟨x13,bx13,h⟩:=aB h
  obtain⟨r14,br14,h⟩:=aB h
  obtain⟨r15,br15,h⟩:=aB h
  obtain⟨o22,bo22,h⟩:=aB h
  obtain rfl:=lf h
  have z:=sg 0 c12<|sv (cX.ia (k:=.i64) bx13)<|sv (bw x13)<|sx Bn<|sx (iT x13)<|sv (bw t)<|bT (Fm br14)<|sv (dj x13 [])<|bT (hR69 _ _ br15)<|cz (bJ.ln r15)<|di (DV t r14 t40 t41 t42 r15 (r15.length:Int) x13.Op x13.Name x13.Args x13.Names x13.Pred.Op x13.Pred.Name x13.Pred.N x13.Pred.Kids x13.Preds out 0 bo22)<|zn 0 .normal (hO t t40 t41 o22 (aR (t42+1))) rfl (eg (aI (oA (av t)) (aI (up (aq gG o22)) (aI (up (aq av t40)) (aI trivial (aI trivial trivial)))))) (aI trivial trivial)
  exact dS (A:=I0) mixed z<|by kernel_rfl
 ·obtain rfl:=lf h
  have z:=sg 0 c12<|eF (.exit 4) (oS out)
  exact i7 I0 (by intro hx;cases hx) z<|by kernel_rfl
theorem DU(hR69:sW R69){x:waA}(h:rH R69 t t40 t41 out t42=some x):aT Pg GE 0 (.loop (cA N3 247)) (EX (.exit 4) (oS x)) (hO t t40 t41 out t42):=
 aT.loop (S:=fun(zz:waA×Int)=>hO t t40 t41 zz.1 zz.2) (ex:=(fun _=>.exit 4)) (s:=(out,t42)) h fun zz y hy=>Cm R69 t t40 t41 zz.1 zz.2 hR69 hy
end
def oP(R69:oh)(t:ae):Option waA:=
 (app ([t.Pred]:List aa) t.Preds).bind fun l1=>
 (rG l1 (l1.length:Int) ([]:List ag) 0).bind fun o11=>
 (rH R69 t t.Args (t.Args.length:Int) o11 0).bind fun o23=>
 (nM o23 ([]:List ag)).bind fun r24=>
 some r24
theorem GO(R69:oh)(hR69:sW R69){t:ae}{r:waA}(h:oP R69 t=some r):CC Pg GE 152 [.agg (af t)] (sl cS r) [(0,9)]:=by
 obtain⟨l1,bl1,h⟩:=aB h
 obtain⟨o11,bo11,h⟩:=aB h
 obtain⟨o23,bo23,h⟩:=aB h
 obtain⟨r24,br24,h⟩:=aB h
 obtain rfl:=lf h
 have z:=se (cF t)<|sv (d8 t)<|sv (d9 t)<|sv (ck.mk' (v:=fe) dl ([t.Pred]:List aa) 1 (by kernel_rfl))<|sv (dJ t)<|sv (dM t)<|sv (ck.ap bl1)<|cz (ck.ln l1)<|di (DS t l1 (l1.length:Int) ([]:List ag) 0 bo11)<|sv (aW t)<|sv (aX t)<|cz (cX.ln t.Args)<|di (DU R69 t t.Args (t.Args.length:Int) o11 0 hR69 bo23)<|bT (A2 br24)<|en (aI (rP (sl cS r24))<|(aq gG r24))
 exact cn I0 call152 func152 (c:=N3) rfl (aI (av t) trivial) z<|by kernel_rfl
def ue:(ae->Option waA)->(ae)->Option waA:=fun(rec:ae->Option waA) (x:ae)=>oP (fun t=>rec t) x
def yJ(t:ae):Option waA:=oG ue t
theorem IE{t:ae}{r:waA}(h:yJ t=some r):CC Pg GE 152 [.agg (af t)] (sl cS r) [(0,9)]:=
 cU (F:=ue) (M:=fun(x:ae) (r:waA)=>CC Pg GE 152 [.agg (af x)] (sl cS r) [(0,9)]) (fun rec hrec x r h=>GO _ (fun t r h=>hrec t r h) h) h
noncomputable def qcy:Code:=f153.body.getD .skip
def qck:List Nat:=[13,19]
def eN(s:ai)(name:ag)(a:aa):Option ai:=
 (bQ s ([name]:List ag)).bind fun r1=>
 (app r1.names ([name]:List ag)).bind fun l2=>
 (app r1.by_ ([a]:List aa)).bind fun l3=>
 some (⟨l2,l3⟩:ai)
theorem rJ{s:ai}{name:ag}{a:aa}{r:ai}(h:eN s name a=some r):CC Pg GE 153 [.agg (aw s),.str name,.agg (ac a)] (.agg (aw r)) [(0,9),(1,36)]:=by
 obtain⟨r1,br1,h⟩:=aB h
 obtain⟨l2,bl2,h⟩:=aB h
 obtain⟨l3,bl3,h⟩:=aB h
 obtain rfl:=lf h
 have z:=se (dm s)<|se (cr a)<|sx Ni<|sv (ch s)<|sv (bJ.mk' (v:=PVal.str) KI ([name]:List ag) 1 (by kernel_rfl))<|bT (eL br1)<|sx Ni<|sy (cy r1)<|sv (bJ.mk' (v:=PVal.str) KI ([name]:List ag) 1 (by kernel_rfl))<|sv (bJ.ap bl2)<|sv (be a)<|sv (ck.mk' (v:=fe) dl ([a]:List aa) 1 (by kernel_rfl))<|sv (ck.ap bl3)<|sz (cp (⟨l2,l3⟩:ai) [])<|sy (cy (⟨l2,l3⟩:ai))<|en (aI (mT (⟨l2,l3⟩:ai))<|aI (bm (⟨l2,l3⟩:ai))<|rT)
 exact cn qck call153 func153 (c:=qcy) rfl (aI (bm s) (aI trivial (aI (ah a) trivial))) z<|by kernel_rfl
noncomputable def Zz:Code:=f138.body.getD .skip
def Vf:List Nat:=[44,48,80]
section
variable(R61:bN)(t:ae)(t40:waC)(t41:Int)(m:waC)(m2:waB)(m3:Int)(m4:ag)(n:Nat)(m6:Int)(m7:ag)(m8:Int)(m9:waB)(m10:waB)(m11:waA)(m12:waB)(used:waA)(t42:Int)(w3:List ag)(m5:waC)(m13:waA)(m14:waB)
def bF:az:=aY 99 [(3,.eptr (af t)),(4,.bptr 2 0),(5,.bptr 4 0),(7,sl cS used),(8,.bptr 6 0),(40,sl af t40),(41,.int .i64 t41),(42,.int .i64 t42)] [.dead,.dead,.cells [.int .i64 0,.str ([]:ag),sl af m,sl cS ([]:List ag),.int .i64 0,.str ([]:ag),.int .i64 0,sl ac m2,sl ac m2] [(2,38),(3,9),(7,36),(8,36)],.cells (wy cS w3) [],.cells [.int .i64 m3,.str m4,sl af m5,.bsl 3 0 n,.int .i64 m6,.str m7,.int .i64 m8,sl ac m9,sl ac m10] [(2,38)],.cells [sl cS m11,sl ac m12] [],.cells [sl cS m13,sl ac m14] []] [((7,0),9)]
def dU(o:List ag×waC×waA×waB):az:=aY 99 [(4,.bptr 2 0),(5,.bptr 4 0)] [.dead,.dead,.cells [.int .i64 0,.str ([]:ag),sl af m,sl cS ([]:List ag),.int .i64 0,.str ([]:ag),.int .i64 0,sl ac m2,sl ac m2] [(2,38),(3,9),(7,36),(8,36)],.cells (wy cS o.1) [],.cells [.int .i64 m3,.str m4,sl af o.2.1,.bsl 3 0 n,.int .i64 m6,.str m7,.int .i64 m8,sl ac m9,sl ac m10] [(2,38)],.cells [sl cS m11,sl ac m12] [],.cells [sl cS o.2.2.1,sl ac o.2.2.2] []] []
def bo:Option ((waA×Int×List ag×waC×waA×waB)⊕((List ag×waC×waA×waB))):=
 if (decide (t42 < t41)) = true then
  (cR t40 t42).bind fun x9=>
  (R61 (⟨m13,m14⟩:ai) x9).bind fun r10=>
  (app m5 ([r10]:List ae)).bind fun l11=>
  if(decide (t42>=(t.Names.length:Int)))=true then
   some (.inl (used,aR (t42+1),w3,l11,m13,m14))
  else
   (cR t.Names t42).bind fun x14=>
   (bQ (⟨m13,m14⟩:ai) ([x14]:List ag)).bind fun r15=>
   (dD r15).bind fun r16=>
   (eH r16 x14).bind fun r17=>
   if r17=true then
    (kO used x14).bind fun r20=>
    (Vc n w3 t42).bind fun x21=>
    (qae w3 t42 r20).bind fun l22=>
    (Vc n l22 t42).bind fun x23=>
    (app used ([x23]:List ag)).bind fun l24=>
    (Vc n l22 t42).bind fun x25=>
    (eN r15 x14 (⟨3,x25,0,([]:List aa)⟩:aa)).bind fun r26=>
    some (.inl (l24,aR (t42+1),l22,l11,r26.names,r26.by_))
   else
    some (.inl (used,aR (t42+1),w3,l11,r15.names,r15.by_))
 else
  some (.inr (w3,m5,m13,m14))
def er:Option ((List ag×waC×waA×waB)):=loop (fun(zz:waA×Int×List ag×waC×waA×waB)=>bo R61 t t40 t41 n zz.1 zz.2.1 zz.2.2.1 zz.2.2.2.1 zz.2.2.2.2.1 zz.2.2.2.2.2) (used,t42,w3,m5,m13,m14)
theorem lX(hR61:cx R61){y:(waA×Int×List ag×waC×waA×waB)⊕((List ag×waC×waA×waB))}(h:bo R61 t t40 t41 n used t42 w3 m5 m13 m14=some y):aT Pg GE 0 (cA Zz 1015) (LQ (fun(zz:waA×Int×List ag×waC×waA×waB)=>bF t t40 t41 m m2 m3 m4 n m6 m7 m8 m9 m10 m11 m12 zz.1 zz.2.1 zz.2.2.1 zz.2.2.2.1 zz.2.2.2.2.1 zz.2.2.2.2.2) (fun _=>.exit 0) (dU m m2 m3 m4 n m6 m7 m8 m9 m10 m11 m12) y) (bF t t40 t41 m m2 m3 m4 n m6 m7 m8 m9 m10 m11 m12 used t42 w3 m5 m13 m14):=by
 rcases aZ h with⟨c8,h⟩|⟨c8,h⟩
 ·obtain⟨x9,bx9,h⟩:=aB h
  obtain⟨r10,br10,h⟩:=aB h
  obtain⟨l11,bl11,h⟩:=aB h
  have p13:=fun{sc F} (r:PS sc F)=>sg 0 c8<|sv (cX.ia (k:=.i64) bx9)<|sv (bw x9)<|sx Bn<|sx (iT x9)<|qX [0,1,0,0,12,28,63,127,255]<|sv (cp (⟨m13,m14⟩:ai) [])<|sv (dj x9 [])<|bT (hR61 _ _ _ br10)<|sv (cX.mk' (v:=lE) gm ([r10]:List ae) 1 (by kernel_rfl))<|sv (cX.ap bl11)<|W6 (rfl:bO (sl af l11)=some [sl af l11])<|sv (bh t)<|sv (bj t)<|cz (bJ.ln t.Names)<|r
  rcases aZ h with⟨c12,h⟩|⟨c12,h⟩
  ·obtain rfl:=lf h
   have z:=p13<|sg 0 c12<|zn 0 .normal (bF t t40 t41 m m2 m3 m4 n m6 m7 m8 m9 m10 m11 m12 used (aR (t42+1)) w3 l11 m13 m14) rfl (eg (aI (oA (av t)) (aI (d6 rfl) (aI (d6 rfl) (aI (up (aq gG used)) (aI (d6 rfl) (aI (up (aq av t40)) (aI trivial (aI trivial trivial))))))))) (aI trivial (aI trivial (aI (aI trivial (aI trivial (aI (up (aq av m)) (aI (up (aq gG ([]:List ag))) (aI trivial (aI trivial (aI trivial (aI (up (aq ah m2)) (aI (up (aq ah m2)) trivial))))))))) (aI (qcb _ gG w3) (aI (aI trivial (aI trivial (aI (up (aq av l11)) (aI (d6 rfl) (aI trivial (aI trivial (aI trivial (aI (up (aq ah m9)) (aI (up (aq ah m10)) trivial))))))))) (aI (aI (up (aq gG m11)) (aI (up (aq ah m12)) trivial)) (aI (aI (up (aq gG m13)) (aI (up (aq ah m14)) trivial)) trivial)))))))
   exact dS (A:=Vf) mixed z<|by kernel_rfl
  ·obtain⟨x14,bx14,h⟩:=aB h
   obtain⟨r15,br15,h⟩:=aB h
   obtain⟨r16,br16,h⟩:=aB h
   obtain⟨r17,br17,h⟩:=aB h
   have p19:=fun{sc F} (r:PS sc F)=>p13<|sg 0 c12<|sv (bh t)<|sv (bj t)<|sv (bJ.ia (k:=.i64) bx14)<|sv (im Mo (.str x14) [])<|sv (cp (⟨m13,m14⟩:ai) [])<|sv (bJ.mk' (v:=PVal.str) KI ([x14]:List ag) 1 (by kernel_rfl))<|bT (eL br15)<|sy (cy r15)<|sv (cp r15 [])<|bT (jF br16)<|bT (gB br17)<|r
   rcases aZ h with⟨c18,h⟩|⟨c18,h⟩
   ·obtain⟨r20,br20,h⟩:=aB h
    obtain⟨x21,bx21,h⟩:=aB h
    obtain⟨l22,bl22,h⟩:=aB h
    obtain⟨x23,bx23,h⟩:=aB h
    obtain⟨l24,bl24,h⟩:=aB h
    obtain⟨x25,bx25,h⟩:=aB h
    obtain⟨r26,br26,h⟩:=aB h
    obtain rfl:=lf h
    have z:=p19<|sg 0 c18<|qce (.dx [0,1,0,0,0,24,63,127] [] [] [3])<|ss<|bT (tV br20)<|sv (bJ.iaN 3 (k:=.i64) bx21)<|qdw (bJ.stR (KI r20) bl22)<|ss<|sv (bJ.iaN 3 (k:=.i64) bx23)<|sv (bJ.ldN (fun r=>im Mo (.str x23) r) bx23)<|sv (bJ.mk' (v:=PVal.str) KI ([x23]:List ag) 1 (by kernel_rfl))<|sv (bJ.ap bl24)<|qX [0,0,0,4,0,28,60,124,255,511]<|sv (cp r15 [])<|ss<|sv (bJ.iaN 3 (k:=.i64) bx25)<|sv (bJ.ldN (fun r=>im Mo (.str x25) r) bx25)<|sb (ou 3 x25) (oq 3 x25)<|bT (rJ br26)<|Yw (fc r26)<|zn 0 .normal (bF t t40 t41 m m2 m3 m4 n m6 m7 m8 m9 m10 m11 m12 l24 (aR (t42+1)) l22 l11 r26.names r26.by_) rfl (eg (aI (oA (av t)) (aI (d6 rfl) (aI (d6 rfl) (aI (up (aq gG l24)) (aI (d6 rfl) (aI (up (aq av t40)) (aI trivial (aI trivial trivial))))))))) (aI trivial (aI trivial (aI (aI trivial (aI trivial (aI (up (aq av m)) (aI (up (aq gG ([]:List ag))) (aI trivial (aI trivial (aI trivial (aI (up (aq ah m2)) (aI (up (aq ah m2)) trivial))))))))) (aI (qcb _ gG l22) (aI (aI trivial (aI trivial (aI (up (aq av l11)) (aI (d6 rfl) (aI trivial (aI trivial (aI trivial (aI (up (aq ah m9)) (aI (up (aq ah m10)) trivial))))))))) (aI (aI (up (aq gG m11)) (aI (up (aq ah m12)) trivial)) (aI (aI (up (aq gG r26.names)) (aI (up (aq ah r26.by_)) trivial)) trivial)))))))
    exact dS (A:=Vf) mixed z<|by kernel_rfl
   ·obtain rfl:=lf h
    have z:=p19<|sg 0 c18<|zn 0 .normal (bF t t40 t41 m m2 m3 m4 n m6 m7 m8 m9 m10 m11 m12 used (aR (t42+1)) w3 l11 r15.names r15.by_) rfl (eg (aI (oA (av t)) (aI (d6 rfl) (aI (d6 rfl) (aI (up (aq gG used)) (aI (d6 rfl) (aI (up (aq av t40)) (aI trivial (aI trivial trivial))))))))) (aI trivial (aI trivial (aI (aI trivial (aI trivial (aI (up (aq av m)) (aI (up (aq gG ([]:List ag))) (aI trivial (aI trivial (aI trivial (aI (up (aq ah m2)) (aI (up (aq ah m2)) trivial))))))))) (aI (qcb _ gG w3) (aI (aI trivial (aI trivial (aI (up (aq av l11)) (aI (d6 rfl) (aI trivial (aI trivial (aI trivial (aI (up (aq ah m9)) (aI (up (aq ah m10)) trivial))))))))) (aI (aI (up (aq gG m11)) (aI (up (aq ah m12)) trivial)) (aI (aI (up (aq gG r15.names)) (aI (up (aq ah r15.by_)) trivial)) trivial)))))))
    exact dS (A:=Vf) mixed z<|by kernel_rfl
 ·obtain rfl:=lf h
  have z:=sg 0 c8<|eF (.exit 0) (dU m m2 m3 m4 n m6 m7 m8 m9 m10 m11 m12 (w3,m5,m13,m14))
  exact i7 Vf (by intro hx;cases hx) z<|by kernel_rfl
theorem mR(hR61:cx R61){x:(List ag×waC×waA×waB)}(h:er R61 t t40 t41 n used t42 w3 m5 m13 m14=some x):aT Pg GE 0 (.loop (cA Zz 1015)) (EX (.exit 0) (dU m m2 m3 m4 n m6 m7 m8 m9 m10 m11 m12 x)) (bF t t40 t41 m m2 m3 m4 n m6 m7 m8 m9 m10 m11 m12 used t42 w3 m5 m13 m14):=
 aT.loop (S:=fun(zz:waA×Int×List ag×waC×waA×waB)=>bF t t40 t41 m m2 m3 m4 n m6 m7 m8 m9 m10 m11 m12 zz.1 zz.2.1 zz.2.2.1 zz.2.2.2.1 zz.2.2.2.2.1 zz.2.2.2.2.2) (ex:=(fun _=>.exit 0)) (s:=(used,t42,w3,m5,m13,m14)) h fun zz y hy=>lX R61 t t40 t41 m m2 m3 m4 n m6 m7 m8 m9 m10 m11 m12 zz.1 zz.2.1 zz.2.2.1 zz.2.2.2.1 zz.2.2.2.2.1 zz.2.2.2.2.2 hR61 hy
end
def fy(R61:bN)(s:ai)(t:ae):Option ae:=
 (lP t.Names).bind fun r1=>
 (cH s t.Pred).bind fun r2=>
 (kT t.Preds s).bind fun r3=>
 (dD s).bind fun r4=>
 (yJ t).bind fun r5=>
 (app r4 r5).bind fun l6=>
 (app l6 t.Names).bind fun l7=>
 (er R61 t t.Args (t.Args.length:Int) r1.length l7 0 r1 ([]:List ae) s.names s.by_).bind fun o27=>
 (Y2 r1.length o27.1).bind fun l28=>
 some (⟨t.Op,t.Name,o27.2.1,l28,r2,r3⟩:ae)
theorem oW(R61:bN)(hR61:cx R61){s:ai}{t:ae}{r:ae}(h:fy R61 s t=some r):CC Pg GE 138 [.agg (aw s),.agg (af t)] (.agg (af r)) [(2,38)]:=by
 obtain⟨r1,br1,h⟩:=aB h
 obtain⟨r2,br2,h⟩:=aB h
 obtain⟨r3,br3,h⟩:=aB h
 obtain⟨r4,br4,h⟩:=aB h
 obtain⟨r5,br5,h⟩:=aB h
 obtain⟨l6,bl6,h⟩:=aB h
 obtain⟨l7,bl7,h⟩:=aB h
 obtain⟨o27,bo27,h⟩:=aB h
 obtain⟨l28,bl28,h⟩:=aB h
 obtain rfl:=lf h
 have z:=se (dm s)<|se (cF t)<|sx Bn<|qce (.dx [0,1,0,4,0,16,48,0,0,256,1008,0,2048,0,8192,32752,65535,0,262143] [.cells (wy cS r1) []] [(6,3)] [])<|sv (aK t)<|sv (aL t)<|sv (df t)<|sv (dA t)<|sv (bh t)<|sv (bj t)<|qdv 3 9 (bJ.cloneR MJ br1)<|sv (ch s)<|sv (d8 t)<|sv (d9 t)<|bT (fM br2)<|sv (dJ t)<|sv (dM t)<|sv (ch s)<|bT (vd br3)<|sb (zg t.Op t.Name 3 r1.length r2 r3) (ze t.Op t.Name 3 r1.length r2 r3)<|Yw (qea [.int .i64 t.Op,.str t.Name,sl af ([]:List ae),.bsl 3 0 r1.length,.int .i64 r2.Op,.str r2.Name,.int .i64 r2.N,sl ac r2.Kids,sl ac r3])<|sv (ch s)<|sx Ni<|sx (fc s)<|qX [0,1,0,7,15,0,32,127,255]<|sv (cp s [])<|bT (jF br4)<|sv (bw t)<|bT (IE br5)<|sv (bJ.ap bl6)<|sv (bh t)<|sv (bj t)<|sv (bJ.ap bl7)<|sv (ch s)<|sx Ni<|sx (fc s)<|sv (aW t)<|sv (aX t)<|cz (cX.ln t.Args)<|di (mR R61 t t.Args (t.Args.length:Int) ([]:List ae) ([]:List aa) t.Op t.Name r1.length r2.Op r2.Name r2.N r2.Kids r3 s.names s.by_ l7 0 r1 ([]:List ae) s.names s.by_ hR61 bo27)<|qbH 3 (l28.map cS) [4,5] [] (bJ.fz1 (m:=0) (b:=3) rfl l28) (bJ.fz2 3 l28) (qcM cS bl28)<|sf (Vd 3 (p:=sl af ([]:List ae)) (aq av ([]:List ae)))<|sf (Vd 3 (p:=sl cS ([]:List ag)) (aq gG ([]:List ag)))<|sf (Vd 3 (p:=sl ac ([]:List aa)) (aq ah ([]:List aa)))<|sf (Vd 3 (p:=sl ac ([]:List aa)) (aq ah ([]:List aa)))<|sf (Vd 3 (p:=sl af o27.2.1) (aq av o27.2.1))<|sf (qcN cS bl28)<|sf (Vd 3 (p:=sl ac r2.Kids) (aq ah r2.Kids))<|sf (Vd 3 (p:=sl ac r3) (aq ah r3))<|sf (Vd 3 (p:=sl cS s.names) (aq gG s.names))<|sf (Vd 3 (p:=sl ac s.by_) (aq ah s.by_))<|sf (Vd 3 (p:=sl cS o27.2.2.1) (aq gG o27.2.2.1))<|sf (Vd 3 (p:=sl ac o27.2.2.2) (aq ah o27.2.2.2))<|sz (dj (⟨t.Op,t.Name,o27.2.1,l28,r2,r3⟩:ae) [])<|sy (bk (⟨t.Op,t.Name,o27.2.1,l28,r2,r3⟩:ae))<|en (aI (pV (⟨t.Op,t.Name,o27.2.1,l28,r2,r3⟩:ae))<|aI (av (⟨t.Op,t.Name,o27.2.1,l28,r2,r3⟩:ae))<|rT)
 exact cn Vf call138 func138 (c:=Zz) rfl (aI (bm s) (aI (av t) trivial)) z<|by kernel_rfl
noncomputable def ZB:Code:=f141.body.getD .skip
def Zl:List Nat:=[14,21]
section
variable(R61:bN)(v:ai)(t8:waC)(t9:Int)(out:waC)(t10:Int)
def eQ:az:=aY 22 [(1,.func (.func 120) [.agg (aw v)] []),(5,sl af out),(8,sl af t8),(9,.int .i64 t9),(10,.int .i64 t10)] [] [((5,0),38)]
def j7(o:waC):az:=aY 22 [(5,sl af o)] [] [((5,0),38)]
def pn:Option ((waC×Int)⊕(waC)):=
 if(decide (t10<t9))=true then
  (cR t8 t10).bind fun x2=>
  (R61 v x2).bind fun r3=>
  (app out ([r3]:List ae)).bind fun l4=>
  some (.inl (l4,aR (t10+1)))
 else
  some (.inr out)
def lV:Option waC:=loop (fun(zz:waC×Int)=>pn R61 v t8 t9 zz.1 zz.2) (out,t10)
theorem xk(hR61:cx R61){y:(waC×Int)⊕(waC)}(h:pn R61 v t8 t9 out t10=some y):aT Pg GE 0 (cA ZB 119) (LQ (fun(zz:waC×Int)=>eQ v t8 t9 zz.1 zz.2) (fun _=>.exit 0) j7 y) (eQ v t8 t9 out t10):=by
 rcases aZ h with⟨c1,h⟩|⟨c1,h⟩
 ·obtain⟨x2,bx2,h⟩:=aB h
  obtain⟨r3,br3,h⟩:=aB h
  obtain⟨l4,bl4,h⟩:=aB h
  obtain rfl:=lf h
  have z:=sg 0 c1<|sv (cX.ia (k:=.i64) bx2)<|sv (bw x2)<|sx Bn<|sx (iT x2)<|sv (dj x2 [])<|bT (hR61 _ _ _ br3)<|sv (cX.mk' (v:=lE) gm ([r3]:List ae) 1 (by kernel_rfl))<|sv (cX.ap bl4)<|zn 0 .normal (eQ v t8 t9 l4 (aR (t10+1))) rfl (eg (aI (aI (aI (up (bm v)) trivial) trivial) (aI (up (aq av l4)) (aI (up (aq av t8)) (aI trivial (aI trivial trivial)))))) trivial
  exact dS (A:=Zl) mixed z<|by kernel_rfl
 ·obtain rfl:=lf h
  have z:=sg 0 c1<|eF (.exit 0) (j7 out)
  exact i7 Zl (by intro hx;cases hx) z<|by kernel_rfl
theorem yK(hR61:cx R61){x:waC}(h:lV R61 v t8 t9 out t10=some x):aT Pg GE 0 (.loop (cA ZB 119)) (EX (.exit 0) (j7 x)) (eQ v t8 t9 out t10):=
 aT.loop (S:=fun(zz:waC×Int)=>eQ v t8 t9 zz.1 zz.2) (ex:=(fun _=>.exit 0)) (s:=(out,t10)) h fun zz y hy=>xk R61 v t8 t9 zz.1 zz.2 hR61 hy
end
def pU(R61:bN)(a:waC)(c:ai):Option waC:=
 (lV R61 c a (a.length:Int) ([]:List ae) 0).bind fun o5=>
 some o5
theorem Cp(R61:bN)(hR61:cx R61){a:waC}{c:ai}{r:waC}(h:pU R61 a c=some r):CC Pg GE 141 [sl af a,.func (.func 120) [.agg (aw c)] []] (sl af r) [(0,38)]:=by
 obtain⟨o5,bo5,h⟩:=aB h
 obtain rfl:=lf h
 have z:=cz (cX.ln a)<|di (yK R61 c a (a.length:Int) ([]:List ae) 0 hR61 bo5)<|en (aI (rP (sl af o5))<|(aq av o5))
 exact cn Zl call141 func141 (c:=ZB) rfl (aI (aq av a) (aI (aI (aI (bm c) trivial) trivial) trivial)) z<|by kernel_rfl
noncomputable def qaW:Code:=f120.body.getD .skip
def qax:List Nat:=[]
def eu(R61:bN)(s:ai)(t:ae):Option ae:=
 if(t.Op==6)=true then
  (fy R61 s t).bind fun r3=>
  some r3
 else
  (lP t.Names).bind fun r4=>
  (cH s t.Pred).bind fun r5=>
  (kT t.Preds s).bind fun r6=>
  (pU R61 t.Args s).bind fun r7=>
  some (⟨t.Op,t.Name,r7,r4,r5,r6⟩:ae)
theorem rI(R61:bN)(hR61:cx R61){s:ai}{t:ae}{r:ae}(h:eu R61 s t=some r):CC Pg GE 120 [.agg (aw s),.agg (af t)] (.agg (af r)) [(2,38)]:=by
 have p2:=fun{sc F} (r:PS sc F)=>se (dm s)<|se (cF t)<|sx Bn<|sv (aK t)<|sv (aL t)<|r
 rcases aZ h with⟨c1,h⟩|⟨c1,h⟩
 ·obtain⟨r3,br3,h⟩:=aB h
  obtain rfl:=lf h
  have z:=p2<|sg 0 c1<|sv (ch s)<|sv (bw t)<|bT (oW R61 hR61 br3)<|sy (bk r3)<|en (aI (pV r3)<|aI (av r3)<|rT)
  exact cn qax call120 func120 (c:=qaW) rfl (aI (bm s) (aI (av t) trivial)) z<|by kernel_rfl
 ·obtain⟨r4,br4,h⟩:=aB h
  obtain⟨r5,br5,h⟩:=aB h
  obtain⟨r6,br6,h⟩:=aB h
  obtain⟨r7,br7,h⟩:=aB h
  obtain rfl:=lf h
  have z:=p2<|sg 0 c1<|qX [0,1,0,4,0,16,48,0,0,256,1008,0,2048,0,8192,32752,65535,0,262143]<|sv (aK t)<|sv (aL t)<|sv (df t)<|sv (dA t)<|sv (bh t)<|sv (bj t)<|bT (Do br4)<|sv (ch s)<|sv (d8 t)<|sv (d9 t)<|bT (fM br5)<|sv (dJ t)<|sv (dM t)<|sv (ch s)<|bT (vd br6)<|sb (Dn t.Op t.Name r4 r5 r6) (Dl t.Op t.Name r4 r5 r6)<|Yw (iT (⟨t.Op,t.Name,([]:List ae),r4,r5,r6⟩:ae))<|sv (aW t)<|sv (aX t)<|sv (ch s)<|bT (Cp R61 hR61 br7)<|sz (dj (⟨t.Op,t.Name,r7,r4,r5,r6⟩:ae) [])<|sy (bk (⟨t.Op,t.Name,r7,r4,r5,r6⟩:ae))<|en (aI (pV (⟨t.Op,t.Name,r7,r4,r5,r6⟩:ae))<|aI (av (⟨t.Op,t.Name,r7,r4,r5,r6⟩:ae))<|rT)
  exact cn qax call120 func120 (c:=qaW) rfl (aI (bm s) (aI (av t) trivial)) z<|by kernel_rfl
def gA:((ai×ae)->Option ae)->(ai×ae)->Option ae:=fun(rec:(ai×ae)->Option ae) (x:ai×ae)=>eu (fun s t=>rec (s,t)) x.1 x.2
def ip(s:ai)(t:ae):Option ae:=oG gA (s,t)
theorem sL{s:ai}{t:ae}{r:ae}(h:ip s t=some r):CC Pg GE 120 [.agg (aw s),.agg (af t)] (.agg (af r)) [(2,38)]:=
 cU (F:=gA) (M:=fun(x:ai×ae) (r:ae)=>CC Pg GE 120 [.agg (aw x.1),.agg (af x.2)] (.agg (af r)) [(2,38)]) (fun rec hrec x r h=>rI _ (fun s t r h=>hrec (s,t) r h) h) h
noncomputable def qcu:Code:=f113.body.getD .skip
def qcg:List Nat:=[]
def pT(t:ae)(a:waA)(a2:waB):Option ae:=
 (Ld a none (some (if(a2.length:Int)<(a.length:Int)then(a2.length:Int)else(a.length:Int)))).bind fun l1=>
 (Ld a2 none (some (if(a2.length:Int)<(a.length:Int)then(a2.length:Int)else(a.length:Int)))).bind fun l2=>
 (bQ (⟨l1,l2⟩:ai) ([([118]:ag)]:List ag)).bind fun r3=>
 (ip r3 t).bind fun r4=>
 some r4
theorem Co{t:ae}{a:waA}{a2:waB}{r:ae}(h:pT t a a2=some r):CC Pg GE 113 [.agg (af t),sl cS a,sl ac a2] (.agg (af r)) [(2,38)]:=by
 obtain⟨l1,bl1,h⟩:=aB h
 obtain⟨l2,bl2,h⟩:=aB h
 obtain⟨r3,br3,h⟩:=aB h
 obtain⟨r4,br4,h⟩:=aB h
 obtain rfl:=lf h
 have z:=se (cF t)<|sx Bn<|cz (bJ.ln a)<|cz (ck.ln a2)<|qX [0,0,3,0,0,24,63,0,255,0,1023]<|sv (bJ.sc bl1)<|sv (ck.sc bl2)<|sv (sD l1 l2)<|sv (bJ.mk' (v:=PVal.str) KI ([([118]:ag)]:List ag) 1 (by kernel_rfl))<|bT (eL br3)<|Yw (fc r3)<|sv (cp r3 [])<|sv (bw t)<|bT (sL br4)<|sy (bk r4)<|en (aI (pV r4)<|aI (av r4)<|rT)
 exact cn qcg call113 func113 (c:=qcu) rfl (aI (av t) (aI (aq gG a) (aI (aq ah a2) trivial))) z<|by kernel_rfl
noncomputable def qd0:Code:=f99.body.getD .skip
def qdP:List Nat:=[]
def qx(t:ae)(name:ag)(a:aa):Option ae:=
 (pT t ([name]:List ag) ([a]:List aa)).bind fun r1=>
 some r1
theorem GP{t:ae}{name:ag}{a:aa}{r:ae}(h:qx t name a=some r):CC Pg GE 99 [.agg (af t),.str name,.agg (ac a)] (.agg (af r)) [(2,38)]:=by
 obtain⟨r1,br1,h⟩:=aB h
 obtain rfl:=lf h
 have z:=se (cF t)<|se (cr a)<|sx Bn<|sv (bw t)<|sv (bJ.mk' (v:=PVal.str) KI ([name]:List ag) 1 (by kernel_rfl))<|sv (be a)<|sv (ck.mk' (v:=fe) dl ([a]:List aa) 1 (by kernel_rfl))<|bT (Co br1)<|sy (bk r1)<|en (aI (pV r1)<|aI (av r1)<|rT)
 exact cn qdP call99 func99 (c:=qd0) rfl (aI (av t) (aI trivial (aI (ah a) trivial))) z<|by kernel_rfl
noncomputable def qb6:Code:=f82.body.getD .skip
def qbS:List Nat:=[41]
section
variable(i:Int)(v:ag)(t:ae)(n:Nat)(k:Int)(w1:List ae)
def eR:az:=aY 42 [(2,.int .i64 i),(3,.str v),(5,.eptr (af t)),(9,.bsl 1 0 n),(10,.int .i64 k)] [.dead,.cells (wy af w1) []] []
def j8(o:List ae):az:=aY 42 [(9,.bsl 1 0 n)] [.dead,.cells (wy af o) []] []
def dH:Option ((Int×List ae)⊕(waC)):=
 if(decide (k<(n:Int)))=true then
  (Vc n w1 k).bind fun x5=>
  (cR t.Names i).bind fun x6=>
  (qx x5 x6 (⟨3,v,0,([]:List aa)⟩:aa)).bind fun r7=>
  (Vc n w1 k).bind fun x8=>
  (qae w1 k r7).bind fun l9=>
  some (.inl (aR (k+1),l9))
 else
  some (.inr w1)
def lY:Option waC:=loop (fun(zz:Int×List ae)=>dH i v t n zz.1 zz.2) (k,w1)
theorem xo{y:(Int×List ae)⊕(waC)}(h:dH i v t n k w1=some y):aT Pg GE 0 (cA qb6 471) (LQ (fun(zz:Int×List ae)=>eR i v t n zz.1 zz.2) (fun _=>.exit 0) (j8 n) y) (eR i v t n k w1):=by
 rcases aZ h with⟨c4,h⟩|⟨c4,h⟩
 ·obtain⟨x5,bx5,h⟩:=aB h
  obtain⟨x6,bx6,h⟩:=aB h
  obtain⟨r7,br7,h⟩:=aB h
  obtain⟨x8,bx8,h⟩:=aB h
  obtain⟨l9,bl9,h⟩:=aB h
  obtain rfl:=lf h
  exact rU qbS (cz (cX.lnR 1 0 n)<|sg 0 c4<|qce (.dx [0,0,0,0,12,28,0,64,0,448,960,0,2048,8188,16383,32767] [] [] [1])<|sv (cX.iaN 1 (k:=.i64) bx5)<|sv (cX.ldN (Uq x5) bx5)<|sv (bh t)<|sv (bj t)<|sv (bJ.ia (k:=.i64) bx6)<|sv (im Mo (.str x6) [])<|sb (ou 3 v) (oq 3 v)<|bT (GP br7)<|sv (cX.iaN 1 (k:=.i64) bx8)<|qdw (cX.stR (gm r7) bl9)<|eF .normal (eR i v t n (aR (k+1)) l9))<|by kernel_rfl
 ·obtain rfl:=lf h
  have z:=cz (cX.lnR 1 0 n)<|sg 0 c4<|eF (.exit 0) (j8 n w1)
  exact i7 qbS (by intro hx;cases hx) z<|by kernel_rfl
theorem yS{x:waC}(h:lY i v t n k w1=some x):aT Pg GE 0 (.loop (cA qb6 471)) (EX (.exit 0) (j8 n x)) (eR i v t n k w1):=
 aT.loop (S:=fun(zz:Int×List ae)=>eR i v t n zz.1 zz.2) (ex:=(fun _=>.exit 0)) (s:=(k,w1)) h fun zz y hy=>xo i v t n zz.1 zz.2 hy
end
def iX(a:waC)(t:ae)(i:Int)(a2:ag):Option waC:=
 (lP a).bind fun r1=>
 if(decide (i<(t.Names.length:Int)))=true then
  (lY i a2 t r1.length (aR (i+1)) r1).bind fun o10=>
  (Y2 r1.length o10).bind fun l11=>
  some l11
 else
  (Y2 r1.length r1).bind fun l12=>
  some l12
theorem rX{a:waC}{t:ae}{i:Int}{a2:ag}{r:waC}(h:iX a t i a2=some r):CC Pg GE 82 [sl af a,.agg (af t),.int .i64 i,.str a2] (sl af r) []:=by
 obtain⟨r1,br1,h⟩:=aB h
 have p3:=fun{sc F} (r:PS sc F)=>se (cF t)<|qdv 1 38 (cX.cloneR T2 br1)<|sv (bh t)<|sv (bj t)<|cz (bJ.ln t.Names)<|r
 rcases aZ h with⟨c2,h⟩|⟨c2,h⟩
 ·obtain⟨o10,bo10,h⟩:=aB h
  obtain⟨l11,bl11,h⟩:=aB h
  obtain rfl:=lf h
  have z:=p3<|sg 0 c2<|di (yS i a2 t r1.length (aR (i+1)) r1 bo10)<|qbH 1 (l11.map af) [9] [] (cX.fz1 (m:=0) (b:=1) rfl l11) (cX.fz2 1 l11) (qcM af bl11)<|sf (qcN af bl11)<|en (aI (rP (sl af l11))<|(aq av l11))
  exact cn qbS call82 func82 (c:=qb6) rfl (aI (aq av a) (aI (av t) (aI trivial (aI trivial trivial)))) z<|by kernel_rfl
 ·obtain⟨l12,bl12,h⟩:=aB h
  obtain rfl:=lf h
  have z:=p3<|sg 0 c2<|qbH 1 (l12.map af) [9] [] (cX.fz1 (m:=0) (b:=1) rfl l12) (cX.fz2 1 l12) (qcM af bl12)<|sf (qcN af bl12)<|en (aI (rP (sl af l12))<|(aq av l12))
  exact cn qbS call82 func82 (c:=qb6) rfl (aI (aq av a) (aI (av t) (aI trivial (aI trivial trivial)))) z<|by kernel_rfl
abbrev qj:=(ae->Option ae)
abbrev vA(R:qj):Prop:=∀(t:ae) (r:ae),R t=some r->CC Pg GE 45 [.agg (af t)] (.agg (af r)) [(2,38),(3,9),(7,36),(8,36)]
noncomputable def qcz:Code:=f45.body.getD .skip
def qcl:List Nat:=[19]
section
variable(R74:qj)(t12:waC)(t13:Int)(m:waC)(m2:waB)(m3:Int)(m4:ag)(t14:Int)(m5:waC)
def i6:az:=aY 27 [(2,.bptr 1 0),(3,.bptr 2 0),(12,sl af t12),(13,.int .i64 t13),(14,.int .i64 t14)] [.dead,.cells [.int .i64 0,.str ([]:ag),sl af m,sl cS ([]:List ag),.int .i64 0,.str ([]:ag),.int .i64 0,sl ac m2,sl ac m2] [(2,38),(3,9),(7,36),(8,36)],.cells [.int .i64 m3,.str m4,sl af m5,sl cS ([]:List ag),.int .i64 0,.str ([]:ag),.int .i64 0,sl ac m2,sl ac m2] [(2,38),(3,9),(7,36),(8,36)]] []
def qa(o:waC):az:=aY 27 [(2,.bptr 1 0),(3,.bptr 2 0)] [.dead,.cells [.int .i64 0,.str ([]:ag),sl af m,sl cS ([]:List ag),.int .i64 0,.str ([]:ag),.int .i64 0,sl ac m2,sl ac m2] [(2,38),(3,9),(7,36),(8,36)],.cells [.int .i64 m3,.str m4,sl af o,sl cS ([]:List ag),.int .i64 0,.str ([]:ag),.int .i64 0,sl ac m2,sl ac m2] [(2,38),(3,9),(7,36),(8,36)]] []
def xu:Option ((Int×waC)⊕(waC)):=
 if(decide (t14<t13))=true then
  (cR t12 t14).bind fun x2=>
  (R74 x2).bind fun r3=>
  (app m5 ([r3]:List ae)).bind fun l4=>
  some (.inl (aR (t14+1),l4))
 else
  some (.inr m5)
def um:Option waC:=loop (fun(zz:Int×waC)=>xu R74 t12 t13 zz.1 zz.2) (t14,m5)
theorem D0(hR74:vA R74){y:(Int×waC)⊕(waC)}(h:xu R74 t12 t13 t14 m5=some y):aT Pg GE 0 (cA qcz 119) (LQ (fun(zz:Int×waC)=>i6 t12 t13 m m2 m3 m4 zz.1 zz.2) (fun _=>.exit 0) (qa m m2 m3 m4) y) (i6 t12 t13 m m2 m3 m4 t14 m5):=by
 rcases aZ h with⟨c1,h⟩|⟨c1,h⟩
 ·obtain⟨x2,bx2,h⟩:=aB h
  obtain⟨r3,br3,h⟩:=aB h
  obtain⟨l4,bl4,h⟩:=aB h
  obtain rfl:=lf h
  have z:=sg 0 c1<|sv (cX.ia (k:=.i64) bx2)<|sv (bw x2)<|sx Bn<|sx (iT x2)<|qX [0,1,0,4,12,31,63,127]<|sv (dj x2 [])<|bT (hR74 _ _ br3)<|sv (cX.mk' (v:=lE) gm ([r3]:List ae) 1 (by kernel_rfl))<|sv (cX.ap bl4)<|W6 (rfl:bO (sl af l4)=some [sl af l4])<|zn 0 .normal (i6 t12 t13 m m2 m3 m4 (aR (t14+1)) l4) rfl (eg (aI (d6 rfl) (aI (d6 rfl) (aI (up (aq av t12)) (aI trivial (aI trivial trivial)))))) (aI trivial (aI (aI trivial (aI trivial (aI (up (aq av m)) (aI (up (aq gG ([]:List ag))) (aI trivial (aI trivial (aI trivial (aI (up (aq ah m2)) (aI (up (aq ah m2)) trivial))))))))) (aI (aI trivial (aI trivial (aI (up (aq av l4)) (aI (up (aq gG ([]:List ag))) (aI trivial (aI trivial (aI trivial (aI (up (aq ah m2)) (aI (up (aq ah m2)) trivial))))))))) trivial)))
  exact dS (A:=qcl) mixed z<|by kernel_rfl
 ·obtain rfl:=lf h
  have z:=sg 0 c1<|eF (.exit 0) (qa m m2 m3 m4 m5)
  exact i7 qcl (by intro hx;cases hx) z<|by kernel_rfl
theorem Fx(hR74:vA R74){x:waC}(h:um R74 t12 t13 t14 m5=some x):aT Pg GE 0 (.loop (cA qcz 119)) (EX (.exit 0) (qa m m2 m3 m4 x)) (i6 t12 t13 m m2 m3 m4 t14 m5):=
 aT.loop (S:=fun(zz:Int×waC)=>i6 t12 t13 m m2 m3 m4 zz.1 zz.2) (ex:=(fun _=>.exit 0)) (s:=(t14,m5)) h fun zz y hy=>D0 R74 t12 t13 m m2 m3 m4 zz.1 zz.2 hR74 hy
end
def qA(R74:qj)(t:ae):Option ae:=
 (um R74 t.Args (t.Args.length:Int) 0 ([]:List ae)).bind fun o5=>
 some (⟨t.Op,t.Name,o5,([]:List ag),(⟨0,([]:ag),0,([]:List aa)⟩:aa),([]:List aa)⟩:ae)
theorem IK(R74:qj)(hR74:vA R74){t:ae}{r:ae}(h:qA R74 t=some r):CC Pg GE 45 [.agg (af t)] (.agg (af r)) [(2,38),(3,9),(7,36),(8,36)]:=by
 obtain⟨o5,bo5,h⟩:=aB h
 obtain rfl:=lf h
 have z:=se (cF t)<|sx Bn<|sv (aK t)<|sv (aL t)<|sv (df t)<|sv (dA t)<|sb (N8 t.Op t.Name) (N5 t.Op t.Name)<|sx Bn<|sy (bk (⟨t.Op,t.Name,([]:List ae),([]:List ag),(⟨0,([]:ag),0,([]:List aa)⟩:aa),([]:List aa)⟩:ae))<|sv (aW t)<|sv (aX t)<|cz (cX.ln t.Args)<|di (Fx R74 t.Args (t.Args.length:Int) ([]:List ae) ([]:List aa) t.Op t.Name 0 ([]:List ae) hR74 bo5)<|sz (dj (⟨t.Op,t.Name,o5,([]:List ag),(⟨0,([]:ag),0,([]:List aa)⟩:aa),([]:List aa)⟩:ae) [])<|sy (bk (⟨t.Op,t.Name,o5,([]:List ag),(⟨0,([]:ag),0,([]:List aa)⟩:aa),([]:List aa)⟩:ae))<|en (aI (pV (⟨t.Op,t.Name,o5,([]:List ag),(⟨0,([]:ag),0,([]:List aa)⟩:aa),([]:List aa)⟩:ae))<|aI (av (⟨t.Op,t.Name,o5,([]:List ag),(⟨0,([]:ag),0,([]:List aa)⟩:aa),([]:List aa)⟩:ae))<|rT)
 exact cn qcl call45 func45 (c:=qcz) rfl (aI (av t) trivial) z<|by kernel_rfl
def wv:(ae->Option ae)->(ae)->Option ae:=fun(rec:ae->Option ae) (x:ae)=>qA (fun t=>rec t) x
def vp(t:ae):Option ae:=oG wv t
theorem Bv{t:ae}{r:ae}(h:vp t=some r):CC Pg GE 45 [.agg (af t)] (.agg (af r)) [(2,38),(3,9),(7,36),(8,36)]:=
 cU (F:=wv) (M:=fun(x:ae) (r:ae)=>CC Pg GE 45 [.agg (af x)] (.agg (af r)) [(2,38),(3,9),(7,36),(8,36)]) (fun rec hrec x r h=>IK _ (fun t r h=>hrec t r h) h) h
noncomputable def qap:Code:=f44.body.getD .skip
def qak:List Nat:=[]
def B3(t:ae):Option (ag×Bool):=
 if(t.Op==1)=true then
  some (([73,110,116]:ag),true)
 else
  if(t.Op==2)=true then
   some (([66,111,111,108]:ag),true)
  else
   if(t.Op==3)=true then
    some (([67,101,108,108]:ag),true)
   else
    if(t.Op==4)=true then
     if((t.Args.length:Int)==0)=true then
      some (t.Name,true)
     else
      some (([]:ag),false)
    else
     some (([]:ag),false)
theorem K8{t:ae}{r:ag×Bool}(h:B3 t=some r):CC Pg GE 44 [.agg (af t)] (.tuple [.str r.1,.bool r.2]) []:=by
 have p2:=fun{sc F} (r:PS sc F)=>se (cF t)<|sv (aK t)<|sv (aL t)<|r
 rcases aZ h with⟨c1,h⟩|⟨c1,h⟩
 ·obtain rfl:=lf h
  have z:=p2<|sg 0 c1<|en (aI (rP (.tuple [.str ([73,110,116]:ag),.bool true]))<|(aI trivial (aI trivial trivial)))
  exact cn qak call44 func44 (c:=qap) rfl (aI (av t) trivial) z<|by kernel_rfl
 ·have p4:=fun{sc F} (r:PS sc F)=>p2<|sg 0 c1<|r
  rcases aZ h with⟨c3,h⟩|⟨c3,h⟩
  ·obtain rfl:=lf h
   have z:=p4<|sg 0 c3<|en (aI (rP (.tuple [.str ([66,111,111,108]:ag),.bool true]))<|(aI trivial (aI trivial trivial)))
   exact cn qak call44 func44 (c:=qap) rfl (aI (av t) trivial) z<|by kernel_rfl
  ·have p6:=fun{sc F} (r:PS sc F)=>p4<|sg 0 c3<|r
   rcases aZ h with⟨c5,h⟩|⟨c5,h⟩
   ·obtain rfl:=lf h
    have z:=p6<|sg 0 c5<|en (aI (rP (.tuple [.str ([67,101,108,108]:ag),.bool true]))<|(aI trivial (aI trivial trivial)))
    exact cn qak call44 func44 (c:=qap) rfl (aI (av t) trivial) z<|by kernel_rfl
   ·have p8:=fun{sc F} (r:PS sc F)=>p6<|sg 0 c5<|r
    rcases aZ h with⟨c7,h⟩|⟨c7,h⟩
    ·have p10:=fun{sc F} (r:PS sc F)=>p8<|sg 0 c7<|sv (aW t)<|sv (aX t)<|cz (cX.ln t.Args)<|r
     rcases aZ h with⟨c9,h⟩|⟨c9,h⟩
     ·obtain rfl:=lf h
      have z:=p10<|sg 0 c9<|sv (df t)<|sv (dA t)<|en (aI (rP (.tuple [.str t.Name,.bool true]))<|(aI trivial (aI trivial trivial)))
      exact cn qak call44 func44 (c:=qap) rfl (aI (av t) trivial) z<|by kernel_rfl
     ·obtain rfl:=lf h
      have z:=p10<|sg 0 c9<|en (aI (rP (.tuple [.str ([]:ag),.bool false]))<|(aI trivial (aI trivial trivial)))
      exact cn qak call44 func44 (c:=qap) rfl (aI (av t) trivial) z<|by kernel_rfl
    ·obtain rfl:=lf h
     have z:=p8<|sg 0 c7<|en (aI (rP (.tuple [.str ([]:ag),.bool false]))<|(aI trivial (aI trivial trivial)))
     exact cn qak call44 func44 (c:=qap) rfl (aI (av t) trivial) z<|by kernel_rfl
abbrev nJ:=(aa->aa->Option Bool)
abbrev uu(R:nJ):Prop:=∀(a:aa) (a2:aa) (r:Bool),R a a2=some r->CC Pg GE 93 [.agg (ac a),.agg (ac a2)] (.bool r) []
end Go.Proofs.YtbaamopmfmpfaaaGreatDoor
