/- PROVED: a part of the proof. Conditions: none. -/
import Derived.Test.YtbaamopmfmpfaaaGreatDoorPkD13
noncomputable section
namespace Go.Proofs.YtbaamopmfmpfaaaGreatDoor
open Go Go.Proofs.Tryz
set_option linter.unusedVariables false
set_option maxRecDepth 100000
noncomputable def NV:Code:=f152.body.getD .skip
def IP:List Nat:=[33,44,61]
section
variable(t:ae)(t18:waA)(t19:Int)(t20:Int)(t25:waB)(t26:Int)(m:Int)(m2:ag)(m3:Int)(m4:waA)(out:waB)(t27:Int)
def fE:az:=aW 69 [(1,.eptr (af t)),(3,sl cS out),(18,sl ac t18),(19,.int .i64 t19),(20,.int .i64 t20),(25,sl cS t25),(26,.int .i64 t26),(27,.int .i64 t27)] [.dead,.cells [.int .i64 m,.str m2,.int .i64 m3,sl ac m4] []] [((25,0),9),((18,0),36),((3,0),9)]
def oZ(o:waB):az:=aW 69 [(1,.eptr (af t)),(3,sl cS o),(18,sl ac t18),(19,.int .i64 t19),(20,.int .i64 t20)] [.dead,.cells [.int .i64 m,.str m2,.int .i64 m3,sl ac m4] []] [((18,0),36),((3,0),9)]
def vd:Option ((waB×Int)⊕(waB)):=
 if(decide (t27<t26))=true then
  (cH t25 t27).bind fun x6=>
  if(!(x6==([118]:ag)))=true then
   (app out ([x6]:List ag)).bind fun l9=>
   some (.inl (l9,aO (t27+1)))
  else
   some (.inl (out,aO (t27+1)))
 else
  some (.inr out)
def jJ:Option waB:=loop (fun(zz:waB×Int)=>vd t25 t26 zz.1 zz.2) (out,t27)
theorem Ce{y:(waB×Int)⊕(waB)}(h:vd t25 t26 out t27=some y):aQ Pg GE 0 (cA NV 30687) (LQ (fun(zz:waB×Int)=>fE t t18 t19 t20 t25 t26 m m2 m3 m4 zz.1 zz.2) (fun _=>.exit 2) (oZ t t18 t19 t20 m m2 m3 m4) y) (fE t t18 t19 t20 t25 t26 m m2 m3 m4 out t27):=by
 rcases aX h with⟨c5,h⟩|⟨c5,h⟩
 ·obtain⟨x6,bx6,h⟩:=aA h
  have p8:=fun{sc F} (r:PS sc F)=>sg 0 c5<|sv (bR.ia (k:=.i64) bx6)<|sv (iY Nd (.str x6) [])<|r
  rcases aX h with⟨c7,h⟩|⟨c7,h⟩
  ·obtain⟨l9,bl9,h⟩:=aA h
   obtain rfl:=lf h
   exact rF IP (p8<|sg 0 c7<|sv (bR.mk' (v:=PVal.str) L9 ([x6]:List ag) 1 (by kernel_rfl))<|sv (bR.ap bl9)<|eF .normal (fE t t18 t19 t20 t25 t26 m m2 m3 m4 l9 (aO (t27+1))))<|by kernel_rfl
  ·obtain rfl:=lf h
   exact rF IP (p8<|sg 0 c7<|eF .normal (fE t t18 t19 t20 t25 t26 m m2 m3 m4 out (aO (t27+1))))<|by kernel_rfl
 ·obtain rfl:=lf h
  have z:=sg 0 c5<|eF (.exit 2) (oZ t t18 t19 t20 m m2 m3 m4 out)
  exact iW IP (by intro hx;cases hx) z<|by kernel_rfl
theorem DK{x:waB}(h:jJ t25 t26 out t27=some x):aQ Pg GE 0 (.loop (cA NV 30687)) (EX (.exit 2) (oZ t t18 t19 t20 m m2 m3 m4 x)) (fE t t18 t19 t20 t25 t26 m m2 m3 m4 out t27):=
 aQ.loop (S:=fun(zz:waB×Int)=>fE t t18 t19 t20 t25 t26 m m2 m3 m4 zz.1 zz.2) (ex:=(fun _=>.exit 2)) (s:=(out,t27)) h fun zz y hy=>Ce t t18 t19 t20 t25 t26 m m2 m3 m4 zz.1 zz.2 hy
end
section
variable(t:ae)(t18:waA)(t19:Int)(out:waB)(t20:Int)
def hO:az:=aW 69 [(1,.eptr (af t)),(3,sl cS out),(18,sl ac t18),(19,.int .i64 t19),(20,.int .i64 t20)] [.dead] [((18,0),36),((3,0),9)]
def oY(o:waB):az:=aW 69 [(1,.eptr (af t)),(3,sl cS o)] [.dead] [((3,0),9)]
def vb:Option ((waB×Int)⊕(waB)):=
 if(decide (t20<t19))=true then
  (cH t18 t20).bind fun x3=>
  (pW x3).bind fun r4=>
  (jJ r4 (r4.length:Int) out 0).bind fun o10=>
  some (.inl (o10,aO (t20+1)))
 else
  some (.inr out)
def rJ:Option waB:=loop (fun(zz:waB×Int)=>vb t18 t19 zz.1 zz.2) (out,t20)
theorem Cd{y:(waB×Int)⊕(waB)}(h:vb t18 t19 out t20=some y):aQ Pg GE 0 (cA NV 119) (LQ (fun(zz:waB×Int)=>hO t t18 t19 zz.1 zz.2) (fun _=>.exit 0) (oY t) y) (hO t t18 t19 out t20):=by
 rcases aX h with⟨c2,h⟩|⟨c2,h⟩
 ·obtain⟨x3,bx3,h⟩:=aA h
  obtain⟨r4,br4,h⟩:=aA h
  obtain⟨o10,bo10,h⟩:=aA h
  obtain rfl:=lf h
  have z:=sg 0 c2<|sv (cd.ia (k:=.i64) bx3)<|sv (aY x3)<|sx lM<|sx (dn x3)<|sv (ch x3 [])<|bP (E2 br4)<|cw (bR.ln r4)<|di (DK t t18 t19 t20 r4 (r4.length:Int) x3.Op x3.Name x3.N x3.Kids out 0 bo10)<|y4 0 .normal (hO t t18 t19 o10 (aO (t20+1))) rfl (eh (aI (oI (av t)) (aI (up (aq iu o10)) (aI (up (aq ah t18)) (aI trivial (aI trivial trivial)))))) (aI trivial trivial)
  exact dV (A:=IP) mixed z<|by kernel_rfl
 ·obtain rfl:=lf h
  have z:=sg 0 c2<|eF (.exit 0) (oY t out)
  exact iW IP (by intro hx;cases hx) z<|by kernel_rfl
theorem DJ{x:waB}(h:rJ t18 t19 out t20=some x):aQ Pg GE 0 (.loop (cA NV 119)) (EX (.exit 0) (oY t x)) (hO t t18 t19 out t20):=
 aQ.loop (S:=fun(zz:waB×Int)=>hO t t18 t19 zz.1 zz.2) (ex:=(fun _=>.exit 0)) (s:=(out,t20)) h fun zz y hy=>Cd t t18 t19 zz.1 zz.2 hy
end
section
variable(t:ae)(bound:waB)(t40:waC)(t41:Int)(t42:Int)(t51:waB)(t52:Int)(m:Int)(m2:ag)(m3:waC)(m4:waB)(m5:Int)(m6:ag)(m7:Int)(m8:waA)(m9:waA)(out:waB)(t53:Int)
def fF:az:=aW 69 [(1,.eptr (af t)),(3,sl cS out),(10,sl cS bound),(40,sl af t40),(41,.int .i64 t41),(42,.int .i64 t42),(51,sl cS t51),(52,.int .i64 t52),(53,.int .i64 t53)] [.dead,.cells [.int .i64 m,.str m2,sl af m3,sl cS m4,.int .i64 m5,.str m6,.int .i64 m7,sl ac m8,sl ac m9] []] [((51,0),9),((3,0),9)]
def o8(o:waB):az:=aW 69 [(1,.eptr (af t)),(3,sl cS o),(40,sl af t40),(41,.int .i64 t41),(42,.int .i64 t42)] [.dead,.cells [.int .i64 m,.str m2,sl af m3,sl cS m4,.int .i64 m5,.str m6,.int .i64 m7,sl ac m8,sl ac m9] []] [((3,0),9)]
def vj:Option ((waB×Int)⊕(waB)):=
 if(decide (t53<t52))=true then
  (cH t51 t53).bind fun x17=>
  (eJ bound x17).bind fun r18=>
  if(!r18)=true then
   (app out ([x17]:List ag)).bind fun l21=>
   some (.inl (l21,aO (t53+1)))
  else
   some (.inl (out,aO (t53+1)))
 else
  some (.inr out)
def jK:Option waB:=loop (fun(zz:waB×Int)=>vj bound t51 t52 zz.1 zz.2) (out,t53)
theorem Cg{y:(waB×Int)⊕(waB)}(h:vj bound t51 t52 out t53=some y):aQ Pg GE 0 (cA NV 126911) (LQ (fun(zz:waB×Int)=>fF t bound t40 t41 t42 t51 t52 m m2 m3 m4 m5 m6 m7 m8 m9 zz.1 zz.2) (fun _=>.exit 6) (o8 t t40 t41 t42 m m2 m3 m4 m5 m6 m7 m8 m9) y) (fF t bound t40 t41 t42 t51 t52 m m2 m3 m4 m5 m6 m7 m8 m9 out t53):=by
 rcases aX h with⟨c16,h⟩|⟨c16,h⟩
 ·obtain⟨x17,bx17,h⟩:=aA h
  obtain⟨r18,br18,h⟩:=aA h
  have p20:=fun{sc F} (r:PS sc F)=>sg 0 c16<|sv (bR.ia (k:=.i64) bx17)<|sv (iY Nd (.str x17) [])<|bP (gz br18)<|r
  rcases aX h with⟨c19,h⟩|⟨c19,h⟩
  ·obtain⟨l21,bl21,h⟩:=aA h
   obtain rfl:=lf h
   exact rF IP (p20<|sg 0 c19<|sv (bR.mk' (v:=PVal.str) L9 ([x17]:List ag) 1 (by kernel_rfl))<|sv (bR.ap bl21)<|eF .normal (fF t bound t40 t41 t42 t51 t52 m m2 m3 m4 m5 m6 m7 m8 m9 l21 (aO (t53+1))))<|by kernel_rfl
  ·obtain rfl:=lf h
   exact rF IP (p20<|sg 0 c19<|eF .normal (fF t bound t40 t41 t42 t51 t52 m m2 m3 m4 m5 m6 m7 m8 m9 out (aO (t53+1))))<|by kernel_rfl
 ·obtain rfl:=lf h
  have z:=sg 0 c16<|eF (.exit 6) (o8 t t40 t41 t42 m m2 m3 m4 m5 m6 m7 m8 m9 out)
  exact iW IP (by intro hx;cases hx) z<|by kernel_rfl
theorem DM{x:waB}(h:jK bound t51 t52 out t53=some x):aQ Pg GE 0 (.loop (cA NV 126911)) (EX (.exit 6) (o8 t t40 t41 t42 m m2 m3 m4 m5 m6 m7 m8 m9 x)) (fF t bound t40 t41 t42 t51 t52 m m2 m3 m4 m5 m6 m7 m8 m9 out t53):=
 aQ.loop (S:=fun(zz:waB×Int)=>fF t bound t40 t41 t42 t51 t52 m m2 m3 m4 m5 m6 m7 m8 m9 zz.1 zz.2) (ex:=(fun _=>.exit 6)) (s:=(out,t53)) h fun zz y hy=>Cg t bound t40 t41 t42 t51 t52 m m2 m3 m4 m5 m6 m7 m8 m9 zz.1 zz.2 hy
end
section
variable(R69:oB)(t:ae)(t40:waC)(t41:Int)(out:waB)(t42:Int)
def hU:az:=aW 69 [(1,.eptr (af t)),(3,sl cS out),(40,sl af t40),(41,.int .i64 t41),(42,.int .i64 t42)] [.dead] [((3,0),9)]
def o0(o:waB):az:=aW 69 [(3,sl cS o)] [.dead] [((3,0),9)]
def vg:Option ((waB×Int)⊕(waB)):=
 if(decide (t42<t41))=true then
  (cH t40 t42).bind fun x13=>
  (lh t t42).bind fun r14=>
  (R69 x13).bind fun r15=>
  (jK r14 r15 (r15.length:Int) out 0).bind fun o22=>
  some (.inl (o22,aO (t42+1)))
 else
  some (.inr out)
def rK:Option waB:=loop (fun(zz:waB×Int)=>vg R69 t t40 t41 zz.1 zz.2) (out,t42)
theorem Cf(hR69:s9 R69){y:(waB×Int)⊕(waB)}(h:vg R69 t t40 t41 out t42=some y):aQ Pg GE 0 (cA NV 247) (LQ (fun(zz:waB×Int)=>hU t t40 t41 zz.1 zz.2) (fun _=>.exit 4) o0 y) (hU t t40 t41 out t42):=by
 rcases aX h with⟨c12,h⟩|⟨c12,h⟩
 ·obtain⟨x13,bx13,h⟩:=aA h
  obtain⟨r14,br14,h⟩:=aA h
  obtain⟨r15,br15,h⟩:=aA h
  obtain⟨o22,bo22,h⟩:=aA h
  obtain rfl:=lf h
  have z:=sg 0 c12<|sv (cQ.ia (k:=.i64) bx13)<|sv (aZ x13)<|sx A6<|sx (iX x13)<|sv (aZ t)<|bP (Fa br14)<|sv (dj x13 [])<|bP (hR69 _ _ br15)<|cw (bR.ln r15)<|di (DM t r14 t40 t41 t42 r15 (r15.length:Int) x13.Op x13.Name x13.Args x13.Names x13.Pred.Op x13.Pred.Name x13.Pred.N x13.Pred.Kids x13.Preds out 0 bo22)<|y4 0 .normal (hU t t40 t41 o22 (aO (t42+1))) rfl (eh (aI (oI (av t)) (aI (up (aq iu o22)) (aI (up (aq av t40)) (aI trivial (aI trivial trivial)))))) (aI trivial trivial)
  exact dV (A:=IP) mixed z<|by kernel_rfl
 ·obtain rfl:=lf h
  have z:=sg 0 c12<|eF (.exit 4) (o0 out)
  exact iW IP (by intro hx;cases hx) z<|by kernel_rfl
theorem DL(hR69:s9 R69){x:waB}(h:rK R69 t t40 t41 out t42=some x):aQ Pg GE 0 (.loop (cA NV 247)) (EX (.exit 4) (o0 x)) (hU t t40 t41 out t42):=
 aQ.loop (S:=fun(zz:waB×Int)=>hU t t40 t41 zz.1 zz.2) (ex:=(fun _=>.exit 4)) (s:=(out,t42)) h fun zz y hy=>Cf R69 t t40 t41 zz.1 zz.2 hR69 hy
end
def oX(R69:oB)(t:ae):Option waB:=
 (app ([t.Pred]:List aa) t.Preds).bind fun l1=>
 (rJ l1 (l1.length:Int) ([]:List ag) 0).bind fun o11=>
 (rK R69 t t.Args (t.Args.length:Int) o11 0).bind fun o23=>
 (nS o23 ([]:List ag)).bind fun r24=>
 some r24
theorem GI(R69:oB)(hR69:s9 R69){t:ae}{r:waB}(h:oX R69 t=some r):CC Pg GE 152 [.agg (af t)] (sl cS r) [(0,9)]:=by
 obtain⟨l1,bl1,h⟩:=aA h
 obtain⟨o11,bo11,h⟩:=aA h
 obtain⟨o23,bo23,h⟩:=aA h
 obtain⟨r24,br24,h⟩:=aA h
 obtain rfl:=lf h
 have z:=se (co t)<|sv (d9 t)<|sv (ec t)<|sv (cd.mk' (v:=ff) dl ([t.Pred]:List aa) 1 (by kernel_rfl))<|sv (dN t)<|sv (dQ t)<|sv (cd.ap bl1)<|cw (cd.ln l1)<|di (DJ t l1 (l1.length:Int) ([]:List ag) 0 bo11)<|sv (aT t)<|sv (aU t)<|cw (cQ.ln t.Args)<|di (DL R69 t t.Args (t.Args.length:Int) o11 0 hR69 bo23)<|bP (AO br24)<|en (aI (rP (sl cS r24))<|(aq iu r24))
 exact ck IP call152 func152 (c:=NV) rfl (aI (av t) trivial) z<|by kernel_rfl
def ue:(ae->Option waB)->(ae)->Option waB:=fun(rec:ae->Option waB) (x:ae)=>oX (fun t=>rec t) x
def yq(t:ae):Option waB:=oP ue t
theorem Is{t:ae}{r:waB}(h:yq t=some r):CC Pg GE 152 [.agg (af t)] (sl cS r) [(0,9)]:=
 cR (F:=ue) (M:=fun(x:ae) (r:waB)=>CC Pg GE 152 [.agg (af x)] (sl cS r) [(0,9)]) (fun rec hrec x r h=>GI _ (fun t r h=>hrec t r h) h) h
noncomputable def qcq:Code:=f153.body.getD .skip
def qcb:List Nat:=[13,19]
def eR(s:ai)(name:ag)(a:aa):Option ai:=
 (bM s ([name]:List ag)).bind fun r1=>
 (app r1.names ([name]:List ag)).bind fun l2=>
 (app r1.by_ ([a]:List aa)).bind fun l3=>
 some (⟨l2,l3⟩:ai)
theorem rN{s:ai}{name:ag}{a:aa}{r:ai}(h:eR s name a=some r):CC Pg GE 153 [.agg (aw s),.str name,.agg (ac a)] (.agg (aw r)) [(0,9),(1,36)]:=by
 obtain⟨r1,br1,h⟩:=aA h
 obtain⟨l2,bl2,h⟩:=aA h
 obtain⟨l3,bl3,h⟩:=aA h
 obtain rfl:=lf h
 have z:=se (dm s)<|se (cf a)<|sx M6<|sv (cb s)<|sv (bR.mk' (v:=PVal.str) L9 ([name]:List ag) 1 (by kernel_rfl))<|bP (eO br1)<|sx M6<|sy (cu r1)<|sv (bR.mk' (v:=PVal.str) L9 ([name]:List ag) 1 (by kernel_rfl))<|sv (bR.ap bl2)<|sv (aY a)<|sv (cd.mk' (v:=ff) dl ([a]:List aa) 1 (by kernel_rfl))<|sv (cd.ap bl3)<|sz (cm (⟨l2,l3⟩:ai) [])<|sy (cu (⟨l2,l3⟩:ai))<|en (aI (mW (⟨l2,l3⟩:ai))<|aI (bm (⟨l2,l3⟩:ai))<|rT)
 exact ck qcb call153 func153 (c:=qcq) rfl (aI (bm s) (aI trivial (aI (ah a) trivial))) z<|by kernel_rfl
noncomputable def Zn:Code:=f138.body.getD .skip
def U4:List Nat:=[44,48,80]
section
variable(R61:bI)(t:ae)(t40:waC)(t41:Int)(m:waC)(m2:waA)(m3:Int)(m4:ag)(n:Nat)(m6:Int)(m7:ag)(m8:Int)(m9:waA)(m10:waA)(m11:waB)(m12:waA)(used:waB)(t42:Int)(w3:List ag)(m5:waC)(m13:waB)(m14:waA)
def bC:az:=aW 99 [(3,.eptr (af t)),(4,.bptr 2 0),(5,.bptr 4 0),(7,sl cS used),(8,.bptr 6 0),(40,sl af t40),(41,.int .i64 t41),(42,.int .i64 t42)] [.dead,.dead,.cells [.int .i64 0,.str ([]:ag),sl af m,sl cS ([]:List ag),.int .i64 0,.str ([]:ag),.int .i64 0,sl ac m2,sl ac m2] [(2,38),(3,9),(7,36),(8,36)],.cells (wv cS w3) [],.cells [.int .i64 m3,.str m4,sl af m5,.bsl 3 0 n,.int .i64 m6,.str m7,.int .i64 m8,sl ac m9,sl ac m10] [(2,38)],.cells [sl cS m11,sl ac m12] [],.cells [sl cS m13,sl ac m14] []] [((7,0),9)]
def dW(o:List ag×waC×waB×waA):az:=aW 99 [(4,.bptr 2 0),(5,.bptr 4 0)] [.dead,.dead,.cells [.int .i64 0,.str ([]:ag),sl af m,sl cS ([]:List ag),.int .i64 0,.str ([]:ag),.int .i64 0,sl ac m2,sl ac m2] [(2,38),(3,9),(7,36),(8,36)],.cells (wv cS o.1) [],.cells [.int .i64 m3,.str m4,sl af o.2.1,.bsl 3 0 n,.int .i64 m6,.str m7,.int .i64 m8,sl ac m9,sl ac m10] [(2,38)],.cells [sl cS m11,sl ac m12] [],.cells [sl cS o.2.2.1,sl ac o.2.2.2] []] []
def bo:Option ((waB×Int×List ag×waC×waB×waA)⊕((List ag×waC×waB×waA))):=
 if (decide (t42 < t41)) = true then
  (cH t40 t42).bind fun x9=>
  (R61 (⟨m13,m14⟩:ai) x9).bind fun r10=>
  (app m5 ([r10]:List ae)).bind fun l11=>
  if(decide (t42>=(t.Names.length:Int)))=true then
   some (.inl (used,aO (t42+1),w3,l11,m13,m14))
  else
   (cH t.Names t42).bind fun x14=>
   (bM (⟨m13,m14⟩:ai) ([x14]:List ag)).bind fun r15=>
   (dF r15).bind fun r16=>
   (eJ r16 x14).bind fun r17=>
   if r17=true then
    (kY used x14).bind fun r20=>
    (U1 n w3 t42).bind fun x21=>
    (Z3 w3 t42 r20).bind fun l22=>
    (U1 n l22 t42).bind fun x23=>
    (app used ([x23]:List ag)).bind fun l24=>
    (U1 n l22 t42).bind fun x25=>
    (eR r15 x14 (⟨3,x25,0,([]:List aa)⟩:aa)).bind fun r26=>
    some (.inl (l24,aO (t42+1),l22,l11,r26.names,r26.by_))
   else
    some (.inl (used,aO (t42+1),w3,l11,r15.names,r15.by_))
 else
  some (.inr (w3,m5,m13,m14))
def ew:Option ((List ag×waC×waB×waA)):=loop (fun(zz:waB×Int×List ag×waC×waB×waA)=>bo R61 t t40 t41 n zz.1 zz.2.1 zz.2.2.1 zz.2.2.2.1 zz.2.2.2.2.1 zz.2.2.2.2.2) (used,t42,w3,m5,m13,m14)
theorem mh(hR61:cr R61){y:(waB×Int×List ag×waC×waB×waA)⊕((List ag×waC×waB×waA))}(h:bo R61 t t40 t41 n used t42 w3 m5 m13 m14=some y):aQ Pg GE 0 (cA Zn 1015) (LQ (fun(zz:waB×Int×List ag×waC×waB×waA)=>bC t t40 t41 m m2 m3 m4 n m6 m7 m8 m9 m10 m11 m12 zz.1 zz.2.1 zz.2.2.1 zz.2.2.2.1 zz.2.2.2.2.1 zz.2.2.2.2.2) (fun _=>.exit 0) (dW m m2 m3 m4 n m6 m7 m8 m9 m10 m11 m12) y) (bC t t40 t41 m m2 m3 m4 n m6 m7 m8 m9 m10 m11 m12 used t42 w3 m5 m13 m14):=by
 rcases aX h with⟨c8,h⟩|⟨c8,h⟩
 ·obtain⟨x9,bx9,h⟩:=aA h
  obtain⟨r10,br10,h⟩:=aA h
  obtain⟨l11,bl11,h⟩:=aA h
  have p13:=fun{sc F} (r:PS sc F)=>sg 0 c8<|sv (cQ.ia (k:=.i64) bx9)<|sv (aZ x9)<|sx A6<|sx (iX x9)<|ra [0,1,0,0,12,28,63,127,255]<|sv (cm (⟨m13,m14⟩:ai) [])<|sv (dj x9 [])<|bP (hR61 _ _ _ br10)<|sv (cQ.mk' (v:=lO) gi ([r10]:List ae) 1 (by kernel_rfl))<|sv (cQ.ap bl11)<|WY (rfl:bQ (sl af l11)=some [sl af l11])<|sv (be t)<|sv (bh t)<|cw (bR.ln t.Names)<|r
  rcases aX h with⟨c12,h⟩|⟨c12,h⟩
  ·obtain rfl:=lf h
   have z:=p13<|sg 0 c12<|y4 0 .normal (bC t t40 t41 m m2 m3 m4 n m6 m7 m8 m9 m10 m11 m12 used (aO (t42+1)) w3 l11 m13 m14) rfl (eh (aI (oI (av t)) (aI (d7 rfl) (aI (d7 rfl) (aI (up (aq iu used)) (aI (d7 rfl) (aI (up (aq av t40)) (aI trivial (aI trivial trivial))))))))) (aI trivial (aI trivial (aI (aI trivial (aI trivial (aI (up (aq av m)) (aI (up (aq iu ([]:List ag))) (aI trivial (aI trivial (aI trivial (aI (up (aq ah m2)) (aI (up (aq ah m2)) trivial))))))))) (aI (qb2 _ iu w3) (aI (aI trivial (aI trivial (aI (up (aq av l11)) (aI (d7 rfl) (aI trivial (aI trivial (aI trivial (aI (up (aq ah m9)) (aI (up (aq ah m10)) trivial))))))))) (aI (aI (up (aq iu m11)) (aI (up (aq ah m12)) trivial)) (aI (aI (up (aq iu m13)) (aI (up (aq ah m14)) trivial)) trivial)))))))
   exact dV (A:=U4) mixed z<|by kernel_rfl
  ·obtain⟨x14,bx14,h⟩:=aA h
   obtain⟨r15,br15,h⟩:=aA h
   obtain⟨r16,br16,h⟩:=aA h
   obtain⟨r17,br17,h⟩:=aA h
   have p19:=fun{sc F} (r:PS sc F)=>p13<|sg 0 c12<|sv (be t)<|sv (bh t)<|sv (bR.ia (k:=.i64) bx14)<|sv (iY Nd (.str x14) [])<|sv (cm (⟨m13,m14⟩:ai) [])<|sv (bR.mk' (v:=PVal.str) L9 ([x14]:List ag) 1 (by kernel_rfl))<|bP (eO br15)<|sy (cu r15)<|sv (cm r15 [])<|bP (jL br16)<|bP (gz br17)<|r
   rcases aX h with⟨c18,h⟩|⟨c18,h⟩
   ·obtain⟨r20,br20,h⟩:=aA h
    obtain⟨x21,bx21,h⟩:=aA h
    obtain⟨l22,bl22,h⟩:=aA h
    obtain⟨x23,bx23,h⟩:=aA h
    obtain⟨l24,bl24,h⟩:=aA h
    obtain⟨x25,bx25,h⟩:=aA h
    obtain⟨r26,br26,h⟩:=aA h
    obtain rfl:=lf h
    have z:=p19<|sg 0 c18<|qb5 (.dx [0,1,0,0,0,24,63,127] [] [] [3])<|ss<|bP (tV br20)<|sv (bR.iaN 3 (k:=.i64) bx21)<|qdm (bR.stR (L9 r20) bl22)<|ss<|sv (bR.iaN 3 (k:=.i64) bx23)<|sv (bR.ldN (fun r=>iY Nd (.str x23) r) bx23)<|sv (bR.mk' (v:=PVal.str) L9 ([x23]:List ag) 1 (by kernel_rfl))<|sv (bR.ap bl24)<|ra [0,0,0,4,0,28,60,124,255,511]<|sv (cm r15 [])<|ss<|sv (bR.iaN 3 (k:=.i64) bx25)<|sv (bR.ldN (fun r=>iY Nd (.str x25) r) bx25)<|sb (oG 3 x25) (oF 3 x25)<|bP (rN br26)<|Ym (fe r26)<|y4 0 .normal (bC t t40 t41 m m2 m3 m4 n m6 m7 m8 m9 m10 m11 m12 l24 (aO (t42+1)) l22 l11 r26.names r26.by_) rfl (eh (aI (oI (av t)) (aI (d7 rfl) (aI (d7 rfl) (aI (up (aq iu l24)) (aI (d7 rfl) (aI (up (aq av t40)) (aI trivial (aI trivial trivial))))))))) (aI trivial (aI trivial (aI (aI trivial (aI trivial (aI (up (aq av m)) (aI (up (aq iu ([]:List ag))) (aI trivial (aI trivial (aI trivial (aI (up (aq ah m2)) (aI (up (aq ah m2)) trivial))))))))) (aI (qb2 _ iu l22) (aI (aI trivial (aI trivial (aI (up (aq av l11)) (aI (d7 rfl) (aI trivial (aI trivial (aI trivial (aI (up (aq ah m9)) (aI (up (aq ah m10)) trivial))))))))) (aI (aI (up (aq iu m11)) (aI (up (aq ah m12)) trivial)) (aI (aI (up (aq iu r26.names)) (aI (up (aq ah r26.by_)) trivial)) trivial)))))))
    exact dV (A:=U4) mixed z<|by kernel_rfl
   ·obtain rfl:=lf h
    have z:=p19<|sg 0 c18<|y4 0 .normal (bC t t40 t41 m m2 m3 m4 n m6 m7 m8 m9 m10 m11 m12 used (aO (t42+1)) w3 l11 r15.names r15.by_) rfl (eh (aI (oI (av t)) (aI (d7 rfl) (aI (d7 rfl) (aI (up (aq iu used)) (aI (d7 rfl) (aI (up (aq av t40)) (aI trivial (aI trivial trivial))))))))) (aI trivial (aI trivial (aI (aI trivial (aI trivial (aI (up (aq av m)) (aI (up (aq iu ([]:List ag))) (aI trivial (aI trivial (aI trivial (aI (up (aq ah m2)) (aI (up (aq ah m2)) trivial))))))))) (aI (qb2 _ iu w3) (aI (aI trivial (aI trivial (aI (up (aq av l11)) (aI (d7 rfl) (aI trivial (aI trivial (aI trivial (aI (up (aq ah m9)) (aI (up (aq ah m10)) trivial))))))))) (aI (aI (up (aq iu m11)) (aI (up (aq ah m12)) trivial)) (aI (aI (up (aq iu r15.names)) (aI (up (aq ah r15.by_)) trivial)) trivial)))))))
    exact dV (A:=U4) mixed z<|by kernel_rfl
 ·obtain rfl:=lf h
  have z:=sg 0 c8<|eF (.exit 0) (dW m m2 m3 m4 n m6 m7 m8 m9 m10 m11 m12 (w3,m5,m13,m14))
  exact iW U4 (by intro hx;cases hx) z<|by kernel_rfl
theorem mU(hR61:cr R61){x:(List ag×waC×waB×waA)}(h:ew R61 t t40 t41 n used t42 w3 m5 m13 m14=some x):aQ Pg GE 0 (.loop (cA Zn 1015)) (EX (.exit 0) (dW m m2 m3 m4 n m6 m7 m8 m9 m10 m11 m12 x)) (bC t t40 t41 m m2 m3 m4 n m6 m7 m8 m9 m10 m11 m12 used t42 w3 m5 m13 m14):=
 aQ.loop (S:=fun(zz:waB×Int×List ag×waC×waB×waA)=>bC t t40 t41 m m2 m3 m4 n m6 m7 m8 m9 m10 m11 m12 zz.1 zz.2.1 zz.2.2.1 zz.2.2.2.1 zz.2.2.2.2.1 zz.2.2.2.2.2) (ex:=(fun _=>.exit 0)) (s:=(used,t42,w3,m5,m13,m14)) h fun zz y hy=>mh R61 t t40 t41 m m2 m3 m4 n m6 m7 m8 m9 m10 m11 m12 zz.1 zz.2.1 zz.2.2.1 zz.2.2.2.1 zz.2.2.2.2.1 zz.2.2.2.2.2 hR61 hy
end
def fu(R61:bI)(s:ai)(t:ae):Option ae:=
 (kK t.Names).bind fun r1=>
 (cD s t.Pred).bind fun r2=>
 (li t.Preds s).bind fun r3=>
 (dF s).bind fun r4=>
 (yq t).bind fun r5=>
 (app r4 r5).bind fun l6=>
 (app l6 t.Names).bind fun l7=>
 (ew R61 t t.Args (t.Args.length:Int) r1.length l7 0 r1 ([]:List ae) s.names s.by_).bind fun o27=>
 (YQ r1.length o27.1).bind fun l28=>
 some (⟨t.Op,t.Name,o27.2.1,l28,r2,r3⟩:ae)
theorem pe(R61:bI)(hR61:cr R61){s:ai}{t:ae}{r:ae}(h:fu R61 s t=some r):CC Pg GE 138 [.agg (aw s),.agg (af t)] (.agg (af r)) [(2,38)]:=by
 obtain⟨r1,br1,h⟩:=aA h
 obtain⟨r2,br2,h⟩:=aA h
 obtain⟨r3,br3,h⟩:=aA h
 obtain⟨r4,br4,h⟩:=aA h
 obtain⟨r5,br5,h⟩:=aA h
 obtain⟨l6,bl6,h⟩:=aA h
 obtain⟨l7,bl7,h⟩:=aA h
 obtain⟨o27,bo27,h⟩:=aA h
 obtain⟨l28,bl28,h⟩:=aA h
 obtain rfl:=lf h
 have z:=se (dm s)<|se (co t)<|sx A6<|qb5 (.dx [0,1,0,4,0,16,48,0,0,256,1008,0,2048,0,8192,32752,65535,0,262143] [.cells (wv cS r1) []] [(6,3)] [])<|sv (aH t)<|sv (aJ t)<|sv (df t)<|sv (dz t)<|sv (be t)<|sv (bh t)<|qdl 3 9 (bR.cloneR MA br1)<|sv (cb s)<|sv (d9 t)<|sv (ec t)<|bP (fL br2)<|sv (dN t)<|sv (dQ t)<|sv (cb s)<|bP (vo br3)<|sb (yW t.Op t.Name 3 r1.length r2 r3) (yU t.Op t.Name 3 r1.length r2 r3)<|Ym (qd0 [.int .i64 t.Op,.str t.Name,sl af ([]:List ae),.bsl 3 0 r1.length,.int .i64 r2.Op,.str r2.Name,.int .i64 r2.N,sl ac r2.Kids,sl ac r3])<|sv (cb s)<|sx M6<|sx (fe s)<|ra [0,1,0,7,15,0,32,127,255]<|sv (cm s [])<|bP (jL br4)<|sv (aZ t)<|bP (Is br5)<|sv (bR.ap bl6)<|sv (be t)<|sv (bh t)<|sv (bR.ap bl7)<|sv (cb s)<|sx M6<|sx (fe s)<|sv (aT t)<|sv (aU t)<|cw (cQ.ln t.Args)<|di (mU R61 t t.Args (t.Args.length:Int) ([]:List ae) ([]:List aa) t.Op t.Name r1.length r2.Op r2.Name r2.N r2.Kids r3 s.names s.by_ l7 0 r1 ([]:List ae) s.names s.by_ hR61 bo27)<|qby 3 (l28.map cS) [4,5] [] (bR.fz1 (m:=0) (b:=3) rfl l28) (bR.fz2 3 l28) (qcE cS bl28)<|sf (U2 3 (p:=sl af ([]:List ae)) (aq av ([]:List ae)))<|sf (U2 3 (p:=sl cS ([]:List ag)) (aq iu ([]:List ag)))<|sf (U2 3 (p:=sl ac ([]:List aa)) (aq ah ([]:List aa)))<|sf (U2 3 (p:=sl ac ([]:List aa)) (aq ah ([]:List aa)))<|sf (U2 3 (p:=sl af o27.2.1) (aq av o27.2.1))<|sf (qcF cS bl28)<|sf (U2 3 (p:=sl ac r2.Kids) (aq ah r2.Kids))<|sf (U2 3 (p:=sl ac r3) (aq ah r3))<|sf (U2 3 (p:=sl cS s.names) (aq iu s.names))<|sf (U2 3 (p:=sl ac s.by_) (aq ah s.by_))<|sf (U2 3 (p:=sl cS o27.2.2.1) (aq iu o27.2.2.1))<|sf (U2 3 (p:=sl ac o27.2.2.2) (aq ah o27.2.2.2))<|sz (dj (⟨t.Op,t.Name,o27.2.1,l28,r2,r3⟩:ae) [])<|sy (bz (⟨t.Op,t.Name,o27.2.1,l28,r2,r3⟩:ae))<|en (aI (qd (⟨t.Op,t.Name,o27.2.1,l28,r2,r3⟩:ae))<|aI (av (⟨t.Op,t.Name,o27.2.1,l28,r2,r3⟩:ae))<|rT)
 exact ck U4 call138 func138 (c:=Zn) rfl (aI (bm s) (aI (av t) trivial)) z<|by kernel_rfl
noncomputable def Zp:Code:=f141.body.getD .skip
def Y9:List Nat:=[14,21]
section
variable(R61:bI)(v:ai)(t8:waC)(t9:Int)(out:waC)(t10:Int)
def eT:az:=aW 22 [(1,.func (.func 120) [.agg (aw v)] []),(5,sl af out),(8,sl af t8),(9,.int .i64 t9),(10,.int .i64 t10)] [] [((5,0),38)]
def j8(o:waC):az:=aW 22 [(5,sl af o)] [] [((5,0),38)]
def py:Option ((waC×Int)⊕(waC)):=
 if(decide (t10<t9))=true then
  (cH t8 t10).bind fun x2=>
  (R61 v x2).bind fun r3=>
  (app out ([r3]:List ae)).bind fun l4=>
  some (.inl (l4,aO (t10+1)))
 else
  some (.inr out)
def mf:Option waC:=loop (fun(zz:waC×Int)=>py R61 v t8 t9 zz.1 zz.2) (out,t10)
theorem wV(hR61:cr R61){y:(waC×Int)⊕(waC)}(h:py R61 v t8 t9 out t10=some y):aQ Pg GE 0 (cA Zp 119) (LQ (fun(zz:waC×Int)=>eT v t8 t9 zz.1 zz.2) (fun _=>.exit 0) j8 y) (eT v t8 t9 out t10):=by
 rcases aX h with⟨c1,h⟩|⟨c1,h⟩
 ·obtain⟨x2,bx2,h⟩:=aA h
  obtain⟨r3,br3,h⟩:=aA h
  obtain⟨l4,bl4,h⟩:=aA h
  obtain rfl:=lf h
  have z:=sg 0 c1<|sv (cQ.ia (k:=.i64) bx2)<|sv (aZ x2)<|sx A6<|sx (iX x2)<|sv (dj x2 [])<|bP (hR61 _ _ _ br3)<|sv (cQ.mk' (v:=lO) gi ([r3]:List ae) 1 (by kernel_rfl))<|sv (cQ.ap bl4)<|y4 0 .normal (eT v t8 t9 l4 (aO (t10+1))) rfl (eh (aI (aI (aI (up (bm v)) trivial) trivial) (aI (up (aq av l4)) (aI (up (aq av t8)) (aI trivial (aI trivial trivial)))))) trivial
  exact dV (A:=Y9) mixed z<|by kernel_rfl
 ·obtain rfl:=lf h
  have z:=sg 0 c1<|eF (.exit 0) (j8 out)
  exact iW Y9 (by intro hx;cases hx) z<|by kernel_rfl
theorem yr(hR61:cr R61){x:waC}(h:mf R61 v t8 t9 out t10=some x):aQ Pg GE 0 (.loop (cA Zp 119)) (EX (.exit 0) (j8 x)) (eT v t8 t9 out t10):=
 aQ.loop (S:=fun(zz:waC×Int)=>eT v t8 t9 zz.1 zz.2) (ex:=(fun _=>.exit 0)) (s:=(out,t10)) h fun zz y hy=>wV R61 v t8 t9 zz.1 zz.2 hR61 hy
end
def qc(R61:bI)(a:waC)(c:ai):Option waC:=
 (mf R61 c a (a.length:Int) ([]:List ae) 0).bind fun o5=>
 some o5
theorem Ci(R61:bI)(hR61:cr R61){a:waC}{c:ai}{r:waC}(h:qc R61 a c=some r):CC Pg GE 141 [sl af a,.func (.func 120) [.agg (aw c)] []] (sl af r) [(0,38)]:=by
 obtain⟨o5,bo5,h⟩:=aA h
 obtain rfl:=lf h
 have z:=cw (cQ.ln a)<|di (yr R61 c a (a.length:Int) ([]:List ae) 0 hR61 bo5)<|en (aI (rP (sl af o5))<|(aq av o5))
 exact ck Y9 call141 func141 (c:=Zp) rfl (aI (aq av a) (aI (aI (aI (bm c) trivial) trivial) trivial)) z<|by kernel_rfl
noncomputable def qaM:Code:=f120.body.getD .skip
def qan:List Nat:=[]
def ey(R61:bI)(s:ai)(t:ae):Option ae:=
 if(t.Op==6)=true then
  (fu R61 s t).bind fun r3=>
  some r3
 else
  (kK t.Names).bind fun r4=>
  (cD s t.Pred).bind fun r5=>
  (li t.Preds s).bind fun r6=>
  (qc R61 t.Args s).bind fun r7=>
  some (⟨t.Op,t.Name,r7,r4,r5,r6⟩:ae)
theorem rM(R61:bI)(hR61:cr R61){s:ai}{t:ae}{r:ae}(h:ey R61 s t=some r):CC Pg GE 120 [.agg (aw s),.agg (af t)] (.agg (af r)) [(2,38)]:=by
 have p2:=fun{sc F} (r:PS sc F)=>se (dm s)<|se (co t)<|sx A6<|sv (aH t)<|sv (aJ t)<|r
 rcases aX h with⟨c1,h⟩|⟨c1,h⟩
 ·obtain⟨r3,br3,h⟩:=aA h
  obtain rfl:=lf h
  have z:=p2<|sg 0 c1<|sv (cb s)<|sv (aZ t)<|bP (pe R61 hR61 br3)<|sy (bz r3)<|en (aI (qd r3)<|aI (av r3)<|rT)
  exact ck qan call120 func120 (c:=qaM) rfl (aI (bm s) (aI (av t) trivial)) z<|by kernel_rfl
 ·obtain⟨r4,br4,h⟩:=aA h
  obtain⟨r5,br5,h⟩:=aA h
  obtain⟨r6,br6,h⟩:=aA h
  obtain⟨r7,br7,h⟩:=aA h
  obtain rfl:=lf h
  have z:=p2<|sg 0 c1<|ra [0,1,0,4,0,16,48,0,0,256,1008,0,2048,0,8192,32752,65535,0,262143]<|sv (aH t)<|sv (aJ t)<|sv (df t)<|sv (dz t)<|sv (be t)<|sv (bh t)<|bP (Df br4)<|sv (cb s)<|sv (d9 t)<|sv (ec t)<|bP (fL br5)<|sv (dN t)<|sv (dQ t)<|sv (cb s)<|bP (vo br6)<|sb (De t.Op t.Name r4 r5 r6) (Db t.Op t.Name r4 r5 r6)<|Ym (iX (⟨t.Op,t.Name,([]:List ae),r4,r5,r6⟩:ae))<|sv (aT t)<|sv (aU t)<|sv (cb s)<|bP (Ci R61 hR61 br7)<|sz (dj (⟨t.Op,t.Name,r7,r4,r5,r6⟩:ae) [])<|sy (bz (⟨t.Op,t.Name,r7,r4,r5,r6⟩:ae))<|en (aI (qd (⟨t.Op,t.Name,r7,r4,r5,r6⟩:ae))<|aI (av (⟨t.Op,t.Name,r7,r4,r5,r6⟩:ae))<|rT)
  exact ck qan call120 func120 (c:=qaM) rfl (aI (bm s) (aI (av t) trivial)) z<|by kernel_rfl
def gy:((ai×ae)->Option ae)->(ai×ae)->Option ae:=fun(rec:(ai×ae)->Option ae) (x:ai×ae)=>ey (fun s t=>rec (s,t)) x.1 x.2
def ip(s:ai)(t:ae):Option ae:=oP gy (s,t)
theorem sQ{s:ai}{t:ae}{r:ae}(h:ip s t=some r):CC Pg GE 120 [.agg (aw s),.agg (af t)] (.agg (af r)) [(2,38)]:=
 cR (F:=gy) (M:=fun(x:ai×ae) (r:ae)=>CC Pg GE 120 [.agg (aw x.1),.agg (af x.2)] (.agg (af r)) [(2,38)]) (fun rec hrec x r h=>rM _ (fun s t r h=>hrec (s,t) r h) h) h
noncomputable def qcm:Code:=f113.body.getD .skip
def qb7:List Nat:=[]
def qb(t:ae)(a:waB)(a2:waA):Option ae:=
 (K3 a none (some (if(a2.length:Int)<(a.length:Int)then(a2.length:Int)else(a.length:Int)))).bind fun l1=>
 (K3 a2 none (some (if(a2.length:Int)<(a.length:Int)then(a2.length:Int)else(a.length:Int)))).bind fun l2=>
 (bM (⟨l1,l2⟩:ai) ([([118]:ag)]:List ag)).bind fun r3=>
 (ip r3 t).bind fun r4=>
 some r4
theorem Ch{t:ae}{a:waB}{a2:waA}{r:ae}(h:qb t a a2=some r):CC Pg GE 113 [.agg (af t),sl cS a,sl ac a2] (.agg (af r)) [(2,38)]:=by
 obtain⟨l1,bl1,h⟩:=aA h
 obtain⟨l2,bl2,h⟩:=aA h
 obtain⟨r3,br3,h⟩:=aA h
 obtain⟨r4,br4,h⟩:=aA h
 obtain rfl:=lf h
 have z:=se (co t)<|sx A6<|cw (bR.ln a)<|cw (cd.ln a2)<|ra [0,0,3,0,0,24,63,0,255,0,1023]<|sv (bR.sc bl1)<|sv (cd.sc bl2)<|sv (sH l1 l2)<|sv (bR.mk' (v:=PVal.str) L9 ([([118]:ag)]:List ag) 1 (by kernel_rfl))<|bP (eO br3)<|Ym (fe r3)<|sv (cm r3 [])<|sv (aZ t)<|bP (sQ br4)<|sy (bz r4)<|en (aI (qd r4)<|aI (av r4)<|rT)
 exact ck qb7 call113 func113 (c:=qcm) rfl (aI (av t) (aI (aq iu a) (aI (aq ah a2) trivial))) z<|by kernel_rfl
noncomputable def qdQ:Code:=f99.body.getD .skip
def qdF:List Nat:=[]
def qB(t:ae)(name:ag)(a:aa):Option ae:=
 (qb t ([name]:List ag) ([a]:List aa)).bind fun r1=>
 some r1
theorem GJ{t:ae}{name:ag}{a:aa}{r:ae}(h:qB t name a=some r):CC Pg GE 99 [.agg (af t),.str name,.agg (ac a)] (.agg (af r)) [(2,38)]:=by
 obtain⟨r1,br1,h⟩:=aA h
 obtain rfl:=lf h
 have z:=se (co t)<|se (cf a)<|sx A6<|sv (aZ t)<|sv (bR.mk' (v:=PVal.str) L9 ([name]:List ag) 1 (by kernel_rfl))<|sv (aY a)<|sv (cd.mk' (v:=ff) dl ([a]:List aa) 1 (by kernel_rfl))<|bP (Ch br1)<|sy (bz r1)<|en (aI (qd r1)<|aI (av r1)<|rT)
 exact ck qdF call99 func99 (c:=qdQ) rfl (aI (av t) (aI trivial (aI (ah a) trivial))) z<|by kernel_rfl
noncomputable def qbX:Code:=f82.body.getD .skip
def qbJ:List Nat:=[41]
section
variable(i:Int)(v:ag)(t:ae)(n:Nat)(k:Int)(w1:List ae)
def eU:az:=aW 42 [(2,.int .i64 i),(3,.str v),(5,.eptr (af t)),(9,.bsl 1 0 n),(10,.int .i64 k)] [.dead,.cells (wv af w1) []] []
def j9(o:List ae):az:=aW 42 [(9,.bsl 1 0 n)] [.dead,.cells (wv af o) []] []
def dK:Option ((Int×List ae)⊕(waC)):=
 if(decide (k<(n:Int)))=true then
  (U1 n w1 k).bind fun x5=>
  (cH t.Names i).bind fun x6=>
  (qB x5 x6 (⟨3,v,0,([]:List aa)⟩:aa)).bind fun r7=>
  (U1 n w1 k).bind fun x8=>
  (Z3 w1 k r7).bind fun l9=>
  some (.inl (aO (k+1),l9))
 else
  some (.inr w1)
def mi:Option waC:=loop (fun(zz:Int×List ae)=>dK i v t n zz.1 zz.2) (k,w1)
theorem wZ{y:(Int×List ae)⊕(waC)}(h:dK i v t n k w1=some y):aQ Pg GE 0 (cA qbX 471) (LQ (fun(zz:Int×List ae)=>eU i v t n zz.1 zz.2) (fun _=>.exit 0) (j9 n) y) (eU i v t n k w1):=by
 rcases aX h with⟨c4,h⟩|⟨c4,h⟩
 ·obtain⟨x5,bx5,h⟩:=aA h
  obtain⟨x6,bx6,h⟩:=aA h
  obtain⟨r7,br7,h⟩:=aA h
  obtain⟨x8,bx8,h⟩:=aA h
  obtain⟨l9,bl9,h⟩:=aA h
  obtain rfl:=lf h
  exact rF qbJ (cw (cQ.lnR 1 0 n)<|sg 0 c4<|qb5 (.dx [0,0,0,0,12,28,0,64,0,448,960,0,2048,8188,16383,32767] [] [] [1])<|sv (cQ.iaN 1 (k:=.i64) bx5)<|sv (cQ.ldN (Uc x5) bx5)<|sv (be t)<|sv (bh t)<|sv (bR.ia (k:=.i64) bx6)<|sv (iY Nd (.str x6) [])<|sb (oG 3 v) (oF 3 v)<|bP (GJ br7)<|sv (cQ.iaN 1 (k:=.i64) bx8)<|qdm (cQ.stR (gi r7) bl9)<|eF .normal (eU i v t n (aO (k+1)) l9))<|by kernel_rfl
 ·obtain rfl:=lf h
  have z:=cw (cQ.lnR 1 0 n)<|sg 0 c4<|eF (.exit 0) (j9 n w1)
  exact iW qbJ (by intro hx;cases hx) z<|by kernel_rfl
theorem yB{x:waC}(h:mi i v t n k w1=some x):aQ Pg GE 0 (.loop (cA qbX 471)) (EX (.exit 0) (j9 n x)) (eU i v t n k w1):=
 aQ.loop (S:=fun(zz:Int×List ae)=>eU i v t n zz.1 zz.2) (ex:=(fun _=>.exit 0)) (s:=(k,w1)) h fun zz y hy=>wZ i v t n zz.1 zz.2 hy
end
def i8(a:waC)(t:ae)(i:Int)(a2:ag):Option waC:=
 (kK a).bind fun r1=>
 if(decide (i<(t.Names.length:Int)))=true then
  (mi i a2 t r1.length (aO (i+1)) r1).bind fun o10=>
  (YQ r1.length o10).bind fun l11=>
  some l11
 else
  (YQ r1.length r1).bind fun l12=>
  some l12
theorem rZ{a:waC}{t:ae}{i:Int}{a2:ag}{r:waC}(h:i8 a t i a2=some r):CC Pg GE 82 [sl af a,.agg (af t),.int .i64 i,.str a2] (sl af r) []:=by
 obtain⟨r1,br1,h⟩:=aA h
 have p3:=fun{sc F} (r:PS sc F)=>se (co t)<|qdl 1 38 (cQ.cloneR TO br1)<|sv (be t)<|sv (bh t)<|cw (bR.ln t.Names)<|r
 rcases aX h with⟨c2,h⟩|⟨c2,h⟩
 ·obtain⟨o10,bo10,h⟩:=aA h
  obtain⟨l11,bl11,h⟩:=aA h
  obtain rfl:=lf h
  have z:=p3<|sg 0 c2<|di (yB i a2 t r1.length (aO (i+1)) r1 bo10)<|qby 1 (l11.map af) [9] [] (cQ.fz1 (m:=0) (b:=1) rfl l11) (cQ.fz2 1 l11) (qcE af bl11)<|sf (qcF af bl11)<|en (aI (rP (sl af l11))<|(aq av l11))
  exact ck qbJ call82 func82 (c:=qbX) rfl (aI (aq av a) (aI (av t) (aI trivial (aI trivial trivial)))) z<|by kernel_rfl
 ·obtain⟨l12,bl12,h⟩:=aA h
  obtain rfl:=lf h
  have z:=p3<|sg 0 c2<|qby 1 (l12.map af) [9] [] (cQ.fz1 (m:=0) (b:=1) rfl l12) (cQ.fz2 1 l12) (qcE af bl12)<|sf (qcF af bl12)<|en (aI (rP (sl af l12))<|(aq av l12))
  exact ck qbJ call82 func82 (c:=qbX) rfl (aI (aq av a) (aI (av t) (aI trivial (aI trivial trivial)))) z<|by kernel_rfl
abbrev qq:=(ae->Option ae)
abbrev vD(R:qq):Prop:=∀(t:ae) (r:ae),R t=some r->CC Pg GE 45 [.agg (af t)] (.agg (af r)) [(2,38),(3,9),(7,36),(8,36)]
noncomputable def qcs:Code:=f45.body.getD .skip
def qcd:List Nat:=[19]
section
variable(R74:qq)(t12:waC)(t13:Int)(m:waC)(m2:waA)(m3:Int)(m4:ag)(t14:Int)(m5:waC)
def jc:az:=aW 27 [(2,.bptr 1 0),(3,.bptr 2 0),(12,sl af t12),(13,.int .i64 t13),(14,.int .i64 t14)] [.dead,.cells [.int .i64 0,.str ([]:ag),sl af m,sl cS ([]:List ag),.int .i64 0,.str ([]:ag),.int .i64 0,sl ac m2,sl ac m2] [(2,38),(3,9),(7,36),(8,36)],.cells [.int .i64 m3,.str m4,sl af m5,sl cS ([]:List ag),.int .i64 0,.str ([]:ag),.int .i64 0,sl ac m2,sl ac m2] [(2,38),(3,9),(7,36),(8,36)]] []
def qh(o:waC):az:=aW 27 [(2,.bptr 1 0),(3,.bptr 2 0)] [.dead,.cells [.int .i64 0,.str ([]:ag),sl af m,sl cS ([]:List ag),.int .i64 0,.str ([]:ag),.int .i64 0,sl ac m2,sl ac m2] [(2,38),(3,9),(7,36),(8,36)],.cells [.int .i64 m3,.str m4,sl af o,sl cS ([]:List ag),.int .i64 0,.str ([]:ag),.int .i64 0,sl ac m2,sl ac m2] [(2,38),(3,9),(7,36),(8,36)]] []
def xc:Option ((Int×waC)⊕(waC)):=
 if(decide (t14<t13))=true then
  (cH t12 t14).bind fun x2=>
  (R74 x2).bind fun r3=>
  (app m5 ([r3]:List ae)).bind fun l4=>
  some (.inl (aO (t14+1),l4))
 else
  some (.inr m5)
def um:Option waC:=loop (fun(zz:Int×waC)=>xc R74 t12 t13 zz.1 zz.2) (t14,m5)
theorem DS(hR74:vD R74){y:(Int×waC)⊕(waC)}(h:xc R74 t12 t13 t14 m5=some y):aQ Pg GE 0 (cA qcs 119) (LQ (fun(zz:Int×waC)=>jc t12 t13 m m2 m3 m4 zz.1 zz.2) (fun _=>.exit 0) (qh m m2 m3 m4) y) (jc t12 t13 m m2 m3 m4 t14 m5):=by
 rcases aX h with⟨c1,h⟩|⟨c1,h⟩
 ·obtain⟨x2,bx2,h⟩:=aA h
  obtain⟨r3,br3,h⟩:=aA h
  obtain⟨l4,bl4,h⟩:=aA h
  obtain rfl:=lf h
  have z:=sg 0 c1<|sv (cQ.ia (k:=.i64) bx2)<|sv (aZ x2)<|sx A6<|sx (iX x2)<|ra [0,1,0,4,12,31,63,127]<|sv (dj x2 [])<|bP (hR74 _ _ br3)<|sv (cQ.mk' (v:=lO) gi ([r3]:List ae) 1 (by kernel_rfl))<|sv (cQ.ap bl4)<|WY (rfl:bQ (sl af l4)=some [sl af l4])<|y4 0 .normal (jc t12 t13 m m2 m3 m4 (aO (t14+1)) l4) rfl (eh (aI (d7 rfl) (aI (d7 rfl) (aI (up (aq av t12)) (aI trivial (aI trivial trivial)))))) (aI trivial (aI (aI trivial (aI trivial (aI (up (aq av m)) (aI (up (aq iu ([]:List ag))) (aI trivial (aI trivial (aI trivial (aI (up (aq ah m2)) (aI (up (aq ah m2)) trivial))))))))) (aI (aI trivial (aI trivial (aI (up (aq av l4)) (aI (up (aq iu ([]:List ag))) (aI trivial (aI trivial (aI trivial (aI (up (aq ah m2)) (aI (up (aq ah m2)) trivial))))))))) trivial)))
  exact dV (A:=qcd) mixed z<|by kernel_rfl
 ·obtain rfl:=lf h
  have z:=sg 0 c1<|eF (.exit 0) (qh m m2 m3 m4 m5)
  exact iW qcd (by intro hx;cases hx) z<|by kernel_rfl
theorem Fl(hR74:vD R74){x:waC}(h:um R74 t12 t13 t14 m5=some x):aQ Pg GE 0 (.loop (cA qcs 119)) (EX (.exit 0) (qh m m2 m3 m4 x)) (jc t12 t13 m m2 m3 m4 t14 m5):=
 aQ.loop (S:=fun(zz:Int×waC)=>jc t12 t13 m m2 m3 m4 zz.1 zz.2) (ex:=(fun _=>.exit 0)) (s:=(t14,m5)) h fun zz y hy=>DS R74 t12 t13 m m2 m3 m4 zz.1 zz.2 hR74 hy
end
def qE(R74:qq)(t:ae):Option ae:=
 (um R74 t.Args (t.Args.length:Int) 0 ([]:List ae)).bind fun o5=>
 some (⟨t.Op,t.Name,o5,([]:List ag),(⟨0,([]:ag),0,([]:List aa)⟩:aa),([]:List aa)⟩:ae)
theorem Iy(R74:qq)(hR74:vD R74){t:ae}{r:ae}(h:qE R74 t=some r):CC Pg GE 45 [.agg (af t)] (.agg (af r)) [(2,38),(3,9),(7,36),(8,36)]:=by
 obtain⟨o5,bo5,h⟩:=aA h
 obtain rfl:=lf h
 have z:=se (co t)<|sx A6<|sv (aH t)<|sv (aJ t)<|sv (df t)<|sv (dz t)<|sb (N0 t.Op t.Name) (NX t.Op t.Name)<|sx A6<|sy (bz (⟨t.Op,t.Name,([]:List ae),([]:List ag),(⟨0,([]:ag),0,([]:List aa)⟩:aa),([]:List aa)⟩:ae))<|sv (aT t)<|sv (aU t)<|cw (cQ.ln t.Args)<|di (Fl R74 t.Args (t.Args.length:Int) ([]:List ae) ([]:List aa) t.Op t.Name 0 ([]:List ae) hR74 bo5)<|sz (dj (⟨t.Op,t.Name,o5,([]:List ag),(⟨0,([]:ag),0,([]:List aa)⟩:aa),([]:List aa)⟩:ae) [])<|sy (bz (⟨t.Op,t.Name,o5,([]:List ag),(⟨0,([]:ag),0,([]:List aa)⟩:aa),([]:List aa)⟩:ae))<|en (aI (qd (⟨t.Op,t.Name,o5,([]:List ag),(⟨0,([]:ag),0,([]:List aa)⟩:aa),([]:List aa)⟩:ae))<|aI (av (⟨t.Op,t.Name,o5,([]:List ag),(⟨0,([]:ag),0,([]:List aa)⟩:aa),([]:List aa)⟩:ae))<|rT)
 exact ck qcd call45 func45 (c:=qcs) rfl (aI (av t) trivial) z<|by kernel_rfl
def ws:(ae->Option ae)->(ae)->Option ae:=fun(rec:ae->Option ae) (x:ae)=>qE (fun t=>rec t) x
def vA(t:ae):Option ae:=oP ws t
theorem Bh{t:ae}{r:ae}(h:vA t=some r):CC Pg GE 45 [.agg (af t)] (.agg (af r)) [(2,38),(3,9),(7,36),(8,36)]:=
 cR (F:=ws) (M:=fun(x:ae) (r:ae)=>CC Pg GE 45 [.agg (af x)] (.agg (af r)) [(2,38),(3,9),(7,36),(8,36)]) (fun rec hrec x r h=>Iy _ (fun t r h=>hrec t r h) h) h
noncomputable def qaf:Code:=f44.body.getD .skip
def qaa:List Nat:=[]
def BU(t:ae):Option (ag×Bool):=
 if(t.Op==1)=true then
  some (([73,110,116]:ag),true)
 else
  if(t.Op==2)=true then
   some (([66,111,111,108]:ag),true)
  else
   if(t.Op==3)=true then
    some (([67,101,108,108]:ag),true)
   else
    if(t.Op==4)=true then
     if((t.Args.length:Int)==0)=true then
      some (t.Name,true)
     else
      some (([]:ag),false)
    else
     some (([]:ag),false)
theorem KY{t:ae}{r:ag×Bool}(h:BU t=some r):CC Pg GE 44 [.agg (af t)] (.tuple [.str r.1,.bool r.2]) []:=by
 have p2:=fun{sc F} (r:PS sc F)=>se (co t)<|sv (aH t)<|sv (aJ t)<|r
 rcases aX h with⟨c1,h⟩|⟨c1,h⟩
 ·obtain rfl:=lf h
  have z:=p2<|sg 0 c1<|en (aI (rP (.tuple [.str ([73,110,116]:ag),.bool true]))<|(aI trivial (aI trivial trivial)))
  exact ck qaa call44 func44 (c:=qaf) rfl (aI (av t) trivial) z<|by kernel_rfl
 ·have p4:=fun{sc F} (r:PS sc F)=>p2<|sg 0 c1<|r
  rcases aX h with⟨c3,h⟩|⟨c3,h⟩
  ·obtain rfl:=lf h
   have z:=p4<|sg 0 c3<|en (aI (rP (.tuple [.str ([66,111,111,108]:ag),.bool true]))<|(aI trivial (aI trivial trivial)))
   exact ck qaa call44 func44 (c:=qaf) rfl (aI (av t) trivial) z<|by kernel_rfl
  ·have p6:=fun{sc F} (r:PS sc F)=>p4<|sg 0 c3<|r
   rcases aX h with⟨c5,h⟩|⟨c5,h⟩
   ·obtain rfl:=lf h
    have z:=p6<|sg 0 c5<|en (aI (rP (.tuple [.str ([67,101,108,108]:ag),.bool true]))<|(aI trivial (aI trivial trivial)))
    exact ck qaa call44 func44 (c:=qaf) rfl (aI (av t) trivial) z<|by kernel_rfl
   ·have p8:=fun{sc F} (r:PS sc F)=>p6<|sg 0 c5<|r
    rcases aX h with⟨c7,h⟩|⟨c7,h⟩
    ·have p10:=fun{sc F} (r:PS sc F)=>p8<|sg 0 c7<|sv (aT t)<|sv (aU t)<|cw (cQ.ln t.Args)<|r
     rcases aX h with⟨c9,h⟩|⟨c9,h⟩
     ·obtain rfl:=lf h
      have z:=p10<|sg 0 c9<|sv (df t)<|sv (dz t)<|en (aI (rP (.tuple [.str t.Name,.bool true]))<|(aI trivial (aI trivial trivial)))
      exact ck qaa call44 func44 (c:=qaf) rfl (aI (av t) trivial) z<|by kernel_rfl
     ·obtain rfl:=lf h
      have z:=p10<|sg 0 c9<|en (aI (rP (.tuple [.str ([]:ag),.bool false]))<|(aI trivial (aI trivial trivial)))
      exact ck qaa call44 func44 (c:=qaf) rfl (aI (av t) trivial) z<|by kernel_rfl
    ·obtain rfl:=lf h
     have z:=p8<|sg 0 c7<|en (aI (rP (.tuple [.str ([]:ag),.bool false]))<|(aI trivial (aI trivial trivial)))
     exact ck qaa call44 func44 (c:=qaf) rfl (aI (av t) trivial) z<|by kernel_rfl
abbrev nO:=(aa->aa->Option Bool)
abbrev uy(R:nO):Prop:=∀(a:aa) (a2:aa) (r:Bool),R a a2=some r->CC Pg GE 93 [.agg (ac a),.agg (ac a2)] (.bool r) []
end Go.Proofs.YtbaamopmfmpfaaaGreatDoor
