/- PROVED: a part of the proof. Conditions: none. -/
import Derived.Test.YtbaamopmfmpfaaaGreatDoorPkA13
noncomputable section
namespace Go.Proofs.YtbaamopmfmpfaaaGreatDoor
open Go Go.Proofs.Tryz
set_option linter.unusedVariables false
set_option maxRecDepth 100000
noncomputable def UK:Code:=f152.body.getD .skip
def Ot:List Nat:=[33,44,61]
section
variable(t:ae)(t18:waB)(t19:Int)(t20:Int)(t25:waA)(t26:Int)(m:Int)(m2:ag)(m3:Int)(m4:waB)(out:waA)(t27:Int)
def gr:aA:=be 69 [(1,.eptr (af t)),(3,sl cS out),(18,sl ac t18),(19,.int .i64 t19),(20,.int .i64 t20),(25,sl cS t25),(26,.int .i64 t26),(27,.int .i64 t27)] [.dead,.cells [.int .i64 m,.str m2,.int .i64 m3,sl ac m4] []] [((25,0),9),((18,0),36),((3,0),9)]
def rG(o:waA):aA:=be 69 [(1,.eptr (af t)),(3,sl cS o),(18,sl ac t18),(19,.int .i64 t19),(20,.int .i64 t20)] [.dead,.cells [.int .i64 m,.str m2,.int .i64 m3,sl ac m4] []] [((18,0),36),((3,0),9)]
def y8:Option ((waA×Int)⊕(waA)):=
 if(decide (t27<t26))=true then
  (cz t25 t27).bind fun x6=>
  if(!(x6==([118]:ag)))=true then
   (app out ([x6]:List ag)).bind fun l9=>
   some (.inl (l9,aR (t27+1)))
  else
   some (.inl (out,aR (t27+1)))
 else
  some (.inr out)
def kU:Option waA:=loop (fun(zz:waA×Int)=>y8 t25 t26 zz.1 zz.2) (out,t27)
theorem GH{y:(waA×Int)⊕(waA)}(h:y8 t25 t26 out t27=some y):aU Pg GE 0 (cA UK 30687) (LQ (fun(zz:waA×Int)=>gr t t18 t19 t20 t25 t26 m m2 m3 m4 zz.1 zz.2) (fun _=>.exit 2) (rG t t18 t19 t20 m m2 m3 m4) y) (gr t t18 t19 t20 t25 t26 m m2 m3 m4 out t27):=by
 rcases bj h with⟨c5,h⟩|⟨c5,h⟩
 ·obtain⟨x6,bx6,h⟩:=ay h
  have p8:=fun{sc F} (r:PS sc F)=>sg 0 c5<|sv (bp.ia (k:=.i64) bx6)<|sv (dH Ba (.str x6) [])<|r
  rcases bj h with⟨c7,h⟩|⟨c7,h⟩
  ·obtain⟨l9,bl9,h⟩:=ay h
   obtain rfl:=lf h
   exact n9 Ot (p8<|sg 0 c7<|sv (bp.mk' (v:=PVal.str) E8 ([x6]:List ag) 1 (by kernel_rfl))<|sv (bp.ap bl9)<|eF .normal (gr t t18 t19 t20 t25 t26 m m2 m3 m4 l9 (aR (t27+1))))<|by kernel_rfl
  ·obtain rfl:=lf h
   exact n9 Ot (p8<|sg 0 c7<|eF .normal (gr t t18 t19 t20 t25 t26 m m2 m3 m4 out (aR (t27+1))))<|by kernel_rfl
 ·obtain rfl:=lf h
  have z:=sg 0 c5<|eF (.exit 2) (rG t t18 t19 t20 m m2 m3 m4 out)
  exact f6 Ot (by intro hx;cases hx) z<|by kernel_rfl
theorem IC{x:waA}(h:kU t25 t26 out t27=some x):aU Pg GE 0 (.loop (cA UK 30687)) (EX (.exit 2) (rG t t18 t19 t20 m m2 m3 m4 x)) (gr t t18 t19 t20 t25 t26 m m2 m3 m4 out t27):=
 aU.loop (S:=fun(zz:waA×Int)=>gr t t18 t19 t20 t25 t26 m m2 m3 m4 zz.1 zz.2) (ex:=(fun _=>.exit 2)) (s:=(out,t27)) h fun zz y hy=>GH t t18 t19 t20 t25 t26 m m2 m3 m4 zz.1 zz.2 hy
end
section
variable(t:ae)(t18:waB)(t19:Int)(out:waA)(t20:Int)
def i7:aA:=be 69 [(1,.eptr (af t)),(3,sl cS out),(18,sl ac t18),(19,.int .i64 t19),(20,.int .i64 t20)] [.dead] [((18,0),36),((3,0),9)]
def rF(o:waA):aA:=be 69 [(1,.eptr (af t)),(3,sl cS o)] [.dead] [((3,0),9)]
def y7:Option ((waA×Int)⊕(waA)):=
 if(decide (t20<t19))=true then
  (cz t18 t20).bind fun x3=>
  (sZ x3).bind fun r4=>
  (kU r4 (r4.length:Int) out 0).bind fun o10=>
  some (.inl (o10,aR (t20+1)))
 else
  some (.inr out)
def u5:Option waA:=loop (fun(zz:waA×Int)=>y7 t18 t19 zz.1 zz.2) (out,t20)
theorem GG{y:(waA×Int)⊕(waA)}(h:y7 t18 t19 out t20=some y):aU Pg GE 0 (cA UK 119) (LQ (fun(zz:waA×Int)=>i7 t t18 t19 zz.1 zz.2) (fun _=>.exit 0) (rF t) y) (i7 t t18 t19 out t20):=by
 rcases bj h with⟨c2,h⟩|⟨c2,h⟩
 ·obtain⟨x3,bx3,h⟩:=ay h
  obtain⟨r4,br4,h⟩:=ay h
  obtain⟨o10,bo10,h⟩:=ay h
  obtain rfl:=lf h
  have z:=sg 0 c2<|sv (bL.ia (k:=.i64) bx3)<|sv (bh x3)<|sx hO<|sx (cj x3)<|sv (bT x3 [])<|bz (Kl br4)<|cm (bp.ln r4)<|cW (IC t t18 t19 t20 r4 (r4.length:Int) x3.Op x3.Name x3.N x3.Kids out 0 bo10)<|uz 0 .normal (i7 t t18 t19 o10 (aR (t20+1))) rfl (dC (aI (ij (ak t)) (aI (up (aj dQ o10)) (aI (up (aj ah t18)) (aI trivial (aI trivial trivial)))))) (aI trivial trivial)
  exact df (A:=Ot) mixed z<|by kernel_rfl
 ·obtain rfl:=lf h
  have z:=sg 0 c2<|eF (.exit 0) (rF t out)
  exact f6 Ot (by intro hx;cases hx) z<|by kernel_rfl
theorem IB{x:waA}(h:u5 t18 t19 out t20=some x):aU Pg GE 0 (.loop (cA UK 119)) (EX (.exit 0) (rF t x)) (i7 t t18 t19 out t20):=
 aU.loop (S:=fun(zz:waA×Int)=>i7 t t18 t19 zz.1 zz.2) (ex:=(fun _=>.exit 0)) (s:=(out,t20)) h fun zz y hy=>GG t t18 t19 zz.1 zz.2 hy
end
section
variable(t:ae)(bound:waA)(t40:waC)(t41:Int)(t42:Int)(t51:waA)(t52:Int)(m:Int)(m2:ag)(m3:waC)(m4:waA)(m5:Int)(m6:ag)(m7:Int)(m8:waB)(m9:waB)(out:waA)(t53:Int)
def gu:aA:=be 69 [(1,.eptr (af t)),(3,sl cS out),(10,sl cS bound),(40,sl af t40),(41,.int .i64 t41),(42,.int .i64 t42),(51,sl cS t51),(52,.int .i64 t52),(53,.int .i64 t53)] [.dead,.cells [.int .i64 m,.str m2,sl af m3,sl cS m4,.int .i64 m5,.str m6,.int .i64 m7,sl ac m8,sl ac m9] []] [((51,0),9),((3,0),9)]
def rI(o:waA):aA:=be 69 [(1,.eptr (af t)),(3,sl cS o),(40,sl af t40),(41,.int .i64 t41),(42,.int .i64 t42)] [.dead,.cells [.int .i64 m,.str m2,sl af m3,sl cS m4,.int .i64 m5,.str m6,.int .i64 m7,sl ac m8,sl ac m9] []] [((3,0),9)]
def za:Option ((waA×Int)⊕(waA)):=
 if(decide (t53<t52))=true then
  (cz t51 t53).bind fun x17=>
  (fm bound x17).bind fun r18=>
  if(!r18)=true then
   (app out ([x17]:List ag)).bind fun l21=>
   some (.inl (l21,aR (t53+1)))
  else
   some (.inl (out,aR (t53+1)))
 else
  some (.inr out)
def kV:Option waA:=loop (fun(zz:waA×Int)=>za bound t51 t52 zz.1 zz.2) (out,t53)
theorem GJ{y:(waA×Int)⊕(waA)}(h:za bound t51 t52 out t53=some y):aU Pg GE 0 (cA UK 126911) (LQ (fun(zz:waA×Int)=>gu t bound t40 t41 t42 t51 t52 m m2 m3 m4 m5 m6 m7 m8 m9 zz.1 zz.2) (fun _=>.exit 6) (rI t t40 t41 t42 m m2 m3 m4 m5 m6 m7 m8 m9) y) (gu t bound t40 t41 t42 t51 t52 m m2 m3 m4 m5 m6 m7 m8 m9 out t53):=by
 rcases bj h with⟨c16,h⟩|⟨c16,h⟩
 ·obtain⟨x17,bx17,h⟩:=ay h
  obtain⟨r18,br18,h⟩:=ay h
  have p20:=fun{sc F} (r:PS sc F)=>sg 0 c16<|sv (bp.ia (k:=.i64) bx17)<|sv (dH Ba (.str x17) [])<|bz (ir br18)<|r
  rcases bj h with⟨c19,h⟩|⟨c19,h⟩
  ·obtain⟨l21,bl21,h⟩:=ay h
   obtain rfl:=lf h
   exact n9 Ot (p20<|sg 0 c19<|sv (bp.mk' (v:=PVal.str) E8 ([x17]:List ag) 1 (by kernel_rfl))<|sv (bp.ap bl21)<|eF .normal (gu t bound t40 t41 t42 t51 t52 m m2 m3 m4 m5 m6 m7 m8 m9 l21 (aR (t53+1))))<|by kernel_rfl
  ·obtain rfl:=lf h
   exact n9 Ot (p20<|sg 0 c19<|eF .normal (gu t bound t40 t41 t42 t51 t52 m m2 m3 m4 m5 m6 m7 m8 m9 out (aR (t53+1))))<|by kernel_rfl
 ·obtain rfl:=lf h
  have z:=sg 0 c16<|eF (.exit 6) (rI t t40 t41 t42 m m2 m3 m4 m5 m6 m7 m8 m9 out)
  exact f6 Ot (by intro hx;cases hx) z<|by kernel_rfl
theorem IE{x:waA}(h:kV bound t51 t52 out t53=some x):aU Pg GE 0 (.loop (cA UK 126911)) (EX (.exit 6) (rI t t40 t41 t42 m m2 m3 m4 m5 m6 m7 m8 m9 x)) (gu t bound t40 t41 t42 t51 t52 m m2 m3 m4 m5 m6 m7 m8 m9 out t53):=
 aU.loop (S:=fun(zz:waA×Int)=>gu t bound t40 t41 t42 t51 t52 m m2 m3 m4 m5 m6 m7 m8 m9 zz.1 zz.2) (ex:=(fun _=>.exit 6)) (s:=(out,t53)) h fun zz y hy=>GJ t bound t40 t41 t42 t51 t52 m m2 m3 m4 m5 m6 m7 m8 m9 zz.1 zz.2 hy
end
section
variable(R69:qZ)(t:ae)(t40:waC)(t41:Int)(out:waA)(t42:Int)
def i8:aA:=be 69 [(1,.eptr (af t)),(3,sl cS out),(40,sl af t40),(41,.int .i64 t41),(42,.int .i64 t42)] [.dead] [((3,0),9)]
def rH(o:waA):aA:=be 69 [(3,sl cS o)] [.dead] [((3,0),9)]
def y9:Option ((waA×Int)⊕(waA)):=
 if(decide (t42<t41))=true then
  (cz t40 t42).bind fun x13=>
  (mT t t42).bind fun r14=>
  (R69 x13).bind fun r15=>
  (kV r14 r15 (r15.length:Int) out 0).bind fun o22=>
  some (.inl (o22,aR (t42+1)))
 else
  some (.inr out)
def u6:Option waA:=loop (fun(zz:waA×Int)=>y9 R69 t t40 t41 zz.1 zz.2) (out,t42)
theorem GI(hR69:wx R69){y:(waA×Int)⊕(waA)}(h:y9 R69 t t40 t41 out t42=some y):aU Pg GE 0 (cA UK 247) (LQ (fun(zz:waA×Int)=>i8 t t40 t41 zz.1 zz.2) (fun _=>.exit 4) rH y) (i8 t t40 t41 out t42):=by
 rcases bj h with⟨c12,h⟩|⟨c12,h⟩
 ·obtain⟨x13,bx13,h⟩:=ay h
  obtain⟨r14,br14,h⟩:=ay h
  obtain⟨r15,br15,h⟩:=ay h
  obtain⟨o22,bo22,h⟩:=ay h
  obtain rfl:=lf h
  have z:=sg 0 c12<|sv (ck.ia (k:=.i64) bx13)<|sv (aV x13)<|sx tc<|sx (ey x13)<|sv (aV t)<|bz (Kv br14)<|sv (cU x13 [])<|bz (hR69 _ _ br15)<|cm (bp.ln r15)<|cW (IE t r14 t40 t41 t42 r15 (r15.length:Int) x13.Op x13.Name x13.Args x13.Names x13.Pred.Op x13.Pred.Name x13.Pred.N x13.Pred.Kids x13.Preds out 0 bo22)<|uz 0 .normal (i8 t t40 t41 o22 (aR (t42+1))) rfl (dC (aI (ij (ak t)) (aI (up (aj dQ o22)) (aI (up (aj ak t40)) (aI trivial (aI trivial trivial)))))) (aI trivial trivial)
  exact df (A:=Ot) mixed z<|by kernel_rfl
 ·obtain rfl:=lf h
  have z:=sg 0 c12<|eF (.exit 4) (rH out)
  exact f6 Ot (by intro hx;cases hx) z<|by kernel_rfl
theorem ID(hR69:wx R69){x:waA}(h:u6 R69 t t40 t41 out t42=some x):aU Pg GE 0 (.loop (cA UK 247)) (EX (.exit 4) (rH x)) (i8 t t40 t41 out t42):=
 aU.loop (S:=fun(zz:waA×Int)=>i8 t t40 t41 zz.1 zz.2) (ex:=(fun _=>.exit 4)) (s:=(out,t42)) h fun zz y hy=>GI R69 t t40 t41 zz.1 zz.2 hR69 hy
end
def rE(R69:qZ)(t:ae):Option waA:=
 (app ([t.Pred]:List aa) t.Preds).bind fun l1=>
 (u5 l1 (l1.length:Int) ([]:List ag) 0).bind fun o11=>
 (u6 R69 t t.Args (t.Args.length:Int) o11 0).bind fun o23=>
 (qm o23 ([]:List ag)).bind fun r24=>
 some r24
theorem L1(R69:qZ)(hR69:wx R69){t:ae}{r:waA}(h:rE R69 t=some r):CC Pg GE 152 [.agg (af t)] (sl cS r) [(0,9)]:=by
 obtain⟨l1,bl1,h⟩:=ay h
 obtain⟨o11,bo11,h⟩:=ay h
 obtain⟨o23,bo23,h⟩:=ay h
 obtain⟨r24,br24,h⟩:=ay h
 obtain rfl:=lf h
 have z:=se (bD t)<|sv (dE t)<|sv (dF t)<|sv (bL.mk' (v:=dW) cK ([t.Pred]:List aa) 1 (by kernel_rfl))<|sv (dq t)<|sv (dt t)<|sv (bL.ap bl1)<|cm (bL.ln l1)<|cW (IB t l1 (l1.length:Int) ([]:List ag) 0 bo11)<|sv (aK t)<|sv (aL t)<|cm (ck.ln t.Args)<|cW (ID R69 t t.Args (t.Args.length:Int) o11 0 hR69 bo23)<|bz (E5 br24)<|en (aI (rP (sl cS r24))<|(aj dQ r24))
 exact bN Ot call152 func152 (c:=UK) rfl (aI (ak t) trivial) z<|by kernel_rfl
def xW:(ae->Option waA)->(ae)->Option waA:=fun(rec:ae->Option waA) (x:ae)=>rE (fun t=>rec t) x
def CH(t:ae):Option waA:=kJ xW t
theorem NZ{t:ae}{r:waA}(h:CH t=some r):CC Pg GE 152 [.agg (af t)] (sl cS r) [(0,9)]:=
 cy (F:=xW) (M:=fun(x:ae) (r:waA)=>CC Pg GE 152 [.agg (af x)] (sl cS r) [(0,9)]) (fun rec hrec x r h=>L1 _ (fun t r h=>hrec t r h) h) h
noncomputable def qjU:Code:=f153.body.getD .skip
def qjC:List Nat:=[13,19]
def fx(s:am)(name:ag)(a:aa):Option am:=
 (ce s ([name]:List ag)).bind fun r1=>
 (app r1.names ([name]:List ag)).bind fun l2=>
 (app r1.by_ ([a]:List aa)).bind fun l3=>
 some (⟨l2,l3⟩:am)
theorem u9{s:am}{name:ag}{a:aa}{r:am}(h:fx s name a=some r):CC Pg GE 153 [.agg (az s),.str name,.agg (ac a)] (.agg (az r)) [(0,9),(1,36)]:=by
 obtain⟨r1,br1,h⟩:=ay h
 obtain⟨l2,bl2,h⟩:=ay h
 obtain⟨l3,bl3,h⟩:=ay h
 obtain rfl:=lf h
 have z:=se (dX s)<|se (bS a)<|sx TG<|sv (cE s)<|sv (bp.mk' (v:=PVal.str) E8 ([name]:List ag) 1 (by kernel_rfl))<|bz (ft br1)<|sx TG<|sy (da r1)<|sv (bp.mk' (v:=PVal.str) E8 ([name]:List ag) 1 (by kernel_rfl))<|sv (bp.ap bl2)<|sv (bh a)<|sv (bL.mk' (v:=dW) cK ([a]:List aa) 1 (by kernel_rfl))<|sv (bL.ap bl3)<|sz (cQ (⟨l2,l3⟩:am) [])<|sy (da (⟨l2,l3⟩:am))<|en (aI (pr (⟨l2,l3⟩:am))<|aI (bG (⟨l2,l3⟩:am))<|rT)
 exact bN qjC call153 func153 (c:=qjU) rfl (aI (bG s) (aI trivial (aI (ah a) trivial))) z<|by kernel_rfl
noncomputable def qgu:Code:=f138.body.getD .skip
def qb5:List Nat:=[44,48,80]
section
variable(R61:bY)(t:ae)(t40:waC)(t41:Int)(m:waC)(m2:waB)(m3:Int)(m4:ag)(n:Nat)(m6:Int)(m7:ag)(m8:Int)(m9:waB)(m10:waB)(m11:waA)(m12:waB)(used:waA)(t42:Int)(w3:List ag)(m5:waC)(m13:waA)(m14:waB)
def bO:aA:=be 99 [(3,.eptr (af t)),(4,.bptr 2 0),(5,.bptr 4 0),(7,sl cS used),(8,.bptr 6 0),(40,sl af t40),(41,.int .i64 t41),(42,.int .i64 t42)] [.dead,.dead,.cells [.int .i64 0,.str ([]:ag),sl af m,sl cS ([]:List ag),.int .i64 0,.str ([]:ag),.int .i64 0,sl ac m2,sl ac m2] [(2,38),(3,9),(7,36),(8,36)],.cells (pF cS w3) [],.cells [.int .i64 m3,.str m4,sl af m5,.bsl 3 0 n,.int .i64 m6,.str m7,.int .i64 m8,sl ac m9,sl ac m10] [(2,38)],.cells [sl cS m11,sl ac m12] [],.cells [sl cS m13,sl ac m14] []] [((7,0),9)]
def eH(o:List ag×waC×waA×waB):aA:=be 99 [(4,.bptr 2 0),(5,.bptr 4 0)] [.dead,.dead,.cells [.int .i64 0,.str ([]:ag),sl af m,sl cS ([]:List ag),.int .i64 0,.str ([]:ag),.int .i64 0,sl ac m2,sl ac m2] [(2,38),(3,9),(7,36),(8,36)],.cells (pF cS o.1) [],.cells [.int .i64 m3,.str m4,sl af o.2.1,.bsl 3 0 n,.int .i64 m6,.str m7,.int .i64 m8,sl ac m9,sl ac m10] [(2,38)],.cells [sl cS m11,sl ac m12] [],.cells [sl cS o.2.2.1,sl ac o.2.2.2] []] []
def bI:Option ((waA×Int×List ag×waC×waA×waB)⊕((List ag×waC×waA×waB))):=
 if (decide (t42 < t41)) = true then
  (cz t40 t42).bind fun x9=>
  (R61 (⟨m13,m14⟩:am) x9).bind fun r10=>
  (app m5 ([r10]:List ae)).bind fun l11=>
  if(decide (t42>=(t.Names.length:Int)))=true then
   some (.inl (used,aR (t42+1),w3,l11,m13,m14))
  else
   (cz t.Names t42).bind fun x14=>
   (ce (⟨m13,m14⟩:am) ([x14]:List ag)).bind fun r15=>
   (eg r15).bind fun r16=>
   (fm r16 x14).bind fun r17=>
   if r17=true then
    (mR used x14).bind fun r20=>
    (X6 n w3 t42).bind fun x21=>
    (qft w3 t42 r20).bind fun l22=>
    (X6 n l22 t42).bind fun x23=>
    (app used ([x23]:List ag)).bind fun l24=>
    (X6 n l22 t42).bind fun x25=>
    (fx r15 x14 (⟨3,x25,0,([]:List aa)⟩:aa)).bind fun r26=>
    some (.inl (l24,aR (t42+1),l22,l11,r26.names,r26.by_))
   else
    some (.inl (used,aR (t42+1),w3,l11,r15.names,r15.by_))
 else
  some (.inr (w3,m5,m13,m14))
def fa:Option ((List ag×waC×waA×waB)):=loop (fun(zz:waA×Int×List ag×waC×waA×waB)=>bI R61 t t40 t41 n zz.1 zz.2.1 zz.2.2.1 zz.2.2.2.1 zz.2.2.2.2.1 zz.2.2.2.2.2) (used,t42,w3,m5,m13,m14)
theorem n7(hR61:cX R61){y:(waA×Int×List ag×waC×waA×waB)⊕((List ag×waC×waA×waB))}(h:bI R61 t t40 t41 n used t42 w3 m5 m13 m14=some y):aU Pg GE 0 (cA qgu 1015) (LQ (fun(zz:waA×Int×List ag×waC×waA×waB)=>bO t t40 t41 m m2 m3 m4 n m6 m7 m8 m9 m10 m11 m12 zz.1 zz.2.1 zz.2.2.1 zz.2.2.2.1 zz.2.2.2.2.1 zz.2.2.2.2.2) (fun _=>.exit 0) (eH m m2 m3 m4 n m6 m7 m8 m9 m10 m11 m12) y) (bO t t40 t41 m m2 m3 m4 n m6 m7 m8 m9 m10 m11 m12 used t42 w3 m5 m13 m14):=by
 rcases bj h with⟨c8,h⟩|⟨c8,h⟩
 ·obtain⟨x9,bx9,h⟩:=ay h
  obtain⟨r10,br10,h⟩:=ay h
  obtain⟨l11,bl11,h⟩:=ay h
  have p13:=fun{sc F} (r:PS sc F)=>sg 0 c8<|sv (ck.ia (k:=.i64) bx9)<|sv (aV x9)<|sx tc<|sx (ey x9)<|lY [0,1,0,0,12,28,63,127,255]<|sv (cQ (⟨m13,m14⟩:am) [])<|sv (cU x9 [])<|bz (hR61 _ _ _ br10)<|sv (ck.mk' (v:=jC) eO ([r10]:List ae) 1 (by kernel_rfl))<|sv (ck.ap bl11)<|VP (rfl:bK (sl af l11)=some [sl af l11])<|sv (aO t)<|sv (aP t)<|cm (bp.ln t.Names)<|r
  rcases bj h with⟨c12,h⟩|⟨c12,h⟩
  ·obtain rfl:=lf h
   have z:=p13<|sg 0 c12<|uz 0 .normal (bO t t40 t41 m m2 m3 m4 n m6 m7 m8 m9 m10 m11 m12 used (aR (t42+1)) w3 l11 m13 m14) rfl (dC (aI (ij (ak t)) (aI (cV rfl) (aI (cV rfl) (aI (up (aj dQ used)) (aI (cV rfl) (aI (up (aj ak t40)) (aI trivial (aI trivial trivial))))))))) (aI trivial (aI trivial (aI (aI trivial (aI trivial (aI (up (aj ak m)) (aI (up (aj dQ ([]:List ag))) (aI trivial (aI trivial (aI trivial (aI (up (aj ah m2)) (aI (up (aj ah m2)) trivial))))))))) (aI (qeg _ dQ w3) (aI (aI trivial (aI trivial (aI (up (aj ak l11)) (aI (cV rfl) (aI trivial (aI trivial (aI trivial (aI (up (aj ah m9)) (aI (up (aj ah m10)) trivial))))))))) (aI (aI (up (aj dQ m11)) (aI (up (aj ah m12)) trivial)) (aI (aI (up (aj dQ m13)) (aI (up (aj ah m14)) trivial)) trivial)))))))
   exact df (A:=qb5) mixed z<|by kernel_rfl
  ·obtain⟨x14,bx14,h⟩:=ay h
   obtain⟨r15,br15,h⟩:=ay h
   obtain⟨r16,br16,h⟩:=ay h
   obtain⟨r17,br17,h⟩:=ay h
   have p19:=fun{sc F} (r:PS sc F)=>p13<|sg 0 c12<|sv (aO t)<|sv (aP t)<|sv (bp.ia (k:=.i64) bx14)<|sv (dH Ba (.str x14) [])<|sv (cQ (⟨m13,m14⟩:am) [])<|sv (bp.mk' (v:=PVal.str) E8 ([x14]:List ag) 1 (by kernel_rfl))<|bz (ft br15)<|sy (da r15)<|sv (cQ r15 [])<|bz (kW br16)<|bz (ir br17)<|r
   rcases bj h with⟨c18,h⟩|⟨c18,h⟩
   ·obtain⟨r20,br20,h⟩:=ay h
    obtain⟨x21,bx21,h⟩:=ay h
    obtain⟨l22,bl22,h⟩:=ay h
    obtain⟨x23,bx23,h⟩:=ay h
    obtain⟨l24,bl24,h⟩:=ay h
    obtain⟨x25,bx25,h⟩:=ay h
    obtain⟨r26,br26,h⟩:=ay h
    obtain rfl:=lf h
    have z:=p19<|sg 0 c18<|qhx (.dx [0,1,0,0,0,24,63,127] [] [] [3])<|ss<|bz (xM br20)<|sv (bp.iaN 3 (k:=.i64) bx21)<|qjv (bp.stR (E8 r20) bl22)<|ss<|sv (bp.iaN 3 (k:=.i64) bx23)<|sv (bp.ldN (fun r=>dH Ba (.str x23) r) bx23)<|sv (bp.mk' (v:=PVal.str) E8 ([x23]:List ag) 1 (by kernel_rfl))<|sv (bp.ap bl24)<|lY [0,0,0,4,0,28,60,124,255,511]<|sv (cQ r15 [])<|ss<|sv (bp.iaN 3 (k:=.i64) bx25)<|sv (bp.ldN (fun r=>dH Ba (.str x25) r) bx25)<|sb (kj 3 x25) (kh 3 x25)<|bz (u9 br26)<|qb2 (fR r26)<|uz 0 .normal (bO t t40 t41 m m2 m3 m4 n m6 m7 m8 m9 m10 m11 m12 l24 (aR (t42+1)) l22 l11 r26.names r26.by_) rfl (dC (aI (ij (ak t)) (aI (cV rfl) (aI (cV rfl) (aI (up (aj dQ l24)) (aI (cV rfl) (aI (up (aj ak t40)) (aI trivial (aI trivial trivial))))))))) (aI trivial (aI trivial (aI (aI trivial (aI trivial (aI (up (aj ak m)) (aI (up (aj dQ ([]:List ag))) (aI trivial (aI trivial (aI trivial (aI (up (aj ah m2)) (aI (up (aj ah m2)) trivial))))))))) (aI (qeg _ dQ l22) (aI (aI trivial (aI trivial (aI (up (aj ak l11)) (aI (cV rfl) (aI trivial (aI trivial (aI trivial (aI (up (aj ah m9)) (aI (up (aj ah m10)) trivial))))))))) (aI (aI (up (aj dQ m11)) (aI (up (aj ah m12)) trivial)) (aI (aI (up (aj dQ r26.names)) (aI (up (aj ah r26.by_)) trivial)) trivial)))))))
    exact df (A:=qb5) mixed z<|by kernel_rfl
   ·obtain rfl:=lf h
    have z:=p19<|sg 0 c18<|uz 0 .normal (bO t t40 t41 m m2 m3 m4 n m6 m7 m8 m9 m10 m11 m12 used (aR (t42+1)) w3 l11 r15.names r15.by_) rfl (dC (aI (ij (ak t)) (aI (cV rfl) (aI (cV rfl) (aI (up (aj dQ used)) (aI (cV rfl) (aI (up (aj ak t40)) (aI trivial (aI trivial trivial))))))))) (aI trivial (aI trivial (aI (aI trivial (aI trivial (aI (up (aj ak m)) (aI (up (aj dQ ([]:List ag))) (aI trivial (aI trivial (aI trivial (aI (up (aj ah m2)) (aI (up (aj ah m2)) trivial))))))))) (aI (qeg _ dQ w3) (aI (aI trivial (aI trivial (aI (up (aj ak l11)) (aI (cV rfl) (aI trivial (aI trivial (aI trivial (aI (up (aj ah m9)) (aI (up (aj ah m10)) trivial))))))))) (aI (aI (up (aj dQ m11)) (aI (up (aj ah m12)) trivial)) (aI (aI (up (aj dQ r15.names)) (aI (up (aj ah r15.by_)) trivial)) trivial)))))))
    exact df (A:=qb5) mixed z<|by kernel_rfl
 ·obtain rfl:=lf h
  have z:=sg 0 c8<|eF (.exit 0) (eH m m2 m3 m4 n m6 m7 m8 m9 m10 m11 m12 (w3,m5,m13,m14))
  exact f6 qb5 (by intro hx;cases hx) z<|by kernel_rfl
theorem pp(hR61:cX R61){x:(List ag×waC×waA×waB)}(h:fa R61 t t40 t41 n used t42 w3 m5 m13 m14=some x):aU Pg GE 0 (.loop (cA qgu 1015)) (EX (.exit 0) (eH m m2 m3 m4 n m6 m7 m8 m9 m10 m11 m12 x)) (bO t t40 t41 m m2 m3 m4 n m6 m7 m8 m9 m10 m11 m12 used t42 w3 m5 m13 m14):=
 aU.loop (S:=fun(zz:waA×Int×List ag×waC×waA×waB)=>bO t t40 t41 m m2 m3 m4 n m6 m7 m8 m9 m10 m11 m12 zz.1 zz.2.1 zz.2.2.1 zz.2.2.2.1 zz.2.2.2.2.1 zz.2.2.2.2.2) (ex:=(fun _=>.exit 0)) (s:=(used,t42,w3,m5,m13,m14)) h fun zz y hy=>n7 R61 t t40 t41 m m2 m3 m4 n m6 m7 m8 m9 m10 m11 m12 zz.1 zz.2.1 zz.2.2.1 zz.2.2.2.1 zz.2.2.2.2.1 zz.2.2.2.2.2 hR61 hy
end
def gg(R61:bY)(s:am)(t:ae):Option ae:=
 (nS t.Names).bind fun r1=>
 (dg s t.Pred).bind fun r2=>
 (mU t.Preds s).bind fun r3=>
 (eg s).bind fun r4=>
 (CH t).bind fun r5=>
 (app r4 r5).bind fun l6=>
 (app l6 t.Names).bind fun l7=>
 (fa R61 t t.Args (t.Args.length:Int) r1.length l7 0 r1 ([]:List ae) s.names s.by_).bind fun o27=>
 (qcO r1.length o27.1).bind fun l28=>
 some (⟨t.Op,t.Name,o27.2.1,l28,r2,r3⟩:ae)
theorem rM(R61:bY)(hR61:cX R61){s:am}{t:ae}{r:ae}(h:gg R61 s t=some r):CC Pg GE 138 [.agg (az s),.agg (af t)] (.agg (af r)) [(2,38)]:=by
 obtain⟨r1,br1,h⟩:=ay h
 obtain⟨r2,br2,h⟩:=ay h
 obtain⟨r3,br3,h⟩:=ay h
 obtain⟨r4,br4,h⟩:=ay h
 obtain⟨r5,br5,h⟩:=ay h
 obtain⟨l6,bl6,h⟩:=ay h
 obtain⟨l7,bl7,h⟩:=ay h
 obtain⟨o27,bo27,h⟩:=ay h
 obtain⟨l28,bl28,h⟩:=ay h
 obtain rfl:=lf h
 have z:=se (dX s)<|se (bD t)<|sx tc<|qhx (.dx [0,1,0,4,0,16,48,0,0,256,1008,0,2048,0,8192,32752,65535,0,262143] [.cells (pF cS r1) []] [(6,3)] [])<|sv (aC t)<|sv (aD t)<|sv (cq t)<|sv (cP t)<|sv (aO t)<|sv (aP t)<|qju 3 9 (bp.cloneR S9 br1)<|sv (cE s)<|sv (dE t)<|sv (dF t)<|bz (gC br2)<|sv (dq t)<|sv (dt t)<|sv (cE s)<|bz (zb br3)<|sb (Dg t.Op t.Name 3 r1.length r2 r3) (De t.Op t.Name 3 r1.length r2 r3)<|qb2 (qlQ [.int .i64 t.Op,.str t.Name,sl af ([]:List ae),.bsl 3 0 r1.length,.int .i64 r2.Op,.str r2.Name,.int .i64 r2.N,sl ac r2.Kids,sl ac r3])<|sv (cE s)<|sx TG<|sx (fR s)<|lY [0,1,0,7,15,0,32,127,255]<|sv (cQ s [])<|bz (kW br4)<|sv (aV t)<|bz (NZ br5)<|sv (bp.ap bl6)<|sv (aO t)<|sv (aP t)<|sv (bp.ap bl7)<|sv (cE s)<|sx TG<|sx (fR s)<|sv (aK t)<|sv (aL t)<|cm (ck.ln t.Args)<|cW (pp R61 t t.Args (t.Args.length:Int) ([]:List ae) ([]:List aa) t.Op t.Name r1.length r2.Op r2.Name r2.N r2.Kids r3 s.names s.by_ l7 0 r1 ([]:List ae) s.names s.by_ hR61 bo27)<|qf2 3 (l28.map cS) [4,5] [] (bp.fz1 (m:=0) (b:=3) rfl l28) (bp.fz2 3 l28) (qhu cS bl28)<|sf (E6 3 (p:=sl af ([]:List ae)) (aj ak ([]:List ae)))<|sf (E6 3 (p:=sl cS ([]:List ag)) (aj dQ ([]:List ag)))<|sf (E6 3 (p:=sl ac ([]:List aa)) (aj ah ([]:List aa)))<|sf (E6 3 (p:=sl ac ([]:List aa)) (aj ah ([]:List aa)))<|sf (E6 3 (p:=sl af o27.2.1) (aj ak o27.2.1))<|sf (qhv cS bl28)<|sf (E6 3 (p:=sl ac r2.Kids) (aj ah r2.Kids))<|sf (E6 3 (p:=sl ac r3) (aj ah r3))<|sf (E6 3 (p:=sl cS s.names) (aj dQ s.names))<|sf (E6 3 (p:=sl ac s.by_) (aj ah s.by_))<|sf (E6 3 (p:=sl cS o27.2.2.1) (aj dQ o27.2.2.1))<|sf (E6 3 (p:=sl ac o27.2.2.2) (aj ah o27.2.2.2))<|sz (cU (⟨t.Op,t.Name,o27.2.1,l28,r2,r3⟩:ae) [])<|sy (bu (⟨t.Op,t.Name,o27.2.1,l28,r2,r3⟩:ae))<|en (aI (hX (⟨t.Op,t.Name,o27.2.1,l28,r2,r3⟩:ae))<|aI (ak (⟨t.Op,t.Name,o27.2.1,l28,r2,r3⟩:ae))<|rT)
 exact bN qb5 call138 func138 (c:=qgu) rfl (aI (bG s) (aI (ak t) trivial)) z<|by kernel_rfl
noncomputable def qgw:Code:=f141.body.getD .skip
def qge:List Nat:=[14,21]
section
variable(R61:bY)(v:am)(t8:waC)(t9:Int)(out:waC)(t10:Int)
def fD:aA:=be 22 [(1,.func (.func 120) [.agg (az v)] []),(5,sl af out),(8,sl af t8),(9,.int .i64 t9),(10,.int .i64 t10)] [] [((5,0),38)]
def lK(o:waC):aA:=be 22 [(5,sl af o)] [] [((5,0),38)]
def sj:Option ((waC×Int)⊕(waC)):=
 if(decide (t10<t9))=true then
  (cz t8 t10).bind fun x2=>
  (R61 v x2).bind fun r3=>
  (app out ([r3]:List ae)).bind fun l4=>
  some (.inl (l4,aR (t10+1)))
 else
  some (.inr out)
def nY:Option waC:=loop (fun(zz:waC×Int)=>sj R61 v t8 t9 zz.1 zz.2) (out,t10)
theorem AW(hR61:cX R61){y:(waC×Int)⊕(waC)}(h:sj R61 v t8 t9 out t10=some y):aU Pg GE 0 (cA qgw 119) (LQ (fun(zz:waC×Int)=>fD v t8 t9 zz.1 zz.2) (fun _=>.exit 0) lK y) (fD v t8 t9 out t10):=by
 rcases bj h with⟨c1,h⟩|⟨c1,h⟩
 ·obtain⟨x2,bx2,h⟩:=ay h
  obtain⟨r3,br3,h⟩:=ay h
  obtain⟨l4,bl4,h⟩:=ay h
  obtain rfl:=lf h
  have z:=sg 0 c1<|sv (ck.ia (k:=.i64) bx2)<|sv (aV x2)<|sx tc<|sx (ey x2)<|sv (cU x2 [])<|bz (hR61 _ _ _ br3)<|sv (ck.mk' (v:=jC) eO ([r3]:List ae) 1 (by kernel_rfl))<|sv (ck.ap bl4)<|uz 0 .normal (fD v t8 t9 l4 (aR (t10+1))) rfl (dC (aI (aI (aI (up (bG v)) trivial) trivial) (aI (up (aj ak l4)) (aI (up (aj ak t8)) (aI trivial (aI trivial trivial)))))) trivial
  exact df (A:=qge) mixed z<|by kernel_rfl
 ·obtain rfl:=lf h
  have z:=sg 0 c1<|eF (.exit 0) (lK out)
  exact f6 qge (by intro hx;cases hx) z<|by kernel_rfl
theorem CI(hR61:cX R61){x:waC}(h:nY R61 v t8 t9 out t10=some x):aU Pg GE 0 (.loop (cA qgw 119)) (EX (.exit 0) (lK x)) (fD v t8 t9 out t10):=
 aU.loop (S:=fun(zz:waC×Int)=>fD v t8 t9 zz.1 zz.2) (ex:=(fun _=>.exit 0)) (s:=(out,t10)) h fun zz y hy=>AW R61 v t8 t9 zz.1 zz.2 hR61 hy
end
def tg(R61:bY)(a:waC)(c:am):Option waC:=
 (nY R61 c a (a.length:Int) ([]:List ae) 0).bind fun o5=>
 some o5
theorem GL(R61:bY)(hR61:cX R61){a:waC}{c:am}{r:waC}(h:tg R61 a c=some r):CC Pg GE 141 [sl af a,.func (.func 120) [.agg (az c)] []] (sl af r) [(0,38)]:=by
 obtain⟨o5,bo5,h⟩:=ay h
 obtain rfl:=lf h
 have z:=cm (ck.ln a)<|cW (CI R61 c a (a.length:Int) ([]:List ae) 0 hR61 bo5)<|en (aI (rP (sl af o5))<|(aj ak o5))
 exact bN qge call141 func141 (c:=qgw) rfl (aI (aj ak a) (aI (aI (aI (bG c) trivial) trivial) trivial)) z<|by kernel_rfl
noncomputable def qh2:Code:=f120.body.getD .skip
def qhC:List Nat:=[]
def fb(R61:bY)(s:am)(t:ae):Option ae:=
 if(t.Op==6)=true then
  (gg R61 s t).bind fun r3=>
  some r3
 else
  (nS t.Names).bind fun r4=>
  (dg s t.Pred).bind fun r5=>
  (mU t.Preds s).bind fun r6=>
  (tg R61 t.Args s).bind fun r7=>
  some (⟨t.Op,t.Name,r7,r4,r5,r6⟩:ae)
theorem u7(R61:bY)(hR61:cX R61){s:am}{t:ae}{r:ae}(h:fb R61 s t=some r):CC Pg GE 120 [.agg (az s),.agg (af t)] (.agg (af r)) [(2,38)]:=by
 have p2:=fun{sc F} (r:PS sc F)=>se (dX s)<|se (bD t)<|sx tc<|sv (aC t)<|sv (aD t)<|r
 rcases bj h with⟨c1,h⟩|⟨c1,h⟩
 ·obtain⟨r3,br3,h⟩:=ay h
  obtain rfl:=lf h
  have z:=p2<|sg 0 c1<|sv (cE s)<|sv (aV t)<|bz (rM R61 hR61 br3)<|sy (bu r3)<|en (aI (hX r3)<|aI (ak r3)<|rT)
  exact bN qhC call120 func120 (c:=qh2) rfl (aI (bG s) (aI (ak t) trivial)) z<|by kernel_rfl
 ·obtain⟨r4,br4,h⟩:=ay h
  obtain⟨r5,br5,h⟩:=ay h
  obtain⟨r6,br6,h⟩:=ay h
  obtain⟨r7,br7,h⟩:=ay h
  obtain rfl:=lf h
  have z:=p2<|sg 0 c1<|lY [0,1,0,4,0,16,48,0,0,256,1008,0,2048,0,8192,32752,65535,0,262143]<|sv (aC t)<|sv (aD t)<|sv (cq t)<|sv (cP t)<|sv (aO t)<|sv (aP t)<|bz (H5 br4)<|sv (cE s)<|sv (dE t)<|sv (dF t)<|bz (gC br5)<|sv (dq t)<|sv (dt t)<|sv (cE s)<|bz (zb br6)<|sb (H4 t.Op t.Name r4 r5 r6) (H3 t.Op t.Name r4 r5 r6)<|qb2 (ey (⟨t.Op,t.Name,([]:List ae),r4,r5,r6⟩:ae))<|sv (aK t)<|sv (aL t)<|sv (cE s)<|bz (GL R61 hR61 br7)<|sz (cU (⟨t.Op,t.Name,r7,r4,r5,r6⟩:ae) [])<|sy (bu (⟨t.Op,t.Name,r7,r4,r5,r6⟩:ae))<|en (aI (hX (⟨t.Op,t.Name,r7,r4,r5,r6⟩:ae))<|aI (ak (⟨t.Op,t.Name,r7,r4,r5,r6⟩:ae))<|rT)
  exact bN qhC call120 func120 (c:=qh2) rfl (aI (bG s) (aI (ak t) trivial)) z<|by kernel_rfl
def iq:((am×ae)->Option ae)->(am×ae)->Option ae:=fun(rec:(am×ae)->Option ae) (x:am×ae)=>fb (fun s t=>rec (s,t)) x.1 x.2
def jp(s:am)(t:ae):Option ae:=kJ iq (s,t)
theorem wh{s:am}{t:ae}{r:ae}(h:jp s t=some r):CC Pg GE 120 [.agg (az s),.agg (af t)] (.agg (af r)) [(2,38)]:=
 cy (F:=iq) (M:=fun(x:am×ae) (r:ae)=>CC Pg GE 120 [.agg (az x.1),.agg (af x.2)] (.agg (af r)) [(2,38)]) (fun rec hrec x r h=>u7 _ (fun s t r h=>hrec (s,t) r h) h) h
noncomputable def qjQ:Code:=f113.body.getD .skip
def qjy:List Nat:=[]
def tf(t:ae)(a:waA)(a2:waB):Option ae:=
 (N2 a none (some (if(a2.length:Int)<(a.length:Int)then(a2.length:Int)else(a.length:Int)))).bind fun l1=>
 (N2 a2 none (some (if(a2.length:Int)<(a.length:Int)then(a2.length:Int)else(a.length:Int)))).bind fun l2=>
 (ce (⟨l1,l2⟩:am) ([([118]:ag)]:List ag)).bind fun r3=>
 (jp r3 t).bind fun r4=>
 some r4
theorem GK{t:ae}{a:waA}{a2:waB}{r:ae}(h:tf t a a2=some r):CC Pg GE 113 [.agg (af t),sl cS a,sl ac a2] (.agg (af r)) [(2,38)]:=by
 obtain⟨l1,bl1,h⟩:=ay h
 obtain⟨l2,bl2,h⟩:=ay h
 obtain⟨r3,br3,h⟩:=ay h
 obtain⟨r4,br4,h⟩:=ay h
 obtain rfl:=lf h
 have z:=se (bD t)<|sx tc<|cm (bp.ln a)<|cm (bL.ln a2)<|lY [0,0,3,0,0,24,63,0,255,0,1023]<|sv (bp.sc bl1)<|sv (bL.sc bl2)<|sv (vW l1 l2)<|sv (bp.mk' (v:=PVal.str) E8 ([([118]:ag)]:List ag) 1 (by kernel_rfl))<|bz (ft br3)<|qb2 (fR r3)<|sv (cQ r3 [])<|sv (aV t)<|bz (wh br4)<|sy (bu r4)<|en (aI (hX r4)<|aI (ak r4)<|rT)
 exact bN qjy call113 func113 (c:=qjQ) rfl (aI (ak t) (aI (aj dQ a) (aI (aj ah a2) trivial))) z<|by kernel_rfl
noncomputable def qlD:Code:=f99.body.getD .skip
def qln:List Nat:=[]
def tN(t:ae)(name:ag)(a:aa):Option ae:=
 (tf t ([name]:List ag) ([a]:List aa)).bind fun r1=>
 some r1
theorem L2{t:ae}{name:ag}{a:aa}{r:ae}(h:tN t name a=some r):CC Pg GE 99 [.agg (af t),.str name,.agg (ac a)] (.agg (af r)) [(2,38)]:=by
 obtain⟨r1,br1,h⟩:=ay h
 obtain rfl:=lf h
 have z:=se (bD t)<|se (bS a)<|sx tc<|sv (aV t)<|sv (bp.mk' (v:=PVal.str) E8 ([name]:List ag) 1 (by kernel_rfl))<|sv (bh a)<|sv (bL.mk' (v:=dW) cK ([a]:List aa) 1 (by kernel_rfl))<|bz (GK br1)<|sy (bu r1)<|en (aI (hX r1)<|aI (ak r1)<|rT)
 exact bN qln call99 func99 (c:=qlD) rfl (aI (ak t) (aI trivial (aI (ah a) trivial))) z<|by kernel_rfl
noncomputable def qjm:Code:=f82.body.getD .skip
def qi5:List Nat:=[41]
section
variable(i:Int)(v:ag)(t:ae)(n:Nat)(k:Int)(w1:List ae)
def fE:aA:=be 42 [(2,.int .i64 i),(3,.str v),(5,.eptr (af t)),(9,.bsl 1 0 n),(10,.int .i64 k)] [.dead,.cells (pF af w1) []] []
def lM(o:List ae):aA:=be 42 [(9,.bsl 1 0 n)] [.dead,.cells (pF af o) []] []
def ez:Option ((Int×List ae)⊕(waC)):=
 if(decide (k<(n:Int)))=true then
  (X6 n w1 k).bind fun x5=>
  (cz t.Names i).bind fun x6=>
  (tN x5 x6 (⟨3,v,0,([]:List aa)⟩:aa)).bind fun r7=>
  (X6 n w1 k).bind fun x8=>
  (qft w1 k r7).bind fun l9=>
  some (.inl (aR (k+1),l9))
 else
  some (.inr w1)
def n8:Option waC:=loop (fun(zz:Int×List ae)=>ez i v t n zz.1 zz.2) (k,w1)
theorem AY{y:(Int×List ae)⊕(waC)}(h:ez i v t n k w1=some y):aU Pg GE 0 (cA qjm 471) (LQ (fun(zz:Int×List ae)=>fE i v t n zz.1 zz.2) (fun _=>.exit 0) (lM n) y) (fE i v t n k w1):=by
 rcases bj h with⟨c4,h⟩|⟨c4,h⟩
 ·obtain⟨x5,bx5,h⟩:=ay h
  obtain⟨x6,bx6,h⟩:=ay h
  obtain⟨r7,br7,h⟩:=ay h
  obtain⟨x8,bx8,h⟩:=ay h
  obtain⟨l9,bl9,h⟩:=ay h
  obtain rfl:=lf h
  exact n9 qi5 (cm (ck.lnR 1 0 n)<|sg 0 c4<|qhx (.dx [0,0,0,0,12,28,0,64,0,448,960,0,2048,8188,16383,32767] [] [] [1])<|sv (ck.iaN 1 (k:=.i64) bx5)<|sv (ck.ldN (To x5) bx5)<|sv (aO t)<|sv (aP t)<|sv (bp.ia (k:=.i64) bx6)<|sv (dH Ba (.str x6) [])<|sb (kj 3 v) (kh 3 v)<|bz (L2 br7)<|sv (ck.iaN 1 (k:=.i64) bx8)<|qjv (ck.stR (eO r7) bl9)<|eF .normal (fE i v t n (aR (k+1)) l9))<|by kernel_rfl
 ·obtain rfl:=lf h
  have z:=cm (ck.lnR 1 0 n)<|sg 0 c4<|eF (.exit 0) (lM n w1)
  exact f6 qi5 (by intro hx;cases hx) z<|by kernel_rfl
theorem CQ{x:waC}(h:n8 i v t n k w1=some x):aU Pg GE 0 (.loop (cA qjm 471)) (EX (.exit 0) (lM n x)) (fE i v t n k w1):=
 aU.loop (S:=fun(zz:Int×List ae)=>fE i v t n zz.1 zz.2) (ex:=(fun _=>.exit 0)) (s:=(k,w1)) h fun zz y hy=>AY i v t n zz.1 zz.2 hy
end
def j2(a:waC)(t:ae)(i:Int)(a2:ag):Option waC:=
 (nS a).bind fun r1=>
 if(decide (i<(t.Names.length:Int)))=true then
  (n8 i a2 t r1.length (aR (i+1)) r1).bind fun o10=>
  (qcO r1.length o10).bind fun l11=>
  some l11
 else
  (qcO r1.length r1).bind fun l12=>
  some l12
theorem vC{a:waC}{t:ae}{i:Int}{a2:ag}{r:waC}(h:j2 a t i a2=some r):CC Pg GE 82 [sl af a,.agg (af t),.int .i64 i,.str a2] (sl af r) []:=by
 obtain⟨r1,br1,h⟩:=ay h
 have p3:=fun{sc F} (r:PS sc F)=>se (bD t)<|qju 1 38 (ck.cloneR qaQ br1)<|sv (aO t)<|sv (aP t)<|cm (bp.ln t.Names)<|r
 rcases bj h with⟨c2,h⟩|⟨c2,h⟩
 ·obtain⟨o10,bo10,h⟩:=ay h
  obtain⟨l11,bl11,h⟩:=ay h
  obtain rfl:=lf h
  have z:=p3<|sg 0 c2<|cW (CQ i a2 t r1.length (aR (i+1)) r1 bo10)<|qf2 1 (l11.map af) [9] [] (ck.fz1 (m:=0) (b:=1) rfl l11) (ck.fz2 1 l11) (qhu af bl11)<|sf (qhv af bl11)<|en (aI (rP (sl af l11))<|(aj ak l11))
  exact bN qi5 call82 func82 (c:=qjm) rfl (aI (aj ak a) (aI (ak t) (aI trivial (aI trivial trivial)))) z<|by kernel_rfl
 ·obtain⟨l12,bl12,h⟩:=ay h
  obtain rfl:=lf h
  have z:=p3<|sg 0 c2<|qf2 1 (l12.map af) [9] [] (ck.fz1 (m:=0) (b:=1) rfl l12) (ck.fz2 1 l12) (qhu af bl12)<|sf (qhv af bl12)<|en (aI (rP (sl af l12))<|(aj ak l12))
  exact bN qi5 call82 func82 (c:=qjm) rfl (aI (aj ak a) (aI (ak t) (aI trivial (aI trivial trivial)))) z<|by kernel_rfl
abbrev tC:=(ae->Option ae)
abbrev zi(R:tC):Prop:=∀(t:ae) (r:ae),R t=some r->CC Pg GE 45 [.agg (af t)] (.agg (af r)) [(2,38),(3,9),(7,36),(8,36)]
noncomputable def qjW:Code:=f45.body.getD .skip
def qjD:List Nat:=[19]
section
variable(R74:tC)(t12:waC)(t13:Int)(m:waC)(m2:waB)(m3:Int)(m4:ag)(t14:Int)(m5:waC)
def j5:aA:=be 27 [(2,.bptr 1 0),(3,.bptr 2 0),(12,sl af t12),(13,.int .i64 t13),(14,.int .i64 t14)] [.dead,.cells [.int .i64 0,.str ([]:ag),sl af m,sl cS ([]:List ag),.int .i64 0,.str ([]:ag),.int .i64 0,sl ac m2,sl ac m2] [(2,38),(3,9),(7,36),(8,36)],.cells [.int .i64 m3,.str m4,sl af m5,sl cS ([]:List ag),.int .i64 0,.str ([]:ag),.int .i64 0,sl ac m2,sl ac m2] [(2,38),(3,9),(7,36),(8,36)]] []
def tp(o:waC):aA:=be 27 [(2,.bptr 1 0),(3,.bptr 2 0)] [.dead,.cells [.int .i64 0,.str ([]:ag),sl af m,sl cS ([]:List ag),.int .i64 0,.str ([]:ag),.int .i64 0,sl ac m2,sl ac m2] [(2,38),(3,9),(7,36),(8,36)],.cells [.int .i64 m3,.str m4,sl af o,sl cS ([]:List ag),.int .i64 0,.str ([]:ag),.int .i64 0,sl ac m2,sl ac m2] [(2,38),(3,9),(7,36),(8,36)]] []
def A1:Option ((Int×waC)⊕(waC)):=
 if(decide (t14<t13))=true then
  (cz t12 t14).bind fun x2=>
  (R74 x2).bind fun r3=>
  (app m5 ([r3]:List ae)).bind fun l4=>
  some (.inl (aR (t14+1),l4))
 else
  some (.inr m5)
def ye:Option waC:=loop (fun(zz:Int×waC)=>A1 R74 t12 t13 zz.1 zz.2) (t14,m5)
theorem IK(hR74:zi R74){y:(Int×waC)⊕(waC)}(h:A1 R74 t12 t13 t14 m5=some y):aU Pg GE 0 (cA qjW 119) (LQ (fun(zz:Int×waC)=>j5 t12 t13 m m2 m3 m4 zz.1 zz.2) (fun _=>.exit 0) (tp m m2 m3 m4) y) (j5 t12 t13 m m2 m3 m4 t14 m5):=by
 rcases bj h with⟨c1,h⟩|⟨c1,h⟩
 ·obtain⟨x2,bx2,h⟩:=ay h
  obtain⟨r3,br3,h⟩:=ay h
  obtain⟨l4,bl4,h⟩:=ay h
  obtain rfl:=lf h
  have z:=sg 0 c1<|sv (ck.ia (k:=.i64) bx2)<|sv (aV x2)<|sx tc<|sx (ey x2)<|lY [0,1,0,4,12,31,63,127]<|sv (cU x2 [])<|bz (hR74 _ _ br3)<|sv (ck.mk' (v:=jC) eO ([r3]:List ae) 1 (by kernel_rfl))<|sv (ck.ap bl4)<|VP (rfl:bK (sl af l4)=some [sl af l4])<|uz 0 .normal (j5 t12 t13 m m2 m3 m4 (aR (t14+1)) l4) rfl (dC (aI (cV rfl) (aI (cV rfl) (aI (up (aj ak t12)) (aI trivial (aI trivial trivial)))))) (aI trivial (aI (aI trivial (aI trivial (aI (up (aj ak m)) (aI (up (aj dQ ([]:List ag))) (aI trivial (aI trivial (aI trivial (aI (up (aj ah m2)) (aI (up (aj ah m2)) trivial))))))))) (aI (aI trivial (aI trivial (aI (up (aj ak l4)) (aI (up (aj dQ ([]:List ag))) (aI trivial (aI trivial (aI trivial (aI (up (aj ah m2)) (aI (up (aj ah m2)) trivial))))))))) trivial)))
  exact df (A:=qjD) mixed z<|by kernel_rfl
 ·obtain rfl:=lf h
  have z:=sg 0 c1<|eF (.exit 0) (tp m m2 m3 m4 m5)
  exact f6 qjD (by intro hx;cases hx) z<|by kernel_rfl
theorem KD(hR74:zi R74){x:waC}(h:ye R74 t12 t13 t14 m5=some x):aU Pg GE 0 (.loop (cA qjW 119)) (EX (.exit 0) (tp m m2 m3 m4 x)) (j5 t12 t13 m m2 m3 m4 t14 m5):=
 aU.loop (S:=fun(zz:Int×waC)=>j5 t12 t13 m m2 m3 m4 zz.1 zz.2) (ex:=(fun _=>.exit 0)) (s:=(t14,m5)) h fun zz y hy=>IK R74 t12 t13 m m2 m3 m4 zz.1 zz.2 hR74 hy
end
def tQ(R74:tC)(t:ae):Option ae:=
 (ye R74 t.Args (t.Args.length:Int) 0 ([]:List ae)).bind fun o5=>
 some (⟨t.Op,t.Name,o5,([]:List ag),(⟨0,([]:ag),0,([]:List aa)⟩:aa),([]:List aa)⟩:ae)
theorem N6(R74:tC)(hR74:zi R74){t:ae}{r:ae}(h:tQ R74 t=some r):CC Pg GE 45 [.agg (af t)] (.agg (af r)) [(2,38),(3,9),(7,36),(8,36)]:=by
 obtain⟨o5,bo5,h⟩:=ay h
 obtain rfl:=lf h
 have z:=se (bD t)<|sx tc<|sv (aC t)<|sv (aD t)<|sv (cq t)<|sv (cP t)<|sb (JH t.Op t.Name) (JD t.Op t.Name)<|sx tc<|sy (bu (⟨t.Op,t.Name,([]:List ae),([]:List ag),(⟨0,([]:ag),0,([]:List aa)⟩:aa),([]:List aa)⟩:ae))<|sv (aK t)<|sv (aL t)<|cm (ck.ln t.Args)<|cW (KD R74 t.Args (t.Args.length:Int) ([]:List ae) ([]:List aa) t.Op t.Name 0 ([]:List ae) hR74 bo5)<|sz (cU (⟨t.Op,t.Name,o5,([]:List ag),(⟨0,([]:ag),0,([]:List aa)⟩:aa),([]:List aa)⟩:ae) [])<|sy (bu (⟨t.Op,t.Name,o5,([]:List ag),(⟨0,([]:ag),0,([]:List aa)⟩:aa),([]:List aa)⟩:ae))<|en (aI (hX (⟨t.Op,t.Name,o5,([]:List ag),(⟨0,([]:ag),0,([]:List aa)⟩:aa),([]:List aa)⟩:ae))<|aI (ak (⟨t.Op,t.Name,o5,([]:List ag),(⟨0,([]:ag),0,([]:List aa)⟩:aa),([]:List aa)⟩:ae))<|rT)
 exact bN qjD call45 func45 (c:=qjW) rfl (aI (ak t) trivial) z<|by kernel_rfl
def Ah:(ae->Option ae)->(ae)->Option ae:=fun(rec:ae->Option ae) (x:ae)=>tQ (fun t=>rec t) x
def zf(t:ae):Option ae:=kJ Ah t
theorem Fx{t:ae}{r:ae}(h:zf t=some r):CC Pg GE 45 [.agg (af t)] (.agg (af r)) [(2,38),(3,9),(7,36),(8,36)]:=
 cy (F:=Ah) (M:=fun(x:ae) (r:ae)=>CC Pg GE 45 [.agg (af x)] (.agg (af r)) [(2,38),(3,9),(7,36),(8,36)]) (fun rec hrec x r h=>N6 _ (fun t r h=>hrec t r h) h) h
noncomputable def qho:Code:=f44.body.getD .skip
def qhe:List Nat:=[]
def Gm(t:ae):Option (ag×Bool):=
 if(t.Op==1)=true then
  some (([73,110,116]:ag),true)
 else
  if(t.Op==2)=true then
   some (([66,111,111,108]:ag),true)
  else
   if(t.Op==3)=true then
    some (([67,101,108,108]:ag),true)
   else
    if(t.Op==4)=true then
     if((t.Args.length:Int)==0)=true then
      some (t.Name,true)
     else
      some (([]:ag),false)
    else
     some (([]:ag),false)
theorem Rd{t:ae}{r:ag×Bool}(h:Gm t=some r):CC Pg GE 44 [.agg (af t)] (.tuple [.str r.1,.bool r.2]) []:=by
 have p2:=fun{sc F} (r:PS sc F)=>se (bD t)<|sv (aC t)<|sv (aD t)<|r
 rcases bj h with⟨c1,h⟩|⟨c1,h⟩
 ·obtain rfl:=lf h
  have z:=p2<|sg 0 c1<|en (aI (rP (.tuple [.str ([73,110,116]:ag),.bool true]))<|(aI trivial (aI trivial trivial)))
  exact bN qhe call44 func44 (c:=qho) rfl (aI (ak t) trivial) z<|by kernel_rfl
 ·have p4:=fun{sc F} (r:PS sc F)=>p2<|sg 0 c1<|r
  rcases bj h with⟨c3,h⟩|⟨c3,h⟩
  ·obtain rfl:=lf h
   have z:=p4<|sg 0 c3<|en (aI (rP (.tuple [.str ([66,111,111,108]:ag),.bool true]))<|(aI trivial (aI trivial trivial)))
   exact bN qhe call44 func44 (c:=qho) rfl (aI (ak t) trivial) z<|by kernel_rfl
  ·have p6:=fun{sc F} (r:PS sc F)=>p4<|sg 0 c3<|r
   rcases bj h with⟨c5,h⟩|⟨c5,h⟩
   ·obtain rfl:=lf h
    have z:=p6<|sg 0 c5<|en (aI (rP (.tuple [.str ([67,101,108,108]:ag),.bool true]))<|(aI trivial (aI trivial trivial)))
    exact bN qhe call44 func44 (c:=qho) rfl (aI (ak t) trivial) z<|by kernel_rfl
   ·have p8:=fun{sc F} (r:PS sc F)=>p6<|sg 0 c5<|r
    rcases bj h with⟨c7,h⟩|⟨c7,h⟩
    ·have p10:=fun{sc F} (r:PS sc F)=>p8<|sg 0 c7<|sv (aK t)<|sv (aL t)<|cm (ck.ln t.Args)<|r
     rcases bj h with⟨c9,h⟩|⟨c9,h⟩
     ·obtain rfl:=lf h
      have z:=p10<|sg 0 c9<|sv (cq t)<|sv (cP t)<|en (aI (rP (.tuple [.str t.Name,.bool true]))<|(aI trivial (aI trivial trivial)))
      exact bN qhe call44 func44 (c:=qho) rfl (aI (ak t) trivial) z<|by kernel_rfl
     ·obtain rfl:=lf h
      have z:=p10<|sg 0 c9<|en (aI (rP (.tuple [.str ([]:ag),.bool false]))<|(aI trivial (aI trivial trivial)))
      exact bN qhe call44 func44 (c:=qho) rfl (aI (ak t) trivial) z<|by kernel_rfl
    ·obtain rfl:=lf h
     have z:=p8<|sg 0 c7<|en (aI (rP (.tuple [.str ([]:ag),.bool false]))<|(aI trivial (aI trivial trivial)))
     exact bN qhe call44 func44 (c:=qho) rfl (aI (ak t) trivial) z<|by kernel_rfl
abbrev qh:=(aa->aa->Option Bool)
abbrev ym(R:qh):Prop:=∀(a:aa) (a2:aa) (r:Bool),R a a2=some r->CC Pg GE 93 [.agg (ac a),.agg (ac a2)] (.bool r) []
end Go.Proofs.YtbaamopmfmpfaaaGreatDoor
