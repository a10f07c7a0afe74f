/- PROVED: a part of the proof. Conditions: none. -/
import Derived.Test.YtbaamopmfmpfaaaGreatDoorPkB13
noncomputable section
namespace Go.Proofs.YtbaamopmfmpfaaaGreatDoor
open Go Go.Proofs.Tryz
set_option linter.unusedVariables false
set_option maxRecDepth 100000
noncomputable def U6:Code:=f152.body.getD .skip
def ON:List Nat:=[33,44,61]
section
variable(t:ae)(t18:waB)(t19:Int)(t20:Int)(t25:waA)(t26:Int)(m:Int)(m2:af)(m3:Int)(m4:waB)(out:waA)(t27:Int)
def gw:aC:=be 69 [(1,.eptr (ag t)),(3,sl cS out),(18,sl ac t18),(19,.int .i64 t19),(20,.int .i64 t20),(25,sl cS t25),(26,.int .i64 t26),(27,.int .i64 t27)] [.dead,.cells [.int .i64 m,.str m2,.int .i64 m3,sl ac m4] []] [((25,0),9),((18,0),36),((3,0),9)]
def rU(o:waA):aC:=be 69 [(1,.eptr (ag t)),(3,sl cS o),(18,sl ac t18),(19,.int .i64 t19),(20,.int .i64 t20)] [.dead,.cells [.int .i64 m,.str m2,.int .i64 m3,sl ac m4] []] [((18,0),36),((3,0),9)]
def zi:Option ((waA×Int)⊕(waA)):=
 if(decide (t27<t26))=true then
  (cz t25 t27).bind fun x6=>
  if(!(x6==([118]:af)))=true then
   (app out ([x6]:List af)).bind fun l9=>
   some (.inl (l9,aS (t27+1)))
  else
   some (.inl (out,aS (t27+1)))
 else
  some (.inr out)
def kV:Option waA:=loop (fun(zz:waA×Int)=>zi t25 t26 zz.1 zz.2) (out,t27)
theorem G1{y:(waA×Int)⊕(waA)}(h:zi t25 t26 out t27=some y):aV Pg GE 0 (cA U6 30687) (LQ (fun(zz:waA×Int)=>gw t t18 t19 t20 t25 t26 m m2 m3 m4 zz.1 zz.2) (fun _=>.exit 2) (rU t t18 t19 t20 m m2 m3 m4) y) (gw t t18 t19 t20 t25 t26 m m2 m3 m4 out t27):=by
 rcases bj h with⟨c5,h⟩|⟨c5,h⟩
 ·obtain⟨x6,bx6,h⟩:=ay h
  have p8:=fun{sc F} (r:PS sc F)=>sg 0 c5<|sv (bq.ia (k:=.i64) bx6)<|sv (dB Bg (.str x6) [])<|r
  rcases bj h with⟨c7,h⟩|⟨c7,h⟩
  ·obtain⟨l9,bl9,h⟩:=ay h
   obtain rfl:=lf h
   exact oo ON (p8<|sg 0 c7<|sv (bq.mk' (v:=PVal.str) Fs ([x6]:List af) 1 (by kernel_rfl))<|sv (bq.ap bl9)<|eF .normal (gw t t18 t19 t20 t25 t26 m m2 m3 m4 l9 (aS (t27+1))))<|by kernel_rfl
  ·obtain rfl:=lf h
   exact oo ON (p8<|sg 0 c7<|eF .normal (gw t t18 t19 t20 t25 t26 m m2 m3 m4 out (aS (t27+1))))<|by kernel_rfl
 ·obtain rfl:=lf h
  have z:=sg 0 c5<|eF (.exit 2) (rU t t18 t19 t20 m m2 m3 m4 out)
  exact gg ON (by intro hx;cases hx) z<|by kernel_rfl
theorem IZ{x:waA}(h:kV t25 t26 out t27=some x):aV Pg GE 0 (.loop (cA U6 30687)) (EX (.exit 2) (rU t t18 t19 t20 m m2 m3 m4 x)) (gw t t18 t19 t20 t25 t26 m m2 m3 m4 out t27):=
 aV.loop (S:=fun(zz:waA×Int)=>gw t t18 t19 t20 t25 t26 m m2 m3 m4 zz.1 zz.2) (ex:=(fun _=>.exit 2)) (s:=(out,t27)) h fun zz y hy=>G1 t t18 t19 t20 t25 t26 m m2 m3 m4 zz.1 zz.2 hy
end
section
variable(t:ae)(t18:waB)(t19:Int)(out:waA)(t20:Int)
def jc:aC:=be 69 [(1,.eptr (ag t)),(3,sl cS out),(18,sl ac t18),(19,.int .i64 t19),(20,.int .i64 t20)] [.dead] [((18,0),36),((3,0),9)]
def rS(o:waA):aC:=be 69 [(1,.eptr (ag t)),(3,sl cS o)] [.dead] [((3,0),9)]
def zh:Option ((waA×Int)⊕(waA)):=
 if(decide (t20<t19))=true then
  (cz t18 t20).bind fun x3=>
  (tp x3).bind fun r4=>
  (kV r4 (r4.length:Int) out 0).bind fun o10=>
  some (.inl (o10,aS (t20+1)))
 else
  some (.inr out)
def vC:Option waA:=loop (fun(zz:waA×Int)=>zh t18 t19 zz.1 zz.2) (out,t20)
theorem G0{y:(waA×Int)⊕(waA)}(h:zh t18 t19 out t20=some y):aV Pg GE 0 (cA U6 119) (LQ (fun(zz:waA×Int)=>jc t t18 t19 zz.1 zz.2) (fun _=>.exit 0) (rS t) y) (jc t t18 t19 out t20):=by
 rcases bj h with⟨c2,h⟩|⟨c2,h⟩
 ·obtain⟨x3,bx3,h⟩:=ay h
  obtain⟨r4,br4,h⟩:=ay h
  obtain⟨o10,bo10,h⟩:=ay h
  obtain rfl:=lf h
  have z:=sg 0 c2<|sv (bL.ia (k:=.i64) bx3)<|sv (bh x3)<|sx ib<|sx (cr x3)<|sv (bX x3 [])<|bz (KK br4)<|cq (bq.ln r4)<|cY (IZ t t18 t19 t20 r4 (r4.length:Int) x3.Op x3.Name x3.N x3.Kids out 0 bo10)<|uP 0 .normal (jc t t18 t19 o10 (aS (t20+1))) rfl (dF (aI (im (ak t)) (aI (up (aj dN o10)) (aI (up (aj ah t18)) (aI trivial (aI trivial trivial)))))) (aI trivial trivial)
  exact dh (A:=ON) mixed z<|by kernel_rfl
 ·obtain rfl:=lf h
  have z:=sg 0 c2<|eF (.exit 0) (rS t out)
  exact gg ON (by intro hx;cases hx) z<|by kernel_rfl
theorem IY{x:waA}(h:vC t18 t19 out t20=some x):aV Pg GE 0 (.loop (cA U6 119)) (EX (.exit 0) (rS t x)) (jc t t18 t19 out t20):=
 aV.loop (S:=fun(zz:waA×Int)=>jc t t18 t19 zz.1 zz.2) (ex:=(fun _=>.exit 0)) (s:=(out,t20)) h fun zz y hy=>G0 t t18 t19 zz.1 zz.2 hy
end
section
variable(t:ae)(bound:waA)(t40:waC)(t41:Int)(t42:Int)(t51:waA)(t52:Int)(m:Int)(m2:af)(m3:waC)(m4:waA)(m5:Int)(m6:af)(m7:Int)(m8:waB)(m9:waB)(out:waA)(t53:Int)
def gy:aC:=be 69 [(1,.eptr (ag t)),(3,sl cS out),(10,sl cS bound),(40,sl ag t40),(41,.int .i64 t41),(42,.int .i64 t42),(51,sl cS t51),(52,.int .i64 t52),(53,.int .i64 t53)] [.dead,.cells [.int .i64 m,.str m2,sl ag m3,sl cS m4,.int .i64 m5,.str m6,.int .i64 m7,sl ac m8,sl ac m9] []] [((51,0),9),((3,0),9)]
def rX(o:waA):aC:=be 69 [(1,.eptr (ag t)),(3,sl cS o),(40,sl ag t40),(41,.int .i64 t41),(42,.int .i64 t42)] [.dead,.cells [.int .i64 m,.str m2,sl ag m3,sl cS m4,.int .i64 m5,.str m6,.int .i64 m7,sl ac m8,sl ac m9] []] [((3,0),9)]
def zk:Option ((waA×Int)⊕(waA)):=
 if(decide (t53<t52))=true then
  (cz t51 t53).bind fun x17=>
  (fq bound x17).bind fun r18=>
  if(!r18)=true then
   (app out ([x17]:List af)).bind fun l21=>
   some (.inl (l21,aS (t53+1)))
  else
   some (.inl (out,aS (t53+1)))
 else
  some (.inr out)
def kW:Option waA:=loop (fun(zz:waA×Int)=>zk bound t51 t52 zz.1 zz.2) (out,t53)
theorem G3{y:(waA×Int)⊕(waA)}(h:zk bound t51 t52 out t53=some y):aV Pg GE 0 (cA U6 126911) (LQ (fun(zz:waA×Int)=>gy t bound t40 t41 t42 t51 t52 m m2 m3 m4 m5 m6 m7 m8 m9 zz.1 zz.2) (fun _=>.exit 6) (rX t t40 t41 t42 m m2 m3 m4 m5 m6 m7 m8 m9) y) (gy t bound t40 t41 t42 t51 t52 m m2 m3 m4 m5 m6 m7 m8 m9 out t53):=by
 rcases bj h with⟨c16,h⟩|⟨c16,h⟩
 ·obtain⟨x17,bx17,h⟩:=ay h
  obtain⟨r18,br18,h⟩:=ay h
  have p20:=fun{sc F} (r:PS sc F)=>sg 0 c16<|sv (bq.ia (k:=.i64) bx17)<|sv (dB Bg (.str x17) [])<|bz (iv br18)<|r
  rcases bj h with⟨c19,h⟩|⟨c19,h⟩
  ·obtain⟨l21,bl21,h⟩:=ay h
   obtain rfl:=lf h
   exact oo ON (p20<|sg 0 c19<|sv (bq.mk' (v:=PVal.str) Fs ([x17]:List af) 1 (by kernel_rfl))<|sv (bq.ap bl21)<|eF .normal (gy t bound t40 t41 t42 t51 t52 m m2 m3 m4 m5 m6 m7 m8 m9 l21 (aS (t53+1))))<|by kernel_rfl
  ·obtain rfl:=lf h
   exact oo ON (p20<|sg 0 c19<|eF .normal (gy t bound t40 t41 t42 t51 t52 m m2 m3 m4 m5 m6 m7 m8 m9 out (aS (t53+1))))<|by kernel_rfl
 ·obtain rfl:=lf h
  have z:=sg 0 c16<|eF (.exit 6) (rX t t40 t41 t42 m m2 m3 m4 m5 m6 m7 m8 m9 out)
  exact gg ON (by intro hx;cases hx) z<|by kernel_rfl
theorem I1{x:waA}(h:kW bound t51 t52 out t53=some x):aV Pg GE 0 (.loop (cA U6 126911)) (EX (.exit 6) (rX t t40 t41 t42 m m2 m3 m4 m5 m6 m7 m8 m9 x)) (gy t bound t40 t41 t42 t51 t52 m m2 m3 m4 m5 m6 m7 m8 m9 out t53):=
 aV.loop (S:=fun(zz:waA×Int)=>gy t bound t40 t41 t42 t51 t52 m m2 m3 m4 m5 m6 m7 m8 m9 zz.1 zz.2) (ex:=(fun _=>.exit 6)) (s:=(out,t53)) h fun zz y hy=>G3 t bound t40 t41 t42 t51 t52 m m2 m3 m4 m5 m6 m7 m8 m9 zz.1 zz.2 hy
end
section
variable(R69:rn)(t:ae)(t40:waC)(t41:Int)(out:waA)(t42:Int)
def jd:aC:=be 69 [(1,.eptr (ag t)),(3,sl cS out),(40,sl ag t40),(41,.int .i64 t41),(42,.int .i64 t42)] [.dead] [((3,0),9)]
def rV(o:waA):aC:=be 69 [(3,sl cS o)] [.dead] [((3,0),9)]
def zj:Option ((waA×Int)⊕(waA)):=
 if(decide (t42<t41))=true then
  (cz t40 t42).bind fun x13=>
  (mY t t42).bind fun r14=>
  (R69 x13).bind fun r15=>
  (kW r14 r15 (r15.length:Int) out 0).bind fun o22=>
  some (.inl (o22,aS (t42+1)))
 else
  some (.inr out)
def vD:Option waA:=loop (fun(zz:waA×Int)=>zj R69 t t40 t41 zz.1 zz.2) (out,t42)
theorem G2(hR69:wM R69){y:(waA×Int)⊕(waA)}(h:zj R69 t t40 t41 out t42=some y):aV Pg GE 0 (cA U6 247) (LQ (fun(zz:waA×Int)=>jd t t40 t41 zz.1 zz.2) (fun _=>.exit 4) rV y) (jd t t40 t41 out t42):=by
 rcases bj h with⟨c12,h⟩|⟨c12,h⟩
 ·obtain⟨x13,bx13,h⟩:=ay h
  obtain⟨r14,br14,h⟩:=ay h
  obtain⟨r15,br15,h⟩:=ay h
  obtain⟨o22,bo22,h⟩:=ay h
  obtain rfl:=lf h
  have z:=sg 0 c12<|sv (ct.ia (k:=.i64) bx13)<|sv (aN x13)<|sx tu<|sx (ez x13)<|sv (aN t)<|bz (KU br14)<|sv (cX x13 [])<|bz (hR69 _ _ br15)<|cq (bq.ln r15)<|cY (I1 t r14 t40 t41 t42 r15 (r15.length:Int) x13.Op x13.Name x13.Args x13.Names x13.Pred.Op x13.Pred.Name x13.Pred.N x13.Pred.Kids x13.Preds out 0 bo22)<|uP 0 .normal (jd t t40 t41 o22 (aS (t42+1))) rfl (dF (aI (im (ak t)) (aI (up (aj dN o22)) (aI (up (aj ak t40)) (aI trivial (aI trivial trivial)))))) (aI trivial trivial)
  exact dh (A:=ON) mixed z<|by kernel_rfl
 ·obtain rfl:=lf h
  have z:=sg 0 c12<|eF (.exit 4) (rV out)
  exact gg ON (by intro hx;cases hx) z<|by kernel_rfl
theorem I0(hR69:wM R69){x:waA}(h:vD R69 t t40 t41 out t42=some x):aV Pg GE 0 (.loop (cA U6 247)) (EX (.exit 4) (rV x)) (jd t t40 t41 out t42):=
 aV.loop (S:=fun(zz:waA×Int)=>jd t t40 t41 zz.1 zz.2) (ex:=(fun _=>.exit 4)) (s:=(out,t42)) h fun zz y hy=>G2 R69 t t40 t41 zz.1 zz.2 hR69 hy
end
def rR(R69:rn)(t:ae):Option waA:=
 (app ([t.Pred]:List aa) t.Preds).bind fun l1=>
 (vC l1 (l1.length:Int) ([]:List af) 0).bind fun o11=>
 (vD R69 t t.Args (t.Args.length:Int) o11 0).bind fun o23=>
 (qx o23 ([]:List af)).bind fun r24=>
 some r24
theorem Ms(R69:rn)(hR69:wM R69){t:ae}{r:waA}(h:rR R69 t=some r):CC Pg GE 152 [.agg (ag t)] (sl cS r) [(0,9)]:=by
 obtain⟨l1,bl1,h⟩:=ay h
 obtain⟨o11,bo11,h⟩:=ay h
 obtain⟨o23,bo23,h⟩:=ay h
 obtain⟨r24,br24,h⟩:=ay h
 obtain rfl:=lf h
 have z:=se (bw t)<|sv (dH t)<|sv (dI t)<|sv (bL.mk' (v:=dZ) cP ([t.Pred]:List aa) 1 (by kernel_rfl))<|sv (du t)<|sv (dv t)<|sv (bL.ap bl1)<|cq (bL.ln l1)<|cY (IY t l1 (l1.length:Int) ([]:List af) 0 bo11)<|sv (aL t)<|sv (aM t)<|cq (ct.ln t.Args)<|cY (I0 R69 t t.Args (t.Args.length:Int) o11 0 hR69 bo23)<|bz (Fq br24)<|en (aI (rP (sl cS r24))<|(aj dN r24))
 exact bO ON call152 func152 (c:=U6) rfl (aI (ak t) trivial) z<|by kernel_rfl
def yj:(ae->Option waA)->(ae)->Option waA:=fun(rec:ae->Option waA) (x:ae)=>rR (fun t=>rec t) x
def CV(t:ae):Option waA:=kK yj t
theorem On{t:ae}{r:waA}(h:CV t=some r):CC Pg GE 152 [.agg (ag t)] (sl cS r) [(0,9)]:=
 cG (F:=yj) (M:=fun(x:ae) (r:waA)=>CC Pg GE 152 [.agg (ag x)] (sl cS r) [(0,9)]) (fun rec hrec x r h=>Ms _ (fun t r h=>hrec t r h) h) h
noncomputable def qkg:Code:=f153.body.getD .skip
def qjX:List Nat:=[13,19]
def fA(s:am)(name:af)(a:aa):Option am:=
 (cn s ([name]:List af)).bind fun r1=>
 (app r1.names ([name]:List af)).bind fun l2=>
 (app r1.by_ ([a]:List aa)).bind fun l3=>
 some (⟨l2,l3⟩:am)
theorem vG{s:am}{name:af}{a:aa}{r:am}(h:fA s name a=some r):CC Pg GE 153 [.agg (aA s),.str name,.agg (ac a)] (.agg (aA r)) [(0,9),(1,36)]:=by
 obtain⟨r1,br1,h⟩:=ay h
 obtain⟨l2,bl2,h⟩:=ay h
 obtain⟨l3,bl3,h⟩:=ay h
 obtain rfl:=lf h
 have z:=se (d4 s)<|se (bU a)<|sx T1<|sv (cK s)<|sv (bq.mk' (v:=PVal.str) Fs ([name]:List af) 1 (by kernel_rfl))<|bz (fx br1)<|sx T1<|sy (de r1)<|sv (bq.mk' (v:=PVal.str) Fs ([name]:List af) 1 (by kernel_rfl))<|sv (bq.ap bl2)<|sv (bh a)<|sv (bL.mk' (v:=dZ) cP ([a]:List aa) 1 (by kernel_rfl))<|sv (bL.ap bl3)<|sz (cU (⟨l2,l3⟩:am) [])<|sy (de (⟨l2,l3⟩:am))<|en (aI (pC (⟨l2,l3⟩:am))<|aI (bG (⟨l2,l3⟩:am))<|rT)
 exact bO qjX call153 func153 (c:=qkg) rfl (aI (bG s) (aI trivial (aI (ah a) trivial))) z<|by kernel_rfl
noncomputable def qgQ:Code:=f138.body.getD .skip
def qct:List Nat:=[44,48,80]
section
variable(R61:cd)(t:ae)(t40:waC)(t41:Int)(m:waC)(m2:waB)(m3:Int)(m4:af)(n:Nat)(m6:Int)(m7:af)(m8:Int)(m9:waB)(m10:waB)(m11:waA)(m12:waB)(used:waA)(t42:Int)(w3:List af)(m5:waC)(m13:waA)(m14:waB)
def bQ:aC:=be 99 [(3,.eptr (ag t)),(4,.bptr 2 0),(5,.bptr 4 0),(7,sl cS used),(8,.bptr 6 0),(40,sl ag t40),(41,.int .i64 t41),(42,.int .i64 t42)] [.dead,.dead,.cells [.int .i64 0,.str ([]:af),sl ag m,sl cS ([]:List af),.int .i64 0,.str ([]:af),.int .i64 0,sl ac m2,sl ac m2] [(2,38),(3,9),(7,36),(8,36)],.cells (pN cS w3) [],.cells [.int .i64 m3,.str m4,sl ag m5,.bsl 3 0 n,.int .i64 m6,.str m7,.int .i64 m8,sl ac m9,sl ac m10] [(2,38)],.cells [sl cS m11,sl ac m12] [],.cells [sl cS m13,sl ac m14] []] [((7,0),9)]
def eI(o:List af×waC×waA×waB):aC:=be 99 [(4,.bptr 2 0),(5,.bptr 4 0)] [.dead,.dead,.cells [.int .i64 0,.str ([]:af),sl ag m,sl cS ([]:List af),.int .i64 0,.str ([]:af),.int .i64 0,sl ac m2,sl ac m2] [(2,38),(3,9),(7,36),(8,36)],.cells (pN cS o.1) [],.cells [.int .i64 m3,.str m4,sl ag o.2.1,.bsl 3 0 n,.int .i64 m6,.str m7,.int .i64 m8,sl ac m9,sl ac m10] [(2,38)],.cells [sl cS m11,sl ac m12] [],.cells [sl cS o.2.2.1,sl ac o.2.2.2] []] []
def bI:Option ((waA×Int×List af×waC×waA×waB)⊕((List af×waC×waA×waB))):=
 if (decide (t42 < t41)) = true then
  (cz t40 t42).bind fun x9=>
  (R61 (⟨m13,m14⟩:am) x9).bind fun r10=>
  (app m5 ([r10]:List ae)).bind fun l11=>
  if(decide (t42>=(t.Names.length:Int)))=true then
   some (.inl (used,aS (t42+1),w3,l11,m13,m14))
  else
   (cz t.Names t42).bind fun x14=>
   (cn (⟨m13,m14⟩:am) ([x14]:List af)).bind fun r15=>
   (ek r15).bind fun r16=>
   (fq r16 x14).bind fun r17=>
   if r17=true then
    (mW used x14).bind fun r20=>
    (Yu n w3 t42).bind fun x21=>
    (qfP w3 t42 r20).bind fun l22=>
    (Yu n l22 t42).bind fun x23=>
    (app used ([x23]:List af)).bind fun l24=>
    (Yu n l22 t42).bind fun x25=>
    (fA r15 x14 (⟨3,x25,0,([]:List aa)⟩:aa)).bind fun r26=>
    some (.inl (l24,aS (t42+1),l22,l11,r26.names,r26.by_))
   else
    some (.inl (used,aS (t42+1),w3,l11,r15.names,r15.by_))
 else
  some (.inr (w3,m5,m13,m14))
def fb:Option ((List af×waC×waA×waB)):=loop (fun(zz:waA×Int×List af×waC×waA×waB)=>bI R61 t t40 t41 n zz.1 zz.2.1 zz.2.2.1 zz.2.2.2.1 zz.2.2.2.2.1 zz.2.2.2.2.2) (used,t42,w3,m5,m13,m14)
theorem ol(hR61:da R61){y:(waA×Int×List af×waC×waA×waB)⊕((List af×waC×waA×waB))}(h:bI R61 t t40 t41 n used t42 w3 m5 m13 m14=some y):aV Pg GE 0 (cA qgQ 1015) (LQ (fun(zz:waA×Int×List af×waC×waA×waB)=>bQ t t40 t41 m m2 m3 m4 n m6 m7 m8 m9 m10 m11 m12 zz.1 zz.2.1 zz.2.2.1 zz.2.2.2.1 zz.2.2.2.2.1 zz.2.2.2.2.2) (fun _=>.exit 0) (eI m m2 m3 m4 n m6 m7 m8 m9 m10 m11 m12) y) (bQ t t40 t41 m m2 m3 m4 n m6 m7 m8 m9 m10 m11 m12 used t42 w3 m5 m13 m14):=by
 rcases bj h with⟨c8,h⟩|⟨c8,h⟩
 ·obtain⟨x9,bx9,h⟩:=ay h
  obtain⟨r10,br10,h⟩:=ay h
  obtain⟨l11,bl11,h⟩:=ay h
  have p13:=fun{sc F} (r:PS sc F)=>sg 0 c8<|sv (ct.ia (k:=.i64) bx9)<|sv (aN x9)<|sx tu<|sx (ez x9)<|lK [0,1,0,0,12,28,63,127,255]<|sv (cU (⟨m13,m14⟩:am) [])<|sv (cX x9 [])<|bz (hR61 _ _ _ br10)<|sv (ct.mk' (v:=jG) eO ([r10]:List ae) 1 (by kernel_rfl))<|sv (ct.ap bl11)<|We (rfl:bK (sl ag l11)=some [sl ag l11])<|sv (aQ t)<|sv (aR t)<|cq (bq.ln t.Names)<|r
  rcases bj h with⟨c12,h⟩|⟨c12,h⟩
  ·obtain rfl:=lf h
   have z:=p13<|sg 0 c12<|uP 0 .normal (bQ t t40 t41 m m2 m3 m4 n m6 m7 m8 m9 m10 m11 m12 used (aS (t42+1)) w3 l11 m13 m14) rfl (dF (aI (im (ak t)) (aI (cZ rfl) (aI (cZ rfl) (aI (up (aj dN used)) (aI (cZ rfl) (aI (up (aj ak t40)) (aI trivial (aI trivial trivial))))))))) (aI trivial (aI trivial (aI (aI trivial (aI trivial (aI (up (aj ak m)) (aI (up (aj dN ([]:List af))) (aI trivial (aI trivial (aI trivial (aI (up (aj ah m2)) (aI (up (aj ah m2)) trivial))))))))) (aI (qeF _ dN w3) (aI (aI trivial (aI trivial (aI (up (aj ak l11)) (aI (cZ rfl) (aI trivial (aI trivial (aI trivial (aI (up (aj ah m9)) (aI (up (aj ah m10)) trivial))))))))) (aI (aI (up (aj dN m11)) (aI (up (aj ah m12)) trivial)) (aI (aI (up (aj dN m13)) (aI (up (aj ah m14)) trivial)) trivial)))))))
   exact dh (A:=qct) mixed z<|by kernel_rfl
  ·obtain⟨x14,bx14,h⟩:=ay h
   obtain⟨r15,br15,h⟩:=ay h
   obtain⟨r16,br16,h⟩:=ay h
   obtain⟨r17,br17,h⟩:=ay h
   have p19:=fun{sc F} (r:PS sc F)=>p13<|sg 0 c12<|sv (aQ t)<|sv (aR t)<|sv (bq.ia (k:=.i64) bx14)<|sv (dB Bg (.str x14) [])<|sv (cU (⟨m13,m14⟩:am) [])<|sv (bq.mk' (v:=PVal.str) Fs ([x14]:List af) 1 (by kernel_rfl))<|bz (fx br15)<|sy (de r15)<|sv (cU r15 [])<|bz (kX br16)<|bz (iv br17)<|r
   rcases bj h with⟨c18,h⟩|⟨c18,h⟩
   ·obtain⟨r20,br20,h⟩:=ay h
    obtain⟨x21,bx21,h⟩:=ay h
    obtain⟨l22,bl22,h⟩:=ay h
    obtain⟨x23,bx23,h⟩:=ay h
    obtain⟨l24,bl24,h⟩:=ay h
    obtain⟨x25,bx25,h⟩:=ay h
    obtain⟨r26,br26,h⟩:=ay h
    obtain rfl:=lf h
    have z:=p19<|sg 0 c18<|qhS (.dx [0,1,0,0,0,24,63,127] [] [] [3])<|ss<|bz (yb br20)<|sv (bq.iaN 3 (k:=.i64) bx21)<|qjQ (bq.stR (Fs r20) bl22)<|ss<|sv (bq.iaN 3 (k:=.i64) bx23)<|sv (bq.ldN (fun r=>dB Bg (.str x23) r) bx23)<|sv (bq.mk' (v:=PVal.str) Fs ([x23]:List af) 1 (by kernel_rfl))<|sv (bq.ap bl24)<|lK [0,0,0,4,0,28,60,124,255,511]<|sv (cU r15 [])<|ss<|sv (bq.iaN 3 (k:=.i64) bx25)<|sv (bq.ldN (fun r=>dB Bg (.str x25) r) bx25)<|sb (ko 3 x25) (kl 3 x25)<|bz (vG br26)<|qcq (fT r26)<|uP 0 .normal (bQ t t40 t41 m m2 m3 m4 n m6 m7 m8 m9 m10 m11 m12 l24 (aS (t42+1)) l22 l11 r26.names r26.by_) rfl (dF (aI (im (ak t)) (aI (cZ rfl) (aI (cZ rfl) (aI (up (aj dN l24)) (aI (cZ rfl) (aI (up (aj ak t40)) (aI trivial (aI trivial trivial))))))))) (aI trivial (aI trivial (aI (aI trivial (aI trivial (aI (up (aj ak m)) (aI (up (aj dN ([]:List af))) (aI trivial (aI trivial (aI trivial (aI (up (aj ah m2)) (aI (up (aj ah m2)) trivial))))))))) (aI (qeF _ dN l22) (aI (aI trivial (aI trivial (aI (up (aj ak l11)) (aI (cZ rfl) (aI trivial (aI trivial (aI trivial (aI (up (aj ah m9)) (aI (up (aj ah m10)) trivial))))))))) (aI (aI (up (aj dN m11)) (aI (up (aj ah m12)) trivial)) (aI (aI (up (aj dN r26.names)) (aI (up (aj ah r26.by_)) trivial)) trivial)))))))
    exact dh (A:=qct) mixed z<|by kernel_rfl
   ·obtain rfl:=lf h
    have z:=p19<|sg 0 c18<|uP 0 .normal (bQ t t40 t41 m m2 m3 m4 n m6 m7 m8 m9 m10 m11 m12 used (aS (t42+1)) w3 l11 r15.names r15.by_) rfl (dF (aI (im (ak t)) (aI (cZ rfl) (aI (cZ rfl) (aI (up (aj dN used)) (aI (cZ rfl) (aI (up (aj ak t40)) (aI trivial (aI trivial trivial))))))))) (aI trivial (aI trivial (aI (aI trivial (aI trivial (aI (up (aj ak m)) (aI (up (aj dN ([]:List af))) (aI trivial (aI trivial (aI trivial (aI (up (aj ah m2)) (aI (up (aj ah m2)) trivial))))))))) (aI (qeF _ dN w3) (aI (aI trivial (aI trivial (aI (up (aj ak l11)) (aI (cZ rfl) (aI trivial (aI trivial (aI trivial (aI (up (aj ah m9)) (aI (up (aj ah m10)) trivial))))))))) (aI (aI (up (aj dN m11)) (aI (up (aj ah m12)) trivial)) (aI (aI (up (aj dN r15.names)) (aI (up (aj ah r15.by_)) trivial)) trivial)))))))
    exact dh (A:=qct) mixed z<|by kernel_rfl
 ·obtain rfl:=lf h
  have z:=sg 0 c8<|eF (.exit 0) (eI m m2 m3 m4 n m6 m7 m8 m9 m10 m11 m12 (w3,m5,m13,m14))
  exact gg qct (by intro hx;cases hx) z<|by kernel_rfl
theorem pA(hR61:da R61){x:(List af×waC×waA×waB)}(h:fb R61 t t40 t41 n used t42 w3 m5 m13 m14=some x):aV Pg GE 0 (.loop (cA qgQ 1015)) (EX (.exit 0) (eI m m2 m3 m4 n m6 m7 m8 m9 m10 m11 m12 x)) (bQ t t40 t41 m m2 m3 m4 n m6 m7 m8 m9 m10 m11 m12 used t42 w3 m5 m13 m14):=
 aV.loop (S:=fun(zz:waA×Int×List af×waC×waA×waB)=>bQ t t40 t41 m m2 m3 m4 n m6 m7 m8 m9 m10 m11 m12 zz.1 zz.2.1 zz.2.2.1 zz.2.2.2.1 zz.2.2.2.2.1 zz.2.2.2.2.2) (ex:=(fun _=>.exit 0)) (s:=(used,t42,w3,m5,m13,m14)) h fun zz y hy=>ol R61 t t40 t41 m m2 m3 m4 n m6 m7 m8 m9 m10 m11 m12 zz.1 zz.2.1 zz.2.2.1 zz.2.2.2.1 zz.2.2.2.2.1 zz.2.2.2.2.2 hR61 hy
end
def gj(R61:cd)(s:am)(t:ae):Option ae:=
 (n8 t.Names).bind fun r1=>
 (di s t.Pred).bind fun r2=>
 (mZ t.Preds s).bind fun r3=>
 (ek s).bind fun r4=>
 (CV t).bind fun r5=>
 (app r4 r5).bind fun l6=>
 (app l6 t.Names).bind fun l7=>
 (fb R61 t t.Args (t.Args.length:Int) r1.length l7 0 r1 ([]:List ae) s.names s.by_).bind fun o27=>
 (qdc r1.length o27.1).bind fun l28=>
 some (⟨t.Op,t.Name,o27.2.1,l28,r2,r3⟩:ae)
theorem sa(R61:cd)(hR61:da R61){s:am}{t:ae}{r:ae}(h:gj R61 s t=some r):CC Pg GE 138 [.agg (aA s),.agg (ag t)] (.agg (ag r)) [(2,38)]:=by
 obtain⟨r1,br1,h⟩:=ay h
 obtain⟨r2,br2,h⟩:=ay h
 obtain⟨r3,br3,h⟩:=ay h
 obtain⟨r4,br4,h⟩:=ay h
 obtain⟨r5,br5,h⟩:=ay h
 obtain⟨l6,bl6,h⟩:=ay h
 obtain⟨l7,bl7,h⟩:=ay h
 obtain⟨o27,bo27,h⟩:=ay h
 obtain⟨l28,bl28,h⟩:=ay h
 obtain rfl:=lf h
 have z:=se (d4 s)<|se (bw t)<|sx tu<|qhS (.dx [0,1,0,4,0,16,48,0,0,256,1008,0,2048,0,8192,32752,65535,0,262143] [.cells (pN cS r1) []] [(6,3)] [])<|sv (aD t)<|sv (aE t)<|sv (cx t)<|sv (cT t)<|sv (aQ t)<|sv (aR t)<|qjP 3 9 (bq.cloneR Tu br1)<|sv (cK s)<|sv (dH t)<|sv (dI t)<|bz (gH br2)<|sv (du t)<|sv (dv t)<|sv (cK s)<|bz (zl br3)<|sb (Dy t.Op t.Name 3 r1.length r2 r3) (Dw t.Op t.Name 3 r1.length r2 r3)<|qcq (qmf [.int .i64 t.Op,.str t.Name,sl ag ([]:List ae),.bsl 3 0 r1.length,.int .i64 r2.Op,.str r2.Name,.int .i64 r2.N,sl ac r2.Kids,sl ac r3])<|sv (cK s)<|sx T1<|sx (fT s)<|lK [0,1,0,7,15,0,32,127,255]<|sv (cU s [])<|bz (kX br4)<|sv (aN t)<|bz (On br5)<|sv (bq.ap bl6)<|sv (aQ t)<|sv (aR t)<|sv (bq.ap bl7)<|sv (cK s)<|sx T1<|sx (fT s)<|sv (aL t)<|sv (aM t)<|cq (ct.ln t.Args)<|cY (pA R61 t t.Args (t.Args.length:Int) ([]:List ae) ([]:List aa) t.Op t.Name r1.length r2.Op r2.Name r2.N r2.Kids r3 s.names s.by_ l7 0 r1 ([]:List ae) s.names s.by_ hR61 bo27)<|qgo 3 (l28.map cS) [4,5] [] (bq.fz1 (m:=0) (b:=3) rfl l28) (bq.fz2 3 l28) (qhP cS bl28)<|sf (Fr 3 (p:=sl ag ([]:List ae)) (aj ak ([]:List ae)))<|sf (Fr 3 (p:=sl cS ([]:List af)) (aj dN ([]:List af)))<|sf (Fr 3 (p:=sl ac ([]:List aa)) (aj ah ([]:List aa)))<|sf (Fr 3 (p:=sl ac ([]:List aa)) (aj ah ([]:List aa)))<|sf (Fr 3 (p:=sl ag o27.2.1) (aj ak o27.2.1))<|sf (qhQ cS bl28)<|sf (Fr 3 (p:=sl ac r2.Kids) (aj ah r2.Kids))<|sf (Fr 3 (p:=sl ac r3) (aj ah r3))<|sf (Fr 3 (p:=sl cS s.names) (aj dN s.names))<|sf (Fr 3 (p:=sl ac s.by_) (aj ah s.by_))<|sf (Fr 3 (p:=sl cS o27.2.2.1) (aj dN o27.2.2.1))<|sf (Fr 3 (p:=sl ac o27.2.2.2) (aj ah o27.2.2.2))<|sz (cX (⟨t.Op,t.Name,o27.2.1,l28,r2,r3⟩:ae) [])<|sy (bu (⟨t.Op,t.Name,o27.2.1,l28,r2,r3⟩:ae))<|en (aI (ic (⟨t.Op,t.Name,o27.2.1,l28,r2,r3⟩:ae))<|aI (ak (⟨t.Op,t.Name,o27.2.1,l28,r2,r3⟩:ae))<|rT)
 exact bO qct call138 func138 (c:=qgQ) rfl (aI (bG s) (aI (ak t) trivial)) z<|by kernel_rfl
noncomputable def qgS:Code:=f141.body.getD .skip
def qgA:List Nat:=[14,21]
section
variable(R61:cd)(v:am)(t8:waC)(t9:Int)(out:waC)(t10:Int)
def fF:aC:=be 22 [(1,.func (.func 120) [.agg (aA v)] []),(5,sl ag out),(8,sl ag t8),(9,.int .i64 t9),(10,.int .i64 t10)] [] [((5,0),38)]
def lO(o:waC):aC:=be 22 [(5,sl ag o)] [] [((5,0),38)]
def sF:Option ((waC×Int)⊕(waC)):=
 if(decide (t10<t9))=true then
  (cz t8 t10).bind fun x2=>
  (R61 v x2).bind fun r3=>
  (app out ([r3]:List ae)).bind fun l4=>
  some (.inl (l4,aS (t10+1)))
 else
  some (.inr out)
def og:Option waC:=loop (fun(zz:waC×Int)=>sF R61 v t8 t9 zz.1 zz.2) (out,t10)
theorem Bf(hR61:da R61){y:(waC×Int)⊕(waC)}(h:sF R61 v t8 t9 out t10=some y):aV Pg GE 0 (cA qgS 119) (LQ (fun(zz:waC×Int)=>fF v t8 t9 zz.1 zz.2) (fun _=>.exit 0) lO y) (fF v t8 t9 out t10):=by
 rcases bj h with⟨c1,h⟩|⟨c1,h⟩
 ·obtain⟨x2,bx2,h⟩:=ay h
  obtain⟨r3,br3,h⟩:=ay h
  obtain⟨l4,bl4,h⟩:=ay h
  obtain rfl:=lf h
  have z:=sg 0 c1<|sv (ct.ia (k:=.i64) bx2)<|sv (aN x2)<|sx tu<|sx (ez x2)<|sv (cX x2 [])<|bz (hR61 _ _ _ br3)<|sv (ct.mk' (v:=jG) eO ([r3]:List ae) 1 (by kernel_rfl))<|sv (ct.ap bl4)<|uP 0 .normal (fF v t8 t9 l4 (aS (t10+1))) rfl (dF (aI (aI (aI (up (bG v)) trivial) trivial) (aI (up (aj ak l4)) (aI (up (aj ak t8)) (aI trivial (aI trivial trivial)))))) trivial
  exact dh (A:=qgA) mixed z<|by kernel_rfl
 ·obtain rfl:=lf h
  have z:=sg 0 c1<|eF (.exit 0) (lO out)
  exact gg qgA (by intro hx;cases hx) z<|by kernel_rfl
theorem CW(hR61:da R61){x:waC}(h:og R61 v t8 t9 out t10=some x):aV Pg GE 0 (.loop (cA qgS 119)) (EX (.exit 0) (lO x)) (fF v t8 t9 out t10):=
 aV.loop (S:=fun(zz:waC×Int)=>fF v t8 t9 zz.1 zz.2) (ex:=(fun _=>.exit 0)) (s:=(out,t10)) h fun zz y hy=>Bf R61 v t8 t9 zz.1 zz.2 hR61 hy
end
def tx(R61:cd)(a:waC)(c:am):Option waC:=
 (og R61 c a (a.length:Int) ([]:List ae) 0).bind fun o5=>
 some o5
theorem G5(R61:cd)(hR61:da R61){a:waC}{c:am}{r:waC}(h:tx R61 a c=some r):CC Pg GE 141 [sl ag a,.func (.func 120) [.agg (aA c)] []] (sl ag r) [(0,38)]:=by
 obtain⟨o5,bo5,h⟩:=ay h
 obtain rfl:=lf h
 have z:=cq (ct.ln a)<|cY (CW R61 c a (a.length:Int) ([]:List ae) 0 hR61 bo5)<|en (aI (rP (sl ag o5))<|(aj ak o5))
 exact bO qgA call141 func141 (c:=qgS) rfl (aI (aj ak a) (aI (aI (aI (bG c) trivial) trivial) trivial)) z<|by kernel_rfl
noncomputable def qin:Code:=f120.body.getD .skip
def qhX:List Nat:=[]
def fc(R61:cd)(s:am)(t:ae):Option ae:=
 if(t.Op==6)=true then
  (gj R61 s t).bind fun r3=>
  some r3
 else
  (n8 t.Names).bind fun r4=>
  (di s t.Pred).bind fun r5=>
  (mZ t.Preds s).bind fun r6=>
  (tx R61 t.Args s).bind fun r7=>
  some (⟨t.Op,t.Name,r7,r4,r5,r6⟩:ae)
theorem vF(R61:cd)(hR61:da R61){s:am}{t:ae}{r:ae}(h:fc R61 s t=some r):CC Pg GE 120 [.agg (aA s),.agg (ag t)] (.agg (ag r)) [(2,38)]:=by
 have p2:=fun{sc F} (r:PS sc F)=>se (d4 s)<|se (bw t)<|sx tu<|sv (aD t)<|sv (aE t)<|r
 rcases bj h with⟨c1,h⟩|⟨c1,h⟩
 ·obtain⟨r3,br3,h⟩:=ay h
  obtain rfl:=lf h
  have z:=p2<|sg 0 c1<|sv (cK s)<|sv (aN t)<|bz (sa R61 hR61 br3)<|sy (bu r3)<|en (aI (ic r3)<|aI (ak r3)<|rT)
  exact bO qhX call120 func120 (c:=qin) rfl (aI (bG s) (aI (ak t) trivial)) z<|by kernel_rfl
 ·obtain⟨r4,br4,h⟩:=ay h
  obtain⟨r5,br5,h⟩:=ay h
  obtain⟨r6,br6,h⟩:=ay h
  obtain⟨r7,br7,h⟩:=ay h
  obtain rfl:=lf h
  have z:=p2<|sg 0 c1<|lK [0,1,0,4,0,16,48,0,0,256,1008,0,2048,0,8192,32752,65535,0,262143]<|sv (aD t)<|sv (aE t)<|sv (cx t)<|sv (cT t)<|sv (aQ t)<|sv (aR t)<|bz (Ir br4)<|sv (cK s)<|sv (dH t)<|sv (dI t)<|bz (gH br5)<|sv (du t)<|sv (dv t)<|sv (cK s)<|bz (zl br6)<|sb (Iq t.Op t.Name r4 r5 r6) (Ip t.Op t.Name r4 r5 r6)<|qcq (ez (⟨t.Op,t.Name,([]:List ae),r4,r5,r6⟩:ae))<|sv (aL t)<|sv (aM t)<|sv (cK s)<|bz (G5 R61 hR61 br7)<|sz (cX (⟨t.Op,t.Name,r7,r4,r5,r6⟩:ae) [])<|sy (bu (⟨t.Op,t.Name,r7,r4,r5,r6⟩:ae))<|en (aI (ic (⟨t.Op,t.Name,r7,r4,r5,r6⟩:ae))<|aI (ak (⟨t.Op,t.Name,r7,r4,r5,r6⟩:ae))<|rT)
  exact bO qhX call120 func120 (c:=qin) rfl (aI (bG s) (aI (ak t) trivial)) z<|by kernel_rfl
def iu:((am×ae)->Option ae)->(am×ae)->Option ae:=fun(rec:(am×ae)->Option ae) (x:am×ae)=>fc (fun s t=>rec (s,t)) x.1 x.2
def jt(s:am)(t:ae):Option ae:=kK iu (s,t)
theorem wy{s:am}{t:ae}{r:ae}(h:jt s t=some r):CC Pg GE 120 [.agg (aA s),.agg (ag t)] (.agg (ag r)) [(2,38)]:=
 cG (F:=iu) (M:=fun(x:am×ae) (r:ae)=>CC Pg GE 120 [.agg (aA x.1),.agg (ag x.2)] (.agg (ag r)) [(2,38)]) (fun rec hrec x r h=>vF _ (fun s t r h=>hrec (s,t) r h) h) h
noncomputable def qkc:Code:=f113.body.getD .skip
def qjT:List Nat:=[]
def tw(t:ae)(a:waA)(a2:waB):Option ae:=
 (Ot a none (some (if(a2.length:Int)<(a.length:Int)then(a2.length:Int)else(a.length:Int)))).bind fun l1=>
 (Ot a2 none (some (if(a2.length:Int)<(a.length:Int)then(a2.length:Int)else(a.length:Int)))).bind fun l2=>
 (cn (⟨l1,l2⟩:am) ([([118]:af)]:List af)).bind fun r3=>
 (jt r3 t).bind fun r4=>
 some r4
theorem G4{t:ae}{a:waA}{a2:waB}{r:ae}(h:tw t a a2=some r):CC Pg GE 113 [.agg (ag t),sl cS a,sl ac a2] (.agg (ag r)) [(2,38)]:=by
 obtain⟨l1,bl1,h⟩:=ay h
 obtain⟨l2,bl2,h⟩:=ay h
 obtain⟨r3,br3,h⟩:=ay h
 obtain⟨r4,br4,h⟩:=ay h
 obtain rfl:=lf h
 have z:=se (bw t)<|sx tu<|cq (bq.ln a)<|cq (bL.ln a2)<|lK [0,0,3,0,0,24,63,0,255,0,1023]<|sv (bq.sc bl1)<|sv (bL.sc bl2)<|sv (wn l1 l2)<|sv (bq.mk' (v:=PVal.str) Fs ([([118]:af)]:List af) 1 (by kernel_rfl))<|bz (fx br3)<|qcq (fT r3)<|sv (cU r3 [])<|sv (aN t)<|bz (wy br4)<|sy (bu r4)<|en (aI (ic r4)<|aI (ak r4)<|rT)
 exact bO qjT call113 func113 (c:=qkc) rfl (aI (ak t) (aI (aj dN a) (aI (aj ah a2) trivial))) z<|by kernel_rfl
noncomputable def ql2:Code:=f99.body.getD .skip
def qlM:List Nat:=[]
def ua(t:ae)(name:af)(a:aa):Option ae:=
 (tw t ([name]:List af) ([a]:List aa)).bind fun r1=>
 some r1
theorem Mt{t:ae}{name:af}{a:aa}{r:ae}(h:ua t name a=some r):CC Pg GE 99 [.agg (ag t),.str name,.agg (ac a)] (.agg (ag r)) [(2,38)]:=by
 obtain⟨r1,br1,h⟩:=ay h
 obtain rfl:=lf h
 have z:=se (bw t)<|se (bU a)<|sx tu<|sv (aN t)<|sv (bq.mk' (v:=PVal.str) Fs ([name]:List af) 1 (by kernel_rfl))<|sv (bh a)<|sv (bL.mk' (v:=dZ) cP ([a]:List aa) 1 (by kernel_rfl))<|bz (G4 br1)<|sy (bu r1)<|en (aI (ic r1)<|aI (ak r1)<|rT)
 exact bO qlM call99 func99 (c:=ql2) rfl (aI (ak t) (aI trivial (aI (ah a) trivial))) z<|by kernel_rfl
noncomputable def qjH:Code:=f82.body.getD .skip
def qjq:List Nat:=[41]
section
variable(i:Int)(v:af)(t:ae)(n:Nat)(k:Int)(w1:List ae)
def fG:aC:=be 42 [(2,.int .i64 i),(3,.str v),(5,.eptr (ag t)),(9,.bsl 1 0 n),(10,.int .i64 k)] [.dead,.cells (pN ag w1) []] []
def lS(o:List ae):aC:=be 42 [(9,.bsl 1 0 n)] [.dead,.cells (pN ag o) []] []
def eA:Option ((Int×List ae)⊕(waC)):=
 if(decide (k<(n:Int)))=true then
  (Yu n w1 k).bind fun x5=>
  (cz t.Names i).bind fun x6=>
  (ua x5 x6 (⟨3,v,0,([]:List aa)⟩:aa)).bind fun r7=>
  (Yu n w1 k).bind fun x8=>
  (qfP w1 k r7).bind fun l9=>
  some (.inl (aS (k+1),l9))
 else
  some (.inr w1)
def om:Option waC:=loop (fun(zz:Int×List ae)=>eA i v t n zz.1 zz.2) (k,w1)
theorem Bi{y:(Int×List ae)⊕(waC)}(h:eA i v t n k w1=some y):aV Pg GE 0 (cA qjH 471) (LQ (fun(zz:Int×List ae)=>fG i v t n zz.1 zz.2) (fun _=>.exit 0) (lS n) y) (fG i v t n k w1):=by
 rcases bj h with⟨c4,h⟩|⟨c4,h⟩
 ·obtain⟨x5,bx5,h⟩:=ay h
  obtain⟨x6,bx6,h⟩:=ay h
  obtain⟨r7,br7,h⟩:=ay h
  obtain⟨x8,bx8,h⟩:=ay h
  obtain⟨l9,bl9,h⟩:=ay h
  obtain rfl:=lf h
  exact oo qjq (cq (ct.lnR 1 0 n)<|sg 0 c4<|qhS (.dx [0,0,0,0,12,28,0,64,0,448,960,0,2048,8188,16383,32767] [] [] [1])<|sv (ct.iaN 1 (k:=.i64) bx5)<|sv (ct.ldN (TJ x5) bx5)<|sv (aQ t)<|sv (aR t)<|sv (bq.ia (k:=.i64) bx6)<|sv (dB Bg (.str x6) [])<|sb (ko 3 v) (kl 3 v)<|bz (Mt br7)<|sv (ct.iaN 1 (k:=.i64) bx8)<|qjQ (ct.stR (eO r7) bl9)<|eF .normal (fG i v t n (aS (k+1)) l9))<|by kernel_rfl
 ·obtain rfl:=lf h
  have z:=cq (ct.lnR 1 0 n)<|sg 0 c4<|eF (.exit 0) (lS n w1)
  exact gg qjq (by intro hx;cases hx) z<|by kernel_rfl
theorem C4{x:waC}(h:om i v t n k w1=some x):aV Pg GE 0 (.loop (cA qjH 471)) (EX (.exit 0) (lS n x)) (fG i v t n k w1):=
 aV.loop (S:=fun(zz:Int×List ae)=>fG i v t n zz.1 zz.2) (ex:=(fun _=>.exit 0)) (s:=(k,w1)) h fun zz y hy=>Bi i v t n zz.1 zz.2 hy
end
def j6(a:waC)(t:ae)(i:Int)(a2:af):Option waC:=
 (n8 a).bind fun r1=>
 if(decide (i<(t.Names.length:Int)))=true then
  (om i a2 t r1.length (aS (i+1)) r1).bind fun o10=>
  (qdc r1.length o10).bind fun l11=>
  some l11
 else
  (qdc r1.length r1).bind fun l12=>
  some l12
theorem vU{a:waC}{t:ae}{i:Int}{a2:af}{r:waC}(h:j6 a t i a2=some r):CC Pg GE 82 [sl ag a,.agg (ag t),.int .i64 i,.str a2] (sl ag r) []:=by
 obtain⟨r1,br1,h⟩:=ay h
 have p3:=fun{sc F} (r:PS sc F)=>se (bw t)<|qjP 1 38 (ct.cloneR qbb br1)<|sv (aQ t)<|sv (aR t)<|cq (bq.ln t.Names)<|r
 rcases bj h with⟨c2,h⟩|⟨c2,h⟩
 ·obtain⟨o10,bo10,h⟩:=ay h
  obtain⟨l11,bl11,h⟩:=ay h
  obtain rfl:=lf h
  have z:=p3<|sg 0 c2<|cY (C4 i a2 t r1.length (aS (i+1)) r1 bo10)<|qgo 1 (l11.map ag) [9] [] (ct.fz1 (m:=0) (b:=1) rfl l11) (ct.fz2 1 l11) (qhP ag bl11)<|sf (qhQ ag bl11)<|en (aI (rP (sl ag l11))<|(aj ak l11))
  exact bO qjq call82 func82 (c:=qjH) rfl (aI (aj ak a) (aI (ak t) (aI trivial (aI trivial trivial)))) z<|by kernel_rfl
 ·obtain⟨l12,bl12,h⟩:=ay h
  obtain rfl:=lf h
  have z:=p3<|sg 0 c2<|qgo 1 (l12.map ag) [9] [] (ct.fz1 (m:=0) (b:=1) rfl l12) (ct.fz2 1 l12) (qhP ag bl12)<|sf (qhQ ag bl12)<|en (aI (rP (sl ag l12))<|(aj ak l12))
  exact bO qjq call82 func82 (c:=qjH) rfl (aI (aj ak a) (aI (ak t) (aI trivial (aI trivial trivial)))) z<|by kernel_rfl
abbrev tP:=(ae->Option ae)
abbrev zu(R:tP):Prop:=∀(t:ae) (r:ae),R t=some r->CC Pg GE 45 [.agg (ag t)] (.agg (ag r)) [(2,38),(3,9),(7,36),(8,36)]
noncomputable def qkj:Code:=f45.body.getD .skip
def qjZ:List Nat:=[19]
section
variable(R74:tP)(t12:waC)(t13:Int)(m:waC)(m2:waB)(m3:Int)(m4:af)(t14:Int)(m5:waC)
def j9:aC:=be 27 [(2,.bptr 1 0),(3,.bptr 2 0),(12,sl ag t12),(13,.int .i64 t13),(14,.int .i64 t14)] [.dead,.cells [.int .i64 0,.str ([]:af),sl ag m,sl cS ([]:List af),.int .i64 0,.str ([]:af),.int .i64 0,sl ac m2,sl ac m2] [(2,38),(3,9),(7,36),(8,36)],.cells [.int .i64 m3,.str m4,sl ag m5,sl cS ([]:List af),.int .i64 0,.str ([]:af),.int .i64 0,sl ac m2,sl ac m2] [(2,38),(3,9),(7,36),(8,36)]] []
def tE(o:waC):aC:=be 27 [(2,.bptr 1 0),(3,.bptr 2 0)] [.dead,.cells [.int .i64 0,.str ([]:af),sl ag m,sl cS ([]:List af),.int .i64 0,.str ([]:af),.int .i64 0,sl ac m2,sl ac m2] [(2,38),(3,9),(7,36),(8,36)],.cells [.int .i64 m3,.str m4,sl ag o,sl cS ([]:List af),.int .i64 0,.str ([]:af),.int .i64 0,sl ac m2,sl ac m2] [(2,38),(3,9),(7,36),(8,36)]] []
def Bl:Option ((Int×waC)⊕(waC)):=
 if(decide (t14<t13))=true then
  (cz t12 t14).bind fun x2=>
  (R74 x2).bind fun r3=>
  (app m5 ([r3]:List ae)).bind fun l4=>
  some (.inl (aS (t14+1),l4))
 else
  some (.inr m5)
def yr:Option waC:=loop (fun(zz:Int×waC)=>Bl R74 t12 t13 zz.1 zz.2) (t14,m5)
theorem I7(hR74:zu R74){y:(Int×waC)⊕(waC)}(h:Bl R74 t12 t13 t14 m5=some y):aV Pg GE 0 (cA qkj 119) (LQ (fun(zz:Int×waC)=>j9 t12 t13 m m2 m3 m4 zz.1 zz.2) (fun _=>.exit 0) (tE m m2 m3 m4) y) (j9 t12 t13 m m2 m3 m4 t14 m5):=by
 rcases bj h with⟨c1,h⟩|⟨c1,h⟩
 ·obtain⟨x2,bx2,h⟩:=ay h
  obtain⟨r3,br3,h⟩:=ay h
  obtain⟨l4,bl4,h⟩:=ay h
  obtain rfl:=lf h
  have z:=sg 0 c1<|sv (ct.ia (k:=.i64) bx2)<|sv (aN x2)<|sx tu<|sx (ez x2)<|lK [0,1,0,4,12,31,63,127]<|sv (cX x2 [])<|bz (hR74 _ _ br3)<|sv (ct.mk' (v:=jG) eO ([r3]:List ae) 1 (by kernel_rfl))<|sv (ct.ap bl4)<|We (rfl:bK (sl ag l4)=some [sl ag l4])<|uP 0 .normal (j9 t12 t13 m m2 m3 m4 (aS (t14+1)) l4) rfl (dF (aI (cZ rfl) (aI (cZ rfl) (aI (up (aj ak t12)) (aI trivial (aI trivial trivial)))))) (aI trivial (aI (aI trivial (aI trivial (aI (up (aj ak m)) (aI (up (aj dN ([]:List af))) (aI trivial (aI trivial (aI trivial (aI (up (aj ah m2)) (aI (up (aj ah m2)) trivial))))))))) (aI (aI trivial (aI trivial (aI (up (aj ak l4)) (aI (up (aj dN ([]:List af))) (aI trivial (aI trivial (aI trivial (aI (up (aj ah m2)) (aI (up (aj ah m2)) trivial))))))))) trivial)))
  exact dh (A:=qjZ) mixed z<|by kernel_rfl
 ·obtain rfl:=lf h
  have z:=sg 0 c1<|eF (.exit 0) (tE m m2 m3 m4 m5)
  exact gg qjZ (by intro hx;cases hx) z<|by kernel_rfl
theorem K3(hR74:zu R74){x:waC}(h:yr R74 t12 t13 t14 m5=some x):aV Pg GE 0 (.loop (cA qkj 119)) (EX (.exit 0) (tE m m2 m3 m4 x)) (j9 t12 t13 m m2 m3 m4 t14 m5):=
 aV.loop (S:=fun(zz:Int×waC)=>j9 t12 t13 m m2 m3 m4 zz.1 zz.2) (ex:=(fun _=>.exit 0)) (s:=(t14,m5)) h fun zz y hy=>I7 R74 t12 t13 m m2 m3 m4 zz.1 zz.2 hR74 hy
end
def ue(R74:tP)(t:ae):Option ae:=
 (yr R74 t.Args (t.Args.length:Int) 0 ([]:List ae)).bind fun o5=>
 some (⟨t.Op,t.Name,o5,([]:List af),(⟨0,([]:af),0,([]:List aa)⟩:aa),([]:List aa)⟩:ae)
theorem Ov(R74:tP)(hR74:zu R74){t:ae}{r:ae}(h:ue R74 t=some r):CC Pg GE 45 [.agg (ag t)] (.agg (ag r)) [(2,38),(3,9),(7,36),(8,36)]:=by
 obtain⟨o5,bo5,h⟩:=ay h
 obtain rfl:=lf h
 have z:=se (bw t)<|sx tu<|sv (aD t)<|sv (aE t)<|sv (cx t)<|sv (cT t)<|sb (J5 t.Op t.Name) (J2 t.Op t.Name)<|sx tu<|sy (bu (⟨t.Op,t.Name,([]:List ae),([]:List af),(⟨0,([]:af),0,([]:List aa)⟩:aa),([]:List aa)⟩:ae))<|sv (aL t)<|sv (aM t)<|cq (ct.ln t.Args)<|cY (K3 R74 t.Args (t.Args.length:Int) ([]:List ae) ([]:List aa) t.Op t.Name 0 ([]:List ae) hR74 bo5)<|sz (cX (⟨t.Op,t.Name,o5,([]:List af),(⟨0,([]:af),0,([]:List aa)⟩:aa),([]:List aa)⟩:ae) [])<|sy (bu (⟨t.Op,t.Name,o5,([]:List af),(⟨0,([]:af),0,([]:List aa)⟩:aa),([]:List aa)⟩:ae))<|en (aI (ic (⟨t.Op,t.Name,o5,([]:List af),(⟨0,([]:af),0,([]:List aa)⟩:aa),([]:List aa)⟩:ae))<|aI (ak (⟨t.Op,t.Name,o5,([]:List af),(⟨0,([]:af),0,([]:List aa)⟩:aa),([]:List aa)⟩:ae))<|rT)
 exact bO qjZ call45 func45 (c:=qkj) rfl (aI (ak t) trivial) z<|by kernel_rfl
def Ar:(ae->Option ae)->(ae)->Option ae:=fun(rec:ae->Option ae) (x:ae)=>ue (fun t=>rec t) x
def zp(t:ae):Option ae:=kK Ar t
theorem FW{t:ae}{r:ae}(h:zp t=some r):CC Pg GE 45 [.agg (ag t)] (.agg (ag r)) [(2,38),(3,9),(7,36),(8,36)]:=
 cG (F:=Ar) (M:=fun(x:ae) (r:ae)=>CC Pg GE 45 [.agg (ag x)] (.agg (ag r)) [(2,38),(3,9),(7,36),(8,36)]) (fun rec hrec x r h=>Ov _ (fun t r h=>hrec t r h) h) h
noncomputable def qhJ:Code:=f44.body.getD .skip
def qhz:List Nat:=[]
def GI(t:ae):Option (af×Bool):=
 if(t.Op==1)=true then
  some (([73,110,116]:af),true)
 else
  if(t.Op==2)=true then
   some (([66,111,111,108]:af),true)
  else
   if(t.Op==3)=true then
    some (([67,101,108,108]:af),true)
   else
    if(t.Op==4)=true then
     if((t.Args.length:Int)==0)=true then
      some (t.Name,true)
     else
      some (([]:af),false)
    else
     some (([]:af),false)
theorem Ry{t:ae}{r:af×Bool}(h:GI t=some r):CC Pg GE 44 [.agg (ag t)] (.tuple [.str r.1,.bool r.2]) []:=by
 have p2:=fun{sc F} (r:PS sc F)=>se (bw t)<|sv (aD t)<|sv (aE t)<|r
 rcases bj h with⟨c1,h⟩|⟨c1,h⟩
 ·obtain rfl:=lf h
  have z:=p2<|sg 0 c1<|en (aI (rP (.tuple [.str ([73,110,116]:af),.bool true]))<|(aI trivial (aI trivial trivial)))
  exact bO qhz call44 func44 (c:=qhJ) rfl (aI (ak t) trivial) z<|by kernel_rfl
 ·have p4:=fun{sc F} (r:PS sc F)=>p2<|sg 0 c1<|r
  rcases bj h with⟨c3,h⟩|⟨c3,h⟩
  ·obtain rfl:=lf h
   have z:=p4<|sg 0 c3<|en (aI (rP (.tuple [.str ([66,111,111,108]:af),.bool true]))<|(aI trivial (aI trivial trivial)))
   exact bO qhz call44 func44 (c:=qhJ) rfl (aI (ak t) trivial) z<|by kernel_rfl
  ·have p6:=fun{sc F} (r:PS sc F)=>p4<|sg 0 c3<|r
   rcases bj h with⟨c5,h⟩|⟨c5,h⟩
   ·obtain rfl:=lf h
    have z:=p6<|sg 0 c5<|en (aI (rP (.tuple [.str ([67,101,108,108]:af),.bool true]))<|(aI trivial (aI trivial trivial)))
    exact bO qhz call44 func44 (c:=qhJ) rfl (aI (ak t) trivial) z<|by kernel_rfl
   ·have p8:=fun{sc F} (r:PS sc F)=>p6<|sg 0 c5<|r
    rcases bj h with⟨c7,h⟩|⟨c7,h⟩
    ·have p10:=fun{sc F} (r:PS sc F)=>p8<|sg 0 c7<|sv (aL t)<|sv (aM t)<|cq (ct.ln t.Args)<|r
     rcases bj h with⟨c9,h⟩|⟨c9,h⟩
     ·obtain rfl:=lf h
      have z:=p10<|sg 0 c9<|sv (cx t)<|sv (cT t)<|en (aI (rP (.tuple [.str t.Name,.bool true]))<|(aI trivial (aI trivial trivial)))
      exact bO qhz call44 func44 (c:=qhJ) rfl (aI (ak t) trivial) z<|by kernel_rfl
     ·obtain rfl:=lf h
      have z:=p10<|sg 0 c9<|en (aI (rP (.tuple [.str ([]:af),.bool false]))<|(aI trivial (aI trivial trivial)))
      exact bO qhz call44 func44 (c:=qhJ) rfl (aI (ak t) trivial) z<|by kernel_rfl
    ·obtain rfl:=lf h
     have z:=p8<|sg 0 c7<|en (aI (rP (.tuple [.str ([]:af),.bool false]))<|(aI trivial (aI trivial trivial)))
     exact bO qhz call44 func44 (c:=qhJ) rfl (aI (ak t) trivial) z<|by kernel_rfl
abbrev qq:=(aa->aa->Option Bool)
abbrev yz(R:qq):Prop:=∀(a:aa) (a2:aa) (r:Bool),R a a2=some r->CC Pg GE 93 [.agg (ac a),.agg (ac a2)] (.bool r) []
end Go.Proofs.YtbaamopmfmpfaaaGreatDoor
