/- PROVED: a part of the proof. Conditions: none. -/
import Derived.Test.YtkdahfeiedaahaaGreatDoorPkC18
import Derived.Test.YtkdahfeiedaahaaGreatDoorPkC10
import Derived.Shelf.SlicesE.DeleteFunc
import Derived.Shelf.SlicesE.Index
import Derived.Test.YtkdahfeiedaahaaGreatDoorPkC8
noncomputable section
namespace Go.Proofs.YtkdahfeiedaahaaGreatDoor
open Go Go.Proofs.Tryz
set_option linter.unusedVariables false
set_option maxRecDepth 100000
noncomputable def Tn:Code:=f37.body.getD .skip
def Sf:List Nat:=[23,31]
section
variable(name:ae)(t12:(List cF))(t13:Int)(t14:Int)(t19:waF)(t20:Int)(m5:ae)(m6:waA)(m7:waE)(t21:Int)(m:ae)(m2:waA)(m3:waE)(m4:waF)
def kP:aA:=bg 35 [(1,.str name),(4,.bptr 1 0),(8,.bptr 2 0),(12,sl da t12),(13,.int .i64 t13),(14,.int .i64 t14),(19,sl cM t19),(20,.int .i64 t20),(21,.int .i64 t21)] [.dead,.cells [.str m,sl cS m2,sl dL m3,sl cM m4] [(1,9),(2,255),(3,121)],.cells [.str m5,sl cS m6,sl dL m7,sl cM t19] []] []
def kQ(o:Int⊕(ae×waA×waE×waF)):Exit:=match o with
 |(.inl _)=>.ret
 |(.inr _)=>.exit 2
def i6(o:Int⊕(ae×waA×waE×waF)):aA:=match o with
 |(.inl o)=>bg 35 [(4,.bptr 1 0),(5,.int .i64 o),(6,.bool true)] [.dead,.cells [.str m5,sl cS m6,sl dL m7,sl cM t19] [],.cells [.str m5,sl cS m6,sl dL m7,sl cM t19] []] []
 |(.inr o)=>bg 35 [(1,.str name),(4,.bptr 1 0),(12,sl da t12),(13,.int .i64 t13),(14,.int .i64 t14)] [.dead,.cells [.str o.1,sl cS o.2.1,sl dL o.2.2.1,sl cM o.2.2.2] [(1,9),(2,255),(3,121)],.cells [.str m5,sl cS m6,sl dL m7,sl cM t19] []] []
def gU:Option ((Int×ae×waA×waE×waF)⊕(Int⊕(ae×waA×waE×waF))):=
 if(decide (t21<t20))=true then
  (fJ t19 t21).bind fun x4=>
  if(x4.Name==name)=true then
   some (.inr (.inl t21))
  else
   some (.inl (ca (t21+1),m,m2,m3,m4))
 else
  some (.inr (.inr (m,m2,m3,m4)))
def vH:Option (Int⊕(ae×waA×waE×waF)):=loop (fun(zz:Int×ae×waA×waE×waF)=>gU name t19 t20 zz.1 zz.2.1 zz.2.2.1 zz.2.2.2.1 zz.2.2.2.2) (t21,m,m2,m3,m4)
theorem DU{y:(Int×ae×waA×waE×waF)⊕(Int⊕(ae×waA×waE×waF))}(h:gU name t19 t20 t21 m m2 m3 m4=some y):aQ Pg GE 0 (cA Tn 14303) (LQ (fun(zz:Int×ae×waA×waE×waF)=>kP name t12 t13 t14 t19 t20 m5 m6 m7 zz.1 zz.2.1 zz.2.2.1 zz.2.2.2.1 zz.2.2.2.2) kQ (i6 name t12 t13 t14 t19 m5 m6 m7) y) (kP name t12 t13 t14 t19 t20 m5 m6 m7 t21 m m2 m3 m4):=by
 rcases aN h with⟨c3,h⟩|⟨c3,h⟩
 ·obtain⟨x4,bx4,h⟩:=aG h
  have p6:=fun{sc F} (r:PS sc F)=>sg 0 c3<|sv (IX.ia (k:=.i64) bx4)<|sv (RL x4)<|sx UI<|sx (Qx x4)<|ss<|r
  rcases aN h with⟨c5,h⟩|⟨c5,h⟩
  ·obtain rfl:=lf h
   have z:=p6<|sg 0 c5<|sv (Jt (⟨m5,m6,m7,t19⟩:cF) [])<|sx (jT (⟨m5,m6,m7,t19⟩:cF))<|rx 0 (kQ (.inl t21)) (i6 name t12 t13 t14 t19 m5 m6 m7 (.inl t21)) rfl (dv (aI (bh rfl) (aI trivial (aI trivial trivial)))) (aI trivial (aI (aI trivial (aI (up (am bO m6)) (aI (up (am po m7)) (aI (up (am pn t19)) trivial)))) (aI (aI trivial (aI (up (am bO m6)) (aI (up (am po m7)) (aI (up (am pn t19)) trivial)))) trivial)))
   exact mZ (A:=Sf) mixed (by intro hx;cases hx) z<|by kernel_rfl
  ·obtain rfl:=lf h
   have z:=p6<|sg 0 c5<|rx 0 .normal (kP name t12 t13 t14 t19 t20 m5 m6 m7 (ca (t21+1)) m m2 m3 m4) rfl (dv (aI trivial (aI (bh rfl) (aI (bh rfl) (aI (up (am jM t12)) (aI trivial (aI trivial (aI (up (am pn t19)) (aI trivial (aI trivial trivial)))))))))) (aI trivial (aI (aI trivial (aI (up (am bO m2)) (aI (up (am po m3)) (aI (up (am pn m4)) trivial)))) (aI (aI trivial (aI (up (am bO m6)) (aI (up (am po m7)) (aI (up (am pn t19)) trivial)))) trivial)))
   exact d4 (A:=Sf) mixed z<|by kernel_rfl
 ·obtain rfl:=lf h
  have z:=sg 0 c3<|eF (kQ (.inr (m,m2,m3,m4))) (i6 name t12 t13 t14 t19 m5 m6 m7 (.inr (m,m2,m3,m4)))
  exact iI Sf (by intro hx;cases hx) z<|by kernel_rfl
theorem wr{x:Int⊕(ae×waA×waE×waF)}(h:vH name t19 t20 t21 m m2 m3 m4=some x):aQ Pg GE 0 (.loop (cA Tn 14303)) (EX (kQ x) (i6 name t12 t13 t14 t19 m5 m6 m7 x)) (kP name t12 t13 t14 t19 t20 m5 m6 m7 t21 m m2 m3 m4):=
 aQ.loop (S:=fun(zz:Int×ae×waA×waE×waF)=>kP name t12 t13 t14 t19 t20 m5 m6 m7 zz.1 zz.2.1 zz.2.2.1 zz.2.2.2.1 zz.2.2.2.2) (ex:=kQ) (s:=(t21,m,m2,m3,m4)) h fun zz y hy=>DU name t12 t13 t14 t19 t20 m5 m6 m7 zz.1 zz.2.1 zz.2.2.1 zz.2.2.2.1 zz.2.2.2.2 hy
end
section
variable(name:ae)(t12:(List cF))(t13:Int)(t14:Int)(m:ae)(m2:waA)(m3:waE)(m4:waF)
def kN:aA:=bg 35 [(1,.str name),(4,.bptr 1 0),(12,sl da t12),(13,.int .i64 t13),(14,.int .i64 t14)] [.dead,.cells [.str m,sl cS m2,sl dL m3,sl cM m4] [(1,9),(2,255),(3,121)]] []
def kO(o:(Int×ae×waA×waE×waF)⊕(ae×waA×waE×waF)):Exit:=match o with
 |(.inl _)=>.ret
 |(.inr _)=>.exit 0
def iZ(o:(Int×ae×waA×waE×waF)⊕(ae×waA×waE×waF)):aA:=match o with
 |(.inl o)=>bg 35 [(4,.bptr 1 0),(5,.int .i64 o.1),(6,.bool true)] [.dead,.cells [.str o.2.1,sl cS o.2.2.1,sl dL o.2.2.2.1,sl cM o.2.2.2.2] []] []
 |(.inr o)=>bg 35 [(4,.bptr 1 0)] [.dead,.cells [.str o.1,sl cS o.2.1,sl dL o.2.2.1,sl cM o.2.2.2] [(1,9),(2,255),(3,121)]] []
def gT:Option ((Int×ae×waA×waE×waF)⊕((Int×ae×waA×waE×waF)⊕(ae×waA×waE×waF))):=
 if(decide (t14<t13))=true then
  (fJ t12 t14).bind fun x2=>
  (vH name x2.Cons (x2.Cons.length:Int) 0 m m2 m3 m4).bind fun o7=>match o7 with
  |(.inl o7)=>
   some (.inr (.inl (o7,x2.Name,x2.Vars,x2.Preds,x2.Cons)))
  |(.inr o7)=>
   some (.inl (ca (t14+1),o7.1,o7.2.1,o7.2.2.1,o7.2.2.2))
 else
  some (.inr (.inr (m,m2,m3,m4)))
def vG:Option ((Int×ae×waA×waE×waF)⊕(ae×waA×waE×waF)):=loop (fun(zz:Int×ae×waA×waE×waF)=>gT name t12 t13 zz.1 zz.2.1 zz.2.2.1 zz.2.2.2.1 zz.2.2.2.2) (t14,m,m2,m3,m4)
theorem DT{y:(Int×ae×waA×waE×waF)⊕((Int×ae×waA×waE×waF)⊕(ae×waA×waE×waF))}(h:gT name t12 t13 t14 m m2 m3 m4=some y):aQ Pg GE 0 (cA Tn 55) (LQ (fun(zz:Int×ae×waA×waE×waF)=>kN name t12 t13 zz.1 zz.2.1 zz.2.2.1 zz.2.2.2.1 zz.2.2.2.2) kO iZ y) (kN name t12 t13 t14 m m2 m3 m4):=by
 rcases aN h with⟨c1,h⟩|⟨c1,h⟩
 ·obtain⟨x2,bx2,h⟩:=aG h
  obtain⟨o7,bo7,h⟩:=aG h
  rcases o7 with o7|o7
  ·obtain rfl:=lf h
   have z:=sg 0 c1<|sv (zJ.ia (k:=.i64) bx2)<|sv (zp x2)<|sx Cu<|sx (jT x2)<|ss<|bU (IX.ln x2.Cons)<|cY (e:=.ret) (s1:=i6 name t12 t13 t14 x2.Cons x2.Name x2.Vars x2.Preds (.inl o7)) (wr name t12 t13 t14 x2.Cons (x2.Cons.length:Int) x2.Name x2.Vars x2.Preds 0 m m2 m3 m4 bo7)<|rx 0 (kO (.inl (o7,x2.Name,x2.Vars,x2.Preds,x2.Cons))) (iZ (.inl (o7,x2.Name,x2.Vars,x2.Preds,x2.Cons))) rfl (dv (aI (bh rfl) (aI trivial (aI trivial trivial)))) (aI trivial (aI (aI trivial (aI (up (am bO x2.Vars)) (aI (up (am po x2.Preds)) (aI (up (am pn x2.Cons)) trivial)))) trivial))
   exact mZ (A:=Sf) mixed (by intro hx;cases hx) z<|by kernel_rfl
  ·obtain rfl:=lf h
   have z:=sg 0 c1<|sv (zJ.ia (k:=.i64) bx2)<|sv (zp x2)<|sx Cu<|sx (jT x2)<|ss<|bU (IX.ln x2.Cons)<|cY (e:=.exit 2) (s1:=i6 name t12 t13 t14 x2.Cons x2.Name x2.Vars x2.Preds (.inr o7)) (wr name t12 t13 t14 x2.Cons (x2.Cons.length:Int) x2.Name x2.Vars x2.Preds 0 m m2 m3 m4 bo7)<|rx 0 .normal (kN name t12 t13 (ca (t14+1)) o7.1 o7.2.1 o7.2.2.1 o7.2.2.2) rfl (dv (aI trivial (aI (bh rfl) (aI (up (am jM t12)) (aI trivial (aI trivial trivial)))))) (aI trivial (aI (aI trivial (aI (up (am bO o7.2.1)) (aI (up (am po o7.2.2.1)) (aI (up (am pn o7.2.2.2)) trivial)))) trivial))
   exact d4 (A:=Sf) mixed z<|by kernel_rfl
 ·obtain rfl:=lf h
  have z:=sg 0 c1<|eF (kO (.inr (m,m2,m3,m4))) (iZ (.inr (m,m2,m3,m4)))
  exact iI Sf (by intro hx;cases hx) z<|by kernel_rfl
theorem wq{x:(Int×ae×waA×waE×waF)⊕(ae×waA×waE×waF)}(h:vG name t12 t13 t14 m m2 m3 m4=some x):aQ Pg GE 0 (.loop (cA Tn 55)) (EX (kO x) (iZ x)) (kN name t12 t13 t14 m m2 m3 m4):=
 aQ.loop (S:=fun(zz:Int×ae×waA×waE×waF)=>kN name t12 t13 zz.1 zz.2.1 zz.2.2.1 zz.2.2.2.1 zz.2.2.2.2) (ex:=kO) (s:=(t14,m,m2,m3,m4)) h fun zz y hy=>DT name t12 t13 zz.1 zz.2.1 zz.2.2.1 zz.2.2.2.1 zz.2.2.2.2 hy
end
def xv(m:bo)(name:ae):Option (cF×Int×Bool):=
 (vG name m.Datas (m.Datas.length:Int) 0 ([]:ae) ([]:List ae) ([]:List a8) ([]:List aY)).bind fun o8=>match o8 with
 |(.inl o8)=>
  some ((⟨o8.2.1,o8.2.2.1,o8.2.2.2.1,o8.2.2.2.2⟩:cF),o8.1,true)
 |(.inr o8)=>
  some ((⟨([]:ae),([]:List ae),([]:List a8),([]:List aY)⟩:cF),0,false)
theorem IZ{m:bo}{name:ae}{r:cF×Int×Bool}(h:xv m name=some r):CC Pg GE 37 [.agg (aO m),.str name] (.tuple [.agg (da r.1),.int .i64 r.2.1,.bool r.2.2]) []:=by
 obtain⟨o8,bo8,h⟩:=aG h
 rcases o8 with o8|o8
 ·obtain rfl:=lf h
  have z:=se (fm m)<|sx Cu<|sv (cD m)<|sv (cE m)<|bU (zJ.ln m.Datas)<|cY (e:=.ret) (s1:=iZ (.inl o8)) (wq name m.Datas (m.Datas.length:Int) 0 ([]:ae) ([]:List ae) ([]:List a8) ([]:List aY) bo8)<|en (aI (vaU PVal.tuple (dw (oI (⟨o8.2.1,o8.2.2.1,o8.2.2.2.1,o8.2.2.2.2⟩:cF)) (dw (rP (.int .i64 o8.1)) (dw (rP (.bool true)) (rfl:([]:List PVal)=[])))))<|(aI (jM (⟨o8.2.1,o8.2.2.1,o8.2.2.2.1,o8.2.2.2.2⟩:cF)) (aI trivial (aI trivial trivial))))
  exact cH Sf call37 func37 (c:=Tn) rfl (aI (cr m) (aI trivial trivial)) z<|by kernel_rfl
 ·obtain rfl:=lf h
  have z:=se (fm m)<|sx Cu<|sv (cD m)<|sv (cE m)<|bU (zJ.ln m.Datas)<|cY (e:=.exit 0) (s1:=iZ (.inr o8)) (wq name m.Datas (m.Datas.length:Int) 0 ([]:ae) ([]:List ae) ([]:List a8) ([]:List aY) bo8)<|sb (wY) (wX)<|sy (me (⟨([]:ae),([]:List ae),([]:List a8),([]:List aY)⟩:cF))<|en (aI (vaU PVal.tuple (dw (oI (⟨([]:ae),([]:List ae),([]:List a8),([]:List aY)⟩:cF)) (dw (rP (.int .i64 0)) (dw (rP (.bool false)) (rfl:([]:List PVal)=[])))))<|(aI (jM (⟨([]:ae),([]:List ae),([]:List a8),([]:List aY)⟩:cF)) (aI trivial (aI trivial trivial))))
  exact cH Sf call37 func37 (c:=Tn) rfl (aI (cr m) (aI trivial trivial)) z<|by kernel_rfl
noncomputable def To:Code:=f38.body.getD .skip
def Sg:List Nat:=[44]
section
variable(name:ae)(m:bo)(i:Int)(k:Int)(m2:ae)(m3:waA)(m4:waE)(m5:waF)
def oX:aA:=bg 46 [(1,.str name),(2,.eptr (aO m)),(4,.bptr 1 0),(7,.int .i64 i),(8,.int .i64 k)] [.dead,.cells [.str m2,sl cS m3,sl dL m4,sl cM m5] [(1,9),(2,255),(3,121)]] []
def oY(o:(Int×ae×waA×waE×waF)⊕(ae×waA×waE×waF)):Exit:=match o with
 |(.inl _)=>.ret
 |(.inr _)=>.exit 2
def mt(o:(Int×ae×waA×waE×waF)⊕(ae×waA×waE×waF)):aA:=match o with
 |(.inl o)=>bg 46 [(4,.bptr 1 0),(5,.int .i64 o.1),(6,.bool true)] [.dead,.cells [.str o.2.1,sl cS o.2.2.1,sl dL o.2.2.2.1,sl cM o.2.2.2.2] []] []
 |(.inr o)=>bg 46 [(1,.str name),(2,.eptr (aO m)),(4,.bptr 1 0),(7,.int .i64 i)] [.dead,.cells [.str o.1,sl cS o.2.1,sl dL o.2.2.1,sl cM o.2.2.2] [(1,9),(2,255),(3,121)]] []
def ki:Option ((Int×ae×waA×waE×waF)⊕((Int×ae×waA×waE×waF)⊕(ae×waA×waE×waF))):=
 (fJ m.Datas i).bind fun x3=>
 if(decide (k<(x3.Cons.length:Int)))=true then
  (fJ m.Datas i).bind fun x6=>
  (fJ x6.Cons k).bind fun x7=>
  if(x7.Name==name)=true then
   (fJ m.Datas i).bind fun x10=>
   some (.inr (.inl (k,x10.Name,x10.Vars,x10.Preds,x10.Cons)))
  else
   some (.inl (ca (k+1),m2,m3,m4,m5))
 else
  some (.inr (.inr (m2,m3,m4,m5)))
def BY:Option ((Int×ae×waA×waE×waF)⊕(ae×waA×waE×waF)):=loop (fun(zz:Int×ae×waA×waE×waF)=>ki name m i zz.1 zz.2.1 zz.2.2.1 zz.2.2.2.1 zz.2.2.2.2) (k,m2,m3,m4,m5)
theorem GR{y:(Int×ae×waA×waE×waF)⊕((Int×ae×waA×waE×waF)⊕(ae×waA×waE×waF))}(h:ki name m i k m2 m3 m4 m5=some y):aQ Pg GE 0 (cA To 3567) (LQ (fun(zz:Int×ae×waA×waE×waF)=>oX name m i zz.1 zz.2.1 zz.2.2.1 zz.2.2.2.1 zz.2.2.2.2) oY (mt name m i) y) (oX name m i k m2 m3 m4 m5):=by
 obtain⟨x3,bx3,h⟩:=aG h
 have p5:=fun{sc F} (r:PS sc F)=>sv (cD m)<|sv (cE m)<|sv (zJ.ia (k:=.i64) bx3)<|sv (vq x3)<|sv (vA x3)<|bU (IX.ln x3.Cons)<|r
 rcases aN h with⟨c4,h⟩|⟨c4,h⟩
 ·obtain⟨x6,bx6,h⟩:=aG h
  obtain⟨x7,bx7,h⟩:=aG h
  have p9:=fun{sc F} (r:PS sc F)=>p5<|sg 0 c4<|sv (cD m)<|sv (cE m)<|sv (zJ.ia (k:=.i64) bx6)<|sv (vq x6)<|sv (vA x6)<|sv (IX.ia (k:=.i64) bx7)<|sv (IG x7)<|sv (LD x7)<|r
  rcases aN h with⟨c8,h⟩|⟨c8,h⟩
  ·obtain⟨x10,bx10,h⟩:=aG h
   obtain rfl:=lf h
   have z:=p9<|sg 0 c8<|sv (cD m)<|sv (cE m)<|sv (zJ.ia (k:=.i64) bx10)<|sv (zp x10)<|sx (jT x10)<|eF (oY (.inl (k,x10.Name,x10.Vars,x10.Preds,x10.Cons))) (mt name m i (.inl (k,x10.Name,x10.Vars,x10.Preds,x10.Cons)))
   exact iI Sg (by intro hx;cases hx) z<|by kernel_rfl
  ·obtain rfl:=lf h
   exact yz Sg (p9<|sg 0 c8<|eF .normal (oX name m i (ca (k+1)) m2 m3 m4 m5))<|by kernel_rfl
 ·obtain rfl:=lf h
  have z:=p5<|sg 0 c4<|eF (oY (.inr (m2,m3,m4,m5))) (mt name m i (.inr (m2,m3,m4,m5)))
  exact iI Sg (by intro hx;cases hx) z<|by kernel_rfl
theorem Be{x:(Int×ae×waA×waE×waF)⊕(ae×waA×waE×waF)}(h:BY name m i k m2 m3 m4 m5=some x):aQ Pg GE 0 (.loop (cA To 3567)) (EX (oY x) (mt name m i x)) (oX name m i k m2 m3 m4 m5):=
 aQ.loop (S:=fun(zz:Int×ae×waA×waE×waF)=>oX name m i zz.1 zz.2.1 zz.2.2.1 zz.2.2.2.1 zz.2.2.2.2) (ex:=oY) (s:=(k,m2,m3,m4,m5)) h fun zz y hy=>GR name m i zz.1 zz.2.1 zz.2.2.1 zz.2.2.2.1 zz.2.2.2.2 hy
end
section
variable(name:ae)(m:bo)(i:Int)(m2:ae)(m3:waA)(m4:waE)(m5:waF)
def oV:aA:=bg 46 [(1,.str name),(2,.eptr (aO m)),(4,.bptr 1 0),(7,.int .i64 i)] [.dead,.cells [.str m2,sl cS m3,sl dL m4,sl cM m5] [(1,9),(2,255),(3,121)]] []
def oW(o:(Int×ae×waA×waE×waF)⊕(ae×waA×waE×waF)):Exit:=match o with
 |(.inl _)=>.ret
 |(.inr _)=>.exit 0
def ms(o:(Int×ae×waA×waE×waF)⊕(ae×waA×waE×waF)):aA:=match o with
 |(.inl o)=>bg 46 [(4,.bptr 1 0),(5,.int .i64 o.1),(6,.bool true)] [.dead,.cells [.str o.2.1,sl cS o.2.2.1,sl dL o.2.2.2.1,sl cM o.2.2.2.2] []] []
 |(.inr o)=>bg 46 [(4,.bptr 1 0)] [.dead,.cells [.str o.1,sl cS o.2.1,sl dL o.2.2.1,sl cM o.2.2.2] [(1,9),(2,255),(3,121)]] []
def kh:Option ((Int×ae×waA×waE×waF)⊕((Int×ae×waA×waE×waF)⊕(ae×waA×waE×waF))):=
 if(decide (i<(m.Datas.length:Int)))=true then
  (BY name m i 0 m2 m3 m4 m5).bind fun o11=>match o11 with
  |(.inl o11)=>
   some (.inr (.inl (o11.1,o11.2.1,o11.2.2.1,o11.2.2.2.1,o11.2.2.2.2)))
  |(.inr o11)=>
   some (.inl (ca (i+1),o11.1,o11.2.1,o11.2.2.1,o11.2.2.2))
 else
  some (.inr (.inr (m2,m3,m4,m5)))
def BX:Option ((Int×ae×waA×waE×waF)⊕(ae×waA×waE×waF)):=loop (fun(zz:Int×ae×waA×waE×waF)=>kh name m zz.1 zz.2.1 zz.2.2.1 zz.2.2.2.1 zz.2.2.2.2) (i,m2,m3,m4,m5)
theorem GQ{y:(Int×ae×waA×waE×waF)⊕((Int×ae×waA×waE×waF)⊕(ae×waA×waE×waF))}(h:kh name m i m2 m3 m4 m5=some y):aQ Pg GE 0 (cA To 55) (LQ (fun(zz:Int×ae×waA×waE×waF)=>oV name m zz.1 zz.2.1 zz.2.2.1 zz.2.2.2.1 zz.2.2.2.2) oW ms y) (oV name m i m2 m3 m4 m5):=by
 have p2:=fun{sc F} (r:PS sc F)=>sv (cD m)<|sv (cE m)<|bU (zJ.ln m.Datas)<|r
 rcases aN h with⟨c1,h⟩|⟨c1,h⟩
 ·obtain⟨o11,bo11,h⟩:=aG h
  rcases o11 with o11|o11
  ·obtain rfl:=lf h
   have z:=p2<|sg 0 c1<|cY (e:=.ret) (s1:=mt name m i (.inl o11)) (Be name m i 0 m2 m3 m4 m5 bo11)<|eF (oW (.inl (o11.1,o11.2.1,o11.2.2.1,o11.2.2.2.1,o11.2.2.2.2))) (ms (.inl (o11.1,o11.2.1,o11.2.2.1,o11.2.2.2.1,o11.2.2.2.2)))
   exact iI Sg (by intro hx;cases hx) z<|by kernel_rfl
  ·obtain rfl:=lf h
   exact yz Sg (p2<|sg 0 c1<|cY (e:=.exit 2) (s1:=mt name m i (.inr o11)) (Be name m i 0 m2 m3 m4 m5 bo11)<|eF .normal (oV name m (ca (i+1)) o11.1 o11.2.1 o11.2.2.1 o11.2.2.2))<|by kernel_rfl
 ·obtain rfl:=lf h
  have z:=p2<|sg 0 c1<|eF (oW (.inr (m2,m3,m4,m5))) (ms (.inr (m2,m3,m4,m5)))
  exact iI Sg (by intro hx;cases hx) z<|by kernel_rfl
theorem Bd{x:(Int×ae×waA×waE×waF)⊕(ae×waA×waE×waF)}(h:BX name m i m2 m3 m4 m5=some x):aQ Pg GE 0 (.loop (cA To 55)) (EX (oW x) (ms x)) (oV name m i m2 m3 m4 m5):=
 aQ.loop (S:=fun(zz:Int×ae×waA×waE×waF)=>oV name m zz.1 zz.2.1 zz.2.2.1 zz.2.2.2.1 zz.2.2.2.2) (ex:=oW) (s:=(i,m2,m3,m4,m5)) h fun zz y hy=>GQ name m zz.1 zz.2.1 zz.2.2.1 zz.2.2.2.1 zz.2.2.2.2 hy
end
def Gq(m:bo)(name:ae):Option (cF×Int×Bool):=
 (BX name m 0 ([]:ae) ([]:List ae) ([]:List a8) ([]:List aY)).bind fun o12=>match o12 with
 |(.inl o12)=>
  some ((⟨o12.2.1,o12.2.2.1,o12.2.2.2.1,o12.2.2.2.2⟩:cF),o12.1,true)
 |(.inr o12)=>
  some ((⟨([]:ae),([]:List ae),([]:List a8),([]:List aY)⟩:cF),0,false)
theorem Mm{m:bo}{name:ae}{r:cF×Int×Bool}(h:Gq m name=some r):CC Pg GE 38 [.agg (aO m),.str name] (.tuple [.agg (da r.1),.int .i64 r.2.1,.bool r.2.2]) []:=by
 obtain⟨o12,bo12,h⟩:=aG h
 rcases o12 with o12|o12
 ·obtain rfl:=lf h
  have z:=se (fm m)<|sx Cu<|cY (e:=.ret) (s1:=ms (.inl o12)) (Bd name m 0 ([]:ae) ([]:List ae) ([]:List a8) ([]:List aY) bo12)<|en (aI (vaU PVal.tuple (dw (oI (⟨o12.2.1,o12.2.2.1,o12.2.2.2.1,o12.2.2.2.2⟩:cF)) (dw (rP (.int .i64 o12.1)) (dw (rP (.bool true)) (rfl:([]:List PVal)=[])))))<|(aI (jM (⟨o12.2.1,o12.2.2.1,o12.2.2.2.1,o12.2.2.2.2⟩:cF)) (aI trivial (aI trivial trivial))))
  exact cH Sg call38 func38 (c:=To) rfl (aI (cr m) (aI trivial trivial)) z<|by kernel_rfl
 ·obtain rfl:=lf h
  have z:=se (fm m)<|sx Cu<|cY (e:=.exit 0) (s1:=ms (.inr o12)) (Bd name m 0 ([]:ae) ([]:List ae) ([]:List a8) ([]:List aY) bo12)<|sb (wY) (wX)<|sy (me (⟨([]:ae),([]:List ae),([]:List a8),([]:List aY)⟩:cF))<|en (aI (vaU PVal.tuple (dw (oI (⟨([]:ae),([]:List ae),([]:List a8),([]:List aY)⟩:cF)) (dw (rP (.int .i64 0)) (dw (rP (.bool false)) (rfl:([]:List PVal)=[])))))<|(aI (jM (⟨([]:ae),([]:List ae),([]:List a8),([]:List aY)⟩:cF)) (aI trivial (aI trivial trivial))))
  exact cH Sg call38 func38 (c:=To) rfl (aI (cr m) (aI trivial trivial)) z<|by kernel_rfl
noncomputable def b7:Code:=Tryz.f7.body.getD .skip
def A7:List Nat:=[]
section
variable(name:ae)(m:bo)
def y1:aA:=bg 160 [(1,.str name),(2,.eptr (aO m))] [.dead] []
def mc(o:Bool):aA:=bg 160 [(1,.str name),(2,.eptr (aO m)),(26,.bool o)] [.dead] []
def og:Option Bool:=
 (Gs m).bind fun r1=>
 if(!r1)=true then
  some true
 else
  some (decide ((name.length:Int)>100))
theorem yi{x:Bool}(h:og name m=some x):aQ Pg GE 0 (cA b7 12) (EX .normal (mc name m x)) (y1 name m):=by
 obtain⟨r1,br1,h⟩:=aG h
 have p3:=fun{sc F} (r:PS sc F)=>sv (oo m)<|du (Mo br1)<|r
 rcases aN h with⟨c2,h⟩|⟨c2,h⟩
 ·obtain rfl:=lf h
  exact bA A7 (p3<|sg 4 c2<|eF .normal (mc name m true))<|by kernel_rfl
 ·obtain rfl:=lf h
  exact bA A7 (p3<|sg 4 c2<|bU (oL underlying9 name)<|eF .normal (mc name m (decide ((name.length:Int)>100))))<|by kernel_rfl
end
section
variable(name:ae)(m:bo)(ok:Bool)(is:Bool)(m2:ae)(m3:waA)(m4:Int)(m5:ae)(m6:Int)(m7:waH)(m8:waG)(m9:waD)(m10:waC)(m11:Int)(m12:Bool)(m13:waA)(m14:waI)(m15:waJ)(m16:wbA)(m17:Int)(m18:ae)(m19:waC)(m20:waA)(m21:Int)(m22:ae)(m23:Int)(m24:waB)(m25:waB)(m26:waB)(m27:ae)(m28:waA)(m29:Int)(m30:ae)(m31:Int)(m32:waH)(m33:waG)(m34:waD)(m35:waC)(m36:Int)(m37:Bool)(m38:waA)(m39:waI)(m40:waJ)(m41:wbA)(m42:Int)(m43:ae)(m44:waC)(m45:waA)(m46:Int)(m47:ae)(m48:Int)(m49:waB)(m50:waB)(m51:waB)
def y4:aA:=bg 160 [(1,.str name),(2,.eptr (aO m)),(5,.bptr 1 0),(6,.bool ok),(7,.bptr 2 0),(8,.bool is)] [.dead,.cells [.str m2,sl cS m3,.int .i64 m4,.str m5,.int .i64 m6,sl af m7,sl av m8,sl ay m9,sl ai m10,.int .i64 m11,.bool m12,sl cS m13,sl d9 m14,sl gq m15,sl dc m16,.int .i64 m17,.str m18,sl ai m19,sl cS m20,.int .i64 m21,.str m22,.int .i64 m23,sl al m24,sl al m25,sl al m26] [],.cells [.str m27,sl cS m28,.int .i64 m29,.str m30,.int .i64 m31,sl af m32,sl av m33,sl ay m34,sl ai m35,.int .i64 m36,.bool m37,sl cS m38,sl d9 m39,sl gq m40,sl dc m41,.int .i64 m42,.str m43,sl ai m44,sl cS m45,.int .i64 m46,.str m47,.int .i64 m48,sl al m49,sl al m50,sl al m51] []] []
def ea(o:Bool):aA:=bg 160 [(1,.str name),(2,.eptr (aO m)),(79,.bool o)] [.dead,.cells [.str m2,sl cS m3,.int .i64 m4,.str m5,.int .i64 m6,sl af m7,sl av m8,sl ay m9,sl ai m10,.int .i64 m11,.bool m12,sl cS m13,sl d9 m14,sl gq m15,sl dc m16,.int .i64 m17,.str m18,sl ai m19,sl cS m20,.int .i64 m21,.str m22,.int .i64 m23,sl al m24,sl al m25,sl al m26] [],.cells [.str m27,sl cS m28,.int .i64 m29,.str m30,.int .i64 m31,sl af m32,sl av m33,sl ay m34,sl ai m35,.int .i64 m36,.bool m37,sl cS m38,sl d9 m39,sl gq m40,sl dc m41,.int .i64 m42,.str m43,sl ai m44,sl cS m45,.int .i64 m46,.str m47,.int .i64 m48,sl al m49,sl al m50,sl al m51] []] []
def oh:Option Bool:=
 if(!(ok==is))=true then
  some true
 else
  if(!(m2==m27))=true then
   some true
  else
   (hO m3 m28).bind fun r13=>
   if(!r13)=true then
    some true
   else
    (yL (⟨m4,m5,m6,m7,m8,m9,m10⟩:ag) (⟨m29,m30,m31,m32,m33,m34,m35⟩:ag)).bind fun r16=>
    if(!r16)=true then
     some true
    else
     if(m11 !=m36)=true then
      some true
     else
      some (!(m12==m37))
theorem yj{x:Bool}(h:oh ok is m2 m3 m4 m5 m6 m7 m8 m9 m10 m11 m12 m27 m28 m29 m30 m31 m32 m33 m34 m35 m36 m37=some x):aQ Pg GE 0 (cA b7 124) (EX .normal (ea name m m2 m3 m4 m5 m6 m7 m8 m9 m10 m11 m12 m13 m14 m15 m16 m17 m18 m19 m20 m21 m22 m23 m24 m25 m26 m27 m28 m29 m30 m31 m32 m33 m34 m35 m36 m37 m38 m39 m40 m41 m42 m43 m44 m45 m46 m47 m48 m49 m50 m51 x)) (y4 name m ok is m2 m3 m4 m5 m6 m7 m8 m9 m10 m11 m12 m13 m14 m15 m16 m17 m18 m19 m20 m21 m22 m23 m24 m25 m26 m27 m28 m29 m30 m31 m32 m33 m34 m35 m36 m37 m38 m39 m40 m41 m42 m43 m44 m45 m46 m47 m48 m49 m50 m51):=by
 rcases aN h with⟨c10,h⟩|⟨c10,h⟩
 ·obtain rfl:=lf h
  exact bA A7 (sg 4 c10<|eF .normal (ea name m m2 m3 m4 m5 m6 m7 m8 m9 m10 m11 m12 m13 m14 m15 m16 m17 m18 m19 m20 m21 m22 m23 m24 m25 m26 m27 m28 m29 m30 m31 m32 m33 m34 m35 m36 m37 m38 m39 m40 m41 m42 m43 m44 m45 m46 m47 m48 m49 m50 m51 true))<|by kernel_rfl
 ·have p12:=fun{sc F} (r:PS sc F)=>sg 4 c10<|ss<|ss<|r
  rcases aN h with⟨c11,h⟩|⟨c11,h⟩
  ·obtain rfl:=lf h
   exact bA A7 (p12<|sg 11 c11<|eF .normal (ea name m m2 m3 m4 m5 m6 m7 m8 m9 m10 m11 m12 m13 m14 m15 m16 m17 m18 m19 m20 m21 m22 m23 m24 m25 m26 m27 m28 m29 m30 m31 m32 m33 m34 m35 m36 m37 m38 m39 m40 m41 m42 m43 m44 m45 m46 m47 m48 m49 m50 m51 true))<|by kernel_rfl
  ·obtain⟨r13,br13,h⟩:=aG h
   have p15:=fun{sc F} (r:PS sc F)=>p12<|sg 11 c11<|ss<|ss<|du (jH br13)<|r
   rcases aN h with⟨c14,h⟩|⟨c14,h⟩
   ·obtain rfl:=lf h
    exact bA A7 (p15<|sg 19 c14<|eF .normal (ea name m m2 m3 m4 m5 m6 m7 m8 m9 m10 m11 m12 m13 m14 m15 m16 m17 m18 m19 m20 m21 m22 m23 m24 m25 m26 m27 m28 m29 m30 m31 m32 m33 m34 m35 m36 m37 m38 m39 m40 m41 m42 m43 m44 m45 m46 m47 m48 m49 m50 m51 true))<|by kernel_rfl
   ·obtain⟨r16,br16,h⟩:=aG h
    have p18:=fun{sc F} (r:PS sc F)=>p15<|sg 19 c14<|sv (b8 (⟨m4,m5,m6,m7,m8,m9,m10⟩:ag) [.int .i64 m11,.bool m12,sl cS m13,sl d9 m14,sl gq m15,sl dc m16,.int .i64 m17,.str m18,sl ai m19,sl cS m20,.int .i64 m21,.str m22,.int .i64 m23,sl al m24,sl al m25,sl al m26])<|sv (b8 (⟨m29,m30,m31,m32,m33,m34,m35⟩:ag) [.int .i64 m36,.bool m37,sl cS m38,sl d9 m39,sl gq m40,sl dc m41,.int .i64 m42,.str m43,sl ai m44,sl cS m45,.int .i64 m46,.str m47,.int .i64 m48,sl al m49,sl al m50,sl al m51])<|du (yV br16)<|r
    rcases aN h with⟨c17,h⟩|⟨c17,h⟩
    ·obtain rfl:=lf h
     exact bA A7 (p18<|sg 27 c17<|eF .normal (ea name m m2 m3 m4 m5 m6 m7 m8 m9 m10 m11 m12 m13 m14 m15 m16 m17 m18 m19 m20 m21 m22 m23 m24 m25 m26 m27 m28 m29 m30 m31 m32 m33 m34 m35 m36 m37 m38 m39 m40 m41 m42 m43 m44 m45 m46 m47 m48 m49 m50 m51 true))<|by kernel_rfl
    ·have p20:=fun{sc F} (r:PS sc F)=>p18<|sg 27 c17<|ss<|ss<|r
     rcases aN h with⟨c19,h⟩|⟨c19,h⟩
     ·obtain rfl:=lf h
      exact bA A7 (p20<|sg 34 c19<|eF .normal (ea name m m2 m3 m4 m5 m6 m7 m8 m9 m10 m11 m12 m13 m14 m15 m16 m17 m18 m19 m20 m21 m22 m23 m24 m25 m26 m27 m28 m29 m30 m31 m32 m33 m34 m35 m36 m37 m38 m39 m40 m41 m42 m43 m44 m45 m46 m47 m48 m49 m50 m51 true))<|by kernel_rfl
     ·obtain rfl:=lf h
      exact bA A7 (p20<|sg 34 c19<|ss<|ss<|eF .normal (ea name m m2 m3 m4 m5 m6 m7 m8 m9 m10 m11 m12 m13 m14 m15 m16 m17 m18 m19 m20 m21 m22 m23 m24 m25 m26 m27 m28 m29 m30 m31 m32 m33 m34 m35 m36 m37 m38 m39 m40 m41 m42 m43 m44 m45 m46 m47 m48 m49 m50 m51 (!(m12==m37))))<|by kernel_rfl
end
section
variable(name:ae)(m:bo)(may:Bool)(can:Bool)(m2:ae)(m3:waA)(m4:Int)(m5:ae)(m6:Int)(m7:waH)(m8:waG)(m9:waD)(m10:waC)(m11:Int)(m12:Bool)(m13:waA)(m14:waI)(m15:waJ)(m16:wbA)(m17:Int)(m18:ae)(m19:waC)(m20:waA)(m21:Int)(m22:ae)(m23:Int)(m24:waB)(m25:waB)(m26:waB)(m27:ae)(m28:waA)(m29:Int)(m30:ae)(m31:Int)(m32:waH)(m33:waG)(m34:waD)(m35:waC)(m36:Int)(m37:Bool)(m38:waA)(m39:waI)(m40:waJ)(m41:wbA)(m42:Int)(m43:ae)(m44:waC)(m45:waA)(m46:Int)(m47:ae)(m48:Int)(m49:waB)(m50:waB)(m51:waB)(m52:ae)(m53:waA)(m54:waE)(m55:waF)(m56:ae)(m57:waA)(m58:waE)(m59:waF)
def y5:aA:=bg 160 [(1,.str name),(2,.eptr (aO m)),(9,.bptr 3 0),(10,.bool may),(11,.bptr 4 0),(12,.bool can)] [.dead,.cells [.str m2,sl cS m3,.int .i64 m4,.str m5,.int .i64 m6,sl af m7,sl av m8,sl ay m9,sl ai m10,.int .i64 m11,.bool m12,sl cS m13,sl d9 m14,sl gq m15,sl dc m16,.int .i64 m17,.str m18,sl ai m19,sl cS m20,.int .i64 m21,.str m22,.int .i64 m23,sl al m24,sl al m25,sl al m26] [],.cells [.str m27,sl cS m28,.int .i64 m29,.str m30,.int .i64 m31,sl af m32,sl av m33,sl ay m34,sl ai m35,.int .i64 m36,.bool m37,sl cS m38,sl d9 m39,sl gq m40,sl dc m41,.int .i64 m42,.str m43,sl ai m44,sl cS m45,.int .i64 m46,.str m47,.int .i64 m48,sl al m49,sl al m50,sl al m51] [],.cells [.str m52,sl cS m53,sl dL m54,sl cM m55] [],.cells [.str m56,sl cS m57,sl dL m58,sl cM m59] []] []
def gp(o:Bool):aA:=bg 160 [(1,.str name),(2,.eptr (aO m)),(118,.bool o)] [.dead,.cells [.str m2,sl cS m3,.int .i64 m4,.str m5,.int .i64 m6,sl af m7,sl av m8,sl ay m9,sl ai m10,.int .i64 m11,.bool m12,sl cS m13,sl d9 m14,sl gq m15,sl dc m16,.int .i64 m17,.str m18,sl ai m19,sl cS m20,.int .i64 m21,.str m22,.int .i64 m23,sl al m24,sl al m25,sl al m26] [],.cells [.str m27,sl cS m28,.int .i64 m29,.str m30,.int .i64 m31,sl af m32,sl av m33,sl ay m34,sl ai m35,.int .i64 m36,.bool m37,sl cS m38,sl d9 m39,sl gq m40,sl dc m41,.int .i64 m42,.str m43,sl ai m44,sl cS m45,.int .i64 m46,.str m47,.int .i64 m48,sl al m49,sl al m50,sl al m51] [],.cells [.str m52,sl cS m53,sl dL m54,sl cM m55] [],.cells [.str m56,sl cS m57,sl dL m58,sl cM m59] []] []
def ol:Option Bool:=
 if(!(may==can))=true then
  some true
 else
  if(!(m52==m56))=true then
   some true
  else
   (hO m53 m57).bind fun r29=>
   if(!r29)=true then
    some true
   else
    some ((m55.length:Int)!=(m59.length:Int))
theorem yk{x:Bool}(h:ol may can m52 m53 m55 m56 m57 m59=some x):aQ Pg GE 0 (cA b7 1020) (EX .normal (gp name m m2 m3 m4 m5 m6 m7 m8 m9 m10 m11 m12 m13 m14 m15 m16 m17 m18 m19 m20 m21 m22 m23 m24 m25 m26 m27 m28 m29 m30 m31 m32 m33 m34 m35 m36 m37 m38 m39 m40 m41 m42 m43 m44 m45 m46 m47 m48 m49 m50 m51 m52 m53 m54 m55 m56 m57 m58 m59 x)) (y5 name m may can m2 m3 m4 m5 m6 m7 m8 m9 m10 m11 m12 m13 m14 m15 m16 m17 m18 m19 m20 m21 m22 m23 m24 m25 m26 m27 m28 m29 m30 m31 m32 m33 m34 m35 m36 m37 m38 m39 m40 m41 m42 m43 m44 m45 m46 m47 m48 m49 m50 m51 m52 m53 m54 m55 m56 m57 m58 m59):=by
 rcases aN h with⟨c26,h⟩|⟨c26,h⟩
 ·obtain rfl:=lf h
  exact bA A7 (sg 4 c26<|eF .normal (gp name m m2 m3 m4 m5 m6 m7 m8 m9 m10 m11 m12 m13 m14 m15 m16 m17 m18 m19 m20 m21 m22 m23 m24 m25 m26 m27 m28 m29 m30 m31 m32 m33 m34 m35 m36 m37 m38 m39 m40 m41 m42 m43 m44 m45 m46 m47 m48 m49 m50 m51 m52 m53 m54 m55 m56 m57 m58 m59 true))<|by kernel_rfl
 ·have p28:=fun{sc F} (r:PS sc F)=>sg 4 c26<|ss<|ss<|r
  rcases aN h with⟨c27,h⟩|⟨c27,h⟩
  ·obtain rfl:=lf h
   exact bA A7 (p28<|sg 11 c27<|eF .normal (gp name m m2 m3 m4 m5 m6 m7 m8 m9 m10 m11 m12 m13 m14 m15 m16 m17 m18 m19 m20 m21 m22 m23 m24 m25 m26 m27 m28 m29 m30 m31 m32 m33 m34 m35 m36 m37 m38 m39 m40 m41 m42 m43 m44 m45 m46 m47 m48 m49 m50 m51 m52 m53 m54 m55 m56 m57 m58 m59 true))<|by kernel_rfl
  ·obtain⟨r29,br29,h⟩:=aG h
   have p31:=fun{sc F} (r:PS sc F)=>p28<|sg 11 c27<|ss<|ss<|du (jH br29)<|r
   rcases aN h with⟨c30,h⟩|⟨c30,h⟩
   ·obtain rfl:=lf h
    exact bA A7 (p31<|sg 19 c30<|eF .normal (gp name m m2 m3 m4 m5 m6 m7 m8 m9 m10 m11 m12 m13 m14 m15 m16 m17 m18 m19 m20 m21 m22 m23 m24 m25 m26 m27 m28 m29 m30 m31 m32 m33 m34 m35 m36 m37 m38 m39 m40 m41 m42 m43 m44 m45 m46 m47 m48 m49 m50 m51 m52 m53 m54 m55 m56 m57 m58 m59 true))<|by kernel_rfl
   ·obtain rfl:=lf h
    exact bA A7 (p31<|sg 19 c30<|ss<|bU (IX.ln m55)<|ss<|bU (IX.ln m59)<|eF .normal (gp name m m2 m3 m4 m5 m6 m7 m8 m9 m10 m11 m12 m13 m14 m15 m16 m17 m18 m19 m20 m21 m22 m23 m24 m25 m26 m27 m28 m29 m30 m31 m32 m33 m34 m35 m36 m37 m38 m39 m40 m41 m42 m43 m44 m45 m46 m47 m48 m49 m50 m51 m52 m53 m54 m55 m56 m57 m58 m59 ((m55.length:Int)!=(m59.length:Int))))<|by kernel_rfl
end
def rC (m:bo) (name:ae):Option Bool :=
 (og name m).bind fun o4=>
 if o4=true then
  Ak.bind fun r7=>
  some r7
 else
  (xw m name).bind fun r8=>
  (Gr m name).bind fun r9=>
  (oh r8.2 r9.2 r8.1.Name r8.1.Params r8.1.Body.Op r8.1.Body.Name r8.1.Body.N r8.1.Body.Kids r8.1.Body.Params r8.1.Body.Alts r8.1.Body.Types r8.1.Mode r8.1.Typed r9.1.Name r9.1.Params r9.1.Body.Op r9.1.Body.Name r9.1.Body.N r9.1.Body.Kids r9.1.Body.Params r9.1.Body.Alts r9.1.Body.Types r9.1.Mode r9.1.Typed).bind fun o21=>
  if o21=true then
   some false
  else
   (uQ m name).bind fun r24=>
   (CX m name).bind fun r25=>
   (ol r24.2 r25.2 r24.1.Name r24.1.Vars r24.1.Cons r25.1.Name r25.1.Vars r25.1.Cons).bind fun o32=>
   if o32=true then
    some false
   else
    (xv m name).bind fun r35=>
    (Gq m name).bind fun r36=>
    if (r35.2.2 == r36.2.2) = true then
     if (r35.2.1 == r36.2.1) = true then
      if(r35.1.Name==r36.1.Name)=true then
       if((r35.1.Cons.length:Int)==(r36.1.Cons.length:Int))=true then
        Ak.bind fun r45=>
        some r45
       else
        some false
      else
       some false
     else
      some false
    else
     some false
theorem B5{m:bo}{name:ae}{r:Bool}(h:rC m name=some r):CC Pg GE 7 [.agg (aO m),.str name] (.bool r) []:=by
 obtain⟨o4,bo4,h⟩:=aG h
 have p6:=fun{sc F} (r:PS sc F)=>se (fm m)<|qk 1<|cY (yi name m bo4)<|r
 rcases aN h with⟨c5,h⟩|⟨c5,h⟩
 ·obtain⟨r7,br7,h⟩:=aG h
  obtain rfl:=lf h
  have z:=p6<|sg 0 c5<|du (C2 br7)<|en (aI (rP (.bool r7))<|trivial)
  exact cH A7 call7 func7 (c:=b7) rfl (aI (cr m) (aI trivial trivial)) z<|by kernel_rfl
 ·obtain⟨r8,br8,h⟩:=aG h
  obtain⟨r9,br9,h⟩:=aG h
  obtain⟨o21,bo21,h⟩:=aG h
  have p23:=fun{sc F} (r:PS sc F)=>p6<|sg 0 c5<|sv (oo m)<|du (I0 br8)<|sx Nb<|sx (zB r8.1)<|sv (oo m)<|du (Mn br9)<|sx Nb<|sx (zB r9.1)<|qk 1<|cY (yj name m r8.2 r9.2 r8.1.Name r8.1.Params r8.1.Body.Op r8.1.Body.Name r8.1.Body.N r8.1.Body.Kids r8.1.Body.Params r8.1.Body.Alts r8.1.Body.Types r8.1.Mode r8.1.Typed r8.1.Sig.Vars r8.1.Sig.Needs r8.1.Sig.Abs r8.1.Sig.Bounds r8.1.Sig.Type_.Op r8.1.Sig.Type_.Name r8.1.Sig.Type_.Args r8.1.Sig.Type_.Names r8.1.Sig.Type_.Pred.Op r8.1.Sig.Type_.Pred.Name r8.1.Sig.Type_.Pred.N r8.1.Sig.Type_.Pred.Kids r8.1.Sig.Type_.Preds r8.1.Sig.Metric r9.1.Name r9.1.Params r9.1.Body.Op r9.1.Body.Name r9.1.Body.N r9.1.Body.Kids r9.1.Body.Params r9.1.Body.Alts r9.1.Body.Types r9.1.Mode r9.1.Typed r9.1.Sig.Vars r9.1.Sig.Needs r9.1.Sig.Abs r9.1.Sig.Bounds r9.1.Sig.Type_.Op r9.1.Sig.Type_.Name r9.1.Sig.Type_.Args r9.1.Sig.Type_.Names r9.1.Sig.Type_.Pred.Op r9.1.Sig.Type_.Pred.Name r9.1.Sig.Type_.Pred.N r9.1.Sig.Type_.Pred.Kids r9.1.Sig.Type_.Preds r9.1.Sig.Metric bo21)<|r
  rcases aN h with⟨c22,h⟩|⟨c22,h⟩
  ·obtain rfl:=lf h
   have z:=p23<|sg 0 c22<|en (aI (rP (.bool false))<|trivial)
   exact cH A7 call7 func7 (c:=b7) rfl (aI (cr m) (aI trivial trivial)) z<|by kernel_rfl
  ·obtain⟨r24,br24,h⟩:=aG h
   obtain⟨r25,br25,h⟩:=aG h
   obtain⟨o32,bo32,h⟩:=aG h
   have p34:=fun{sc F} (r:PS sc F)=>p23<|sg 0 c22<|sv (oo m)<|du (HZ br24)<|sx Cu<|sx (jT r24.1)<|sv (oo m)<|du (K2 br25)<|sx Cu<|sx (jT r25.1)<|qk 1<|cY (yk name m r24.2 r25.2 r8.1.Name r8.1.Params r8.1.Body.Op r8.1.Body.Name r8.1.Body.N r8.1.Body.Kids r8.1.Body.Params r8.1.Body.Alts r8.1.Body.Types r8.1.Mode r8.1.Typed r8.1.Sig.Vars r8.1.Sig.Needs r8.1.Sig.Abs r8.1.Sig.Bounds r8.1.Sig.Type_.Op r8.1.Sig.Type_.Name r8.1.Sig.Type_.Args r8.1.Sig.Type_.Names r8.1.Sig.Type_.Pred.Op r8.1.Sig.Type_.Pred.Name r8.1.Sig.Type_.Pred.N r8.1.Sig.Type_.Pred.Kids r8.1.Sig.Type_.Preds r8.1.Sig.Metric r9.1.Name r9.1.Params r9.1.Body.Op r9.1.Body.Name r9.1.Body.N r9.1.Body.Kids r9.1.Body.Params r9.1.Body.Alts r9.1.Body.Types r9.1.Mode r9.1.Typed r9.1.Sig.Vars r9.1.Sig.Needs r9.1.Sig.Abs r9.1.Sig.Bounds r9.1.Sig.Type_.Op r9.1.Sig.Type_.Name r9.1.Sig.Type_.Args r9.1.Sig.Type_.Names r9.1.Sig.Type_.Pred.Op r9.1.Sig.Type_.Pred.Name r9.1.Sig.Type_.Pred.N r9.1.Sig.Type_.Pred.Kids r9.1.Sig.Type_.Preds r9.1.Sig.Metric r24.1.Name r24.1.Vars r24.1.Preds r24.1.Cons r25.1.Name r25.1.Vars r25.1.Preds r25.1.Cons bo32)<|r
   rcases aN h with⟨c33,h⟩|⟨c33,h⟩
   ·obtain rfl:=lf h
    have z:=p34<|sg 0 c33<|en (aI (rP (.bool false))<|trivial)
    exact cH A7 call7 func7 (c:=b7) rfl (aI (cr m) (aI trivial trivial)) z<|by kernel_rfl
   ·obtain⟨r35,br35,h⟩:=aG h
    obtain⟨r36,br36,h⟩:=aG h
    have p38:=fun{sc F} (r:PS sc F)=>p34<|sg 0 c33<|sv (oo m)<|du (IZ br35)<|sx Cu<|sx (jT r35.1)<|sv (oo m)<|du (Mm br36)<|sx Cu<|sx (jT r36.1)<|r
    rcases aN h with⟨c37,h⟩|⟨c37,h⟩
    ·have p40:=fun{sc F} (r:PS sc F)=>p38<|sg 4 c37<|r
     rcases aN h with⟨c39,h⟩|⟨c39,h⟩
     ·have p42:=fun{sc F} (r:PS sc F)=>p40<|sg 9 c39<|ss<|ss<|r
      rcases aN h with⟨c41,h⟩|⟨c41,h⟩
      ·have p44:=fun{sc F} (r:PS sc F)=>p42<|sg 16 c41<|ss<|bU (IX.ln r35.1.Cons)<|ss<|bU (IX.ln r36.1.Cons)<|r
       rcases aN h with⟨c43,h⟩|⟨c43,h⟩
       ·obtain⟨r45,br45,h⟩:=aG h
        obtain rfl:=lf h
        have z:=p44<|sg 25 c43<|du (C2 br45)<|en (aI (rP (.bool r45))<|trivial)
        exact cH A7 call7 func7 (c:=b7) rfl (aI (cr m) (aI trivial trivial)) z<|by kernel_rfl
       ·obtain rfl:=lf h
        have z:=p44<|sg 25 c43<|en (aI (rP (.bool false))<|trivial)
        exact cH A7 call7 func7 (c:=b7) rfl (aI (cr m) (aI trivial trivial)) z<|by kernel_rfl
      ·obtain rfl:=lf h
       have z:=p42<|sg 16 c41<|en (aI (rP (.bool false))<|trivial)
       exact cH A7 call7 func7 (c:=b7) rfl (aI (cr m) (aI trivial trivial)) z<|by kernel_rfl
     ·obtain rfl:=lf h
      have z:=p40<|sg 9 c39<|en (aI (rP (.bool false))<|trivial)
      exact cH A7 call7 func7 (c:=b7) rfl (aI (cr m) (aI trivial trivial)) z<|by kernel_rfl
    ·obtain rfl:=lf h
     have z:=p38<|sg 4 c37<|en (aI (rP (.bool false))<|trivial)
     exact cH A7 call7 func7 (c:=b7) rfl (aI (cr m) (aI trivial trivial)) z<|by kernel_rfl
open Go
mutual
def nP:aj->Nat
 |⟨_,_,_,ks⟩=>nL ks+1
def nL:List aj->Nat
 |[]=>0
 |p::ps=>nP p+nL ps
end
theorem LI(p:aj):nP p=nL p.Kids+1:=by obtain⟨o,n,k,ks⟩:=p;rw[nP];rfl
theorem Qn(p:aj):1<=nP p:=by rw[LI];omega
theorem Qm:∀{l:List aj} {x:aj},x∈l->nP x<=nL l
 | y :: l,x,h => by
  rw[nL]
  rcases vaw.1 h with rfl|h
  ·omega
  ·have:=Qm h;omega
theorem Ky:∀(l:List aj),l.length<=nL l
 |[]=>by simp[nL]
 |p::l=>by rw[nL];have:=Ky l;have:=Qn p;simp only[vaW];omega
theorem P7{p x:aj}(h:x∈p.Kids):nP x<nP p:=by rw[LI p];have:=Qm h;omega
theorem P8(p:aj):p.Kids.length<nP p:=by rw[LI];have:=Ky p.Kids;omega
theorem Jv:∀(a b:List aj),nL (a++b)=nL a+nL b
 |[],b=>by simp[nL]
 |p::a,b=>by rw[vaO,nL,Jv a b,nL];omega
mutual
theorem Sp:∀(p:aj),nP p<=gS (al p)
 |⟨o,n,k,ks⟩=>by
  have:=NJ ks
  rw[nP,cj]
  simp only[gS,pm,sl]
  show nL ks+1<=1+(n.length+1+(1+(cm (ks.map al)+1+0)))
  omega
theorem NJ:∀(l:List aj),nL l<=cm (l.map al)
 |[]=>by simp[nL]
 |p::l=>by
  have:=Sp p
  have:=NJ l
  rw[nL]
  simp only[vaB,cm]
  omega
end
mutual
def VJ:aj->aj->Bool
 |⟨o,n,k,ks⟩,⟨o',n',k',ks'⟩=>(o==o')&&((n==n')&&((k==k')&&S2 ks ks'))
def S2:List aj->List aj->Bool
 |[],[]=>true
 |x::xs,y::ys=>VJ x y&&S2 xs ys
 |_,_=>false
end
mutual
theorem Nu:∀(a b:aj),VJ a b=true↔a=b
 |⟨o,n,k,ks⟩,⟨o',n',k',ks'⟩=>by
  rw[VJ]
  have:=Nt ks ks'
  simp only[vae,vaV,this,aj.mk.injEq]
theorem Nt:∀(a b:List aj),S2 a b=true↔a=b
 |[],[]=>by simp[S2]
 |x::xs,y::ys=>by
  rw[S2]
  have h1:=Nu x y
  have h2:=Nt xs ys
  simp only[vae,h1,h2,vbt]
 |[],y::ys=>by simp[S2]
 |x::xs,[]=>by simp[S2]
end
instance:DecidableEq aj:=fun a b=>decidable_of_iff _ (Nu a b)
theorem Jj(p:aj):(⟨p.Op,p.Name,p.N,p.Kids⟩:aj)=p:=by cases p;rfl
theorem O6{a b:aj}:a=b↔a.Op=b.Op/\a.Name=b.Name/\a.N=b.N/\a.Kids=b.Kids:=by
 cases a;cases b
 simp only[aj.mk.injEq]
 rfl
theorem NY{α:Type}[DecidableEq α]:∀{a b:List α},a.length=b.length->(a.zip b).any (fun x=>decide (x.1≠x.2))= !decide (a=b)
 |[],[],_=>by simp
 |x::a,y::b,h=>by
  have ih:=NY (a:=a) (b:=b) (by simpa using h)
  rw[List.zip_cons_cons,List.any_cons,ih]
  by_cases h1:x=y<;>by_cases h2:a=b<;>simp[h1,h2]
theorem zq{α X:Type}[DecidableEq α]{a b:List α}(hl:a.length=b.length)(ha:a.length<9223372036854775808)(body:Int->Option (Int⊕X))(y e:X)
  (hin:∀(i:Nat) (h:i<a.length) (h':i<b.length),body i=some (if decide (a[i]=b[i])=true then .inl (ca ((i:Int)+1))else .inr y)) (hend:body a.length=some (.inr e)):loop body 0=some (if decide (a=b)=true then e else y):=by
 have hz:(a.zip b).length=a.length:=by simp[hl]
 have:=Qe (a.zip b) (by omega) body (fun x=>decide (x.1≠x.2)) y e (fun i h=>?_) (by rw[hz];exact hend) 0 (va5 _)
 ·rw[vcq,NY hl]at this
  rw[show((0:Nat):Int)=0 from rfl]at this
  rw[this]
  by_cases h:a=b<;>simp[h]
 ·have h1:i<a.length:=by omega
  have h2:i<b.length:=by omega
  rw[hin i h1 h2]
  have hzi:(a.zip b)[i]=(a[i],b[i]):=by simp
  rw[hzi]
  by_cases h:a[i]=b[i]<;>simp[h]
abbrev tZ:Nat:=1073741824
theorem Ex{n:Nat}(h:n<=tZ):n<Sj:=by have:=SS;unfold tZ at h;omega
theorem L8(a b:aj)(hb:nP b<=tZ):CW a b=some (decide (a=b)):=by
 refine Ki (F:=BV) (fun x=>nP x.2) (fun x=>nP x.2<=tZ) (fun x=>decide (x.1=x.2)) (fun R x hx ih=>?_) (a,b) hb (Ex hb)
 obtain⟨u,v⟩:=x
 have hx:nP v<=tZ:=hx
 show wL (fun a a2=>R (a,a2)) u v=some (decide (u=v))
 unfold wL yD
 have hk:=P8 v
 by_cases h1:u.Op=v.Op
 ·by_cases h2:u.Name=v.Name
  ·by_cases h3:u.N=v.N
   ·by_cases h4:u.Kids.length=v.Kids.length
    ·rw[vay (by simpa using h1),vay (by simpa using h2),vay (by simpa using h3)]
     simp only[h4,bne_self_eq_false,vab,if_false,vbg]
     unfold yE
     rw[<-h4,zq h4 (by unfold tZ at hx;omega) _ (.inl ()) (.inr ()) (fun i g1 g2=>?_) ?_]
     ·by_cases he:u.Kids=v.Kids<;>simp[he,O6 (a:=u) (b:=v),h1,h2,h3]
     ·unfold qN
      rw[vay (by simp)]
     ·unfold qN
      rw[vax (by simp;omega),db u.Kids i g1]
      simp only[vab]
      rw[db v.Kids i g2]
      simp only[vab]
      have hm:=vaG g2
      rw[ih (u.Kids[i],v.Kids[i]) (P7 hm) (vbQ (vaD (P7 hm) hx))]
      by_cases he:u.Kids[i]=v.Kids[i]<;>simp[he]
    ·have hne:u≠v:=fun e=>h4 (by rw[e])
     rw[vay (by simpa using h1),vay (by simpa using h2),vay (by simpa using h3)]
     have hb:((u.Kids.length:Int)!=(v.Kids.length:Int))=true:=by simp;omega
     simp[hb,hne]
   ·have hne:u≠v:=fun e=>h3 (by rw[e])
    rw[vay (by simpa using h1),vay (by simpa using h2),vax (by simpa using h3)]
    simp[hne]
  ·have hne:u≠v:=fun e=>h2 (by rw[e])
   rw[vay (by simpa using h1),vax (by simpa using h2)]
   simp[hne]
 ·have hne:u≠v:=fun e=>h1 (by rw[e])
  rw[vax (by simpa using h1)]
  simp[hne]
theorem RM(l:List aj)(i:Nat)(h:i<l.length):nL (l.take (i+1))=nL (l.take i)+nP l[i]:=by
 rw[va3 h,Jv]
 simp[nL]
def wF{α:Type}(o:Option α)(Q:α->Prop):Prop:=∃a,o=some a/\Q a
section
variable{α β σ τ X Y:Type}
theorem eg{a:α}{Q:α->Prop}(h:Q a):wF (some a) Q:=⟨a,rfl,h⟩
theorem fS{o:Option α}{f:α->Option β}{R:α->Prop}{Q:β->Prop}(h:wF o R)(h':∀a,R a->wF (f a) Q):wF (o.bind f) Q:=by
 obtain⟨a,rfl,h⟩:=h
 exact h' a h
theorem wF.mono{o:Option α}{Q R:α->Prop}(h:wF o Q)(h':∀a,Q a->R a):wF o R:=by
 obtain⟨a,e,h⟩:=h
 exact⟨a,e,h' a h⟩
theorem KS{c:Prop}[Decidable c]{a b:Option α}{Q:α->Prop}(h1:c->wF a Q)(h2:¬c->wF b Q):wF (if c then a else b) Q:=by
 by_cases h:c
 ·rw[vax h];exact h1 h
 ·rw[vay h];exact h2 h
theorem H7{F:(X->Option Y)->X->Option Y}(μ:X->Nat)(P:X->Prop)(Q:X->Y->Prop)(h:∀(R:X->Option Y) x,P x->(∀y,μ y<μ x->P y->wF (R y) (Q y))->wF (F R x) (Q x))(x:X)(hx:P x)(hm:μ x<Sj):wF (uc F x) (Q x):=by
 have key:∀n x,μ x<n->P x->wF (Uu F n x) (Q x):=by
  intro n
  induction n with
  |zero=>intro x hx;omega
  |succ n ih=>intro x hx hq;exact h _ x hq fun y hy hqy=>ih y (by omega) hqy
 exact key _ x hm hx
theorem O8(l:List α)(hl:l.length<9223372036854775808)(mk:Int->σ->τ){body:τ->Option (τ⊕X)}(I:Nat->σ->Prop){Q:X->Prop}
  (hin:∀(i:Nat) (h:i<l.length) s,I i s->wF (body (mk i s)) (fun r=>match r with|.inl t=>∃s',t=mk (ca ((i:Int)+1)) s'/\I (i+1) s'|.inr y=>Q y))
  (hend:∀s,I l.length s->wF (body (mk l.length s)) (fun r=>match r with|.inl _=>False|.inr y=>Q y)):∀s,I 0 s->wF (loop body (mk 0 s)) Q:=by
 have key:∀k i s,k+i=l.length->I i s->wF (loop body (mk (i:Int) s)) Q:=by
  intro k
  induction k with
  |zero=>
   intro i s hi hI
   have:i=l.length:=by omega
   subst this
   obtain⟨r,e,hr⟩:=hend s hI
   rw[mG,e]
   cases r with
   |inl _=>exact hr.elim
   |inr y=>exact⟨y,rfl,hr⟩
  | succ k ih =>
   intro i s hi hI
   obtain⟨r,e,hr⟩:=hin i (by omega) s hI
   rw[mG,e]
   cases r with
   |inl t=>
    obtain⟨s',rfl,hI'⟩:=hr
    simp only
    rw[eh (by omega) (by omega),show((i:Int)+1)=((i+1:Nat):Int) by omega]
    exact ih (i+1) s' (by omega) hI'
   |inr y=>exact⟨y,rfl,hr⟩
 exact fun s hs=>key l.length 0 s (by omega) hs
end
set_option linter.unusedSimpArgs false
theorem Jk(t:ah):(⟨t.Op,t.Name,t.Args,t.Names,t.Pred,t.Preds⟩:ah)=t:=by cases t;rfl
mutual
def Ch:ah->Nat
 |⟨_,_,xs,ns,_,ps⟩=>lK xs+ns.length+ps.length+1
def lK:List ah->Nat
 |[]=>0
 |a::xs=>Ch a+lK xs
end
theorem Ar(t:ah):Ch t=lK t.Args+t.Names.length+t.Preds.length+1:=by obtain⟨o,n,xs,ns,p,ps⟩:=t;rw[Ch];rfl
theorem Qb(t:ah):1<=Ch t:=by rw[Ar];omega
theorem Js:∀{l:List ah} {x:ah},x∈l->Ch x<=lK l
 | y :: l,x,h => by
  rw[lK]
  rcases vaw.1 h with rfl|h
  ·omega
  ·have:=Js h;omega
theorem Jr:∀(l:List ah),l.length<=lK l
 |[]=>by simp[lK]
 |p::l=>by rw[lK];have:=Jr l;have:=Qb p;simp only[vaW];omega
theorem PA{t a:ah}(h:a∈t.Args):Ch a<Ch t:=by rw[Ar t];have:=Js h;omega
theorem PB(t:ah):t.Args.length<Ch t:=by rw[Ar];have:=Jr t.Args;omega
theorem OF(t:ah):t.Names.length<Ch t:=by rw[Ar];omega
theorem OW(t:ah):t.Preds.length<Ch t:=by rw[Ar];omega
mutual
def JV(Q:aj->Prop):ah->Prop
 |⟨_,_,xs,_,p,ps⟩=>Q p/\(∀q∈ps,Q q)/\Fc Q xs
def Fc(Q:aj->Prop):List ah->Prop
 |[]=>True
 |a::xs=>JV Q a/\Fc Q xs
end
theorem K6(Q:aj->Prop)(t:ah):JV Q t↔Q t.Pred/\(∀q∈t.Preds,Q q)/\Fc Q t.Args:=by obtain⟨o,n,xs,ns,p,ps⟩:=t;rw[JV];rfl
theorem I6(Q:aj->Prop):∀(l:List ah),Fc Q l↔∀t∈l,JV Q t
 |[]=>by simp[Fc]
 |a::l=>by rw[Fc,I6 Q l];simp
theorem Py{Q:aj->Prop}{t a:ah}(h:JV Q t)(ha:a∈t.Args):JV Q a:=(I6 Q _).1 ((K6 Q t).1 h).2.2 a ha
theorem So(l:List aj):l.length<=cm (l.map al):=by
 have:=Ky l
 have:=NJ l
 omega
theorem Hm(l:List ae):l.length<=cm (l.map cS):=by
 have h:=LU (l.map cS) (fun x hx=>by
  obtain⟨s,_,rfl⟩:=vai.1 hx
  simp only[cS,gS,pm];omega)
 rwa[vbC]at h
theorem zF(t:ah):gS (ai t)=1+(pm (.str t.Name)+(pm (sl ai t.Args)+(pm (sl cS t.Names)+(1+(pm (.str t.Pred.Name)+(1+(pm (sl al t.Pred.Kids)+(pm (sl al t.Preds)+0)))))))):=by
 rw[ct];rfl
mutual
theorem NC:∀(t:ah),Ch t<=gS (ai t)
 |⟨o,n,xs,ns,p,ps⟩=>by
  have h1:=LA xs
  have h2:=So ps
  have h3:=Hm ns
  rw[Ch,zF]
  show _<=1+(pm (.str n)+(pm (sl ai xs)+(pm (sl cS ns)+(1+(pm (.str p.Name)+(1+(pm (sl al p.Kids)+(pm (sl al ps)+0))))))))
  simp only[pm,sl]
  omega
theorem LA:∀(l:List ah),lK l<=cm (l.map ai)
 |[]=>by simp[lK]
 |a::l=>by
  have:=NC a
  have:=LA l
  rw[lK]
  simp only[vaB,cm]
  omega
end
theorem RV(t:ah):nP t.Pred<=gS (ai t):=by
 have h:=NJ t.Pred.Kids
 rw[LI,zF]
 simp only[pm,sl]
 omega
mutual
theorem Nn(B:Nat):∀(t:ah),gS (ai t)<=B->JV (fun p=>nP p<=B) t
 |⟨o,n,xs,ns,p,ps⟩,h=>by
  have h0:=RV ⟨o,n,xs,ns,p,ps⟩
  rw[zF]at h h0
  have h:1+(pm (.str n)+(pm (sl ai xs)+(pm (sl cS ns)+(1+(pm (.str p.Name)+(1+(pm (sl al p.Kids)+(pm (sl al ps)+0))))))))<=B:=h
  have h0:nP p<=1+(pm (.str n)+(pm (sl ai xs)+(pm (sl cS ns)+(1+(pm (.str p.Name)+(1+(pm (sl al p.Kids)+(pm (sl al ps)+0)))))))):=h0
  simp only[pm,sl]at h h0
  rw[JV]
  refine⟨by omega,fun q hq=>?_,K5 B xs (by omega)⟩
  have h1:=Sp q
  have h2:=HK (vai.2 ⟨q,hq,rfl⟩:al q∈ps.map al)
  omega
theorem K5(B:Nat):∀(l:List ah),cm (l.map ai)<=B->Fc (fun p=>nP p<=B) l
 |[],_=>trivial
 |a::xs,h=>by
  simp only[vaB,cm]at h
  rw[Fc]
  exact⟨Nn B a (by omega),K5 B xs (by omega)⟩
end
theorem vQ(e:ag):(⟨e.Op,e.Name,e.N,e.Kids,e.Params,e.Alts,e.Types⟩:ag)=e:=by obtain⟨o,n,k,ks,ps,as1,ts⟩:=e;rfl
mutual
def nE:ag->Nat
 |⟨_,_,_,ks,ps,as1,ts⟩=>Qj ks+Qg as1+ps.length+ts.length+1
def nA:aF->Nat
 |⟨_,ns,b⟩=>ns.length+nE b+1
def Qj:List ag->Nat
 |[]=>0
 |e::l=>nE e+Qj l
def Qg:List aF->Nat
 |[]=>0
 |a::l=>nA a+Qg l
end
theorem Fp(e:ag):nE e=Qj e.Kids+Qg e.Alts+e.Params.length+e.Types.length+1:=by obtain⟨o,n,k,ks,ps,as1,ts⟩:=e;rw[nE];rfl
theorem Qi(a:aF):nA a=a.Names.length+nE a.Body+1:=by obtain⟨c,ns,b⟩:=a;rw[nA];rfl
theorem S5(e:ag):1<=nE e:=by rw[Fp];omega
theorem NI:∀{l:List ag} {x:ag},x∈l->nE x<=Qj l
 | y :: l,x,h => by
  rw[Qj]
  rcases vaw.1 h with rfl|h
  ·omega
  ·have:=NI h;omega
theorem Kx:∀{l:List aF} {x:aF},x∈l->nA x<=Qg l
 | y :: l,x,h => by
  rw[Qg]
  rcases vaw.1 h with rfl|h
  ·omega
  ·have:=Kx h;omega
theorem NH:∀(l:List ag),l.length<=Qj l
 |[]=>by simp[Qj]
 |p::l=>by rw[Qj];have:=NH l;have:=S5 p;simp only[vaW];omega
theorem NG:∀(l:List aF),l.length<=Qg l
 |[]=>by simp[Qg]
 |p::l=>by rw[Qg];have:=NG l;have:=Qi p;simp only[vaW];omega
theorem RK{e x:ag}(h:x∈e.Kids):nE x<nE e:=by rw[Fp e];have:=NI h;omega
theorem Rb{e:ag}{x:aF}(h:x∈e.Alts):nE x.Body<nE e:=by rw[Fp e];have:=Kx h;have:=Qi x;omega
theorem Oz(e:ag):e.Kids.length<nE e:=by rw[Fp];have:=NH e.Kids;omega
theorem N9(e:ag):e.Alts.length<nE e:=by rw[Fp];have:=NG e.Alts;omega
theorem LN(e:ag):e.Params.length<nE e:=by rw[Fp];omega
theorem Nh(e:ag):e.Types.length<nE e:=by rw[Fp];omega
theorem N8{e:ag}{x:aF}(h:x∈e.Alts):x.Names.length<nE e:=by rw[Fp];have:=Kx h;have:=Qi x;omega
section
variable{α β σ τ X Y:Type}
theorem qw(l:List α)(hl:l.length<9223372036854775808)(mk:Int->τ)(body:τ->Option (τ⊕X))(f:α->Option X)(e:X)
  (hin:∀(i:Nat) (h:i<l.length),body (mk (i:Int))=some ((f l[i]).elim (.inl (mk (ca ((i:Int)+1)))) .inr)) (hend:body (mk l.length)=some (.inr e)):loop body (mk 0)=some ((l.findSome? f).elim e id):=by
 have key:∀k i,k+i=l.length->loop body (mk (i:Int))=some (((l.drop i).findSome? f).elim e id):=by
  intro k
  induction k with
  |zero=>
   intro i hi
   have:i=l.length:=by omega
   subst this
   rw[mG,hend,vcg]
   rfl
  | succ k ih =>
   intro i hi
   rw[mG,hin i (by omega),vbk (by omega),List.findSome?_cons]
   cases h:f l[i]with
   |none=>
    simp only[Option.elim]
    rw[eh (by omega) (by omega),show((i:Int)+1)=((i+1:Nat):Int) by omega]
    exact ih (i+1) (by omega)
   |some y=>rfl
 have:=key l.length 0 (by omega)
 rw[vcq]at this
 exact this
theorem Hs(l:List α)(hl:l.length<9223372036854775808)(mk:Int->τ)(body:τ->Option (τ⊕X))(p:α->Bool)(y:Nat->X)(e:X)
  (hin:∀(i:Nat) (h:i<l.length),body (mk (i:Int))=some (if p l[i]=true then .inr (y i)else .inl (mk (ca ((i:Int)+1))))) (hend:body (mk l.length)=some (.inr e)):loop body (mk 0)=some ((l.findIdx? p).elim e y):=by
 have key:∀k i,k+i=l.length->loop body (mk (i:Int))=some (((l.drop i).findIdx? p).elim e (fun j=>y (i+j))):=by
  intro k
  induction k with
  |zero=>
   intro i hi
   have:i=l.length:=by omega
   subst this
   rw[mG,hend,vcg]
   rfl
  | succ k ih =>
   intro i hi
   rw[mG,hin i (by omega),vbk (by omega),List.findIdx?_cons]
   by_cases h:p l[i]=true
   ·simp[h]
   ·simp only[h,if_false,vbg]
    rw[eh (by omega) (by omega),show((i:Int)+1)=((i+1:Nat):Int) by omega,ih (i+1) (by omega)]
    cases(l.drop (i+1)).findIdx? p with
    |none=>rfl
    |some j=>simp only[vag,Option.elim];congr 2;omega
 have:=key l.length 0 (by omega)
 rw[vcq]at this
 simpa using this
end
noncomputable instance decT:DecidableEq ah:=fun a b=>Classical.propDecidable _
noncomputable instance decE:DecidableEq ag:=fun a b=>Classical.propDecidable _
noncomputable instance decA:DecidableEq aF:=fun a b=>Classical.propDecidable _
noncomputable instance decQ:DecidableEq aw:=fun a b=>Classical.propDecidable _
theorem UC{a b:Bool}:(if a=true then some true else some b)=some (a||b):=by cases a<;>rfl
theorem J7{α:Type}[DecidableEq α]{a b:List α}(ha:a.length<=tZ)(body:Int->Option (Int⊕(Unit⊕Unit)))
  (hin:∀(i:Nat) (h1:i<a.length) (h2:i<b.length),body (i:Int)=some (if decide (a[i]=b[i])=true then .inl (ca ((i:Int)+1))else .inr (.inl ()))) (hend:body (a.length:Int)=some (.inr (.inr ()))) {k:Unit⊕Unit->Option Bool} (g1:k (.inl ())=some false) (g2:k (.inr ())=some true):
  (if((a.length:Int)!=(b.length:Int))=true then some false else(loop body 0).bind k)=some (decide (a=b)):=by
 by_cases hl:a.length=b.length
 ·rw[vay (by simp[hl]),zq hl (by unfold tZ at ha;omega) body (.inl ()) (.inr ()) hin hend]
  by_cases he:a=b
  ·simp only[he,decide_true,if_true,vab];exact g2
  ·simp only[he,decide_false,vbg,if_false,vab];exact g1
 ·rw[vax (by simp;omega),decide_eq_false (fun he=>hl (by rw[he]))]
theorem AB{a b:List ae}(ha:a.length<=tZ):hO a b=some (decide (a=b)):=by
 unfold hO qq
 refine J7 ha _ (fun i h1 h2=>?_) ?_ rfl rfl
 ·show fT a b (i:Int)=_
  unfold fT
  rw[vax (by simpa using h1),db a i h1]
  simp only[vab]
  rw[db b i h2]
  simp only[vab]
  by_cases he:a[i]=b[i]<;>simp[he]
 ·show fT a b (a.length:Int)=_
  unfold fT
  rw[vay (by simp)]
theorem JH{R:ah->ah->Option Bool}{a b:List ah}(ha:a.length<=tZ)(h:∀x∈a,∀y∈b,R x y=some (decide (x=y))):nu R a b=some (decide (a=b)):=by
 unfold nu qr
 refine J7 ha _ (fun i h1 h2=>?_) ?_ rfl rfl
 ·show fV R a b (i:Int)=_
  unfold fV
  rw[vax (by simpa using h1),db a i h1]
  simp only[vab]
  rw[db b i h2]
  simp only[vab]
  rw[h _ (vaG h1) _ (vaG h2)]
  simp only[vab]
  by_cases he:a[i]=b[i]<;>simp[he]
 ·show fV R a b (a.length:Int)=_
  unfold fV
  rw[vay (by simp)]
theorem AE{a b:ah}:a=b↔a.Op=b.Op/\a.Name=b.Name/\a.Names=b.Names/\a.Pred=b.Pred/\a.Preds=b.Preds/\a.Args=b.Args:=by
 obtain⟨o,n,xs,ns,p,ps⟩:=a
 obtain⟨o',n',xs',ns',p',ps'⟩:=b
 constructor
 ·rintro h;cases h;exact⟨rfl,rfl,rfl,rfl,rfl,rfl⟩
 ·rintro⟨h1,h2,h3,h4,h5,h6⟩
  cases h1;cases h2;cases h3;cases h4;cases h5;cases h6;rfl
abbrev OH(t:ah):Prop:=Ch t<=tZ/\JV (fun p=>nP p<=tZ) t
theorem NL{t a:ah}(h:OH t)(ha:a∈t.Args):OH a:=⟨vav (vbQ (PA ha)) h.1,Py h.2 ha⟩
theorem JI(a b:ah)(ha:OH a)(hb:OH b):my a b=some (decide (a=b)):=by
 refine Ki (F:=td) (fun x=>Ch x.1) (fun x=>OH x.1/\OH x.2) (fun x=>decide (x.1=x.2)) (fun R x hx ih=>?_) (a,b) ⟨ha,hb⟩ (Ex ha.1)
 obtain⟨u,v⟩:=x
 obtain⟨hu,hv⟩:OH u/\OH v:=hx
 obtain⟨q1,q2,_⟩:=(K6 _ v).1 hv.2
 have l1:=PB u
 have l2:=OF u
 have l3:=OW u
 have l0:=hu.1
 show pb (fun a a2=>R (a,a2)) u v=some (decide (u=v))
 unfold pb rz
 rw[AB (by omega),L8 _ _ q1,JH (R:=fun a a2=>R (a,a2)) (a:=u.Args) (b:=v.Args) (by omega) (fun x hx y hy=>ih (x,y) (PA hx) ⟨NL hu hx,NL hv hy⟩)]
 simp only[vab,UC]
 by_cases hl:u.Preds.length=v.Preds.length
 ·unfold rA
  rw[zq hl (by unfold tZ at l0;omega) (fun zz=>fi u v zz) (.inl ()) (.inr ()) (fun i h1 h2=>?_) ?_]
  ·by_cases h5:u.Preds=v.Preds
   ·simp only[h5,decide_true,if_true,vab]
    by_cases h0:(u.Op !=v.Op||(!(u.Name==v.Name)||(!decide (u.Names=v.Names)||(!decide (u.Pred=v.Pred)||((v.Preds.length:Int)!=(v.Preds.length:Int))))))=true
    ·rw[vax h0]
     congr 1;symm
     rw[vaZ,AE]
     rintro⟨e1,e2,e3,e4,_⟩
     simp[e1,e2,e3,e4]at h0
    ·rw[vay h0]
     congr 1
     simp only[vaR,vcE,vaM,bne_iff_ne,ne_eq,Decidable.not_not,vcy,vaV,vaj]at h0
     obtain⟨e1,e2,e3,e4,_⟩:=h0
     rw[Bool.eq_iff_iff]
     simp[AE (a:=u) (b:=v),e1,e2,e3,e4,h5]
   ·simp only[h5,decide_false,vbg,if_false,vab,ite_self]
    congr 1;symm
    rw[vaZ,AE]
    rintro⟨_,_,_,_,e5,_⟩
    exact h5 e5
  ·show fi u v (u.Preds.length:Int)=_
   unfold fi
   rw[vay (by simp)]
  ·show fi u v (i:Int)=_
   unfold fi
   rw[vax (by simpa using h1),db _ i h1]
   simp only[vab]
   rw[db _ i h2]
   simp only[vab]
   rw[L8 _ _ (q2 _ (vaG h2))]
   simp only[vab]
   by_cases he:u.Preds[i]=v.Preds[i]<;>simp[he]
 ·have hx:((u.Preds.length:Int)!=(v.Preds.length:Int))=true:=by simp;omega
  rw[vax (by simp[hx])]
  congr 1;symm
  rw[vaZ,AE]
  rintro⟨_,_,_,_,e5,_⟩
  exact hl (by rw[e5])
mutual
def wT:ah->Nat
 |⟨_,_,xs,_,p,ps⟩=>nP p+nL ps+Mk xs
def Mk:List ah->Nat
 |[]=>0
 |a::xs=>wT a+Mk xs
end
theorem UR(t:ah):wT t=nP t.Pred+nL t.Preds+Mk t.Args:=by obtain⟨o,n,xs,ns,p,ps⟩:=t;rw[wT];rfl
theorem QX(l:List ah)(i:Nat)(h:i<l.length):Mk (l.take (i+1))=Mk (l.take i)+wT l[i]:=by
 have key:∀(a b:List ah),Mk (a++b)=Mk a+Mk b:=by
  intro a b
  induction a with
  |nil=>simp[Mk]
  |cons x a ih=>rw[vaO,Mk,Mk,ih];omega
 rw[va3 h,key]
 simp[Mk]
theorem Cc{α:Type}{l:List α}{i:Nat}{n most:Int}(h:i<l.length)(hm:n<=most):(if(decide ((i:Int)<(l.length:Int)))=true then some (decide (n<=most))else some false)=some true:=by
 rw[vax (by simp;omega),decide_eq_true hm]
theorem wZ{α:Type}{l:List α}{i:Nat}{n most:Int}(h:i=l.length\/¬n<=most):(if(decide ((i:Int)<(l.length:Int)))=true then some (decide (n<=most))else some false)=some false:=by
 by_cases hi:i<l.length
 ·rw[vax (by simp;omega)]
  rcases h with h|h
  ·omega
  ·rw[decide_eq_false h]
 ·rw[vay (by simp;omega)]
theorem xG{α:Type}(l:List α)(hl:l.length<9223372036854775808){body:Int×Int->Option ((Int×Int)⊕Int)}(most:Int)(I:Nat->Int->Prop)
  (hin:∀(i:Nat) (h:i<l.length) n,I i n->n<=most->wF (body (n,(i:Int))) (fun r=>∃n',r=.inl (n',ca ((i:Int)+1))/\I (i+1) n'))
  (hout:∀(i:Nat) n,i<=l.length->(i=l.length\/¬n<=most)->body (n,(i:Int))=some (.inr n)) (n:Int) (h0:I 0 n):wF (loop body (n,0)) (fun r=>∃i,i<=l.length/\I i r/\(i=l.length\/¬r<=most)):=by
 have key:∀k i n,k+i=l.length->I i n->wF (loop body (n,(i:Int))) (fun r=>∃i,i<=l.length/\I i r/\(i=l.length\/¬r<=most)):=by
  intro k
  induction k with
  |zero=>
   intro i n hi hI
   rw[mG,hout i n (by omega) (.inl (by omega))]
   exact eg ⟨i,by omega,hI,.inl (by omega)⟩
  | succ k ih =>
   intro i n hi hI
   by_cases hm:n<=most
   ·obtain⟨r,e,n',rfl,hI'⟩:=hin i (by omega) n hI hm
    rw[mG,e]
    simp only
    rw[eh (by omega) (by omega),show((i:Int)+1)=((i+1:Nat):Int) by omega]
    exact ih (i+1) n' (by omega) hI'
   ·rw[mG,hout i n (by omega) (.inr hm)]
    exact eg ⟨i,by omega,hI,.inr hm⟩
 exact key l.length 0 n (by omega) h0
theorem ET(a b:Nat)(hb:0<b)(ha:a<9223372036854775808):qu .i64 (a:Int) (b:Int)=some ((a / b:Nat):Int):=by
 unfold qu
 rw[vay (by omega)]
 have h:((a:Int).tdiv (b:Int))=((a / b:Nat):Int):=by
  rw[Int.tdiv_eq_ediv_of_nonneg (by omega)];rfl
 rw[h]
 have h2:=vbw a b
 generalize a / b=q at *
 congr 1
 exact eh (by omega) (by omega)
theorem DF(p:aj):gS (al p)=1+(p.Name.length+1+(1+(cm (p.Kids.map al)+1+0))):=by
 rw[cj];simp only[gS,pm,sl]
theorem s9{α:Type}(c:α->List PVal)(l:List α)(i:Nat)(h:i<l.length):cm ((l.take (i+1)).map c)=cm ((l.take i).map c)+gS (c l[i]):=by
 rw[va3 h,vbV]
 have:∀(a b:List (List PVal)),cm (a++b)=cm a+cm b:=by
  intro a
  induction a with
  |nil=>intro b;simp[cm]
  |cons x a ih=>intro b;rw[vaO,cm,ih,cm];omega
 rw[this]
 simp[cm]
theorem eT{α:Type}(c:α->List PVal)(l:List α)(i:Nat):cm ((l.take i).map c)<=cm (l.map c):=by
 have:∀(l:List α) (i:Nat),cm ((l.take i).map c)<=cm (l.map c):=by
  intro l
  induction l with
  |nil=>intro i;simp
  |cons x l ih=>
   intro i
   cases i with
   |zero=>simp[cm]
   |succ i=>have:=ih i;simp only[List.take_succ_cons,vaB,cm];omega
 exact this l i
theorem oH{α:Type}(c:α->List PVal)(h:∀x,1<=gS (c x)):∀(l:List α),l.length<=cm (l.map c)
 |[]=>by simp
 |x::l=>by have:=oH c h l;have:=h x;simp only[vaB,cm,vaW];omega
theorem QK(p:aj):1<=gS (al p):=by rw[DF];omega
theorem LH(l:List aj):nL (l.take l.length)=nL l:=by rw[vbo]
abbrev Dp:Nat:=4000000
structure Uh(l:List aj)(most r:Int):Prop where
 lo:0<=r
 hi:r<=(cm (l.map al):Int)
 sm:r<=most->(nL l:Int)<=r
theorem RX(l:List aj)(most:Int)(hl:cm (l.map al)<=Dp)(h1: -8000000<=most)(h2:most<=1000000000):wF (Eh l most) (Uh l most):=by
 refine H7 (F:=yW) (fun x=>cm (x.1.map al)) (fun x=>cm (x.1.map al)<=Dp/\-8000000<=x.2/\x.2<=1000000000) (fun x r=>Uh x.1 x.2 r) (fun R x hx ih=>?_) (l,most) ⟨hl,h1,h2⟩ (Ex (vav hl (by decide)))
 obtain⟨l,most⟩:=x
 obtain⟨hl,h1,h2⟩:=hx
 have hl:cm (l.map al)<=Dp:=hl
 have h1: -8000000<=most:=h1
 have h2:most<=1000000000:=h2
 have hlen:=oH al QK l
 show wF (ur (fun a most=>R (a,most)) l most) _
 unfold ur wP
 unfold Dp at hl
 refine fS (xG l (by omega) most (fun i n=>0<=n/\n<=(cm ((l.take i).map al):Int)/\(n<=most->(nL (l.take i):Int)<=n)) (fun i hi n hI hm=>?_) (fun i n _ h=>?_) 0 ⟨by omega,by omega,fun _=>by simp[nL]⟩) (fun r hr=>eg ?_)
 ·obtain⟨g1,g2,g3⟩:=hI
  have e:=s9 al l i hi
  have e2:=eT al l (i+1)
  have ep:=DF l[i]
  have en:=RM l i hi
  have enp:=LI l[i]
  show wF (jJ (fun a most=>R (a,most)) l most n i) _
  unfold jJ sD
  rw[Cc hi hm,db l i hi]
  simp only[vab,if_true]
  have hq:=vbw l[i].Name.length 50
  rw[show(50:Int)=((50:Nat):Int)from rfl,ET _ 50 (by omega) (by omega)]
  simp only[vab]
  rw[eh (n:=n+1) (by omega) (by omega),eh (n:=n+1+_) (by omega) (by omega),eh (n:=most - _) (by omega) (by omega)]
  refine fS (ih (l[i].Kids,most - (n+1+((l[i].Name.length / 50:Nat):Int))) (by show _<cm (l.map al);show cm (l[i].Kids.map al)<_;omega) ⟨by show cm (l[i].Kids.map al)<=Dp;unfold Dp;omega,by show -8000000<=most - _;omega,by show most - _<=1000000000;omega⟩) (fun r hr=>?_)
  have q1:=hr.lo
  have q2:r<=(cm (l[i].Kids.map al):Int):=hr.hi
  have q3:r<=most - (n+1+((l[i].Name.length / 50:Nat):Int))->(nL l[i].Kids:Int)<=r:=hr.sm
  rw[eh (n:=n+1+_+r) (by omega) (by omega)]
  refine eg ⟨_,rfl,by omega,by omega,fun hm'=>?_⟩
  have:=q3 (by omega)
  have:=g3 hm
  omega
 ·show jJ (fun a most=>R (a,most)) l most n i=_
  unfold jJ sD
  rw[wZ h]
  rfl
 ·obtain⟨i,hi,⟨g1,g2,g3⟩,h⟩:=hr
  have e2:=eT al l i
  refine⟨g1,by show r<=(cm (l.map al):Int);omega,fun hm=>?_⟩
  have hm:r<=most:=hm
  have:i=l.length:=by
   rcases h with h|h
   ·exact h
   ·exact absurd hm h
  subst this
  rw[LH]at g3
  exact g3 hm
theorem MS(l:List ah)(i:Nat)(h:i<l.length):lK (l.take (i+1))=lK (l.take i)+Ch l[i]:=by
 have ap:∀(a b:List ah),lK (a++b)=lK a+lK b:=by
  intro a
  induction a with
  |nil=>intro b;simp[lK]
  |cons x a ih=>intro b;rw[vaO,lK,ih,lK];omega
 rw[va3 h,ap]
 simp[lK]
theorem LW(t:ah):1<=gS (ai t):=by rw[zF];omega
theorem OS(t:ah):gS (ai t)=1+(t.Name.length+1)+(cm (t.Args.map ai)+1)+(cm (t.Names.map cS)+1)+gS (al t.Pred)+(cm (t.Preds.map al)+1):=by
 rw[zF,DF];simp only[pm,sl];omega
structure Ui(l:List ah)(most r:Int):Prop where
 lo:0<=r
 hi:r<=(cm (l.map ai):Int)
 sm:r<=most->(lK l:Int)<=r/\(Mk l:Int)<=r
theorem NX(l:List ah)(most:Int)(hl:cm (l.map ai)<=Dp)(h1: -8000000<=most)(h2:most<=1000000000):wF (Aj l most) (Ui l most):=by
 refine H7 (F:=yY) (fun x=>cm (x.1.map ai)) (fun x=>cm (x.1.map ai)<=Dp/\-8000000<=x.2/\x.2<=1000000000) (fun x r=>Ui x.1 x.2 r) (fun R x hx ih=>?_) (l,most) ⟨hl,h1,h2⟩ (Ex (vav hl (by decide)))
 obtain⟨l,most⟩:=x
 obtain⟨hl,h1,h2⟩:=hx
 have hl:cm (l.map ai)<=Dp:=hl
 have h1: -8000000<=most:=h1
 have h2:most<=1000000000:=h2
 have hlen:=oH ai LW l
 show wF (ut (fun a most=>R (a,most)) l most) _
 unfold ut wQ
 unfold Dp at hl
 refine fS (xG l (by omega) most (fun i n=>0<=n/\n<=(cm ((l.take i).map ai):Int)/\(n<=most->(lK (l.take i):Int)<=n/\(Mk (l.take i):Int)<=n)) (fun i hi n hI hm=>?_) (fun i n _ h=>?_) 0 ⟨by omega,by omega,fun _=>by simp[lK,Mk]⟩) (fun r hr=>eg ?_)
 ·obtain⟨g1,g2,g3⟩:=hI
  have e:=s9 ai l i hi
  have e2:=eT ai l (i+1)
  have ep:=OS l[i]
  have epp:=DF l[i].Pred
  have en:=MS l i hi
  have en2:=QX l i hi
  have enp:=Ar l[i]
  have enp2:=UR l[i]
  have hns:=Hm l[i].Names
  have hps:=So l[i].Preds
  have hpl:=Ky l[i].Preds
  show wF (jK (fun a most=>R (a,most)) l most n i) _
  unfold jK sF
  rw[Cc hi hm,db l i hi]
  simp only[vab,if_true]
  have hq:=vbw l[i].Name.length 50
  rw[show(50:Int)=((50:Nat):Int)from rfl,ET _ 50 (by omega) (by omega)]
  simp only[vab]
  rw[Mp (by simp;omega)]
  simp only[vab]
  refine fS (RX ([l[i].Pred]++l[i].Preds) most (by unfold Dp;simp only[List.singleton_append,vaB,cm];omega) h1 h2) (fun rp hp=>?_)
  have p1:=hp.lo
  have p2:rp<=((gS (al l[i].Pred)+cm (l[i].Preds.map al):Nat):Int):=by
   have:=hp.hi
   simp only[List.singleton_append,vaB,cm]at this
   exact this
  have p3:rp<=most->((nP l[i].Pred+nL l[i].Preds:Nat):Int)<=rp:=by
   have:=hp.sm
   simp only[List.singleton_append,nL]at this
   exact this
  rw[eh (n:=n+1) (by omega) (by omega),eh (n:=n+1+_) (by omega) (by omega),eh (n:=n+1+_+_) (by omega) (by omega),eh (n:=n+1+_+_+_) (by omega) (by omega),eh (n:=most - _) (by omega) (by omega)]
  refine fS (ih (l[i].Args,most - (n+1+((l[i].Name.length / 50:Nat):Int)+(l[i].Names.length:Int)+rp)) (by show _<cm (l.map ai);show cm (l[i].Args.map ai)<_;omega) ⟨by show cm (l[i].Args.map ai)<=Dp;unfold Dp;omega,by show -8000000<=most - _;omega,by show most - _<=1000000000;omega⟩) (fun r hr=>?_)
  have q1:=hr.lo
  have q2:r<=(cm (l[i].Args.map ai):Int):=hr.hi
  have q3:r<=most - (n+1+((l[i].Name.length / 50:Nat):Int)+(l[i].Names.length:Int)+rp)->(lK l[i].Args:Int)<=r/\(Mk l[i].Args:Int)<=r:=hr.sm
  rw[eh (n:=_+r) (by omega) (by omega)]
  refine eg ⟨_,rfl,by omega,by omega,fun hm'=>?_⟩
  have:=q3 (by omega)
  have:=p3 (by omega)
  have:=g3 hm
  have:=Qn l[i].Pred
  omega
 ·show jK (fun a most=>R (a,most)) l most n i=_
  unfold jK sF
  rw[wZ h]
  rfl
 ·obtain⟨i,hi,⟨g1,g2,g3⟩,h⟩:=hr
  have e2:=eT ai l i
  refine⟨g1,by show r<=(cm (l.map ai):Int);omega,fun hm=>?_⟩
  have hm:r<=most:=hm
  have:i=l.length:=by
   rcases h with h|h
   ·exact h
   ·exact absurd hm h
  subst this
  rw[vbo]at g3
  exact g3 hm
theorem rj(e:ag):gS (af e)=1+(e.Name.length+1+(1+(cm (e.Kids.map af)+1+(cm (e.Params.map av)+1+(cm (e.Alts.map ay)+1+(cm (e.Types.map ai)+1+0)))))):=by
 rw[bz];simp only[gS,pm,sl]
theorem GA(a:aF):gS (ay a)=a.Con.length+1+(cm (a.Names.map cS)+1+gS (af a.Body)):=by
 obtain⟨c,ns,b⟩:=a
 rw[ay]
 show gS (PVal.str c::sl cS ns::af b)=_
 simp only[gS,pm,sl];rfl
theorem EP(p:aw):gS (av p)=p.Name.length+1+gS (ai p.Type_):=by
 show gS (PVal.str p.Name::ai p.Type_)=_
 simp only[gS,pm]
theorem QG(e:ag):1<=gS (af e):=by rw[rj];omega
theorem RU(a:aF):1<=gS (ay a):=by rw[GA];omega
theorem JF(p:aw):1<=gS (av p):=by rw[EP];omega
theorem uK{α:Type}(c:α->List PVal){l:List α}{x:α}(h:x∈l):gS (c x)<=cm (l.map c):=HK (vai.2 ⟨x,h,rfl⟩)
theorem QH{e x:ag}(h:x∈e.Kids):gS (af x)<gS (af e):=by have:=uK af h;rw[rj e];omega
theorem S8{e:ag}{a:aF}(h:a∈e.Alts):gS (ay a)<gS (af e):=by have:=uK ay h;rw[rj e];omega
theorem LV{e:ag}{a:aF}(h:a∈e.Alts):gS (af a.Body)<gS (af e):=by have:=S8 h;have:=GA a;omega
theorem QJ{e:ag}{p:aw}(h:p∈e.Params):gS (av p)<gS (af e):=by have:=uK av h;rw[rj e];omega
theorem RW{e:ag}{t:ah}(h:t∈e.Types):gS (ai t)<gS (af e):=by have:=uK ai h;rw[rj e];omega
mutual
theorem Ql:∀(e:ag),nE e<=gS (af e)
 |⟨o,n,k,ks,ps,as1,ts⟩=>by
  have h1:=Qk ks
  have h2:=Qh as1
  have h3:=oH av JF ps
  have h4:=oH ai LW ts
  rw[nE,rj]
  show _<=1+(n.length+1+(1+(cm (ks.map af)+1+(cm (ps.map av)+1+(cm (as1.map ay)+1+(cm (ts.map ai)+1+0))))))
  omega
theorem Ux:∀(a:aF),nA a<=gS (ay a)
 |⟨c,ns,b⟩=>by
  have h1:=Ql b
  have h2:=Hm ns
  rw[nA,GA]
  show _<=c.length+1+(cm (ns.map cS)+1+gS (af b))
  omega
theorem Qk:∀(l:List ag),Qj l<=cm (l.map af)
 |[]=>by simp[Qj]
 |e::l=>by
  have:=Ql e
  have:=Qk l
  rw[Qj]
  simp only[vaB,cm]
  omega
theorem Qh:∀(l:List aF),Qg l<=cm (l.map ay)
 |[]=>by simp[Qg]
 |a::l=>by
  have:=Ux a
  have:=Qh l
  rw[Qg]
  simp only[vaB,cm]
  omega
end
theorem Qr{t:ah}(h:gS (ai t)<=tZ):OH t:=⟨vav (NC t) h,Nn tZ t h⟩
theorem RN(l:List ae)(most:Int)(hl:cm (l.map cS)<=Dp):wF (Ai l most) (fun r=>0<=r/\r<=(cm (l.map cS):Int)):=by
 unfold Ai wO
 unfold Dp at hl
 have hlen:=Hm l
 refine fS (xG l (by omega) most (fun i n=>0<=n/\n<=(cm ((l.take i).map cS):Int)) (fun i hi n hI hm=>?_) (fun i n _ h=>?_) 0 ⟨by omega,by omega⟩) (fun r hr=>eg ?_)
 ·obtain⟨g1,g2⟩:=hI
  have e:=s9 cS l i hi
  have e2:=eT cS l (i+1)
  have e3:gS (cS l[i])=l[i].length+1:=by simp only[cS,gS,pm]
  show wF (jI l most n i) _
  unfold jI sC
  rw[Cc hi hm,db l i hi]
  simp only[vab,if_true]
  have hq:=vbw l[i].length 50
  rw[show(50:Int)=((50:Nat):Int)from rfl,ET _ 50 (by omega) (by omega)]
  simp only[vab]
  rw[eh (n:=n+1) (by omega) (by omega),eh (n:=n+1+_) (by omega) (by omega)]
  exact eg ⟨_,rfl,by omega,by omega⟩
 ·show jI l most n i=_
  unfold jI sC
  rw[wZ h]
  rfl
 ·obtain⟨i,hi,⟨g1,g2⟩,h⟩:=hr
  have e2:=eT cS l i
  exact⟨g1,by omega⟩
theorem Uf(e:ag)(most:Int)(he:gS (af e)<=Dp)(h1: -4000000<=most)(h2:most<=1000000000):wF (GJ e most) (fun r=>0<=r/\r<=(gS (af e):Int)):=by
 refine H7 (F:=BW) (fun x=>gS (af x.1)) (fun x=>gS (af x.1)<=Dp/\-4000000<=x.2/\x.2<=1000000000) (fun x r=>0<=r/\r<=(gS (af x.1):Int)) (fun R x hx ih=>?_) (e,most) ⟨he,h1,h2⟩ (Ex (vav he (by decide)))
 obtain⟨e,most⟩:=x
 obtain⟨he,h1,h2⟩:=hx
 have he:gS (af e)<=Dp:=he
 have h1: -4000000<=most:=h1
 have h2:most<=1000000000:=h2
 have hpm:=rj e
 have l1:=oH av JF e.Params
 have l2:=oH af QG e.Kids
 have l3:=oH ay RU e.Alts
 show wF (wM (fun e most=>R (e,most)) e most) (fun r=>0<=r/\r<=(gS (af e):Int))
 unfold wM
 unfold Dp at he
 have hq:=vbw e.Name.length 50
 rw[show(50:Int)=((50:Nat):Int)from rfl,ET _ 50 (by omega) (by omega)]
 simp only[vab]
 refine fS (NX e.Types most (by unfold Dp;omega) (by omega) h2) (fun rt ht=>?_)
 have t1:=ht.lo
 have t2:=ht.hi
 rw[eh (n:=1+_) (by omega) (by omega),eh (n:=1+_+rt) (by omega) (by omega)]
 generalize hb:(1:Int)+((e.Name.length / 50:Nat):Int)+rt=b0
 have b1:0<=b0:=by omega
 have b2:b0<=((1+e.Name.length+cm (e.Types.map ai):Nat):Int):=by omega
 refine fS (R:=fun r=>0<=r/\r<=b0+(cm (e.Params.map av):Int)) ?_ (fun r1 hr1=>?_)
 ·unfold yG
  refine(xG e.Params (by omega) most (fun i n=>0<=n/\n<=b0+(cm ((e.Params.take i).map av):Int)) (fun i hi n hI hm=>?_) (fun i n _ h=>?_) b0 ⟨b1,by simp[cm]⟩).mono (fun r hr=>?_)
  ·obtain⟨g1,g2⟩:=hI
   have e1:=s9 av e.Params i hi
   have e2:=eT av e.Params (i+1)
   have e3:=EP e.Params[i]
   show wF (lp most e n i) _
   unfold lp um
   rw[Cc hi hm,db e.Params i hi]
   simp only[vab,if_true]
   have hq:=vbw e.Params[i].Name.length 50
   rw[show(50:Int)=((50:Nat):Int)from rfl,ET _ 50 (by omega) (by omega)]
   simp only[vab]
   refine fS (NX [e.Params[i].Type_] most (by unfold Dp;simp only[vaB,vb2,cm];omega) (by omega) h2) (fun rp hp=>?_)
   have p1:=hp.lo
   have p2:rp<=((gS (ai e.Params[i].Type_)+0:Nat):Int):=by
    have:=hp.hi
    simp only[vaB,vb2,cm]at this
    exact this
   rw[eh (n:=n+1) (by omega) (by omega),eh (n:=n+1+_) (by omega) (by omega),eh (n:=n+1+_+_) (by omega) (by omega)]
   exact eg ⟨_,rfl,by omega,by omega⟩
  ·show lp most e n i=_
   unfold lp um
   rw[wZ h]
   rfl
  ·obtain⟨i,hi,⟨g1,g2⟩,h⟩:=hr
   have e2:=eT av e.Params i
   exact⟨g1,by omega⟩
 obtain⟨c1,c2⟩:=hr1
 refine fS (R:=fun r=>0<=r/\r<=r1+(cm (e.Kids.map af):Int)) ?_ (fun r2 hr2=>?_)
 ·unfold yH
  refine(xG e.Kids (by omega) most (fun i n=>0<=n/\n<=r1+(cm ((e.Kids.take i).map af):Int)) (fun i hi n hI hm=>?_) (fun i n _ h=>?_) r1 ⟨c1,by simp[cm]⟩).mono (fun r hr=>?_)
  ·obtain⟨g1,g2⟩:=hI
   have e1:=s9 af e.Kids i hi
   have e2:=eT af e.Kids (i+1)
   have hk:=QH (vaG hi)
   show wF (lq (fun e most=>R (e,most)) most e n i) _
   unfold lq uo
   rw[Cc hi hm,db e.Kids i hi]
   simp only[vab,if_true]
   rw[eh (n:=most - n) (by omega) (by omega)]
   refine fS (ih (e.Kids[i],most - n) hk ⟨by show gS (af e.Kids[i])<=Dp;unfold Dp;omega,by show -4000000<=most - n;omega,by show most - n<=1000000000;omega⟩) (fun r hr=>?_)
   have q1:0<=r:=hr.1
   have q2:r<=(gS (af e.Kids[i]):Int):=hr.2
   rw[eh (n:=n+r) (by omega) (by omega)]
   exact eg ⟨_,rfl,by omega,by omega⟩
  ·show lq (fun e most=>R (e,most)) most e n i=_
   unfold lq uo
   rw[wZ h]
   rfl
  ·obtain⟨i,hi,⟨g1,g2⟩,h⟩:=hr
   have e2:=eT af e.Kids i
   exact⟨g1,by omega⟩
 obtain⟨d1,d2⟩:=hr2
 refine fS (R:=fun r=>0<=r/\r<=r2+(cm (e.Alts.map ay):Int)) ?_ (fun r3 hr3=>eg ⟨hr3.1,by have:=hr3.2;omega⟩)
 unfold yI
 refine(xG e.Alts (by omega) most (fun i n=>0<=n/\n<=r2+(cm ((e.Alts.take i).map ay):Int)) (fun i hi n hI hm=>?_) (fun i n _ h=>?_) r2 ⟨d1,by simp[cm]⟩).mono (fun r hr=>?_)
 ·obtain⟨g1,g2⟩:=hI
  have e1:=s9 ay e.Alts i hi
  have e2:=eT ay e.Alts (i+1)
  have e3:=GA e.Alts[i]
  have hk:=LV (vaG hi)
  show wF (lr (fun e most=>R (e,most)) most e n i) _
  unfold lr uq
  rw[Cc hi hm,db e.Alts i hi]
  simp only[vab,if_true]
  have hq:=vbw e.Alts[i].Con.length 50
  rw[show(50:Int)=((50:Nat):Int)from rfl,ET _ 50 (by omega) (by omega)]
  simp only[vab]
  refine fS (RN e.Alts[i].Names most (by unfold Dp;omega)) (fun rn hn=>?_)
  obtain⟨n1,n2⟩:=hn
  rw[eh (n:=n+1) (by omega) (by omega),eh (n:=n+1+_) (by omega) (by omega),eh (n:=n+1+_+_) (by omega) (by omega),eh (n:=most - _) (by omega) (by omega)]
  refine fS (ih (e.Alts[i].Body,most - (n+1+((e.Alts[i].Con.length / 50:Nat):Int)+rn)) hk ⟨by show gS (af e.Alts[i].Body)<=Dp;unfold Dp;omega,by show -4000000<=most - _;omega,by show most - _<=1000000000;omega⟩) (fun r hr=>?_)
  have q1:0<=r:=hr.1
  have q2:r<=(gS (af e.Alts[i].Body):Int):=hr.2
  rw[eh (n:=_+r) (by omega) (by omega)]
  exact eg ⟨_,rfl,by omega,by omega⟩
 ·show lr (fun e most=>R (e,most)) most e n i=_
  unfold lr uq
  rw[wZ h]
  rfl
 ·obtain⟨i,hi,⟨g1,g2⟩,h⟩:=hr
  have e2:=eT ay e.Alts i
  exact⟨g1,by omega⟩
theorem Nf{a b:aw}:a=b↔a.Name=b.Name/\a.Type_=b.Type_:=by
 obtain⟨n,t⟩:=a
 obtain⟨n',t'⟩:=b
 constructor
 ·rintro h;cases h;exact⟨rfl,rfl⟩
 ·rintro⟨h1,h2⟩;cases h1;cases h2;rfl
theorem QT{a b:aF}:a=b↔a.Con=b.Con/\a.Names=b.Names/\a.Body=b.Body:=by
 obtain⟨n,t,e⟩:=a
 obtain⟨n',t',e'⟩:=b
 constructor
 ·rintro h;cases h;exact⟨rfl,rfl,rfl⟩
 ·rintro⟨h1,h2,h3⟩;cases h1;cases h2;cases h3;rfl
theorem tb{a b:ag}:a=b↔a.Op=b.Op/\a.Name=b.Name/\a.N=b.N/\a.Kids=b.Kids/\a.Types=b.Types/\a.Params=b.Params/\a.Alts=b.Alts:=by
 obtain⟨o,n,k,ks,ps,as1,ts⟩:=a
 obtain⟨o',n',k',ks',ps',as1',ts'⟩:=b
 constructor
 ·rintro h;cases h;exact⟨rfl,rfl,rfl,rfl,rfl,rfl,rfl⟩
 ·rintro⟨h1,h2,h3,h4,h5,h6,h7⟩;cases h1;cases h2;cases h3;cases h4;cases h5;cases h6;cases h7;rfl
abbrev Mi(e:ag):Prop:=gS (af e)<=tZ
theorem Qq{e:ag}(h:Mi e):nE e<=tZ:=vav (Ql e) h
theorem NK{e x:ag}(h:Mi e)(hx:x∈e.Kids):Mi x:=vav (vbQ (QH hx)) h
theorem Jx{e:ag}{a:aF}(h:Mi e)(hx:a∈e.Alts):Mi a.Body:=vav (vbQ (LV hx)) h
theorem LK{e:ag}{t:ah}(h:Mi e)(hx:t∈e.Types):OH t:=Qr (vav (vbQ (RW hx)) h)
theorem Jy{e:ag}{p:aw}(h:Mi e)(hx:p∈e.Params):OH p.Type_:=Qr (by have:=QJ hx;have:=EP p;have:gS (af e)<=tZ:=h;omega)
theorem Qp{e:ag}{a:aF}(h:Mi e)(hx:a∈e.Alts):a.Names.length<=tZ:=vav (vbQ (N8 hx)) (Qq h)
theorem Nc{a b:List aw}(ha:a.length<=tZ)(h:∀x∈a,OH x.Type_)(h':∀x∈b,OH x.Type_):pd a b=some (decide (a=b)):=by
 unfold pd pf
 refine J7 ha _ (fun i h1 h2=>?_) ?_ rfl rfl
 ·show fu a b (i:Int)=_
  unfold fu pe
  rw[vax (by simpa using h1),db a i h1]
  simp only[vab]
  rw[db b i h2]
  simp only[vab]
  rw[JI _ _ (h _ (vaG h1)) (h' _ (vaG h2))]
  simp only[vab,UC]
  have he:=Nf (a:=a[i]) (b:=b[i])
  by_cases e1:a[i].Name=b[i].Name<;>by_cases e2:a[i].Type_=b[i].Type_<;>simp[he,e1,e2]
 ·show fu a b (a.length:Int)=_
  unfold fu
  rw[vay (by simp)]
theorem QO(a b:ag)(ha:Mi a)(hb:Mi b):yL a b=some (decide (a=b)):=by
 refine Ki (F:=B4) (fun x=>nE x.1) (fun x=>Mi x.1/\Mi x.2) (fun x=>decide (x.1=x.2)) (fun R x hx ih=>?_) (a,b) ⟨ha,hb⟩ (Ex (Qq ha))
 obtain⟨u,v⟩:=x
 obtain⟨hu,hv⟩:Mi u/\Mi v:=hx
 have l0:=Qq hu
 have l1:=Oz u
 have l2:=N9 u
 have l3:=LN u
 have l4:=Nh u
 show wN (fun a a2=>R (a,a2)) u v=some (decide (u=v))
 unfold wN yO yP
 rw[Nc (by omega) (fun x hx=>Jy hu hx) (fun x hx=>Jy hv hx),JH (R:=my) (a:=u.Types) (b:=v.Types) (by omega) (fun x hx y hy=>JI x y (LK hu hx) (LK hv hy))]
 simp only[vab,UC]
 by_cases h0:(u.Op !=v.Op||(!(u.Name==v.Name)||(u.N !=v.N||(!decide (u.Params=v.Params)||!decide (u.Types=v.Types)))))=true
 ·rw[vax h0]
  congr 1;symm
  rw[vaZ,tb]
  rintro⟨e1,e2,e3,e4,e5,e6,e7⟩
  simp[e1,e2,e3,e5,e6]at h0
 ·rw [vay h0]
  simp only[vaR,vcE,vaM,bne_iff_ne,ne_eq,Decidable.not_not,vcy,vaV,vaj]at h0
  obtain⟨e1,e2,e3,e6,e5⟩:=h0
  by_cases hk:u.Kids.length=v.Kids.length
  ·by_cases hal:u.Alts.length=v.Alts.length
   ·rw [vay (by simp [hk,hal])]
    unfold yR
    rw[zq hk (by unfold tZ at l0;omega) (fun zz=>jv (fun a a2=>R (a,a2)) u v zz) (.inl ()) (.inr ()) (fun i h1 h2=>?_) ?_]
    ·by_cases e4:u.Kids=v.Kids
     ·simp only[e4,decide_true,if_true,vab]
      unfold yS
      rw[zq hal (by unfold tZ at l0;omega) (fun zz=>jx (fun a a2=>R (a,a2)) u v zz) (.inl ()) (.inr ()) (fun i h1 h2=>?_) ?_]
      ·by_cases e7:u.Alts=v.Alts
       ·simp[e7,tb (a:=u) (b:=v),e1,e2,e3,e4,e5,e6]
       ·simp[e7,tb (a:=u) (b:=v)]
      ·show jx (fun a a2=>R (a,a2)) u v (u.Alts.length:Int)=_
       unfold jx
       rw[vay (by simp)]
      ·show jx (fun a a2=>R (a,a2)) u v (i:Int)=_
       unfold jx
       rw[vax (by simpa using h1),db _ i h1]
       simp only[vab]
       rw[db _ i h2]
       simp only[vab,vQ]
       unfold yQ
       rw[AB (Qp hu (vaG h1))]
       have hih:=ih (u.Alts[i].Body,v.Alts[i].Body) (Rb (vaG h1)) ⟨Jx hu (vaG h1),Jx hv (vaG h2)⟩
       simp only[vQ,vab,hih,UC]
       have he:=QT (a:=u.Alts[i]) (b:=v.Alts[i])
       by_cases f1:u.Alts[i].Con=v.Alts[i].Con<;>by_cases f2:u.Alts[i].Names=v.Alts[i].Names<;>by_cases f3:u.Alts[i].Body=v.Alts[i].Body<;>simp[he,f1,f2,f3]
     ·simp[e4,tb (a:=u) (b:=v)]
    ·show jv (fun a a2=>R (a,a2)) u v (u.Kids.length:Int)=_
     unfold jv
     rw[vay (by simp)]
    ·show jv (fun a a2=>R (a,a2)) u v (i:Int)=_
     unfold jv
     rw[vax (by simpa using h1),db _ i h1]
     simp only[vab]
     rw[db _ i h2]
     simp only[vab]
     rw[ih (u.Kids[i],v.Kids[i]) (RK (vaG h1)) ⟨NK hu (vaG h1),NK hv (vaG h2)⟩]
     simp only[vab]
     by_cases he:u.Kids[i]=v.Kids[i]<;>simp[he]
   ·have hx:((u.Alts.length:Int)!=(v.Alts.length:Int))=true:=by simp;omega
    rw[vax (by simp[hx])]
    congr 1;symm
    rw[vaZ,tb]
    rintro⟨_,_,_,_,_,_,e7⟩
    exact hal (by rw[e7])
  ·have hx:((u.Kids.length:Int)!=(v.Kids.length:Int))=true:=by simp;omega
   rw[vax (by simp[hx])]
   congr 1;symm
   rw[vaZ,tb]
   rintro⟨_,_,_,e4,_⟩
   exact hk (by rw[e4])
theorem Ng{A:Type}(n:Nat)(hn:n<9223372036854775808){body:Int->Option (Int⊕(A⊕Unit))}(P:Nat->Prop)(B:A->Prop)
  (hin:∀i:Nat,i<n->wF (body (i:Int)) (fun r=>r.elim (fun t=>t=ca ((i:Int)+1)/\P i) (fun y=>y.elim B (fun _=>False)))) (hend:body (n:Int)=some (.inr (.inr ()))):wF (loop body 0) (fun r=>r.elim B (fun _=>∀i,i<n->P i)):=by
 have key:∀k i,k+i=n->(∀j,j<i->P j)->wF (loop body (i:Int)) (fun r=>r.elim B (fun _=>∀i,i<n->P i)):=by
  intro k
  induction k with
  |zero=>
   intro i hi hP
   have:i=n:=by omega
   subst this
   rw[OE hend]
   exact eg hP
  | succ k ih =>
   intro i hi hP
   obtain⟨r,e,hr⟩:=hin i (by omega)
   rw[mG,e]
   cases r with
   | inl t =>
    obtain⟨rfl,hp⟩:=hr
    simp only
    rw[eh (by omega) (by omega),show((i:Int)+1)=((i+1:Nat):Int) by omega]
    exact ih (i+1) (by omega) fun j hj=>by
     by_cases he:j=i
     ·subst he;exact hp
     ·exact hP j (by omega)
   |inr y=>
    cases y with
    |inl a=>exact⟨_,rfl,hr⟩
    |inr u=>exact hr.elim
 exact key n 0 (by omega) fun j hj=>absurd hj (vaF _)
end Go.Proofs.YtkdahfeiedaahaaGreatDoor
