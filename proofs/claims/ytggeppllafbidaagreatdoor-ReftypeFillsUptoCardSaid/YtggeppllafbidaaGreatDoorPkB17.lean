/- PROVED: a part of the proof. Conditions: none. -/
import Derived.Test.YtggeppllafbidaaGreatDoorPkB16
noncomputable section
namespace Go.Proofs.YtggeppllafbidaaGreatDoor
open Go Go.Proofs.Tryz
set_option linter.unusedVariables false
set_option maxRecDepth 100000
abbrev qZ:=(ae->Option Bool)
abbrev wt(R:qZ):Prop:=∀(t:ae) (r:Bool),R t=some r->CC Pg GE 34 [.agg (af t)] (.bool r) []
noncomputable def LS:Code:=f34.body.getD .skip
def Jy:List Nat:=[]
section
variable(t:ae)(t12:waA)(t13:Int)(t14:Int)(m:Int)(m2:ai)(m3:Int)(m4:waA)
def DC:aq:=aP 38 [(1,.eptr (af t)),(4,.bptr 1 0),(12,sl ac t12),(13,.int .i64 t13),(14,.int .i64 t14)] [.dead,.cells [.int .i64 m,.str m2,.int .i64 m3,sl ac m4] []] [((12,0),28)]
def pB(o:Bool):aq:=aP 38 [(1,.eptr (af t)),(12,sl ac t12),(13,.int .i64 t13),(14,.int .i64 t14),(25,.bool o)] [.dead,.cells [.int .i64 m,.str m2,.int .i64 m3,sl ac m4] []] [((12,0),28)]
def tr:Option Bool:=
 (nd (⟨m,m2,m3,m4⟩:aa)).bind fun r4=>
 if(decide (r4>30))=true then
  some true
 else
  (zc (⟨m,m2,m3,m4⟩:aa)).bind fun r7=>
  some (decide (r7>4))
theorem B4{x:Bool}(h:tr m m2 m3 m4=some x):aC Pg GE 0 (cA LS 3574) (EX .normal (pB t t12 t13 t14 m m2 m3 m4 x)) (DC t t12 t13 t14 m m2 m3 m4):=by
 obtain⟨r4,br4,h⟩:=av h
 have p6:=fun{sc F} (r:PS sc F)=>sv (aD (⟨m,m2,m3,m4⟩:aa) [])<|bg (mH br4)<|r
 rcases aT h with⟨c5,h⟩|⟨c5,h⟩
 ·obtain rfl:=lf h
  exact ct Jy (p6<|sg 4 c5<|eF .normal (pB t t12 t13 t14 m m2 m3 m4 true))<|by kernel_rfl
 ·obtain⟨r7,br7,h⟩:=av h
  obtain rfl:=lf h
  exact ct Jy (p6<|sg 4 c5<|sv (aD (⟨m,m2,m3,m4⟩:aa) [])<|bg (EM br7)<|eF .normal (pB t t12 t13 t14 m m2 m3 m4 (decide (r7>4))))<|by kernel_rfl
end
section
variable(t:ae)(t12:waA)(t13:Int)(t14:Int)
def i7:aq:=aP 38 [(1,.eptr (af t)),(12,sl ac t12),(13,.int .i64 t13),(14,.int .i64 t14)] [.dead] [((12,0),28)]
def i8(o:Unit⊕(Unit)):Exit:=match o with
 |(.inl _)=>.ret
 |(.inr _)=>.exit 0
def fu(o:Unit⊕(Unit)):aq:=match o with
 |(.inl o)=>aP 38 [(2,.bool false)] [.dead] []
 |(.inr o)=>aP 38 [(1,.eptr (af t))] [.dead] []
def vo:Option (Int⊕(Unit⊕(Unit))):=
 if(decide (t14<t13))=true then
  (eh t12 t14).bind fun x3=>
  (tr x3.Op x3.Name x3.N x3.Kids).bind fun o8=>
  if o8=true then
   some (.inr (.inl ()))
  else
   some (.inl (cf (t14+1)))
 else
  some (.inr (.inr ()))
def tt:Option (Unit⊕(Unit)):=loop (fun(zz:Int)=>vo t12 t13 zz) t14
theorem AY{y:Int⊕(Unit⊕(Unit))}(h:vo t12 t13 t14=some y):aC Pg GE 0 (cA LS 55) (LQ (fun(zz:Int)=>i7 t t12 t13 zz) i8 (fu t) y) (i7 t t12 t13 t14):=by
 rcases aT h with⟨c2,h⟩|⟨c2,h⟩
 ·obtain⟨x3,bx3,h⟩:=av h
  obtain⟨o8,bo8,h⟩:=av h
  have p10:=fun{sc F} (r:PS sc F)=>sg 0 c2<|sv (aQ.ia (k:=.i64) bx3)<|sv (aB x3)<|sx dB<|sx (aW x3)<|mG 0<|cC (B4 t t12 t13 t14 x3.Op x3.Name x3.N x3.Kids bo8)<|r
  rcases aT h with⟨c9,h⟩|⟨c9,h⟩
  ·obtain rfl:=lf h
   have z:=p10<|sg 0 c9<|jw 0 (i8 (.inl ())) (fu t (.inl ())) rfl (bS (aI trivial trivial)) (aI trivial trivial)
   exact gg (A:=Jy) mixed (by intro hx;cases hx) z<|by kernel_rfl
  ·obtain rfl:=lf h
   have z:=p10<|sg 0 c9<|jw 0 .normal (i7 t t12 t13 (cf (t14+1))) rfl (bS (aI (eu (al t)) (aI (up (ak ag t12)) (aI trivial (aI trivial trivial))))) (aI trivial trivial)
   exact cd (A:=Jy) mixed z<|by kernel_rfl
 ·obtain rfl:=lf h
  have z:=sg 0 c2<|eF (i8 (.inr ())) (fu t (.inr ()))
  exact gZ Jy (by intro hx;cases hx) z<|by kernel_rfl
theorem nx{x:Unit⊕(Unit)}(h:tt t12 t13 t14=some x):aC Pg GE 0 (.loop (cA LS 55)) (EX (i8 x) (fu t x)) (i7 t t12 t13 t14):=
 aC.loop (S:=fun(zz:Int)=>i7 t t12 t13 zz) (ex:=i8) (s:=t14) h fun zz y hy=>AY t t12 t13 zz hy
end
section
variable(R136:qZ)(t28:waC)(t29:Int)(t30:Int)
def ja:aq:=aP 38 [(28,sl af t28),(29,.int .i64 t29),(30,.int .i64 t30)] [.dead] []
def jb(o:Unit⊕(Unit)):Exit:=match o with
 |(.inl _)=>.ret
 |(.inr _)=>.exit 2
def gW(o:Unit⊕(Unit)):aq:=match o with
 |(.inl o)=>aP 38 [(2,.bool false)] [.dead] []
 |(.inr o)=>aP 38 [] [.dead] []
def vp:Option (Int⊕(Unit⊕(Unit))):=
 if(decide (t30<t29))=true then
  (eh t28 t30).bind fun x13=>
  (R136 x13).bind fun r14=>
  if(!r14)=true then
   some (.inr (.inl ()))
  else
   some (.inl (cf (t30+1)))
 else
  some (.inr (.inr ()))
def tu:Option (Unit⊕(Unit)):=loop (fun(zz:Int)=>vp R136 t28 t29 zz) t30
theorem AZ(hR136:wt R136){y:Int⊕(Unit⊕(Unit))}(h:vp R136 t28 t29 t30=some y):aC Pg GE 0 (cA LS 119) (LQ (fun(zz:Int)=>ja t28 t29 zz) jb gW y) (ja t28 t29 t30):=by
 rcases aT h with⟨c12,h⟩|⟨c12,h⟩
 ·obtain⟨x13,bx13,h⟩:=av h
  obtain⟨r14,br14,h⟩:=av h
  have p16:=fun{sc F} (r:PS sc F)=>sg 0 c12<|sv (dF.ia (k:=.i64) bx13)<|sv (bA x13)<|sx io<|sx (cB x13)<|sv (bk x13 [])<|bg (hR136 _ _ br14)<|r
  rcases aT h with⟨c15,h⟩|⟨c15,h⟩
  ·obtain rfl:=lf h
   have z:=p16<|sg 0 c15<|jw 0 (jb (.inl ())) (gW (.inl ())) rfl (bS (aI trivial trivial)) (aI trivial trivial)
   exact gg (A:=Jy) mixed (by intro hx;cases hx) z<|by kernel_rfl
  ·obtain rfl:=lf h
   have z:=p16<|sg 0 c15<|jw 0 .normal (ja t28 t29 (cf (t30+1))) rfl (bS (aI (up (ak al t28)) (aI trivial (aI trivial trivial)))) (aI trivial trivial)
   exact cd (A:=Jy) mixed z<|by kernel_rfl
 ·obtain rfl:=lf h
  have z:=sg 0 c12<|eF (jb (.inr ())) (gW (.inr ()))
  exact gZ Jy (by intro hx;cases hx) z<|by kernel_rfl
theorem tv(hR136:wt R136){x:Unit⊕(Unit)}(h:tu R136 t28 t29 t30=some x):aC Pg GE 0 (.loop (cA LS 119)) (EX (jb x) (gW x)) (ja t28 t29 t30):=
 aC.loop (S:=fun(zz:Int)=>ja t28 t29 zz) (ex:=jb) (s:=t30) h fun zz y hy=>AZ R136 t28 t29 zz hR136 hy
end
def re(R136:qZ)(t:ae):Option Bool:=
 (app ([t.Pred]:List aa) t.Preds).bind fun l1=>
 (tt l1 (l1.length:Int) 0).bind fun o11=>match o11 with
 |(.inl o11)=>
  some false
 | (.inr o11) =>
  (tu R136 t.Args (t.Args.length:Int) 0).bind fun o17=>match o17 with
  |(.inl o17)=>
   some false
  |(.inr o17)=>
   some true
theorem EV(R136:qZ)(hR136:wt R136){t:ae}{r:Bool}(h:re R136 t=some r):CC Pg GE 34 [.agg (af t)] (.bool r) []:=by
 obtain⟨l1,bl1,h⟩:=av h
 obtain⟨o11,bo11,h⟩:=av h
 rcases o11 with o11|o11
 ·obtain rfl:=lf h
  have z:=se (bY t)<|sv (bw t)<|sv (bz t)<|sv (aQ.mk' (v:=b9) aV ([t.Pred]:List aa) 1 (by kernel_rfl))<|sv (bp t)<|sv (bu t)<|sv (aQ.ap bl1)<|cx (aQ.ln l1)<|cC (e:=.ret) (s1:=fu t (.inl o11)) (nx t l1 (l1.length:Int) 0 bo11)<|en (aI (rP (.bool false))<|trivial)
  exact cb Jy call34 func34 (c:=LS) rfl (aI (al t) trivial) z<|by kernel_rfl
 ·obtain⟨o17,bo17,h⟩:=av h
  rcases o17 with o17|o17
  ·obtain rfl:=lf h
   have z:=se (bY t)<|sv (bw t)<|sv (bz t)<|sv (aQ.mk' (v:=b9) aV ([t.Pred]:List aa) 1 (by kernel_rfl))<|sv (bp t)<|sv (bu t)<|sv (aQ.ap bl1)<|cx (aQ.ln l1)<|cC (e:=.exit 0) (s1:=fu t (.inr o11)) (nx t l1 (l1.length:Int) 0 bo11)<|sv (aL t)<|sv (aM t)<|cx (dF.ln t.Args)<|cC (e:=.ret) (s1:=gW (.inl o17)) (tv R136 t.Args (t.Args.length:Int) 0 hR136 bo17)<|en (aI (rP (.bool false))<|trivial)
   exact cb Jy call34 func34 (c:=LS) rfl (aI (al t) trivial) z<|by kernel_rfl
  ·obtain rfl:=lf h
   have z:=se (bY t)<|sv (bw t)<|sv (bz t)<|sv (aQ.mk' (v:=b9) aV ([t.Pred]:List aa) 1 (by kernel_rfl))<|sv (bp t)<|sv (bu t)<|sv (aQ.ap bl1)<|cx (aQ.ln l1)<|cC (e:=.exit 0) (s1:=fu t (.inr o11)) (nx t l1 (l1.length:Int) 0 bo11)<|sv (aL t)<|sv (aM t)<|cx (dF.ln t.Args)<|cC (e:=.exit 2) (s1:=gW (.inr o17)) (tv R136 t.Args (t.Args.length:Int) 0 hR136 bo17)<|en (aI (rP (.bool true))<|trivial)
   exact cb Jy call34 func34 (c:=LS) rfl (aI (al t) trivial) z<|by kernel_rfl
def wD:(ae->Option Bool)->(ae)->Option Bool:=fun(rec:ae->Option Bool) (x:ae)=>re (fun t=>rec t) x
def B3(t:ae):Option Bool:=kY wD t
theorem FO{t:ae}{r:Bool}(h:B3 t=some r):CC Pg GE 34 [.agg (af t)] (.bool r) []:=
 cw (F:=wD) (M:=fun(x:ae) (r:Bool)=>CC Pg GE 34 [.agg (af x)] (.bool r) []) (fun rec hrec x r h=>EV _ (fun t r h=>hrec t r h) h) h
abbrev dQ:=(ae->waE->waD->Option ae)
abbrev h9(R:dQ):Prop:=∀(t:ae) (holes:waE) (a:waD) (r:ae),R t holes a=some r->CC Pg GE 35 [.agg (af t),sl aN holes,sl aS a] (.agg (af r)) [(2,30)]
abbrev oF:=(aa->waE->waD->Option aa)
abbrev sT(R:oF):Prop:=∀(p:aa) (holes:waE) (a:waD) (r:aa),R p holes a=some r->CC Pg GE 71 [.agg (ac p),sl aN holes,sl aS a] (.agg (ac r)) [(3,28)]
noncomputable def FX:Code:=f109.body.getD .skip
def AI:List Nat:=[48]
section
variable(p:aa)(t42:(List xn))(t43:Int)(m:Int)(m2:ai)(m3:Int)(m4:waA)(m5:ai)(m6:Int)(m7:ai)(m8:Int)(m9:waA)(m10:ai)(params:waB)(t44:Int)
def fS:aq:=aP 64 [(3,.eptr (ac p)),(6,.bptr 1 0),(8,.bptr 2 0),(11,sl cS params),(42,sl eC t42),(43,.int .i64 t43),(44,.int .i64 t44)] [.dead,.cells [.int .i64 m,.str m2,.int .i64 m3,sl ac m4] [(3,28)],.cells [.str m5,.int .i64 m6,.str m7,.int .i64 m8,sl ac m9] [],.cells [.str m10,sl eC t42] []] [((11,0),9)]
def lq(o:waB):aq:=aP 64 [(3,.eptr (ac p)),(6,.bptr 1 0),(8,.bptr 2 0),(11,sl cS o)] [.dead,.cells [.int .i64 m,.str m2,.int .i64 m3,sl ac m4] [(3,28)],.cells [.str m5,.int .i64 m6,.str m7,.int .i64 m8,sl ac m9] [],.cells [.str m10,sl eC t42] []] [((11,0),9)]
def qo:Option ((waB×Int)⊕(waB)):=
 if(decide (t44<t43))=true then
  (eh t42 t44).bind fun x14=>
  (app params ([x14.Name]:List ai)).bind fun l15=>
  some (.inl (l15,cf (t44+1)))
 else
  some (.inr params)
def kp:Option waB:=loop (fun(zz:waB×Int)=>qo t42 t43 zz.1 zz.2) (params,t44)
theorem xd{y:(waB×Int)⊕(waB)}(h:qo t42 t43 params t44=some y):aC Pg GE 0 (cA FX 234340087) (LQ (fun(zz:waB×Int)=>fS p t42 t43 m m2 m3 m4 m5 m6 m7 m8 m9 m10 zz.1 zz.2) (fun _=>.exit 4) (lq p t42 m m2 m3 m4 m5 m6 m7 m8 m9 m10) y) (fS p t42 t43 m m2 m3 m4 m5 m6 m7 m8 m9 m10 params t44):=by
 rcases aT h with⟨c13,h⟩|⟨c13,h⟩
 ·obtain⟨x14,bx14,h⟩:=av h
  obtain⟨l15,bl15,h⟩:=av h
  obtain rfl:=lf h
  have z:=sg 0 c13<|sv (Ji.ia (k:=.i64) bx14)<|sv (Ib x14)<|sx L7<|sx (Gt x14)<|ss<|sv (cn.mk' (v:=PVal.str) FF ([x14.Name]:List ai) 1 (by kernel_rfl))<|sv (cn.ap bl15)<|jw 0 .normal (fS p t42 t43 m m2 m3 m4 m5 m6 m7 m8 m9 m10 l15 (cf (t44+1))) rfl (bS (aI (eu (ag p)) (aI (co rfl) (aI (co rfl) (aI (up (ak hZ l15)) (aI (up (ak mV t42)) (aI trivial (aI trivial trivial)))))))) (aI trivial (aI (aI trivial (aI trivial (aI trivial (aI (up (ak ag m4)) trivial)))) (aI (aI trivial (aI trivial (aI trivial (aI trivial (aI (up (ak ag m9)) trivial))))) (aI (aI trivial (aI (up (ak mV t42)) trivial)) trivial))))
  exact cd (A:=AI) mixed z<|by kernel_rfl
 ·obtain rfl:=lf h
  have z:=sg 0 c13<|eF (.exit 4) (lq p t42 m m2 m3 m4 m5 m6 m7 m8 m9 m10 params)
  exact gZ AI (by intro hx;cases hx) z<|by kernel_rfl
theorem yx{x:waB}(h:kp t42 t43 params t44=some x):aC Pg GE 0 (.loop (cA FX 234340087)) (EX (.exit 4) (lq p t42 m m2 m3 m4 m5 m6 m7 m8 m9 m10 x)) (fS p t42 t43 m m2 m3 m4 m5 m6 m7 m8 m9 m10 params t44):=
 aC.loop (S:=fun(zz:waB×Int)=>fS p t42 t43 m m2 m3 m4 m5 m6 m7 m8 m9 m10 zz.1 zz.2) (ex:=(fun _=>.exit 4)) (s:=(params,t44)) h fun zz y hy=>xd p t42 t43 m m2 m3 m4 m5 m6 m7 m8 m9 m10 zz.1 zz.2 hy
end
section
variable(p:aa)(t30:waE)(t31:Int)(m5:ai)(m6:Int)(m7:ai)(m8:Int)(m9:waA)(t32:Int)(m:Int)(m2:ai)(m3:Int)(m4:waA)
def fP:aq:=aP 64 [(3,.eptr (ac p)),(6,.bptr 1 0),(8,.bptr 2 0),(30,sl aN t30),(31,.int .i64 t31),(32,.int .i64 t32)] [.dead,.cells [.int .i64 m,.str m2,.int .i64 m3,sl ac m4] [(3,28)],.cells [.str m5,.int .i64 m6,.str m7,.int .i64 m8,sl ac m9] []] []
def fR(o:(Int×ai×Int×waA)⊕(Int×ai×Int×waA)):Exit:=match o with
 |(.inl _)=>.ret
 |(.inr _)=>.exit 2
def ez(o:(Int×ai×Int×waA)⊕(Int×ai×Int×waA)):aq:=match o with
 |(.inl o)=>aP 64 [(6,.bptr 1 0)] [.dead,.cells [.int .i64 o.1,.str o.2.1,.int .i64 o.2.2.1,sl ac o.2.2.2] [(3,28)],.cells [.str m5,.int .i64 m6,.str m7,.int .i64 m8,sl ac m9] []] []
 |(.inr o)=>aP 64 [(6,.bptr 1 0)] [.dead,.cells [.int .i64 o.1,.str o.2.1,.int .i64 o.2.2.1,sl ac o.2.2.2] [(3,28)],.cells [.str m5,.int .i64 m6,.str m7,.int .i64 m8,sl ac m9] []] []
def fQ:Option ((Int×Int×ai×Int×waA)⊕((Int×ai×Int×waA)⊕(Int×ai×Int×waA))):=
 if(decide (t32<t31))=true then
  (eh t30 t32).bind fun x10=>
  if(!(x10.Name==p.Name))=true then
   some (.inl (cf (t32+1),m,m2,m3,m4))
  else
   (kp x10.Params (x10.Params.length:Int) ([]:List ai) 0).bind fun o16=>
   (jk (⟨m6,m7,m8,m9⟩:aa) o16 p.Kids).bind fun r17=>
   some (.inr (.inl (r17.Op,r17.Name,r17.N,r17.Kids)))
 else
  some (.inr (.inr (m,m2,m3,m4)))
def ko:Option ((Int×ai×Int×waA)⊕(Int×ai×Int×waA)):=loop (fun(zz:Int×Int×ai×Int×waA)=>fQ p t30 t31 m6 m7 m8 m9 zz.1 zz.2.1 zz.2.2.1 zz.2.2.2.1 zz.2.2.2.2) (t32,m,m2,m3,m4)
theorem xc{y:(Int×Int×ai×Int×waA)⊕((Int×ai×Int×waA)⊕(Int×ai×Int×waA))}(h:fQ p t30 t31 m6 m7 m8 m9 t32 m m2 m3 m4=some y):aC Pg GE 0 (cA FX 114423) (LQ (fun(zz:Int×Int×ai×Int×waA)=>fP p t30 t31 m5 m6 m7 m8 m9 zz.1 zz.2.1 zz.2.2.1 zz.2.2.2.1 zz.2.2.2.2) fR (ez m5 m6 m7 m8 m9) y) (fP p t30 t31 m5 m6 m7 m8 m9 t32 m m2 m3 m4):=by
 rcases aT h with⟨c9,h⟩|⟨c9,h⟩
 ·obtain⟨x10,bx10,h⟩:=av h
  have p12:=fun{sc F} (r:PS sc F)=>sg 0 c9<|sv (Dg.ia (k:=.i64) bx10)<|sv (Cu x10)<|sx MP<|sx (zJ x10)<|ss<|sv (bo p)<|sv (bD p)<|r
  rcases aT h with⟨c11,h⟩|⟨c11,h⟩
  ·obtain rfl:=lf h
   have z:=p12<|sg 0 c11<|jw 0 .normal (fP p t30 t31 m5 m6 m7 m8 m9 (cf (t32+1)) m m2 m3 m4) rfl (bS (aI (eu (ag p)) (aI (co rfl) (aI (co rfl) (aI (up (ak bT t30)) (aI trivial (aI trivial trivial))))))) (aI trivial (aI (aI trivial (aI trivial (aI trivial (aI (up (ak ag m4)) trivial)))) (aI (aI trivial (aI trivial (aI trivial (aI trivial (aI (up (ak ag m9)) trivial))))) trivial)))
   exact cd (A:=AI) mixed z<|by kernel_rfl
  ·obtain⟨o16,bo16,h⟩:=av h
   obtain⟨r17,br17,h⟩:=av h
   obtain rfl:=lf h
   have z:=p12<|sg 0 c11<|ss<|cx (Ji.ln x10.Params)<|cC (yx p x10.Params (x10.Params.length:Int) m m2 m3 m4 m5 m6 m7 m8 m9 x10.Name ([]:List ai) 0 bo16)<|sv (aD (⟨m6,m7,m8,m9⟩:aa) [])<|sv (ay p)<|sv (az p)<|bg (lm br17)<|sy (ax r17)<|jw 0 (fR (.inl (r17.Op,r17.Name,r17.N,r17.Kids))) (ez m5 m6 m7 m8 m9 (.inl (r17.Op,r17.Name,r17.N,r17.Kids))) rfl (bS (aI (co rfl) trivial)) (aI trivial (aI (aI trivial (aI trivial (aI trivial (aI (up (ak ag r17.Kids)) trivial)))) (aI (aI trivial (aI trivial (aI trivial (aI trivial (aI (up (ak ag m9)) trivial))))) trivial)))
   exact gg (A:=AI) mixed (by intro hx;cases hx) z<|by kernel_rfl
 ·obtain rfl:=lf h
  have z:=sg 0 c9<|eF (fR (.inr (m,m2,m3,m4))) (ez m5 m6 m7 m8 m9 (.inr (m,m2,m3,m4)))
  exact gZ AI (by intro hx;cases hx) z<|by kernel_rfl
theorem oX{x:(Int×ai×Int×waA)⊕(Int×ai×Int×waA)}(h:ko p t30 t31 m6 m7 m8 m9 t32 m m2 m3 m4=some x):aC Pg GE 0 (.loop (cA FX 114423)) (EX (fR x) (ez m5 m6 m7 m8 m9 x)) (fP p t30 t31 m5 m6 m7 m8 m9 t32 m m2 m3 m4):=
 aC.loop (S:=fun(zz:Int×Int×ai×Int×waA)=>fP p t30 t31 m5 m6 m7 m8 m9 zz.1 zz.2.1 zz.2.2.1 zz.2.2.2.1 zz.2.2.2.2) (ex:=fR) (s:=(t32,m,m2,m3,m4)) h fun zz y hy=>xc p t30 t31 m5 m6 m7 m8 m9 zz.1 zz.2.1 zz.2.2.1 zz.2.2.2.1 zz.2.2.2.2 hy
end
section
variable(holes:waE)(p:aa)(t14:waD)(t15:Int)(t16:Int)(m:Int)(m2:ai)(m3:Int)(m4:waA)
def fN:aq:=aP 64 [(1,sl aN holes),(3,.eptr (ac p)),(6,.bptr 1 0),(14,sl aS t14),(15,.int .i64 t15),(16,.int .i64 t16)] [.dead,.cells [.int .i64 m,.str m2,.int .i64 m3,sl ac m4] [(3,28)]] []
def dJ(o:(Int×ai×Int×waA)⊕(Int×ai×Int×waA)):Exit:=match o with
 |(.inl _)=>.ret
 |(.inr _)=>.exit 0
def cZ(o:(Int×ai×Int×waA)⊕(Int×ai×Int×waA)):aq:=match o with
 |(.inl o)=>aP 64 [(6,.bptr 1 0)] [.dead,.cells [.int .i64 o.1,.str o.2.1,.int .i64 o.2.2.1,sl ac o.2.2.2] [(3,28)]] []
 |(.inr o)=>aP 64 [(6,.bptr 1 0)] [.dead,.cells [.int .i64 o.1,.str o.2.1,.int .i64 o.2.2.1,sl ac o.2.2.2] [(3,28)]] []
def fO:Option ((Int×Int×ai×Int×waA)⊕((Int×ai×Int×waA)⊕(Int×ai×Int×waA))):=
 if (decide (t16 < t15)) = true then
  (eh t14 t16).bind fun x2=>
  if(!(x2.Name==p.Name))=true then
   some (.inl (cf (t16+1),m,m2,m3,m4))
  else
   (jV x2.Pred (⟨0,([]:ai),0,([]:List aa)⟩:aa)).bind fun r5=>
   if r5=true then
    (dO true).bind fun r8=>
    some (.inr (.inl (r8.Op,r8.Name,r8.N,r8.Kids)))
   else
    (ko p holes (holes.length:Int) x2.Pred.Op x2.Pred.Name x2.Pred.N x2.Pred.Kids 0 m m2 m3 m4).bind fun o18=>match o18 with
    |(.inl o18)=>
     some (.inr (.inl (o18.1,o18.2.1,o18.2.2.1,o18.2.2.2)))
    |(.inr o18)=>
     (dO true).bind fun r19=>
     some (.inr (.inl (r19.Op,r19.Name,r19.N,r19.Kids)))
 else
  some (.inr (.inr (m,m2,m3,m4)))
def nN:Option ((Int×ai×Int×waA)⊕(Int×ai×Int×waA)):=loop (fun(zz:Int×Int×ai×Int×waA)=>fO holes p t14 t15 zz.1 zz.2.1 zz.2.2.1 zz.2.2.2.1 zz.2.2.2.2) (t16,m,m2,m3,m4)
theorem xa{y:(Int×Int×ai×Int×waA)⊕((Int×ai×Int×waA)⊕(Int×ai×Int×waA))}(h:fO holes p t14 t15 t16 m m2 m3 m4=some y):aC Pg GE 0 (cA FX 55) (LQ (fun(zz:Int×Int×ai×Int×waA)=>fN holes p t14 t15 zz.1 zz.2.1 zz.2.2.1 zz.2.2.2.1 zz.2.2.2.2) dJ cZ y) (fN holes p t14 t15 t16 m m2 m3 m4):=by
 rcases aT h with⟨c1,h⟩|⟨c1,h⟩
 ·obtain⟨x2,bx2,h⟩:=av h
  have p4:=fun{sc F} (r:PS sc F)=>sg 0 c1<|sv (D0.ia (k:=.i64) bx2)<|sv (Fg x2)<|sx MQ<|sx (CI x2)<|ss<|sv (bo p)<|sv (bD p)<|r
  rcases aT h with⟨c3,h⟩|⟨c3,h⟩
  ·obtain rfl:=lf h
   have z:=p4<|sg 0 c3<|jw 0 .normal (fN holes p t14 t15 (cf (t16+1)) m m2 m3 m4) rfl (bS (aI (up (ak bT holes)) (aI (eu (ag p)) (aI (co rfl) (aI (up (ak cj t14)) (aI trivial (aI trivial trivial))))))) (aI trivial (aI (aI trivial (aI trivial (aI trivial (aI (up (ak ag m4)) trivial)))) trivial))
   exact cd (A:=AI) mixed z<|by kernel_rfl
  ·obtain⟨r5,br5,h⟩:=av h
   have p7:=fun{sc F} (r:PS sc F)=>p4<|sg 0 c3<|sv (aD x2.Pred [])<|sb (nA) (ny)<|bg (kn br5)<|r
   rcases aT h with⟨c6,h⟩|⟨c6,h⟩
   ·obtain⟨r8,br8,h⟩:=av h
    obtain rfl:=lf h
    have z:=p7<|sg 0 c6<|bg (cY br8)<|sy (ax r8)<|jw 0 (dJ (.inl (r8.Op,r8.Name,r8.N,r8.Kids))) (cZ (.inl (r8.Op,r8.Name,r8.N,r8.Kids))) rfl (bS (aI (co rfl) trivial)) (aI trivial (aI (aI trivial (aI trivial (aI trivial (aI (up (ak ag r8.Kids)) trivial)))) trivial))
    exact gg (A:=AI) mixed (by intro hx;cases hx) z<|by kernel_rfl
   ·obtain⟨o18,bo18,h⟩:=av h
    rcases o18 with o18|o18
    ·obtain rfl:=lf h
     have z:=p7<|sg 0 c6<|cx (Dg.ln holes)<|cC (e:=.ret) (s1:=ez x2.Name x2.Pred.Op x2.Pred.Name x2.Pred.N x2.Pred.Kids (.inl o18)) (oX p holes (holes.length:Int) x2.Name x2.Pred.Op x2.Pred.Name x2.Pred.N x2.Pred.Kids 0 m m2 m3 m4 bo18)<|jw 0 (dJ (.inl (o18.1,o18.2.1,o18.2.2.1,o18.2.2.2))) (cZ (.inl (o18.1,o18.2.1,o18.2.2.1,o18.2.2.2))) rfl (bS (aI (co rfl) trivial)) (aI trivial (aI (aI trivial (aI trivial (aI trivial (aI (up (ak ag o18.2.2.2)) trivial)))) trivial))
     exact gg (A:=AI) mixed (by intro hx;cases hx) z<|by kernel_rfl
    ·obtain⟨r19,br19,h⟩:=av h
     obtain rfl:=lf h
     have z:=p7<|sg 0 c6<|cx (Dg.ln holes)<|cC (e:=.exit 2) (s1:=ez x2.Name x2.Pred.Op x2.Pred.Name x2.Pred.N x2.Pred.Kids (.inr o18)) (oX p holes (holes.length:Int) x2.Name x2.Pred.Op x2.Pred.Name x2.Pred.N x2.Pred.Kids 0 m m2 m3 m4 bo18)<|bg (cY br19)<|sy (ax r19)<|jw 0 (dJ (.inl (r19.Op,r19.Name,r19.N,r19.Kids))) (cZ (.inl (r19.Op,r19.Name,r19.N,r19.Kids))) rfl (bS (aI (co rfl) trivial)) (aI trivial (aI (aI trivial (aI trivial (aI trivial (aI (up (ak ag r19.Kids)) trivial)))) trivial))
     exact gg (A:=AI) mixed (by intro hx;cases hx) z<|by kernel_rfl
 ·obtain rfl:=lf h
  have z:=sg 0 c1<|eF (dJ (.inr (m,m2,m3,m4))) (cZ (.inr (m,m2,m3,m4)))
  exact gZ AI (by intro hx;cases hx) z<|by kernel_rfl
theorem oW{x:(Int×ai×Int×waA)⊕(Int×ai×Int×waA)}(h:nN holes p t14 t15 t16 m m2 m3 m4=some x):aC Pg GE 0 (.loop (cA FX 55)) (EX (dJ x) (cZ x)) (fN holes p t14 t15 t16 m m2 m3 m4):=
 aC.loop (S:=fun(zz:Int×Int×ai×Int×waA)=>fN holes p t14 t15 zz.1 zz.2.1 zz.2.2.1 zz.2.2.2.1 zz.2.2.2.2) (ex:=dJ) (s:=(t16,m,m2,m3,m4)) h fun zz y hy=>xa holes p t14 t15 zz.1 zz.2.1 zz.2.2.1 zz.2.2.2.1 zz.2.2.2.2 hy
end
def oV(p:aa)(holes:waE)(a:waD):Option aa:=
 (nN holes p a (a.length:Int) 0 0 ([]:ai) 0 ([]:List aa)).bind fun o20=>match o20 with
 |(.inl o20)=>
  some (⟨o20.1,o20.2.1,o20.2.2.1,o20.2.2.2⟩:aa)
 |(.inr o20)=>
  (dO true).bind fun r21=>
  some r21
theorem CV{p:aa}{holes:waE}{a:waD}{r:aa}(h:oV p holes a=some r):CC Pg GE 109 [.agg (ac p),sl aN holes,sl aS a] (.agg (ac r)) [(3,28)]:=by
 obtain⟨o20,bo20,h⟩:=av h
 rcases o20 with o20|o20
 ·obtain rfl:=lf h
  have z:=se (bj p)<|sx dB<|cx (D0.ln a)<|cC (e:=.ret) (s1:=cZ (.inl o20)) (oW holes p a (a.length:Int) 0 0 ([]:ai) 0 ([]:List aa) bo20)<|en (aI (bR (⟨o20.1,o20.2.1,o20.2.2.1,o20.2.2.2⟩:aa))<|aI (ag (⟨o20.1,o20.2.1,o20.2.2.1,o20.2.2.2⟩:aa))<|rT)
  exact cb AI call109 func109 (c:=FX) rfl (aI (ag p) (aI (ak bT holes) (aI (ak cj a) trivial))) z<|by kernel_rfl
 ·obtain⟨r21,br21,h⟩:=av h
  obtain rfl:=lf h
  have z:=se (bj p)<|sx dB<|cx (D0.ln a)<|cC (e:=.exit 0) (s1:=cZ (.inr o20)) (oW holes p a (a.length:Int) 0 0 ([]:ai) 0 ([]:List aa) bo20)<|bg (cY br21)<|sy (ax r21)<|en (aI (bR r21)<|aI (ag r21)<|rT)
  exact cb AI call109 func109 (c:=FX) rfl (aI (ag p) (aI (ak bT holes) (aI (ak cj a) trivial))) z<|by kernel_rfl
noncomputable def Oq:Code:=f71.body.getD .skip
def Oi:List Nat:=[25]
section
variable(R139:oF)(holes:waE)(v:waD)(p:aa)(t18:waA)(t19:Int)(m:waA)(m2:Int)(m3:ai)(m4:Int)(t20:Int)(m5:waA)
def im:aq:=aP 42 [(1,sl aN holes),(2,sl aS v),(3,.eptr (ac p)),(6,.bptr 1 0),(7,.bptr 2 0),(18,sl ac t18),(19,.int .i64 t19),(20,.int .i64 t20)] [.dead,.cells [.int .i64 0,.str ([]:ai),.int .i64 0,sl ac m] [(3,28)],.cells [.int .i64 m2,.str m3,.int .i64 m4,sl ac m5] [(3,28)]] []
def nI(o:waA):aq:=aP 42 [(1,sl aN holes),(2,sl aS v),(3,.eptr (ac p)),(6,.bptr 1 0),(7,.bptr 2 0)] [.dead,.cells [.int .i64 0,.str ([]:ai),.int .i64 0,sl ac m] [(3,28)],.cells [.int .i64 m2,.str m3,.int .i64 m4,sl ac o] [(3,28)]] []
def tQ:Option ((Int×waA)⊕(waA)):=
 if(decide (t20<t19))=true then
  (eh t18 t20).bind fun x2=>
  (R139 x2 holes v).bind fun r3=>
  (app m5 ([r3]:List aa)).bind fun l4=>
  some (.inl (cf (t20+1),l4))
 else
  some (.inr m5)
def rD:Option waA:=loop (fun(zz:Int×waA)=>tQ R139 holes v t18 t19 zz.1 zz.2) (t20,m5)
theorem zP(hR139:sT R139){y:(Int×waA)⊕(waA)}(h:tQ R139 holes v t18 t19 t20 m5=some y):aC Pg GE 0 (cA Oq 119) (LQ (fun(zz:Int×waA)=>im holes v p t18 t19 m m2 m3 m4 zz.1 zz.2) (fun _=>.exit 0) (nI holes v p m m2 m3 m4) y) (im holes v p t18 t19 m m2 m3 m4 t20 m5):=by
 rcases aT h with⟨c1,h⟩|⟨c1,h⟩
 ·obtain⟨x2,bx2,h⟩:=av h
  obtain⟨r3,br3,h⟩:=av h
  obtain⟨l4,bl4,h⟩:=av h
  obtain rfl:=lf h
  have z:=sg 0 c1<|sv (aQ.ia (k:=.i64) bx2)<|sv (aB x2)<|sx dB<|sx (aW x2)<|ue [0,1,0,0,0,28,60,127,255,511]<|sv (aD x2 [])<|bg (hR139 _ _ _ _ br3)<|sv (aQ.mk' (v:=b9) aV ([r3]:List aa) 1 (by kernel_rfl))<|sv (aQ.ap bl4)<|KS (rfl:bZ (sl ac l4)=some [sl ac l4])<|jw 0 .normal (im holes v p t18 t19 m m2 m3 m4 (cf (t20+1)) l4) rfl (bS (aI (up (ak bT holes)) (aI (up (ak cj v)) (aI (eu (ag p)) (aI (co rfl) (aI (co rfl) (aI (up (ak ag t18)) (aI trivial (aI trivial trivial))))))))) (aI trivial (aI (aI trivial (aI trivial (aI trivial (aI (up (ak ag m)) trivial)))) (aI (aI trivial (aI trivial (aI trivial (aI (up (ak ag l4)) trivial)))) trivial)))
  exact cd (A:=Oi) mixed z<|by kernel_rfl
 ·obtain rfl:=lf h
  have z:=sg 0 c1<|eF (.exit 0) (nI holes v p m m2 m3 m4 m5)
  exact gZ Oi (by intro hx;cases hx) z<|by kernel_rfl
theorem Bh(hR139:sT R139){x:waA}(h:rD R139 holes v t18 t19 t20 m5=some x):aC Pg GE 0 (.loop (cA Oq 119)) (EX (.exit 0) (nI holes v p m m2 m3 m4 x)) (im holes v p t18 t19 m m2 m3 m4 t20 m5):=
 aC.loop (S:=fun(zz:Int×waA)=>im holes v p t18 t19 m m2 m3 m4 zz.1 zz.2) (ex:=(fun _=>.exit 0)) (s:=(t20,m5)) h fun zz y hy=>zP R139 holes v p t18 t19 m m2 m3 m4 zz.1 zz.2 hR139 hy
end
def oT(R139:oF)(p:aa)(holes:waE)(a:waD):Option aa:=
 (rD R139 holes a p.Kids (p.Kids.length:Int) 0 ([]:List aa)).bind fun o5=>
 if(p.Op==5)=true then
  (oV (⟨p.Op,p.Name,p.N,o5⟩:aa) holes a).bind fun r8=>
  some r8
 else
  some (⟨p.Op,p.Name,p.N,o5⟩:aa)
theorem DT(R139:oF)(hR139:sT R139){p:aa}{holes:waE}{a:waD}{r:aa}(h:oT R139 p holes a=some r):CC Pg GE 71 [.agg (ac p),sl aN holes,sl aS a] (.agg (ac r)) [(3,28)]:=by
 obtain⟨o5,bo5,h⟩:=av h
 have p7:=fun{sc F} (r:PS sc F)=>se (bj p)<|sx dB<|sv (aE p)<|sv (aF p)<|sv (bo p)<|sv (bD p)<|sv (bU p)<|sv (ce p)<|sb (kf p.Op p.Name p.N) (ke p.Op p.Name p.N)<|sx dB<|sy (ax (⟨p.Op,p.Name,p.N,([]:List aa)⟩:aa))<|sv (ay p)<|sv (az p)<|cx (aQ.ln p.Kids)<|cC (Bh R139 holes a p p.Kids (p.Kids.length:Int) ([]:List aa) p.Op p.Name p.N 0 ([]:List aa) hR139 bo5)<|sv (aE p)<|sv (aF p)<|r
 rcases aT h with⟨c6,h⟩|⟨c6,h⟩
 ·obtain⟨r8,br8,h⟩:=av h
  obtain rfl:=lf h
  have z:=p7<|sg 0 c6<|sv (aD (⟨p.Op,p.Name,p.N,o5⟩:aa) [])<|bg (CV br8)<|sy (ax r8)<|en (aI (bR r8)<|aI (ag r8)<|rT)
  exact cb Oi call71 func71 (c:=Oq) rfl (aI (ag p) (aI (ak bT holes) (aI (ak cj a) trivial))) z<|by kernel_rfl
 ·obtain rfl:=lf h
  have z:=p7<|sg 0 c6<|sz (aD (⟨p.Op,p.Name,p.N,o5⟩:aa) [])<|sy (ax (⟨p.Op,p.Name,p.N,o5⟩:aa))<|en (aI (bR (⟨p.Op,p.Name,p.N,o5⟩:aa))<|aI (ag (⟨p.Op,p.Name,p.N,o5⟩:aa))<|rT)
  exact cb Oi call71 func71 (c:=Oq) rfl (aI (ag p) (aI (ak bT holes) (aI (ak cj a) trivial))) z<|by kernel_rfl
def tP:((aa×waE×waD)->Option aa)->(aa×waE×waD)->Option aa:=fun(rec:(aa×waE×waD)->Option aa) (x:aa×waE×waD)=>oT (fun p holes a=>rec (p,holes,a)) x.1 x.2.1 x.2.2
def zO(p:aa)(holes:waE)(a:waD):Option aa:=kY tP (p,holes,a)
theorem Fs{p:aa}{holes:waE}{a:waD}{r:aa}(h:zO p holes a=some r):CC Pg GE 71 [.agg (ac p),sl aN holes,sl aS a] (.agg (ac r)) [(3,28)]:=
 cw (F:=tP) (M:=fun(x:aa×waE×waD) (r:aa)=>CC Pg GE 71 [.agg (ac x.1),sl aN x.2.1,sl aS x.2.2] (.agg (ac r)) [(3,28)]) (fun rec hrec x r h=>DT _ (fun p holes a r h=>hrec (p,holes,a) r h) h) h
noncomputable def QC:Code:=f70.body.getD .skip
def Ql:List Nat:=[]
def fU(p:aa)(a:waE)(a2:waD):Option aa:=
 (zO p a a2).bind fun r1=>
 some r1
theorem oY{p:aa}{a:waE}{a2:waD}{r:aa}(h:fU p a a2=some r):CC Pg GE 70 [.agg (ac p),.eptr ((cL aN) a),.eptr ((cL aS) a2)] (.agg (ac r)) [(3,28)]:=by
 obtain⟨r1,br1,h⟩:=av h
 obtain rfl:=lf h
 have z:=se (bj p)<|sx dB<|sv (aB p)<|sv (gh Ob (sl aN a) [])<|sv (gh Oc (sl aS a2) [])<|bg (Fs br1)<|sy (ax r1)<|en (aI (bR r1)<|aI (ag r1)<|rT)
 exact cb Ql call70 func70 (c:=QC) rfl (aI (ag p) (aI (A1 bT a) (aI (A1 cj a2) trivial))) z<|by kernel_rfl
section
variable(v:waE)(v2:waD)(t8:waA)(t9:Int)(out:waA)(t10:Int)
def dD:aq:=aP 22 [(1,.func (.func 70) [] [.eptr ((cL aN) v),.eptr ((cL aS) v2)]),(5,sl ac out),(8,sl ac t8),(9,.int .i64 t9),(10,.int .i64 t10)] [] [((5,0),28)]
def g7(o:waA):aq:=aP 22 [(5,sl ac o)] [] [((5,0),28)]
def kR:Option ((waA×Int)⊕(waA)):=
 if(decide (t10<t9))=true then
  (eh t8 t10).bind fun x2=>
  (fU x2 v v2).bind fun r3=>
  (app out ([r3]:List aa)).bind fun l4=>
  some (.inl (l4,cf (t10+1)))
 else
  some (.inr out)
def iH:Option waA:=loop (fun(zz:waA×Int)=>kR v v2 t8 t9 zz.1 zz.2) (out,t10)
theorem qv{y:(waA×Int)⊕(waA)}(h:kR v v2 t8 t9 out t10=some y):aC Pg GE 0 (cA Nb 119) (LQ (fun(zz:waA×Int)=>dD v v2 t8 t9 zz.1 zz.2) (fun _=>.exit 0) g7 y) (dD v v2 t8 t9 out t10):=by
 rcases aT h with⟨c1,h⟩|⟨c1,h⟩
 ·obtain⟨x2,bx2,h⟩:=av h
  obtain⟨r3,br3,h⟩:=av h
  obtain⟨l4,bl4,h⟩:=av h
  obtain rfl:=lf h
  have z:=sg 0 c1<|sv (aQ.ia (k:=.i64) bx2)<|sv (aB x2)<|sx dB<|sx (aW x2)<|sv (aD x2 [])<|bg (oY br3)<|sv (aQ.mk' (v:=b9) aV ([r3]:List aa) 1 (by kernel_rfl))<|sv (aQ.ap bl4)<|jw 0 .normal (dD v v2 t8 t9 l4 (cf (t10+1))) rfl (bS (aI (aI trivial (aI (eu (A1 bT v)) (aI (eu (A1 cj v2)) trivial))) (aI (up (ak ag l4)) (aI (up (ak ag t8)) (aI trivial (aI trivial trivial)))))) trivial
  exact cd (A:=M7) mixed z<|by kernel_rfl
 ·obtain rfl:=lf h
  have z:=sg 0 c1<|eF (.exit 0) (g7 out)
  exact gZ M7 (by intro hx;cases hx) z<|by kernel_rfl
theorem rM{x:waA}(h:iH v v2 t8 t9 out t10=some x):aC Pg GE 0 (.loop (cA Nb 119)) (EX (.exit 0) (g7 x)) (dD v v2 t8 t9 out t10):=
 aC.loop (S:=fun(zz:waA×Int)=>dD v v2 t8 t9 zz.1 zz.2) (ex:=(fun _=>.exit 0)) (s:=(out,t10)) h fun zz y hy=>qv v v2 t8 t9 zz.1 zz.2 hy
end
def lu(a:waA)(c:waE)(c2:waD):Option waA:=
 (iH c c2 a (a.length:Int) ([]:List aa) 0).bind fun o5=>
 some o5
theorem u4{a:waA}{c:waE}{c2:waD}{r:waA}(h:lu a c c2=some r):CC Pg GE 73 [sl ac a,.func (.func 70) [] [.eptr ((cL aN) c),.eptr ((cL aS) c2)]] (sl ac r) [(0,28)]:=by
 obtain⟨o5,bo5,h⟩:=av h
 obtain rfl:=lf h
 have z:=cx (aQ.ln a)<|cC (rM c c2 a (a.length:Int) ([]:List aa) 0 bo5)<|en (aI (rP (sl ac o5))<|(ak ag o5))
 exact cb M7 call73 func73 (c:=Nb) rfl (aI (ak ag a) (aI (aI trivial (aI (A1 bT c) (aI (A1 cj c2) trivial))) trivial)) z<|by kernel_rfl
noncomputable def QD:Code:=f75.body.getD .skip
def Qm:List Nat:=[]
def kv(R137:dQ)(a:ae)(a2:waE)(a3:waD):Option ae:=
 (R137 a a2 a3).bind fun r1=>
 some r1
theorem yN(R137:dQ)(hR137:h9 R137){a:ae}{a2:waE}{a3:waD}{r:ae}(h:kv R137 a a2 a3=some r):CC Pg GE 75 [.agg (af a),.eptr ((cL aN) a2),.eptr ((cL aS) a3)] (.agg (af r)) [(2,30)]:=by
 obtain⟨r1,br1,h⟩:=av h
 obtain rfl:=lf h
 have z:=se (bY a)<|sx io<|sv (bA a)<|sv (gh Ob (sl aN a2) [])<|sv (gh Oc (sl aS a3) [])<|bg (hR137 _ _ _ _ br1)<|sy (aO r1)<|en (aI (cG r1)<|aI (al r1)<|rT)
 exact cb Qm call75 func75 (c:=QD) rfl (aI (al a) (aI (A1 bT a2) (aI (A1 cj a3) trivial))) z<|by kernel_rfl
section
variable(R137:dQ)(v:waE)(v2:waD)(t8:waC)(t9:Int)(out:waC)(t10:Int)
def dE:aq:=aP 22 [(1,.func (.func 75) [] [.eptr ((cL aN) v),.eptr ((cL aS) v2)]),(5,sl af out),(8,sl af t8),(9,.int .i64 t9),(10,.int .i64 t10)] [] [((5,0),30)]
def g8(o:waC):aq:=aP 22 [(5,sl af o)] [] [((5,0),30)]
def kS:Option ((waC×Int)⊕(waC)):=
 if(decide (t10<t9))=true then
  (eh t8 t10).bind fun x2=>
  (kv R137 x2 v v2).bind fun r3=>
  (app out ([r3]:List ae)).bind fun l4=>
  some (.inl (l4,cf (t10+1)))
 else
  some (.inr out)
def iI:Option waC:=loop (fun(zz:waC×Int)=>kS R137 v v2 t8 t9 zz.1 zz.2) (out,t10)
theorem qw(hR137:h9 R137){y:(waC×Int)⊕(waC)}(h:kS R137 v v2 t8 t9 out t10=some y):aC Pg GE 0 (cA Nc 119) (LQ (fun(zz:waC×Int)=>dE v v2 t8 t9 zz.1 zz.2) (fun _=>.exit 0) g8 y) (dE v v2 t8 t9 out t10):=by
 rcases aT h with⟨c1,h⟩|⟨c1,h⟩
 ·obtain⟨x2,bx2,h⟩:=av h
  obtain⟨r3,br3,h⟩:=av h
  obtain⟨l4,bl4,h⟩:=av h
  obtain rfl:=lf h
  have z:=sg 0 c1<|sv (dF.ia (k:=.i64) bx2)<|sv (bA x2)<|sx io<|sx (cB x2)<|sv (bk x2 [])<|bg (yN R137 hR137 br3)<|sv (dF.mk' (v:=pp) li ([r3]:List ae) 1 (by kernel_rfl))<|sv (dF.ap bl4)<|jw 0 .normal (dE v v2 t8 t9 l4 (cf (t10+1))) rfl (bS (aI (aI trivial (aI (eu (A1 bT v)) (aI (eu (A1 cj v2)) trivial))) (aI (up (ak al l4)) (aI (up (ak al t8)) (aI trivial (aI trivial trivial)))))) trivial
  exact cd (A:=M8) mixed z<|by kernel_rfl
 ·obtain rfl:=lf h
  have z:=sg 0 c1<|eF (.exit 0) (g8 out)
  exact gZ M8 (by intro hx;cases hx) z<|by kernel_rfl
theorem rN(hR137:h9 R137){x:waC}(h:iI R137 v v2 t8 t9 out t10=some x):aC Pg GE 0 (.loop (cA Nc 119)) (EX (.exit 0) (g8 x)) (dE v v2 t8 t9 out t10):=
 aC.loop (S:=fun(zz:waC×Int)=>dE v v2 t8 t9 zz.1 zz.2) (ex:=(fun _=>.exit 0)) (s:=(out,t10)) h fun zz y hy=>qw R137 v v2 t8 t9 zz.1 zz.2 hR137 hy
end
def lw(R137:dQ)(a:waC)(c:waE)(c2:waD):Option waC:=
 (iI R137 c c2 a (a.length:Int) ([]:List ae) 0).bind fun o5=>
 some o5
theorem u5(R137:dQ)(hR137:h9 R137){a:waC}{c:waE}{c2:waD}{r:waC}(h:lw R137 a c c2=some r):CC Pg GE 74 [sl af a,.func (.func 75) [] [.eptr ((cL aN) c),.eptr ((cL aS) c2)]] (sl af r) [(0,30)]:=by
 obtain⟨o5,bo5,h⟩:=av h
 obtain rfl:=lf h
 have z:=cx (dF.ln a)<|cC (rN R137 c c2 a (a.length:Int) ([]:List ae) 0 hR137 bo5)<|en (aI (rP (sl af o5))<|(ak al o5))
 exact cb M8 call74 func74 (c:=Nc) rfl (aI (ak al a) (aI (aI trivial (aI (A1 bT c) (aI (A1 cj c2) trivial))) trivial)) z<|by kernel_rfl
noncomputable def Qq:Code:=f35.body.getD .skip
def P9:List Nat:=[]
def kw(R137:dQ)(t:ae)(holes:waE)(a:waD):Option ae:=
 (ri t.Names).bind fun r1=>
 (fU t.Pred holes a).bind fun r2=>
 (lu t.Preds holes a).bind fun r3=>
 (lw R137 t.Args holes a).bind fun r4=>
 some (⟨t.Op,t.Name,r4,r1,r2,r3⟩:ae)
theorem zW(R137:dQ)(hR137:h9 R137){t:ae}{holes:waE}{a:waD}{r:ae}(h:kw R137 t holes a=some r):CC Pg GE 35 [.agg (af t),sl aN holes,sl aS a] (.agg (af r)) [(2,30)]:=by
 obtain⟨r1,br1,h⟩:=av h
 obtain⟨r2,br2,h⟩:=av h
 obtain⟨r3,br3,h⟩:=av h
 obtain⟨r4,br4,h⟩:=av h
 obtain rfl:=lf h
 have z:=se (bY t)<|se (PX aN holes)<|se (PX aS a)<|sx io<|ue [0,1,0,4,0,16,48,0,0,256,1008,0,2048,0,16368,32767,0,131071]<|sv (aH t)<|sv (aJ t)<|sv (cF t)<|sv (cO t)<|sv (aY t)<|sv (aZ t)<|bg (B9 br1)<|sv (bw t)<|sv (bz t)<|bg (oY br2)<|sv (bp t)<|sv (bu t)<|bg (u4 br3)<|sb (nB t.Op t.Name r1 r2 r3) (nz t.Op t.Name r1 r2 r3)<|KF (cB (⟨t.Op,t.Name,([]:List ae),r1,r2,r3⟩:ae))<|sv (aL t)<|sv (aM t)<|bg (u5 R137 hR137 br4)<|sz (bk (⟨t.Op,t.Name,r4,r1,r2,r3⟩:ae) [])<|sy (aO (⟨t.Op,t.Name,r4,r1,r2,r3⟩:ae))<|en (aI (cG (⟨t.Op,t.Name,r4,r1,r2,r3⟩:ae))<|aI (al (⟨t.Op,t.Name,r4,r1,r2,r3⟩:ae))<|rT)
 exact cb P9 call35 func35 (c:=Qq) rfl (aI (al t) (aI (ak bT holes) (aI (ak cj a) trivial))) z<|by kernel_rfl
def nX:((ae×waE×waD)->Option ae)->(ae×waE×waD)->Option ae:=fun(rec:(ae×waE×waD)->Option ae) (x:ae×waE×waD)=>kw (fun t holes a=>rec (t,holes,a)) x.1 x.2.1 x.2.2
def rJ(t:ae)(holes:waE)(a:waD):Option ae:=kY nX (t,holes,a)
theorem Bw{t:ae}{holes:waE}{a:waD}{r:ae}(h:rJ t holes a=some r):CC Pg GE 35 [.agg (af t),sl aN holes,sl aS a] (.agg (af r)) [(2,30)]:=
 cw (F:=nX) (M:=fun(x:ae×waE×waD) (r:ae)=>CC Pg GE 35 [.agg (af x.1),sl aN x.2.1,sl aS x.2.2] (.agg (af r)) [(2,30)]) (fun rec hrec x r h=>zW _ (fun t holes a r h=>hrec (t,holes,a) r h) h) h
abbrev qX:=(ae->waE->waD->Option ae)
abbrev wr(R:qX):Prop:=∀(t:ae) (holes:waE) (a:waD) (r:ae),R t holes a=some r->CC Pg GE 36 [.agg (af t),sl aN holes,sl aS a] (.agg (af r)) [(2,30),(8,28)]
abbrev qV:=(aa->waE->waD->Option aa)
abbrev wo(R:qV):Prop:=∀(p:aa) (holes:waE) (a:waD) (r:aa),R p holes a=some r->CC Pg GE 76 [.agg (ac p),sl aN holes,sl aS a] (.agg (ac r)) []
noncomputable def FY:Code:=f111.body.getD .skip
def AJ:List Nat:=[32]
section
variable(v:waD)(p:aa)(t26:(List xn))(t27:Int)(m:Int)(m2:ai)(m3:Int)(m4:waA)(m5:ai)(names:waB)(t28:Int)
def fa:aq:=aP 63 [(2,sl aS v),(3,.eptr (ac p)),(6,.bptr 1 0),(9,sl cS names),(26,sl eC t26),(27,.int .i64 t27),(28,.int .i64 t28)] [.dead,.cells [.int .i64 m,.str m2,.int .i64 m3,sl ac m4] [(3,28)],.cells [.str m5,sl eC t26] []] [((9,0),9)]
def j5(o:waB):aq:=aP 63 [(2,sl aS v),(3,.eptr (ac p)),(6,.bptr 1 0),(9,sl cS o)] [.dead,.cells [.int .i64 m,.str m2,.int .i64 m3,sl ac m4] [(3,28)],.cells [.str m5,sl eC t26] []] [((9,0),9)]
def oB:Option ((waB×Int)⊕(waB)):=
 if(decide (t28<t27))=true then
  (eh t26 t28).bind fun x6=>
  (app names ([x6.Name]:List ai)).bind fun l7=>
  some (.inl (l7,cf (t28+1)))
 else
  some (.inr names)
def jq:Option waB:=loop (fun(zz:waB×Int)=>oB t26 t27 zz.1 zz.2) (names,t28)
theorem uO{y:(waB×Int)⊕(waB)}(h:oB t26 t27 names t28=some y):aC Pg GE 0 (cA FY 114423) (LQ (fun(zz:waB×Int)=>fa v p t26 t27 m m2 m3 m4 m5 zz.1 zz.2) (fun _=>.exit 2) (j5 v p t26 m m2 m3 m4 m5) y) (fa v p t26 t27 m m2 m3 m4 m5 names t28):=by
 rcases aT h with⟨c5,h⟩|⟨c5,h⟩
 ·obtain⟨x6,bx6,h⟩:=av h
  obtain⟨l7,bl7,h⟩:=av h
  obtain rfl:=lf h
  have z:=sg 0 c5<|sv (Ji.ia (k:=.i64) bx6)<|sv (Ib x6)<|sx L7<|sx (Gt x6)<|ss<|sv (cn.mk' (v:=PVal.str) FF ([x6.Name]:List ai) 1 (by kernel_rfl))<|sv (cn.ap bl7)<|jw 0 .normal (fa v p t26 t27 m m2 m3 m4 m5 l7 (cf (t28+1))) rfl (bS (aI (up (ak cj v)) (aI (eu (ag p)) (aI (co rfl) (aI (up (ak hZ l7)) (aI (up (ak mV t26)) (aI trivial (aI trivial trivial)))))))) (aI trivial (aI (aI trivial (aI trivial (aI trivial (aI (up (ak ag m4)) trivial)))) (aI (aI trivial (aI (up (ak mV t26)) trivial)) trivial)))
  exact cd (A:=AJ) mixed z<|by kernel_rfl
 ·obtain rfl:=lf h
  have z:=sg 0 c5<|eF (.exit 2) (j5 v p t26 m m2 m3 m4 m5 names)
  exact gZ AJ (by intro hx;cases hx) z<|by kernel_rfl
theorem nr{x:waB}(h:jq t26 t27 names t28=some x):aC Pg GE 0 (.loop (cA FY 114423)) (EX (.exit 2) (j5 v p t26 m m2 m3 m4 m5 x)) (fa v p t26 t27 m m2 m3 m4 m5 names t28):=
 aC.loop (S:=fun(zz:waB×Int)=>fa v p t26 t27 m m2 m3 m4 m5 zz.1 zz.2) (ex:=(fun _=>.exit 2)) (s:=(names,t28)) h fun zz y hy=>uO v p t26 t27 m m2 m3 m4 m5 zz.1 zz.2 hy
end
section
variable(p:aa)(names:waB)(t38:waD)(t39:Int)(m5:ai)(m6:(List xn))(t40:Int)(m:Int)(m2:ai)(m3:Int)(m4:waA)
def fb:aq:=aP 63 [(3,.eptr (ac p)),(6,.bptr 1 0),(9,sl cS names),(38,sl aS t38),(39,.int .i64 t39),(40,.int .i64 t40)] [.dead,.cells [.int .i64 m,.str m2,.int .i64 m3,sl ac m4] [(3,28)],.cells [.str m5,sl eC m6] []] [((9,0),9)]
def dV(o:(Int×ai×Int×waA)⊕(Int×ai×Int×waA)):Exit:=match o with
 |(.inl _)=>.ret
 |(.inr _)=>.exit 4
def dh(o:(Int×ai×Int×waA)⊕(Int×ai×Int×waA)):aq:=match o with
 |(.inl o)=>aP 63 [(6,.bptr 1 0)] [.dead,.cells [.int .i64 o.1,.str o.2.1,.int .i64 o.2.2.1,sl ac o.2.2.2] [],.cells [.str m5,sl eC m6] []] []
 |(.inr o)=>aP 63 [(6,.bptr 1 0)] [.dead,.cells [.int .i64 o.1,.str o.2.1,.int .i64 o.2.2.1,sl ac o.2.2.2] [(3,28)],.cells [.str m5,sl eC m6] []] []
def fc:Option ((Int×Int×ai×Int×waA)⊕((Int×ai×Int×waA)⊕(Int×ai×Int×waA))):=
 if (decide (t40 < t39)) = true then
  (eh t38 t40).bind fun x10=>
  if(x10.Name==p.Name)=true then
   (pP x10.Pred).bind fun r13=>
   if r13=true then
    pO.bind fun r16=>
    some (.inr (.inl (r16.Op,r16.Name,r16.N,r16.Kids)))
   else
    (qS x10.Pred names p.Kids).bind fun r17=>
    some (.inr (.inl (r17.Op,r17.Name,r17.N,r17.Kids)))
  else
   some (.inl (cf (t40+1),m,m2,m3,m4))
 else
  some (.inr (.inr (m,m2,m3,m4)))
def jr:Option ((Int×ai×Int×waA)⊕(Int×ai×Int×waA)):=loop (fun(zz:Int×Int×ai×Int×waA)=>fc p names t38 t39 zz.1 zz.2.1 zz.2.2.1 zz.2.2.2.1 zz.2.2.2.2) (t40,m,m2,m3,m4)
theorem uP{y:(Int×Int×ai×Int×waA)⊕((Int×ai×Int×waA)⊕(Int×ai×Int×waA))}(h:fc p names t38 t39 t40 m m2 m3 m4=some y):aC Pg GE 0 (cA FY 228855) (LQ (fun(zz:Int×Int×ai×Int×waA)=>fb p names t38 t39 m5 m6 zz.1 zz.2.1 zz.2.2.1 zz.2.2.2.1 zz.2.2.2.2) dV (dh m5 m6) y) (fb p names t38 t39 m5 m6 t40 m m2 m3 m4):=by
 rcases aT h with⟨c9,h⟩|⟨c9,h⟩
 ·obtain⟨x10,bx10,h⟩:=av h
  have p12:=fun{sc F} (r:PS sc F)=>sg 0 c9<|sv (D0.ia (k:=.i64) bx10)<|sv (Fg x10)<|sx MQ<|sx (CI x10)<|ss<|sv (bo p)<|sv (bD p)<|r
  rcases aT h with⟨c11,h⟩|⟨c11,h⟩
  ·obtain⟨r13,br13,h⟩:=av h
   have p15:=fun{sc F} (r:PS sc F)=>p12<|sg 0 c11<|sv (aD x10.Pred [])<|bg (tf br13)<|r
   rcases aT h with⟨c14,h⟩|⟨c14,h⟩
   ·obtain⟨r16,br16,h⟩:=av h
    obtain rfl:=lf h
    have z:=p15<|sg 0 c14<|bg (oA br16)<|sy (ax r16)<|jw 0 (dV (.inl (r16.Op,r16.Name,r16.N,r16.Kids))) (dh m5 m6 (.inl (r16.Op,r16.Name,r16.N,r16.Kids))) rfl (bS (aI (co rfl) trivial)) (aI trivial (aI (aI trivial (aI trivial (aI trivial (aI (up (ak ag r16.Kids)) trivial)))) (aI (aI trivial (aI (up (ak mV m6)) trivial)) trivial)))
    exact gg (A:=AJ) mixed (by intro hx;cases hx) z<|by kernel_rfl
   ·obtain⟨r17,br17,h⟩:=av h
    obtain rfl:=lf h
    have z:=p15<|sg 0 c14<|sv (aD x10.Pred [])<|sv (ay p)<|sv (az p)<|bg (AR br17)<|sx (aW r17)<|jw 0 (dV (.inl (r17.Op,r17.Name,r17.N,r17.Kids))) (dh m5 m6 (.inl (r17.Op,r17.Name,r17.N,r17.Kids))) rfl (bS (aI (co rfl) trivial)) (aI trivial (aI (aI trivial (aI trivial (aI trivial (aI (up (ak ag r17.Kids)) trivial)))) (aI (aI trivial (aI (up (ak mV m6)) trivial)) trivial)))
    exact gg (A:=AJ) mixed (by intro hx;cases hx) z<|by kernel_rfl
  ·obtain rfl:=lf h
   have z:=p12<|sg 0 c11<|jw 0 .normal (fb p names t38 t39 m5 m6 (cf (t40+1)) m m2 m3 m4) rfl (bS (aI (eu (ag p)) (aI (co rfl) (aI (up (ak hZ names)) (aI (up (ak cj t38)) (aI trivial (aI trivial trivial))))))) (aI trivial (aI (aI trivial (aI trivial (aI trivial (aI (up (ak ag m4)) trivial)))) (aI (aI trivial (aI (up (ak mV m6)) trivial)) trivial)))
   exact cd (A:=AJ) mixed z<|by kernel_rfl
 ·obtain rfl:=lf h
  have z:=sg 0 c9<|eF (dV (.inr (m,m2,m3,m4))) (dh m5 m6 (.inr (m,m2,m3,m4)))
  exact gZ AJ (by intro hx;cases hx) z<|by kernel_rfl
theorem nu{x:(Int×ai×Int×waA)⊕(Int×ai×Int×waA)}(h:jr p names t38 t39 t40 m m2 m3 m4=some x):aC Pg GE 0 (.loop (cA FY 228855)) (EX (dV x) (dh m5 m6 x)) (fb p names t38 t39 m5 m6 t40 m m2 m3 m4):=
 aC.loop (S:=fun(zz:Int×Int×ai×Int×waA)=>fb p names t38 t39 m5 m6 zz.1 zz.2.1 zz.2.2.1 zz.2.2.2.1 zz.2.2.2.2) (ex:=dV) (s:=(t40,m,m2,m3,m4)) h fun zz y hy=>uP p names t38 t39 m5 m6 zz.1 zz.2.1 zz.2.2.1 zz.2.2.2.1 zz.2.2.2.2 hy
end
section
variable(v:waD)(p:aa)(t14:waE)(t15:Int)(t16:Int)(m:Int)(m2:ai)(m3:Int)(m4:waA)
def e8:aq:=aP 63 [(2,sl aS v),(3,.eptr (ac p)),(6,.bptr 1 0),(14,sl aN t14),(15,.int .i64 t15),(16,.int .i64 t16)] [.dead,.cells [.int .i64 m,.str m2,.int .i64 m3,sl ac m4] [(3,28)]] []
def dU(o:(Int×ai×Int×waA)⊕(Int×ai×Int×waA)):Exit:=match o with
 |(.inl _)=>.ret
 |(.inr _)=>.exit 0
def dg(o:(Int×ai×Int×waA)⊕(Int×ai×Int×waA)):aq:=match o with
 |(.inl o)=>aP 63 [(6,.bptr 1 0)] [.dead,.cells [.int .i64 o.1,.str o.2.1,.int .i64 o.2.2.1,sl ac o.2.2.2] []] []
 |(.inr o)=>aP 63 [(6,.bptr 1 0)] [.dead,.cells [.int .i64 o.1,.str o.2.1,.int .i64 o.2.2.1,sl ac o.2.2.2] [(3,28)]] []
def e9:Option ((Int×Int×ai×Int×waA)⊕((Int×ai×Int×waA)⊕(Int×ai×Int×waA))):=
 if (decide (t16 < t15)) = true then
  (eh t14 t16).bind fun x2=>
  if(!(x2.Name==p.Name))=true then
   some (.inl (cf (t16+1),m,m2,m3,m4))
  else
   (jq x2.Params (x2.Params.length:Int) ([]:List ai) 0).bind fun o8=>
   (jr p o8 v (v.length:Int) 0 m m2 m3 m4).bind fun o18=>match o18 with
   |(.inl o18)=>
    some (.inr (.inl (o18.1,o18.2.1,o18.2.2.1,o18.2.2.2)))
   |(.inr o18)=>
    pO.bind fun r19=>
    some (.inr (.inl (r19.Op,r19.Name,r19.N,r19.Kids)))
 else
  some (.inr (.inr (m,m2,m3,m4)))
def mg:Option ((Int×ai×Int×waA)⊕(Int×ai×Int×waA)):=loop (fun(zz:Int×Int×ai×Int×waA)=>e9 v p t14 t15 zz.1 zz.2.1 zz.2.2.1 zz.2.2.2.1 zz.2.2.2.2) (t16,m,m2,m3,m4)
theorem uN{y:(Int×Int×ai×Int×waA)⊕((Int×ai×Int×waA)⊕(Int×ai×Int×waA))}(h:e9 v p t14 t15 t16 m m2 m3 m4=some y):aC Pg GE 0 (cA FY 55) (LQ (fun(zz:Int×Int×ai×Int×waA)=>e8 v p t14 t15 zz.1 zz.2.1 zz.2.2.1 zz.2.2.2.1 zz.2.2.2.2) dU dg y) (e8 v p t14 t15 t16 m m2 m3 m4):=by
 rcases aT h with⟨c1,h⟩|⟨c1,h⟩
 ·obtain⟨x2,bx2,h⟩:=av h
  have p4:=fun{sc F} (r:PS sc F)=>sg 0 c1<|sv (Dg.ia (k:=.i64) bx2)<|sv (Cu x2)<|sx MP<|sx (zJ x2)<|ss<|sv (bo p)<|sv (bD p)<|r
  rcases aT h with⟨c3,h⟩|⟨c3,h⟩
  ·obtain rfl:=lf h
   have z:=p4<|sg 0 c3<|jw 0 .normal (e8 v p t14 t15 (cf (t16+1)) m m2 m3 m4) rfl (bS (aI (up (ak cj v)) (aI (eu (ag p)) (aI (co rfl) (aI (up (ak bT t14)) (aI trivial (aI trivial trivial))))))) (aI trivial (aI (aI trivial (aI trivial (aI trivial (aI (up (ak ag m4)) trivial)))) trivial))
   exact cd (A:=AJ) mixed z<|by kernel_rfl
  ·obtain⟨o8,bo8,h⟩:=av h
   obtain⟨o18,bo18,h⟩:=av h
   rcases o18 with o18|o18
   ·obtain rfl:=lf h
    have z:=p4<|sg 0 c3<|ss<|cx (Ji.ln x2.Params)<|cC (nr v p x2.Params (x2.Params.length:Int) m m2 m3 m4 x2.Name ([]:List ai) 0 bo8)<|cx (D0.ln v)<|cC (e:=.ret) (s1:=dh x2.Name x2.Params (.inl o18)) (nu p o8 v (v.length:Int) x2.Name x2.Params 0 m m2 m3 m4 bo18)<|jw 0 (dU (.inl (o18.1,o18.2.1,o18.2.2.1,o18.2.2.2))) (dg (.inl (o18.1,o18.2.1,o18.2.2.1,o18.2.2.2))) rfl (bS (aI (co rfl) trivial)) (aI trivial (aI (aI trivial (aI trivial (aI trivial (aI (up (ak ag o18.2.2.2)) trivial)))) trivial))
    exact gg (A:=AJ) mixed (by intro hx;cases hx) z<|by kernel_rfl
   ·obtain⟨r19,br19,h⟩:=av h
    obtain rfl:=lf h
    have z:=p4<|sg 0 c3<|ss<|cx (Ji.ln x2.Params)<|cC (nr v p x2.Params (x2.Params.length:Int) m m2 m3 m4 x2.Name ([]:List ai) 0 bo8)<|cx (D0.ln v)<|cC (e:=.exit 4) (s1:=dh x2.Name x2.Params (.inr o18)) (nu p o8 v (v.length:Int) x2.Name x2.Params 0 m m2 m3 m4 bo18)<|bg (oA br19)<|sy (ax r19)<|jw 0 (dU (.inl (r19.Op,r19.Name,r19.N,r19.Kids))) (dg (.inl (r19.Op,r19.Name,r19.N,r19.Kids))) rfl (bS (aI (co rfl) trivial)) (aI trivial (aI (aI trivial (aI trivial (aI trivial (aI (up (ak ag r19.Kids)) trivial)))) trivial))
    exact gg (A:=AJ) mixed (by intro hx;cases hx) z<|by kernel_rfl
 ·obtain rfl:=lf h
  have z:=sg 0 c1<|eF (dU (.inr (m,m2,m3,m4))) (dg (.inr (m,m2,m3,m4)))
  exact gZ AJ (by intro hx;cases hx) z<|by kernel_rfl
theorem nq{x:(Int×ai×Int×waA)⊕(Int×ai×Int×waA)}(h:mg v p t14 t15 t16 m m2 m3 m4=some x):aC Pg GE 0 (.loop (cA FY 55)) (EX (dU x) (dg x)) (e8 v p t14 t15 t16 m m2 m3 m4):=
 aC.loop (S:=fun(zz:Int×Int×ai×Int×waA)=>e8 v p t14 t15 zz.1 zz.2.1 zz.2.2.1 zz.2.2.2.1 zz.2.2.2.2) (ex:=dU) (s:=(t16,m,m2,m3,m4)) h fun zz y hy=>uN v p t14 t15 zz.1 zz.2.1 zz.2.2.1 zz.2.2.2.1 zz.2.2.2.2 hy
end
def mI(p:aa)(holes:waE)(a:waD):Option aa:=
 (mg a p holes (holes.length:Int) 0 0 ([]:ai) 0 ([]:List aa)).bind fun o20=>match o20 with
 |(.inl o20)=>
  some (⟨o20.1,o20.2.1,o20.2.2.1,o20.2.2.2⟩:aa)
 |(.inr o20)=>
  pO.bind fun r21=>
  some r21
theorem AS{p:aa}{holes:waE}{a:waD}{r:aa}(h:mI p holes a=some r):CC Pg GE 111 [.agg (ac p),sl aN holes,sl aS a] (.agg (ac r)) []:=by
 obtain⟨o20,bo20,h⟩:=av h
 rcases o20 with o20|o20
 ·obtain rfl:=lf h
  have z:=se (bj p)<|sx dB<|cx (Dg.ln holes)<|cC (e:=.ret) (s1:=dg (.inl o20)) (nq a p holes (holes.length:Int) 0 0 ([]:ai) 0 ([]:List aa) bo20)<|en (aI (bR (⟨o20.1,o20.2.1,o20.2.2.1,o20.2.2.2⟩:aa))<|(ag (⟨o20.1,o20.2.1,o20.2.2.1,o20.2.2.2⟩:aa)))
  exact cb AJ call111 func111 (c:=FY) rfl (aI (ag p) (aI (ak bT holes) (aI (ak cj a) trivial))) z<|by kernel_rfl
 ·obtain⟨r21,br21,h⟩:=av h
  obtain rfl:=lf h
  have z:=se (bj p)<|sx dB<|cx (Dg.ln holes)<|cC (e:=.exit 0) (s1:=dg (.inr o20)) (nq a p holes (holes.length:Int) 0 0 ([]:ai) 0 ([]:List aa) bo20)<|bg (oA br21)<|sy (ax r21)<|en (aI (bR r21)<|(ag r21))
  exact cb AJ call111 func111 (c:=FY) rfl (aI (ag p) (aI (ak bT holes) (aI (ak cj a) trivial))) z<|by kernel_rfl
noncomputable def Ot:Code:=f76.body.getD .skip
def Oj:List Nat:=[18]
section
variable(R145:qV)(holes:waE)(v:waD)(p:aa)(t12:waA)(t13:Int)(m:waA)(out:waA)(t14:Int)
def iP:aq:=aP 37 [(1,sl aN holes),(2,sl aS v),(3,.eptr (ac p)),(6,.bptr 1 0),(7,sl ac out),(12,sl ac t12),(13,.int .i64 t13),(14,.int .i64 t14)] [.dead,.cells [.int .i64 0,.str ([]:ai),.int .i64 0,sl ac m] [(3,28)]] [((7,0),28)]
def pw(o:waA):aq:=aP 37 [(1,sl aN holes),(2,sl aS v),(3,.eptr (ac p)),(6,.bptr 1 0),(7,sl ac o)] [.dead,.cells [.int .i64 0,.str ([]:ai),.int .i64 0,sl ac m] [(3,28)]] [((7,0),28)]
def va:Option ((waA×Int)⊕(waA)):=
 if(decide (t14<t13))=true then
  (eh t12 t14).bind fun x2=>
  (R145 x2 holes v).bind fun r3=>
  (app out ([r3]:List aa)).bind fun l4=>
  some (.inl (l4,cf (t14+1)))
 else
  some (.inr out)
def ta:Option waA:=loop (fun(zz:waA×Int)=>va R145 holes v t12 t13 zz.1 zz.2) (out,t14)
theorem AO(hR145:wo R145){y:(waA×Int)⊕(waA)}(h:va R145 holes v t12 t13 out t14=some y):aC Pg GE 0 (cA Ot 119) (LQ (fun(zz:waA×Int)=>iP holes v p t12 t13 m zz.1 zz.2) (fun _=>.exit 0) (pw holes v p m) y) (iP holes v p t12 t13 m out t14):=by
 rcases aT h with⟨c1,h⟩|⟨c1,h⟩
 ·obtain⟨x2,bx2,h⟩:=av h
  obtain⟨r3,br3,h⟩:=av h
  obtain⟨l4,bl4,h⟩:=av h
  obtain rfl:=lf h
  have z:=sg 0 c1<|sv (aQ.ia (k:=.i64) bx2)<|sv (aB x2)<|sx dB<|sx (aW x2)<|sv (aD x2 [])<|bg (hR145 _ _ _ _ br3)<|sv (aQ.mk' (v:=b9) aV ([r3]:List aa) 1 (by kernel_rfl))<|sv (aQ.ap bl4)<|jw 0 .normal (iP holes v p t12 t13 m l4 (cf (t14+1))) rfl (bS (aI (up (ak bT holes)) (aI (up (ak cj v)) (aI (eu (ag p)) (aI (co rfl) (aI (up (ak ag l4)) (aI (up (ak ag t12)) (aI trivial (aI trivial trivial))))))))) (aI trivial (aI (aI trivial (aI trivial (aI trivial (aI (up (ak ag m)) trivial)))) trivial))
  exact cd (A:=Oj) mixed z<|by kernel_rfl
 ·obtain rfl:=lf h
  have z:=sg 0 c1<|eF (.exit 0) (pw holes v p m out)
  exact gZ Oj (by intro hx;cases hx) z<|by kernel_rfl
theorem BS(hR145:wo R145){x:waA}(h:ta R145 holes v t12 t13 out t14=some x):aC Pg GE 0 (.loop (cA Ot 119)) (EX (.exit 0) (pw holes v p m x)) (iP holes v p t12 t13 m out t14):=
 aC.loop (S:=fun(zz:waA×Int)=>iP holes v p t12 t13 m zz.1 zz.2) (ex:=(fun _=>.exit 0)) (s:=(out,t14)) h fun zz y hy=>AO R145 holes v p t12 t13 m zz.1 zz.2 hR145 hy
end
def qP(R145:qV)(p:aa)(holes:waE)(a:waD):Option aa:=
 (ta R145 holes a p.Kids (p.Kids.length:Int) ([]:List aa) 0).bind fun o5=>
 (xA p o5).bind fun r6=>
 if(p.Op==5)=true then
  (mI r6 holes a).bind fun r9=>
  some r9
 else
  some r6
theorem EN(R145:qV)(hR145:wo R145){p:aa}{holes:waE}{a:waD}{r:aa}(h:qP R145 p holes a=some r):CC Pg GE 76 [.agg (ac p),sl aN holes,sl aS a] (.agg (ac r)) []:=by
 obtain⟨o5,bo5,h⟩:=av h
 obtain⟨r6,br6,h⟩:=av h
 have p8:=fun{sc F} (r:PS sc F)=>se (bj p)<|sx dB<|sv (ay p)<|sv (az p)<|cx (aQ.ln p.Kids)<|cC (BS R145 holes a p p.Kids (p.Kids.length:Int) ([]:List aa) ([]:List aa) 0 hR145 bo5)<|sv (aB p)<|bg (Ak br6)<|sx dB<|sx (aW r6)<|sv (aE p)<|sv (aF p)<|r
 rcases aT h with⟨c7,h⟩|⟨c7,h⟩
 ·obtain⟨r9,br9,h⟩:=av h
  obtain rfl:=lf h
  have z:=p8<|sg 0 c7<|sv (aD r6 [])<|bg (AS br9)<|sx (aW r9)<|en (aI (bR r9)<|(ag r9))
  exact cb Oj call76 func76 (c:=Ot) rfl (aI (ag p) (aI (ak bT holes) (aI (ak cj a) trivial))) z<|by kernel_rfl
 ·obtain rfl:=lf h
  have z:=p8<|sg 0 c7<|sv (aD r6 [])<|sx (aW r6)<|en (aI (bR r6)<|(ag r6))
  exact cb Oj call76 func76 (c:=Ot) rfl (aI (ag p) (aI (ak bT holes) (aI (ak cj a) trivial))) z<|by kernel_rfl
def wu:((aa×waE×waD)->Option aa)->(aa×waE×waD)->Option aa:=fun(rec:(aa×waE×waD)->Option aa) (x:aa×waE×waD)=>qP (fun p holes a=>rec (p,holes,a)) x.1 x.2.1 x.2.2
def s9(p:aa)(holes:waE)(a:waD):Option aa:=kY wu (p,holes,a)
theorem Aj{p:aa}{holes:waE}{a:waD}{r:aa}(h:s9 p holes a=some r):CC Pg GE 76 [.agg (ac p),sl aN holes,sl aS a] (.agg (ac r)) []:=
 cw (F:=wu) (M:=fun(x:aa×waE×waD) (r:aa)=>CC Pg GE 76 [.agg (ac x.1),sl aN x.2.1,sl aS x.2.2] (.agg (ac r)) []) (fun rec hrec x r h=>EN _ (fun p holes a r h=>hrec (p,holes,a) r h) h) h
end Go.Proofs.YtggeppllafbidaaGreatDoor
