/- PROVED: a part of the proof. Conditions: none. -/
import Derived.Test.YtkdahfeiedaahaaGreatDoorPkD19
import Derived.Test.YtkdahfeiedaahaaGreatDoorPkD10
import Derived.Test.YtkdahfeiedaahaaGreatDoorPkD8
noncomputable section
namespace Go.Proofs.YtkdahfeiedaahaaGreatDoor
open Go Go.Proofs.Tryz
set_option linter.unusedVariables false
set_option maxRecDepth 100000
noncomputable def YR:Code:=f92.body.getD .skip
def W2:List Nat:=[58,65]
theorem Z92:ZF W2 92 f92 YR:=⟨call92,func92,rfl⟩
section
variable(m:aE)(out:waA)(v:waA)(i:Int)(known:Bool)(m2:ae)(m3:waA)(m4:Int)(m5:ae)(m6:Int)(m7:waF)(m8:waE)(m9:waD)(m10:waC)(m11:Int)(m12:Bool)(m13:waA)(m14:waG)(m15:waH)(m16:waI)(m17:Int)(m18:ae)(m19:waC)(m20:waA)(m21:Int)(m22:ae)(m23:Int)(m24:waB)(m25:waB)(m26:waB)(m27:ae)(m28:waA)(m29:Int)(m30:ae)(m31:Int)(m32:waF)(m33:waE)(m34:waD)(m35:waC)(m36:Int)(m37:Bool)(m38:waA)(m39:waG)(m40:waH)(m41:waI)(m42:Int)(m43:ae)(m44:waC)(m45:waA)(m46:Int)(m47:ae)(m48:Int)(m49:waB)(m50:waB)(m51:waB)
def JH:aB:=aS 66 [(2,.eptr (ay m)),(5,.bptr 1 0),(7,sl cS out),(8,sl cS v),(9,.int .i64 i),(11,.bool known)] [.dead,.cells [.str m2,sl cS m3,.int .i64 m4,.str m5,.int .i64 m6,sl ac m7,sl au m8,sl aA m9,sl ah m10,.int .i64 m11,.bool m12,sl cS m13,sl cW m14,sl eQ m15,sl cw m16,.int .i64 m17,.str m18,sl ah m19,sl cS m20,.int .i64 m21,.str m22,.int .i64 m23,sl al m24,sl al m25,sl al m26] [],.cells [.str m27,sl cS m28,.int .i64 m29,.str m30,.int .i64 m31,sl ac m32,sl au m33,sl aA m34,sl ah m35,.int .i64 m36,.bool m37,sl cS m38,sl cW m39,sl eQ m40,sl cw m41,.int .i64 m42,.str m43,sl ah m44,sl cS m45,.int .i64 m46,.str m47,.int .i64 m48,sl al m49,sl al m50,sl al m51] []] [((8,0),9),((7,0),9)]
def oV(o:Bool):aB:=aS 66 [(2,.eptr (ay m)),(5,.bptr 1 0),(7,sl cS out),(8,sl cS v),(9,.int .i64 i),(57,.bool o)] [.dead,.cells [.str m2,sl cS m3,.int .i64 m4,.str m5,.int .i64 m6,sl ac m7,sl au m8,sl aA m9,sl ah m10,.int .i64 m11,.bool m12,sl cS m13,sl cW m14,sl eQ m15,sl cw m16,.int .i64 m17,.str m18,sl ah m19,sl cS m20,.int .i64 m21,.str m22,.int .i64 m23,sl al m24,sl al m25,sl al m26] [],.cells [.str m27,sl cS m28,.int .i64 m29,.str m30,.int .i64 m31,sl ac m32,sl au m33,sl aA m34,sl ah m35,.int .i64 m36,.bool m37,sl cS m38,sl cW m39,sl eQ m40,sl cw m41,.int .i64 m42,.str m43,sl ah m44,sl cS m45,.int .i64 m46,.str m47,.int .i64 m48,sl al m49,sl al m50,sl al m51] []] [((8,0),9),((7,0),9)]
def tj:Option Bool:=
 if known=true then
  (eT v i).bind fun x9=>
  (qn m3 x9).bind fun r10=>
  if(!r10)=true then
   (eT v i).bind fun x13=>
   (qn out x13).bind fun r14=>
   some (!r14)
  else
   some false
 else
  some false
theorem HG{x:Bool}(h:tj out v i known m3=some x):aW Pg GE 0 (cA YR 32502) (EX .normal (oV m out v i m2 m3 m4 m5 m6 m7 m8 m9 m10 m11 m12 m13 m14 m15 m16 m17 m18 m19 m20 m21 m22 m23 m24 m25 m26 m27 m28 m29 m30 m31 m32 m33 m34 m35 m36 m37 m38 m39 m40 m41 m42 m43 m44 m45 m46 m47 m48 m49 m50 m51 x)) (JH m out v i known m2 m3 m4 m5 m6 m7 m8 m9 m10 m11 m12 m13 m14 m15 m16 m17 m18 m19 m20 m21 m22 m23 m24 m25 m26 m27 m28 m29 m30 m31 m32 m33 m34 m35 m36 m37 m38 m39 m40 m41 m42 m43 m44 m45 m46 m47 m48 m49 m50 m51):=by
 rcases aO h with⟨c8,h⟩|⟨c8,h⟩
 ·obtain⟨x9,bx9,r10,br10,h⟩:=Zb2 h
  have p12:=fun{sc F} (r:PS sc F)=>G0 [0,1,3,7,3,3,51,115,255,511,1023,2047,4095,4095,4095,28671,61439,131071,262143,524287]<|sg 2 c8<|ss<|sv (bN.ia (k:=.i64) bx9)<|sv (b8 AF (.str x9) [])<|cD (pB br10)<|r
  rcases aO h with⟨c11,h⟩|⟨c11,h⟩
  ·obtain⟨x13,bx13,r14,br14,h⟩:=Zb2 h
   obtain rfl:=lf h
   exact bv W2 (p12<|sg 12 c11<|sv (bN.ia (k:=.i64) bx13)<|sv (b8 AF (.str x13) [])<|cD (pB br14)<|eF .normal (oV m out v i m2 m3 m4 m5 m6 m7 m8 m9 m10 m11 m12 m13 m14 m15 m16 m17 m18 m19 m20 m21 m22 m23 m24 m25 m26 m27 m28 m29 m30 m31 m32 m33 m34 m35 m36 m37 m38 m39 m40 m41 m42 m43 m44 m45 m46 m47 m48 m49 m50 m51 (!r14)))<|by kernel_rfl
  ·obtain rfl:=lf h
   exact bv W2 (p12<|sg 12 c11<|eF .normal (oV m out v i m2 m3 m4 m5 m6 m7 m8 m9 m10 m11 m12 m13 m14 m15 m16 m17 m18 m19 m20 m21 m22 m23 m24 m25 m26 m27 m28 m29 m30 m31 m32 m33 m34 m35 m36 m37 m38 m39 m40 m41 m42 m43 m44 m45 m46 m47 m48 m49 m50 m51 false))<|by kernel_rfl
 ·obtain rfl:=lf h
  exact bv W2 (G0 [0,1,3,7,3,3,51,115,255,511,1023,2047,4095,4095,4095,28671,61439,131071,262143,524287]<|sg 2 c8<|eF .normal (oV m out v i m2 m3 m4 m5 m6 m7 m8 m9 m10 m11 m12 m13 m14 m15 m16 m17 m18 m19 m20 m21 m22 m23 m24 m25 m26 m27 m28 m29 m30 m31 m32 m33 m34 m35 m36 m37 m38 m39 m40 m41 m42 m43 m44 m45 m46 m47 m48 m49 m50 m51 false))<|by kernel_rfl
end
section
variable(m:aE)(out:waA)(v:waA)(i:Int)(m2:ae)(m3:waA)(m4:Int)(m5:ae)(m6:Int)(m7:waF)(m8:waE)(m9:waD)(m10:waC)(m11:Int)(m12:Bool)(m13:waA)(m14:waG)(m15:waH)(m16:waI)(m17:Int)(m18:ae)(m19:waC)(m20:waA)(m21:Int)(m22:ae)(m23:Int)(m24:waB)(m25:waB)(m26:waB)
def JG:aB:=aS 66 [(2,.eptr (ay m)),(5,.bptr 1 0),(7,sl cS out),(8,sl cS v),(9,.int .i64 i)] [.dead,.cells [.str m2,sl cS m3,.int .i64 m4,.str m5,.int .i64 m6,sl ac m7,sl au m8,sl aA m9,sl ah m10,.int .i64 m11,.bool m12,sl cS m13,sl cW m14,sl eQ m15,sl cw m16,.int .i64 m17,.str m18,sl ah m19,sl cS m20,.int .i64 m21,.str m22,.int .i64 m23,sl al m24,sl al m25,sl al m26] []] [((8,0),9),((7,0),9)]
def ub(o:waA×ae×waA×Int×ae×Int×waF×waE×waD×waC×Int×Bool×waA×waG×waH×waI×Int×ae×waC×waA×Int×ae×Int×waB×waB×waB):aB:=aS 66 [(2,.eptr (ay m)),(5,.bptr 1 0),(7,sl cS o.1),(8,sl cS v),(9,.int .i64 i)] [.dead,.cells [.str m2,sl cS m3,.int .i64 m4,.str m5,.int .i64 m6,sl ac m7,sl au m8,sl aA m9,sl ah m10,.int .i64 m11,.bool m12,sl cS m13,sl cW m14,sl eQ m15,sl cw m16,.int .i64 m17,.str m18,sl ah m19,sl cS m20,.int .i64 m21,.str m22,.int .i64 m23,sl al m24,sl al m25,sl al m26] [],.cells [.str o.2.1,sl cS o.2.2.1,.int .i64 o.2.2.2.1,.str o.2.2.2.2.1,.int .i64 o.2.2.2.2.2.1,sl ac o.2.2.2.2.2.2.1,sl au o.2.2.2.2.2.2.2.1,sl aA o.2.2.2.2.2.2.2.2.1,sl ah o.2.2.2.2.2.2.2.2.2.1,.int .i64 o.2.2.2.2.2.2.2.2.2.2.1,.bool o.2.2.2.2.2.2.2.2.2.2.2.1,sl cS o.2.2.2.2.2.2.2.2.2.2.2.2.1,sl cW o.2.2.2.2.2.2.2.2.2.2.2.2.2.1,sl eQ o.2.2.2.2.2.2.2.2.2.2.2.2.2.2.1,sl cw o.2.2.2.2.2.2.2.2.2.2.2.2.2.2.2.1,.int .i64 o.2.2.2.2.2.2.2.2.2.2.2.2.2.2.2.2.1,.str o.2.2.2.2.2.2.2.2.2.2.2.2.2.2.2.2.2.1,sl ah o.2.2.2.2.2.2.2.2.2.2.2.2.2.2.2.2.2.2.1,sl cS o.2.2.2.2.2.2.2.2.2.2.2.2.2.2.2.2.2.2.2.1,.int .i64 o.2.2.2.2.2.2.2.2.2.2.2.2.2.2.2.2.2.2.2.2.1,.str o.2.2.2.2.2.2.2.2.2.2.2.2.2.2.2.2.2.2.2.2.2.1,.int .i64 o.2.2.2.2.2.2.2.2.2.2.2.2.2.2.2.2.2.2.2.2.2.2.1,sl al o.2.2.2.2.2.2.2.2.2.2.2.2.2.2.2.2.2.2.2.2.2.2.2.1,sl al o.2.2.2.2.2.2.2.2.2.2.2.2.2.2.2.2.2.2.2.2.2.2.2.2.1,sl al o.2.2.2.2.2.2.2.2.2.2.2.2.2.2.2.2.2.2.2.2.2.2.2.2.2] []] [((7,0),9),((8,0),9)]
def yC:Option ((waA×ae×waA×Int×ae×Int×waF×waE×waD×waC×Int×Bool×waA×waG×waH×waI×Int×ae×waC×waA×Int×ae×Int×waB×waB×waB)):=
 (eT v i).bind fun x6=>
 (FY m x6).bind fun r7=>
 (tj out v i r7.2 m3).bind fun o15=>
 if o15=true then
  (eT v i).bind fun x18=>
  (app out ([x18]:List ae)).bind fun l19=>
  some (l19,r7.1.Name,r7.1.Params,r7.1.Body.Op,r7.1.Body.Name,r7.1.Body.N,r7.1.Body.Kids,r7.1.Body.Params,r7.1.Body.Alts,r7.1.Body.Types,r7.1.Mode,r7.1.Typed,r7.1.Sig.Vars,r7.1.Sig.Needs,r7.1.Sig.Abs,r7.1.Sig.Bounds,r7.1.Sig.Type_.Op,r7.1.Sig.Type_.Name,r7.1.Sig.Type_.Args,r7.1.Sig.Type_.Names,r7.1.Sig.Type_.Pred.Op,r7.1.Sig.Type_.Pred.Name,r7.1.Sig.Type_.Pred.N,r7.1.Sig.Type_.Pred.Kids,r7.1.Sig.Type_.Preds,r7.1.Sig.Metric)
 else
  some (out,r7.1.Name,r7.1.Params,r7.1.Body.Op,r7.1.Body.Name,r7.1.Body.N,r7.1.Body.Kids,r7.1.Body.Params,r7.1.Body.Alts,r7.1.Body.Types,r7.1.Mode,r7.1.Typed,r7.1.Sig.Vars,r7.1.Sig.Needs,r7.1.Sig.Abs,r7.1.Sig.Bounds,r7.1.Sig.Type_.Op,r7.1.Sig.Type_.Name,r7.1.Sig.Type_.Args,r7.1.Sig.Type_.Names,r7.1.Sig.Type_.Pred.Op,r7.1.Sig.Type_.Pred.Name,r7.1.Sig.Type_.Pred.N,r7.1.Sig.Type_.Pred.Kids,r7.1.Sig.Type_.Preds,r7.1.Sig.Metric)
theorem HF{x:(waA×ae×waA×Int×ae×Int×waF×waE×waD×waC×Int×Bool×waA×waG×waH×waI×Int×ae×waC×waA×Int×ae×Int×waB×waB×waB)}(h:yC m out v i m3=some x):aW Pg GE 0 (cA YR 4062) (EX .normal (ub m v i m2 m3 m4 m5 m6 m7 m8 m9 m10 m11 m12 m13 m14 m15 m16 m17 m18 m19 m20 m21 m22 m23 m24 m25 m26 x)) (JG m out v i m2 m3 m4 m5 m6 m7 m8 m9 m10 m11 m12 m13 m14 m15 m16 m17 m18 m19 m20 m21 m22 m23 m24 m25 m26):=by
 obtain⟨x6,bx6,r7,br7,o15,bo15,h⟩:=Zb3 h
 have p17:=fun{sc F} (r:PS sc F)=>G0 [0,0,0,6,14,31,63,127,127,0,767,2047]<|sv (eo m)<|sv (bN.ia (k:=.i64) bx6)<|sv (b8 AF (.str x6) [])<|cD (KT br7)<|sx (tQ r7.1)<|nF 0<|cT (HG m out v i r7.2 m2 m3 m4 m5 m6 m7 m8 m9 m10 m11 m12 m13 m14 m15 m16 m17 m18 m19 m20 m21 m22 m23 m24 m25 m26 r7.1.Name r7.1.Params r7.1.Body.Op r7.1.Body.Name r7.1.Body.N r7.1.Body.Kids r7.1.Body.Params r7.1.Body.Alts r7.1.Body.Types r7.1.Mode r7.1.Typed r7.1.Sig.Vars r7.1.Sig.Needs r7.1.Sig.Abs r7.1.Sig.Bounds r7.1.Sig.Type_.Op r7.1.Sig.Type_.Name r7.1.Sig.Type_.Args r7.1.Sig.Type_.Names r7.1.Sig.Type_.Pred.Op r7.1.Sig.Type_.Pred.Name r7.1.Sig.Type_.Pred.N r7.1.Sig.Type_.Pred.Kids r7.1.Sig.Type_.Preds r7.1.Sig.Metric bo15)<|r
 rcases aO h with⟨c16,h⟩|⟨c16,h⟩
 ·obtain⟨x18,bx18,l19,bl19,h⟩:=Zb2 h
  obtain rfl:=lf h
  exact bv W2 (p17<|sg 0 c16<|sv (bN.ia (k:=.i64) bx18)<|sv (b8 AF (.str x18) [])<|sv (bN.mk' (v:=PVal.str) Ij ([x18]:List ae) 1 (by kernel_rfl))<|sv (bN.ap bl19)<|eF .normal (ub m v i m2 m3 m4 m5 m6 m7 m8 m9 m10 m11 m12 m13 m14 m15 m16 m17 m18 m19 m20 m21 m22 m23 m24 m25 m26 (l19,r7.1.Name,r7.1.Params,r7.1.Body.Op,r7.1.Body.Name,r7.1.Body.N,r7.1.Body.Kids,r7.1.Body.Params,r7.1.Body.Alts,r7.1.Body.Types,r7.1.Mode,r7.1.Typed,r7.1.Sig.Vars,r7.1.Sig.Needs,r7.1.Sig.Abs,r7.1.Sig.Bounds,r7.1.Sig.Type_.Op,r7.1.Sig.Type_.Name,r7.1.Sig.Type_.Args,r7.1.Sig.Type_.Names,r7.1.Sig.Type_.Pred.Op,r7.1.Sig.Type_.Pred.Name,r7.1.Sig.Type_.Pred.N,r7.1.Sig.Type_.Pred.Kids,r7.1.Sig.Type_.Preds,r7.1.Sig.Metric)))<|by kernel_rfl
 ·obtain rfl:=lf h
  exact bv W2 (p17<|sg 0 c16<|eF .normal (ub m v i m2 m3 m4 m5 m6 m7 m8 m9 m10 m11 m12 m13 m14 m15 m16 m17 m18 m19 m20 m21 m22 m23 m24 m25 m26 (out,r7.1.Name,r7.1.Params,r7.1.Body.Op,r7.1.Body.Name,r7.1.Body.N,r7.1.Body.Kids,r7.1.Body.Params,r7.1.Body.Alts,r7.1.Body.Types,r7.1.Mode,r7.1.Typed,r7.1.Sig.Vars,r7.1.Sig.Needs,r7.1.Sig.Abs,r7.1.Sig.Bounds,r7.1.Sig.Type_.Op,r7.1.Sig.Type_.Name,r7.1.Sig.Type_.Args,r7.1.Sig.Type_.Names,r7.1.Sig.Type_.Pred.Op,r7.1.Sig.Type_.Pred.Name,r7.1.Sig.Type_.Pred.N,r7.1.Sig.Type_.Pred.Kids,r7.1.Sig.Type_.Preds,r7.1.Sig.Metric)))<|by kernel_rfl
end
section
variable(m:aE)(v:waA)(m2:ae)(m3:waA)(m4:Int)(m5:ae)(m6:Int)(m7:waF)(m8:waE)(m9:waD)(m10:waC)(m11:Int)(m12:Bool)(m13:waA)(m14:waG)(m15:waH)(m16:waI)(m17:Int)(m18:ae)(m19:waC)(m20:waA)(m21:Int)(m22:ae)(m23:Int)(m24:waB)(m25:waB)(m26:waB)(out:waA)(i:Int)
def oW:aB:=aS 66 [(2,.eptr (ay m)),(5,.bptr 1 0),(7,sl cS out),(8,sl cS v),(9,.int .i64 i)] [.dead,.cells [.str m2,sl cS m3,.int .i64 m4,.str m5,.int .i64 m6,sl ac m7,sl au m8,sl aA m9,sl ah m10,.int .i64 m11,.bool m12,sl cS m13,sl cW m14,sl eQ m15,sl cw m16,.int .i64 m17,.str m18,sl ah m19,sl cS m20,.int .i64 m21,.str m22,.int .i64 m23,sl al m24,sl al m25,sl al m26] []] [((8,0),9),((7,0),9)]
def uc(o:waA):aB:=aS 66 [(7,sl cS o)] [.dead,.cells [.str m2,sl cS m3,.int .i64 m4,.str m5,.int .i64 m6,sl ac m7,sl au m8,sl aA m9,sl ah m10,.int .i64 m11,.bool m12,sl cS m13,sl cW m14,sl eQ m15,sl cw m16,.int .i64 m17,.str m18,sl ah m19,sl cS m20,.int .i64 m21,.str m22,.int .i64 m23,sl al m24,sl al m25,sl al m26] []] [((7,0),9)]
def jI:Option ((waA×Int)⊕(waA)):=
 if(decide (i<(v.length:Int)))=true then
  (yC m out v i m3).bind fun o20=>
  some (.inl (o20.1,bB (i+1)))
 else
  some (.inr out)
def yD:Option waA:=loop (fun(zz:waA×Int)=>jI m v m3 zz.1 zz.2) (out,i)
theorem F4{y:(waA×Int)⊕(waA)}(h:jI m v m3 out i=some y):aW Pg GE 0 (cA YR 1015) (LQ (fun(zz:waA×Int)=>oW m v m2 m3 m4 m5 m6 m7 m8 m9 m10 m11 m12 m13 m14 m15 m16 m17 m18 m19 m20 m21 m22 m23 m24 m25 m26 zz.1 zz.2) (fun _=>.exit 0) (uc m2 m3 m4 m5 m6 m7 m8 m9 m10 m11 m12 m13 m14 m15 m16 m17 m18 m19 m20 m21 m22 m23 m24 m25 m26) y) (oW m v m2 m3 m4 m5 m6 m7 m8 m9 m10 m11 m12 m13 m14 m15 m16 m17 m18 m19 m20 m21 m22 m23 m24 m25 m26 out i):=by
 rcases aO h with⟨c5,h⟩|⟨c5,h⟩
 ·obtain⟨o20,bo20,h⟩:=ck h
  obtain rfl:=lf h
  have z:=bQ (bN.ln v)<|sg 0 c5<|nF 0<|cT (HF m out v i m2 m3 m4 m5 m6 m7 m8 m9 m10 m11 m12 m13 m14 m15 m16 m17 m18 m19 m20 m21 m22 m23 m24 m25 m26 bo20)<|tr 0 .normal (oW m v m2 m3 m4 m5 m6 m7 m8 m9 m10 m11 m12 m13 m14 m15 m16 m17 m18 m19 m20 m21 m22 m23 m24 m25 m26 o20.1 (bB (i+1))) rfl (du (aI (a8 (bp m)) (aI (aT rfl) (aI (up (aj bz o20.1)) (aI (up (aj bz v)) (aI trivial trivial)))))) (aI trivial (aI (aI trivial (aI (up (aj bz m3)) (aI trivial (aI trivial (aI trivial (aI (up (aj az m7)) (aI (up (aj aZ m8)) (aI (up (aj bF m9)) (aI (up (aj aF m10)) (aI trivial (aI trivial (aI (up (aj bz m13)) (aI (up (aj wA m14)) (aI (up (aj Do m15)) (aI (up (aj vR m16)) (aI trivial (aI trivial (aI (up (aj aF m19)) (aI (up (aj bz m20)) (aI trivial (aI trivial (aI trivial (aI (up (aj aQ m24)) (aI (up (aj aQ m25)) (aI (up (aj aQ m26)) trivial))))))))))))))))))))))))) trivial))
  exact dy (A:=W2) mixed z<|by kernel_rfl
 ·obtain rfl:=lf h
  have z:=bQ (bN.ln v)<|sg 0 c5<|eF (.exit 0) (uc m2 m3 m4 m5 m6 m7 m8 m9 m10 m11 m12 m13 m14 m15 m16 m17 m18 m19 m20 m21 m22 m23 m24 m25 m26 out)
  exact hU W2 (Zn rfl) z<|by kernel_rfl
theorem HH{x:waA}(h:yD m v m3 out i=some x):aW Pg GE 0 (.loop (cA YR 1015)) (EX (.exit 0) (uc m2 m3 m4 m5 m6 m7 m8 m9 m10 m11 m12 m13 m14 m15 m16 m17 m18 m19 m20 m21 m22 m23 m24 m25 m26 x)) (oW m v m2 m3 m4 m5 m6 m7 m8 m9 m10 m11 m12 m13 m14 m15 m16 m17 m18 m19 m20 m21 m22 m23 m24 m25 m26 out i):=
 ZL h fun _ _ hy=>F4 _ _ _ _ _ _ _ _ _ _ _ _ _ _ _ _ _ _ _ _ _ _ _ _ _ _ _ _ _ hy
end
def wk(m:aE)(name:ae):Option waA:=
 (FY m name).bind fun r1=>
 if(!r1.2)=true then
  some ([]:List ae)
 else
  (Dc r1.1.Body).bind fun r4=>
  (yD m r4 r1.1.Params ([]:List ae) 0).bind fun o21=>
  some o21
theorem Eb{m:aE}{name:ae}{r:waA}(h:wk m name=some r):CC Pg GE 92 [.agg (ay m),.str name] (sl cS r) [(0,9)]:=by
 obtain⟨r1,br1,h⟩:=ck h
 have p3:=fun{sc F} (r:PS sc F)=>se (gr m)<|sv (eo m)<|cD (KT br1)<|sx Pr<|sx (tQ r1.1)<|r
 rcases aO h with⟨c2,h⟩|⟨c2,h⟩
 ·obtain rfl:=lf h
  have z:=p3<|sg 0 c2<|en (aI (rP (sl cS ([]:List ae)))<|(aj bz ([]:List ae)))
  exact Z92.v (aI (bp m) (aI trivial trivial)) z<|by kernel_rfl
 ·obtain⟨r4,br4,o21,bo21,h⟩:=Zb2 h
  obtain rfl:=lf h
  have z:=p3<|sg 0 c2<|sv (bW r1.1.Body [.int .i64 r1.1.Mode,.bool r1.1.Typed,sl cS r1.1.Sig.Vars,sl cW r1.1.Sig.Needs,sl eQ r1.1.Sig.Abs,sl cw r1.1.Sig.Bounds,.int .i64 r1.1.Sig.Type_.Op,.str r1.1.Sig.Type_.Name,sl ah r1.1.Sig.Type_.Args,sl cS r1.1.Sig.Type_.Names,.int .i64 r1.1.Sig.Type_.Pred.Op,.str r1.1.Sig.Type_.Pred.Name,.int .i64 r1.1.Sig.Type_.Pred.N,sl al r1.1.Sig.Type_.Pred.Kids,sl al r1.1.Sig.Type_.Preds,sl al r1.1.Sig.Metric])<|cD (Og br4)<|cT (HH m r4 r1.1.Name r1.1.Params r1.1.Body.Op r1.1.Body.Name r1.1.Body.N r1.1.Body.Kids r1.1.Body.Params r1.1.Body.Alts r1.1.Body.Types r1.1.Mode r1.1.Typed r1.1.Sig.Vars r1.1.Sig.Needs r1.1.Sig.Abs r1.1.Sig.Bounds r1.1.Sig.Type_.Op r1.1.Sig.Type_.Name r1.1.Sig.Type_.Args r1.1.Sig.Type_.Names r1.1.Sig.Type_.Pred.Op r1.1.Sig.Type_.Pred.Name r1.1.Sig.Type_.Pred.N r1.1.Sig.Type_.Pred.Kids r1.1.Sig.Type_.Preds r1.1.Sig.Metric ([]:List ae) 0 bo21)<|en (aI (rP (sl cS o21))<|(aj bz o21))
  exact Z92.v (aI (bp m) (aI trivial trivial)) z<|by kernel_rfl
noncomputable def Ym:Code:=f43.body.getD .skip
def Xm:List Nat:=[37]
theorem Z43:ZF Xm 43 f43 Ym:=⟨call43,func43,rfl⟩
section
variable(m:aE)(out:waA)(i:Int)(v:waA)(k:Int)
def KU:aB:=aS 46 [(2,.eptr (ay m)),(5,sl cS out),(6,.int .i64 i),(7,sl cS v),(8,.int .i64 k)] [.dead] [((7,0),9),((5,0),9)]
def wb(o:waA):aB:=aS 46 [(2,.eptr (ay m)),(5,sl cS o),(6,.int .i64 i),(7,sl cS v),(8,.int .i64 k)] [.dead] [((5,0),9),((7,0),9)]
def zW:Option waA:=
 (eT v k).bind fun x6=>
 (qn out x6).bind fun r7=>
 if(!r7)=true then
  (eT v k).bind fun x10=>
  (app out ([x10]:List ae)).bind fun l11=>
  some l11
 else
  some out
theorem Jx{x:waA}(h:zW out v k=some x):aW Pg GE 0 (cA Ym 61310) (EX .normal (wb m i v k x)) (KU m out i v k):=by
 obtain⟨x6,bx6,r7,br7,h⟩:=Zb2 h
 have p9:=fun{sc F} (r:PS sc F)=>sv (bN.ia (k:=.i64) bx6)<|sv (b8 AF (.str x6) [])<|cD (pB br7)<|r
 rcases aO h with⟨c8,h⟩|⟨c8,h⟩
 ·obtain⟨x10,bx10,l11,bl11,h⟩:=Zb2 h
  obtain rfl:=lf h
  exact bv Xm (p9<|sg 0 c8<|sv (bN.ia (k:=.i64) bx10)<|sv (b8 AF (.str x10) [])<|sv (bN.mk' (v:=PVal.str) Ij ([x10]:List ae) 1 (by kernel_rfl))<|sv (bN.ap bl11)<|eF .normal (wb m i v k l11))<|by kernel_rfl
 ·obtain rfl:=lf h
  exact bv Xm (p9<|sg 0 c8<|eF .normal (wb m i v k out))<|by kernel_rfl
end
section
variable(m:aE)(i:Int)(v:waA)(out:waA)(k:Int)
def qm:aB:=aS 46 [(2,.eptr (ay m)),(5,sl cS out),(6,.int .i64 i),(7,sl cS v),(8,.int .i64 k)] [.dead] [((7,0),9),((5,0),9)]
def wd(o:waA):aB:=aS 46 [(2,.eptr (ay m)),(5,sl cS o),(6,.int .i64 i)] [.dead] [((5,0),9)]
def kq:Option ((waA×Int)⊕(waA)):=
 if(decide (k<(v.length:Int)))=true then
  (zW out v k).bind fun o12=>
  some (.inl (o12,bB (k+1)))
 else
  some (.inr out)
def zY:Option waA:=loop (fun(zz:waA×Int)=>kq v zz.1 zz.2) (out,k)
theorem HC{y:(waA×Int)⊕(waA)}(h:kq v out k=some y):aW Pg GE 0 (cA Ym 15327) (LQ (fun(zz:waA×Int)=>qm m i v zz.1 zz.2) (fun _=>.exit 2) (wd m i) y) (qm m i v out k):=by
 rcases aO h with⟨c5,h⟩|⟨c5,h⟩
 ·obtain⟨o12,bo12,h⟩:=ck h
  obtain rfl:=lf h
  exact wJ Xm (bQ (bN.ln v)<|sg 0 c5<|nF 0<|cT (Jx m out i v k bo12)<|eF .normal (qm m i v o12 (bB (k+1))))<|by kernel_rfl
 ·obtain rfl:=lf h
  have z:=bQ (bN.ln v)<|sg 0 c5<|eF (.exit 2) (wd m i out)
  exact hU Xm (Zn rfl) z<|by kernel_rfl
theorem Jz{x:waA}(h:zY v out k=some x):aW Pg GE 0 (.loop (cA Ym 15327)) (EX (.exit 2) (wd m i x)) (qm m i v out k):=
 ZL h fun _ _ hy=>HC _ _ _ _ _ hy
end
section
variable(m:aE)(out:waA)(i:Int)
def qk:aB:=aS 46 [(2,.eptr (ay m)),(5,sl cS out),(6,.int .i64 i)] [.dead] [((5,0),9)]
def wc(o:waA):aB:=aS 46 [(5,sl cS o)] [.dead] [((5,0),9)]
def ql:Option ((waA×Int)⊕(waA)):=
 if(decide (i<(out.length:Int)))=true then
  (eT out i).bind fun x3=>
  (wk m x3).bind fun r4=>
  (zY r4 out 0).bind fun o13=>
  some (.inl (o13,bB (i+1)))
 else
  some (.inr out)
def zX:Option waA:=loop (fun(zz:waA×Int)=>ql m zz.1 zz.2) (out,i)
theorem HB{y:(waA×Int)⊕(waA)}(h:ql m out i=some y):aW Pg GE 0 (cA Ym 119) (LQ (fun(zz:waA×Int)=>qk m zz.1 zz.2) (fun _=>.exit 0) wc y) (qk m out i):=by
 rcases aO h with⟨c2,h⟩|⟨c2,h⟩
 ·obtain⟨x3,bx3,r4,br4,o13,bo13,h⟩:=Zb3 h
  obtain rfl:=lf h
  exact wJ Xm (bQ (bN.ln out)<|sg 0 c2<|G0 [0,0,0,6,14,31,63]<|sv (eo m)<|sv (bN.ia (k:=.i64) bx3)<|sv (b8 AF (.str x3) [])<|cD (Eb br4)<|cT (Jz m i r4 out 0 bo13)<|eF .normal (qk m o13 (bB (i+1))))<|by kernel_rfl
 ·obtain rfl:=lf h
  have z:=bQ (bN.ln out)<|sg 0 c2<|eF (.exit 0) (wc out)
  exact hU Xm (Zn rfl) z<|by kernel_rfl
theorem Jy{x:waA}(h:zX m out i=some x):aW Pg GE 0 (.loop (cA Ym 119)) (EX (.exit 0) (wc x)) (qk m out i):=
 ZL h fun _ _ hy=>HB _ _ _ hy
end
def sn(m:aE)(name:ae):Option waA:=
 (wk m name).bind fun r1=>
 (zX m r1 0).bind fun o14=>
 (Db o14 ([]:List ae)).bind fun r15=>
 some r15
theorem zZ{m:aE}{name:ae}{r:waA}(h:sn m name=some r):CC Pg GE 43 [.agg (ay m),.str name] (sl cS r) [(0,9)]:=by
 obtain⟨r1,br1,o14,bo14,r15,br15,h⟩:=Zb3 h
 obtain rfl:=lf h
 have z:=se (gr m)<|sv (eo m)<|cD (Eb br1)<|cT (Jy m r1 0 bo14)<|cD (Oa br15)<|en (aI (rP (sl cS r15))<|(aj bz r15))
 exact Z43.v (aI (bp m) (aI trivial trivial)) z<|by kernel_rfl
noncomputable def qcr:Code:=f44.body.getD .skip
def qb1:List Nat:=[]
theorem Z44:ZF qb1 44 f44 qcr:=⟨call44,func44,rfl⟩
def pu(m:aE)(a:ae)(a2:ae):Option Bool:=
 (nG m a).bind fun r1=>
 (ka r1 a2).bind fun r2=>
 if(decide (r2>=0))=true then
  (nG m a2).bind fun r5=>
  (ka r5 a).bind fun r6=>
  some (decide (r6>=0))
 else
  some false
theorem Fy{m:aE}{a:ae}{a2:ae}{r:Bool}(h:pu m a a2=some r):CC Pg GE 44 [.agg (ay m),.str a,.str a2] (.bool r) []:=by
 obtain⟨r1,br1,r2,br2,h⟩:=Zb2 h
 have p4:=fun{sc F} (r:PS sc F)=>se (gr m)<|sv (eo m)<|cD (ur br1)<|cD (oI br2)<|r
 rcases aO h with⟨c3,h⟩|⟨c3,h⟩
 ·obtain⟨r5,br5,r6,br6,h⟩:=Zb2 h
  obtain rfl:=lf h
  have z:=p4<|sg 7 c3<|sv (eo m)<|cD (ur br5)<|cD (oI br6)<|en (aI (rP (.bool (decide (r6>=0))))<|trivial)
  exact Z44.v (aI (bp m) (aI trivial (aI trivial trivial))) z<|by kernel_rfl
 ·obtain rfl:=lf h
  have z:=p4<|sg 7 c3<|en (aI (rP (.bool false))<|trivial)
  exact Z44.v (aI (bp m) (aI trivial (aI trivial trivial))) z<|by kernel_rfl
noncomputable def qcs:Code:=f45.body.getD .skip
def qb2:List Nat:=[]
theorem Z45:ZF qb2 45 f45 qcs:=⟨call45,func45,rfl⟩
def uW(m:aE)(a:ae)(a2:ae):Option Bool:=
 (sn m a).bind fun r1=>
 (qn r1 a2).bind fun r2=>
 if r2=true then
  (sn m a2).bind fun r5=>
  (qn r5 a).bind fun r6=>
  some r6
 else
  some false
theorem JF{m:aE}{a:ae}{a2:ae}{r:Bool}(h:uW m a a2=some r):CC Pg GE 45 [.agg (ay m),.str a,.str a2] (.bool r) []:=by
 obtain⟨r1,br1,r2,br2,h⟩:=Zb2 h
 have p4:=fun{sc F} (r:PS sc F)=>se (gr m)<|sv (eo m)<|cD (zZ br1)<|cD (pB br2)<|r
 rcases aO h with⟨c3,h⟩|⟨c3,h⟩
 ·obtain⟨r5,br5,r6,br6,h⟩:=Zb2 h
  obtain rfl:=lf h
  have z:=p4<|sg 6 c3<|sv (eo m)<|cD (zZ br5)<|cD (pB br6)<|en (aI (rP (.bool r6))<|trivial)
  exact Z45.v (aI (bp m) (aI trivial (aI trivial trivial))) z<|by kernel_rfl
 ·obtain rfl:=lf h
  have z:=p4<|sg 6 c3<|en (aI (rP (.bool false))<|trivial)
  exact Z45.v (aI (bp m) (aI trivial (aI trivial trivial))) z<|by kernel_rfl
noncomputable def b9:Code:=Tryz.f9.body.getD .skip
def A9:List Nat:=[]
theorem Z9:ZF A9 9 Tryz.f9 b9:=⟨call9,func9,rfl⟩
section
variable(v:ae)(v2:ae)(m:aE)
def Af:aB:=aS 49 [(1,.str v),(2,.str v2),(3,.eptr (ay m))] [.dead] []
def iI(o:Bool):aB:=aS 49 [(1,.str v),(2,.str v2),(3,.eptr (ay m)),(19,.bool o)] [.dead] []
def mZ:Option Bool:=
 (Kl m).bind fun r1=>
 if(!r1)=true then
  some true
 else
  if(decide ((v.length:Int)>100))=true then
   some true
  else
   some (decide ((v2.length:Int)>100))
theorem yV{x:Bool}(h:mZ v v2 m=some x):aW Pg GE 0 (cA b9 12) (EX .normal (iI v v2 m x)) (Af v v2 m):=by
 obtain⟨r1,br1,h⟩:=ck h
 have p3:=fun{sc F} (r:PS sc F)=>sv (eo m)<|cD (Rf br1)<|r
 rcases aO h with⟨c2,h⟩|⟨c2,h⟩
 ·obtain rfl:=lf h
  exact bv A9 (p3<|sg 4 c2<|eF .normal (iI v v2 m true))<|by kernel_rfl
 ·have p5:=fun{sc F} (r:PS sc F)=>p3<|sg 4 c2<|bQ (oL underlying9 v)<|r
  rcases aO h with⟨c4,h⟩|⟨c4,h⟩
  ·obtain rfl:=lf h
   exact bv A9 (p5<|sg 9 c4<|eF .normal (iI v v2 m true))<|by kernel_rfl
  ·obtain rfl:=lf h
   exact bv A9 (p5<|sg 9 c4<|bQ (oL underlying9 v2)<|eF .normal (iI v v2 m (decide ((v2.length:Int)>100))))<|by kernel_rfl
end
def qv(m:aE)(a:ae)(a2:ae):Option Bool:=
 (mZ a a2 m).bind fun o6=>
 if o6=true then
  Dh.bind fun r9=>
  some r9
 else
  (yh m).bind fun r10=>
  (BV m).bind fun r11=>
  if (r10 == r11) = true then
   (nG m a).bind fun r14=>
   (sn m a).bind fun r15=>
   (j5 r14 r15).bind fun r16=>
   if r16=true then
    (pu m a a2).bind fun r19=>
    (uW m a a2).bind fun r20=>
    if(r19==r20)=true then
     Dh.bind fun r23=>
     some r23
    else
     some false
   else
    some false
  else
   some false
theorem B7{m:aE}{a:ae}{a2:ae}{r:Bool}(h:qv m a a2=some r):CC Pg GE 9 [.agg (ay m),.str a,.str a2] (.bool r) []:=by
 obtain⟨o6,bo6,h⟩:=ck h
 have p8:=fun{sc F} (r:PS sc F)=>se (gr m)<|nF 1<|cT (yV a a2 m bo6)<|r
 rcases aO h with⟨c7,h⟩|⟨c7,h⟩
 ·obtain⟨r9,br9,h⟩:=ck h
  obtain rfl:=lf h
  have z:=p8<|sg 0 c7<|cD (F8 br9)<|en (aI (rP (.bool r9))<|trivial)
  exact Z9.v (aI (bp m) (aI trivial (aI trivial trivial))) z<|by kernel_rfl
 ·obtain⟨r10,br10,r11,br11,h⟩:=Zb2 h
  have p13:=fun{sc F} (r:PS sc F)=>p8<|sg 0 c7<|G0 [0,1,0,7,15,31,63,63,255,63,63,2047,4095,8191,16383,32767,32767,32767,262143,32767,32767,32767,4194303,8388607,16777215,33554431,67108863,134217727,268435455]<|sv (eo m)<|cD (Mi br10)<|sv (eo m)<|cD (PJ br11)<|r
  rcases aO h with⟨c12,h⟩|⟨c12,h⟩
  ·obtain⟨r14,br14,r15,br15,r16,br16,h⟩:=Zb3 h
   have p18:=fun{sc F} (r:PS sc F)=>p13<|sg 6 c12<|sv (eo m)<|cD (ur br14)<|sv (eo m)<|cD (zZ br15)<|cD (nn br16)<|r
   rcases aO h with⟨c17,h⟩|⟨c17,h⟩
   ·obtain⟨r19,br19,r20,br20,h⟩:=Zb2 h
    have p22:=fun{sc F} (r:PS sc F)=>p18<|sg 15 c17<|sv (eo m)<|cD (Fy br19)<|sv (eo m)<|cD (JF br20)<|r
    rcases aO h with⟨c21,h⟩|⟨c21,h⟩
    ·obtain⟨r23,br23,h⟩:=ck h
     obtain rfl:=lf h
     have z:=p22<|sg 26 c21<|cD (F8 br23)<|en (aI (rP (.bool r23))<|trivial)
     exact Z9.v (aI (bp m) (aI trivial (aI trivial trivial))) z<|by kernel_rfl
    ·obtain rfl:=lf h
     have z:=p22<|sg 26 c21<|en (aI (rP (.bool false))<|trivial)
     exact Z9.v (aI (bp m) (aI trivial (aI trivial trivial))) z<|by kernel_rfl
   ·obtain rfl:=lf h
    have z:=p18<|sg 15 c17<|en (aI (rP (.bool false))<|trivial)
    exact Z9.v (aI (bp m) (aI trivial (aI trivial trivial))) z<|by kernel_rfl
  ·obtain rfl:=lf h
   have z:=p13<|sg 6 c12<|en (aI (rP (.bool false))<|trivial)
   exact Z9.v (aI (bp m) (aI trivial (aI trivial trivial))) z<|by kernel_rfl
open Go
mutual
def nP:am->Nat
 |⟨_,_,_,ks⟩=>nL ks+1
def nL:List am->Nat
 |[]=>0
 |p::ps=>nP p+nL ps
end
theorem Xa(p:am):nP p=nL p.Kids+1:=by obtain⟨o,n,k,ks⟩:=p;rw[nP];rfl
theorem Va(p:am):1<=nP p:=by rw[Xa];omega
theorem RM:∀(l:List am),l.length<=nL l
 |[]=>by simp[nL]
 |p::l=>by rw[nL];have:=RM l;have:=Va p;simp only[vaO];omega
theorem NQ:∀(a b:List am),nL (a++b)=nL a+nL b
 |[],b=>by simp[nL]
 |p::a,b=>by rw[vaF,nL,NQ a b,nL];omega
mutual
theorem Zj:∀(p:am),nP p<=jM (al p)
 |⟨o,n,k,ks⟩=>by
  have:=U9 ks
  rw[nP,cx]
  simp only[jM,pm,sl]
  show nL ks+1<=1+(n.length+1+(1+(cN (ks.map al)+1+0)))
  omega
theorem U9:∀(l:List am),nL l<=cN (l.map al)
 |[]=>by simp[nL]
 |p::l=>by
  have:=Zj p
  have:=U9 l
  rw[nL]
  simp only[vaD,cN]
  omega
end
theorem NC(p:am):(⟨p.Op,p.Name,p.N,p.Kids⟩:am)=p:=by cases p;rfl
theorem ST{α:Type}[DecidableEq α]:∀{a b:List α},a.length=b.length->(a.zip b).any (fun x=>decide (x.1≠x.2))= !decide (a=b)
 |[],[],_=>by simp
 |x::a,y::b,h=>by
  have ih:=ST (a:=a) (b:=b) (by simpa using h)
  rw[List.zip_cons_cons,List.any_cons,ih]
  by_cases h1:x=y<;>by_cases h2:a=b<;>simp[h1,h2]
theorem U5{α X:Type}[DecidableEq α]{a b:List α}(hl:a.length=b.length)(ha:a.length<9223372036854775808)(body:Int->Option (Int⊕X))(y e:X)
  (hin:∀(i:Nat) (h:i<a.length) (h':i<b.length),body i=some (if decide (a[i]=b[i])=true then .inl (bB ((i:Int)+1))else .inr y)) (hend:body a.length=some (.inr e)):loop body 0=some (if decide (a=b)=true then e else y):=by
 have hz:(a.zip b).length=a.length:=by simp[hl]
 have:=U4 (a.zip b) (by omega) body (fun x=>decide (x.1≠x.2)) y e (fun i h=>?_) (by rw[hz];exact hend) 0 (va1 _)
 ·rw[vbF,ST hl]at this
  rw[show((0:Nat):Int)=0 from rfl]at this
  rw[this]
  by_cases h:a=b<;>simp[h]
 ·have h1:i<a.length:=by omega
  have h2:i<b.length:=by omega
  rw[hin i h1 h2]
  have hzi:(a.zip b)[i]=(a[i],b[i]):=by simp
  rw[hzi]
  by_cases h:a[i]=b[i]<;>simp[h]
abbrev sw:Nat:=1073741824
theorem Co{n:Nat}(h:n<=sw):n<Wj:=by have:=XN;unfold sw at h;omega
theorem WH(l:List am)(i:Nat)(h:i<l.length):nL (l.take (i+1))=nL (l.take i)+nP l[i]:=by
 rw[vaq h,NQ]
 simp[nL]
def rC{α:Type}(o:Option α)(Q:α->Prop):Prop:=∃a,o=some a/\Q a
section
variable{α β σ τ X Y:Type}
theorem bP{a:α}{Q:α->Prop}(h:Q a):rC (some a) Q:=⟨a,rfl,h⟩
theorem Yg{o:Option α}{a:α}{Q:α->Prop}(e:o=some a)(h:Q a):rC o Q:=⟨a,e,h⟩
theorem dE{o:Option α}{f:α->Option β}{R:α->Prop}{Q:β->Prop}(h:rC o R)(h':∀a,R a->rC (f a) Q):rC (o.bind f) Q:=by
 obtain⟨a,rfl,h⟩:=h
 exact h' a h
theorem rC.mono{o:Option α}{Q R:α->Prop}(h:rC o Q)(h':∀a,Q a->R a):rC o R:=by
 obtain⟨a,e,h⟩:=h
 exact⟨a,e,h' a h⟩
theorem DE{c:Prop}[Decidable c]{a b:Option α}{Q:α->Prop}(h1:c->rC a Q)(h2:¬c->rC b Q):rC (if c then a else b) Q:=by
 by_cases h:c
 ·rw[vax h];exact h1 h
 ·rw[vaz h];exact h2 h
theorem Ho{F:(X->Option Y)->X->Option Y}(μ:X->Nat)(P:X->Prop)(Q:X->Y->Prop)(h:∀(R:X->Option Y) x,P x->(∀y,μ y<μ x->P y->rC (R y) (Q y))->rC (F R x) (Q x))(x:X)(hx:P x)(hm:μ x<Wj):rC (rE F x) (Q x):=by
 have key:∀n x,μ x<n->P x->rC (Yr F n x) (Q x):=by
  intro n
  induction n with
  |zero=>intro x hx;omega
  |succ n ih=>intro x hx hq;exact h _ x hq fun y hy hqy=>ih y (by omega) hqy
 exact key _ x hm hx
theorem VI{body:σ->Option (σ⊕X)}(I:σ->Prop)(μ:σ->Nat){Q:X->Prop}(h:∀s,I s->rC (body s) (fun r=>match r with|.inl s'=>I s'/\μ s'<μ s|.inr y=>Q y)):∀s,I s->rC (loop body s) Q:=by
 have key:∀n s,μ s<n->I s->rC (loop body s) Q:=by
  intro n
  induction n with
  |zero=>intro s hs;omega
  |succ n ih=>
   intro s hs hI
   obtain⟨r,e,hr⟩:=h s hI
   rw[lp,e]
   cases r with
   |inl s'=>exact ih s' (by have:=hr.2;omega) hr.1
   |inr y=>exact⟨y,rfl,hr⟩
 exact fun s hs=>key _ s (vb1 _) hs
theorem zJ(l:List α)(hl:l.length<9223372036854775808)(mk:Int->σ->τ){body:τ->Option (τ⊕X)}(I:Nat->σ->Prop){Q:X->Prop}
  (hin:∀(i:Nat) (h:i<l.length) s,I i s->rC (body (mk i s)) (fun r=>match r with|.inl t=>∃s',t=mk (bB ((i:Int)+1)) s'/\I (i+1) s'|.inr y=>Q y))
  (hend:∀s,I l.length s->rC (body (mk l.length s)) (fun r=>match r with|.inl _=>False|.inr y=>Q y)):∀s,I 0 s->rC (loop body (mk 0 s)) Q:=by
 have key:∀k i s,k+i=l.length->I i s->rC (loop body (mk (i:Int) s)) Q:=by
  intro k
  induction k with
  |zero=>
   intro i s hi hI
   have:i=l.length:=by omega
   subst this
   obtain⟨r,e,hr⟩:=hend s hI
   rw[lp,e]
   cases r with
   |inl _=>exact hr.elim
   |inr y=>exact⟨y,rfl,hr⟩
  | succ k ih =>
   intro i s hi hI
   obtain⟨r,e,hr⟩:=hin i (by omega) s hI
   rw[lp,e]
   cases r with
   |inl t=>
    obtain⟨s',rfl,hI'⟩:=hr
    simp only
    rw[cH (by omega) (by omega),show((i:Int)+1)=((i+1:Nat):Int) by omega]
    exact ih (i+1) s' (by omega) hI'
   |inr y=>exact⟨y,rfl,hr⟩
 exact fun s hs=>key l.length 0 s (by omega) hs
end
section
variable{α β σ τ X Y:Type}
theorem Fe(l:List α)(hl:l.length<9223372036854775808)(mk:Int->σ->τ)(body:τ->Option (τ⊕X))(k:Int->σ->α->Option (τ⊕X))(I:Nat->σ->Prop)(g:α->σ->σ)(e:σ->X)(s0:σ)(h0:I 0 s0)
  (hb:∀(i:Int) (s:σ),body (mk i s)=if decide (i<(l.length:Int))=true then(eT l i).bind (k i s)else some (.inr (e s)))
  (hin:∀(i:Nat) (h:i<l.length) s,I i s->k i s l[i]=some (.inl (mk (bB ((i:Int)+1)) (g l[i] s)))/\I (i+1) (g l[i] s)):loop body (mk 0 s0)=some (e (l.foldl (fun s x=>g x s) s0)):=by
 have:=zb l hl mk body I (fun _ x s=>.inl (g x s)) e (fun i h s hs=>⟨?_,fun s' hs'=>by cases hs';exact(hin i h s hs).2⟩) (fun s hs=>by rw[hb,vaz (by simp)]) 0 s0 (va1 _) h0
 ·rw[vbF,show((0:Nat):Int)=0 from rfl]at this
  rw[this]
  have key:∀(l:List α) (i:Nat) (s:σ),BC (fun _ x (s:σ)=>(Sum.inl (g x s):σ⊕X)) e l i s=e (l.foldl (fun s x=>g x s) s):=by
   intro l
   induction l with
   |nil=>intro i s;rfl
   |cons x l ih=>intro i s;unfold BC;simp only;rw[ih];rfl
  rw[key]
 ·rw[hb,vax (by simp;omega),cE l i h]
  simp only[vab]
  exact(hin i h s hs).1
end
theorem Nz{α:Type}(l:List α)(h:l.length<=1073741824):pC l=some l:=vax h
set_option linter.unusedSimpArgs false
theorem ND(t:ai):(⟨t.Op,t.Name,t.Args,t.Names,t.Pred,t.Preds⟩:ai)=t:=by cases t;rfl
mutual
def WF:ai->Nat
 |⟨_,_,xs,ns,_,ps⟩=>uH xs+ns.length+ps.length+1
def uH:List ai->Nat
 |[]=>0
 |a::xs=>WF a+uH xs
end
theorem WG(t:ai):WF t=uH t.Args+t.Names.length+t.Preds.length+1:=by obtain⟨o,n,xs,ns,p,ps⟩:=t;rw[WF];rfl
theorem Zf(l:List am):l.length<=cN (l.map al):=by
 have:=RM l
 have:=U9 l
 omega
theorem Qm(l:List ae):l.length<=cN (l.map cS):=by
 have h:=QH (l.map cS) (fun x hx=>by
  obtain⟨s,_,rfl⟩:=vah.1 hx
  simp only[cS,jM,pm];omega)
 rwa[vba]at h
theorem QL(t:ai):jM (ah t)=1+(pm (.str t.Name)+(pm (sl ah t.Args)+(pm (sl cS t.Names)+(1+(pm (.str t.Pred.Name)+(1+(pm (sl al t.Pred.Kids)+(pm (sl al t.Preds)+0)))))))):=by
 rw[cJ];rfl
theorem NB(e:af):(⟨e.Op,e.Name,e.N,e.Kids,e.Params,e.Alts,e.Types⟩:af)=e:=by obtain⟨o,n,k,ks,ps,as1,ts⟩:=e;rfl
mutual
def nE:af->Nat
 |⟨_,_,_,ks,ps,as1,ts⟩=>DQ ks+En as1+ps.length+ts.length+1
def nA:aJ->Nat
 |⟨_,ns,b⟩=>ns.length+nE b+1
def DQ:List af->Nat
 |[]=>0
 |e::l=>nE e+DQ l
def En:List aJ->Nat
 |[]=>0
 |a::l=>nA a+En l
end
theorem Gw(e:af):nE e=DQ e.Kids+En e.Alts+e.Params.length+e.Types.length+1:=by obtain⟨o,n,k,ks,ps,as1,ts⟩:=e;rw[nE];rfl
theorem Qt(a:aJ):nA a=a.Names.length+nE a.Body+1:=by obtain⟨c,ns,b⟩:=a;rw[nA];rfl
theorem Pa(e:af):1<=nE e:=by rw[Gw];omega
theorem Ku:∀{l:List af} {x:af},x∈l->nE x<=DQ l
 | y :: l,x,h => by
  rw[DQ]
  rcases vay.1 h with rfl|h
  ·omega
  ·have:=Ku h;omega
theorem Kt:∀{l:List aJ} {x:aJ},x∈l->nA x<=En l
 | y :: l,x,h => by
  rw[En]
  rcases vay.1 h with rfl|h
  ·omega
  ·have:=Kt h;omega
theorem Gv:∀(l:List af),l.length<=DQ l
 |[]=>by simp[DQ]
 |p::l=>by rw[DQ];have:=Gv l;have:=Pa p;simp only[vaO];omega
theorem Gu:∀(l:List aJ),l.length<=En l
 |[]=>by simp[En]
 |p::l=>by rw[En];have:=Gu l;have:=Qt p;simp only[vaO];omega
theorem O3{e x:af}(h:x∈e.Kids):nE x<nE e:=by rw[Gw e];have:=Ku h;omega
theorem Ou{e:af}{x:aJ}(h:x∈e.Alts):nE x.Body<nE e:=by rw[Gw e];have:=Kt h;have:=Qt x;omega
theorem Tv(e:af):e.Kids.length<nE e:=by rw[Gw];have:=Gv e.Kids;omega
theorem S1(e:af):e.Alts.length<nE e:=by rw[Gw];have:=Gu e.Alts;omega
def dQ(e:af):List af:=e.Kids++e.Alts.map (·.Body)
theorem Oz{e x:af}(h:x∈dQ e):nE x<nE e:=by
 rcases vaw.1 h with h|h
 ·exact O3 h
 ·obtain⟨a,ha,rfl⟩:=vah.1 h
  exact Ou ha
theorem Px:∀(l:List af) (m:List aJ),((l++m.map (·.Body)).map nE).sum<=DQ l+En m
 |[],[]=>by simp
 |[],a::m=>by
  have:=Px [] m
  have:=Qt a
  simp only[DQ,En,vaL,vaD,List.sum_cons]at *
  omega
 |x::l,m=>by
  have:=Px l m
  simp only[DQ,vaF,vaD,List.sum_cons]at *
  omega
theorem IW(e:af):(dQ e).length<nE e:=by
 rw[Gw]
 have:=Gv e.Kids
 have:=Gu e.Alts
 simp only[dQ,vav,vba]
 omega
theorem Zd{Q:af->Prop}(h:∀e,(∀x∈dQ e,Q x)->Q e):∀e,Q e:=by
 have key:∀(n:Nat) (e:af),nE e<=n->Q e:=by
  intro n
  induction n with
  |zero=>intro e he;have:=Pa e;omega
  |succ n ih=>exact fun e he=>h e fun x hx=>ih x (by have:=Oz hx;omega)
 exact fun e=>key _ e (vam _)
mutual
def eu:af->List af
 |⟨o,n,k,ks,ps,as1,ts⟩=>⟨o,n,k,ks,ps,as1,ts⟩::(LR ks++LP as1)
def RO:aJ->List af
 |⟨_,_,b⟩=>eu b
def LR:List af->List af
 |[]=>[]
 |e::l=>eu e++LR l
def LP:List aJ->List af
 |[]=>[]
 |a::l=>RO a++LP l
end
theorem Jb:∀(l:List af),LR l=l.flatMap eu
 |[]=>by rw[LR];rfl
 |e::l=>by rw[LR,Jb l];rfl
theorem TC(a:aJ):RO a=eu a.Body:=by obtain⟨c,ns,b⟩:=a;rw[RO];rfl
theorem Ja:∀(l:List aJ),LP l=(l.map (·.Body)).flatMap eu
 |[]=>by rw[LP];rfl
 |a::l=>by rw[LP,Ja l,TC];rfl
theorem Ic(e:af):eu e=e::(dQ e).flatMap eu:=by
 obtain⟨o,n,k,ks,ps,as1,ts⟩:=e
 rw[eu,Jb,Ja,dQ,vcB]
 rfl
theorem SC:∀(e:af),(eu e).length<=nE e:=by
 refine Zd fun e ih=>?_
 rw[Ic,vaO,vcC]
 have h1:=Px e.Kids e.Alts
 have h2:((dQ e).map fun x=>(eu x).length).sum<=((dQ e).map nE).sum:=by
  have:∀(l:List af),(∀x∈l,(eu x).length<=nE x)->(l.map fun x=>(eu x).length).sum<=(l.map nE).sum:=by
   intro l
   induction l with
   |nil=>intro _;simp
   |cons x l ihl=>
    intro hx
    have a:=hx x (by simp)
    have b:=ihl fun y hy=>hx y (by simp[hy])
    simp only[vaD,List.sum_cons];omega
  exact this _ ih
 have h3:=Gw e
 unfold dQ at *
 omega
theorem UI{X Y:Type}{F:(X->Option Y)->X->Option Y}(μ:X->Nat)(Q:X->Prop)(s:X->Option Y)(h:∀(R:X->Option Y) x,Q x->(∀y,μ y<μ x->Q y->R y=s y)->F R x=s x)(x:X)(hx:Q x)(hm:μ x<Wj):rE F x=s x:=by
 have key:∀n x,μ x<n->Q x->Yr F n x=s x:=by
  intro n
  induction n with
  |zero=>intro x hx;omega
  |succ n ih=>intro x hx hq;exact h _ x hq fun y hy hqy=>ih y (by omega) hqy
 exact key _ x hm hx
def DH{α S:Type}(F:S->α->Option (Bool×S)):List α->S->Option (Bool×S)
 |[],s=>some (true,s)
 |x::l,s=>(F s x).bind fun r=>match r.1 with
  |false=>some (false,r.2)
  |true=>DH F l r.2
theorem Fa{α S:Type}(F:S->α->Option (Bool×S)):∀(l m:List α) (s:S),DH F (l++m) s=(DH F l s).bind fun r=>match r.1 with
  |false=>some (false,r.2)
  |true=>DH F m r.2
 |[],m,s=>rfl
 | x :: l,m,s => by
  rw[vaF,DH,DH]
  cases h:F s x with
  |none=>rfl
  |some r=>
   obtain⟨b,s'⟩:=r
   cases b with
   |false=>rfl
   |true=>exact Fa F l m s'
theorem NH{α S:Type}{F G:S->α->Option (Bool×S)}:∀{l:List α},(∀x∈l,∀s,F s x=G s x)->∀s,DH F l s=DH G l s
 |[],_,s=>rfl
 |x::l,h,s=>by
  rw[DH,DH,h x (by simp)]
  congr 1
  funext r
  rw[NH (l:=l) fun y hy=>h y (by simp[hy])]
theorem St{α β S:Type}(F:S->β->Option (Bool×S))(g:α->β):∀(l:List α) (s:S),DH F (l.map g) s=DH (fun s x=>F s (g x)) l s
 |[],s=>rfl
 |x::l,s=>by
  rw[vaD,DH,DH]
  congr 1
  funext r
  rw[St F g l]
theorem Qb{α β S:Type}(F:S->β->Option (Bool×S))(g:α->List β):∀(l:List α) (s:S),DH F (l.flatMap g) s=DH (fun s x=>DH F (g x) s) l s
 |[],s=>rfl
 |x::l,s=>by
  rw[vcH,Fa,DH]
  congr 1
  funext r
  rw[Qb F g l]
theorem SA{α S:Type}(l:List α)(hl:l.length<9223372036854775808)(body:Int×S->Option ((Int×S)⊕(S⊕S)))(F:S->α->Option (Bool×S))
  (hin:∀(i:Nat) (h:i<l.length) s,body ((i:Int),s)=(F s l[i]).bind fun r=>match r.1 with|false=>some (.inr (.inl r.2))|true=>some (.inl (bB ((i:Int)+1),r.2)))
  (hend:∀s,body ((l.length:Int),s)=some (.inr (.inr s))) (s:S):loop body (0,s)=(DH F l s).bind fun r=>match r.1 with|false=>some (.inl r.2)|true=>some (.inr r.2):=by
 have key:∀(k i:Nat) (s:S),i+k=l.length->loop body ((i:Int),s)=(DH F (l.drop i) s).bind fun r=>match r.1 with|false=>some (.inl r.2)|true=>some (.inr r.2):=by
  intro k
  induction k with
  |zero=>
   intro i s hi
   have:i=l.length:=by omega
   subst this
   rw[lp,hend,vcn]
   rfl
  | succ k ih =>
   intro i s hi
   have hlt:i<l.length:=by omega
   rw[lp,hin i hlt,vbo hlt,DH]
   cases hF:F s l[i]with
   |none=>rfl
   | some r =>
    obtain⟨b,s'⟩:=r
    cases b with
    |false=>rfl
    |true=>
     have:=ih (i+1) s' (by omega)
     simp only[vab]
     rw[cH (by omega) (by omega),show((i:Int)+1)=((i+1:Nat):Int) by omega]
     exact this
 have:=key l.length 0 s (by omega)
 exact this
theorem W0{S:Type}{F:(af×S->Option (Bool×S))->af×S->Option (Bool×S)}(step:S->af->Option (Bool×S))
  (hF:∀(R:af×S->Option (Bool×S)) e s,nE e<=sw->F R (e,s)=(step s e).bind fun r=>match r.1 with
   |false=>some (false,r.2)
   |true=>DH (fun s x=>R (x,s)) (dQ e) r.2) (e:af) (s:S) (he:nE e<=sw):rE F (e,s)=DH step (eu e) s:=by
 refine UI (fun x=>nE x.1) (fun x=>nE x.1<=sw) (fun x=>DH step (eu x.1) x.2) (fun R x hx ih=>?_) (e,s) he (Co he)
 obtain⟨e,s⟩:=x
 show F R (e,s)=DH step (eu e) s
 rw[hF R e s hx,Ic,DH]
 congr 1
 funext r
 cases r.1 with
 |false=>rfl
 |true=>
  rw[Qb]
  refine NH (fun x hx2 s=>?_) r.2
  have:=Oz hx2
  exact ih (x,s) this (vaB (Nat.le_of_lt this) hx)
theorem Uf{S:Type}(W:S->af->Option (Bool×S))(e:af)(he:nE e<=sw)(s:S)(b1 b2:Int×S->Option ((Int×S)⊕(S⊕S))){k1 k2:S⊕S->Option (Bool×S)}
  (h1:∀(i:Nat) (h:i<e.Kids.length) s,b1 ((i:Int),s)=(W s e.Kids[i]).bind fun r=>if(!r.1)=true then some (.inr (.inl r.2))else some (.inl (bB ((i:Int)+1),r.2))) (h1e:∀s,b1 ((e.Kids.length:Int),s)=some (.inr (.inr s)))
  (h2:∀(i:Nat) (h:i<e.Alts.length) s,b2 ((i:Int),s)=(W s e.Alts[i].Body).bind fun r=>if(!r.1)=true then some (.inr (.inl r.2))else some (.inl (bB ((i:Int)+1),r.2))) (h2e:∀s,b2 ((e.Alts.length:Int),s)=some (.inr (.inr s)))
  (g1:∀o,k1 (.inl o)=some (false,o)) (g2:∀o,k1 (.inr o)=(loop b2 (0,o)).bind k2) (g3:∀o,k2 (.inl o)=some (false,o)) (g4:∀o,k2 (.inr o)=some (true,o)):
  (loop b1 (0,s)).bind k1=DH W (dQ e) s:=by
 have l1:=Tv e
 have l2:=S1 e
 unfold sw at he
 rw[SA e.Kids (by omega) b1 W (fun i h s=>by rw[h1 i h s];congr 1;funext r;cases r.1<;>rfl) h1e s,dQ,Fa]
 cases h:DH W e.Kids s with
 |none=>rfl
 | some r =>
  obtain⟨b,s'⟩:=r
  cases b with
  |false=>exact g1 s'
  | true =>
   simp only[vab]
   rw[g2,SA e.Alts (by omega) b2 (fun s a=>W s a.Body) (fun i h s=>by rw[h2 i h s];congr 1;funext r;cases r.1<;>rfl) h2e s',St]
   cases h:DH (fun s a=>W s a.Body) e.Alts s' with
   |none=>rfl
   |some r=>
    obtain⟨b,s''⟩:=r
    cases b with
    |false=>exact g3 s''
    |true=>exact g4 s''
theorem lm{σ X:Type}(n:Nat)(body:σ->Option (σ⊕X))(S:Nat->σ)(e:X)(hin:∀i,i<n->body (S i)=some (.inl (S (i+1))))(hend:body (S n)=some (.inr e)):loop body (S 0)=some e:=by
 have key:∀k i,k+i=n->loop body (S i)=some e:=by
  intro k
  induction k with
  |zero=>
   intro i hi
   have:i=n:=by omega
   subst this
   exact Dt hend
  |succ k ih=>
   intro i hi
   rw[TA (hin i (by omega))]
   exact ih (i+1) (by omega)
 exact key n 0 (by omega)
theorem Kk(e:af)(s:Int)(he:nE e<=sw):ou e s=DH (fun s x=>ja x s) (eu e) s:=by
 refine W0 (F:=mr) (fun s x=>ja x s) (fun R e s he=>?_) e s he
 show jq (fun e k=>R (e,k)) e s=_
 unfold jq
 congr 1
 funext r
 obtain⟨b,s'⟩:=r
 cases b with
 |false=>rfl
 | true =>
  rw[vaz (show ¬((!(true,s').1)=true) by simp)]
  refine Uf (fun s x=>R (x,s)) e he s' (fun zz=>di (fun e k=>R (e,k)) e.Kids e.Kids.length zz.1 zz.2) (fun zz=>dl (fun e k=>R (e,k)) e.Alts e.Alts.length zz.1 zz.2) (fun i h s=>?_) (fun s=>?_) (fun i h s=>?_) (fun s=>?_) (fun _=>rfl) (fun _=>rfl) (fun _=>rfl) (fun _=>rfl)
  ·show di (fun e k=>R (e,k)) e.Kids e.Kids.length i s=_
   unfold di
   rw[vax (by simpa using h),cE _ _ h];rfl
  ·show di (fun e k=>R (e,k)) e.Kids e.Kids.length e.Kids.length s=_
   unfold di
   rw[vaz (by simp)]
  ·show dl (fun e k=>R (e,k)) e.Alts e.Alts.length i s=_
   unfold dl
   rw[vax (by simpa using h),cE _ _ h];rfl
  ·show dl (fun e k=>R (e,k)) e.Alts e.Alts.length e.Alts.length s=_
   unfold dl
   rw[vaz (by simp)]
theorem Uq(e:af)(he:nE e<=sw):lu e=some ((eu e).length:Int):=by
 have hB:nE e<=1073741824:=he
 have hn:=SC e
 have key:∀(l:List af) (k:Nat),k+l.length<=1073741824->DH (fun s x=>ja x s) l (k:Int)=some (true,((k+l.length:Nat):Int)):=by
  intro l
  induction l with
  |nil=>intro k _;rfl
  | cons x l ih =>
   intro k hk
   simp only[vaO]at hk
   have e1:ja x (k:Int)=some (true,((k+1:Nat):Int)):=by
    unfold ja
    rw[cH (by omega) (by omega)];rfl
   rw[DH,e1]
   show DH _ l ((k+1:Nat):Int)=_
   rw[ih (k+1) (by omega)]
   simp only[vaO]
   congr 3;omega
 unfold lu
 rw[Kk e 0 he]
 have:=key (eu e) 0 (by omega)
 rw[vaI]at this
 rw[show(0:Int)=((0:Nat):Int)from rfl,this];rfl
theorem S7(e:af)(he:nE e<=sw):z6 e=some (dQ e):=by
 have hB:nE e<=1073741824:=he
 have l1:=IW e
 have l2:e.Kids.length+e.Alts.length<nE e:=by simpa[dQ]using l1
 unfold z6
 rw[iJ (by simp;omega)]
 show(oC e ([]++e.Kids) 0).bind _=_
 have h:=lm e.Alts.length (fun zz:(List af)×Int=>iz e zz.1 zz.2) (fun i=>(e.Kids++(e.Alts.take i).map (·.Body),(i:Int))) (dQ e) (fun i hi=>?_) ?_
 ·rw[vaL]
  have h':oC e e.Kids 0=some (dQ e):=by unfold oC;simpa using h
  rw[h'];rfl
 ·show iz e _ (i:Int)=_
  unfold iz
  rw[vax (by simpa using hi),cE _ _ hi,vab,iJ (by simp;omega),vab,cH (by omega) (by omega),vaq hi,vbi,<-vbv]
  rfl
 ·show iz e _ (e.Alts.length:Int)=_
  unfold iz
  rw[vaz (by simp),vaP];rfl
theorem Yd{l:List af}{n:Nat}(h:(l.map fun x=>(eu x).length).sum<=n)(i:Nat):((l.take i).map fun x=>(eu x).length).sum<=n:=by
 have e1:l.take i++l.drop i=l:=vcr i l
 have:(l.map fun x=>(eu x).length).sum=((l.take i).map fun x=>(eu x).length).sum+((l.drop i).map fun x=>(eu x).length).sum:=by rw[<-List.sum_append,<-vbi,e1]
 omega
theorem TX(e:af)(he:nE e<=sw):Hz e=some ((eu e).length:Int):=by
 have hB:nE e<=1073741824:=he
 refine OS (F:=BO) nE (fun x=>nE x<=sw) (fun x=>((eu x).length:Int)) (fun R e he ih=>?_) e he (Co he)
 have hB:nE e<=1073741824:=he
 show xx (fun e=>R e) e=_
 unfold xx
 rw[S7 e he,vab]
 have hn:=SC e
 have hlen:=IW e
 have e1:(eu e).length=1+((dQ e).map fun x=>(eu x).length).sum:=by rw[Ic,vaO,vcC];omega
 have hs:((dQ e).map fun x=>(eu x).length).sum<=1073741824:=by omega
 have h:=lm (dQ e).length (fun zz:Int×Int=>iY (fun e=>R e) (dQ e) zz.1 zz.2) (fun i=>(((1+(((dQ e).take i).map fun x=>(eu x).length).sum:Nat):Int),(i:Int))) (((eu e).length:Nat):Int) (fun i hi=>?_) ?_
 ·have h':uU (fun e=>R e) (dQ e) 1 0=some ((eu e).length:Int):=by unfold uU;simpa using h
  rw[h'];rfl
 ·show iY (fun e=>R e) (dQ e) _ (i:Int)=_
  unfold iY
  have hm:(dQ e)[i]∈dQ e:=vaN hi
  have hlt:=Oz hm
  have s1:=Yd hs (i+1)
  have s2:(((dQ e).take (i+1)).map fun x=>(eu x).length).sum=(((dQ e).take i).map fun x=>(eu x).length).sum+(eu (dQ e)[i]).length:=by
   rw[vaq hi,vbi,List.sum_append];simp
  rw[vax (by simpa using hi),cE _ _ hi,vab]
  show(R _).bind _=_
  rw[ih _ hlt (by unfold sw;omega),vab]
  dsimp only
  rw[cH (by omega) (by omega),cH (by omega) (by omega)]
  congr 3;omega
 ·show iY (fun e=>R e) (dQ e) _ ((dQ e).length:Int)=_
  unfold iY
  rw[vaz (by simp),vaP]
  congr 2;omega
section
variable{α β σ τ X Y:Type}
theorem LH(l:List α)(hl:l.length<9223372036854775808)(mk:Int->τ)(body:τ->Option (τ⊕X))(f:α->Option X)(e:X)
  (hin:∀(i:Nat) (h:i<l.length),body (mk (i:Int))=some ((f l[i]).elim (.inl (mk (bB ((i:Int)+1)))) .inr)) (hend:body (mk l.length)=some (.inr e)):loop body (mk 0)=some ((l.findSome? f).elim e id):=by
 have key:∀k i,k+i=l.length->loop body (mk (i:Int))=some (((l.drop i).findSome? f).elim e id):=by
  intro k
  induction k with
  |zero=>
   intro i hi
   have:i=l.length:=by omega
   subst this
   rw[lp,hend,vcn]
   rfl
  | succ k ih =>
   intro i hi
   rw[lp,hin i (by omega),vbo (by omega),List.findSome?_cons]
   cases h:f l[i]with
   |none=>
    simp only[Option.elim]
    rw[cH (by omega) (by omega),show((i:Int)+1)=((i+1:Nat):Int) by omega]
    exact ih (i+1) (by omega)
   |some y=>rfl
 have:=key l.length 0 (by omega)
 rw[vbF]at this
 exact this
end
theorem V9{a b:Bool}:(if a=true then some b else some false)=some (a&&b):=by cases a<;>rfl
theorem qbK{a b:Bool}:(if a=true then some true else some b)=some (a||b):=by cases a<;>rfl
theorem Ws{α:Type}[DecidableEq α]{a b:List α}(ha:a.length<=sw)(body:Int->Option (Int⊕(Unit⊕Unit)))
  (hin:∀(i:Nat) (h1:i<a.length) (h2:i<b.length),body (i:Int)=some (if decide (a[i]=b[i])=true then .inl (bB ((i:Int)+1))else .inr (.inl ()))) (hend:body (a.length:Int)=some (.inr (.inr ()))) {k:Unit⊕Unit->Option Bool} (g1:k (.inl ())=some false) (g2:k (.inr ())=some true):
  (if((a.length:Int)!=(b.length:Int))=true then some false else(loop body 0).bind k)=some (decide (a=b)):=by
 by_cases hl:a.length=b.length
 ·rw[vaz (by simp[hl]),U5 hl (by unfold sw at ha;omega) body (.inl ()) (.inr ()) hin hend]
  by_cases he:a=b
  ·simp only[he,decide_true,if_true,vab];exact g2
  ·simp only[he,decide_false,vbr,if_false,vab];exact g1
 ·rw[vax (by simp;omega),decide_eq_false (fun he=>hl (by rw[he]))]
theorem TW{a b:List ae}(ha:a.length<=sw):j5 a b=some (decide (a=b)):=by
 unfold j5 sq
 refine Ws ha _ (fun i h1 h2=>?_) ?_ rfl rfl
 ·show gj a b (i:Int)=_
  unfold gj
  rw[vax (by simpa using h1),cE a i h1]
  simp only[vab]
  rw[cE b i h2]
  simp only[vab]
  by_cases he:a[i]=b[i]<;>simp[he]
 ·show gj a b (a.length:Int)=_
  unfold gj
  rw[vaz (by simp)]
mutual
def wT:ai->Nat
 |⟨_,_,xs,_,p,ps⟩=>nP p+nL ps+Rb xs
def Rb:List ai->Nat
 |[]=>0
 |a::xs=>wT a+Rb xs
end
theorem ZE(t:ai):wT t=nP t.Pred+nL t.Preds+Rb t.Args:=by obtain⟨o,n,xs,ns,p,ps⟩:=t;rw[wT];rfl
theorem VN(l:List ai)(i:Nat)(h:i<l.length):Rb (l.take (i+1))=Rb (l.take i)+wT l[i]:=by
 have key:∀(a b:List ai),Rb (a++b)=Rb a+Rb b:=by
  intro a b
  induction a with
  |nil=>simp[Rb]
  |cons x a ih=>rw[vaF,Rb,Rb,ih];omega
 rw[vaq h,key]
 simp[Rb]
theorem E5{α:Type}{l:List α}{i:Nat}{n most:Int}(h:i<l.length)(hm:n<=most):(if(decide ((i:Int)<(l.length:Int)))=true then some (decide (n<=most))else some false)=some true:=by
 rw[vax (by simp;omega),decide_eq_true hm]
theorem An{α:Type}{l:List α}{i:Nat}{n most:Int}(h:i=l.length\/¬n<=most):(if(decide ((i:Int)<(l.length:Int)))=true then some (decide (n<=most))else some false)=some false:=by
 by_cases hi:i<l.length
 ·rw[vax (by simp;omega)]
  rcases h with h|h
  ·omega
  ·rw[decide_eq_false h]
 ·rw[vaz (by simp;omega)]
theorem AQ{α:Type}(l:List α)(hl:l.length<9223372036854775808){body:Int×Int->Option ((Int×Int)⊕Int)}(most:Int)(I:Nat->Int->Prop)
  (hin:∀(i:Nat) (h:i<l.length) n,I i n->n<=most->rC (body (n,(i:Int))) (fun r=>∃n',r=.inl (n',bB ((i:Int)+1))/\I (i+1) n'))
  (hout:∀(i:Nat) n,i<=l.length->(i=l.length\/¬n<=most)->body (n,(i:Int))=some (.inr n)) (n:Int) (h0:I 0 n):rC (loop body (n,0)) (fun r=>∃i,i<=l.length/\I i r/\(i=l.length\/¬r<=most)):=by
 have key:∀k i n,k+i=l.length->I i n->rC (loop body (n,(i:Int))) (fun r=>∃i,i<=l.length/\I i r/\(i=l.length\/¬r<=most)):=by
  intro k
  induction k with
  |zero=>
   intro i n hi hI
   rw[lp,hout i n (by omega) (.inl (by omega))]
   exact bP ⟨i,by omega,hI,.inl (by omega)⟩
  | succ k ih =>
   intro i n hi hI
   by_cases hm:n<=most
   ·obtain⟨r,e,n',rfl,hI'⟩:=hin i (by omega) n hI hm
    rw[lp,e]
    simp only
    rw[cH (by omega) (by omega),show((i:Int)+1)=((i+1:Nat):Int) by omega]
    exact ih (i+1) n' (by omega) hI'
   ·rw[lp,hout i n (by omega) (.inr hm)]
    exact bP ⟨i,by omega,hI,.inr hm⟩
 exact key l.length 0 n (by omega) h0
theorem Iq(a b:Nat)(hb:0<b)(ha:a<9223372036854775808):qu .i64 (a:Int) (b:Int)=some ((a / b:Nat):Int):=by
 unfold qu
 rw[vaz (by omega)]
 have h:((a:Int).tdiv (b:Int))=((a / b:Nat):Int):=by
  rw[Int.tdiv_eq_ediv_of_nonneg (by omega)];rfl
 rw[h]
 have h2:=vbB a b
 generalize a / b=q at *
 congr 1
 exact cH (by omega) (by omega)
theorem GR(p:am):jM (al p)=1+(p.Name.length+1+(1+(cN (p.Kids.map al)+1+0))):=by
 rw[cx];simp only[jM,pm,sl]
theorem vU{α:Type}(c:α->List PVal)(l:List α)(i:Nat)(h:i<l.length):cN ((l.take (i+1)).map c)=cN ((l.take i).map c)+jM (c l[i]):=by
 rw[vaq h,vbi]
 have:∀(a b:List (List PVal)),cN (a++b)=cN a+cN b:=by
  intro a
  induction a with
  |nil=>intro b;simp[cN]
  |cons x a ih=>intro b;rw[vaF,cN,ih,cN];omega
 rw[this]
 simp[cN]
theorem fg{α:Type}(c:α->List PVal)(l:List α)(i:Nat):cN ((l.take i).map c)<=cN (l.map c):=by
 have:∀(l:List α) (i:Nat),cN ((l.take i).map c)<=cN (l.map c):=by
  intro l
  induction l with
  |nil=>intro i;simp
  |cons x l ih=>
   intro i
   cases i with
   |zero=>simp[cN]
   |succ i=>have:=ih i;simp only[List.take_succ_cons,vaD,cN];omega
 exact this l i
theorem pS{α:Type}(c:α->List PVal)(h:∀x,1<=jM (c x)):∀(l:List α),l.length<=cN (l.map c)
 |[]=>by simp
 |x::l=>by have:=pS c h l;have:=h x;simp only[vaD,cN,vaO];omega
theorem Vw(p:am):1<=jM (al p):=by rw[GR];omega
theorem Qw(l:List am):nL (l.take l.length)=nL l:=by rw[vaP]
abbrev Gt:Nat:=4000000
structure YZ(l:List am)(most r:Int):Prop where
 lo:0<=r
 hi:r<=(cN (l.map al):Int)
 sm:r<=most->(nL l:Int)<=r
theorem WR(l:List am)(most:Int)(hl:cN (l.map al)<=Gt)(h1: -8000000<=most)(h2:most<=1000000000):rC (HJ l most) (YZ l most):=by
 refine Ho (F:=BZ) (fun x=>cN (x.1.map al)) (fun x=>cN (x.1.map al)<=Gt/\-8000000<=x.2/\x.2<=1000000000) (fun x r=>YZ x.1 x.2 r) (fun R x hx ih=>?_) (l,most) ⟨hl,h1,h2⟩ (Co (vaB hl (by decide)))
 obtain⟨l,most⟩:=x
 obtain⟨hl,h1,h2⟩:=hx
 have hl:cN (l.map al)<=Gt:=hl
 have h1: -8000000<=most:=h1
 have h2:most<=1000000000:=h2
 have hlen:=pS al Vw l
 show rC (xE (fun a most=>R (a,most)) l most) _
 unfold xE Aa
 unfold Gt at hl
 refine dE (AQ l (by omega) most (fun i n=>0<=n/\n<=(cN ((l.take i).map al):Int)/\(n<=most->(nL (l.take i):Int)<=n)) (fun i hi n hI hm=>?_) (fun i n _ h=>?_) 0 ⟨by omega,by omega,fun _=>by simp[nL]⟩) (fun r hr=>bP ?_)
 ·obtain⟨g1,g2,g3⟩:=hI
  have e:=vU al l i hi
  have e2:=fg al l (i+1)
  have ep:=GR l[i]
  have en:=WH l i hi
  have enp:=Xa l[i]
  show rC (ku (fun a most=>R (a,most)) l most n i) _
  unfold ku uY
  rw[E5 hi hm,cE l i hi]
  simp only[vab,if_true]
  have hq:=vbB l[i].Name.length 50
  rw[show(50:Int)=((50:Nat):Int)from rfl,Iq _ 50 (by omega) (by omega)]
  simp only[vab]
  rw[cH (n:=n+1) (by omega) (by omega),cH (n:=n+1+_) (by omega) (by omega),cH (n:=most - _) (by omega) (by omega)]
  refine dE (ih (l[i].Kids,most - (n+1+((l[i].Name.length / 50:Nat):Int))) (by show _<cN (l.map al);show cN (l[i].Kids.map al)<_;omega) ⟨by show cN (l[i].Kids.map al)<=Gt;unfold Gt;omega,by show -8000000<=most - _;omega,by show most - _<=1000000000;omega⟩) (fun r hr=>?_)
  have q1:=hr.lo
  have q2:r<=(cN (l[i].Kids.map al):Int):=hr.hi
  have q3:r<=most - (n+1+((l[i].Name.length / 50:Nat):Int))->(nL l[i].Kids:Int)<=r:=hr.sm
  rw[cH (n:=n+1+_+r) (by omega) (by omega)]
  refine bP ⟨_,rfl,by omega,by omega,fun hm'=>?_⟩
  have:=q3 (by omega)
  have:=g3 hm
  omega
 ·show ku (fun a most=>R (a,most)) l most n i=_
  unfold ku uY
  rw[An h]
  rfl
 ·obtain⟨i,hi,⟨g1,g2,g3⟩,h⟩:=hr
  have e2:=fg al l i
  refine⟨g1,by show r<=(cN (l.map al):Int);omega,fun hm=>?_⟩
  have hm:r<=most:=hm
  have:i=l.length:=by
   rcases h with h|h
   ·exact h
   ·exact absurd hm h
  subst this
  rw[Qw]at g3
  exact g3 hm
theorem RK(l:List ai)(i:Nat)(h:i<l.length):uH (l.take (i+1))=uH (l.take i)+WF l[i]:=by
 have ap:∀(a b:List ai),uH (a++b)=uH a+uH b:=by
  intro a
  induction a with
  |nil=>intro b;simp[uH]
  |cons x a ih=>intro b;rw[vaF,uH,ih,uH];omega
 rw[vaq h,ap]
 simp[uH]
theorem QM(t:ai):1<=jM (ah t):=by rw[QL];omega
theorem TP(t:ai):jM (ah t)=1+(t.Name.length+1)+(cN (t.Args.map ah)+1)+(cN (t.Names.map cS)+1)+jM (al t.Pred)+(cN (t.Preds.map al)+1):=by
 rw[QL,GR];simp only[pm,sl];omega
structure Y0(l:List ai)(most r:Int):Prop where
 lo:0<=r
 hi:r<=(cN (l.map ah):Int)
 sm:r<=most->(uH l:Int)<=r/\(Rb l:Int)<=r
theorem SS(l:List ai)(most:Int)(hl:cN (l.map ah)<=Gt)(h1: -8000000<=most)(h2:most<=1000000000):rC (De l most) (Y0 l most):=by
 refine Ho (F:=B5) (fun x=>cN (x.1.map ah)) (fun x=>cN (x.1.map ah)<=Gt/\-8000000<=x.2/\x.2<=1000000000) (fun x r=>Y0 x.1 x.2 r) (fun R x hx ih=>?_) (l,most) ⟨hl,h1,h2⟩ (Co (vaB hl (by decide)))
 obtain⟨l,most⟩:=x
 obtain⟨hl,h1,h2⟩:=hx
 have hl:cN (l.map ah)<=Gt:=hl
 have h1: -8000000<=most:=h1
 have h2:most<=1000000000:=h2
 have hlen:=pS ah QM l
 show rC (xI (fun a most=>R (a,most)) l most) _
 unfold xI Ab
 unfold Gt at hl
 refine dE (AQ l (by omega) most (fun i n=>0<=n/\n<=(cN ((l.take i).map ah):Int)/\(n<=most->(uH (l.take i):Int)<=n/\(Rb (l.take i):Int)<=n)) (fun i hi n hI hm=>?_) (fun i n _ h=>?_) 0 ⟨by omega,by omega,fun _=>by simp[uH,Rb]⟩) (fun r hr=>bP ?_)
 ·obtain⟨g1,g2,g3⟩:=hI
  have e:=vU ah l i hi
  have e2:=fg ah l (i+1)
  have ep:=TP l[i]
  have epp:=GR l[i].Pred
  have en:=RK l i hi
  have en2:=VN l i hi
  have enp:=WG l[i]
  have enp2:=ZE l[i]
  have hns:=Qm l[i].Names
  have hps:=Zf l[i].Preds
  have hpl:=RM l[i].Preds
  show rC (kv (fun a most=>R (a,most)) l most n i) _
  unfold kv uZ
  rw[E5 hi hm,cE l i hi]
  simp only[vab,if_true]
  have hq:=vbB l[i].Name.length 50
  rw[show(50:Int)=((50:Nat):Int)from rfl,Iq _ 50 (by omega) (by omega)]
  simp only[vab]
  rw[iJ (by simp;omega)]
  simp only[vab]
  refine dE (WR ([l[i].Pred]++l[i].Preds) most (by unfold Gt;simp only[List.singleton_append,vaD,cN];omega) h1 h2) (fun rp hp=>?_)
  have p1:=hp.lo
  have p2:rp<=((jM (al l[i].Pred)+cN (l[i].Preds.map al):Nat):Int):=by
   have:=hp.hi
   simp only[List.singleton_append,vaD,cN]at this
   exact this
  have p3:rp<=most->((nP l[i].Pred+nL l[i].Preds:Nat):Int)<=rp:=by
   have:=hp.sm
   simp only[List.singleton_append,nL]at this
   exact this
  rw[cH (n:=n+1) (by omega) (by omega),cH (n:=n+1+_) (by omega) (by omega),cH (n:=n+1+_+_) (by omega) (by omega),cH (n:=n+1+_+_+_) (by omega) (by omega),cH (n:=most - _) (by omega) (by omega)]
  refine dE (ih (l[i].Args,most - (n+1+((l[i].Name.length / 50:Nat):Int)+(l[i].Names.length:Int)+rp)) (by show _<cN (l.map ah);show cN (l[i].Args.map ah)<_;omega) ⟨by show cN (l[i].Args.map ah)<=Gt;unfold Gt;omega,by show -8000000<=most - _;omega,by show most - _<=1000000000;omega⟩) (fun r hr=>?_)
  have q1:=hr.lo
  have q2:r<=(cN (l[i].Args.map ah):Int):=hr.hi
  have q3:r<=most - (n+1+((l[i].Name.length / 50:Nat):Int)+(l[i].Names.length:Int)+rp)->(uH l[i].Args:Int)<=r/\(Rb l[i].Args:Int)<=r:=hr.sm
  rw[cH (n:=_+r) (by omega) (by omega)]
  refine bP ⟨_,rfl,by omega,by omega,fun hm'=>?_⟩
  have:=q3 (by omega)
  have:=p3 (by omega)
  have:=g3 hm
  have:=Va l[i].Pred
  omega
 ·show kv (fun a most=>R (a,most)) l most n i=_
  unfold kv uZ
  rw[An h]
  rfl
 ·obtain⟨i,hi,⟨g1,g2,g3⟩,h⟩:=hr
  have e2:=fg ah l i
  refine⟨g1,by show r<=(cN (l.map ah):Int);omega,fun hm=>?_⟩
  have hm:r<=most:=hm
  have:i=l.length:=by
   rcases h with h|h
   ·exact h
   ·exact absurd hm h
  subst this
  rw[vaP]at g3
  exact g3 hm
theorem CD(e:af):jM (ac e)=1+(e.Name.length+1+(1+(cN (e.Kids.map ac)+1+(cN (e.Params.map au)+1+(cN (e.Alts.map aA)+1+(cN (e.Types.map ah)+1+0)))))):=by
 rw[bE];simp only[jM,pm,sl]
theorem Kx(a:aJ):jM (aA a)=a.Con.length+1+(cN (a.Names.map cS)+1+jM (ac a.Body)):=by
 obtain⟨c,ns,b⟩:=a
 rw[aA]
 show jM (PVal.str c::sl cS ns::ac b)=_
 simp only[jM,pm,sl];rfl
theorem NY(p:aw):jM (au p)=p.Name.length+1+jM (ah p.Type_):=by
 show jM (PVal.str p.Name::ah p.Type_)=_
 simp only[jM,pm]
theorem Vv(e:af):1<=jM (ac e):=by rw[CD];omega
theorem WQ(a:aJ):1<=jM (aA a):=by rw[Kx];omega
theorem NX(p:aw):1<=jM (au p):=by rw[NY];omega
theorem GQ{α:Type}(c:α->List PVal){l:List α}{x:α}(h:x∈l):jM (c x)<=cN (l.map c):=QI (vah.2 ⟨x,h,rfl⟩)
theorem X5{e x:af}(h:x∈e.Kids):jM (ac x)<jM (ac e):=by have:=GQ ac h;rw[CD e];omega
theorem X4{e:af}{a:aJ}(h:a∈e.Alts):jM (aA a)<jM (ac e):=by have:=GQ aA h;rw[CD e];omega
theorem Vu{e:af}{a:aJ}(h:a∈e.Alts):jM (ac a.Body)<jM (ac e):=by have:=X4 h;have:=Kx a;omega
mutual
theorem Qv:∀(e:af),nE e<=jM (ac e)
 |⟨o,n,k,ks,ps,as1,ts⟩=>by
  have h1:=U8 ks
  have h2:=U7 as1
  have h3:=pS au NX ps
  have h4:=pS ah QM ts
  rw[nE,CD]
  show _<=1+(n.length+1+(1+(cN (ks.map ac)+1+(cN (ps.map au)+1+(cN (as1.map aA)+1+(cN (ts.map ah)+1+0))))))
  omega
theorem Zi:∀(a:aJ),nA a<=jM (aA a)
 |⟨c,ns,b⟩=>by
  have h1:=Qv b
  have h2:=Qm ns
  rw[nA,Kx]
  show _<=c.length+1+(cN (ns.map cS)+1+jM (ac b))
  omega
theorem U8:∀(l:List af),DQ l<=cN (l.map ac)
 |[]=>by simp[DQ]
 |e::l=>by
  have:=Qv e
  have:=U8 l
  rw[DQ]
  simp only[vaD,cN]
  omega
theorem U7:∀(l:List aJ),En l<=cN (l.map aA)
 |[]=>by simp[En]
 |a::l=>by
  have:=Zi a
  have:=U7 l
  rw[En]
  simp only[vaD,cN]
  omega
end
theorem WI(l:List ae)(most:Int)(hl:cN (l.map cS)<=Gt):rC (Dd l most) (fun r=>0<=r/\r<=(cN (l.map cS):Int)):=by
 unfold Dd z8
 unfold Gt at hl
 have hlen:=Qm l
 refine dE (AQ l (by omega) most (fun i n=>0<=n/\n<=(cN ((l.take i).map cS):Int)) (fun i hi n hI hm=>?_) (fun i n _ h=>?_) 0 ⟨by omega,by omega⟩) (fun r hr=>bP ?_)
 ·obtain⟨g1,g2⟩:=hI
  have e:=vU cS l i hi
  have e2:=fg cS l (i+1)
  have e3:jM (cS l[i])=l[i].length+1:=by simp only[cS,jM,pm]
  show rC (kr l most n i) _
  unfold kr uX
  rw[E5 hi hm,cE l i hi]
  simp only[vab,if_true]
  have hq:=vbB l[i].length 50
  rw[show(50:Int)=((50:Nat):Int)from rfl,Iq _ 50 (by omega) (by omega)]
  simp only[vab]
  rw[cH (n:=n+1) (by omega) (by omega),cH (n:=n+1+_) (by omega) (by omega)]
  exact bP ⟨_,rfl,by omega,by omega⟩
 ·show kr l most n i=_
  unfold kr uX
  rw[An h]
  rfl
 ·obtain⟨i,hi,⟨g1,g2⟩,h⟩:=hr
  have e2:=fg cS l i
  exact⟨g1,by omega⟩
theorem YX(e:af)(most:Int)(he:jM (ac e)<=Gt)(h1: -4000000<=most)(h2:most<=1000000000):rC (KL e most) (fun r=>0<=r/\r<=(jM (ac e):Int)):=by
 refine Ho (F:=ET) (fun x=>jM (ac x.1)) (fun x=>jM (ac x.1)<=Gt/\-4000000<=x.2/\x.2<=1000000000) (fun x r=>0<=r/\r<=(jM (ac x.1):Int)) (fun R x hx ih=>?_) (e,most) ⟨he,h1,h2⟩ (Co (vaB he (by decide)))
 obtain⟨e,most⟩:=x
 obtain⟨he,h1,h2⟩:=hx
 have he:jM (ac e)<=Gt:=he
 have h1: -4000000<=most:=h1
 have h2:most<=1000000000:=h2
 have hpm:=CD e
 have l1:=pS au NX e.Params
 have l2:=pS ac Vv e.Kids
 have l3:=pS aA WQ e.Alts
 show rC (zV (fun e most=>R (e,most)) e most) (fun r=>0<=r/\r<=(jM (ac e):Int))
 unfold zV
 unfold Gt at he
 have hq:=vbB e.Name.length 50
 rw[show(50:Int)=((50:Nat):Int)from rfl,Iq _ 50 (by omega) (by omega)]
 simp only[vab]
 refine dE (SS e.Types most (by unfold Gt;omega) (by omega) h2) (fun rt ht=>?_)
 have t1:=ht.lo
 have t2:=ht.hi
 rw[cH (n:=1+_) (by omega) (by omega),cH (n:=1+_+rt) (by omega) (by omega)]
 generalize hb:(1:Int)+((e.Name.length / 50:Nat):Int)+rt=b0
 have b1:0<=b0:=by omega
 have b2:b0<=((1+e.Name.length+cN (e.Types.map ah):Nat):Int):=by omega
 refine dE (R:=fun r=>0<=r/\r<=b0+(cN (e.Params.map au):Int)) ?_ (fun r1 hr1=>?_)
 ·unfold BL
  refine(AQ e.Params (by omega) most (fun i n=>0<=n/\n<=b0+(cN ((e.Params.take i).map au):Int)) (fun i hi n hI hm=>?_) (fun i n _ h=>?_) b0 ⟨b1,by simp[cN]⟩).mono (fun r hr=>?_)
  ·obtain⟨g1,g2⟩:=hI
   have e1:=vU au e.Params i hi
   have e2:=fg au e.Params (i+1)
   have e3:=NY e.Params[i]
   show rC (ma most e n i) _
   unfold ma xu
   rw[E5 hi hm,cE e.Params i hi]
   simp only[vab,if_true]
   have hq:=vbB e.Params[i].Name.length 50
   rw[show(50:Int)=((50:Nat):Int)from rfl,Iq _ 50 (by omega) (by omega)]
   simp only[vab]
   refine dE (SS [e.Params[i].Type_] most (by unfold Gt;simp only[vaD,vbK,cN];omega) (by omega) h2) (fun rp hp=>?_)
   have p1:=hp.lo
   have p2:rp<=((jM (ah e.Params[i].Type_)+0:Nat):Int):=by
    have:=hp.hi
    simp only[vaD,vbK,cN]at this
    exact this
   rw[cH (n:=n+1) (by omega) (by omega),cH (n:=n+1+_) (by omega) (by omega),cH (n:=n+1+_+_) (by omega) (by omega)]
   exact bP ⟨_,rfl,by omega,by omega⟩
  ·show ma most e n i=_
   unfold ma xu
   rw[An h]
   rfl
  ·obtain⟨i,hi,⟨g1,g2⟩,h⟩:=hr
   have e2:=fg au e.Params i
   exact⟨g1,by omega⟩
 obtain⟨c1,c2⟩:=hr1
 refine dE (R:=fun r=>0<=r/\r<=r1+(cN (e.Kids.map ac):Int)) ?_ (fun r2 hr2=>?_)
 ·unfold BM
  refine(AQ e.Kids (by omega) most (fun i n=>0<=n/\n<=r1+(cN ((e.Kids.take i).map ac):Int)) (fun i hi n hI hm=>?_) (fun i n _ h=>?_) r1 ⟨c1,by simp[cN]⟩).mono (fun r hr=>?_)
  ·obtain⟨g1,g2⟩:=hI
   have e1:=vU ac e.Kids i hi
   have e2:=fg ac e.Kids (i+1)
   have hk:=X5 (vaN hi)
   show rC (mb (fun e most=>R (e,most)) most e n i) _
   unfold mb xv
   rw[E5 hi hm,cE e.Kids i hi]
   simp only[vab,if_true]
   rw[cH (n:=most - n) (by omega) (by omega)]
   refine dE (ih (e.Kids[i],most - n) hk ⟨by show jM (ac e.Kids[i])<=Gt;unfold Gt;omega,by show -4000000<=most - n;omega,by show most - n<=1000000000;omega⟩) (fun r hr=>?_)
   have q1:0<=r:=hr.1
   have q2:r<=(jM (ac e.Kids[i]):Int):=hr.2
   rw[cH (n:=n+r) (by omega) (by omega)]
   exact bP ⟨_,rfl,by omega,by omega⟩
  ·show mb (fun e most=>R (e,most)) most e n i=_
   unfold mb xv
   rw[An h]
   rfl
  ·obtain⟨i,hi,⟨g1,g2⟩,h⟩:=hr
   have e2:=fg ac e.Kids i
   exact⟨g1,by omega⟩
 obtain⟨d1,d2⟩:=hr2
 refine dE (R:=fun r=>0<=r/\r<=r2+(cN (e.Alts.map aA):Int)) ?_ (fun r3 hr3=>bP ⟨hr3.1,by have:=hr3.2;omega⟩)
 unfold BN
 refine(AQ e.Alts (by omega) most (fun i n=>0<=n/\n<=r2+(cN ((e.Alts.take i).map aA):Int)) (fun i hi n hI hm=>?_) (fun i n _ h=>?_) r2 ⟨d1,by simp[cN]⟩).mono (fun r hr=>?_)
 ·obtain⟨g1,g2⟩:=hI
  have e1:=vU aA e.Alts i hi
  have e2:=fg aA e.Alts (i+1)
  have e3:=Kx e.Alts[i]
  have hk:=Vu (vaN hi)
  show rC (mc (fun e most=>R (e,most)) most e n i) _
  unfold mc xw
  rw[E5 hi hm,cE e.Alts i hi]
  simp only[vab,if_true]
  have hq:=vbB e.Alts[i].Con.length 50
  rw[show(50:Int)=((50:Nat):Int)from rfl,Iq _ 50 (by omega) (by omega)]
  simp only[vab]
  refine dE (WI e.Alts[i].Names most (by unfold Gt;omega)) (fun rn hn=>?_)
  obtain⟨n1,n2⟩:=hn
  rw[cH (n:=n+1) (by omega) (by omega),cH (n:=n+1+_) (by omega) (by omega),cH (n:=n+1+_+_) (by omega) (by omega),cH (n:=most - _) (by omega) (by omega)]
  refine dE (ih (e.Alts[i].Body,most - (n+1+((e.Alts[i].Con.length / 50:Nat):Int)+rn)) hk ⟨by show jM (ac e.Alts[i].Body)<=Gt;unfold Gt;omega,by show -4000000<=most - _;omega,by show most - _<=1000000000;omega⟩) (fun r hr=>?_)
  have q1:0<=r:=hr.1
  have q2:r<=(jM (ac e.Alts[i].Body):Int):=hr.2
  rw[cH (n:=_+r) (by omega) (by omega)]
  exact bP ⟨_,rfl,by omega,by omega⟩
 ·show mc (fun e most=>R (e,most)) most e n i=_
  unfold mc xw
  rw[An h]
  rfl
 ·obtain⟨i,hi,⟨g1,g2⟩,h⟩:=hr
  have e2:=fg aA e.Alts i
  exact⟨g1,by omega⟩
def I5(l:List ae)(s:ae):Int:=match l.findIdx? (fun x=>x==s)with|some j=>(j:Int)|none=>-1
theorem IJ(l:List ae)(s:ae)(hl:l.length<9223372036854775808):FW l s=some (I5 l s):=by
 unfold FW BI
 have:=NN l hl (fun zz=>oz l s l.length zz) (fun x=>x==s) (fun j=>Sum.inl (j:Int)) (Sum.inr ()) (fun i h=>by
  simp only[oz]
  rw[vax (by simp;omega),cE _ i h]
  simp only[vab]
  split<;>simp_all) (by simp only[oz];rw[vaz (by simp)])
 rw[this]
 unfold I5
 cases l.findIdx? (fun x=>x==s)<;>rfl
theorem Et(l:List ae)(s:ae)(hl:l.length<9223372036854775808):ka l s=some (I5 l s):=by
 unfold ka slices_Index ul
 have:=NN l hl (fun zz=>jX l s l.length zz) (fun x=>x==s) (fun j=>Sum.inl (j:Int)) (Sum.inr ()) (fun i h=>by
  simp only[jX]
  rw[vax (by simp;omega),cE _ i h]
  simp only[vab,BEq.comm (a:=s)]
  split<;>simp_all) (by simp only[jX];rw[vaz (by simp)])
 rw[this]
 unfold I5
 cases l.findIdx? (fun x=>x==s)<;>rfl
theorem vA(l:List ae)(s:ae):decide (I5 l s>=0)=l.any fun k=>k==s:=by
 unfold I5
 cases h:l.findIdx? (fun x=>x==s)with
 |none=>
  rw[List.findIdx?_eq_none_iff]at h
  symm
  simp only[vbn]
  rw[show decide ((-1:Int)>=0)=false from rfl]
  simp only[vbn,vco]
  exact h
 | some j =>
  have h2:l.any (fun x=>x==s)=true:=by
   have:=List.findIdx?_isSome (xs:=l) (p:=fun x=>x==s)
   rw[h]at this
   exact this.symm
  rw[h2]
  simp
theorem Ti(l:List ae)(s:ae):decide (I5 l s<0)= !l.any fun k=>k==s:=by
 rw[<-vA]
 rw[<-decide_not]
 simp
theorem NO{α:Type}(k:ae)(v:α)(j:ae):∀(m:List (ae×α)),yK (tN m k v) j=if(j==k)=true then some v else yK m j
 |[]=>by
  simp only[tN,yK,List.find?_cons,List.find?_nil]
  cases(j==k)<;>rfl
 | e :: r => by
  have ih:=NO k v j r
  unfold tN
  by_cases h:(k==e.1)=true
  ·have h':k=e.1:=by simpa using h
   rw[vax h]
   unfold yK
   simp only[List.find?_cons]
   rw[<-h']
   cases hj:(j==k)<;>simp
  ·rw [vaz h]
   unfold yK at ih ⊢
   simp only[List.find?_cons]
   cases hj:(j==e.1)
   ·simpa using ih
   ·have:¬(j==k)=true:=fun hk=>h (by
      have h1:j=e.1:=by simpa using hj
      have h2:j=k:=by simpa using hk
      simp[<-h1,<-h2])
    simp[this]
abbrev jV(m:List (ae×Bool))(k:ae):Bool:=(yK m k).getD false
theorem U6(m:List (ae×Bool))(k j:ae):jV (tN m k true) j=(j==k||jV m j):=by
 unfold jV
 rw[NO]
 cases(j==k)<;>rfl
theorem Vq:∀(used L:List ae),L.Nodup->used.length<L.length->∃x∈L,x∉used
 |[],L,_,h=>by
  cases L with
  |nil=>simp at h
  |cons x L=>exact⟨x,by simp,by simp⟩
 | u :: us,L,hn,h => by
  obtain⟨x,hx,hu⟩:=Vq us (L.erase u) (hn.erase u) (by
   have:=List.length_erase (a:=u) (l:=L)
   rw[this]
   simp at h
   split<;>omega)
  rw[hn.mem_erase_iff]at hx
  exact⟨x,hx.2,by simp[hx.1,hu]⟩
theorem Sa{A:Type}(n:Nat)(hn:n<9223372036854775808){body:Int->Option (Int⊕(A⊕Unit))}(P:Nat->Prop)(B:A->Prop)
  (hin:∀i:Nat,i<n->rC (body (i:Int)) (fun r=>r.elim (fun t=>t=bB ((i:Int)+1)/\P i) (fun y=>y.elim B (fun _=>False)))) (hend:body (n:Int)=some (.inr (.inr ()))):rC (loop body 0) (fun r=>r.elim B (fun _=>∀i,i<n->P i)):=by
 have key:∀k i,k+i=n->(∀j,j<i->P j)->rC (loop body (i:Int)) (fun r=>r.elim B (fun _=>∀i,i<n->P i)):=by
  intro k
  induction k with
  |zero=>
   intro i hi hP
   have:i=n:=by omega
   subst this
   rw[Dt hend]
   exact bP hP
  | succ k ih =>
   intro i hi hP
   obtain⟨r,e,hr⟩:=hin i (by omega)
   rw[lp,e]
   cases r with
   | inl t =>
    obtain⟨rfl,hp⟩:=hr
    simp only
    rw[cH (by omega) (by omega),show((i:Int)+1)=((i+1:Nat):Int) by omega]
    exact ih (i+1) (by omega) fun j hj=>by
     by_cases he:j=i
     ·subst he;exact hp
     ·exact hP j (by omega)
   |inr y=>
    cases y with
    |inl a=>exact⟨_,rfl,hr⟩
    |inr u=>exact hr.elim
 exact key n 0 (by omega) fun j hj=>absurd hj (vaK _)
theorem Uy(l:List aw)(hl:l.length<=1073741824):lx l=some (l.map (·.Name)):=by
 unfold lx
 have h:=lm l.length (fun zz:(List ae)×Int=>fB l (l.length:Int) zz.1 zz.2) (fun i=>((l.take i).map (·.Name),(i:Int))) (l.map (·.Name)) (fun i hi=>?_) ?_
 ·have h':pw l (l.length:Int) ([]:List ae) 0=some (l.map (·.Name)):=by unfold pw;simpa using h
  rw[h'];rfl
 ·show fB l (l.length:Int) _ (i:Int)=_
  unfold fB
  rw[vax (by simpa using hi),cE _ _ hi,vab,iJ (by simp;omega),vab,cH (by omega) (by omega),vaq hi,vbi]
  rfl
 ·show fB l (l.length:Int) _ (l.length:Int)=_
  unfold fB
  rw[vaz (by simp),vaP]
theorem Qs(l:List aJ)(i:Nat):En (l.take i)<=En l:=by
 have:∀(l:List aJ) (i:Nat),En (l.take i)<=En l:=by
  intro l
  induction l with
  |nil=>intro i;simp
  |cons x l ih=>
   intro i
   cases i with
   |zero=>simp[En]
   |succ i=>have:=ih i;simp only[List.take_succ_cons,En];omega
 exact this l i
end Go.Proofs.YtkdahfeiedaahaaGreatDoor
