/- PROVED: a part of the proof. Conditions: none. -/
import Derived.Test.YtkdahfeiedaahaaGreatDoorPkF18
import Derived.Test.YtkdahfeiedaahaaGreatDoorPkF10
import Derived.Test.YtkdahfeiedaahaaGreatDoorPkF8
noncomputable section
namespace Go.Proofs.YtkdahfeiedaahaaGreatDoor
open Go Go.Proofs.Tryz
set_option linter.unusedVariables false
set_option maxRecDepth 100000
noncomputable def YZ:Code:=f89.body.getD .skip
def XH:List Nat:=[]
theorem Z89:ZF XH 89 f89 YZ:=⟨call89,func89,rfl⟩
section
variable(t1:aP)(v:af)(is:Bool)(t20:waA)(t21:Int)(t22:Int)(m2:(List (af×Bool)))(v2:aP)(m:af)(m3:waA)(m4:Int)(m5:af)(m6:Int)(m7:waF)(m8:waE)(m9:waD)(m10:waB)(m11:Int)(m12:Bool)(m13:waA)(m14:waG)(m15:waH)(m16:waI)(m17:Int)(m18:af)(m19:waB)(m20:waA)(m21:Int)(m22:af)(m23:Int)(m24:waC)(m25:waC)(m26:waC)(m27:af)(m28:waA)(m29:Int)(m30:af)(m31:Int)(m32:waF)(m33:waE)(m34:waD)(m35:waB)(m36:Int)(m37:Bool)(m38:waA)(m39:waG)(m40:waH)(m41:waI)(m42:Int)(m43:af)(m44:waB)(m45:waA)(m46:Int)(m47:af)(m48:Int)(m49:waC)(m50:waC)(m51:waC)
def uU:aB:=bg 50 [(1,.eptr (az t1)),(2,.bptr 0 0),(3,.bptr 3 0),(8,.str v),(10,.bool is),(20,sl cS t20),(21,.int .i64 t21),(22,.int .i64 t22)] [.cells [.bptr 1 0] [],.cells [.mapr 2] [],.map (aJ PVal.bool m2),.cells [.func (.func 89) [] [.eptr (az v2),.bptr 0 0,.bptr 3 0]] [],.cells [.str m,sl cS m3,.int .i64 m4,.str m5,.int .i64 m6,sl ae m7,sl aw m8,sl aA m9,sl ai m10,.int .i64 m11,.bool m12,sl cS m13,sl gX m14,sl lH m15,sl fH m16,.int .i64 m17,.str m18,sl ai m19,sl cS m20,.int .i64 m21,.str m22,.int .i64 m23,sl al m24,sl al m25,sl al m26] [],.cells [.str m27,sl cS m28,.int .i64 m29,.str m30,.int .i64 m31,sl ae m32,sl aw m33,sl aA m34,sl ai m35,.int .i64 m36,.bool m37,sl cS m38,sl gX m39,sl lH m40,sl fH m41,.int .i64 m42,.str m43,sl ai m44,sl cS m45,.int .i64 m46,.str m47,.int .i64 m48,sl al m49,sl al m50,sl al m51] []] []
def jc(o:Bool):aB:=bg 50 [(1,.eptr (az t1)),(2,.bptr 0 0),(3,.bptr 3 0),(8,.str v),(20,sl cS t20),(21,.int .i64 t21),(22,.int .i64 t22),(41,.bool o)] [.cells [.bptr 1 0] [],.cells [.mapr 2] [],.map (aJ PVal.bool m2),.cells [.func (.func 89) [] [.eptr (az v2),.bptr 0 0,.bptr 3 0]] [],.cells [.str m,sl cS m3,.int .i64 m4,.str m5,.int .i64 m6,sl ae m7,sl aw m8,sl aA m9,sl ai m10,.int .i64 m11,.bool m12,sl cS m13,sl gX m14,sl lH m15,sl fH m16,.int .i64 m17,.str m18,sl ai m19,sl cS m20,.int .i64 m21,.str m22,.int .i64 m23,sl al m24,sl al m25,sl al m26] [],.cells [.str m27,sl cS m28,.int .i64 m29,.str m30,.int .i64 m31,sl ae m32,sl aw m33,sl aA m34,sl ai m35,.int .i64 m36,.bool m37,sl cS m38,sl gX m39,sl lH m40,sl fH m41,.int .i64 m42,.str m43,sl ai m44,sl cS m45,.int .i64 m46,.str m47,.int .i64 m48,sl al m49,sl al m50,sl al m51] []] []
def jU:Option Bool:=
 if is=true then
  some (!((wx m2 v).getD false))
 else
  some false
theorem tP{x:Bool}(h:jU v is m2=some x):bh Pg GE 4 (cA YZ 8174) (EX .normal (jc t1 v t20 t21 t22 m2 v2 m m3 m4 m5 m6 m7 m8 m9 m10 m11 m12 m13 m14 m15 m16 m17 m18 m19 m20 m21 m22 m23 m24 m25 m26 m27 m28 m29 m30 m31 m32 m33 m34 m35 m36 m37 m38 m39 m40 m41 m42 m43 m44 m45 m46 m47 m48 m49 m50 m51 x)) (uU t1 v is t20 t21 t22 m2 v2 m m3 m4 m5 m6 m7 m8 m9 m10 m11 m12 m13 m14 m15 m16 m17 m18 m19 m20 m21 m22 m23 m24 m25 m26 m27 m28 m29 m30 m31 m32 m33 m34 m35 m36 m37 m38 m39 m40 m41 m42 m43 m44 m45 m46 m47 m48 m49 m50 m51):=by
 rcases aQ h with⟨c8,h⟩|⟨c8,h⟩
 ·obtain rfl:=lf h
  exact bF XH (sg 2 c8<|ss<|ss<|sv (M8 (f:=PVal.bool) underlying124 underlying9 Ze m2 v)<|eF .normal (jc t1 v t20 t21 t22 m2 v2 m m3 m4 m5 m6 m7 m8 m9 m10 m11 m12 m13 m14 m15 m16 m17 m18 m19 m20 m21 m22 m23 m24 m25 m26 m27 m28 m29 m30 m31 m32 m33 m34 m35 m36 m37 m38 m39 m40 m41 m42 m43 m44 m45 m46 m47 m48 m49 m50 m51 (!((wx m2 v).getD false))))<|by kernel_rfl
 ·obtain rfl:=lf h
  exact bF XH (sg 2 c8<|eF .normal (jc t1 v t20 t21 t22 m2 v2 m m3 m4 m5 m6 m7 m8 m9 m10 m11 m12 m13 m14 m15 m16 m17 m18 m19 m20 m21 m22 m23 m24 m25 m26 m27 m28 m29 m30 m31 m32 m33 m34 m35 m36 m37 m38 m39 m40 m41 m42 m43 m44 m45 m46 m47 m48 m49 m50 m51 false))<|by kernel_rfl
end
section
variable(R167:gV)(t1:aP)(t20:waA)(t21:Int)(v:aP)(m:af)(m3:waA)(m4:Int)(m5:af)(m6:Int)(m7:waF)(m8:waE)(m9:waD)(m10:waB)(m11:Int)(m12:Bool)(m13:waA)(m14:waG)(m15:waH)(m16:waI)(m17:Int)(m18:af)(m19:waB)(m20:waA)(m21:Int)(m22:af)(m23:Int)(m24:waC)(m25:waC)(m26:waC)(t22:Int)(m2:(List (af×Bool)))
def eo:aB:=bg 50 [(1,.eptr (az t1)),(2,.bptr 0 0),(3,.bptr 3 0),(20,sl cS t20),(21,.int .i64 t21),(22,.int .i64 t22)] [.cells [.bptr 1 0] [],.cells [.mapr 2] [],.map (aJ PVal.bool m2),.cells [.func (.func 89) [] [.eptr (az v),.bptr 0 0,.bptr 3 0]] [],.cells [.str m,sl cS m3,.int .i64 m4,.str m5,.int .i64 m6,sl ae m7,sl aw m8,sl aA m9,sl ai m10,.int .i64 m11,.bool m12,sl cS m13,sl gX m14,sl lH m15,sl fH m16,.int .i64 m17,.str m18,sl ai m19,sl cS m20,.int .i64 m21,.str m22,.int .i64 m23,sl al m24,sl al m25,sl al m26] []] []
def jd(o:(List (af×Bool))):aB:=bg 50 [] [.cells [.bptr 1 0] [],.cells [.mapr 2] [],.map (aJ PVal.bool o),.cells [.func (.func 89) [] [.eptr (az v),.bptr 0 0,.bptr 3 0]] [],.cells [.str m,sl cS m3,.int .i64 m4,.str m5,.int .i64 m6,sl ae m7,sl aw m8,sl aA m9,sl ai m10,.int .i64 m11,.bool m12,sl cS m13,sl gX m14,sl lH m15,sl fH m16,.int .i64 m17,.str m18,sl ai m19,sl cS m20,.int .i64 m21,.str m22,.int .i64 m23,sl al m24,sl al m25,sl al m26] []] []
def dv:Option ((Int×(List (af×Bool)))⊕(((List (af×Bool))))):=
 if(decide (t22<t21))=true then
  (gn t20 t22).bind fun x6=>
  (wb t1 x6).bind fun r7=>
  (jU x6 r7.2 m2).bind fun o9=>
  if o9=true then
   (fY ([x6]:List af) m2).bind fun r12=>
   (R167 x6 v r12 v).bind fun r13=>
   some (.inl (bV (t22+1),r13))
  else
   some (.inl (bV (t22+1),m2))
 else
  some (.inr m2)
def jV:Option (((List (af×Bool)))):=loop (fun(zz:Int×(List (af×Bool)))=>dv R167 t1 t20 t21 v zz.1 zz.2) (t22,m2)
theorem tB(hR167:kp R167){y:(Int×(List (af×Bool)))⊕(((List (af×Bool))))}(h:dv R167 t1 t20 t21 v t22 m2=some y):bh Pg GE 4 (cA YZ 63) (LQ (fun(zz:Int×(List (af×Bool)))=>eo t1 t20 t21 v m m3 m4 m5 m6 m7 m8 m9 m10 m11 m12 m13 m14 m15 m16 m17 m18 m19 m20 m21 m22 m23 m24 m25 m26 zz.1 zz.2) (fun _=>.exit 0) (jd v m m3 m4 m5 m6 m7 m8 m9 m10 m11 m12 m13 m14 m15 m16 m17 m18 m19 m20 m21 m22 m23 m24 m25 m26) y) (eo t1 t20 t21 v m m3 m4 m5 m6 m7 m8 m9 m10 m11 m12 m13 m14 m15 m16 m17 m18 m19 m20 m21 m22 m23 m24 m25 m26 t22 m2):=by
 rcases aQ h with⟨c5,h⟩|⟨c5,h⟩
 ·obtain⟨x6,bx6,r7,br7,o9,bo9,h⟩:=Zb3 h
  have p11:=fun{sc F} (r:PS sc F)=>sg 0 c5<|sv (dp.ia (k:=.i64) bx6)<|sv (cY ED (.str x6) [])<|sv (nj t1)<|dj (Dx br7)<|sx UN<|sx (Fy r7.1)<|rh 0<|du (tP t1 x6 r7.2 t20 t21 t22 m2 v m m3 m4 m5 m6 m7 m8 m9 m10 m11 m12 m13 m14 m15 m16 m17 m18 m19 m20 m21 m22 m23 m24 m25 m26 r7.1.Name r7.1.Params r7.1.Body.Op r7.1.Body.Name r7.1.Body.N r7.1.Body.Kids r7.1.Body.Params r7.1.Body.Alts r7.1.Body.Types r7.1.Mode r7.1.Typed r7.1.Sig.Vars r7.1.Sig.Needs r7.1.Sig.Abs r7.1.Sig.Bounds r7.1.Sig.Type_.Op r7.1.Sig.Type_.Name r7.1.Sig.Type_.Args r7.1.Sig.Type_.Names r7.1.Sig.Type_.Pred.Op r7.1.Sig.Type_.Pred.Name r7.1.Sig.Type_.Pred.N r7.1.Sig.Type_.Pred.Kids r7.1.Sig.Type_.Preds r7.1.Sig.Metric bo9)<|r
  rcases aQ h with⟨c10,h⟩|⟨c10,h⟩
  ·obtain⟨r12,br12,r13,br13,h⟩:=Zb2 h
   obtain rfl:=lf h
   have z:=p11<|sg 0 c10<|ss<|sv (dp.mk' (v:=PVal.str) NF ([x6]:List af) 1 (by kernel_rfl))<|si (.cg ⟨[1,2],[.bptr 0 0,sl cS ([x6]:List af)],[],[.cells [.mapr 2] [],.map (aJ PVal.bool m2)],[.cells [.mapr 1] [],.map (aJ PVal.bool m2)],[.cells [.mapr 2] [],.map (aJ PVal.bool r12)],[.cells [.mapr 1] [],.map (aJ PVal.bool r12)],.tuple [],.tuple [],[]⟩) (iN br12)<|sf (aI (xB [1,2] 0 1 0 rfl) (aI (xR [1,2] (sl cS ([x6]:List af)) (ak bD ([x6]:List af))) trivial))<|sf (aI (aI (rB (.cells [.mapr 2] [])) (aI (rW []) (aI (xM [1,2] 1 2 rfl) trivial))) (aI (aI (rB (.map (aJ PVal.bool m2))) (aI (rM (aJ PVal.bool m2)) (pU (n:=0) PVal.bool (fun x=>trivial) m2))) trivial))<|sf (aI (aI (rW []) (aI (xM [1,2] 1 2 rfl) trivial)) (aI (aI (rM (aJ PVal.bool r12)) (pU (n:=0) PVal.bool (fun x=>trivial) r12)) trivial))<|sf (xR [1,2] (.tuple []) trivial)<|ss<|si (.cg ⟨[0,1,2,3],[.str x6,.eptr (az v),.bptr 0 0,.bptr 3 0],[],[.cells [.bptr 1 0] [],.cells [.mapr 2] [],.map (aJ PVal.bool r12),.cells [.func (.func 89) [] [.eptr (az v),.bptr 0 0,.bptr 3 0]] []],[.cells [.bptr 1 0] [],.cells [.mapr 2] [],.map (aJ PVal.bool r12),.cells [.func (.func 89) [] [.eptr (az v),.bptr 0 0,.bptr 3 0]] []],[.cells [.bptr 1 0] [],.cells [.mapr 2] [],.map (aJ PVal.bool r13),.cells [.func (.func 89) [] [.eptr (az v),.bptr 0 0,.bptr 3 0]] []],[.cells [.bptr 1 0] [],.cells [.mapr 2] [],.map (aJ PVal.bool r13),.cells [.func (.func 89) [] [.eptr (az v),.bptr 0 0,.bptr 3 0]] []],.tuple [],.tuple [],[]⟩) (hR167 _ _ _ _ _ br13)<|sf (aI (xR [0,1,2,3] (.str x6) trivial) (aI (xR [0,1,2,3] (.eptr (az v)) (cX v)) (aI (xB [0,1,2,3] 0 0 0 rfl) (aI (xB [0,1,2,3] 3 3 0 rfl) trivial))))<|sf (aI (aI (rB (.cells [.bptr 1 0] [])) (aI (rW []) (aI (xB [0,1,2,3] 1 1 0 rfl) trivial))) (aI (aI (rB (.cells [.mapr 2] [])) (aI (rW []) (aI (xM [0,1,2,3] 2 2 rfl) trivial))) (aI (aI (rB (.map (aJ PVal.bool r12))) (aI (rM (aJ PVal.bool r12)) (pU (n:=0) PVal.bool (fun x=>trivial) r12))) (aI (aI (rB (.cells [.func (.func 89) [] [.eptr (az v),.bptr 0 0,.bptr 3 0]] [])) (aI (rW []) (aI (xF [0,1,2,3] (.func 89) [] [.eptr (az v),.bptr 0 0,.bptr 3 0] [] [.eptr (az v),.bptr 0 0,.bptr 3 0] trivial (aI (xR [0,1,2,3] (.eptr (az v)) (cX v)) (aI (xB [0,1,2,3] 0 0 0 rfl) (aI (xB [0,1,2,3] 3 3 0 rfl) trivial)))) trivial))) trivial))))<|sf (aI (aI (rW []) (aI (xB [0,1,2,3] 1 1 0 rfl) trivial)) (aI (aI (rW []) (aI (xM [0,1,2,3] 2 2 rfl) trivial)) (aI (aI (rM (aJ PVal.bool r13)) (pU (n:=0) PVal.bool (fun x=>trivial) r13)) (aI (aI (rW []) (aI (xF [0,1,2,3] (.func 89) [] [.eptr (az v),.bptr 0 0,.bptr 3 0] [] [.eptr (az v),.bptr 0 0,.bptr 3 0] trivial (aI (xR [0,1,2,3] (.eptr (az v)) (cX v)) (aI (xB [0,1,2,3] 0 0 0 rfl) (aI (xB [0,1,2,3] 3 3 0 rfl) trivial)))) trivial)) trivial))))<|sf (xR [0,1,2,3] (.tuple []) trivial)<|ue 4 .normal (eo t1 t20 t21 v m m3 m4 m5 m6 m7 m8 m9 m10 m11 m12 m13 m14 m15 m16 m17 m18 m19 m20 m21 m22 m23 m24 m25 m26 (bV (t22+1)) r13) rfl (dU (aI (aZ (cX t1)) (aI (aW rfl) (aI (aW rfl) (aI (up (ak bD t20)) (aI trivial (aI trivial trivial))))))) (aI (aI (aW rfl) trivial) (aI (aI (aW rfl) trivial) (aI (pU PVal.bool (fun x=>trivial) r13) (aI (aI (aI trivial (aI (aZ (cX v)) (aI (aW rfl) (aI (aW rfl) trivial)))) trivial) (aI (aI trivial (aI (up (ak bD m3)) (aI trivial (aI trivial (aI trivial (aI (up (ak ay m7)) (aI (up (ak aY m8)) (aI (up (ak bK m9)) (aI (up (ak aE m10)) (aI trivial (aI trivial (aI (up (ak bD m13)) (aI (up (ak yk m14)) (aI (up (ak EW m15)) (aI (up (ak yj m16)) (aI trivial (aI trivial (aI (up (ak aE m19)) (aI (up (ak bD m20)) (aI trivial (aI trivial (aI trivial (aI (up (ak aR m24)) (aI (up (ak aR m25)) (aI (up (ak aR m26)) trivial))))))))))))))))))))))))) trivial)))))
   exact ed (A:=XH) mixed z<|by kernel_rfl
  ·obtain rfl:=lf h
   have z:=p11<|sg 0 c10<|ue 4 .normal (eo t1 t20 t21 v m m3 m4 m5 m6 m7 m8 m9 m10 m11 m12 m13 m14 m15 m16 m17 m18 m19 m20 m21 m22 m23 m24 m25 m26 (bV (t22+1)) m2) rfl (dU (aI (aZ (cX t1)) (aI (aW rfl) (aI (aW rfl) (aI (up (ak bD t20)) (aI trivial (aI trivial trivial))))))) (aI (aI (aW rfl) trivial) (aI (aI (aW rfl) trivial) (aI (pU PVal.bool (fun x=>trivial) m2) (aI (aI (aI trivial (aI (aZ (cX v)) (aI (aW rfl) (aI (aW rfl) trivial)))) trivial) (aI (aI trivial (aI (up (ak bD m3)) (aI trivial (aI trivial (aI trivial (aI (up (ak ay m7)) (aI (up (ak aY m8)) (aI (up (ak bK m9)) (aI (up (ak aE m10)) (aI trivial (aI trivial (aI (up (ak bD m13)) (aI (up (ak yk m14)) (aI (up (ak EW m15)) (aI (up (ak yj m16)) (aI trivial (aI trivial (aI (up (ak aE m19)) (aI (up (ak bD m20)) (aI trivial (aI trivial (aI trivial (aI (up (ak aR m24)) (aI (up (ak aR m25)) (aI (up (ak aR m26)) trivial))))))))))))))))))))))))) trivial)))))
   exact ed (A:=XH) mixed z<|by kernel_rfl
 ·obtain rfl:=lf h
  have z:=sg 0 c5<|eF (.exit 0) (jd v m m3 m4 m5 m6 m7 m8 m9 m10 m11 m12 m13 m14 m15 m16 m17 m18 m19 m20 m21 m22 m23 m24 m25 m26 m2)
  exact jy XH (Zn rfl) z<|by kernel_rfl
theorem tQ(hR167:kp R167){x:((List (af×Bool)))}(h:jV R167 t1 t20 t21 v t22 m2=some x):bh Pg GE 4 (.loop (cA YZ 63)) (EX (.exit 0) (jd v m m3 m4 m5 m6 m7 m8 m9 m10 m11 m12 m13 m14 m15 m16 m17 m18 m19 m20 m21 m22 m23 m24 m25 m26 x)) (eo t1 t20 t21 v m m3 m4 m5 m6 m7 m8 m9 m10 m11 m12 m13 m14 m15 m16 m17 m18 m19 m20 m21 m22 m23 m24 m25 m26 t22 m2):=
 ZL h fun _ _ hy=>tB _ _ _ _ _ _ _ _ _ _ _ _ _ _ _ _ _ _ _ _ _ _ _ _ _ _ _ _ _ _ _ _ hR167 hy
end
def g6(R167:gV)(name:af)(a:aP)(k2:(List (af×Bool)))(c:aP):Option ((List (af×Bool))):=
 (wb a name).bind fun r1=>
 if(!r1.2)=true then
  some k2
 else
  (tc r1.1).bind fun r4=>
  (jV R167 a r4 (r4.length:Int) c 0 k2).bind fun o14=>
  some o14
theorem wc(R167:gV)(hR167:kp R167){name:af}{a:aP}{k2:(List (af×Bool))}{c:aP}{r:(List (af×Bool))}(h:g6 R167 name a k2 c=some r):C Pg GE 89 [.str name,.eptr (az a),.bptr 0 0,.bptr 3 0] [] [.cells [.bptr 1 0] [],.cells [.mapr 2] [],.map (aJ PVal.bool k2),.cells [.func (.func 89) [] [.eptr (az c),.bptr 0 0,.bptr 3 0]] []] (.tuple []) [] [.cells [.bptr 1 0] [],.cells [.mapr 2] [],.map (aJ PVal.bool r),.cells [.func (.func 89) [] [.eptr (az c),.bptr 0 0,.bptr 3 0]] []]:=by
 obtain⟨r1,br1,h⟩:=cP h
 have p3:=fun{sc F} (r:PS sc F)=>sv (nj a)<|dj (Dx br1)<|sx UN<|sx (Fy r1.1)<|r
 rcases aQ h with⟨c2,h⟩|⟨c2,h⟩
 ·obtain rfl:=lf h
  have z:=p3<|sg 0 c2<|en (aI (rP (.tuple []))<|aI trivial<|aI (rL [.cells [.bptr 1 0] [],.cells [.mapr 2] [],.map (aJ PVal.bool k2),.cells [.func (.func 89) [] [.eptr (az c),.bptr 0 0,.bptr 3 0]] []])<|(aI (aI (aW (i:=1) (n:=4) rfl) trivial) (aI (aI (aW (i:=2) (n:=4) rfl) trivial) (aI (pU (n:=4) PVal.bool (fun x=>trivial) k2) (aI (aI (aI trivial (aI (aZ (n:=4) (cX c)) (aI (aW (i:=0) (n:=4) rfl) (aI (aW (i:=3) (n:=4) rfl) trivial)))) trivial) trivial)))))
  exact Z89.g (m:=4) rfl z<|by kernel_rfl
 ·obtain⟨r4,br4,o14,bo14,h⟩:=Zb2 h
  obtain rfl:=lf h
  have z:=p3<|sg 0 c2<|sv (OD r1.1 [])<|dj (He br4)<|bW (dp.ln r4)<|du (tQ R167 a r4 (r4.length:Int) c r1.1.Name r1.1.Params r1.1.Body.Op r1.1.Body.Name r1.1.Body.N r1.1.Body.Kids r1.1.Body.Params r1.1.Body.Alts r1.1.Body.Types r1.1.Mode r1.1.Typed r1.1.Sig.Vars r1.1.Sig.Needs r1.1.Sig.Abs r1.1.Sig.Bounds r1.1.Sig.Type_.Op r1.1.Sig.Type_.Name r1.1.Sig.Type_.Args r1.1.Sig.Type_.Names r1.1.Sig.Type_.Pred.Op r1.1.Sig.Type_.Pred.Name r1.1.Sig.Type_.Pred.N r1.1.Sig.Type_.Pred.Kids r1.1.Sig.Type_.Preds r1.1.Sig.Metric 0 k2 hR167 bo14)<|en (aI (rP (.tuple []))<|aI trivial<|aI (rL [.cells [.bptr 1 0] [],.cells [.mapr 2] [],.map (aJ PVal.bool o14),.cells [.func (.func 89) [] [.eptr (az c),.bptr 0 0,.bptr 3 0]] []])<|(aI (aI (aW (i:=1) (n:=4) rfl) trivial) (aI (aI (aW (i:=2) (n:=4) rfl) trivial) (aI (pU (n:=4) PVal.bool (fun x=>trivial) o14) (aI (aI (aI trivial (aI (aZ (n:=4) (cX c)) (aI (aW (i:=0) (n:=4) rfl) (aI (aW (i:=3) (n:=4) rfl) trivial)))) trivial) trivial)))))
  exact Z89.g (m:=4) rfl z<|by kernel_rfl
def kv:((af×aP×(List (af×Bool))×aP)->Option ((List (af×Bool))))->(af×aP×(List (af×Bool))×aP)->Option ((List (af×Bool))):=fun(rec:(af×aP×(List (af×Bool))×aP)->Option ((List (af×Bool)))) (x:af×aP×(List (af×Bool))×aP)=>g6 (fun name a k2 c=>rec (name,a,k2,c)) x.1 x.2.1 x.2.2.1 x.2.2.2
def lL(name:af)(a:aP)(k2:(List (af×Bool)))(c:aP):Option ((List (af×Bool))):=tn kv (name,a,k2,c)
theorem wz{name:af}{a:aP}{k2:(List (af×Bool))}{c:aP}{r:(List (af×Bool))}(h:lL name a k2 c=some r):C Pg GE 89 [.str name,.eptr (az a),.bptr 0 0,.bptr 3 0] [] [.cells [.bptr 1 0] [],.cells [.mapr 2] [],.map (aJ PVal.bool k2),.cells [.func (.func 89) [] [.eptr (az c),.bptr 0 0,.bptr 3 0]] []] (.tuple []) [] [.cells [.bptr 1 0] [],.cells [.mapr 2] [],.map (aJ PVal.bool r),.cells [.func (.func 89) [] [.eptr (az c),.bptr 0 0,.bptr 3 0]] []]:=
 fj (F:=kv) (M:=fun(x:af×aP×(List (af×Bool))×aP) (r:(List (af×Bool)))=>C Pg GE 89 [.str x.1,.eptr (az x.2.1),.bptr 0 0,.bptr 3 0] [] [.cells [.bptr 1 0] [],.cells [.mapr 2] [],.map (aJ PVal.bool x.2.2.1),.cells [.func (.func 89) [] [.eptr (az x.2.2.2),.bptr 0 0,.bptr 3 0]] []] (.tuple []) [] [.cells [.bptr 1 0] [],.cells [.mapr 2] [],.map (aJ PVal.bool r),.cells [.func (.func 89) [] [.eptr (az x.2.2.2),.bptr 0 0,.bptr 3 0]] []]) (fun rec hrec x r h=>wc _ (fun name a k2 c r h=>hrec (name,a,k2,c) r h) h) h
noncomputable def qbs:Code:=f39.body.getD .skip
def qa6:List Nat:=[]
theorem Z39:ZF qa6 39 f39 qbs:=⟨call39,func39,rfl⟩
def qG(m:aP)(name:af):Option waA:=
 (ms ([]:List af)).bind fun r1=>
 (lL name m r1 m).bind fun r2=>
 (sq r2).bind fun r3=>
 some r3
theorem l9{m:aP}{name:af}{r:waA}(h:qG m name=some r):CC Pg GE 39 [.agg (az m),.str name] (sl cS r) [(0,9)]:=by
 obtain⟨r1,br1,r2,br2,r3,br3,h⟩:=Zb3 h
 obtain rfl:=lf h
 have z:=se (vT m)<|si (.cn ⟨[2,3],[],[],[],[],[.map (aJ PVal.bool r1),.cells [.mapr 2] []],[.map (aJ PVal.bool r1),.cells [.mapr 0] []],.bptr 3 0,.bptr 1 0,[]⟩) (sA br1)<|sf (aI (ak bD ([]:List af)) trivial)<|sf (aI (aI (rM (aJ PVal.bool r1)) (pU (n:=0) PVal.bool (fun x=>trivial) r1)) (aI (aI (rW []) (aI (xM [2,3] 0 2 rfl) trivial)) trivial))<|sf (xB [2,3] 1 3 0 rfl)<|sx Wx<|ss<|sx YI<|ss<|ss<|si (.cg ⟨[1,3,2,4],[.str name,.eptr (az m),.bptr 0 0,.bptr 3 0],[],[.cells [.bptr 3 0] [],.cells [.mapr 2] [],.map (aJ PVal.bool r1),.cells [.func (.func 89) [] [.eptr (az m),.bptr 1 0,.bptr 4 0]] []],[.cells [.bptr 1 0] [],.cells [.mapr 2] [],.map (aJ PVal.bool r1),.cells [.func (.func 89) [] [.eptr (az m),.bptr 0 0,.bptr 3 0]] []],[.cells [.bptr 3 0] [],.cells [.mapr 2] [],.map (aJ PVal.bool r2),.cells [.func (.func 89) [] [.eptr (az m),.bptr 1 0,.bptr 4 0]] []],[.cells [.bptr 1 0] [],.cells [.mapr 2] [],.map (aJ PVal.bool r2),.cells [.func (.func 89) [] [.eptr (az m),.bptr 0 0,.bptr 3 0]] []],.tuple [],.tuple [],[]⟩) (wz br2)<|sf (aI (xR [1,3,2,4] (.str name) trivial) (aI (xR [1,3,2,4] (.eptr (az m)) (cX m)) (aI (xB [1,3,2,4] 0 1 0 rfl) (aI (xB [1,3,2,4] 3 4 0 rfl) trivial))))<|sf (aI (aI (rB (.cells [.bptr 3 0] [])) (aI (rW []) (aI (xB [1,3,2,4] 1 3 0 rfl) trivial))) (aI (aI (rB (.cells [.mapr 2] [])) (aI (rW []) (aI (xM [1,3,2,4] 2 2 rfl) trivial))) (aI (aI (rB (.map (aJ PVal.bool r1))) (aI (rM (aJ PVal.bool r1)) (pU (n:=0) PVal.bool (fun x=>trivial) r1))) (aI (aI (rB (.cells [.func (.func 89) [] [.eptr (az m),.bptr 1 0,.bptr 4 0]] [])) (aI (rW []) (aI (xF [1,3,2,4] (.func 89) [] [.eptr (az m),.bptr 1 0,.bptr 4 0] [] [.eptr (az m),.bptr 0 0,.bptr 3 0] trivial (aI (xR [1,3,2,4] (.eptr (az m)) (cX m)) (aI (xB [1,3,2,4] 0 1 0 rfl) (aI (xB [1,3,2,4] 3 4 0 rfl) trivial)))) trivial))) trivial))))<|sf (aI (aI (rW []) (aI (xB [1,3,2,4] 1 3 0 rfl) trivial)) (aI (aI (rW []) (aI (xM [1,3,2,4] 2 2 rfl) trivial)) (aI (aI (rM (aJ PVal.bool r2)) (pU (n:=0) PVal.bool (fun x=>trivial) r2)) (aI (aI (rW []) (aI (xF [1,3,2,4] (.func 89) [] [.eptr (az m),.bptr 1 0,.bptr 4 0] [] [.eptr (az m),.bptr 0 0,.bptr 3 0] trivial (aI (xR [1,3,2,4] (.eptr (az m)) (cX m)) (aI (xB [1,3,2,4] 0 1 0 rfl) (aI (xB [1,3,2,4] 3 4 0 rfl) trivial)))) trivial)) trivial))))<|sf (xR [1,3,2,4] (.tuple []) trivial)<|ss<|si (.cg ⟨[3,2],[.bptr 0 0],[],[.cells [.mapr 2] [],.map (aJ PVal.bool r2)],[.cells [.mapr 1] [],.map (aJ PVal.bool r2)],[.cells [.mapr 2] [],.map (aJ PVal.bool r2)],[.cells [.mapr 1] [],.map (aJ PVal.bool r2)],sl cS r3,sl cS r3,[(0,9)]⟩) (xY br3)<|sf (aI (xB [3,2] 0 3 0 rfl) trivial)<|sf (aI (aI (rB (.cells [.mapr 2] [])) (aI (rW []) (aI (xM [3,2] 1 2 rfl) trivial))) (aI (aI (rB (.map (aJ PVal.bool r2))) (aI (rM (aJ PVal.bool r2)) (pU (n:=0) PVal.bool (fun x=>trivial) r2))) trivial))<|sf (aI (aI (rW []) (aI (xM [3,2] 1 2 rfl) trivial)) (aI (aI (rM (aJ PVal.bool r2)) (pU (n:=0) PVal.bool (fun x=>trivial) r2)) trivial))<|sf (xR [3,2] (sl cS r3) (ak bD r3))<|en (aI (rP (sl cS r3))<|(ak bD r3))
 exact Z39.v (aI (cX m) (aI trivial trivial)) z<|by kernel_rfl
noncomputable def Z1:Code:=f40.body.getD .skip
def YU:List Nat:=[]
theorem Z40:ZF YU 40 f40 Z1:=⟨call40,func40,rfl⟩
section
variable(v:waA)(s:af)(i:Int)
def uF:aB:=bg 18 [(0,sl cS v),(1,.str s),(5,.int .i64 i)] [] []
def uG(o:Unit⊕(Unit)):Exit:=match o with
 |(.inl _)=>.ret
 |(.inr _)=>.exit 0
def nF(o:Unit⊕(Unit)):aB:=match o with
 |(.inl o)=>bg 18 [(4,.bool true)] [] []
 |(.inr o)=>bg 18 [] [] []
def zf:Option (Int⊕(Unit⊕(Unit))):=
 if(decide (i<(v.length:Int)))=true then
  (gn v i).bind fun x2=>
  if(x2==s)=true then
   some (.inr (.inl ()))
  else
   some (.inl (bV (i+1)))
 else
  some (.inr (.inr ()))
def DQ:Option (Unit⊕(Unit)):=loop (fun(zz:Int)=>zf v s zz) i
theorem Js{y:Int⊕(Unit⊕(Unit))}(h:zf v s i=some y):bh Pg GE 0 (cA Z1 55) (LQ (fun(zz:Int)=>uF v s zz) uG nF y) (uF v s i):=by
 rcases aQ h with⟨c1,h⟩|⟨c1,h⟩
 ·obtain⟨x2,bx2,h⟩:=cP h
  have p4:=fun{sc F} (r:PS sc F)=>bW (dp.ln v)<|sg 0 c1<|sv (dp.ia (k:=.i64) bx2)<|sv (cY ED (.str x2) [])<|r
  rcases aQ h with⟨c3,h⟩|⟨c3,h⟩
  ·obtain rfl:=lf h
   have z:=p4<|sg 0 c3<|eF (uG (.inl ())) (nF (.inl ()))
   exact jy YU (Zn rfl) z<|by kernel_rfl
  ·obtain rfl:=lf h
   exact AC YU (p4<|sg 0 c3<|eF .normal (uF v s (bV (i+1))))<|by kernel_rfl
 ·obtain rfl:=lf h
  have z:=bW (dp.ln v)<|sg 0 c1<|eF (uG (.inr ())) (nF (.inr ()))
  exact jy YU (Zn rfl) z<|by kernel_rfl
theorem C8{x:Unit⊕(Unit)}(h:DQ v s i=some x):bh Pg GE 0 (.loop (cA Z1 55)) (EX (uG x) (nF x)) (uF v s i):=
 ZL h fun _ _ hy=>Js _ _ _ hy
end
def EK(a:waA)(s:af):Option Bool:=
 (DQ a s 0).bind fun o5=>match o5 with
 |(.inl o5)=>
  some true
 |(.inr o5)=>
  some false
theorem DR{a:waA}{s:af}{r:Bool}(h:EK a s=some r):CC Pg GE 40 [sl cS a,.str s] (.bool r) []:=by
 obtain⟨o5,bo5,h⟩:=cP h
 rcases o5 with o5|o5
 ·obtain rfl:=lf h
  have z:=du (e:=.ret) (s1:=nF (.inl o5)) (C8 a s 0 bo5)<|en (aI (rP (.bool true))<|trivial)
  exact Z40.v (aI (ak bD a) (aI trivial trivial)) z<|by kernel_rfl
 ·obtain rfl:=lf h
  have z:=du (e:=.exit 0) (s1:=nF (.inr o5)) (C8 a s 0 bo5)<|en (aI (rP (.bool false))<|trivial)
  exact Z40.v (aI (ak bD a) (aI trivial trivial)) z<|by kernel_rfl
noncomputable def b8:Code:=Tryz.f8.body.getD .skip
def A8:List Nat:=[]
theorem Z8:ZF A8 8 Tryz.f8 b8:=⟨call8,func8,rfl⟩
section
variable(name:af)(v:af)(m:aP)
def za:aB:=bg 89 [(1,.str name),(2,.str v),(3,.eptr (az m))] [.dead] []
def iX(o:Bool):aB:=bg 89 [(1,.str name),(2,.str v),(3,.eptr (az m)),(25,.bool o)] [.dead] []
def ng:Option Bool:=
 (IL m).bind fun r1=>
 if(!r1)=true then
  some true
 else
  if(decide ((name.length:Int)>100))=true then
   some true
  else
   some (decide ((v.length:Int)>100))
theorem yd{x:Bool}(h:ng name v m=some x):bh Pg GE 0 (cA b8 12) (EX .normal (iX name v m x)) (za name v m):=by
 obtain⟨r1,br1,h⟩:=cP h
 have p3:=fun{sc F} (r:PS sc F)=>sv (nj m)<|dj (Pr br1)<|r
 rcases aQ h with⟨c2,h⟩|⟨c2,h⟩
 ·obtain rfl:=lf h
  exact bF A8 (p3<|sg 4 c2<|eF .normal (iX name v m true))<|by kernel_rfl
 ·have p5:=fun{sc F} (r:PS sc F)=>p3<|sg 4 c2<|bW (oJ underlying9 name)<|r
  rcases aQ h with⟨c4,h⟩|⟨c4,h⟩
  ·obtain rfl:=lf h
   exact bF A8 (p5<|sg 9 c4<|eF .normal (iX name v m true))<|by kernel_rfl
  ·obtain rfl:=lf h
   exact bF A8 (p5<|sg 9 c4<|bW (oJ underlying9 v)<|eF .normal (iX name v m (decide ((v.length:Int)>100))))<|by kernel_rfl
end
section
variable(name:af)(v:af)(m:aP)(v2:waA)(i:Int)(k:waA)(j:Int)
def i6:aB:=bg 89 [(1,.str name),(2,.str v),(3,.eptr (az m)),(7,sl cS v2),(8,.int .i64 i),(9,sl cS k),(10,.int .i64 j)] [.dead] [((9,0),9),((7,0),9)]
def i7(o:Unit⊕(Unit)):Exit:=match o with
 |(.inl _)=>.ret
 |(.inr _)=>.exit 2
def eK(o:Unit⊕(Unit)):aB:=match o with
 |(.inl o)=>bg 89 [(6,.bool false)] [.dead] []
 |(.inr o)=>bg 89 [(1,.str name),(2,.str v),(3,.eptr (az m)),(7,sl cS v2),(8,.int .i64 i)] [.dead] [((7,0),9)]
def dO:Option (Int⊕(Unit⊕(Unit))):=
 if(decide (j<(k.length:Int)))=true then
  (gn k j).bind fun x15=>
  (EK v2 x15).bind fun r16=>
  if(!r16)=true then
   some (.inr (.inl ()))
  else
   some (.inl (bV (j+1)))
 else
  some (.inr (.inr ()))
def kg:Option (Unit⊕(Unit)):=loop (fun(zz:Int)=>dO v2 k zz) j
theorem xI{y:Int⊕(Unit⊕(Unit))}(h:dO v2 k j=some y):bh Pg GE 0 (cA b8 31711) (LQ (fun(zz:Int)=>i6 name v m v2 i k zz) i7 (eK name v m v2 i) y) (i6 name v m v2 i k j):=by
 rcases aQ h with⟨c14,h⟩|⟨c14,h⟩
 ·obtain⟨x15,bx15,r16,br16,h⟩:=Zb2 h
  have p18:=fun{sc F} (r:PS sc F)=>bW (dp.ln k)<|sg 0 c14<|sv (dp.ia (k:=.i64) bx15)<|sv (cY ED (.str x15) [])<|dj (DR br16)<|r
  rcases aQ h with⟨c17,h⟩|⟨c17,h⟩
  ·obtain rfl:=lf h
   have z:=p18<|sg 0 c17<|eF (i7 (.inl ())) (eK name v m v2 i (.inl ()))
   exact jy A8 (Zn rfl) z<|by kernel_rfl
  ·obtain rfl:=lf h
   exact AC A8 (p18<|sg 0 c17<|eF .normal (i6 name v m v2 i k (bV (j+1))))<|by kernel_rfl
 ·obtain rfl:=lf h
  have z:=bW (dp.ln k)<|sg 0 c14<|eF (i7 (.inr ())) (eK name v m v2 i (.inr ()))
  exact jy A8 (Zn rfl) z<|by kernel_rfl
theorem pJ{x:Unit⊕(Unit)}(h:kg v2 k j=some x):bh Pg GE 0 (.loop (cA b8 31711)) (EX (i7 x) (eK name v m v2 i x)) (i6 name v m v2 i k j):=
 ZL h fun _ _ hy=>xI _ _ _ _ _ _ _ hy
end
section
variable(name:af)(v:af)(m:aP)(v2:waA)(i:Int)
def iY:aB:=bg 89 [(1,.str name),(2,.str v),(3,.eptr (az m)),(7,sl cS v2),(8,.int .i64 i)] [.dead] [((7,0),9)]
def iZ(o:Unit⊕(Unit)):Exit:=match o with
 |(.inl _)=>.ret
 |(.inr _)=>.exit 0
def dN(o:Unit⊕(Unit)):aB:=match o with
 |(.inl o)=>bg 89 [(6,.bool false)] [.dead] []
 |(.inr o)=>bg 89 [(1,.str name),(2,.str v),(3,.eptr (az m))] [.dead] []
def dM:Option (Int⊕(Unit⊕(Unit))):=
 if(decide (i<(v2.length:Int)))=true then
  (gn v2 i).bind fun x12=>
  (qG m x12).bind fun r13=>
  (kg v2 r13 0).bind fun o19=>match o19 with
  |(.inl o19)=>
   some (.inr (.inl ()))
  |(.inr o19)=>
   some (.inl (bV (i+1)))
 else
  some (.inr (.inr ()))
def kf:Option (Unit⊕(Unit)):=loop (fun(zz:Int)=>dM m v2 zz) i
theorem xH{y:Int⊕(Unit⊕(Unit))}(h:dM m v2 i=some y):bh Pg GE 0 (cA b8 247) (LQ (fun(zz:Int)=>iY name v m v2 zz) iZ (dN name v m) y) (iY name v m v2 i):=by
 rcases aQ h with⟨c11,h⟩|⟨c11,h⟩
 ·obtain⟨x12,bx12,r13,br13,o19,bo19,h⟩:=Zb3 h
  rcases o19 with o19|o19
  ·obtain rfl:=lf h
   have z:=bW (dp.ln v2)<|sg 0 c11<|Kw [0,0,0,6,14,31,63]<|sv (nj m)<|sv (dp.ia (k:=.i64) bx12)<|sv (cY ED (.str x12) [])<|dj (l9 br13)<|du (e:=.ret) (s1:=eK name v m v2 i (.inl o19)) (pJ name v m v2 i r13 0 bo19)<|eF (iZ (.inl ())) (dN name v m (.inl ()))
   exact jy A8 (Zn rfl) z<|by kernel_rfl
  ·obtain rfl:=lf h
   exact AC A8 (bW (dp.ln v2)<|sg 0 c11<|Kw [0,0,0,6,14,31,63]<|sv (nj m)<|sv (dp.ia (k:=.i64) bx12)<|sv (cY ED (.str x12) [])<|dj (l9 br13)<|du (e:=.exit 2) (s1:=eK name v m v2 i (.inr o19)) (pJ name v m v2 i r13 0 bo19)<|eF .normal (iY name v m v2 (bV (i+1))))<|by kernel_rfl
 ·obtain rfl:=lf h
  have z:=bW (dp.ln v2)<|sg 0 c11<|eF (iZ (.inr ())) (dN name v m (.inr ()))
  exact jy A8 (Zn rfl) z<|by kernel_rfl
theorem kT{x:Unit⊕(Unit)}(h:kf m v2 i=some x):bh Pg GE 0 (.loop (cA b8 247)) (EX (iZ x) (dN name v m x)) (iY name v m v2 i):=
 ZL h fun _ _ hy=>xH _ _ _ _ _ hy
end
section
variable(name:af)(v:af)(m:aP)(i:Int)(free:waA)
def zb:aB:=bg 89 [(1,.str name),(2,.str v),(3,.eptr (az m)),(11,.int .i64 i),(12,sl cS free)] [.dead] [((12,0),9)]
def lD(o:Bool):aB:=bg 89 [(1,.str name),(2,.str v),(3,.eptr (az m)),(11,.int .i64 i),(87,.bool o)] [.dead] []
def ke:Option Bool:=
 (EK free name).bind fun r25=>
 if(!r25)=true then
  (gn m.Defs i).bind fun x27=>
  (qH x27.Body name v).bind fun r28=>
  (np r28).bind fun r29=>
  (kq r29 free).bind fun r30=>
  some (!r30)
 else
  some false
theorem ye{x:Bool}(h:ke name v m i free=some x):bh Pg GE 0 (cA b8 16118) (EX .normal (lD name v m i x)) (zb name v m i free):=by
 obtain⟨r25,br25,h⟩:=cP h
 rcases aQ h with⟨c26,h⟩|⟨c26,h⟩
 ·obtain⟨x27,bx27,r28,br28,r29,br29,r30,br30,h⟩:=Zb4 h
  obtain rfl:=lf h
  exact bF A8 (dj (DR br25)<|sg 5 c26<|sv (fq m)<|sv (fu m)<|sv (zD.ia (k:=.i64) bx27)<|sv (uK x27)<|sv (uN x27)<|dj (Ag br28)<|dj (qF br29)<|dj (nz br30)<|eF .normal (lD name v m i (!r30)))<|by kernel_rfl
 ·obtain rfl:=lf h
  exact bF A8 (dj (DR br25)<|sg 5 c26<|eF .normal (lD name v m i false))<|by kernel_rfl
end
section
variable(name:af)(v:af)(m:aP)(i:Int)
def i8:aB:=bg 89 [(1,.str name),(2,.str v),(3,.eptr (az m)),(11,.int .i64 i)] [.dead] []
def ja(o:Unit⊕(Unit)):Exit:=match o with
 |(.inl _)=>.ret
 |(.inr _)=>.exit 4
def eL(o:Unit⊕(Unit)):aB:=match o with
 |(.inl o)=>bg 89 [(6,.bool false)] [.dead] []
 |(.inr o)=>bg 89 [] [.dead] []
def dP:Option (Int⊕(Unit⊕(Unit))):=
 if(decide (i<(m.Defs.length:Int)))=true then
  (gn m.Defs i).bind fun x23=>
  (np x23.Body).bind fun r24=>
  (ke name v m i r24).bind fun o31=>
  if o31=true then
   some (.inr (.inl ()))
  else
   some (.inl (bV (i+1)))
 else
  some (.inr (.inr ()))
def kh:Option (Unit⊕(Unit)):=loop (fun(zz:Int)=>dP name v m zz) i
theorem xJ{y:Int⊕(Unit⊕(Unit))}(h:dP name v m i=some y):bh Pg GE 0 (cA b8 503) (LQ (fun(zz:Int)=>i8 name v m zz) ja eL y) (i8 name v m i):=by
 have p22:=fun{sc F} (r:PS sc F)=>sv (fq m)<|sv (fu m)<|bW (zD.ln m.Defs)<|r
 rcases aQ h with⟨c21,h⟩|⟨c21,h⟩
 ·obtain⟨x23,bx23,r24,br24,o31,bo31,h⟩:=Zb3 h
  have p33:=fun{sc F} (r:PS sc F)=>p22<|sg 0 c21<|sv (fq m)<|sv (fu m)<|sv (zD.ia (k:=.i64) bx23)<|sv (uK x23)<|sv (uN x23)<|dj (qF br24)<|rh 0<|du (ye name v m i r24 bo31)<|r
  rcases aQ h with⟨c32,h⟩|⟨c32,h⟩
  ·obtain rfl:=lf h
   have z:=p33<|sg 0 c32<|eF (ja (.inl ())) (eL (.inl ()))
   exact jy A8 (Zn rfl) z<|by kernel_rfl
  ·obtain rfl:=lf h
   exact AC A8 (p33<|sg 0 c32<|eF .normal (i8 name v m (bV (i+1))))<|by kernel_rfl
 ·obtain rfl:=lf h
  have z:=p22<|sg 0 c21<|eF (ja (.inr ())) (eL (.inr ()))
  exact jy A8 (Zn rfl) z<|by kernel_rfl
theorem pK{x:Unit⊕(Unit)}(h:kh name v m i=some x):bh Pg GE 0 (.loop (cA b8 503)) (EX (ja x) (eL x)) (i8 name v m i):=
 ZL h fun _ _ hy=>xJ _ _ _ _ hy
end
def qc(m:aP)(name:af)(a:af):Option Bool:=
 (ng name a m).bind fun o6=>
 if o6=true then
  Cb.bind fun r9=>
  some r9
 else
  (qG m name).bind fun r10=>
  (kf m r10 0).bind fun o20=>match o20 with
  |(.inl o20)=>
   some false
  | (.inr o20) =>
   (kh name a m 0).bind fun o34=>match o34 with
   |(.inl o34)=>
    some false
   |(.inr o34)=>
    Cb.bind fun r35=>
    some r35
theorem AX{m:aP}{name:af}{a:af}{r:Bool}(h:qc m name a=some r):CC Pg GE 8 [.agg (az m),.str name,.str a] (.bool r) []:=by
 obtain⟨o6,bo6,h⟩:=cP h
 have p8:=fun{sc F} (r:PS sc F)=>se (vT m)<|rh 1<|du (yd name a m bo6)<|r
 rcases aQ h with⟨c7,h⟩|⟨c7,h⟩
 ·obtain⟨r9,br9,h⟩:=cP h
  obtain rfl:=lf h
  have z:=p8<|sg 0 c7<|dj (EJ br9)<|en (aI (rP (.bool r9))<|trivial)
  exact Z8.v (aI (cX m) (aI trivial (aI trivial trivial))) z<|by kernel_rfl
 ·obtain⟨r10,br10,o20,bo20,h⟩:=Zb2 h
  rcases o20 with o20|o20
  ·obtain rfl:=lf h
   have z:=p8<|sg 0 c7<|sv (nj m)<|dj (l9 br10)<|du (e:=.ret) (s1:=dN name a m (.inl o20)) (kT name a m r10 0 bo20)<|en (aI (rP (.bool false))<|trivial)
   exact Z8.v (aI (cX m) (aI trivial (aI trivial trivial))) z<|by kernel_rfl
  ·obtain⟨o34,bo34,h⟩:=cP h
   rcases o34 with o34|o34
   ·obtain rfl:=lf h
    have z:=p8<|sg 0 c7<|sv (nj m)<|dj (l9 br10)<|du (e:=.exit 0) (s1:=dN name a m (.inr o20)) (kT name a m r10 0 bo20)<|du (e:=.ret) (s1:=eL (.inl o34)) (pK name a m 0 bo34)<|en (aI (rP (.bool false))<|trivial)
    exact Z8.v (aI (cX m) (aI trivial (aI trivial trivial))) z<|by kernel_rfl
   ·obtain⟨r35,br35,h⟩:=cP h
    obtain rfl:=lf h
    have z:=p8<|sg 0 c7<|sv (nj m)<|dj (l9 br10)<|du (e:=.exit 0) (s1:=dN name a m (.inr o20)) (kT name a m r10 0 bo20)<|du (e:=.exit 4) (s1:=eL (.inr o34)) (pK name a m 0 bo34)<|dj (EJ br35)<|en (aI (rP (.bool r35))<|trivial)
    exact Z8.v (aI (cX m) (aI trivial (aI trivial trivial))) z<|by kernel_rfl
open Go
theorem Pc{α β X:Type}(g:α->β)(e:List β->X):∀(l:List α) (i:Nat) (s:List β),Eh (fun _ x (s:List β)=>(Sum.inl (s++[g x]):List β⊕X)) e l i s=e (s++l.map g)
 |[],i,s=>by simp[Eh]
 |x::l,i,s=>by
  unfold Eh
  simp only
  rw[Pc g e l (i+1) (s++[g x])]
  simp
theorem Uf{α β τ X:Type}(l:List α)(hl:l.length<9223372036854775808)(mk:Int->List β->τ)(body:τ->Option (τ⊕X))(g:α->β)(e:List β->X)
  (hin:∀(i:Nat) (h:i<l.length) s,s.length=i->body (mk i s)=some (.inl (mk (bV ((i:Int)+1)) (s++[g l[i]])))) (hend:∀s,body (mk l.length s)=some (.inr (e s))):loop body (mk 0 [])=some (e (l.map g)):=by
 have:=Fa l hl mk body (fun i s=>s.length=i) (fun _ x s=>.inl (s++[g x])) e (fun i h s hs=>⟨hin i h s hs,fun s' hs'=>by cases hs';simp[hs]⟩) (fun s _=>hend s) 0 [] (va5 _) rfl
 rw[Pc]at this
 exact this
mutual
def nP:am->Nat
 |⟨_,_,_,ks⟩=>nL ks+1
def nL:List am->Nat
 |[]=>0
 |p::ps=>nP p+nL ps
end
theorem OJ(p:am):nP p=nL p.Kids+1:=by obtain⟨o,n,k,ks⟩:=p;rw[nP];rfl
theorem Um(p:am):1<=nP p:=by rw[OJ];omega
theorem Ul:∀{l:List am} {x:am},x∈l->nP x<=nL l
 | y :: l,x,h => by
  rw[nL]
  rcases vaB.1 h with rfl|h
  ·omega
  ·have:=Ul h;omega
theorem Na:∀(l:List am),l.length<=nL l
 |[]=>by simp[nL]
 |p::l=>by rw[nL];have:=Na l;have:=Um p;simp only[vaF];omega
theorem T6{p x:am}(h:x∈p.Kids):nP x<nP p:=by rw[OJ p];have:=Ul h;omega
theorem T8(p:am):p.Kids.length<nP p:=by rw[OJ];have:=Na p.Kids;omega
theorem L6:∀(a b:List am),nL (a++b)=nL a+nL b
 |[],b=>by simp[nL]
 |p::a,b=>by rw[vaM,nL,L6 a b,nL];omega
mutual
theorem Ww:∀(p:am),nP p<=ir (al p)
 |⟨o,n,k,ks⟩=>by
  have:=Q2 ks
  rw[nP,cC]
  simp only[ir,pm,sl]
  show nL ks+1<=1+(n.length+1+(1+(cJ (ks.map al)+1+0)))
  omega
theorem Q2:∀(l:List am),nL l<=cJ (l.map al)
 |[]=>by simp[nL]
 |p::l=>by
  have:=Ww p
  have:=Q2 l
  rw[nL]
  simp only[vaC,cJ]
  omega
end
theorem LI(p:am):(⟨p.Op,p.Name,p.N,p.Kids⟩:am)=p:=by cases p;rfl
theorem Rl{α:Type}[DecidableEq α]:∀{a b:List α},a.length=b.length->(a.zip b).any (fun x=>decide (x.1≠x.2))= !decide (a=b)
 |[],[],_=>by simp
 |x::a,y::b,h=>by
  have ih:=Rl (a:=a) (b:=b) (by simpa using h)
  rw[List.zip_cons_cons,List.any_cons,ih]
  by_cases h1:x=y<;>by_cases h2:a=b<;>simp[h1,h2]
theorem Ug{α X:Type}[DecidableEq α]{a b:List α}(hl:a.length=b.length)(ha:a.length<9223372036854775808)(body:Int->Option (Int⊕X))(y e:X)
  (hin:∀(i:Nat) (h:i<a.length) (h':i<b.length),body i=some (if decide (a[i]=b[i])=true then .inl (bV ((i:Int)+1))else .inr y)) (hend:body a.length=some (.inr e)):loop body 0=some (if decide (a=b)=true then e else y):=by
 have hz:(a.zip b).length=a.length:=by simp[hl]
 have:=OE (a.zip b) (by omega) body (fun x=>decide (x.1≠x.2)) y e (fun i h=>?_) (by rw[hz];exact hend) 0 (va5 _)
 ·rw[vbZ,Rl hl]at this
  rw[show((0:Nat):Int)=0 from rfl]at this
  rw[this]
  by_cases h:a=b<;>simp[h]
 ·have h1:i<a.length:=by omega
  have h2:i<b.length:=by omega
  rw[hin i h1 h2]
  have hzi:(a.zip b)[i]=(a[i],b[i]):=by simp
  rw[hzi]
  by_cases h:a[i]=b[i]<;>simp[h]
abbrev nh:Nat:=1073741824
theorem xP{n:Nat}(h:n<=nh):n<Vs:=by have:=Xe;unfold nh at h;omega
theorem VT(l:List am)(i:Nat)(h:i<l.length):nL (l.take (i+1))=nL (l.take i)+nP l[i]:=by
 rw[vaz h,L6]
 simp[nL]
def wF{α:Type}(o:Option α)(Q:α->Prop):Prop:=∃a,o=some a/\Q a
section
variable{α β σ τ X Y:Type}
theorem dB{a:α}{Q:α->Prop}(h:Q a):wF (some a) Q:=⟨a,rfl,h⟩
theorem fK{o:Option α}{f:α->Option β}{R:α->Prop}{Q:β->Prop}(h:wF o R)(h':∀a,R a->wF (f a) Q):wF (o.bind f) Q:=by
 obtain⟨a,rfl,h⟩:=h
 exact h' a h
theorem wF.mono{o:Option α}{Q R:α->Prop}(h:wF o Q)(h':∀a,Q a->R a):wF o R:=by
 obtain⟨a,e,h⟩:=h
 exact⟨a,e,h' a h⟩
theorem Gb{c:Prop}[Decidable c]{a b:Option α}{Q:α->Prop}(h1:c->wF a Q)(h2:¬c->wF b Q):wF (if c then a else b) Q:=by
 by_cases h:c
 ·rw[vaw h];exact h1 h
 ·rw[vax h];exact h2 h
theorem Ga{F:(X->Option Y)->X->Option Y}(μ:X->Nat)(P:X->Prop)(Q:X->Y->Prop)(h:∀(R:X->Option Y) x,P x->(∀y,μ y<μ x->P y->wF (R y) (Q y))->wF (F R x) (Q x))(x:X)(hx:P x)(hm:μ x<Vs):wF (tn F x) (Q x):=by
 have key:∀n x,μ x<n->P x->wF (XM F n x) (Q x):=by
  intro n
  induction n with
  |zero=>intro x hx;omega
  |succ n ih=>intro x hx hq;exact h _ x hq fun y hy hqy=>ih y (by omega) hqy
 exact key _ x hm hx
theorem Mn(l:List α)(hl:l.length<9223372036854775808)(mk:Int->σ->τ){body:τ->Option (τ⊕X)}(I:Nat->σ->Prop){Q:X->Prop}
  (hin:∀(i:Nat) (h:i<l.length) s,I i s->wF (body (mk i s)) (fun r=>match r with|.inl t=>∃s',t=mk (bV ((i:Int)+1)) s'/\I (i+1) s'|.inr y=>Q y))
  (hend:∀s,I l.length s->wF (body (mk l.length s)) (fun r=>match r with|.inl _=>False|.inr y=>Q y)):∀s,I 0 s->wF (loop body (mk 0 s)) Q:=by
 have key:∀k i s,k+i=l.length->I i s->wF (loop body (mk (i:Int) s)) Q:=by
  intro k
  induction k with
  |zero=>
   intro i s hi hI
   have:i=l.length:=by omega
   subst this
   obtain⟨r,e,hr⟩:=hend s hI
   rw[mI,e]
   cases r with
   |inl _=>exact hr.elim
   |inr y=>exact⟨y,rfl,hr⟩
  | succ k ih =>
   intro i s hi hI
   obtain⟨r,e,hr⟩:=hin i (by omega) s hI
   rw[mI,e]
   cases r with
   |inl t=>
    obtain⟨s',rfl,hI'⟩:=hr
    simp only
    rw[co (by omega) (by omega),show((i:Int)+1)=((i+1:Nat):Int) by omega]
    exact ih (i+1) s' (by omega) hI'
   |inr y=>exact⟨y,rfl,hr⟩
 exact fun s hs=>key l.length 0 s (by omega) hs
end
section
variable{α β σ τ X Y:Type}
theorem L3(l:List α)(hl:l.length<=1073741824)(mk:Int->List β->τ)(body:τ->Option (τ⊕X))(h:α->Option β)(g:α->β)(e:List β->X)
  (hb:∀(i:Int) (s:List β),body (mk i s)=if decide (i<(l.length:Int))=true then(gn l i).bind (fun x=>(h x).bind fun r=>(app s ([r]:List β)).bind fun q=>some (.inl (mk (bV (i+1)) q)))else some (.inr (e s)))
  (hg:∀x∈l,h x=some (g x)):loop body (mk 0 [])=some (e (l.map g)):=by
 refine Uf l (by omega) mk body g e (fun i hi s hs=>?_) (fun s=>?_)
 ·rw[hb,vaw (by simp;omega),dg l i hi]
  simp only[vaa]
  rw[hg _ (vaG hi)]
  simp only[vaa]
  rw[lF (by simp;omega)]
  rfl
 ·rw[hb,vax (by simp)]
theorem Sb(l:List α)(hl:l.length<9223372036854775808)(body:Int->Option (Int⊕X))(k:Int->α->Option (Int⊕X))(p:α->Bool)(y e:X)
  (hb:∀(i:Int),body i=if decide (i<(l.length:Int))=true then(gn l i).bind (k i)else some (.inr e))
  (hk:∀x∈l,∀i,k i x=some (if p x=true then .inr y else .inl (bV (i+1)))):loop body 0=some (if l.any p=true then y else e):=by
 have:=OE l hl body p y e (fun i hi=>?_) (by rw[hb,vax (by simp)]) 0 (va5 _)
 ·rw[vbZ]at this
  exact this
 ·rw[hb,vaw (by simp;omega),dg l i hi]
  simp only[vaa]
  exact hk _ (vaG hi) i
end
theorem rR{α:Type}(l:List α)(h:l.length<=1073741824):px l=some l:=vaw h
set_option linter.unusedSimpArgs false
theorem LJ(t:aj):(⟨t.Op,t.Name,t.Args,t.Names,t.Pred,t.Preds⟩:aj)=t:=by cases t;rfl
mutual
def Gy:aj->Nat
 |⟨_,_,xs,ns,_,ps⟩=>kD xs+ns.length+ps.length+1
def kD:List aj->Nat
 |[]=>0
 |a::xs=>Gy a+kD xs
end
theorem Cn(t:aj):Gy t=kD t.Args+t.Names.length+t.Preds.length+1:=by obtain⟨o,n,xs,ns,p,ps⟩:=t;rw[Gy];rfl
theorem Uc(t:aj):1<=Gy t:=by rw[Cn];omega
theorem Gz:∀{l:List aj} {x:aj},x∈l->Gy x<=kD l
 | y :: l,x,h => by
  rw[kD]
  rcases vaB.1 h with rfl|h
  ·omega
  ·have:=Gz h;omega
theorem LY:∀(l:List aj),l.length<=kD l
 |[]=>by simp[kD]
 |p::l=>by rw[kD];have:=LY l;have:=Uc p;simp only[vaF];omega
theorem WX{t a:aj}(h:a∈t.Args):Gy a<Gy t:=by rw[Cn t];have:=Gz h;omega
mutual
def Mz(Q:am->Prop):aj->Prop
 |⟨_,_,xs,_,p,ps⟩=>Q p/\(∀q∈ps,Q q)/\HB Q xs
def HB(Q:am->Prop):List aj->Prop
 |[]=>True
 |a::xs=>Mz Q a/\HB Q xs
end
theorem NS(Q:am->Prop)(t:aj):Mz Q t↔Q t.Pred/\(∀q∈t.Preds,Q q)/\HB Q t.Args:=by obtain⟨o,n,xs,ns,p,ps⟩:=t;rw[Mz];rfl
theorem Lv(Q:am->Prop):∀(l:List aj),HB Q l↔∀t∈l,Mz Q t
 |[]=>by simp[HB]
 |a::l=>by rw[HB,Lv Q l];simp
theorem Ta{Q:am->Prop}{t a:aj}(h:Mz Q t)(ha:a∈t.Args):Mz Q a:=(Lv Q _).1 ((NS Q t).1 h).2.2 a ha
theorem Wv(l:List am):l.length<=cJ (l.map al):=by
 have:=Na l
 have:=Q2 l
 omega
theorem LX(l:List af):l.length<=cJ (l.map cS):=by
 have h:=OY (l.map cS) (fun x hx=>by
  obtain⟨s,_,rfl⟩:=vag.1 hx
  simp only[cS,ir,pm];omega)
 rwa[vbb]at h
theorem BC(t:aj):ir (ai t)=1+(pm (.str t.Name)+(pm (sl ai t.Args)+(pm (sl cS t.Names)+(1+(pm (.str t.Pred.Name)+(1+(pm (sl al t.Pred.Kids)+(pm (sl al t.Preds)+0)))))))):=by
 rw[cO];rfl
mutual
theorem QX:∀(t:aj),Gy t<=ir (ai t)
 |⟨o,n,xs,ns,p,ps⟩=>by
  have h1:=JU xs
  have h2:=Wv ps
  have h3:=LX ns
  rw[Gy,BC]
  show _<=1+(pm (.str n)+(pm (sl ai xs)+(pm (sl cS ns)+(1+(pm (.str p.Name)+(1+(pm (sl al p.Kids)+(pm (sl al ps)+0))))))))
  simp only[pm,sl]
  omega
theorem JU:∀(l:List aj),kD l<=cJ (l.map ai)
 |[]=>by simp[kD]
 |a::l=>by
  have:=QX a
  have:=JU l
  rw[kD]
  simp only[vaC,cJ]
  omega
end
theorem V8(t:aj):nP t.Pred<=ir (ai t):=by
 have h:=Q2 t.Pred.Kids
 rw[OJ,BC]
 simp only[pm,sl]
 omega
mutual
theorem Qy(B:Nat):∀(t:aj),ir (ai t)<=B->Mz (fun p=>nP p<=B) t
 |⟨o,n,xs,ns,p,ps⟩,h=>by
  have h0:=V8 ⟨o,n,xs,ns,p,ps⟩
  rw[BC]at h h0
  have h:1+(pm (.str n)+(pm (sl ai xs)+(pm (sl cS ns)+(1+(pm (.str p.Name)+(1+(pm (sl al p.Kids)+(pm (sl al ps)+0))))))))<=B:=h
  have h0:nP p<=1+(pm (.str n)+(pm (sl ai xs)+(pm (sl cS ns)+(1+(pm (.str p.Name)+(1+(pm (sl al p.Kids)+(pm (sl al ps)+0)))))))):=h0
  simp only[pm,sl]at h h0
  rw[Mz]
  refine⟨by omega,fun q hq=>?_,NR B xs (by omega)⟩
  have h1:=Ww q
  have h2:=Ki (vag.2 ⟨q,hq,rfl⟩:al q∈ps.map al)
  omega
theorem NR(B:Nat):∀(l:List aj),cJ (l.map ai)<=B->HB (fun p=>nP p<=B) l
 |[],_=>trivial
 |a::xs,h=>by
  simp only[vaC,cJ]at h
  rw[HB]
  exact⟨Qy B a (by omega),NR B xs (by omega)⟩
end
theorem RM(e:ag):(⟨e.Op,e.Name,e.N,e.Kids,e.Params,e.Alts,e.Types⟩:ag)=e:=by obtain⟨o,n,k,ks,ps,as1,ts⟩:=e;rfl
mutual
def nE:ag->Nat
 |⟨_,_,_,ks,ps,as1,ts⟩=>Br ks+Bq as1+ps.length+ts.length+1
def nA:aG->Nat
 |⟨_,ns,b⟩=>ns.length+nE b+1
def Br:List ag->Nat
 |[]=>0
 |e::l=>nE e+Br l
def Bq:List aG->Nat
 |[]=>0
 |a::l=>nA a+Bq l
end
theorem Dj(e:ag):nE e=Br e.Kids+Bq e.Alts+e.Params.length+e.Types.length+1:=by obtain⟨o,n,k,ks,ps,as1,ts⟩:=e;rw[nE];rfl
theorem L5(a:aG):nA a=a.Names.length+nE a.Body+1:=by obtain⟨c,ns,b⟩:=a;rw[nA];rfl
theorem M9(e:ag):1<=nE e:=by rw[Dj];omega
theorem Ff:∀{l:List ag} {x:ag},x∈l->nE x<=Br l
 | y :: l,x,h => by
  rw[Br]
  rcases vaB.1 h with rfl|h
  ·omega
  ·have:=Ff h;omega
theorem Cr:∀{l:List aG} {x:aG},x∈l->nA x<=Bq l
 | y :: l,x,h => by
  rw[Bq]
  rcases vaB.1 h with rfl|h
  ·omega
  ·have:=Cr h;omega
theorem Fe:∀(l:List ag),l.length<=Br l
 |[]=>by simp[Br]
 |p::l=>by rw[Br];have:=Fe l;have:=M9 p;simp only[vaF];omega
theorem Fd:∀(l:List aG),l.length<=Bq l
 |[]=>by simp[Bq]
 |p::l=>by rw[Bq];have:=Fd l;have:=L5 p;simp only[vaF];omega
theorem IT{e x:ag}(h:x∈e.Kids):nE x<nE e:=by rw[Dj e];have:=Ff h;omega
theorem IM{e:ag}{x:aG}(h:x∈e.Alts):nE x.Body<nE e:=by rw[Dj e];have:=Cr h;have:=L5 x;omega
theorem R2(e:ag):e.Kids.length<nE e:=by rw[Dj];have:=Fe e.Kids;omega
theorem Lx(e:ag):e.Alts.length<nE e:=by rw[Dj];have:=Fd e.Alts;omega
theorem OR(e:ag):e.Params.length<nE e:=by rw[Dj];omega
theorem Rv{e:ag}{x:aG}(h:x∈e.Alts):x.Names.length<nE e:=by rw[Dj];have:=Cr h;have:=L5 x;omega
def wV(e:ag):List ag:=e.Kids++e.Alts.map (·.Body)
theorem QH{e x:ag}(h:x∈wV e):nE x<nE e:=by
 rcases vam.1 h with h|h
 ·exact IT h
 ·obtain⟨a,ha,rfl⟩:=vag.1 h
  exact IM ha
theorem Yv{Q:ag->Prop}(h:∀e,(∀x∈wV e,Q x)->Q e):∀e,Q e:=by
 have key:∀(n:Nat) (e:ag),nE e<=n->Q e:=by
  intro n
  induction n with
  |zero=>intro e he;have:=M9 e;omega
  |succ n ih=>exact fun e he=>h e fun x hx=>ih x (by have:=QH hx;omega)
 exact fun e=>key _ e (van _)
mutual
def jS:ag->List ag
 |⟨o,n,k,ks,ps,as1,ts⟩=>⟨o,n,k,ks,ps,as1,ts⟩::(xV ks++xU as1)
def D9:aG->List ag
 |⟨_,_,b⟩=>jS b
def xV:List ag->List ag
 |[]=>[]
 |e::l=>jS e++xV l
def xU:List aG->List ag
 |[]=>[]
 |a::l=>D9 a++xU l
end
theorem HS:∀(l:List ag),xV l=l.flatMap jS
 |[]=>by rw[xV];rfl
 |e::l=>by rw[xV,HS l];rfl
theorem Se(a:aG):D9 a=jS a.Body:=by obtain⟨c,ns,b⟩:=a;rw[D9];rfl
theorem HR:∀(l:List aG),xU l=(l.map (·.Body)).flatMap jS
 |[]=>by rw[xU];rfl
 |a::l=>by rw[xU,HR l,Se];rfl
theorem L7(e:ag):jS e=e::(wV e).flatMap jS:=by
 obtain⟨o,n,k,ks,ps,as1,ts⟩:=e
 rw[jS,HS,HR,wV,vbF]
 rfl
theorem TK{X Y:Type}{F:(X->Option Y)->X->Option Y}(μ:X->Nat)(Q:X->Prop)(s:X->Option Y)(h:∀(R:X->Option Y) x,Q x->(∀y,μ y<μ x->Q y->R y=s y)->F R x=s x)(x:X)(hx:Q x)(hm:μ x<Vs):tn F x=s x:=by
 have key:∀n x,μ x<n->Q x->XM F n x=s x:=by
  intro n
  induction n with
  |zero=>intro x hx;omega
  |succ n ih=>intro x hx hq;exact h _ x hq fun y hy hqy=>ih y (by omega) hqy
 exact key _ x hm hx
def Dh{α S:Type}(F:S->α->Option (Bool×S)):List α->S->Option (Bool×S)
 |[],s=>some (true,s)
 |x::l,s=>(F s x).bind fun r=>match r.1 with
  |false=>some (false,r.2)
  |true=>Dh F l r.2
theorem D0{α S:Type}(F:S->α->Option (Bool×S)):∀(l m:List α) (s:S),Dh F (l++m) s=(Dh F l s).bind fun r=>match r.1 with
  |false=>some (false,r.2)
  |true=>Dh F m r.2
 |[],m,s=>rfl
 | x :: l,m,s => by
  rw[vaM,Dh,Dh]
  cases h:F s x with
  |none=>rfl
  |some r=>
   obtain⟨b,s'⟩:=r
   cases b with
   |false=>rfl
   |true=>exact D0 F l m s'
theorem LP{α S:Type}{F G:S->α->Option (Bool×S)}:∀{l:List α},(∀x∈l,∀s,F s x=G s x)->∀s,Dh F l s=Dh G l s
 |[],_,s=>rfl
 |x::l,h,s=>by
  rw[Dh,Dh,h x (by simp)]
  congr 1
  funext r
  rw[LP (l:=l) fun y hy=>h y (by simp[hy])]
theorem QR{α β S:Type}(F:S->β->Option (Bool×S))(g:α->β):∀(l:List α) (s:S),Dh F (l.map g) s=Dh (fun s x=>F s (g x)) l s
 |[],s=>rfl
 |x::l,s=>by
  rw[vaC,Dh,Dh]
  congr 1
  funext r
  rw[QR F g l]
theorem Ok{α β S:Type}(F:S->β->Option (Bool×S))(g:α->List β):∀(l:List α) (s:S),Dh F (l.flatMap g) s=Dh (fun s x=>Dh F (g x) s) l s
 |[],s=>rfl
 |x::l,s=>by
  rw[vbX,D0,Dh]
  congr 1
  funext r
  rw[Ok F g l]
theorem LR{α S:Type}{F:S->α->Option (Bool×S)}(f:S->α->S):∀(l:List α) (s:S),(∀x∈l,∀s,F s x=some (true,f s x))->Dh F l s=some (true,l.foldl f s)
 |[],s,_=>rfl
 |x::l,s,h=>by
  rw[Dh,h x (by simp)]
  exact LR f l _ fun y hy=>h y (by simp[hy])
theorem QZ{α S:Type}(l:List α)(hl:l.length<9223372036854775808)(body:Int×S->Option ((Int×S)⊕(S⊕S)))(F:S->α->Option (Bool×S))
  (hin:∀(i:Nat) (h:i<l.length) s,body ((i:Int),s)=(F s l[i]).bind fun r=>match r.1 with|false=>some (.inr (.inl r.2))|true=>some (.inl (bV ((i:Int)+1),r.2)))
  (hend:∀s,body ((l.length:Int),s)=some (.inr (.inr s))) (s:S):loop body (0,s)=(Dh F l s).bind fun r=>match r.1 with|false=>some (.inl r.2)|true=>some (.inr r.2):=by
 have key:∀(k i:Nat) (s:S),i+k=l.length->loop body ((i:Int),s)=(Dh F (l.drop i) s).bind fun r=>match r.1 with|false=>some (.inl r.2)|true=>some (.inr r.2):=by
  intro k
  induction k with
  |zero=>
   intro i s hi
   have:i=l.length:=by omega
   subst this
   rw[mI,hend,vct]
   rfl
  | succ k ih =>
   intro i s hi
   have hlt:i<l.length:=by omega
   rw[mI,hin i hlt,vbp hlt,Dh]
   cases hF:F s l[i]with
   |none=>rfl
   | some r =>
    obtain⟨b,s'⟩:=r
    cases b with
    |false=>rfl
    |true=>
     have:=ih (i+1) s' (by omega)
     simp only[vaa]
     rw[co (by omega) (by omega),show((i:Int)+1)=((i+1:Nat):Int) by omega]
     exact this
 have:=key l.length 0 s (by omega)
 exact this
theorem Wm{S:Type}{F:(ag×S->Option (Bool×S))->ag×S->Option (Bool×S)}(step:S->ag->Option (Bool×S))
  (hF:∀(R:ag×S->Option (Bool×S)) e s,nE e<=nh->F R (e,s)=(step s e).bind fun r=>match r.1 with
   |false=>some (false,r.2)
   |true=>Dh (fun s x=>R (x,s)) (wV e) r.2) (e:ag) (s:S) (he:nE e<=nh):tn F (e,s)=Dh step (jS e) s:=by
 refine TK (fun x=>nE x.1) (fun x=>nE x.1<=nh) (fun x=>Dh step (jS x.1) x.2) (fun R x hx ih=>?_) (e,s) he (xP he)
 obtain⟨e,s⟩:=x
 show F R (e,s)=Dh step (jS e) s
 rw[hF R e s hx,L7,Dh]
 congr 1
 funext r
 cases r.1 with
 |false=>rfl
 |true=>
  rw[Ok]
  refine LP (fun x hx2 s=>?_) r.2
  have:=QH hx2
  exact ih (x,s) this (vay (vb4 this) hx)
theorem ST{S:Type}(W:S->ag->Option (Bool×S))(e:ag)(he:nE e<=nh)(s:S)(b1 b2:Int×S->Option ((Int×S)⊕(S⊕S))){k1 k2:S⊕S->Option (Bool×S)}
  (h1:∀(i:Nat) (h:i<e.Kids.length) s,b1 ((i:Int),s)=(W s e.Kids[i]).bind fun r=>if(!r.1)=true then some (.inr (.inl r.2))else some (.inl (bV ((i:Int)+1),r.2))) (h1e:∀s,b1 ((e.Kids.length:Int),s)=some (.inr (.inr s)))
  (h2:∀(i:Nat) (h:i<e.Alts.length) s,b2 ((i:Int),s)=(W s e.Alts[i].Body).bind fun r=>if(!r.1)=true then some (.inr (.inl r.2))else some (.inl (bV ((i:Int)+1),r.2))) (h2e:∀s,b2 ((e.Alts.length:Int),s)=some (.inr (.inr s)))
  (g1:∀o,k1 (.inl o)=some (false,o)) (g2:∀o,k1 (.inr o)=(loop b2 (0,o)).bind k2) (g3:∀o,k2 (.inl o)=some (false,o)) (g4:∀o,k2 (.inr o)=some (true,o)):
  (loop b1 (0,s)).bind k1=Dh W (wV e) s:=by
 have l1:=R2 e
 have l2:=Lx e
 unfold nh at he
 rw[QZ e.Kids (by omega) b1 W (fun i h s=>by rw[h1 i h s];congr 1;funext r;cases r.1<;>rfl) h1e s,wV,D0]
 cases h:Dh W e.Kids s with
 |none=>rfl
 | some r =>
  obtain⟨b,s'⟩:=r
  cases b with
  |false=>exact g1 s'
  | true =>
   simp only[vaa]
   rw[g2,QZ e.Alts (by omega) b2 (fun s a=>W s a.Body) (fun i h s=>by rw[h2 i h s];congr 1;funext r;cases r.1<;>rfl) h2e s',QR]
   cases h:Dh (fun s a=>W s a.Body) e.Alts s' with
   |none=>rfl
   |some r=>
    obtain⟨b,s''⟩:=r
    cases b with
    |false=>exact g3 s''
    |true=>exact g4 s''
theorem fT{σ X:Type}(n:Nat)(body:σ->Option (σ⊕X))(S:Nat->σ)(e:X)(hin:∀i,i<n->body (S i)=some (.inl (S (i+1))))(hend:body (S n)=some (.inr e)):loop body (S 0)=some e:=by
 have key:∀k i,k+i=n->loop body (S i)=some e:=by
  intro k
  induction k with
  |zero=>
   intro i hi
   have:i=n:=by omega
   subst this
   exact rS hend
  |succ k ih=>
   intro i hi
   rw[yu (hin i (by omega))]
   exact ih (i+1) (by omega)
 exact key n 0 (by omega)
theorem AE(e:ag)(s:List (af×Bool))(he:nE e<=nh):j4 e s=Dh (fun s x=>fI x s) (jS e) s:=by
 refine Wm (F:=jf) (fun s x=>fI x s) (fun R e s he=>?_) e s he
 show fN (fun e k=>R (e,k)) e s=_
 unfold fN
 congr 1
 funext r
 obtain⟨b,s'⟩:=r
 cases b with
 |false=>rfl
 | true =>
  rw[vax (show ¬((!(true,s').1)=true) by simp)]
  refine ST (fun s x=>R (x,s)) e he s' (fun zz=>cj (fun e k=>R (e,k)) e.Kids e.Kids.length zz.1 zz.2) (fun zz=>cm (fun e k=>R (e,k)) e.Alts e.Alts.length zz.1 zz.2) (fun i h s=>?_) (fun s=>?_) (fun i h s=>?_) (fun s=>?_) (fun _=>rfl) (fun _=>rfl) (fun _=>rfl) (fun _=>rfl)
  ·show cj (fun e k=>R (e,k)) e.Kids e.Kids.length i s=_
   unfold cj
   rw[vaw (by simpa using h),dg _ _ h];rfl
  ·show cj (fun e k=>R (e,k)) e.Kids e.Kids.length e.Kids.length s=_
   unfold cj
   rw[vax (by simp)]
  ·show cm (fun e k=>R (e,k)) e.Alts e.Alts.length i s=_
   unfold cm
   rw[vaw (by simpa using h),dg _ _ h];rfl
  ·show cm (fun e k=>R (e,k)) e.Alts e.Alts.length e.Alts.length s=_
   unfold cm
   rw[vax (by simp)]
section
variable{α β σ τ X Y:Type}
theorem P3(l:List α)(hl:l.length<9223372036854775808)(mk:Int->τ)(body:τ->Option (τ⊕X))(f:α->Option X)(e:X)
  (hin:∀(i:Nat) (h:i<l.length),body (mk (i:Int))=some ((f l[i]).elim (.inl (mk (bV ((i:Int)+1)))) .inr)) (hend:body (mk l.length)=some (.inr e)):loop body (mk 0)=some ((l.findSome? f).elim e id):=by
 have key:∀k i,k+i=l.length->loop body (mk (i:Int))=some (((l.drop i).findSome? f).elim e id):=by
  intro k
  induction k with
  |zero=>
   intro i hi
   have:i=l.length:=by omega
   subst this
   rw[mI,hend,vct]
   rfl
  | succ k ih =>
   intro i hi
   rw[mI,hin i (by omega),vbp (by omega),List.findSome?_cons]
   cases h:f l[i]with
   |none=>
    simp only[Option.elim]
    rw[co (by omega) (by omega),show((i:Int)+1)=((i+1:Nat):Int) by omega]
    exact ih (i+1) (by omega)
   |some y=>rfl
 have:=key l.length 0 (by omega)
 rw[vbZ]at this
 exact this
end
theorem X2{a b:Bool}:(if a=true then some b else some false)=some (a&&b):=by cases a<;>rfl
theorem qau{a b:Bool}:(if a=true then some true else some b)=some (a||b):=by cases a<;>rfl
theorem VC{α:Type}[DecidableEq α]{a b:List α}(ha:a.length<=nh)(body:Int->Option (Int⊕(Unit⊕Unit)))
  (hin:∀(i:Nat) (h1:i<a.length) (h2:i<b.length),body (i:Int)=some (if decide (a[i]=b[i])=true then .inl (bV ((i:Int)+1))else .inr (.inl ()))) (hend:body (a.length:Int)=some (.inr (.inr ()))) {k:Unit⊕Unit->Option Bool} (g1:k (.inl ())=some false) (g2:k (.inr ())=some true):
  (if((a.length:Int)!=(b.length:Int))=true then some false else(loop body 0).bind k)=some (decide (a=b)):=by
 by_cases hl:a.length=b.length
 ·rw[vax (by simp[hl]),Ug hl (by unfold nh at ha;omega) body (.inl ()) (.inr ()) hin hend]
  by_cases he:a=b
  ·simp only[he,decide_true,if_true,vaa];exact g2
  ·simp only[he,decide_false,vaY,if_false,vaa];exact g1
 ·rw[vaw (by simp;omega),decide_eq_false (fun he=>hl (by rw[he]))]
theorem SD{a b:List af}(ha:a.length<=nh):kq a b=some (decide (a=b)):=by
 unfold kq rN
 refine VC ha _ (fun i h1 h2=>?_) ?_ rfl rfl
 ·show gG a b (i:Int)=_
  unfold gG
  rw[vaw (by simpa using h1),dg a i h1]
  simp only[vaa]
  rw[dg b i h2]
  simp only[vaa]
  by_cases he:a[i]=b[i]<;>simp[he]
 ·show gG a b (a.length:Int)=_
  unfold gG
  rw[vax (by simp)]
abbrev Us(t:aj):Prop:=Gy t<=nh/\Mz (fun p=>nP p<=nh) t
theorem Q6{t a:aj}(h:Us t)(ha:a∈t.Args):Us a:=⟨vay (vb4 (WX ha)) h.1,Ta h.2 ha⟩
mutual
def wT:aj->Nat
 |⟨_,_,xs,_,p,ps⟩=>nP p+nL ps+Pn xs
def Pn:List aj->Nat
 |[]=>0
 |a::xs=>wT a+Pn xs
end
theorem YR(t:aj):wT t=nP t.Pred+nL t.Preds+Pn t.Args:=by obtain⟨o,n,xs,ns,p,ps⟩:=t;rw[wT];rfl
theorem UW(l:List aj)(i:Nat)(h:i<l.length):Pn (l.take (i+1))=Pn (l.take i)+wT l[i]:=by
 have key:∀(a b:List aj),Pn (a++b)=Pn a+Pn b:=by
  intro a b
  induction a with
  |nil=>simp[Pn]
  |cons x a ih=>rw[vaM,Pn,Pn,ih];omega
 rw[vaz h,key]
 simp[Pn]
theorem DW{α:Type}{l:List α}{i:Nat}{n most:Int}(h:i<l.length)(hm:n<=most):(if(decide ((i:Int)<(l.length:Int)))=true then some (decide (n<=most))else some false)=some true:=by
 rw[vaw (by simp;omega),decide_eq_true hm]
theorem zj{α:Type}{l:List α}{i:Nat}{n most:Int}(h:i=l.length\/¬n<=most):(if(decide ((i:Int)<(l.length:Int)))=true then some (decide (n<=most))else some false)=some false:=by
 by_cases hi:i<l.length
 ·rw[vaw (by simp;omega)]
  rcases h with h|h
  ·omega
  ·rw[decide_eq_false h]
 ·rw[vax (by simp;omega)]
theorem zP{α:Type}(l:List α)(hl:l.length<9223372036854775808){body:Int×Int->Option ((Int×Int)⊕Int)}(most:Int)(I:Nat->Int->Prop)
  (hin:∀(i:Nat) (h:i<l.length) n,I i n->n<=most->wF (body (n,(i:Int))) (fun r=>∃n',r=.inl (n',bV ((i:Int)+1))/\I (i+1) n'))
  (hout:∀(i:Nat) n,i<=l.length->(i=l.length\/¬n<=most)->body (n,(i:Int))=some (.inr n)) (n:Int) (h0:I 0 n):wF (loop body (n,0)) (fun r=>∃i,i<=l.length/\I i r/\(i=l.length\/¬r<=most)):=by
 have key:∀k i n,k+i=l.length->I i n->wF (loop body (n,(i:Int))) (fun r=>∃i,i<=l.length/\I i r/\(i=l.length\/¬r<=most)):=by
  intro k
  induction k with
  |zero=>
   intro i n hi hI
   rw[mI,hout i n (by omega) (.inl (by omega))]
   exact dB ⟨i,by omega,hI,.inl (by omega)⟩
  | succ k ih =>
   intro i n hi hI
   by_cases hm:n<=most
   ·obtain⟨r,e,n',rfl,hI'⟩:=hin i (by omega) n hI hm
    rw[mI,e]
    simp only
    rw[co (by omega) (by omega),show((i:Int)+1)=((i+1:Nat):Int) by omega]
    exact ih (i+1) n' (by omega) hI'
   ·rw[mI,hout i n (by omega) (.inr hm)]
    exact dB ⟨i,by omega,hI,.inr hm⟩
 exact key l.length 0 n (by omega) h0
theorem G6(a b:Nat)(hb:0<b)(ha:a<9223372036854775808):qu .i64 (a:Int) (b:Int)=some ((a / b:Nat):Int):=by
 unfold qu
 rw[vax (by omega)]
 have h:((a:Int).tdiv (b:Int))=((a / b:Nat):Int):=by
  rw[vcb (by omega)];rfl
 rw[h]
 have h2:=vbB a b
 generalize a / b=q at *
 congr 1
 exact co (by omega) (by omega)
theorem FB(p:am):ir (al p)=1+(p.Name.length+1+(1+(cJ (p.Kids.map al)+1+0))):=by
 rw[cC];simp only[ir,pm,sl]
theorem va{α:Type}(c:α->List PVal)(l:List α)(i:Nat)(h:i<l.length):cJ ((l.take (i+1)).map c)=cJ ((l.take i).map c)+ir (c l[i]):=by
 rw[vaz h,vaW]
 have:∀(a b:List (List PVal)),cJ (a++b)=cJ a+cJ b:=by
  intro a
  induction a with
  |nil=>intro b;simp[cJ]
  |cons x a ih=>intro b;rw[vaM,cJ,ih,cJ];omega
 rw[this]
 simp[cJ]
theorem fx{α:Type}(c:α->List PVal)(l:List α)(i:Nat):cJ ((l.take i).map c)<=cJ (l.map c):=by
 have:∀(l:List α) (i:Nat),cJ ((l.take i).map c)<=cJ (l.map c):=by
  intro l
  induction l with
  |nil=>intro i;simp
  |cons x l ih=>
   intro i
   cases i with
   |zero=>simp[cJ]
   |succ i=>have:=ih i;simp only[List.take_succ_cons,vaC,cJ];omega
 exact this l i
theorem pP{α:Type}(c:α->List PVal)(h:∀x,1<=ir (c x)):∀(l:List α),l.length<=cJ (l.map c)
 |[]=>by simp
 |x::l=>by have:=pP c h l;have:=h x;simp only[vaC,cJ,vaF];omega
theorem UK(p:am):1<=ir (al p):=by rw[FB];omega
theorem OI(l:List am):nL (l.take l.length)=nL l:=by rw[vaR]
abbrev Fc:Nat:=4000000
structure Yh(l:List am)(most r:Int):Prop where
 lo:0<=r
 hi:r<=(cJ (l.map al):Int)
 sm:r<=most->(nL l:Int)<=r
theorem Wa(l:List am)(most:Int)(hl:cJ (l.map al)<=Fc)(h1: -8000000<=most)(h2:most<=1000000000):wF (Gn l most) (Yh l most):=by
 refine Ga (F:=AS) (fun x=>cJ (x.1.map al)) (fun x=>cJ (x.1.map al)<=Fc/\-8000000<=x.2/\x.2<=1000000000) (fun x r=>Yh x.1 x.2 r) (fun R x hx ih=>?_) (l,most) ⟨hl,h1,h2⟩ (xP (vay hl (by decide)))
 obtain⟨l,most⟩:=x
 obtain⟨hl,h1,h2⟩:=hx
 have hl:cJ (l.map al)<=Fc:=hl
 have h1: -8000000<=most:=h1
 have h2:most<=1000000000:=h2
 have hlen:=pP al UK l
 show wF (wN (fun a most=>R (a,most)) l most) _
 unfold wN y6
 unfold Fc at hl
 refine fK (zP l (by omega) most (fun i n=>0<=n/\n<=(cJ ((l.take i).map al):Int)/\(n<=most->(nL (l.take i):Int)<=n)) (fun i hi n hI hm=>?_) (fun i n _ h=>?_) 0 ⟨by omega,by omega,fun _=>by simp[nL]⟩) (fun r hr=>dB ?_)
 ·obtain⟨g1,g2,g3⟩:=hI
  have e:=va al l i hi
  have e2:=fx al l (i+1)
  have ep:=FB l[i]
  have en:=VT l i hi
  have enp:=OJ l[i]
  show wF (kP (fun a most=>R (a,most)) l most n i) _
  unfold kP uu
  rw[DW hi hm,dg l i hi]
  simp only[vaa,if_true]
  have hq:=vbB l[i].Name.length 50
  rw[show(50:Int)=((50:Nat):Int)from rfl,G6 _ 50 (by omega) (by omega)]
  simp only[vaa]
  rw[co (n:=n+1) (by omega) (by omega),co (n:=n+1+_) (by omega) (by omega),co (n:=most - _) (by omega) (by omega)]
  refine fK (ih (l[i].Kids,most - (n+1+((l[i].Name.length / 50:Nat):Int))) (by show _<cJ (l.map al);show cJ (l[i].Kids.map al)<_;omega) ⟨by show cJ (l[i].Kids.map al)<=Fc;unfold Fc;omega,by show -8000000<=most - _;omega,by show most - _<=1000000000;omega⟩) (fun r hr=>?_)
  have q1:=hr.lo
  have q2:r<=(cJ (l[i].Kids.map al):Int):=hr.hi
  have q3:r<=most - (n+1+((l[i].Name.length / 50:Nat):Int))->(nL l[i].Kids:Int)<=r:=hr.sm
  rw[co (n:=n+1+_+r) (by omega) (by omega)]
  refine dB ⟨_,rfl,by omega,by omega,fun hm'=>?_⟩
  have:=q3 (by omega)
  have:=g3 hm
  omega
 ·show kP (fun a most=>R (a,most)) l most n i=_
  unfold kP uu
  rw[zj h]
  rfl
 ·obtain⟨i,hi,⟨g1,g2,g3⟩,h⟩:=hr
  have e2:=fx al l i
  refine⟨g1,by show r<=(cJ (l.map al):Int);omega,fun hm=>?_⟩
  have hm:r<=most:=hm
  have:i=l.length:=by
   rcases h with h|h
   ·exact h
   ·exact absurd hm h
  subst this
  rw[OI]at g3
  exact g3 hm
theorem P0(l:List aj)(i:Nat)(h:i<l.length):kD (l.take (i+1))=kD (l.take i)+Gy l[i]:=by
 have ap:∀(a b:List aj),kD (a++b)=kD a+kD b:=by
  intro a
  induction a with
  |nil=>intro b;simp[kD]
  |cons x a ih=>intro b;rw[vaM,kD,ih,kD];omega
 rw[vaz h,ap]
 simp[kD]
theorem O0(t:aj):1<=ir (ai t):=by rw[BC];omega
theorem Sx(t:aj):ir (ai t)=1+(t.Name.length+1)+(cJ (t.Args.map ai)+1)+(cJ (t.Names.map cS)+1)+ir (al t.Pred)+(cJ (t.Preds.map al)+1):=by
 rw[BC,FB];simp only[pm,sl];omega
structure Yi(l:List aj)(most r:Int):Prop where
 lo:0<=r
 hi:r<=(cJ (l.map ai):Int)
 sm:r<=most->(kD l:Int)<=r/\(Pn l:Int)<=r
theorem Rj(l:List aj)(most:Int)(hl:cJ (l.map ai)<=Fc)(h1: -8000000<=most)(h2:most<=1000000000):wF (Ca l most) (Yi l most):=by
 refine Ga (F:=AV) (fun x=>cJ (x.1.map ai)) (fun x=>cJ (x.1.map ai)<=Fc/\-8000000<=x.2/\x.2<=1000000000) (fun x r=>Yi x.1 x.2 r) (fun R x hx ih=>?_) (l,most) ⟨hl,h1,h2⟩ (xP (vay hl (by decide)))
 obtain⟨l,most⟩:=x
 obtain⟨hl,h1,h2⟩:=hx
 have hl:cJ (l.map ai)<=Fc:=hl
 have h1: -8000000<=most:=h1
 have h2:most<=1000000000:=h2
 have hlen:=pP ai O0 l
 show wF (wQ (fun a most=>R (a,most)) l most) _
 unfold wQ y7
 unfold Fc at hl
 refine fK (zP l (by omega) most (fun i n=>0<=n/\n<=(cJ ((l.take i).map ai):Int)/\(n<=most->(kD (l.take i):Int)<=n/\(Pn (l.take i):Int)<=n)) (fun i hi n hI hm=>?_) (fun i n _ h=>?_) 0 ⟨by omega,by omega,fun _=>by simp[kD,Pn]⟩) (fun r hr=>dB ?_)
 ·obtain⟨g1,g2,g3⟩:=hI
  have e:=va ai l i hi
  have e2:=fx ai l (i+1)
  have ep:=Sx l[i]
  have epp:=FB l[i].Pred
  have en:=P0 l i hi
  have en2:=UW l i hi
  have enp:=Cn l[i]
  have enp2:=YR l[i]
  have hns:=LX l[i].Names
  have hps:=Wv l[i].Preds
  have hpl:=Na l[i].Preds
  show wF (kQ (fun a most=>R (a,most)) l most n i) _
  unfold kQ uv
  rw[DW hi hm,dg l i hi]
  simp only[vaa,if_true]
  have hq:=vbB l[i].Name.length 50
  rw[show(50:Int)=((50:Nat):Int)from rfl,G6 _ 50 (by omega) (by omega)]
  simp only[vaa]
  rw[lF (by simp;omega)]
  simp only[vaa]
  refine fK (Wa ([l[i].Pred]++l[i].Preds) most (by unfold Fc;simp only[List.singleton_append,vaC,cJ];omega) h1 h2) (fun rp hp=>?_)
  have p1:=hp.lo
  have p2:rp<=((ir (al l[i].Pred)+cJ (l[i].Preds.map al):Nat):Int):=by
   have:=hp.hi
   simp only[List.singleton_append,vaC,cJ]at this
   exact this
  have p3:rp<=most->((nP l[i].Pred+nL l[i].Preds:Nat):Int)<=rp:=by
   have:=hp.sm
   simp only[List.singleton_append,nL]at this
   exact this
  rw[co (n:=n+1) (by omega) (by omega),co (n:=n+1+_) (by omega) (by omega),co (n:=n+1+_+_) (by omega) (by omega),co (n:=n+1+_+_+_) (by omega) (by omega),co (n:=most - _) (by omega) (by omega)]
  refine fK (ih (l[i].Args,most - (n+1+((l[i].Name.length / 50:Nat):Int)+(l[i].Names.length:Int)+rp)) (by show _<cJ (l.map ai);show cJ (l[i].Args.map ai)<_;omega) ⟨by show cJ (l[i].Args.map ai)<=Fc;unfold Fc;omega,by show -8000000<=most - _;omega,by show most - _<=1000000000;omega⟩) (fun r hr=>?_)
  have q1:=hr.lo
  have q2:r<=(cJ (l[i].Args.map ai):Int):=hr.hi
  have q3:r<=most - (n+1+((l[i].Name.length / 50:Nat):Int)+(l[i].Names.length:Int)+rp)->(kD l[i].Args:Int)<=r/\(Pn l[i].Args:Int)<=r:=hr.sm
  rw[co (n:=_+r) (by omega) (by omega)]
  refine dB ⟨_,rfl,by omega,by omega,fun hm'=>?_⟩
  have:=q3 (by omega)
  have:=p3 (by omega)
  have:=g3 hm
  have:=Um l[i].Pred
  omega
 ·show kQ (fun a most=>R (a,most)) l most n i=_
  unfold kQ uv
  rw[zj h]
  rfl
 ·obtain⟨i,hi,⟨g1,g2,g3⟩,h⟩:=hr
  have e2:=fx ai l i
  refine⟨g1,by show r<=(cJ (l.map ai):Int);omega,fun hm=>?_⟩
  have hm:r<=most:=hm
  have:i=l.length:=by
   rcases h with h|h
   ·exact h
   ·exact absurd hm h
  subst this
  rw[vaR]at g3
  exact g3 hm
theorem tw(e:ag):ir (ae e)=1+(e.Name.length+1+(1+(cJ (e.Kids.map ae)+1+(cJ (e.Params.map aw)+1+(cJ (e.Alts.map aA)+1+(cJ (e.Types.map ai)+1+0)))))):=by
 rw[bE];simp only[ir,pm,sl]
theorem IW(a:aG):ir (aA a)=a.Con.length+1+(cJ (a.Names.map cS)+1+ir (ae a.Body)):=by
 obtain⟨c,ns,b⟩:=a
 rw[aA]
 show ir (PVal.str c::sl cS ns::ae b)=_
 simp only[ir,pm,sl];rfl
theorem G1(p:ax):ir (aw p)=p.Name.length+1+ir (ai p.Type_):=by
 show ir (PVal.str p.Name::ai p.Type_)=_
 simp only[ir,pm]
theorem UH(e:ag):1<=ir (ae e):=by rw[tw];omega
theorem V5(a:aG):1<=ir (aA a):=by rw[IW];omega
theorem Mh(p:ax):1<=ir (aw p):=by rw[G1];omega
theorem zy{α:Type}(c:α->List PVal){l:List α}{x:α}(h:x∈l):ir (c x)<=cJ (l.map c):=Ki (vag.2 ⟨x,h,rfl⟩)
theorem Qe{e x:ag}(h:x∈e.Kids):ir (ae x)<ir (ae e):=by have:=zy ae h;rw[tw e];omega
theorem Xv{e:ag}{a:aG}(h:a∈e.Alts):ir (aA a)<ir (ae e):=by have:=zy aA h;rw[tw e];omega
theorem Kj{e:ag}{a:aG}(h:a∈e.Alts):ir (ae a.Body)<ir (ae e):=by have:=Xv h;have:=IW a;omega
theorem UJ{e:ag}{p:ax}(h:p∈e.Params):ir (aw p)<ir (ae e):=by have:=zy aw h;rw[tw e];omega
theorem V9{e:ag}{t:aj}(h:t∈e.Types):ir (ai t)<ir (ae e):=by have:=zy ai h;rw[tw e];omega
theorem V6{e x:ag}(h:x∈wV e):ir (ae x)<ir (ae e):=by
 rcases vam.1 h with h|h
 ·exact Qe h
 ·obtain⟨a,ha,rfl⟩:=vag.1 h
  exact Kj ha
theorem V7{e x:ag}(h:x∈jS e):ir (ae x)<=ir (ae e):=by
 revert x
 refine Yv (Q:=fun e=>∀{x},x∈jS e->ir (ae x)<=ir (ae e)) (fun e ih x h=>?_) e
 rw[L7]at h
 rcases vaB.1 h with rfl|h
 ·exact van _
 ·obtain⟨y,hy,hx⟩:=vcN.1 h
  have:=ih y hy hx
  have:=V6 hy
  omega
mutual
theorem OH:∀(e:ag),nE e<=ir (ae e)
 |⟨o,n,k,ks,ps,as1,ts⟩=>by
  have h1:=Uj ks
  have h2:=Uh as1
  have h3:=pP aw Mh ps
  have h4:=pP ai O0 ts
  rw[nE,tw]
  show _<=1+(n.length+1+(1+(cJ (ks.map ae)+1+(cJ (ps.map aw)+1+(cJ (as1.map aA)+1+(cJ (ts.map ai)+1+0))))))
  omega
theorem Yz:∀(a:aG),nA a<=ir (aA a)
 |⟨c,ns,b⟩=>by
  have h1:=OH b
  have h2:=LX ns
  rw[nA,IW]
  show _<=c.length+1+(cJ (ns.map cS)+1+ir (ae b))
  omega
theorem Uj:∀(l:List ag),Br l<=cJ (l.map ae)
 |[]=>by simp[Br]
 |e::l=>by
  have:=OH e
  have:=Uj l
  rw[Br]
  simp only[vaC,cJ]
  omega
theorem Uh:∀(l:List aG),Bq l<=cJ (l.map aA)
 |[]=>by simp[Bq]
 |a::l=>by
  have:=Yz a
  have:=Uh l
  rw[Bq]
  simp only[vaC,cJ]
  omega
end
theorem Ut{t:aj}(h:ir (ai t)<=nh):Us t:=⟨vay (QX t) h,Qy nh t h⟩
theorem VU(l:List af)(most:Int)(hl:cJ (l.map cS)<=Fc):wF (B9 l most) (fun r=>0<=r/\r<=(cJ (l.map cS):Int)):=by
 unfold B9 y5
 unfold Fc at hl
 have hlen:=LX l
 refine fK (zP l (by omega) most (fun i n=>0<=n/\n<=(cJ ((l.take i).map cS):Int)) (fun i hi n hI hm=>?_) (fun i n _ h=>?_) 0 ⟨by omega,by omega⟩) (fun r hr=>dB ?_)
 ·obtain⟨g1,g2⟩:=hI
  have e:=va cS l i hi
  have e2:=fx cS l (i+1)
  have e3:ir (cS l[i])=l[i].length+1:=by simp only[cS,ir,pm]
  show wF (kO l most n i) _
  unfold kO ut
  rw[DW hi hm,dg l i hi]
  simp only[vaa,if_true]
  have hq:=vbB l[i].length 50
  rw[show(50:Int)=((50:Nat):Int)from rfl,G6 _ 50 (by omega) (by omega)]
  simp only[vaa]
  rw[co (n:=n+1) (by omega) (by omega),co (n:=n+1+_) (by omega) (by omega)]
  exact dB ⟨_,rfl,by omega,by omega⟩
 ·show kO l most n i=_
  unfold kO ut
  rw[zj h]
  rfl
 ·obtain⟨i,hi,⟨g1,g2⟩,h⟩:=hr
  have e2:=fx cS l i
  exact⟨g1,by omega⟩
theorem Yf(e:ag)(most:Int)(he:ir (ae e)<=Fc)(h1: -4000000<=most)(h2:most<=1000000000):wF (I8 e most) (fun r=>0<=r/\r<=(ir (ae e):Int)):=by
 refine Ga (F:=DK) (fun x=>ir (ae x.1)) (fun x=>ir (ae x.1)<=Fc/\-4000000<=x.2/\x.2<=1000000000) (fun x r=>0<=r/\r<=(ir (ae x.1):Int)) (fun R x hx ih=>?_) (e,most) ⟨he,h1,h2⟩ (xP (vay he (by decide)))
 obtain⟨e,most⟩:=x
 obtain⟨he,h1,h2⟩:=hx
 have he:ir (ae e)<=Fc:=he
 have h1: -4000000<=most:=h1
 have h2:most<=1000000000:=h2
 have hpm:=tw e
 have l1:=pP aw Mh e.Params
 have l2:=pP ae UH e.Kids
 have l3:=pP aA V5 e.Alts
 show wF (yZ (fun e most=>R (e,most)) e most) (fun r=>0<=r/\r<=(ir (ae e):Int))
 unfold yZ
 unfold Fc at he
 have hq:=vbB e.Name.length 50
 rw[show(50:Int)=((50:Nat):Int)from rfl,G6 _ 50 (by omega) (by omega)]
 simp only[vaa]
 refine fK (Rj e.Types most (by unfold Fc;omega) (by omega) h2) (fun rt ht=>?_)
 have t1:=ht.lo
 have t2:=ht.hi
 rw[co (n:=1+_) (by omega) (by omega),co (n:=1+_+rt) (by omega) (by omega)]
 generalize hb:(1:Int)+((e.Name.length / 50:Nat):Int)+rt=b0
 have b1:0<=b0:=by omega
 have b2:b0<=((1+e.Name.length+cJ (e.Types.map ai):Nat):Int):=by omega
 refine fK (R:=fun r=>0<=r/\r<=b0+(cJ (e.Params.map aw):Int)) ?_ (fun r1 hr1=>?_)
 ·unfold AK
  refine(zP e.Params (by omega) most (fun i n=>0<=n/\n<=b0+(cJ ((e.Params.take i).map aw):Int)) (fun i hi n hI hm=>?_) (fun i n _ h=>?_) b0 ⟨b1,by simp[cJ]⟩).mono (fun r hr=>?_)
  ·obtain⟨g1,g2⟩:=hI
   have e1:=va aw e.Params i hi
   have e2:=fx aw e.Params (i+1)
   have e3:=G1 e.Params[i]
   show wF (ml most e n i) _
   unfold ml wJ
   rw[DW hi hm,dg e.Params i hi]
   simp only[vaa,if_true]
   have hq:=vbB e.Params[i].Name.length 50
   rw[show(50:Int)=((50:Nat):Int)from rfl,G6 _ 50 (by omega) (by omega)]
   simp only[vaa]
   refine fK (Rj [e.Params[i].Type_] most (by unfold Fc;simp only[vaC,vbC,cJ];omega) (by omega) h2) (fun rp hp=>?_)
   have p1:=hp.lo
   have p2:rp<=((ir (ai e.Params[i].Type_)+0:Nat):Int):=by
    have:=hp.hi
    simp only[vaC,vbC,cJ]at this
    exact this
   rw[co (n:=n+1) (by omega) (by omega),co (n:=n+1+_) (by omega) (by omega),co (n:=n+1+_+_) (by omega) (by omega)]
   exact dB ⟨_,rfl,by omega,by omega⟩
  ·show ml most e n i=_
   unfold ml wJ
   rw[zj h]
   rfl
  ·obtain⟨i,hi,⟨g1,g2⟩,h⟩:=hr
   have e2:=fx aw e.Params i
   exact⟨g1,by omega⟩
 obtain⟨c1,c2⟩:=hr1
 refine fK (R:=fun r=>0<=r/\r<=r1+(cJ (e.Kids.map ae):Int)) ?_ (fun r2 hr2=>?_)
 ·unfold AL
  refine(zP e.Kids (by omega) most (fun i n=>0<=n/\n<=r1+(cJ ((e.Kids.take i).map ae):Int)) (fun i hi n hI hm=>?_) (fun i n _ h=>?_) r1 ⟨c1,by simp[cJ]⟩).mono (fun r hr=>?_)
  ·obtain⟨g1,g2⟩:=hI
   have e1:=va ae e.Kids i hi
   have e2:=fx ae e.Kids (i+1)
   have hk:=Qe (vaG hi)
   show wF (mm (fun e most=>R (e,most)) most e n i) _
   unfold mm wK
   rw[DW hi hm,dg e.Kids i hi]
   simp only[vaa,if_true]
   rw[co (n:=most - n) (by omega) (by omega)]
   refine fK (ih (e.Kids[i],most - n) hk ⟨by show ir (ae e.Kids[i])<=Fc;unfold Fc;omega,by show -4000000<=most - n;omega,by show most - n<=1000000000;omega⟩) (fun r hr=>?_)
   have q1:0<=r:=hr.1
   have q2:r<=(ir (ae e.Kids[i]):Int):=hr.2
   rw[co (n:=n+r) (by omega) (by omega)]
   exact dB ⟨_,rfl,by omega,by omega⟩
  ·show mm (fun e most=>R (e,most)) most e n i=_
   unfold mm wK
   rw[zj h]
   rfl
  ·obtain⟨i,hi,⟨g1,g2⟩,h⟩:=hr
   have e2:=fx ae e.Kids i
   exact⟨g1,by omega⟩
 obtain⟨d1,d2⟩:=hr2
 refine fK (R:=fun r=>0<=r/\r<=r2+(cJ (e.Alts.map aA):Int)) ?_ (fun r3 hr3=>dB ⟨hr3.1,by have:=hr3.2;omega⟩)
 unfold AM
 refine(zP e.Alts (by omega) most (fun i n=>0<=n/\n<=r2+(cJ ((e.Alts.take i).map aA):Int)) (fun i hi n hI hm=>?_) (fun i n _ h=>?_) r2 ⟨d1,by simp[cJ]⟩).mono (fun r hr=>?_)
 ·obtain⟨g1,g2⟩:=hI
  have e1:=va aA e.Alts i hi
  have e2:=fx aA e.Alts (i+1)
  have e3:=IW e.Alts[i]
  have hk:=Kj (vaG hi)
  show wF (mn (fun e most=>R (e,most)) most e n i) _
  unfold mn wL
  rw[DW hi hm,dg e.Alts i hi]
  simp only[vaa,if_true]
  have hq:=vbB e.Alts[i].Con.length 50
  rw[show(50:Int)=((50:Nat):Int)from rfl,G6 _ 50 (by omega) (by omega)]
  simp only[vaa]
  refine fK (VU e.Alts[i].Names most (by unfold Fc;omega)) (fun rn hn=>?_)
  obtain⟨n1,n2⟩:=hn
  rw[co (n:=n+1) (by omega) (by omega),co (n:=n+1+_) (by omega) (by omega),co (n:=n+1+_+_) (by omega) (by omega),co (n:=most - _) (by omega) (by omega)]
  refine fK (ih (e.Alts[i].Body,most - (n+1+((e.Alts[i].Con.length / 50:Nat):Int)+rn)) hk ⟨by show ir (ae e.Alts[i].Body)<=Fc;unfold Fc;omega,by show -4000000<=most - _;omega,by show most - _<=1000000000;omega⟩) (fun r hr=>?_)
  have q1:0<=r:=hr.1
  have q2:r<=(ir (ae e.Alts[i].Body):Int):=hr.2
  rw[co (n:=_+r) (by omega) (by omega)]
  exact dB ⟨_,rfl,by omega,by omega⟩
 ·show mn (fun e most=>R (e,most)) most e n i=_
  unfold mn wL
  rw[zj h]
  rfl
 ·obtain⟨i,hi,⟨g1,g2⟩,h⟩:=hr
  have e2:=fx aA e.Alts i
  exact⟨g1,by omega⟩
abbrev OM(e:ag):Prop:=ir (ae e)<=nh
theorem ON{e:ag}(h:OM e):nE e<=nh:=vay (OH e) h
theorem VX{e x:ag}(h:OM e)(hx:x∈e.Kids):OM x:=vay (vb4 (Qe hx)) h
theorem Sj{e:ag}{a:aG}(h:OM e)(hx:a∈e.Alts):OM a.Body:=vay (vb4 (Kj hx)) h
theorem Uq{e x:ag}(h:OM e)(hx:x∈jS e):OM x:=vay (V7 hx) h
theorem Ur{e:ag}{t:aj}(h:OM e)(hx:t∈e.Types):Us t:=Ut (vay (vb4 (V9 hx)) h)
theorem Sk{e:ag}{p:ax}(h:OM e)(hx:p∈e.Params):Us p.Type_:=Ut (by have:=UJ hx;have:=G1 p;have:ir (ae e)<=nh:=h;omega)
end Go.Proofs.YtkdahfeiedaahaaGreatDoor
