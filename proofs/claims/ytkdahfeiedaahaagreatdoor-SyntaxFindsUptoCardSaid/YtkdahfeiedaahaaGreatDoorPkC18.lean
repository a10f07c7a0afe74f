/- PROVED: a part of the proof. Conditions: none. -/
import Derived.Test.YtkdahfeiedaahaaGreatDoorPkC17
noncomputable section
namespace Go.Proofs.YtkdahfeiedaahaaGreatDoor
open Go Go.Proofs.Tryz
set_option linter.unusedVariables false
set_option maxRecDepth 100000
noncomputable def Pe:Code:=f32.body.getD .skip
def K0:List Nat:=[43]
section
variable(m:bo)
def JT:aA:=bg 93 [(1,.eptr (aO m))] [.dead] []
def sH(o:Bool):aA:=bg 93 [(1,.eptr (aO m)),(23,.bool o)] [.dead] []
def B6:Option Bool:=
 if(decide ((m.Datas.length:Int)>30))=true then
  some true
 else
  if(decide ((m.Instances.length:Int)>30))=true then
   some true
  else
   some (decide ((m.Defs.length:Int)>30))
theorem Is{x:Bool}(h:B6 m=some x):aQ Pg GE 0 (cA Pe 12) (EX .normal (sH m x)) (JT m):=by
 have p2:=fun{sc F} (r:PS sc F)=>sv (cD m)<|sv (cE m)<|bU (zJ.ln m.Datas)<|r
 rcases aN h with⟨c1,h⟩|⟨c1,h⟩
 ·obtain rfl:=lf h
  exact bA K0 (p2<|sg 5 c1<|eF .normal (sH m true))<|by kernel_rfl
 ·have p4:=fun{sc F} (r:PS sc F)=>p2<|sg 5 c1<|sv (nW m)<|sv (nY m)<|bU (R8.ln m.Instances)<|r
  rcases aN h with⟨c3,h⟩|⟨c3,h⟩
  ·obtain rfl:=lf h
   exact bA K0 (p4<|sg 11 c3<|eF .normal (sH m true))<|by kernel_rfl
  ·obtain rfl:=lf h
   exact bA K0 (p4<|sg 11 c3<|sv (eP m)<|sv (eQ m)<|bU (xo.ln m.Defs)<|eF .normal (sH m (decide ((m.Defs.length:Int)>30))))<|by kernel_rfl
end
section
variable(m:bo)(v:wbB)(i:Int)
def pg:aA:=bg 93 [(1,.eptr (aO m)),(3,sl cq v),(4,.int .i64 i)] [.dead] [((3,0),64)]
def ph(o:Unit⊕(wbB)):Exit:=match o with
 |(.inl _)=>.ret
 |(.inr _)=>.exit 0
def kk(o:Unit⊕(wbB)):aA:=match o with
 |(.inl o)=>bg 93 [(2,.bool false)] [.dead] []
 |(.inr o)=>bg 93 [(1,.eptr (aO m)),(3,sl cq o)] [.dead] [((3,0),64)]
def mz:Option ((wbB×Int)⊕(Unit⊕(wbB))):=
 if(decide (i<(m.Instances.length:Int)))=true then
  (fJ m.Instances i).bind fun x11=>
  if(decide ((x11.Defs.length:Int)>30))=true then
   some (.inr (.inl ()))
  else
   (fJ m.Instances i).bind fun x14=>
   (app v x14.Defs).bind fun l15=>
   some (.inl (l15,ca (i+1)))
 else
  some (.inr (.inr v))
def B7:Option (Unit⊕(wbB)):=loop (fun(zz:wbB×Int)=>mz m zz.1 zz.2) (v,i)
theorem G0{y:(wbB×Int)⊕(Unit⊕(wbB))}(h:mz m v i=some y):aQ Pg GE 0 (cA Pe 247) (LQ (fun(zz:wbB×Int)=>pg m zz.1 zz.2) ph (kk m) y) (pg m v i):=by
 have p10:=fun{sc F} (r:PS sc F)=>sv (nW m)<|sv (nY m)<|bU (R8.ln m.Instances)<|r
 rcases aN h with⟨c9,h⟩|⟨c9,h⟩
 ·obtain⟨x11,bx11,h⟩:=aG h
  have p13:=fun{sc F} (r:PS sc F)=>p10<|sg 0 c9<|sv (nW m)<|sv (nY m)<|sv (R8.ia (k:=.i64) bx11)<|sv (tu x11)<|sv (tA x11)<|bU (xo.ln x11.Defs)<|r
  rcases aN h with⟨c12,h⟩|⟨c12,h⟩
  ·obtain rfl:=lf h
   have z:=p13<|sg 0 c12<|eF (ph (.inl ())) (kk m (.inl ()))
   exact iI K0 (by intro hx;cases hx) z<|by kernel_rfl
  ·obtain⟨x14,bx14,h⟩:=aG h
   obtain⟨l15,bl15,h⟩:=aG h
   obtain rfl:=lf h
   exact yz K0 (p13<|sg 0 c12<|sv (nW m)<|sv (nY m)<|sv (R8.ia (k:=.i64) bx14)<|sv (tu x14)<|sv (tA x14)<|sv (xo.ap bl15)<|eF .normal (pg m l15 (ca (i+1))))<|by kernel_rfl
 ·obtain rfl:=lf h
  have z:=p10<|sg 0 c9<|eF (ph (.inr v)) (kk m (.inr v))
  exact iI K0 (by intro hx;cases hx) z<|by kernel_rfl
theorem vo{x:Unit⊕(wbB)}(h:B7 m v i=some x):aQ Pg GE 0 (.loop (cA Pe 247)) (EX (ph x) (kk m x)) (pg m v i):=
 aQ.loop (S:=fun(zz:wbB×Int)=>pg m zz.1 zz.2) (ex:=ph) (s:=(v,i)) h fun zz y hy=>G0 m zz.1 zz.2 hy
end
section
variable(m:bo)(v:wbB)(n:Int)(i:Int)
def JU:aA:=bg 93 [(1,.eptr (aO m)),(3,sl cq v),(5,.int .i64 n),(6,.int .i64 i)] [.dead] [((3,0),64)]
def wU(o:Bool):aA:=bg 93 [(1,.eptr (aO m)),(3,sl cq v),(5,.int .i64 n),(6,.int .i64 i),(58,.bool o)] [.dead] [((3,0),64)]
def wS:Option Bool:=
 if(decide (i<(v.length:Int)))=true then
  some (decide (n<=2000))
 else
  some false
theorem Iu{x:Bool}(h:wS v n i=some x):aQ Pg GE 0 (cA Pe 4060) (EX .normal (wU m v n i x)) (JU m v n i):=by
 rcases aN h with⟨c17,h⟩|⟨c17,h⟩
 ·obtain rfl:=lf h
  exact bA K0 (bU (xo.ln v)<|sg 5 c17<|eF .normal (wU m v n i (decide (n<=2000))))<|by kernel_rfl
 ·obtain rfl:=lf h
  exact bA K0 (bU (xo.ln v)<|sg 5 c17<|eF .normal (wU m v n i false))<|by kernel_rfl
end
section
variable(m:bo)(v:wbB)(n:Int)(i:Int)
def pj:aA:=bg 93 [(1,.eptr (aO m)),(3,sl cq v),(5,.int .i64 n),(6,.int .i64 i)] [.dead] [((3,0),64)]
def wV(o:Int):aA:=bg 93 [(1,.eptr (aO m)),(5,.int .i64 o)] [.dead] []
def mA:Option ((Int×Int)⊕(Int)):=
 (wS v n i).bind fun o18=>
 if o18=true then
  (fJ v i).bind fun x21=>
  (fJ v i).bind fun x22=>
  (GJ x22.Body 2000).bind fun r23=>
  some (.inl (ca ((ca (n+(x21.Params.length:Int)))+r23),ca (i+1)))
 else
  some (.inr n)
def B8:Option Int:=loop (fun(zz:Int×Int)=>mA v zz.1 zz.2) (n,i)
theorem G1{y:(Int×Int)⊕(Int)}(h:mA v n i=some y):aQ Pg GE 0 (cA Pe 1015) (LQ (fun(zz:Int×Int)=>pj m v zz.1 zz.2) (fun _=>.exit 2) (wV m) y) (pj m v n i):=by
 obtain⟨o18,bo18,h⟩:=aG h
 have p20:=fun{sc F} (r:PS sc F)=>qk 1<|cY (Iu m v n i bo18)<|r
 rcases aN h with⟨c19,h⟩|⟨c19,h⟩
 ·obtain⟨x21,bx21,h⟩:=aG h
  obtain⟨x22,bx22,h⟩:=aG h
  obtain⟨r23,br23,h⟩:=aG h
  obtain rfl:=lf h
  exact yz K0 (p20<|sg 0 c19<|IY [0,0,0,6,14,30,62,127,0,0,768,1792,3840,7936,16383,32767]<|sv (xo.ia (k:=.i64) bx21)<|sv (Kd x21)<|sv (Kt x21)<|bU (eu.ln x21.Params)<|sv (xo.ia (k:=.i64) bx22)<|sv (Ke x22)<|sv (Ku x22)<|du (K1 br23)<|eF .normal (pj m v (ca ((ca (n+(x21.Params.length:Int)))+r23)) (ca (i+1))))<|by kernel_rfl
 ·obtain rfl:=lf h
  have z:=p20<|sg 0 c19<|eF (.exit 2) (wV m n)
  exact iI K0 (by intro hx;cases hx) z<|by kernel_rfl
theorem Bg{x:Int}(h:B8 v n i=some x):aQ Pg GE 0 (.loop (cA Pe 1015)) (EX (.exit 2) (wV m x)) (pj m v n i):=
 aQ.loop (S:=fun(zz:Int×Int)=>pj m v zz.1 zz.2) (ex:=(fun _=>.exit 2)) (s:=(n,i)) h fun zz y hy=>G1 m v zz.1 zz.2 hy
end
section
variable(m:bo)(n:Int)(i:Int)
def pk:aA:=bg 93 [(1,.eptr (aO m)),(5,.int .i64 n),(7,.int .i64 i)] [.dead] []
def pl(o:Unit⊕(Unit)):Exit:=match o with
 |(.inl _)=>.ret
 |(.inr _)=>.exit 4
def mB(o:Unit⊕(Unit)):aA:=match o with
 |(.inl o)=>bg 93 [(2,.bool false)] [.dead] []
 |(.inr o)=>bg 93 [(5,.int .i64 n)] [.dead] []
def sI:Option (Int⊕(Unit⊕(Unit))):=
 if(decide (i<(m.Datas.length:Int)))=true then
  (fJ m.Datas i).bind fun x27=>
  if(decide ((x27.Cons.length:Int)>30))=true then
   some (.inr (.inl ()))
  else
   some (.inl (ca (i+1)))
 else
  some (.inr (.inr ()))
def B9:Option (Unit⊕(Unit)):=loop (fun(zz:Int)=>sI m zz) i
theorem G2{y:Int⊕(Unit⊕(Unit))}(h:sI m i=some y):aQ Pg GE 0 (cA Pe 2039) (LQ (fun(zz:Int)=>pk m n zz) pl (mB n) y) (pk m n i):=by
 have p26:=fun{sc F} (r:PS sc F)=>sv (cD m)<|sv (cE m)<|bU (zJ.ln m.Datas)<|r
 rcases aN h with⟨c25,h⟩|⟨c25,h⟩
 ·obtain⟨x27,bx27,h⟩:=aG h
  have p29:=fun{sc F} (r:PS sc F)=>p26<|sg 0 c25<|sv (cD m)<|sv (cE m)<|sv (zJ.ia (k:=.i64) bx27)<|sv (vq x27)<|sv (vA x27)<|bU (IX.ln x27.Cons)<|r
  rcases aN h with⟨c28,h⟩|⟨c28,h⟩
  ·obtain rfl:=lf h
   have z:=p29<|sg 0 c28<|eF (pl (.inl ())) (mB n (.inl ()))
   exact iI K0 (by intro hx;cases hx) z<|by kernel_rfl
  ·obtain rfl:=lf h
   exact yz K0 (p29<|sg 0 c28<|eF .normal (pk m n (ca (i+1))))<|by kernel_rfl
 ·obtain rfl:=lf h
  have z:=p26<|sg 0 c25<|eF (pl (.inr ())) (mB n (.inr ()))
  exact iI K0 (by intro hx;cases hx) z<|by kernel_rfl
theorem Bh{x:Unit⊕(Unit)}(h:B9 m i=some x):aQ Pg GE 0 (.loop (cA Pe 2039)) (EX (pl x) (mB n x)) (pk m n i):=
 aQ.loop (S:=fun(zz:Int)=>pk m n zz) (ex:=pl) (s:=i) h fun zz y hy=>G2 m n zz hy
end
def Gs(m:bo):Option Bool:=
 (B6 m).bind fun o5=>
 if o5=true then
  some false
 else
  (app ([]:List ey) m.Defs).bind fun l8=>
  (B7 m l8 0).bind fun o16=>match o16 with
  |(.inl o16)=>
   some false
  | (.inr o16) =>
   (B8 o16 0 0).bind fun o24=>
   (B9 m 0).bind fun o30=>match o30 with
   |(.inl o30)=>
    some false
   |(.inr o30)=>
    some (decide (o24<=2000))
theorem Mo{m:bo}{r:Bool}(h:Gs m=some r):CC Pg GE 32 [.agg (aO m)] (.bool r) []:=by
 obtain⟨o5,bo5,h⟩:=aG h
 have p7:=fun{sc F} (r:PS sc F)=>se (fm m)<|qk 1<|cY (Is m bo5)<|r
 rcases aN h with⟨c6,h⟩|⟨c6,h⟩
 ·obtain rfl:=lf h
  have z:=p7<|sg 0 c6<|en (aI (rP (.bool false))<|trivial)
  exact cH K0 call32 func32 (c:=Pe) rfl (aI (cr m) trivial) z<|by kernel_rfl
 ·obtain⟨l8,bl8,h⟩:=aG h
  obtain⟨o16,bo16,h⟩:=aG h
  rcases o16 with o16|o16
  ·obtain rfl:=lf h
   have z:=p7<|sg 0 c6<|sv (xo.mk' (v:=KT) HF ([]:List ey) 0 (by kernel_rfl))<|sv (eP m)<|sv (eQ m)<|sv (xo.ap bl8)<|cY (e:=.ret) (s1:=kk m (.inl o16)) (vo m l8 0 bo16)<|en (aI (rP (.bool false))<|trivial)
   exact cH K0 call32 func32 (c:=Pe) rfl (aI (cr m) trivial) z<|by kernel_rfl
  ·obtain⟨o24,bo24,h⟩:=aG h
   obtain⟨o30,bo30,h⟩:=aG h
   rcases o30 with o30|o30
   ·obtain rfl:=lf h
    have z:=p7<|sg 0 c6<|sv (xo.mk' (v:=KT) HF ([]:List ey) 0 (by kernel_rfl))<|sv (eP m)<|sv (eQ m)<|sv (xo.ap bl8)<|cY (e:=.exit 0) (s1:=kk m (.inr o16)) (vo m l8 0 bo16)<|cY (Bg m o16 0 0 bo24)<|cY (e:=.ret) (s1:=mB o24 (.inl o30)) (Bh m o24 0 bo30)<|en (aI (rP (.bool false))<|trivial)
    exact cH K0 call32 func32 (c:=Pe) rfl (aI (cr m) trivial) z<|by kernel_rfl
   ·obtain rfl:=lf h
    have z:=p7<|sg 0 c6<|sv (xo.mk' (v:=KT) HF ([]:List ey) 0 (by kernel_rfl))<|sv (eP m)<|sv (eQ m)<|sv (xo.ap bl8)<|cY (e:=.exit 0) (s1:=kk m (.inr o16)) (vo m l8 0 bo16)<|cY (Bg m o16 0 0 bo24)<|cY (e:=.exit 4) (s1:=mB o24 (.inr o30)) (Bh m o24 0 bo30)<|en (aI (rP (.bool (decide (o24<=2000))))<|trivial)
    exact cH K0 call32 func32 (c:=Pe) rfl (aI (cr m) trivial) z<|by kernel_rfl
noncomputable def UT:Code:=f33.body.getD .skip
def TI:List Nat:=[]
section
variable(name:ae)(t9:wbB)(t10:Int)(t11:Int)(m:ae)(m2:waA)(m3:Int)(m4:ae)(m5:Int)(m6:waH)(m7:waG)(m8:waD)(m9:waC)(m10:Int)(m11:Bool)(m12:waA)(m13:waI)(m14:waJ)(m15:wbA)(m16:Int)(m17:ae)(m18:waC)(m19:waA)(m20:Int)(m21:ae)(m22:Int)(m23:waB)(m24:waB)(m25:waB)
def kR:aA:=bg 22 [(1,.str name),(4,.bptr 1 0),(9,sl cq t9),(10,.int .i64 t10),(11,.int .i64 t11)] [.dead,.cells [.str m,sl cS m2,.int .i64 m3,.str m4,.int .i64 m5,sl af m6,sl av m7,sl ay m8,sl ai m9,.int .i64 m10,.bool m11,sl cS m12,sl d9 m13,sl gq m14,sl dc m15,.int .i64 m16,.str m17,sl ai m18,sl cS m19,.int .i64 m20,.str m21,.int .i64 m22,sl al m23,sl al m24,sl al m25] [(1,9),(5,28),(6,85),(7,89),(8,60),(11,9),(12,250),(13,252),(14,254),(17,60),(18,9),(22,58),(23,58),(24,58)]] []
def kT(o:(ae×waA×Int×ae×Int×waH×waG×waD×waC×Int×Bool×waA×waI×waJ×wbA×Int×ae×waC×waA×Int×ae×Int×waB×waB×waB)⊕(ae×waA×Int×ae×Int×waH×waG×waD×waC×Int×Bool×waA×waI×waJ×wbA×Int×ae×waC×waA×Int×ae×Int×waB×waB×waB)):Exit:=match o with
 |(.inl _)=>.ret
 |(.inr _)=>.exit 0
def i7(o:(ae×waA×Int×ae×Int×waH×waG×waD×waC×Int×Bool×waA×waI×waJ×wbA×Int×ae×waC×waA×Int×ae×Int×waB×waB×waB)⊕(ae×waA×Int×ae×Int×waH×waG×waD×waC×Int×Bool×waA×waI×waJ×wbA×Int×ae×waC×waA×Int×ae×Int×waB×waB×waB)):aA:=match o with
 |(.inl o)=>bg 22 [(4,.bptr 1 0),(5,.bool true)] [.dead,.cells [.str o.1,sl cS o.2.1,.int .i64 o.2.2.1,.str o.2.2.2.1,.int .i64 o.2.2.2.2.1,sl af o.2.2.2.2.2.1,sl av o.2.2.2.2.2.2.1,sl ay o.2.2.2.2.2.2.2.1,sl ai o.2.2.2.2.2.2.2.2.1,.int .i64 o.2.2.2.2.2.2.2.2.2.1,.bool o.2.2.2.2.2.2.2.2.2.2.1,sl cS o.2.2.2.2.2.2.2.2.2.2.2.1,sl d9 o.2.2.2.2.2.2.2.2.2.2.2.2.1,sl gq o.2.2.2.2.2.2.2.2.2.2.2.2.2.1,sl dc o.2.2.2.2.2.2.2.2.2.2.2.2.2.2.1,.int .i64 o.2.2.2.2.2.2.2.2.2.2.2.2.2.2.2.1,.str o.2.2.2.2.2.2.2.2.2.2.2.2.2.2.2.2.1,sl ai o.2.2.2.2.2.2.2.2.2.2.2.2.2.2.2.2.2.1,sl cS o.2.2.2.2.2.2.2.2.2.2.2.2.2.2.2.2.2.2.1,.int .i64 o.2.2.2.2.2.2.2.2.2.2.2.2.2.2.2.2.2.2.2.1,.str o.2.2.2.2.2.2.2.2.2.2.2.2.2.2.2.2.2.2.2.2.1,.int .i64 o.2.2.2.2.2.2.2.2.2.2.2.2.2.2.2.2.2.2.2.2.2.1,sl al o.2.2.2.2.2.2.2.2.2.2.2.2.2.2.2.2.2.2.2.2.2.2.1,sl al o.2.2.2.2.2.2.2.2.2.2.2.2.2.2.2.2.2.2.2.2.2.2.2.1,sl al o.2.2.2.2.2.2.2.2.2.2.2.2.2.2.2.2.2.2.2.2.2.2.2.2] []] []
 |(.inr o)=>bg 22 [(4,.bptr 1 0)] [.dead,.cells [.str o.1,sl cS o.2.1,.int .i64 o.2.2.1,.str o.2.2.2.1,.int .i64 o.2.2.2.2.1,sl af o.2.2.2.2.2.1,sl av o.2.2.2.2.2.2.1,sl ay o.2.2.2.2.2.2.2.1,sl ai o.2.2.2.2.2.2.2.2.1,.int .i64 o.2.2.2.2.2.2.2.2.2.1,.bool o.2.2.2.2.2.2.2.2.2.2.1,sl cS o.2.2.2.2.2.2.2.2.2.2.2.1,sl d9 o.2.2.2.2.2.2.2.2.2.2.2.2.1,sl gq o.2.2.2.2.2.2.2.2.2.2.2.2.2.1,sl dc o.2.2.2.2.2.2.2.2.2.2.2.2.2.2.1,.int .i64 o.2.2.2.2.2.2.2.2.2.2.2.2.2.2.2.1,.str o.2.2.2.2.2.2.2.2.2.2.2.2.2.2.2.2.1,sl ai o.2.2.2.2.2.2.2.2.2.2.2.2.2.2.2.2.2.1,sl cS o.2.2.2.2.2.2.2.2.2.2.2.2.2.2.2.2.2.2.1,.int .i64 o.2.2.2.2.2.2.2.2.2.2.2.2.2.2.2.2.2.2.2.1,.str o.2.2.2.2.2.2.2.2.2.2.2.2.2.2.2.2.2.2.2.2.1,.int .i64 o.2.2.2.2.2.2.2.2.2.2.2.2.2.2.2.2.2.2.2.2.2.1,sl al o.2.2.2.2.2.2.2.2.2.2.2.2.2.2.2.2.2.2.2.2.2.2.1,sl al o.2.2.2.2.2.2.2.2.2.2.2.2.2.2.2.2.2.2.2.2.2.2.2.1,sl al o.2.2.2.2.2.2.2.2.2.2.2.2.2.2.2.2.2.2.2.2.2.2.2.2] [(1,9),(5,28),(6,85),(7,89),(8,60),(11,9),(12,250),(13,252),(14,254),(17,60),(18,9),(22,58),(23,58),(24,58)]] []
def gV:Option ((Int×ae×waA×Int×ae×Int×waH×waG×waD×waC×Int×Bool×waA×waI×waJ×wbA×Int×ae×waC×waA×Int×ae×Int×waB×waB×waB)⊕((ae×waA×Int×ae×Int×waH×waG×waD×waC×Int×Bool×waA×waI×waJ×wbA×Int×ae×waC×waA×Int×ae×Int×waB×waB×waB)⊕(ae×waA×Int×ae×Int×waH×waG×waD×waC×Int×Bool×waA×waI×waJ×wbA×Int×ae×waC×waA×Int×ae×Int×waB×waB×waB))):=
 if(decide (t11<t10))=true then
  (fJ t9 t11).bind fun x2=>
  if(x2.Name==name)=true then
   some (.inr (.inl (x2.Name,x2.Params,x2.Body.Op,x2.Body.Name,x2.Body.N,x2.Body.Kids,x2.Body.Params,x2.Body.Alts,x2.Body.Types,x2.Mode,x2.Typed,x2.Sig.Vars,x2.Sig.Needs,x2.Sig.Abs,x2.Sig.Bounds,x2.Sig.Type_.Op,x2.Sig.Type_.Name,x2.Sig.Type_.Args,x2.Sig.Type_.Names,x2.Sig.Type_.Pred.Op,x2.Sig.Type_.Pred.Name,x2.Sig.Type_.Pred.N,x2.Sig.Type_.Pred.Kids,x2.Sig.Type_.Preds,x2.Sig.Metric)))
  else
   some (.inl (ca (t11+1),m,m2,m3,m4,m5,m6,m7,m8,m9,m10,m11,m12,m13,m14,m15,m16,m17,m18,m19,m20,m21,m22,m23,m24,m25))
 else
  some (.inr (.inr (m,m2,m3,m4,m5,m6,m7,m8,m9,m10,m11,m12,m13,m14,m15,m16,m17,m18,m19,m20,m21,m22,m23,m24,m25)))
def vI:Option ((ae×waA×Int×ae×Int×waH×waG×waD×waC×Int×Bool×waA×waI×waJ×wbA×Int×ae×waC×waA×Int×ae×Int×waB×waB×waB)⊕(ae×waA×Int×ae×Int×waH×waG×waD×waC×Int×Bool×waA×waI×waJ×wbA×Int×ae×waC×waA×Int×ae×Int×waB×waB×waB)):=loop (fun(zz:Int×ae×waA×Int×ae×Int×waH×waG×waD×waC×Int×Bool×waA×waI×waJ×wbA×Int×ae×waC×waA×Int×ae×Int×waB×waB×waB)=>gV name t9 t10 zz.1 zz.2.1 zz.2.2.1 zz.2.2.2.1 zz.2.2.2.2.1 zz.2.2.2.2.2.1 zz.2.2.2.2.2.2.1 zz.2.2.2.2.2.2.2.1 zz.2.2.2.2.2.2.2.2.1 zz.2.2.2.2.2.2.2.2.2.1 zz.2.2.2.2.2.2.2.2.2.2.1 zz.2.2.2.2.2.2.2.2.2.2.2.1 zz.2.2.2.2.2.2.2.2.2.2.2.2.1 zz.2.2.2.2.2.2.2.2.2.2.2.2.2.1 zz.2.2.2.2.2.2.2.2.2.2.2.2.2.2.1 zz.2.2.2.2.2.2.2.2.2.2.2.2.2.2.2.1 zz.2.2.2.2.2.2.2.2.2.2.2.2.2.2.2.2.1 zz.2.2.2.2.2.2.2.2.2.2.2.2.2.2.2.2.2.1 zz.2.2.2.2.2.2.2.2.2.2.2.2.2.2.2.2.2.2.1 zz.2.2.2.2.2.2.2.2.2.2.2.2.2.2.2.2.2.2.2.1 zz.2.2.2.2.2.2.2.2.2.2.2.2.2.2.2.2.2.2.2.2.1 zz.2.2.2.2.2.2.2.2.2.2.2.2.2.2.2.2.2.2.2.2.2.1 zz.2.2.2.2.2.2.2.2.2.2.2.2.2.2.2.2.2.2.2.2.2.2.1 zz.2.2.2.2.2.2.2.2.2.2.2.2.2.2.2.2.2.2.2.2.2.2.2.1 zz.2.2.2.2.2.2.2.2.2.2.2.2.2.2.2.2.2.2.2.2.2.2.2.2.1 zz.2.2.2.2.2.2.2.2.2.2.2.2.2.2.2.2.2.2.2.2.2.2.2.2.2) (t11,m,m2,m3,m4,m5,m6,m7,m8,m9,m10,m11,m12,m13,m14,m15,m16,m17,m18,m19,m20,m21,m22,m23,m24,m25)
theorem DV{y:(Int×ae×waA×Int×ae×Int×waH×waG×waD×waC×Int×Bool×waA×waI×waJ×wbA×Int×ae×waC×waA×Int×ae×Int×waB×waB×waB)⊕((ae×waA×Int×ae×Int×waH×waG×waD×waC×Int×Bool×waA×waI×waJ×wbA×Int×ae×waC×waA×Int×ae×Int×waB×waB×waB)⊕(ae×waA×Int×ae×Int×waH×waG×waD×waC×Int×Bool×waA×waI×waJ×wbA×Int×ae×waC×waA×Int×ae×Int×waB×waB×waB))}(h:gV name t9 t10 t11 m m2 m3 m4 m5 m6 m7 m8 m9 m10 m11 m12 m13 m14 m15 m16 m17 m18 m19 m20 m21 m22 m23 m24 m25=some y):aQ Pg GE 0 (cA UT 55) (LQ (fun(zz:Int×ae×waA×Int×ae×Int×waH×waG×waD×waC×Int×Bool×waA×waI×waJ×wbA×Int×ae×waC×waA×Int×ae×Int×waB×waB×waB)=>kR name t9 t10 zz.1 zz.2.1 zz.2.2.1 zz.2.2.2.1 zz.2.2.2.2.1 zz.2.2.2.2.2.1 zz.2.2.2.2.2.2.1 zz.2.2.2.2.2.2.2.1 zz.2.2.2.2.2.2.2.2.1 zz.2.2.2.2.2.2.2.2.2.1 zz.2.2.2.2.2.2.2.2.2.2.1 zz.2.2.2.2.2.2.2.2.2.2.2.1 zz.2.2.2.2.2.2.2.2.2.2.2.2.1 zz.2.2.2.2.2.2.2.2.2.2.2.2.2.1 zz.2.2.2.2.2.2.2.2.2.2.2.2.2.2.1 zz.2.2.2.2.2.2.2.2.2.2.2.2.2.2.2.1 zz.2.2.2.2.2.2.2.2.2.2.2.2.2.2.2.2.1 zz.2.2.2.2.2.2.2.2.2.2.2.2.2.2.2.2.2.1 zz.2.2.2.2.2.2.2.2.2.2.2.2.2.2.2.2.2.2.1 zz.2.2.2.2.2.2.2.2.2.2.2.2.2.2.2.2.2.2.2.1 zz.2.2.2.2.2.2.2.2.2.2.2.2.2.2.2.2.2.2.2.2.1 zz.2.2.2.2.2.2.2.2.2.2.2.2.2.2.2.2.2.2.2.2.2.1 zz.2.2.2.2.2.2.2.2.2.2.2.2.2.2.2.2.2.2.2.2.2.2.1 zz.2.2.2.2.2.2.2.2.2.2.2.2.2.2.2.2.2.2.2.2.2.2.2.1 zz.2.2.2.2.2.2.2.2.2.2.2.2.2.2.2.2.2.2.2.2.2.2.2.2.1 zz.2.2.2.2.2.2.2.2.2.2.2.2.2.2.2.2.2.2.2.2.2.2.2.2.2) kT i7 y) (kR name t9 t10 t11 m m2 m3 m4 m5 m6 m7 m8 m9 m10 m11 m12 m13 m14 m15 m16 m17 m18 m19 m20 m21 m22 m23 m24 m25):=by
 rcases aN h with⟨c1,h⟩|⟨c1,h⟩
 ·obtain⟨x2,bx2,h⟩:=aG h
  have p4:=fun{sc F} (r:PS sc F)=>sg 0 c1<|sv (xo.ia (k:=.i64) bx2)<|sv (NE x2)<|sx Nb<|sx (zB x2)<|ss<|r
  rcases aN h with⟨c3,h⟩|⟨c3,h⟩
  ·obtain rfl:=lf h
   have z:=p4<|sg 0 c3<|sv (Qc x2 [])<|sx (zB x2)<|rx 0 (kT (.inl (x2.Name,x2.Params,x2.Body.Op,x2.Body.Name,x2.Body.N,x2.Body.Kids,x2.Body.Params,x2.Body.Alts,x2.Body.Types,x2.Mode,x2.Typed,x2.Sig.Vars,x2.Sig.Needs,x2.Sig.Abs,x2.Sig.Bounds,x2.Sig.Type_.Op,x2.Sig.Type_.Name,x2.Sig.Type_.Args,x2.Sig.Type_.Names,x2.Sig.Type_.Pred.Op,x2.Sig.Type_.Pred.Name,x2.Sig.Type_.Pred.N,x2.Sig.Type_.Pred.Kids,x2.Sig.Type_.Preds,x2.Sig.Metric))) (i7 (.inl (x2.Name,x2.Params,x2.Body.Op,x2.Body.Name,x2.Body.N,x2.Body.Kids,x2.Body.Params,x2.Body.Alts,x2.Body.Types,x2.Mode,x2.Typed,x2.Sig.Vars,x2.Sig.Needs,x2.Sig.Abs,x2.Sig.Bounds,x2.Sig.Type_.Op,x2.Sig.Type_.Name,x2.Sig.Type_.Args,x2.Sig.Type_.Names,x2.Sig.Type_.Pred.Op,x2.Sig.Type_.Pred.Name,x2.Sig.Type_.Pred.N,x2.Sig.Type_.Pred.Kids,x2.Sig.Type_.Preds,x2.Sig.Metric))) rfl (dv (aI (bh rfl) (aI trivial trivial))) (aI trivial (aI (aI trivial (aI (up (am bO x2.Params)) (aI trivial (aI trivial (aI trivial (aI (up (am az x2.Body.Kids)) (aI (up (am ba x2.Body.Params)) (aI (up (am bL x2.Body.Alts)) (aI (up (am aE x2.Body.Types)) (aI trivial (aI trivial (aI (up (am bO x2.Sig.Vars)) (aI (up (am De x2.Sig.Needs)) (aI (up (am J5 x2.Sig.Abs)) (aI (up (am En x2.Sig.Bounds)) (aI trivial (aI trivial (aI (up (am aE x2.Sig.Type_.Args)) (aI (up (am bO x2.Sig.Type_.Names)) (aI trivial (aI trivial (aI trivial (aI (up (am aS x2.Sig.Type_.Pred.Kids)) (aI (up (am aS x2.Sig.Type_.Preds)) (aI (up (am aS x2.Sig.Metric)) trivial))))))))))))))))))))))))) trivial))
   exact mZ (A:=TI) mixed (by intro hx;cases hx) z<|by kernel_rfl
  ·obtain rfl:=lf h
   have z:=p4<|sg 0 c3<|rx 0 .normal (kR name t9 t10 (ca (t11+1)) m m2 m3 m4 m5 m6 m7 m8 m9 m10 m11 m12 m13 m14 m15 m16 m17 m18 m19 m20 m21 m22 m23 m24 m25) rfl (dv (aI trivial (aI (bh rfl) (aI (up (am uw t9)) (aI trivial (aI trivial trivial)))))) (aI trivial (aI (aI trivial (aI (up (am bO m2)) (aI trivial (aI trivial (aI trivial (aI (up (am az m6)) (aI (up (am ba m7)) (aI (up (am bL m8)) (aI (up (am aE m9)) (aI trivial (aI trivial (aI (up (am bO m12)) (aI (up (am De m13)) (aI (up (am J5 m14)) (aI (up (am En m15)) (aI trivial (aI trivial (aI (up (am aE m18)) (aI (up (am bO m19)) (aI trivial (aI trivial (aI trivial (aI (up (am aS m23)) (aI (up (am aS m24)) (aI (up (am aS m25)) trivial))))))))))))))))))))))))) trivial))
   exact d4 (A:=TI) mixed z<|by kernel_rfl
 ·obtain rfl:=lf h
  have z:=sg 0 c1<|eF (kT (.inr (m,m2,m3,m4,m5,m6,m7,m8,m9,m10,m11,m12,m13,m14,m15,m16,m17,m18,m19,m20,m21,m22,m23,m24,m25))) (i7 (.inr (m,m2,m3,m4,m5,m6,m7,m8,m9,m10,m11,m12,m13,m14,m15,m16,m17,m18,m19,m20,m21,m22,m23,m24,m25)))
  exact iI TI (by intro hx;cases hx) z<|by kernel_rfl
theorem ws{x:(ae×waA×Int×ae×Int×waH×waG×waD×waC×Int×Bool×waA×waI×waJ×wbA×Int×ae×waC×waA×Int×ae×Int×waB×waB×waB)⊕(ae×waA×Int×ae×Int×waH×waG×waD×waC×Int×Bool×waA×waI×waJ×wbA×Int×ae×waC×waA×Int×ae×Int×waB×waB×waB)}(h:vI name t9 t10 t11 m m2 m3 m4 m5 m6 m7 m8 m9 m10 m11 m12 m13 m14 m15 m16 m17 m18 m19 m20 m21 m22 m23 m24 m25=some x):aQ Pg GE 0 (.loop (cA UT 55)) (EX (kT x) (i7 x)) (kR name t9 t10 t11 m m2 m3 m4 m5 m6 m7 m8 m9 m10 m11 m12 m13 m14 m15 m16 m17 m18 m19 m20 m21 m22 m23 m24 m25):=
 aQ.loop (S:=fun(zz:Int×ae×waA×Int×ae×Int×waH×waG×waD×waC×Int×Bool×waA×waI×waJ×wbA×Int×ae×waC×waA×Int×ae×Int×waB×waB×waB)=>kR name t9 t10 zz.1 zz.2.1 zz.2.2.1 zz.2.2.2.1 zz.2.2.2.2.1 zz.2.2.2.2.2.1 zz.2.2.2.2.2.2.1 zz.2.2.2.2.2.2.2.1 zz.2.2.2.2.2.2.2.2.1 zz.2.2.2.2.2.2.2.2.2.1 zz.2.2.2.2.2.2.2.2.2.2.1 zz.2.2.2.2.2.2.2.2.2.2.2.1 zz.2.2.2.2.2.2.2.2.2.2.2.2.1 zz.2.2.2.2.2.2.2.2.2.2.2.2.2.1 zz.2.2.2.2.2.2.2.2.2.2.2.2.2.2.1 zz.2.2.2.2.2.2.2.2.2.2.2.2.2.2.2.1 zz.2.2.2.2.2.2.2.2.2.2.2.2.2.2.2.2.1 zz.2.2.2.2.2.2.2.2.2.2.2.2.2.2.2.2.2.1 zz.2.2.2.2.2.2.2.2.2.2.2.2.2.2.2.2.2.2.1 zz.2.2.2.2.2.2.2.2.2.2.2.2.2.2.2.2.2.2.2.1 zz.2.2.2.2.2.2.2.2.2.2.2.2.2.2.2.2.2.2.2.2.1 zz.2.2.2.2.2.2.2.2.2.2.2.2.2.2.2.2.2.2.2.2.2.1 zz.2.2.2.2.2.2.2.2.2.2.2.2.2.2.2.2.2.2.2.2.2.2.1 zz.2.2.2.2.2.2.2.2.2.2.2.2.2.2.2.2.2.2.2.2.2.2.2.1 zz.2.2.2.2.2.2.2.2.2.2.2.2.2.2.2.2.2.2.2.2.2.2.2.2.1 zz.2.2.2.2.2.2.2.2.2.2.2.2.2.2.2.2.2.2.2.2.2.2.2.2.2) (ex:=kT) (s:=(t11,m,m2,m3,m4,m5,m6,m7,m8,m9,m10,m11,m12,m13,m14,m15,m16,m17,m18,m19,m20,m21,m22,m23,m24,m25)) h fun zz y hy=>DV name t9 t10 zz.1 zz.2.1 zz.2.2.1 zz.2.2.2.1 zz.2.2.2.2.1 zz.2.2.2.2.2.1 zz.2.2.2.2.2.2.1 zz.2.2.2.2.2.2.2.1 zz.2.2.2.2.2.2.2.2.1 zz.2.2.2.2.2.2.2.2.2.1 zz.2.2.2.2.2.2.2.2.2.2.1 zz.2.2.2.2.2.2.2.2.2.2.2.1 zz.2.2.2.2.2.2.2.2.2.2.2.2.1 zz.2.2.2.2.2.2.2.2.2.2.2.2.2.1 zz.2.2.2.2.2.2.2.2.2.2.2.2.2.2.1 zz.2.2.2.2.2.2.2.2.2.2.2.2.2.2.2.1 zz.2.2.2.2.2.2.2.2.2.2.2.2.2.2.2.2.1 zz.2.2.2.2.2.2.2.2.2.2.2.2.2.2.2.2.2.1 zz.2.2.2.2.2.2.2.2.2.2.2.2.2.2.2.2.2.2.1 zz.2.2.2.2.2.2.2.2.2.2.2.2.2.2.2.2.2.2.2.1 zz.2.2.2.2.2.2.2.2.2.2.2.2.2.2.2.2.2.2.2.2.1 zz.2.2.2.2.2.2.2.2.2.2.2.2.2.2.2.2.2.2.2.2.2.1 zz.2.2.2.2.2.2.2.2.2.2.2.2.2.2.2.2.2.2.2.2.2.2.1 zz.2.2.2.2.2.2.2.2.2.2.2.2.2.2.2.2.2.2.2.2.2.2.2.1 zz.2.2.2.2.2.2.2.2.2.2.2.2.2.2.2.2.2.2.2.2.2.2.2.2.1 zz.2.2.2.2.2.2.2.2.2.2.2.2.2.2.2.2.2.2.2.2.2.2.2.2.2 hy
end
def xw(m:bo)(name:ae):Option (ey×Bool):=
 (vI name m.Defs (m.Defs.length:Int) 0 ([]:ae) ([]:List ae) 0 ([]:ae) 0 ([]:List ag) ([]:List aw) ([]:List aF) ([]:List ah) 0 false ([]:List ae) ([]:List cw) ([]:List eU) ([]:List bH) 0 ([]:ae) ([]:List ah) ([]:List ae) 0 ([]:ae) 0 ([]:List aj) ([]:List aj) ([]:List aj)).bind fun o5=>match o5 with
 |(.inl o5)=>
  some ((⟨o5.1,o5.2.1,(⟨o5.2.2.1,o5.2.2.2.1,o5.2.2.2.2.1,o5.2.2.2.2.2.1,o5.2.2.2.2.2.2.1,o5.2.2.2.2.2.2.2.1,o5.2.2.2.2.2.2.2.2.1⟩:ag),o5.2.2.2.2.2.2.2.2.2.1,o5.2.2.2.2.2.2.2.2.2.2.1,(⟨o5.2.2.2.2.2.2.2.2.2.2.2.1,o5.2.2.2.2.2.2.2.2.2.2.2.2.1,o5.2.2.2.2.2.2.2.2.2.2.2.2.2.1,o5.2.2.2.2.2.2.2.2.2.2.2.2.2.2.1,(⟨o5.2.2.2.2.2.2.2.2.2.2.2.2.2.2.2.1,o5.2.2.2.2.2.2.2.2.2.2.2.2.2.2.2.2.1,o5.2.2.2.2.2.2.2.2.2.2.2.2.2.2.2.2.2.1,o5.2.2.2.2.2.2.2.2.2.2.2.2.2.2.2.2.2.2.1,(⟨o5.2.2.2.2.2.2.2.2.2.2.2.2.2.2.2.2.2.2.2.1,o5.2.2.2.2.2.2.2.2.2.2.2.2.2.2.2.2.2.2.2.2.1,o5.2.2.2.2.2.2.2.2.2.2.2.2.2.2.2.2.2.2.2.2.2.1,o5.2.2.2.2.2.2.2.2.2.2.2.2.2.2.2.2.2.2.2.2.2.2.1⟩:aj),o5.2.2.2.2.2.2.2.2.2.2.2.2.2.2.2.2.2.2.2.2.2.2.2.1⟩:ah),o5.2.2.2.2.2.2.2.2.2.2.2.2.2.2.2.2.2.2.2.2.2.2.2.2⟩:xE)⟩:ey),true)
 |(.inr o5)=>
  some ((⟨([]:ae),([]:List ae),(⟨0,([]:ae),0,([]:List ag),([]:List aw),([]:List aF),([]:List ah)⟩:ag),0,false,(⟨([]:List ae),([]:List cw),([]:List eU),([]:List bH),(⟨0,([]:ae),([]:List ah),([]:List ae),(⟨0,([]:ae),0,([]:List aj)⟩:aj),([]:List aj)⟩:ah),([]:List aj)⟩:xE)⟩:ey),false)
theorem I0{m:bo}{name:ae}{r:ey×Bool}(h:xw m name=some r):CC Pg GE 33 [.agg (aO m),.str name] (.tuple [.agg (cq r.1),.bool r.2]) []:=by
 obtain⟨o5,bo5,h⟩:=aG h
 rcases o5 with o5|o5
 ·obtain rfl:=lf h
  have z:=se (fm m)<|sx Nb<|sv (eP m)<|sv (eQ m)<|bU (xo.ln m.Defs)<|cY (e:=.ret) (s1:=i7 (.inl o5)) (ws name m.Defs (m.Defs.length:Int) 0 ([]:ae) ([]:List ae) 0 ([]:ae) 0 ([]:List ag) ([]:List aw) ([]:List aF) ([]:List ah) 0 false ([]:List ae) ([]:List cw) ([]:List eU) ([]:List bH) 0 ([]:ae) ([]:List ah) ([]:List ae) 0 ([]:ae) 0 ([]:List aj) ([]:List aj) ([]:List aj) bo5)<|en (aI (vaU PVal.tuple (dw (DM (⟨o5.1,o5.2.1,(⟨o5.2.2.1,o5.2.2.2.1,o5.2.2.2.2.1,o5.2.2.2.2.2.1,o5.2.2.2.2.2.2.1,o5.2.2.2.2.2.2.2.1,o5.2.2.2.2.2.2.2.2.1⟩:ag),o5.2.2.2.2.2.2.2.2.2.1,o5.2.2.2.2.2.2.2.2.2.2.1,(⟨o5.2.2.2.2.2.2.2.2.2.2.2.1,o5.2.2.2.2.2.2.2.2.2.2.2.2.1,o5.2.2.2.2.2.2.2.2.2.2.2.2.2.1,o5.2.2.2.2.2.2.2.2.2.2.2.2.2.2.1,(⟨o5.2.2.2.2.2.2.2.2.2.2.2.2.2.2.2.1,o5.2.2.2.2.2.2.2.2.2.2.2.2.2.2.2.2.1,o5.2.2.2.2.2.2.2.2.2.2.2.2.2.2.2.2.2.1,o5.2.2.2.2.2.2.2.2.2.2.2.2.2.2.2.2.2.2.1,(⟨o5.2.2.2.2.2.2.2.2.2.2.2.2.2.2.2.2.2.2.2.1,o5.2.2.2.2.2.2.2.2.2.2.2.2.2.2.2.2.2.2.2.2.1,o5.2.2.2.2.2.2.2.2.2.2.2.2.2.2.2.2.2.2.2.2.2.1,o5.2.2.2.2.2.2.2.2.2.2.2.2.2.2.2.2.2.2.2.2.2.2.1⟩:aj),o5.2.2.2.2.2.2.2.2.2.2.2.2.2.2.2.2.2.2.2.2.2.2.2.1⟩:ah),o5.2.2.2.2.2.2.2.2.2.2.2.2.2.2.2.2.2.2.2.2.2.2.2.2⟩:xE)⟩:ey)) (dw (rP (.bool true)) (rfl:([]:List PVal)=[]))))<|(aI (uw (⟨o5.1,o5.2.1,(⟨o5.2.2.1,o5.2.2.2.1,o5.2.2.2.2.1,o5.2.2.2.2.2.1,o5.2.2.2.2.2.2.1,o5.2.2.2.2.2.2.2.1,o5.2.2.2.2.2.2.2.2.1⟩:ag),o5.2.2.2.2.2.2.2.2.2.1,o5.2.2.2.2.2.2.2.2.2.2.1,(⟨o5.2.2.2.2.2.2.2.2.2.2.2.1,o5.2.2.2.2.2.2.2.2.2.2.2.2.1,o5.2.2.2.2.2.2.2.2.2.2.2.2.2.1,o5.2.2.2.2.2.2.2.2.2.2.2.2.2.2.1,(⟨o5.2.2.2.2.2.2.2.2.2.2.2.2.2.2.2.1,o5.2.2.2.2.2.2.2.2.2.2.2.2.2.2.2.2.1,o5.2.2.2.2.2.2.2.2.2.2.2.2.2.2.2.2.2.1,o5.2.2.2.2.2.2.2.2.2.2.2.2.2.2.2.2.2.2.1,(⟨o5.2.2.2.2.2.2.2.2.2.2.2.2.2.2.2.2.2.2.2.1,o5.2.2.2.2.2.2.2.2.2.2.2.2.2.2.2.2.2.2.2.2.1,o5.2.2.2.2.2.2.2.2.2.2.2.2.2.2.2.2.2.2.2.2.2.1,o5.2.2.2.2.2.2.2.2.2.2.2.2.2.2.2.2.2.2.2.2.2.2.1⟩:aj),o5.2.2.2.2.2.2.2.2.2.2.2.2.2.2.2.2.2.2.2.2.2.2.2.1⟩:ah),o5.2.2.2.2.2.2.2.2.2.2.2.2.2.2.2.2.2.2.2.2.2.2.2.2⟩:xE)⟩:ey)) (aI trivial trivial)))
  exact cH TI call33 func33 (c:=UT) rfl (aI (cr m) (aI trivial trivial)) z<|by kernel_rfl
 ·obtain rfl:=lf h
  have z:=se (fm m)<|sx Nb<|sv (eP m)<|sv (eQ m)<|bU (xo.ln m.Defs)<|cY (e:=.exit 0) (s1:=i7 (.inr o5)) (ws name m.Defs (m.Defs.length:Int) 0 ([]:ae) ([]:List ae) 0 ([]:ae) 0 ([]:List ag) ([]:List aw) ([]:List aF) ([]:List ah) 0 false ([]:List ae) ([]:List cw) ([]:List eU) ([]:List bH) 0 ([]:ae) ([]:List ah) ([]:List ae) 0 ([]:ae) 0 ([]:List aj) ([]:List aj) ([]:List aj) bo5)<|sb (Jc) (Jb)<|sy (jG (⟨([]:ae),([]:List ae),(⟨0,([]:ae),0,([]:List ag),([]:List aw),([]:List aF),([]:List ah)⟩:ag),0,false,(⟨([]:List ae),([]:List cw),([]:List eU),([]:List bH),(⟨0,([]:ae),([]:List ah),([]:List ae),(⟨0,([]:ae),0,([]:List aj)⟩:aj),([]:List aj)⟩:ah),([]:List aj)⟩:xE)⟩:ey))<|en (aI (vaU PVal.tuple (dw (DM (⟨([]:ae),([]:List ae),(⟨0,([]:ae),0,([]:List ag),([]:List aw),([]:List aF),([]:List ah)⟩:ag),0,false,(⟨([]:List ae),([]:List cw),([]:List eU),([]:List bH),(⟨0,([]:ae),([]:List ah),([]:List ae),(⟨0,([]:ae),0,([]:List aj)⟩:aj),([]:List aj)⟩:ah),([]:List aj)⟩:xE)⟩:ey)) (dw (rP (.bool false)) (rfl:([]:List PVal)=[]))))<|(aI (uw (⟨([]:ae),([]:List ae),(⟨0,([]:ae),0,([]:List ag),([]:List aw),([]:List aF),([]:List ah)⟩:ag),0,false,(⟨([]:List ae),([]:List cw),([]:List eU),([]:List bH),(⟨0,([]:ae),([]:List ah),([]:List ae),(⟨0,([]:ae),0,([]:List aj)⟩:aj),([]:List aj)⟩:ah),([]:List aj)⟩:xE)⟩:ey)) (aI trivial trivial)))
  exact cH TI call33 func33 (c:=UT) rfl (aI (cr m) (aI trivial trivial)) z<|by kernel_rfl
noncomputable def UU:Code:=f34.body.getD .skip
def TJ:List Nat:=[]
section
variable(name:ae)(m:bo)(i:Int)(m2:ae)(m3:waA)(m4:Int)(m5:ae)(m6:Int)(m7:waH)(m8:waG)(m9:waD)(m10:waC)(m11:Int)(m12:Bool)(m13:waA)(m14:waI)(m15:waJ)(m16:wbA)(m17:Int)(m18:ae)(m19:waC)(m20:waA)(m21:Int)(m22:ae)(m23:Int)(m24:waB)(m25:waB)(m26:waB)
def oZ:aA:=bg 28 [(1,.str name),(2,.eptr (aO m)),(4,.bptr 1 0),(6,.int .i64 i)] [.dead,.cells [.str m2,sl cS m3,.int .i64 m4,.str m5,.int .i64 m6,sl af m7,sl av m8,sl ay m9,sl ai m10,.int .i64 m11,.bool m12,sl cS m13,sl d9 m14,sl gq m15,sl dc m16,.int .i64 m17,.str m18,sl ai m19,sl cS m20,.int .i64 m21,.str m22,.int .i64 m23,sl al m24,sl al m25,sl al m26] [(1,9),(5,28),(6,85),(7,89),(8,60),(11,9),(12,250),(13,252),(14,254),(17,60),(18,9),(22,58),(23,58),(24,58)]] []
def o0(o:(ae×waA×Int×ae×Int×waH×waG×waD×waC×Int×Bool×waA×waI×waJ×wbA×Int×ae×waC×waA×Int×ae×Int×waB×waB×waB)⊕(ae×waA×Int×ae×Int×waH×waG×waD×waC×Int×Bool×waA×waI×waJ×wbA×Int×ae×waC×waA×Int×ae×Int×waB×waB×waB)):Exit:=match o with
 |(.inl _)=>.ret
 |(.inr _)=>.exit 0
def mw(o:(ae×waA×Int×ae×Int×waH×waG×waD×waC×Int×Bool×waA×waI×waJ×wbA×Int×ae×waC×waA×Int×ae×Int×waB×waB×waB)⊕(ae×waA×Int×ae×Int×waH×waG×waD×waC×Int×Bool×waA×waI×waJ×wbA×Int×ae×waC×waA×Int×ae×Int×waB×waB×waB)):aA:=match o with
 |(.inl o)=>bg 28 [(4,.bptr 1 0),(5,.bool true)] [.dead,.cells [.str o.1,sl cS o.2.1,.int .i64 o.2.2.1,.str o.2.2.2.1,.int .i64 o.2.2.2.2.1,sl af o.2.2.2.2.2.1,sl av o.2.2.2.2.2.2.1,sl ay o.2.2.2.2.2.2.2.1,sl ai o.2.2.2.2.2.2.2.2.1,.int .i64 o.2.2.2.2.2.2.2.2.2.1,.bool o.2.2.2.2.2.2.2.2.2.2.1,sl cS o.2.2.2.2.2.2.2.2.2.2.2.1,sl d9 o.2.2.2.2.2.2.2.2.2.2.2.2.1,sl gq o.2.2.2.2.2.2.2.2.2.2.2.2.2.1,sl dc o.2.2.2.2.2.2.2.2.2.2.2.2.2.2.1,.int .i64 o.2.2.2.2.2.2.2.2.2.2.2.2.2.2.2.1,.str o.2.2.2.2.2.2.2.2.2.2.2.2.2.2.2.2.1,sl ai o.2.2.2.2.2.2.2.2.2.2.2.2.2.2.2.2.2.1,sl cS o.2.2.2.2.2.2.2.2.2.2.2.2.2.2.2.2.2.2.1,.int .i64 o.2.2.2.2.2.2.2.2.2.2.2.2.2.2.2.2.2.2.2.1,.str o.2.2.2.2.2.2.2.2.2.2.2.2.2.2.2.2.2.2.2.2.1,.int .i64 o.2.2.2.2.2.2.2.2.2.2.2.2.2.2.2.2.2.2.2.2.2.1,sl al o.2.2.2.2.2.2.2.2.2.2.2.2.2.2.2.2.2.2.2.2.2.2.1,sl al o.2.2.2.2.2.2.2.2.2.2.2.2.2.2.2.2.2.2.2.2.2.2.2.1,sl al o.2.2.2.2.2.2.2.2.2.2.2.2.2.2.2.2.2.2.2.2.2.2.2.2] []] []
 |(.inr o)=>bg 28 [(4,.bptr 1 0)] [.dead,.cells [.str o.1,sl cS o.2.1,.int .i64 o.2.2.1,.str o.2.2.2.1,.int .i64 o.2.2.2.2.1,sl af o.2.2.2.2.2.1,sl av o.2.2.2.2.2.2.1,sl ay o.2.2.2.2.2.2.2.1,sl ai o.2.2.2.2.2.2.2.2.1,.int .i64 o.2.2.2.2.2.2.2.2.2.1,.bool o.2.2.2.2.2.2.2.2.2.2.1,sl cS o.2.2.2.2.2.2.2.2.2.2.2.1,sl d9 o.2.2.2.2.2.2.2.2.2.2.2.2.1,sl gq o.2.2.2.2.2.2.2.2.2.2.2.2.2.1,sl dc o.2.2.2.2.2.2.2.2.2.2.2.2.2.2.1,.int .i64 o.2.2.2.2.2.2.2.2.2.2.2.2.2.2.2.1,.str o.2.2.2.2.2.2.2.2.2.2.2.2.2.2.2.2.1,sl ai o.2.2.2.2.2.2.2.2.2.2.2.2.2.2.2.2.2.1,sl cS o.2.2.2.2.2.2.2.2.2.2.2.2.2.2.2.2.2.2.1,.int .i64 o.2.2.2.2.2.2.2.2.2.2.2.2.2.2.2.2.2.2.2.1,.str o.2.2.2.2.2.2.2.2.2.2.2.2.2.2.2.2.2.2.2.2.1,.int .i64 o.2.2.2.2.2.2.2.2.2.2.2.2.2.2.2.2.2.2.2.2.2.1,sl al o.2.2.2.2.2.2.2.2.2.2.2.2.2.2.2.2.2.2.2.2.2.2.1,sl al o.2.2.2.2.2.2.2.2.2.2.2.2.2.2.2.2.2.2.2.2.2.2.2.1,sl al o.2.2.2.2.2.2.2.2.2.2.2.2.2.2.2.2.2.2.2.2.2.2.2.2] [(1,9),(5,28),(6,85),(7,89),(8,60),(11,9),(12,250),(13,252),(14,254),(17,60),(18,9),(22,58),(23,58),(24,58)]] []
def kj:Option ((Int×ae×waA×Int×ae×Int×waH×waG×waD×waC×Int×Bool×waA×waI×waJ×wbA×Int×ae×waC×waA×Int×ae×Int×waB×waB×waB)⊕((ae×waA×Int×ae×Int×waH×waG×waD×waC×Int×Bool×waA×waI×waJ×wbA×Int×ae×waC×waA×Int×ae×Int×waB×waB×waB)⊕(ae×waA×Int×ae×Int×waH×waG×waD×waC×Int×Bool×waA×waI×waJ×wbA×Int×ae×waC×waA×Int×ae×Int×waB×waB×waB))):=
 if(decide (i<(m.Defs.length:Int)))=true then
  (fJ m.Defs i).bind fun x3=>
  if(x3.Name==name)=true then
   (fJ m.Defs i).bind fun x6=>
   some (.inr (.inl (x6.Name,x6.Params,x6.Body.Op,x6.Body.Name,x6.Body.N,x6.Body.Kids,x6.Body.Params,x6.Body.Alts,x6.Body.Types,x6.Mode,x6.Typed,x6.Sig.Vars,x6.Sig.Needs,x6.Sig.Abs,x6.Sig.Bounds,x6.Sig.Type_.Op,x6.Sig.Type_.Name,x6.Sig.Type_.Args,x6.Sig.Type_.Names,x6.Sig.Type_.Pred.Op,x6.Sig.Type_.Pred.Name,x6.Sig.Type_.Pred.N,x6.Sig.Type_.Pred.Kids,x6.Sig.Type_.Preds,x6.Sig.Metric)))
  else
   some (.inl (ca (i+1),m2,m3,m4,m5,m6,m7,m8,m9,m10,m11,m12,m13,m14,m15,m16,m17,m18,m19,m20,m21,m22,m23,m24,m25,m26))
 else
  some (.inr (.inr (m2,m3,m4,m5,m6,m7,m8,m9,m10,m11,m12,m13,m14,m15,m16,m17,m18,m19,m20,m21,m22,m23,m24,m25,m26)))
def BZ:Option ((ae×waA×Int×ae×Int×waH×waG×waD×waC×Int×Bool×waA×waI×waJ×wbA×Int×ae×waC×waA×Int×ae×Int×waB×waB×waB)⊕(ae×waA×Int×ae×Int×waH×waG×waD×waC×Int×Bool×waA×waI×waJ×wbA×Int×ae×waC×waA×Int×ae×Int×waB×waB×waB)):=loop (fun(zz:Int×ae×waA×Int×ae×Int×waH×waG×waD×waC×Int×Bool×waA×waI×waJ×wbA×Int×ae×waC×waA×Int×ae×Int×waB×waB×waB)=>kj name m zz.1 zz.2.1 zz.2.2.1 zz.2.2.2.1 zz.2.2.2.2.1 zz.2.2.2.2.2.1 zz.2.2.2.2.2.2.1 zz.2.2.2.2.2.2.2.1 zz.2.2.2.2.2.2.2.2.1 zz.2.2.2.2.2.2.2.2.2.1 zz.2.2.2.2.2.2.2.2.2.2.1 zz.2.2.2.2.2.2.2.2.2.2.2.1 zz.2.2.2.2.2.2.2.2.2.2.2.2.1 zz.2.2.2.2.2.2.2.2.2.2.2.2.2.1 zz.2.2.2.2.2.2.2.2.2.2.2.2.2.2.1 zz.2.2.2.2.2.2.2.2.2.2.2.2.2.2.2.1 zz.2.2.2.2.2.2.2.2.2.2.2.2.2.2.2.2.1 zz.2.2.2.2.2.2.2.2.2.2.2.2.2.2.2.2.2.1 zz.2.2.2.2.2.2.2.2.2.2.2.2.2.2.2.2.2.2.1 zz.2.2.2.2.2.2.2.2.2.2.2.2.2.2.2.2.2.2.2.1 zz.2.2.2.2.2.2.2.2.2.2.2.2.2.2.2.2.2.2.2.2.1 zz.2.2.2.2.2.2.2.2.2.2.2.2.2.2.2.2.2.2.2.2.2.1 zz.2.2.2.2.2.2.2.2.2.2.2.2.2.2.2.2.2.2.2.2.2.2.1 zz.2.2.2.2.2.2.2.2.2.2.2.2.2.2.2.2.2.2.2.2.2.2.2.1 zz.2.2.2.2.2.2.2.2.2.2.2.2.2.2.2.2.2.2.2.2.2.2.2.2.1 zz.2.2.2.2.2.2.2.2.2.2.2.2.2.2.2.2.2.2.2.2.2.2.2.2.2) (i,m2,m3,m4,m5,m6,m7,m8,m9,m10,m11,m12,m13,m14,m15,m16,m17,m18,m19,m20,m21,m22,m23,m24,m25,m26)
theorem GS{y:(Int×ae×waA×Int×ae×Int×waH×waG×waD×waC×Int×Bool×waA×waI×waJ×wbA×Int×ae×waC×waA×Int×ae×Int×waB×waB×waB)⊕((ae×waA×Int×ae×Int×waH×waG×waD×waC×Int×Bool×waA×waI×waJ×wbA×Int×ae×waC×waA×Int×ae×Int×waB×waB×waB)⊕(ae×waA×Int×ae×Int×waH×waG×waD×waC×Int×Bool×waA×waI×waJ×wbA×Int×ae×waC×waA×Int×ae×Int×waB×waB×waB))}(h:kj name m i m2 m3 m4 m5 m6 m7 m8 m9 m10 m11 m12 m13 m14 m15 m16 m17 m18 m19 m20 m21 m22 m23 m24 m25 m26=some y):aQ Pg GE 0 (cA UU 55) (LQ (fun(zz:Int×ae×waA×Int×ae×Int×waH×waG×waD×waC×Int×Bool×waA×waI×waJ×wbA×Int×ae×waC×waA×Int×ae×Int×waB×waB×waB)=>oZ name m zz.1 zz.2.1 zz.2.2.1 zz.2.2.2.1 zz.2.2.2.2.1 zz.2.2.2.2.2.1 zz.2.2.2.2.2.2.1 zz.2.2.2.2.2.2.2.1 zz.2.2.2.2.2.2.2.2.1 zz.2.2.2.2.2.2.2.2.2.1 zz.2.2.2.2.2.2.2.2.2.2.1 zz.2.2.2.2.2.2.2.2.2.2.2.1 zz.2.2.2.2.2.2.2.2.2.2.2.2.1 zz.2.2.2.2.2.2.2.2.2.2.2.2.2.1 zz.2.2.2.2.2.2.2.2.2.2.2.2.2.2.1 zz.2.2.2.2.2.2.2.2.2.2.2.2.2.2.2.1 zz.2.2.2.2.2.2.2.2.2.2.2.2.2.2.2.2.1 zz.2.2.2.2.2.2.2.2.2.2.2.2.2.2.2.2.2.1 zz.2.2.2.2.2.2.2.2.2.2.2.2.2.2.2.2.2.2.1 zz.2.2.2.2.2.2.2.2.2.2.2.2.2.2.2.2.2.2.2.1 zz.2.2.2.2.2.2.2.2.2.2.2.2.2.2.2.2.2.2.2.2.1 zz.2.2.2.2.2.2.2.2.2.2.2.2.2.2.2.2.2.2.2.2.2.1 zz.2.2.2.2.2.2.2.2.2.2.2.2.2.2.2.2.2.2.2.2.2.2.1 zz.2.2.2.2.2.2.2.2.2.2.2.2.2.2.2.2.2.2.2.2.2.2.2.1 zz.2.2.2.2.2.2.2.2.2.2.2.2.2.2.2.2.2.2.2.2.2.2.2.2.1 zz.2.2.2.2.2.2.2.2.2.2.2.2.2.2.2.2.2.2.2.2.2.2.2.2.2) o0 mw y) (oZ name m i m2 m3 m4 m5 m6 m7 m8 m9 m10 m11 m12 m13 m14 m15 m16 m17 m18 m19 m20 m21 m22 m23 m24 m25 m26):=by
 have p2:=fun{sc F} (r:PS sc F)=>sv (eP m)<|sv (eQ m)<|bU (xo.ln m.Defs)<|r
 rcases aN h with⟨c1,h⟩|⟨c1,h⟩
 ·obtain⟨x3,bx3,h⟩:=aG h
  have p5:=fun{sc F} (r:PS sc F)=>p2<|sg 0 c1<|sv (eP m)<|sv (eQ m)<|sv (xo.ia (k:=.i64) bx3)<|sv (Kc x3)<|sv (LE x3)<|r
  rcases aN h with⟨c4,h⟩|⟨c4,h⟩
  ·obtain⟨x6,bx6,h⟩:=aG h
   obtain rfl:=lf h
   have z:=p5<|sg 0 c4<|sv (eP m)<|sv (eQ m)<|sv (xo.ia (k:=.i64) bx6)<|sv (NE x6)<|sx (zB x6)<|eF (o0 (.inl (x6.Name,x6.Params,x6.Body.Op,x6.Body.Name,x6.Body.N,x6.Body.Kids,x6.Body.Params,x6.Body.Alts,x6.Body.Types,x6.Mode,x6.Typed,x6.Sig.Vars,x6.Sig.Needs,x6.Sig.Abs,x6.Sig.Bounds,x6.Sig.Type_.Op,x6.Sig.Type_.Name,x6.Sig.Type_.Args,x6.Sig.Type_.Names,x6.Sig.Type_.Pred.Op,x6.Sig.Type_.Pred.Name,x6.Sig.Type_.Pred.N,x6.Sig.Type_.Pred.Kids,x6.Sig.Type_.Preds,x6.Sig.Metric))) (mw (.inl (x6.Name,x6.Params,x6.Body.Op,x6.Body.Name,x6.Body.N,x6.Body.Kids,x6.Body.Params,x6.Body.Alts,x6.Body.Types,x6.Mode,x6.Typed,x6.Sig.Vars,x6.Sig.Needs,x6.Sig.Abs,x6.Sig.Bounds,x6.Sig.Type_.Op,x6.Sig.Type_.Name,x6.Sig.Type_.Args,x6.Sig.Type_.Names,x6.Sig.Type_.Pred.Op,x6.Sig.Type_.Pred.Name,x6.Sig.Type_.Pred.N,x6.Sig.Type_.Pred.Kids,x6.Sig.Type_.Preds,x6.Sig.Metric)))
   exact iI TJ (by intro hx;cases hx) z<|by kernel_rfl
  ·obtain rfl:=lf h
   exact yz TJ (p5<|sg 0 c4<|eF .normal (oZ name m (ca (i+1)) m2 m3 m4 m5 m6 m7 m8 m9 m10 m11 m12 m13 m14 m15 m16 m17 m18 m19 m20 m21 m22 m23 m24 m25 m26))<|by kernel_rfl
 ·obtain rfl:=lf h
  have z:=p2<|sg 0 c1<|eF (o0 (.inr (m2,m3,m4,m5,m6,m7,m8,m9,m10,m11,m12,m13,m14,m15,m16,m17,m18,m19,m20,m21,m22,m23,m24,m25,m26))) (mw (.inr (m2,m3,m4,m5,m6,m7,m8,m9,m10,m11,m12,m13,m14,m15,m16,m17,m18,m19,m20,m21,m22,m23,m24,m25,m26)))
  exact iI TJ (by intro hx;cases hx) z<|by kernel_rfl
theorem Bf{x:(ae×waA×Int×ae×Int×waH×waG×waD×waC×Int×Bool×waA×waI×waJ×wbA×Int×ae×waC×waA×Int×ae×Int×waB×waB×waB)⊕(ae×waA×Int×ae×Int×waH×waG×waD×waC×Int×Bool×waA×waI×waJ×wbA×Int×ae×waC×waA×Int×ae×Int×waB×waB×waB)}(h:BZ name m i m2 m3 m4 m5 m6 m7 m8 m9 m10 m11 m12 m13 m14 m15 m16 m17 m18 m19 m20 m21 m22 m23 m24 m25 m26=some x):aQ Pg GE 0 (.loop (cA UU 55)) (EX (o0 x) (mw x)) (oZ name m i m2 m3 m4 m5 m6 m7 m8 m9 m10 m11 m12 m13 m14 m15 m16 m17 m18 m19 m20 m21 m22 m23 m24 m25 m26):=
 aQ.loop (S:=fun(zz:Int×ae×waA×Int×ae×Int×waH×waG×waD×waC×Int×Bool×waA×waI×waJ×wbA×Int×ae×waC×waA×Int×ae×Int×waB×waB×waB)=>oZ name m zz.1 zz.2.1 zz.2.2.1 zz.2.2.2.1 zz.2.2.2.2.1 zz.2.2.2.2.2.1 zz.2.2.2.2.2.2.1 zz.2.2.2.2.2.2.2.1 zz.2.2.2.2.2.2.2.2.1 zz.2.2.2.2.2.2.2.2.2.1 zz.2.2.2.2.2.2.2.2.2.2.1 zz.2.2.2.2.2.2.2.2.2.2.2.1 zz.2.2.2.2.2.2.2.2.2.2.2.2.1 zz.2.2.2.2.2.2.2.2.2.2.2.2.2.1 zz.2.2.2.2.2.2.2.2.2.2.2.2.2.2.1 zz.2.2.2.2.2.2.2.2.2.2.2.2.2.2.2.1 zz.2.2.2.2.2.2.2.2.2.2.2.2.2.2.2.2.1 zz.2.2.2.2.2.2.2.2.2.2.2.2.2.2.2.2.2.1 zz.2.2.2.2.2.2.2.2.2.2.2.2.2.2.2.2.2.2.1 zz.2.2.2.2.2.2.2.2.2.2.2.2.2.2.2.2.2.2.2.1 zz.2.2.2.2.2.2.2.2.2.2.2.2.2.2.2.2.2.2.2.2.1 zz.2.2.2.2.2.2.2.2.2.2.2.2.2.2.2.2.2.2.2.2.2.1 zz.2.2.2.2.2.2.2.2.2.2.2.2.2.2.2.2.2.2.2.2.2.2.1 zz.2.2.2.2.2.2.2.2.2.2.2.2.2.2.2.2.2.2.2.2.2.2.2.1 zz.2.2.2.2.2.2.2.2.2.2.2.2.2.2.2.2.2.2.2.2.2.2.2.2.1 zz.2.2.2.2.2.2.2.2.2.2.2.2.2.2.2.2.2.2.2.2.2.2.2.2.2) (ex:=o0) (s:=(i,m2,m3,m4,m5,m6,m7,m8,m9,m10,m11,m12,m13,m14,m15,m16,m17,m18,m19,m20,m21,m22,m23,m24,m25,m26)) h fun zz y hy=>GS name m zz.1 zz.2.1 zz.2.2.1 zz.2.2.2.1 zz.2.2.2.2.1 zz.2.2.2.2.2.1 zz.2.2.2.2.2.2.1 zz.2.2.2.2.2.2.2.1 zz.2.2.2.2.2.2.2.2.1 zz.2.2.2.2.2.2.2.2.2.1 zz.2.2.2.2.2.2.2.2.2.2.1 zz.2.2.2.2.2.2.2.2.2.2.2.1 zz.2.2.2.2.2.2.2.2.2.2.2.2.1 zz.2.2.2.2.2.2.2.2.2.2.2.2.2.1 zz.2.2.2.2.2.2.2.2.2.2.2.2.2.2.1 zz.2.2.2.2.2.2.2.2.2.2.2.2.2.2.2.1 zz.2.2.2.2.2.2.2.2.2.2.2.2.2.2.2.2.1 zz.2.2.2.2.2.2.2.2.2.2.2.2.2.2.2.2.2.1 zz.2.2.2.2.2.2.2.2.2.2.2.2.2.2.2.2.2.2.1 zz.2.2.2.2.2.2.2.2.2.2.2.2.2.2.2.2.2.2.2.1 zz.2.2.2.2.2.2.2.2.2.2.2.2.2.2.2.2.2.2.2.2.1 zz.2.2.2.2.2.2.2.2.2.2.2.2.2.2.2.2.2.2.2.2.2.1 zz.2.2.2.2.2.2.2.2.2.2.2.2.2.2.2.2.2.2.2.2.2.2.1 zz.2.2.2.2.2.2.2.2.2.2.2.2.2.2.2.2.2.2.2.2.2.2.2.1 zz.2.2.2.2.2.2.2.2.2.2.2.2.2.2.2.2.2.2.2.2.2.2.2.2.1 zz.2.2.2.2.2.2.2.2.2.2.2.2.2.2.2.2.2.2.2.2.2.2.2.2.2 hy
end
def Gr(m:bo)(name:ae):Option (ey×Bool):=
 (BZ name m 0 ([]:ae) ([]:List ae) 0 ([]:ae) 0 ([]:List ag) ([]:List aw) ([]:List aF) ([]:List ah) 0 false ([]:List ae) ([]:List cw) ([]:List eU) ([]:List bH) 0 ([]:ae) ([]:List ah) ([]:List ae) 0 ([]:ae) 0 ([]:List aj) ([]:List aj) ([]:List aj)).bind fun o7=>match o7 with
 |(.inl o7)=>
  some ((⟨o7.1,o7.2.1,(⟨o7.2.2.1,o7.2.2.2.1,o7.2.2.2.2.1,o7.2.2.2.2.2.1,o7.2.2.2.2.2.2.1,o7.2.2.2.2.2.2.2.1,o7.2.2.2.2.2.2.2.2.1⟩:ag),o7.2.2.2.2.2.2.2.2.2.1,o7.2.2.2.2.2.2.2.2.2.2.1,(⟨o7.2.2.2.2.2.2.2.2.2.2.2.1,o7.2.2.2.2.2.2.2.2.2.2.2.2.1,o7.2.2.2.2.2.2.2.2.2.2.2.2.2.1,o7.2.2.2.2.2.2.2.2.2.2.2.2.2.2.1,(⟨o7.2.2.2.2.2.2.2.2.2.2.2.2.2.2.2.1,o7.2.2.2.2.2.2.2.2.2.2.2.2.2.2.2.2.1,o7.2.2.2.2.2.2.2.2.2.2.2.2.2.2.2.2.2.1,o7.2.2.2.2.2.2.2.2.2.2.2.2.2.2.2.2.2.2.1,(⟨o7.2.2.2.2.2.2.2.2.2.2.2.2.2.2.2.2.2.2.2.1,o7.2.2.2.2.2.2.2.2.2.2.2.2.2.2.2.2.2.2.2.2.1,o7.2.2.2.2.2.2.2.2.2.2.2.2.2.2.2.2.2.2.2.2.2.1,o7.2.2.2.2.2.2.2.2.2.2.2.2.2.2.2.2.2.2.2.2.2.2.1⟩:aj),o7.2.2.2.2.2.2.2.2.2.2.2.2.2.2.2.2.2.2.2.2.2.2.2.1⟩:ah),o7.2.2.2.2.2.2.2.2.2.2.2.2.2.2.2.2.2.2.2.2.2.2.2.2⟩:xE)⟩:ey),true)
 |(.inr o7)=>
  some ((⟨([]:ae),([]:List ae),(⟨0,([]:ae),0,([]:List ag),([]:List aw),([]:List aF),([]:List ah)⟩:ag),0,false,(⟨([]:List ae),([]:List cw),([]:List eU),([]:List bH),(⟨0,([]:ae),([]:List ah),([]:List ae),(⟨0,([]:ae),0,([]:List aj)⟩:aj),([]:List aj)⟩:ah),([]:List aj)⟩:xE)⟩:ey),false)
theorem Mn{m:bo}{name:ae}{r:ey×Bool}(h:Gr m name=some r):CC Pg GE 34 [.agg (aO m),.str name] (.tuple [.agg (cq r.1),.bool r.2]) []:=by
 obtain⟨o7,bo7,h⟩:=aG h
 rcases o7 with o7|o7
 ·obtain rfl:=lf h
  have z:=se (fm m)<|sx Nb<|cY (e:=.ret) (s1:=mw (.inl o7)) (Bf name m 0 ([]:ae) ([]:List ae) 0 ([]:ae) 0 ([]:List ag) ([]:List aw) ([]:List aF) ([]:List ah) 0 false ([]:List ae) ([]:List cw) ([]:List eU) ([]:List bH) 0 ([]:ae) ([]:List ah) ([]:List ae) 0 ([]:ae) 0 ([]:List aj) ([]:List aj) ([]:List aj) bo7)<|en (aI (vaU PVal.tuple (dw (DM (⟨o7.1,o7.2.1,(⟨o7.2.2.1,o7.2.2.2.1,o7.2.2.2.2.1,o7.2.2.2.2.2.1,o7.2.2.2.2.2.2.1,o7.2.2.2.2.2.2.2.1,o7.2.2.2.2.2.2.2.2.1⟩:ag),o7.2.2.2.2.2.2.2.2.2.1,o7.2.2.2.2.2.2.2.2.2.2.1,(⟨o7.2.2.2.2.2.2.2.2.2.2.2.1,o7.2.2.2.2.2.2.2.2.2.2.2.2.1,o7.2.2.2.2.2.2.2.2.2.2.2.2.2.1,o7.2.2.2.2.2.2.2.2.2.2.2.2.2.2.1,(⟨o7.2.2.2.2.2.2.2.2.2.2.2.2.2.2.2.1,o7.2.2.2.2.2.2.2.2.2.2.2.2.2.2.2.2.1,o7.2.2.2.2.2.2.2.2.2.2.2.2.2.2.2.2.2.1,o7.2.2.2.2.2.2.2.2.2.2.2.2.2.2.2.2.2.2.1,(⟨o7.2.2.2.2.2.2.2.2.2.2.2.2.2.2.2.2.2.2.2.1,o7.2.2.2.2.2.2.2.2.2.2.2.2.2.2.2.2.2.2.2.2.1,o7.2.2.2.2.2.2.2.2.2.2.2.2.2.2.2.2.2.2.2.2.2.1,o7.2.2.2.2.2.2.2.2.2.2.2.2.2.2.2.2.2.2.2.2.2.2.1⟩:aj),o7.2.2.2.2.2.2.2.2.2.2.2.2.2.2.2.2.2.2.2.2.2.2.2.1⟩:ah),o7.2.2.2.2.2.2.2.2.2.2.2.2.2.2.2.2.2.2.2.2.2.2.2.2⟩:xE)⟩:ey)) (dw (rP (.bool true)) (rfl:([]:List PVal)=[]))))<|(aI (uw (⟨o7.1,o7.2.1,(⟨o7.2.2.1,o7.2.2.2.1,o7.2.2.2.2.1,o7.2.2.2.2.2.1,o7.2.2.2.2.2.2.1,o7.2.2.2.2.2.2.2.1,o7.2.2.2.2.2.2.2.2.1⟩:ag),o7.2.2.2.2.2.2.2.2.2.1,o7.2.2.2.2.2.2.2.2.2.2.1,(⟨o7.2.2.2.2.2.2.2.2.2.2.2.1,o7.2.2.2.2.2.2.2.2.2.2.2.2.1,o7.2.2.2.2.2.2.2.2.2.2.2.2.2.1,o7.2.2.2.2.2.2.2.2.2.2.2.2.2.2.1,(⟨o7.2.2.2.2.2.2.2.2.2.2.2.2.2.2.2.1,o7.2.2.2.2.2.2.2.2.2.2.2.2.2.2.2.2.1,o7.2.2.2.2.2.2.2.2.2.2.2.2.2.2.2.2.2.1,o7.2.2.2.2.2.2.2.2.2.2.2.2.2.2.2.2.2.2.1,(⟨o7.2.2.2.2.2.2.2.2.2.2.2.2.2.2.2.2.2.2.2.1,o7.2.2.2.2.2.2.2.2.2.2.2.2.2.2.2.2.2.2.2.2.1,o7.2.2.2.2.2.2.2.2.2.2.2.2.2.2.2.2.2.2.2.2.2.1,o7.2.2.2.2.2.2.2.2.2.2.2.2.2.2.2.2.2.2.2.2.2.2.1⟩:aj),o7.2.2.2.2.2.2.2.2.2.2.2.2.2.2.2.2.2.2.2.2.2.2.2.1⟩:ah),o7.2.2.2.2.2.2.2.2.2.2.2.2.2.2.2.2.2.2.2.2.2.2.2.2⟩:xE)⟩:ey)) (aI trivial trivial)))
  exact cH TJ call34 func34 (c:=UU) rfl (aI (cr m) (aI trivial trivial)) z<|by kernel_rfl
 ·obtain rfl:=lf h
  have z:=se (fm m)<|sx Nb<|cY (e:=.exit 0) (s1:=mw (.inr o7)) (Bf name m 0 ([]:ae) ([]:List ae) 0 ([]:ae) 0 ([]:List ag) ([]:List aw) ([]:List aF) ([]:List ah) 0 false ([]:List ae) ([]:List cw) ([]:List eU) ([]:List bH) 0 ([]:ae) ([]:List ah) ([]:List ae) 0 ([]:ae) 0 ([]:List aj) ([]:List aj) ([]:List aj) bo7)<|sb (Jc) (Jb)<|sy (jG (⟨([]:ae),([]:List ae),(⟨0,([]:ae),0,([]:List ag),([]:List aw),([]:List aF),([]:List ah)⟩:ag),0,false,(⟨([]:List ae),([]:List cw),([]:List eU),([]:List bH),(⟨0,([]:ae),([]:List ah),([]:List ae),(⟨0,([]:ae),0,([]:List aj)⟩:aj),([]:List aj)⟩:ah),([]:List aj)⟩:xE)⟩:ey))<|en (aI (vaU PVal.tuple (dw (DM (⟨([]:ae),([]:List ae),(⟨0,([]:ae),0,([]:List ag),([]:List aw),([]:List aF),([]:List ah)⟩:ag),0,false,(⟨([]:List ae),([]:List cw),([]:List eU),([]:List bH),(⟨0,([]:ae),([]:List ah),([]:List ae),(⟨0,([]:ae),0,([]:List aj)⟩:aj),([]:List aj)⟩:ah),([]:List aj)⟩:xE)⟩:ey)) (dw (rP (.bool false)) (rfl:([]:List PVal)=[]))))<|(aI (uw (⟨([]:ae),([]:List ae),(⟨0,([]:ae),0,([]:List ag),([]:List aw),([]:List aF),([]:List ah)⟩:ag),0,false,(⟨([]:List ae),([]:List cw),([]:List eU),([]:List bH),(⟨0,([]:ae),([]:List ah),([]:List ae),(⟨0,([]:ae),0,([]:List aj)⟩:aj),([]:List aj)⟩:ah),([]:List aj)⟩:xE)⟩:ey)) (aI trivial trivial)))
  exact cH TJ call34 func34 (c:=UU) rfl (aI (cr m) (aI trivial trivial)) z<|by kernel_rfl
noncomputable def UV:Code:=f35.body.getD .skip
def TK:List Nat:=[]
section
variable(name:ae)(t9:(List cF))(t10:Int)(t11:Int)(m:ae)(m2:waA)(m3:waE)(m4:waF)
def jY:aA:=bg 22 [(1,.str name),(4,.bptr 1 0),(9,sl da t9),(10,.int .i64 t10),(11,.int .i64 t11)] [.dead,.cells [.str m,sl cS m2,sl dL m3,sl cM m4] [(1,9),(2,255),(3,121)]] []
def jZ(o:(ae×waA×waE×waF)⊕(ae×waA×waE×waF)):Exit:=match o with
 |(.inl _)=>.ret
 |(.inr _)=>.exit 0
def il(o:(ae×waA×waE×waF)⊕(ae×waA×waE×waF)):aA:=match o with
 |(.inl o)=>bg 22 [(4,.bptr 1 0),(5,.bool true)] [.dead,.cells [.str o.1,sl cS o.2.1,sl dL o.2.2.1,sl cM o.2.2.2] []] []
 |(.inr o)=>bg 22 [(4,.bptr 1 0)] [.dead,.cells [.str o.1,sl cS o.2.1,sl dL o.2.2.1,sl cM o.2.2.2] [(1,9),(2,255),(3,121)]] []
def f0:Option ((Int×ae×waA×waE×waF)⊕((ae×waA×waE×waF)⊕(ae×waA×waE×waF))):=
 if(decide (t11<t10))=true then
  (fJ t9 t11).bind fun x2=>
  if(x2.Name==name)=true then
   some (.inr (.inl (x2.Name,x2.Vars,x2.Preds,x2.Cons)))
  else
   some (.inl (ca (t11+1),m,m2,m3,m4))
 else
  some (.inr (.inr (m,m2,m3,m4)))
def tJ:Option ((ae×waA×waE×waF)⊕(ae×waA×waE×waF)):=loop (fun(zz:Int×ae×waA×waE×waF)=>f0 name t9 t10 zz.1 zz.2.1 zz.2.2.1 zz.2.2.2.1 zz.2.2.2.2) (t11,m,m2,m3,m4)
theorem Cy{y:(Int×ae×waA×waE×waF)⊕((ae×waA×waE×waF)⊕(ae×waA×waE×waF))}(h:f0 name t9 t10 t11 m m2 m3 m4=some y):aQ Pg GE 0 (cA UV 55) (LQ (fun(zz:Int×ae×waA×waE×waF)=>jY name t9 t10 zz.1 zz.2.1 zz.2.2.1 zz.2.2.2.1 zz.2.2.2.2) jZ il y) (jY name t9 t10 t11 m m2 m3 m4):=by
 rcases aN h with⟨c1,h⟩|⟨c1,h⟩
 ·obtain⟨x2,bx2,h⟩:=aG h
  have p4:=fun{sc F} (r:PS sc F)=>sg 0 c1<|sv (zJ.ia (k:=.i64) bx2)<|sv (zp x2)<|sx Cu<|sx (jT x2)<|ss<|r
  rcases aN h with⟨c3,h⟩|⟨c3,h⟩
  ·obtain rfl:=lf h
   have z:=p4<|sg 0 c3<|sv (Jt x2 [])<|sx (jT x2)<|rx 0 (jZ (.inl (x2.Name,x2.Vars,x2.Preds,x2.Cons))) (il (.inl (x2.Name,x2.Vars,x2.Preds,x2.Cons))) rfl (dv (aI (bh rfl) (aI trivial trivial))) (aI trivial (aI (aI trivial (aI (up (am bO x2.Vars)) (aI (up (am po x2.Preds)) (aI (up (am pn x2.Cons)) trivial)))) trivial))
   exact mZ (A:=TK) mixed (by intro hx;cases hx) z<|by kernel_rfl
  ·obtain rfl:=lf h
   have z:=p4<|sg 0 c3<|rx 0 .normal (jY name t9 t10 (ca (t11+1)) m m2 m3 m4) rfl (dv (aI trivial (aI (bh rfl) (aI (up (am jM t9)) (aI trivial (aI trivial trivial)))))) (aI trivial (aI (aI trivial (aI (up (am bO m2)) (aI (up (am po m3)) (aI (up (am pn m4)) trivial)))) trivial))
   exact d4 (A:=TK) mixed z<|by kernel_rfl
 ·obtain rfl:=lf h
  have z:=sg 0 c1<|eF (jZ (.inr (m,m2,m3,m4))) (il (.inr (m,m2,m3,m4)))
  exact iI TK (by intro hx;cases hx) z<|by kernel_rfl
theorem uR{x:(ae×waA×waE×waF)⊕(ae×waA×waE×waF)}(h:tJ name t9 t10 t11 m m2 m3 m4=some x):aQ Pg GE 0 (.loop (cA UV 55)) (EX (jZ x) (il x)) (jY name t9 t10 t11 m m2 m3 m4):=
 aQ.loop (S:=fun(zz:Int×ae×waA×waE×waF)=>jY name t9 t10 zz.1 zz.2.1 zz.2.2.1 zz.2.2.2.1 zz.2.2.2.2) (ex:=jZ) (s:=(t11,m,m2,m3,m4)) h fun zz y hy=>Cy name t9 t10 zz.1 zz.2.1 zz.2.2.1 zz.2.2.2.1 zz.2.2.2.2 hy
end
def uQ(m:bo)(name:ae):Option (cF×Bool):=
 (tJ name m.Datas (m.Datas.length:Int) 0 ([]:ae) ([]:List ae) ([]:List a8) ([]:List aY)).bind fun o5=>match o5 with
 |(.inl o5)=>
  some ((⟨o5.1,o5.2.1,o5.2.2.1,o5.2.2.2⟩:cF),true)
 |(.inr o5)=>
  some ((⟨([]:ae),([]:List ae),([]:List a8),([]:List aY)⟩:cF),false)
theorem HZ{m:bo}{name:ae}{r:cF×Bool}(h:uQ m name=some r):CC Pg GE 35 [.agg (aO m),.str name] (.tuple [.agg (da r.1),.bool r.2]) []:=by
 obtain⟨o5,bo5,h⟩:=aG h
 rcases o5 with o5|o5
 ·obtain rfl:=lf h
  have z:=se (fm m)<|sx Cu<|sv (cD m)<|sv (cE m)<|bU (zJ.ln m.Datas)<|cY (e:=.ret) (s1:=il (.inl o5)) (uR name m.Datas (m.Datas.length:Int) 0 ([]:ae) ([]:List ae) ([]:List a8) ([]:List aY) bo5)<|en (aI (vaU PVal.tuple (dw (oI (⟨o5.1,o5.2.1,o5.2.2.1,o5.2.2.2⟩:cF)) (dw (rP (.bool true)) (rfl:([]:List PVal)=[]))))<|(aI (jM (⟨o5.1,o5.2.1,o5.2.2.1,o5.2.2.2⟩:cF)) (aI trivial trivial)))
  exact cH TK call35 func35 (c:=UV) rfl (aI (cr m) (aI trivial trivial)) z<|by kernel_rfl
 ·obtain rfl:=lf h
  have z:=se (fm m)<|sx Cu<|sv (cD m)<|sv (cE m)<|bU (zJ.ln m.Datas)<|cY (e:=.exit 0) (s1:=il (.inr o5)) (uR name m.Datas (m.Datas.length:Int) 0 ([]:ae) ([]:List ae) ([]:List a8) ([]:List aY) bo5)<|sb (wY) (wX)<|sy (me (⟨([]:ae),([]:List ae),([]:List a8),([]:List aY)⟩:cF))<|en (aI (vaU PVal.tuple (dw (oI (⟨([]:ae),([]:List ae),([]:List a8),([]:List aY)⟩:cF)) (dw (rP (.bool false)) (rfl:([]:List PVal)=[]))))<|(aI (jM (⟨([]:ae),([]:List ae),([]:List a8),([]:List aY)⟩:cF)) (aI trivial trivial)))
  exact cH TK call35 func35 (c:=UV) rfl (aI (cr m) (aI trivial trivial)) z<|by kernel_rfl
noncomputable def UW:Code:=f36.body.getD .skip
def TL:List Nat:=[]
section
variable(name:ae)(m:bo)(i:Int)(m2:ae)(m3:waA)(m4:waE)(m5:waF)
def nq:aA:=bg 28 [(1,.str name),(2,.eptr (aO m)),(4,.bptr 1 0),(6,.int .i64 i)] [.dead,.cells [.str m2,sl cS m3,sl dL m4,sl cM m5] [(1,9),(2,255),(3,121)]] []
def nr(o:(ae×waA×waE×waF)⊕(ae×waA×waE×waF)):Exit:=match o with
 |(.inl _)=>.ret
 |(.inr _)=>.exit 0
def ls(o:(ae×waA×waE×waF)⊕(ae×waA×waE×waF)):aA:=match o with
 |(.inl o)=>bg 28 [(4,.bptr 1 0),(5,.bool true)] [.dead,.cells [.str o.1,sl cS o.2.1,sl dL o.2.2.1,sl cM o.2.2.2] []] []
 |(.inr o)=>bg 28 [(4,.bptr 1 0)] [.dead,.cells [.str o.1,sl cS o.2.1,sl dL o.2.2.1,sl cM o.2.2.2] [(1,9),(2,255),(3,121)]] []
def jt:Option ((Int×ae×waA×waE×waF)⊕((ae×waA×waE×waF)⊕(ae×waA×waE×waF))):=
 if(decide (i<(m.Datas.length:Int)))=true then
  (fJ m.Datas i).bind fun x3=>
  if(x3.Name==name)=true then
   (fJ m.Datas i).bind fun x6=>
   some (.inr (.inl (x6.Name,x6.Vars,x6.Preds,x6.Cons)))
  else
   some (.inl (ca (i+1),m2,m3,m4,m5))
 else
  some (.inr (.inr (m2,m3,m4,m5)))
def yJ:Option ((ae×waA×waE×waF)⊕(ae×waA×waE×waF)):=loop (fun(zz:Int×ae×waA×waE×waF)=>jt name m zz.1 zz.2.1 zz.2.2.1 zz.2.2.2.1 zz.2.2.2.2) (i,m2,m3,m4,m5)
theorem FK{y:(Int×ae×waA×waE×waF)⊕((ae×waA×waE×waF)⊕(ae×waA×waE×waF))}(h:jt name m i m2 m3 m4 m5=some y):aQ Pg GE 0 (cA UW 55) (LQ (fun(zz:Int×ae×waA×waE×waF)=>nq name m zz.1 zz.2.1 zz.2.2.1 zz.2.2.2.1 zz.2.2.2.2) nr ls y) (nq name m i m2 m3 m4 m5):=by
 have p2:=fun{sc F} (r:PS sc F)=>sv (cD m)<|sv (cE m)<|bU (zJ.ln m.Datas)<|r
 rcases aN h with⟨c1,h⟩|⟨c1,h⟩
 ·obtain⟨x3,bx3,h⟩:=aG h
  have p5:=fun{sc F} (r:PS sc F)=>p2<|sg 0 c1<|sv (cD m)<|sv (cE m)<|sv (zJ.ia (k:=.i64) bx3)<|sv (IH x3)<|sv (Ks x3)<|r
  rcases aN h with⟨c4,h⟩|⟨c4,h⟩
  ·obtain⟨x6,bx6,h⟩:=aG h
   obtain rfl:=lf h
   have z:=p5<|sg 0 c4<|sv (cD m)<|sv (cE m)<|sv (zJ.ia (k:=.i64) bx6)<|sv (zp x6)<|sx (jT x6)<|eF (nr (.inl (x6.Name,x6.Vars,x6.Preds,x6.Cons))) (ls (.inl (x6.Name,x6.Vars,x6.Preds,x6.Cons)))
   exact iI TL (by intro hx;cases hx) z<|by kernel_rfl
  ·obtain rfl:=lf h
   exact yz TL (p5<|sg 0 c4<|eF .normal (nq name m (ca (i+1)) m2 m3 m4 m5))<|by kernel_rfl
 ·obtain rfl:=lf h
  have z:=p2<|sg 0 c1<|eF (nr (.inr (m2,m3,m4,m5))) (ls (.inr (m2,m3,m4,m5)))
  exact iI TL (by intro hx;cases hx) z<|by kernel_rfl
theorem yK{x:(ae×waA×waE×waF)⊕(ae×waA×waE×waF)}(h:yJ name m i m2 m3 m4 m5=some x):aQ Pg GE 0 (.loop (cA UW 55)) (EX (nr x) (ls x)) (nq name m i m2 m3 m4 m5):=
 aQ.loop (S:=fun(zz:Int×ae×waA×waE×waF)=>nq name m zz.1 zz.2.1 zz.2.2.1 zz.2.2.2.1 zz.2.2.2.2) (ex:=nr) (s:=(i,m2,m3,m4,m5)) h fun zz y hy=>FK name m zz.1 zz.2.1 zz.2.2.1 zz.2.2.2.1 zz.2.2.2.2 hy
end
def CX(m:bo)(name:ae):Option (cF×Bool):=
 (yJ name m 0 ([]:ae) ([]:List ae) ([]:List a8) ([]:List aY)).bind fun o7=>match o7 with
 |(.inl o7)=>
  some ((⟨o7.1,o7.2.1,o7.2.2.1,o7.2.2.2⟩:cF),true)
 |(.inr o7)=>
  some ((⟨([]:ae),([]:List ae),([]:List a8),([]:List aY)⟩:cF),false)
theorem K2{m:bo}{name:ae}{r:cF×Bool}(h:CX m name=some r):CC Pg GE 36 [.agg (aO m),.str name] (.tuple [.agg (da r.1),.bool r.2]) []:=by
 obtain⟨o7,bo7,h⟩:=aG h
 rcases o7 with o7|o7
 ·obtain rfl:=lf h
  have z:=se (fm m)<|sx Cu<|cY (e:=.ret) (s1:=ls (.inl o7)) (yK name m 0 ([]:ae) ([]:List ae) ([]:List a8) ([]:List aY) bo7)<|en (aI (vaU PVal.tuple (dw (oI (⟨o7.1,o7.2.1,o7.2.2.1,o7.2.2.2⟩:cF)) (dw (rP (.bool true)) (rfl:([]:List PVal)=[]))))<|(aI (jM (⟨o7.1,o7.2.1,o7.2.2.1,o7.2.2.2⟩:cF)) (aI trivial trivial)))
  exact cH TL call36 func36 (c:=UW) rfl (aI (cr m) (aI trivial trivial)) z<|by kernel_rfl
 ·obtain rfl:=lf h
  have z:=se (fm m)<|sx Cu<|cY (e:=.exit 0) (s1:=ls (.inr o7)) (yK name m 0 ([]:ae) ([]:List ae) ([]:List a8) ([]:List aY) bo7)<|sb (wY) (wX)<|sy (me (⟨([]:ae),([]:List ae),([]:List a8),([]:List aY)⟩:cF))<|en (aI (vaU PVal.tuple (dw (oI (⟨([]:ae),([]:List ae),([]:List a8),([]:List aY)⟩:cF)) (dw (rP (.bool false)) (rfl:([]:List PVal)=[]))))<|(aI (jM (⟨([]:ae),([]:List ae),([]:List a8),([]:List aY)⟩:cF)) (aI trivial trivial)))
  exact cH TL call36 func36 (c:=UW) rfl (aI (cr m) (aI trivial trivial)) z<|by kernel_rfl
end Go.Proofs.YtkdahfeiedaahaaGreatDoor
