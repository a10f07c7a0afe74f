/- PROVED: a part of the proof. Conditions: none. -/
import Derived.Test.YtibglelmlnfojaaGreatDoorpa15
import Derived.Test.YtibglelmlnfojaaGreatDoorpa9
import Derived.Lib.ItoaLen
import Derived.Test.YtibglelmlnfojaaGreatDoorpa8
set_option linter.unusedSimpArgs false
set_option linter.unusedVariables false
noncomputable section
namespace Go.Proofs.YtibglelmlnfojaaGreatDoor
open Go Go.Proofs.Tryz
set_option linter.unusedVariables false
set_option maxRecDepth 100000
noncomputable def qgj:Code:=f19.body.getD .skip
def qkb:List Nat:=[57]
theorem qhZ:ZF Pg qkb 19 f19 qgj:=zf call19 func19 rfl mixed
section
variable(v:ae)(v2:ae)
def nY:Option Bool:=
 if(v.Op !=v2.Op)=true then
  some true
 else if(!(v.Name==v2.Name))=true then
  some true
 else if((v.Args.length:Int)!=(v2.Args.length:Int))=true then
  some true
 else if((v.Preds.length:Int)!=(v2.Preds.length:Int))=true then
  some true
 else
  (Dp v.Names v2.Names).bind λr9=>
  if(!r9)=true then
   some true
  else
   (nh v.Pred v2.Pred).bind λr12=>
   some (!r12)
theorem GB:OJ 0 (cA qgj 12) (nY v v2) .normal (λo=>aZ 76 [(2,.eptr (aj v)),(3,.eptr (aj v2)),(51,.bool o)] [.dead,.dead] []) (aZ 76 [(2,.eptr (aj v)),(3,.eptr (aj v2))] [.dead,.dead] []):=qhZ.j<|
 have pp2:=λ{X Y Z} (r:PV _ X Y Z)=>tw (aW v)<|tw (aW v2)<|r;tf (λc1=>pp2<|tg 6 c1<|tE) λc1=>have pp4:=λ{X Y Z} (r:PV _ X Y Z)=>pp2<|tg 6 c1<|tw (cT v)<|tw (cT v2)<|r;tf (λc3=>pp4<|tg 13 c3<|tE) λc3=>have pp6:=λ{X Y Z} (r:PV _ X Y Z)=>pp4<|tg 13 c3<|tw (aX v)<|cq (dy.ln v.Args)<|tw (aX v2)<|cq (dy.ln v2.Args)<|r;tf (λc5=>pp6<|tg 22 c5<|tE) λc5=>have pp8:=λ{X Y Z} (r:PV _ X Y Z)=>pp6<|tg 22 c5<|tw (bu v)<|cq (eL.ln v.Preds)<|tw (bu v2)<|cq (eL.ln v2.Preds)<|r;tf (λc7=>pp8<|tg 31 c7<|tE) λc7=>tb λr9 br9=>have pp11:=λ{X Y Z} (r:PV _ X Y Z)=>pp8<|tg 31 c7<|tw (bN v)<|tw (bN v2)<|cJ (Ds _ br9)<|r;tf (λc10=>pp11<|tg 39 c10<|tE) λc10=>tb λr12 br12=>pp11<|tg 39 c10<|tw (cZ v)<|tw (cZ v2)<|cJ (oQ _ br12)<|tE
end
section
variable(v:ae)(v2:ae)(t54:Int)(t55:Int)
def pF:aF:=aZ 76 [(2,.eptr (aj v)),(3,.eptr (aj v2)),(54,.int .i64 t54),(55,.int .i64 t55)] [.dead,.dead] []
def yJ(o:Unit⊕(Unit)):Exit:=match o with
 |(.inl _)=>.ret
 |(.inr _)=>.exit 0
def yK(o:Unit⊕(Unit)):aF:=match o with
 |(.inl o)=>aZ 76 [(4,.bool false)] [.dead,.dead] []
 |(.inr o)=>aZ 76 [(2,.eptr (aj v)),(3,.eptr (aj v2))] [.dead,.dead] []
def lb:Option (Int⊕(Unit⊕(Unit))):=
 if decide (t55<t54)=true then
  (dh v.Preds t55).bind λx16=>
  (dh v2.Preds t55).bind λx17=>
  (HP x16 x17).bind λr18=>
  if(!r18)=true then
   some (.inr (.inl ()))
  else
   some (.inl (dU (t55+1)))
 else
  some (.inr (.inr ()))
def nZ:Option (Unit⊕(Unit)):=loop (λ(zz:Int)=>lb v v2 t54 zz) t55
theorem Fw:OL 0 (cA qgj 119) (lb v v2 t54 t55) (λ(zz:Int)=>pF v v2 t54 zz) yJ (yK v v2) (pF v v2 t54 t55):=qhZ.l<|
 tF (tb λx16 bx16=>tb λx17 bx17=>tb λr18 br18=>Sq [0,1,0,7,15,0,32,0,224,480,1023,2047]<|tw (bu v)<|tv (eL.ia (k:=.i64) bx16)<|tv (bC x16)<|tw (bu v2)<|tv (eL.ia (k:=.i64) bx17)<|tv (bC x17)<|cJ (Sw _ br18)<|tF tE<|tE)<|tE
theorem wI:OK 0 (.loop (cA qgj 119)) (nZ v v2 t54 t55) yJ (yK v v2) (pF v v2 t54 t55):=FA λ_=>Fw _ _ _ _
end
def pE(R223:jA)(a:ae)(a2:ae):Option Bool:=
 (nY a a2).bind λo13=>
 if o13=true then
  some false
 else
  (nZ a a2 (a.Preds.length:Int) 0).bind λo20=>match o20 with
  |(.inl o20)=>
   some false
  |(.inr o20)=>
   (nn R223 a.Args a2.Args).bind λr21=>
   some r21
theorem JA(R223:jA)(hR223:pn R223){a:ae}{a2:ae}:OV 19 [.agg (aj a),.agg (aj a2)] (pE R223 a a2) (λr=>.bool r) []:=qhZ.v<|
 tb λo13 bo13=>te (fe a)<|te (fe a2)<|lB 1<|dm (GB a a2 _ bo13)<|tF tE<|tw (bu a)<|cq (eL.ln a.Preds)<|t2 (λo20 bo20=>dm (wI a a2 (a.Preds.length:Int) 0 _ bo20)<|tE) λo20 bo20=>tb λr21 br21=>dm (wI a a2 (a.Preds.length:Int) 0 _ bo20)<|tw (aX a)<|tw (aX a2)<|cJ (Ad R223 hR223 _ br21)<|tE
def wH:((ae×ae)->Option Bool)->(ae×ae)->Option Bool:=λ(rec:(ae×ae)->Option Bool) (x:ae×ae)=>pE (λa a2=>rec (a,a2)) x.1 x.2
def mn(a:ae)(a2:ae):Option Bool:=oE wH (a,a2)
theorem tY{a:ae}{a2:ae}:OV 19 [.agg (aj a),.agg (aj a2)] (mn a a2) (λr=>.bool r) []:=IJ λ_ h=>
 eE (F:=wH) (M:=λ(x:ae×ae) (r:Bool)=>CC Pg GE 19 [.agg (aj x.1),.agg (aj x.2)] (.bool r) []) (λrec hrec x r h=>JA _ (λa a2=>IJ λr h=>hrec (a,a2) r h) _ h) h
abbrev jz:=(af->af->Option Bool)
abbrev jt(R:jz):Prop:=∀(a:af) (a2:af),OV 20 [.agg (ag a),.agg (ag a2)] (R a a2) (λr=>.bool r) []
noncomputable def qaZ:Code:=f20.body.getD .skip
def qkc:List Nat:=[67,86,122]
theorem qdz:ZF Pg qkc 20 f20 qaZ:=zf call20 func20 rfl mixed
section
variable(v:af)(v2:af)
def nS:Option Bool:=
 if(v.Op !=v2.Op)=true then
  some true
 else if(!(v.Name==v2.Name))=true then
  some true
 else if(v.N !=v2.N)=true then
  some true
 else if((v.Kids.length:Int)!=(v2.Kids.length:Int))=true then
  some true
 else if((v.Params.length:Int)!=(v2.Params.length:Int))=true then
  some true
 else if((v.Alts.length:Int)!=(v2.Alts.length:Int))=true then
  some true
 else
  (nn mn v.Types v2.Types).bind λr13=>
  some (!r13)
theorem Gy:OJ 0 (cA qaZ 12) (nS v v2) .normal (λo=>aZ 169 [(2,.eptr (ag v)),(3,.eptr (ag v2)),(61,.bool o)] [.dead,.dead] []) (aZ 169 [(2,.eptr (ag v)),(3,.eptr (ag v2))] [.dead,.dead] []):=qdz.j<|
 have pp2:=λ{X Y Z} (r:PV _ X Y Z)=>tw (cj v)<|tw (cj v2)<|r;tf (λc1=>pp2<|tg 6 c1<|tE) λc1=>have pp4:=λ{X Y Z} (r:PV _ X Y Z)=>pp2<|tg 6 c1<|tw (dn v)<|tw (dn v2)<|r;tf (λc3=>pp4<|tg 13 c3<|tE) λc3=>have pp6:=λ{X Y Z} (r:PV _ X Y Z)=>pp4<|tg 13 c3<|tw (cx v)<|tw (cx v2)<|r;tf (λc5=>pp6<|tg 20 c5<|tE) λc5=>have pp8:=λ{X Y Z} (r:PV _ X Y Z)=>pp6<|tg 20 c5<|tw (az v)<|cq (fj.ln v.Kids)<|tw (az v2)<|cq (fj.ln v2.Kids)<|r;tf (λc7=>pp8<|tg 29 c7<|tE) λc7=>have pp10:=λ{X Y Z} (r:PV _ X Y Z)=>pp8<|tg 29 c7<|tw (aL v)<|cq (pl.ln v.Params)<|tw (aL v2)<|cq (pl.ln v2.Params)<|r;tf (λc9=>pp10<|tg 38 c9<|tE) λc9=>have pp12:=λ{X Y Z} (r:PV _ X Y Z)=>pp10<|tg 38 c9<|tw (av v)<|cq (fJ.ln v.Alts)<|tw (av v2)<|cq (fJ.ln v2.Alts)<|r;tf (λc11=>pp12<|tg 47 c11<|tE) λc11=>tb λr13 br13=>pp12<|tg 47 c11<|tw (aw v)<|tw (aw v2)<|cJ (Ad mn (λ_ _=>tY) _ br13)<|tE
end
section
variable(R228:jz)(v:af)(v2:af)(t64:Int)(t65:Int)
def pB:aF:=aZ 169 [(2,.eptr (ag v)),(3,.eptr (ag v2)),(64,.int .i64 t64),(65,.int .i64 t65)] [.dead,.dead] []
def yD(o:Unit⊕(Unit)):Exit:=match o with
 |(.inl _)=>.ret
 |(.inr _)=>.exit 0
def yE(o:Unit⊕(Unit)):aF:=match o with
 |(.inl o)=>aZ 169 [(4,.bool false)] [.dead,.dead] []
 |(.inr o)=>aZ 169 [(2,.eptr (ag v)),(3,.eptr (ag v2))] [.dead,.dead] []
def kY:Option (Int⊕(Unit⊕(Unit))):=
 if decide (t65<t64)=true then
  (dh v.Kids t65).bind λx17=>
  (dh v2.Kids t65).bind λx18=>
  (R228 x17 x18).bind λr19=>
  if(!r19)=true then
   some (.inr (.inl ()))
  else
   some (.inl (dU (t65+1)))
 else
  some (.inr (.inr ()))
def nV:Option (Unit⊕(Unit)):=loop (λ(zz:Int)=>kY R228 v v2 t64 zz) t65
theorem Ft(hR228:jt R228):OL 0 (cA qaZ 119) (kY R228 v v2 t64 t65) (λ(zz:Int)=>pB v v2 t64 zz) yD (yE v v2) (pB v v2 t64 t65):=qdz.l<|
 tF (tb λx17 bx17=>tb λx18 bx18=>tb λr19 br19=>Sq [0,1,0,7,15,0,32,0,224,480,1023,2047]<|tw (az v)<|tv (fj.ia (k:=.i64) bx17)<|tv (bh x17)<|tw (az v2)<|tv (fj.ia (k:=.i64) bx18)<|tv (bh x18)<|cJ (hR228 _ _ _ br19)<|tF tE<|tE)<|tE
theorem wE(hR228:jt R228):OK 0 (.loop (cA qaZ 119)) (nV R228 v v2 t64 t65) yD (yE v v2) (pB v v2 t64 t65):=FA λ_=>Ft _ _ _ _ _ hR228
end
section
variable(v:af)(v2:af)(i:Int)(t83:Int)
def nT:Option Bool:=
 (dh v.Params i).bind λx23=>
 (dh v2.Params i).bind λx24=>
 if(!(x23.Name==x24.Name))=true then
  some true
 else
  (dh v.Params i).bind λx26=>
  (dh v2.Params i).bind λx27=>
  (mn x26.Type_ x27.Type_).bind λr28=>
  some (!r28)
theorem Gz:OJ 0 (cA qaZ 15862) (nT v v2 i) .normal (λo=>aZ 169 [(2,.eptr (ag v)),(3,.eptr (ag v2)),(83,.int .i64 t83),(84,.int .i64 i),(115,.bool o)] [.dead,.dead] []) (aZ 169 [(2,.eptr (ag v)),(3,.eptr (ag v2)),(6,.int .i64 i),(83,.int .i64 t83),(84,.int .i64 i)] [.dead,.dead] []):=qdz.j<|
 tb λx23 bx23=>tb λx24 bx24=>tf (λc25=>Sq [0,1,0,7,15,31,0,64,0,448,960,1984,4095,8191,16383,32767,16383,131071,262143,524287,16383,1064959,16383,7356415,15745023,32522239,67108863,134217727,268435455]<|tw (aL v)<|tv (pl.ia (k:=.i64) bx23)<|tw (ga x23)<|tw (aL v2)<|tv (pl.ia (k:=.i64) bx24)<|tw (ga x24)<|tg 14 c25<|tE) λc25=>tb λx26 bx26=>tb λx27 bx27=>tb λr28 br28=>Sq [0,1,0,7,15,31,0,64,0,448,960,1984,4095,8191,16383,32767,16383,131071,262143,524287,16383,1064959,16383,7356415,15745023,32522239,67108863,134217727,268435455]<|tw (aL v)<|tv (pl.ia (k:=.i64) bx23)<|tw (ga x23)<|tw (aL v2)<|tv (pl.ia (k:=.i64) bx24)<|tw (ga x24)<|tg 14 c25<|tw (aL v)<|tv (pl.ia (k:=.i64) bx26)<|tw (ir x26)<|tw (aL v2)<|tv (pl.ia (k:=.i64) bx27)<|tw (ir x27)<|cJ (tY _ br28)<|tE
end
section
variable(v:af)(v2:af)(t83:Int)(t84:Int)
def pC:aF:=aZ 169 [(2,.eptr (ag v)),(3,.eptr (ag v2)),(83,.int .i64 t83),(84,.int .i64 t84)] [.dead,.dead] []
def yF(o:Unit⊕(Unit)):Exit:=match o with
 |(.inl _)=>.ret
 |(.inr _)=>.exit 2
def yG(o:Unit⊕(Unit)):aF:=match o with
 |(.inl o)=>aZ 169 [(4,.bool false)] [.dead,.dead] []
 |(.inr o)=>aZ 169 [(2,.eptr (ag v)),(3,.eptr (ag v2))] [.dead,.dead] []
def kZ:Option (Int⊕(Unit⊕(Unit))):=
 if decide (t84<t83)=true then
  (nT v v2 t84).bind λo29=>
  if o29=true then
   some (.inr (.inl ()))
  else
   some (.inl (dU (t84+1)))
 else
  some (.inr (.inr ()))
def nW:Option (Unit⊕(Unit)):=loop (λ(zz:Int)=>kZ v v2 t83 zz) t84
theorem Fu:OL 0 (cA qaZ 247) (kZ v v2 t83 t84) (λ(zz:Int)=>pC v v2 t83 zz) yF (yG v v2) (pC v v2 t83 t84):=qdz.l<|
 tF (tb λo29 bo29=>lB 2<|dm (Gz v v2 t84 t83 _ bo29)<|tF tE<|tE)<|tE
theorem wF:OK 0 (.loop (cA qaZ 247)) (nW v v2 t83 t84) yF (yG v v2) (pC v v2 t83 t84):=FA λ_=>Fu _ _ _ _
end
section
variable(R228:jz)(v:af)(v2:af)(i:Int)(t119:Int)
def nU:Option Bool:=
 (dh v.Alts i).bind λx33=>
 (dh v2.Alts i).bind λx34=>
 if(!(x33.Con==x34.Con))=true then
  some true
 else
  (dh v.Alts i).bind λx36=>
  (dh v2.Alts i).bind λx37=>
  (Dp x36.Names x37.Names).bind λr38=>
  if(!r38)=true then
   some true
  else
   (dh v.Alts i).bind λx40=>
   (dh v2.Alts i).bind λx41=>
   (R228 x40.Body x41.Body).bind λr42=>
   some (!r42)
theorem GA(hR228:jt R228):OJ 0 (cA qaZ 32246) (nU R228 v v2 i) .normal (λo=>aZ 169 [(2,.eptr (ag v)),(3,.eptr (ag v2)),(119,.int .i64 t119),(120,.int .i64 i),(167,.bool o)] [.dead,.dead] []) (aZ 169 [(2,.eptr (ag v)),(3,.eptr (ag v2)),(7,.int .i64 i),(119,.int .i64 t119),(120,.int .i64 i)] [.dead,.dead] []):=qdz.j<|
 tb λx33 bx33=>tb λx34 bx34=>tf (λc35=>Sq [0,1,0,7,15,31,0,64,0,448,960,1984,4095,8191,16383,32767,16383,131071,262143,524287,16383,1064959,16383,7356415,15745023,32522239,67108863,134217727,268435455,536870911,1073741823,2147483647,1073741823,8589934591,17179869183,34359738367,1073741823,69793218559,1073741823,482110078975,1031865892863,2131377520639,4398046511103,8796093022207,17592186044415]<|tw (av v)<|tv (fJ.ia (k:=.i64) bx33)<|tw (fR x33)<|tw (av v2)<|tv (fJ.ia (k:=.i64) bx34)<|tw (fR x34)<|tg 14 c35<|tE) λc35=>tb λx36 bx36=>tb λx37 bx37=>tb λr38 br38=>tf (λc39=>Sq [0,1,0,7,15,31,0,64,0,448,960,1984,4095,8191,16383,32767,16383,131071,262143,524287,16383,1064959,16383,7356415,15745023,32522239,67108863,134217727,268435455,536870911,1073741823,2147483647,1073741823,8589934591,17179869183,34359738367,1073741823,69793218559,1073741823,482110078975,1031865892863,2131377520639,4398046511103,8796093022207,17592186044415]<|tw (av v)<|tv (fJ.ia (k:=.i64) bx33)<|tw (fR x33)<|tw (av v2)<|tv (fJ.ia (k:=.i64) bx34)<|tw (fR x34)<|tg 14 c35<|tw (av v)<|tv (fJ.ia (k:=.i64) bx36)<|tw (gD x36)<|tw (av v2)<|tv (fJ.ia (k:=.i64) bx37)<|tw (gD x37)<|cJ (Ds _ br38)<|tg 30 c39<|tE) λc39=>tb λx40 bx40=>tb λx41 bx41=>tb λr42 br42=>Sq [0,1,0,7,15,31,0,64,0,448,960,1984,4095,8191,16383,32767,16383,131071,262143,524287,16383,1064959,16383,7356415,15745023,32522239,67108863,134217727,268435455,536870911,1073741823,2147483647,1073741823,8589934591,17179869183,34359738367,1073741823,69793218559,1073741823,482110078975,1031865892863,2131377520639,4398046511103,8796093022207,17592186044415]<|tw (av v)<|tv (fJ.ia (k:=.i64) bx33)<|tw (fR x33)<|tw (av v2)<|tv (fJ.ia (k:=.i64) bx34)<|tw (fR x34)<|tg 14 c35<|tw (av v)<|tv (fJ.ia (k:=.i64) bx36)<|tw (gD x36)<|tw (av v2)<|tv (fJ.ia (k:=.i64) bx37)<|tw (gD x37)<|cJ (Ds _ br38)<|tg 30 c39<|tw (av v)<|tv (fJ.ia (k:=.i64) bx40)<|tw (oF x40)<|tw (av v2)<|tv (fJ.ia (k:=.i64) bx41)<|tw (oF x41)<|cJ (hR228 _ _ _ br42)<|tE
end
section
variable(R228:jz)(v:af)(v2:af)(t119:Int)(t120:Int)
def pD:aF:=aZ 169 [(2,.eptr (ag v)),(3,.eptr (ag v2)),(119,.int .i64 t119),(120,.int .i64 t120)] [.dead,.dead] []
def yH(o:Unit⊕(Unit)):Exit:=match o with
 |(.inl _)=>.ret
 |(.inr _)=>.exit 4
def yI(o:Unit⊕(Unit)):aF:=match o with
 |(.inl o)=>aZ 169 [(4,.bool false)] [.dead,.dead] []
 |(.inr o)=>aZ 169 [] [.dead,.dead] []
def la:Option (Int⊕(Unit⊕(Unit))):=
 if decide (t120<t119)=true then
  (nU R228 v v2 t120).bind λo43=>
  if o43=true then
   some (.inr (.inl ()))
  else
   some (.inl (dU (t120+1)))
 else
  some (.inr (.inr ()))
def nX:Option (Unit⊕(Unit)):=loop (λ(zz:Int)=>la R228 v v2 t119 zz) t120
theorem Fv(hR228:jt R228):OL 0 (cA qaZ 503) (la R228 v v2 t119 t120) (λ(zz:Int)=>pD v v2 t119 zz) yH yI (pD v v2 t119 t120):=qdz.l<|
 tF (tb λo43 bo43=>lB 2<|dm (GA R228 v v2 t120 t119 hR228 _ bo43)<|tF tE<|tE)<|tE
theorem wG(hR228:jt R228):OK 0 (.loop (cA qaZ 503)) (nX R228 v v2 t119 t120) yH yI (pD v v2 t119 t120):=FA λ_=>Fv _ _ _ _ _ hR228
end
def pA(R228:jz)(a:af)(a2:af):Option Bool:=
 (nS a a2).bind λo14=>
 if o14=true then
  some false
 else
  (nV R228 a a2 (a.Kids.length:Int) 0).bind λo21=>match o21 with
  |(.inl o21)=>
   some false
  | (.inr o21) =>
   (nW a a2 (a.Params.length:Int) 0).bind λo31=>match o31 with
   |(.inl o31)=>
    some false
   | (.inr o31) =>
    (nX R228 a a2 (a.Alts.length:Int) 0).bind λo45=>match o45 with
    |(.inl o45)=>
     some false
    |(.inr o45)=>
     some true
theorem Jz(R228:jz)(hR228:jt R228){a:af}{a2:af}:OV 20 [.agg (ag a),.agg (ag a2)] (pA R228 a a2) (λr=>.bool r) []:=qdz.v<|
 tb λo14 bo14=>te (dq a)<|te (dq a2)<|lB 1<|dm (Gy a a2 _ bo14)<|tF tE<|tw (az a)<|cq (fj.ln a.Kids)<|t2 (λo21 bo21=>dm (wE R228 a a2 (a.Kids.length:Int) 0 hR228 _ bo21)<|tE) λo21 bo21=>dm (wE R228 a a2 (a.Kids.length:Int) 0 hR228 _ bo21)<|tw (aL a)<|cq (pl.ln a.Params)<|t2 (λo31 bo31=>dm (wF a a2 (a.Params.length:Int) 0 _ bo31)<|tE) λo31 bo31=>dm (wF a a2 (a.Params.length:Int) 0 _ bo31)<|tw (av a)<|cq (fJ.ln a.Alts)<|t2 (λo45 bo45=>dm (wG R228 a a2 (a.Alts.length:Int) 0 hR228 _ bo45)<|tE) λo45 bo45=>dm (wG R228 a a2 (a.Alts.length:Int) 0 hR228 _ bo45)<|tE
def wD:((af×af)->Option Bool)->(af×af)->Option Bool:=λ(rec:(af×af)->Option Bool) (x:af×af)=>pA (λa a2=>rec (a,a2)) x.1 x.2
def By(a:af)(a2:af):Option Bool:=oE wD (a,a2)
theorem Ly{a:af}{a2:af}:OV 20 [.agg (ag a),.agg (ag a2)] (By a a2) (λr=>.bool r) []:=IJ λ_ h=>
 eE (F:=wD) (M:=λ(x:af×af) (r:Bool)=>CC Pg GE 20 [.agg (ag x.1),.agg (ag x.2)] (.bool r) []) (λrec hrec x r h=>Jz _ (λa a2=>IJ λr h=>hrec (a,a2) r h) _ h) h
noncomputable def b5:Code:=Tryz.f5.body.getD .skip
def A5:List Nat:=[]
theorem Z5:ZF Pg A5 5 Tryz.f5 b5:=zf call5 func5 rfl mixed
section
variable(s:ae)(t:ae)(d:af)(e:af)
def kW:Option Bool:=
 (kv s 4).bind λr1=>
 if(!r1)=true then
  some true
 else
  (kv t 4).bind λr4=>
  if(!r4)=true then
   some true
  else
   (Ae d).bind λr7=>
   if(!r7)=true then
    some true
   else
    (Ae e).bind λr10=>
    some (!r10)
theorem DI:OJ 0 (cA b5 12) (kW s t d e) .normal (λo=>aZ 66 [(4,.eptr (aj s)),(5,.eptr (aj t)),(6,.eptr (ag d)),(7,.eptr (ag e)),(28,.bool o)] [.dead,.dead,.dead,.dead] []) (aZ 66 [(4,.eptr (aj s)),(5,.eptr (aj t)),(6,.eptr (ag d)),(7,.eptr (ag e))] [.dead,.dead,.dead,.dead] []):=Z5.j<|
 tb λr1 br1=>have pp3:=λ{X Y Z} (r:PV _ X Y Z)=>tv (cC s)<|cJ (ms _ br1)<|r;tf (λc2=>pp3<|tg 4 c2<|tE) λc2=>tb λr4 br4=>have pp6:=λ{X Y Z} (r:PV _ X Y Z)=>pp3<|tg 4 c2<|tv (cC t)<|cJ (ms _ br4)<|r;tf (λc5=>pp6<|tg 9 c5<|tE) λc5=>tb λr7 br7=>have pp9:=λ{X Y Z} (r:PV _ X Y Z)=>pp6<|tg 9 c5<|tv (bh d)<|cJ (HS _ br7)<|r;tf (λc8=>pp9<|tg 14 c8<|tE) λc8=>tb λr10 br10=>pp9<|tg 14 c8<|tv (bh e)<|cJ (HS _ br10)<|tE
end
section
variable(s:ae)(t:ae)(d:af)(e:af)(v:ah)(v2:ah)
def kX:Option Bool:=
 if(!(v==([]:ah)))=true then
  if(v==v2)=true then
   (mn s t).bind λr18=>
   some (!r18)
  else
   some false
 else
  some false
theorem DJ:OJ 0 (cA b5 60) (kX s t v v2) .normal (λo=>aZ 66 [(6,.eptr (ag d)),(7,.eptr (ag e)),(46,.bool o)] [.dead,.dead,.dead,.dead] []) (aZ 66 [(4,.eptr (aj s)),(5,.eptr (aj t)),(6,.eptr (ag d)),(7,.eptr (ag e)),(9,.str v),(10,.str v2)] [.dead,.dead,.dead,.dead] []):=Z5.j<|
 tf (λc16=>tf (λc17=>tb λr18 br18=>tg 3 c16<|tg 8 c17<|tv (cC s)<|tv (cC t)<|cJ (tY _ br18)<|tE) λc17=>tg 3 c16<|tg 8 c17<|tE) λc16=>tg 3 c16<|tE
end
def wC(s:ae)(t:ae)(d:af)(e:af):Option Bool:=
 (kW s t d e).bind λo11=>
 if o11=true then
  wg.bind λr13=>
  some r13
 else
  (rE s).bind λr14=>
  (rE t).bind λr15=>
  (kX s t r14 r15).bind λo19=>
  if o19=true then
   some false
  else
   (ke d).bind λr21=>
   (ke e).bind λr22=>
   if(r21==([]:ah))=true then
    wg.bind λr24=>
    some r24
   else if(!(r21==r22))=true then
    wg.bind λr26=>
    some r26
   else
    (By d e).bind λr27=>
    if r27=true then
     wg.bind λr30=>
     some r30
    else
     some false
theorem HO{s:ae}{t:ae}{d:af}{e:af}:OV 5 [.agg (aj s),.agg (aj t),.agg (ag d),.agg (ag e)] (wC s t d e) (λr=>.bool r) []:=Z5.v<|
 tb λo11 bo11=>te (fe s)<|te (fe t)<|te (dq d)<|te (dq e)<|lB 1<|dm (DI s t d e _ bo11)<|tF (tb λr13 br13=>cJ (vF _ br13)<|tE)<|tb λr14 br14=>tb λr15 br15=>tb λo19 bo19=>Sq [0,1,0,7,15,31]<|tv (cC s)<|cJ (zI _ br14)<|tv (cC t)<|cJ (zI _ br15)<|lB 1<|dm (DJ s t d e r14 r15 _ bo19)<|tF tE<|tb λr21 br21=>tb λr22 br22=>Sq [0,1,0,7,15,31]<|tv (bh d)<|cJ (kF _ br21)<|tv (bh e)<|cJ (kF _ br22)<|tf (λc23=>tb λr24 br24=>tg 3 c23<|cJ (vF _ br24)<|tE) λc23=>tf (λc25=>tb λr26 br26=>tg 3 c23<|tg 8 c25<|cJ (vF _ br26)<|tE) λc25=>tb λr27 br27=>have pp29:=λ{X Y Z} (r:PV _ X Y Z)=>tg 3 c23<|tg 8 c25<|tv (bh d)<|tv (bh e)<|cJ (Ly _ br27)<|r;tf (λc28=>tb λr30 br30=>pp29<|tg 13 c28<|cJ (vF _ br30)<|tE) λc28=>pp29<|tg 13 c28<|tE
open Go
theorem dM{σ X:Type}(n:Nat)(body:σ->Option (σ⊕X))(S:Nat->σ)(e:X)(hin:∀i,i<n->body (S i)=some (.inl (S (i+1))))(hend:body (S n)=some (.inr e)):loop body (S 0)=some e:=by
 have key:∀k i,k+i=n->loop body (S i)=some e:=by
  intro k
  induction k with
  |zero=>
   intro i hi
   have:i=n:=by omega
   subst this
   exact ik hend
  |succ k ih=>
   intro i hi
   rw[wn (hin i (by omega))]
   exact ih (i+1) (by omega)
 exact key n 0 (by omega)
set_option linter.unusedSimpArgs false
abbrev qd4(n:Int):Prop:=-1000000000000<=n/\n<=1000000000000
theorem E3{n:Int}(h:qd4 n):Ni n=some (Lib.itoa n):=by
 unfold Ni
 rw[vad (by simp;omega)]
def dv(s:ah):Nat:=s.foldl (λv c=>10 * v+(c.toNat - 48)) 0
def qjT(s:ah):Prop:=∀c∈s,48<=c.toNat/\c.toNat<=57
theorem qbG(s:ah)(c:UInt8):dv (s++[c])=10 * dv s+(c.toNat - 48):=by unfold dv;rw[vcs];rfl
theorem qcY{n:Int}(h:qd4 n):(Lib.itoa n).length<=21:=Lib.itoa_length_le n (by omega) (by omega)
def Gj(l:List ah)(s:ah):Int:=match l.findIdx? (λx=>x==s)with|some j=>(j:Int)|none=>-1
theorem Do(l:List ah)(s:ah)(hl:l.length<9223372036854775808):HE l s=some (Gj l s):=by
 unfold HE KL
 have:=PW l hl (λzz=>rX l s l.length zz) (λx=>x==s) (λj=>Sum.inl (j:Int)) (Sum.inr ()) (λi h=>by
  simp only[rX]
  rw[vad (by simp;omega),aM _ i h]
  simp only[vaa]
  split<;>simp_all) (by simp only[rX];rw[vab (by simp)])
 rw[this]
 unfold Gj
 cases l.findIdx? (λx=>x==s)<;>rfl
theorem Ra(l:List ah)(s:ah):decide (Gj l s>=0)=l.any λk=>k==s:=by
 unfold Gj
 cases h:l.findIdx? (λx=>x==s)with
 |none=>
  rw[vbu]at h
  symm
  simp only[vbi]
  rw[show decide ((-1:Int)>=0)=false from rfl]
  simp only[vbi,vc6]
  exact h
 | some j =>
  have h2:l.any (λx=>x==s)=true:=by
   have:=List.findIdx?_isSome (xs:=l) (p:=λx=>x==s)
   rw[h]at this
   exact this.symm
  rw[h2]
  simp
theorem PX{α:Type}(k:ah)(v:α)(j:ah):∀(m:List (ah×α)),D7 (LE m k v) j=if(j==k)=true then some v else D7 m j
 |[]=>by
  simp only[LE,D7,List.find?_cons,List.find?_nil]
  cases(j==k)<;>rfl
 | e :: r => by
  have ih:=PX k v j r
  unfold LE
  by_cases h:(k==e.1)=true
  ·have h':k=e.1:=by simpa using h
   rw[vad h]
   unfold D7
   simp only[List.find?_cons]
   rw[<-h']
   cases hj:(j==k)<;>simp
  ·rw [vab h]
   unfold D7 at ih ⊢
   simp only[List.find?_cons]
   cases hj:(j==e.1)
   ·simpa using ih
   ·have:¬(j==k)=true:=λhk=>h (by
      have h1:j=e.1:=by simpa using hj
      have h2:j=k:=by simpa using hk
      simp[<-h1,<-h2])
    simp[this]
def dp(c:Int):Bool:=decide (97<=c)&&decide (c<=122)
def fc(c:Int):Bool:=decide (65<=c)&&decide (c<=90)
def jX(c:Int):Bool:=decide (48<=c)&&decide (c<=57)
theorem p7(c:Int):lS c=some (dp c):=by unfold lS dp;split<;>simp_all<;>omega
theorem As(c:Int):nx c=some (fc c):=by unfold nx fc;split<;>simp_all<;>omega
theorem xc(c:Int):o0 c=some (jX c):=by unfold o0 jX;split<;>simp_all<;>omega
theorem mm(c:Int):ku c=some (dp c):=by unfold ku dp;split<;>simp_all<;>omega
theorem wt(c:Int):lE c=some (fc c):=by unfold lE fc;split<;>simp_all<;>omega
theorem vo(c:Int):oO c=some (jX c):=by unfold oO jX;split<;>simp_all<;>omega
def jU(b:UInt8):Bool:=dp b.toNat||jX b.toNat||(b.toNat:Int)==95
def gb(b:UInt8):Bool:=dp b.toNat||fc b.toNat||jX b.toNat
def me(s:ah):Bool:=decide ((s.length:Int)>=1)&&decide ((s.length:Int)<=24)
def qcZ(s:ah):Bool:=dj.any λk=>k==s
def eG(p:Int->Bool)(s:ah):Bool:=match s with|[]=>false|c::_=>p c.toNat
abbrev Sk(s:ah):Prop:=s.length<9223372036854775808
theorem xe(s:ah):pb s=some (me s):=by
 unfold pb me
 by_cases h:(s.length:Int)>=1
 ·rw[vad (vaP h),vaP h];rfl
 ·rw[vab (by simpa using h),decide_eq_false h];rfl
theorem J0(s:ah):sn s=some (qcZ s):=by
 unfold sn ry
 have h42:dj.length=42:=rfl
 have:=kn dj (by rw[h42];omega) (λzz=>gE s zz) (λk=>k==s) (Sum.inl ()) (Sum.inr ()) (λi h=>by
  rw[h42]at h
  simp only[gE]
  rw[vad (by simp;omega),aM _ i (by rw[h42];omega)]
  simp only[vaa]
  split<;>simp_all) (by simp only[gE];rw[vab (by rw[h42];simp)]) 0 (vaX _)
 simp only[Int.ofNat_zero,vbc]at this
 rw[this]
 unfold qcZ
 cases dj.any (λk=>k==s)<;>rfl
theorem Lu:HF=some dj:=rfl
theorem Mz(s:ah):sO s=some (qcZ s):=by
 unfold sO
 have h42:dj.length=42:=rfl
 rw[Lu]
 simp only[vaa]
 rw[Do _ _ (by rw[h42];omega)]
 simp only[vaa,Ra]
 rfl
def mW(s:ah):Bool:=me s&&eG dp s&&!qcZ s&&s.all jU
def jf(s:ah):Bool:=me s&&eG fc s&&s.all gb&&!(s==[73,110,116])&&!(s==[66,111,111,108])&&!(s==[67,101,108,108])&&!(s==[70,117,110])
def Ai(b:Bool):Int:=if b then 0 else 3
theorem Ku{s:ah}(h:me s=true):∃c r,s=c::r:=by
 cases s with
 |nil=>simp[me]at h
 |cons c r=>exact⟨c,r,rfl⟩
theorem J6(s:ah)(i:Nat)(h:i<s.length):su s i=some (!jU s[i]):=by
 unfold su jU
 simp only[lO s i h,vaa,p7,xc]
 cases dp (s[i].toNat:Int)<;>cases jX (s[i].toNat:Int)<;>simp[bne]
theorem Lo(s:ah)(i:Nat)(h:i<s.length):mi s i=some (!jU s[i]):=by
 unfold mi jU
 simp only[lO s i h,vaa,mm,vo]
 cases dp (s[i].toNat:Int)<;>cases jX (s[i].toNat:Int)<;>simp[bne]
theorem J8(s:ah)(hs:Sk s)(i:Nat)(hi:i<=s.length):sw s i=some (if(s.drop i).any (λb=>!jU b)=true then .inl ()else .inr ()):=by
 unfold sw
 refine kn s hs _ (λb=>!jU b) _ _ (λj h=>?_) ?_ i hi
 ·simp only[od]
  rw[vad (by simp;omega),J6 s j h]
  simp only[vaa]
  split<;>simp_all
 ·simp only[od];rw[vab (by simp)]
theorem Lp(s:ah)(hs:Sk s):vd s s.length 0=some (if s.any (λb=>!jU b)=true then .inl ()else .inr ()):=by
 unfold vd
 have:=kn s hs (λzz=>po s s.length zz) (λb=>!jU b) (.inl ()) (.inr ()) (λj h=>by
  simp only[po]
  rw[vad (by simp;omega),Lo s j h]
  simp only[vaa]
  split<;>simp_all) (by simp only[po];rw[vab (by simp)]) 0 (vaX _)
 simpa using this
theorem Qj{b:UInt8}(h:dp b.toNat=true):jU b=true:=by simp[jU,h]
theorem J4(s:ah):sq s=some (!(me s&&eG dp s&&!qcZ s)):=by
 unfold sq
 rw[xe]
 simp only[vaa]
 by_cases h:me s=true
 ·obtain⟨c,r,rfl⟩:=Ku h
  simp only[h,oW,vaa,p7,J0,eG]
  cases dp (c.toNat:Int)<;>simp
 ·simp[h]
theorem O7(s:ah)(hs:Sk s):BG s=some (mW s):=by
 unfold BG mW
 rw[J4]
 simp only[vaa]
 by_cases h:(me s&&eG dp s&&!qcZ s)=true
 ·have hs1:me s=true:=by revert h;cases me s<;>simp
  obtain⟨c,r,rfl⟩:=Ku hs1
  have hc:dp (c.toNat:Int)=true:=by revert h;simp[eG];intro _ h _;exact h
  have hL:=J8 (c::r) hs 1 (by simp)
  simp only[Int.ofNat_one]at hL
  rw[h,hL]
  simp only[List.drop_succ_cons,vbc,List.all_cons,Qj hc,vbl]
  rw[vbr]
  simp only[vb7]
  cases r.all jU<;>simp
 ·simp[h]
theorem Ln(s:ah):vb s=some (!(me s&&eG dp s&&!qcZ s)):=by
 unfold vb me
 cases s with
 |nil=>simp
 | cons c r =>
  have h1:¬(((c::r).length:Int)<1):=by simp;omega
  have h2:(((c::r).length:Int)>=1):=by omega
  simp only[h1,h2,decide_false,decide_true,vbl,vaD,if_false,oW,vaa,mm,Mz,eG]
  by_cases h:(((c::r).length:Int)>24)
  ·have h':¬(((c::r).length:Int)<=24):=by omega
   simp only[h,h',decide_true,decide_false,if_true]
   simp
  ·have h':(((c::r).length:Int)<=24):=by omega
   simp only[h,h',decide_true,decide_false,if_false,vaD]
   cases dp (c.toNat:Int)<;>simp
theorem Qx(s:ah)(hs:Sk s):zY s=some (Ai (mW s)):=by
 unfold zY
 rw[Ln,Lp s hs]
 unfold mW Ai
 cases(me s&&eG dp s&&!qcZ s)with
 |false=>simp
 |true=>
  simp only[vaa,vcZ,vaD,if_false,vbl]
  rw[vbr]
  simp only[vb7]
  cases s.all jU<;>simp
theorem zE(s:ah)(i:Nat)(h:i<s.length):gW s i=some (!gb s[i]):=by
 unfold gW gb
 simp only[lO s i h,vaa,p7,As,xc]
 cases dp (s[i].toNat:Int)<;>cases fc (s[i].toNat:Int)<;>simp
theorem Ls(s:ah)(i:Nat)(h:i<s.length):ml s i=some (!gb s[i]):=by
 unfold ml gb
 simp only[lO s i h,vaa,mm,wt,vo]
 cases dp (s[i].toNat:Int)<;>cases fc (s[i].toNat:Int)<;>simp
theorem qU(s:ah)(hs:Sk s):gG s=some (s.all gb):=by
 unfold gG kI
 have:=kn s hs (λzz=>er s zz) (λb=>!gb b) (.inl ()) (.inr ()) (λj h=>by
  simp only[er]
  rw[vad (by simp;omega),zE s j h]
  simp only[vaa]
  split<;>simp_all) (by simp only[er];rw[vab (by simp)]) 0 (vaX _)
 simp only[Int.ofNat_zero,vbc]at this
 rw[this,vbr]
 simp only[vb7]
 cases s.all gb<;>rfl
theorem IB(s:ah)(hs:Sk s):p9 s=some (!(me s&&eG fc s&&s.all gb)):=by
 unfold p9
 rw[xe]
 simp only[vaa]
 by_cases h:me s=true
 ·obtain⟨c,r,rfl⟩:=Ku h
  simp only[h,oW,vaa,As,qU _ hs,eG]
  cases fc (c.toNat:Int)<;>simp
 ·simp[h]
theorem Nz(s:ah)(hs:Sk s):y1 s=some (jf s):=by
 unfold y1 jf
 rw[IB s hs]
 simp only[vaa]
 cases(me s&&eG fc s&&s.all gb)<;>cases(s==[73,110,116])<;>cases(s==[66,111,111,108])<;>cases(s==[67,101,108,108])<;>cases(s==[70,117,110])<;>rfl
theorem Lr(s:ah):vg s=some (!(me s&&eG fc s&&!(s==[73,110,116])&&!(s==[66,111,111,108])&&!(s==[67,101,108,108])&&!(s==[70,117,110]))):=by
 unfold vg me
 cases s with
 |nil=>simp
 | cons c r =>
  have h1:¬(((c::r).length:Int)<1):=by simp;omega
  have h2:(((c::r).length:Int)>=1):=by omega
  simp only[h1,h2,decide_false,decide_true,vbl,vaD,if_false,oW,vaa,wt,eG]
  by_cases h:(((c::r).length:Int)>24)
  ·have h':¬(((c::r).length:Int)<=24):=by omega
   simp only[h,h',decide_true,decide_false,if_true]
   simp
  ·have h':(((c::r).length:Int)<=24):=by omega
   simp only[h,h',decide_true,decide_false,if_false,vaD]
   cases fc (c.toNat:Int)<;>cases(c::r==[73,110,116])<;>cases(c::r==[66,111,111,108])<;>cases(c::r==[67,101,108,108])<;>cases(c::r==[70,117,110])<;>rfl
theorem Lt(s:ah)(hs:Sk s):vj s s.length 0=some (if s.any (λb=>!gb b)=true then .inl ()else .inr ()):=by
 unfold vj
 have:=kn s hs (λzz=>pq s s.length zz) (λb=>!gb b) (.inl ()) (.inr ()) (λj h=>by
  simp only[pq]
  rw[vad (by simp;omega),Ls s j h]
  simp only[vaa]
  split<;>simp_all) (by simp only[pq];rw[vab (by simp)]) 0 (vaX _)
 simpa using this
theorem Qy(s:ah)(hs:Sk s):zZ s=some (Ai (jf s)):=by
 unfold zZ
 rw[Lr,Lt s hs]
 unfold jf Ai
 rw[vbr]
 simp only[vb7]
 cases(me s&&eG fc s)<;>cases s.all gb<;>cases(s==[73,110,116])<;>cases(s==[66,111,111,108])<;>cases(s==[67,101,108,108])<;>cases(s==[70,117,110])<;>rfl
theorem Y5(b:UInt8):((b.toNat:Int)==46)=(b==46):=by
 rw[vcg]
 simp only[va9]
 constructor
 ·intro h
  have:b.toNat=46:=by omega
  exact UInt8.toNat_inj.1 this
 ·rintro rfl;rfl
def jV:ah->List ah
 |[]=>[[]]
 |c::r=>if(c==46)=true then[]::jV r else match jV r with
  |[]=>[[c]]
  |h::t=>(c::h)::t
def IN(p:ah):List ah->List ah
 |[]=>[p]
 |h::t=>(p++h)::t
theorem vH:∀(s:ah),jV s≠[]
 |[]=>by simp[jV]
 | c :: r => by
  unfold jV
  split
  ·simp
  ·split<;>simp
theorem JJ(c:UInt8)(r:ah)(h:¬(c==46)=true):jV (c::r)=IN [c] (jV r):=by
 conv=>lhs;unfold jV
 rw[vab h]
 cases jV r<;>rfl
theorem P9(p q:ah)(l:List ah):IN p (IN q l)=IN (p++q) l:=by cases l<;>simp[IN]
theorem N0{l:List ah}(h:l≠[]):IN [] l=l:=by cases l with
 |nil=>exact absurd rfl h
 |cons=>rfl
theorem M1:∀(p s:ah),p.all (λc=>!(c==46))=true->jV (p++s)=IN p (jV s)
 |[],s,_=>(N0 (vH s)).symm
 |c::p,s,h=>by
  rw[List.all_cons,vaf]at h
  rw[vaL,JJ _ _ (by simpa using h.1),M1 p s h.2,P9]
  rfl
theorem M2:∀(s:ah),(jV s).length<=s.length+1/\∀x∈jV s,x.length<=s.length
 |[]=>by simp[jV]
 | c :: r => by
  obtain⟨h1,h2⟩:=M2 r
  by_cases h:(c==46)=true
  ·unfold jV
   rw[vad h]
   refine⟨by simp;omega,λx hx=>?_⟩
   rw[vaF]at hx
   rcases hx with rfl|hx
   ·simp
   ·have:=h2 x hx;simp;omega
  ·rw[JJ c r h]
   cases hd:jV r with
   |nil=>exact absurd hd (vH r)
   | cons a t =>
    rw[hd]at h1 h2
    refine⟨by simpa[IN]using Nat.le_succ_of_le h1,λx hx=>?_⟩
    simp only[IN,vaF]at hx
    rcases hx with rfl|hx
    ·have:=h2 a (by simp);simp;omega
    ·have:=h2 x (by simp[hx]);simp;omega
def mV(s:ah):ah×ah×Bool:=match s.findIdx? (λc=>c==46)with
 |some j=>(s.take j,s.drop (j+1),true)
 |none=>(s,[],false)
theorem Iw(s:ah)(hs:Sk s):Au s=some (mV s):=by
 unfold Au BF
 have:=PW s hs (λzz=>lR s zz) (λc=>c==46) (λj=>Sum.inl (s.take j,s.drop (j+1))) (Sum.inr ()) (λi h=>by
  simp only[lR]
  rw[vad (by simp;omega),lO s i h]
  simp only[vaa,Y5]
  by_cases hd:(s[i]==46)=true
  ·rw[vad hd,vad hd,qaN s i (by omega)]
   have hs':s.length<9223372036854775808:=hs
   have e:dU ((i:Int)+1)=((i+1:Nat):Int):=by rw[cW (by omega) (by omega)];omega
   rw[e]
   simp only[vaa,Ey s (i+1) (by omega)]
  ·rw[vab hd,vab hd]) (by simp only[lR];rw[vab (by simp)])
 rw[this]
 unfold mV
 cases s.findIdx? (λc=>c==46)<;>rfl
theorem SM(s:ah):jV s=if(mV s).2.2=true then(mV s).1::jV (mV s).2.1 else[(mV s).1]:=by
 unfold mV
 cases h:s.findIdx? (λc=>c==46)with
 |none=>
  rw[vbu]at h
  have:=M1 s [] (by simp only[vak,vaZ];exact h)
  rw[vaC]at this
  simp only[vaD,if_false]
  rw[this]
  simp[jV,IN]
 | some j =>
  rw[vbb]at h
  obtain⟨hj,h1,h2⟩:=h
  have e:s=s.take j++s[j]::s.drop (j+1):=by
   conv=>lhs;rw[<-vbD j s]
   rw[vaI hj]
  have:=M1 (s.take j) (s[j]::s.drop (j+1)) (by
   simp only[vak,vaZ]
   intro x hx
   obtain⟨i,hi,rfl⟩:=vcO hx
   rw[List.getElem_take]
   have hi':i<j:=by simp at hi;omega
   simpa using h2 i hi')
  rw[<-e]at this
  simp only[if_true]
  rw[this]
  conv=>lhs;arg 2;unfold jV
  rw[vad h1]
  simp[IN]
theorem SJ(s:ah):(mV s).1.length<=s.length/\(mV s).2.1.length<=s.length/\((mV s).2.2=true->(mV s).2.1.length<s.length):=by
 unfold mV
 cases h:s.findIdx? (λc=>c==46)with
 |none=>simp
 |some j=>
  rw[vbb]at h
  obtain⟨hj,_⟩:=h
  simp
  omega
def Ub(p:ah):Bool:=(p.isEmpty||eG dp p)&&p.all jU
def lP(p:ah):Bool:=me p&&(p.all gb||Ub p)
theorem Qe{α X:Type}(p:Nat->α->Bool)(q:α->Bool)(y e:X)(k:Nat)(h:∀i x,k<=i->p i x=q x):∀(l:List α) (i:Nat),k<=i->qq (λi x (_:Unit)=>if p i x=true then Sum.inr y else .inl ()) (λ_=>e) l i ()=if l.any q=true then y else e
 |[],i,_=>by simp[qq]
 | x :: l,i,hk => by
  have ih:=Qe p q y e k h l (i+1) (by omega)
  unfold qq
  rw[h i x hk]
  by_cases hq:q x=true
  ·simp[hq]
  ·simp only[hq,if_false,ih,List.any_cons,vb1,vaD]
theorem J9(s:ah)(i:Nat)(h:i<s.length):sy s i=some (if i=0 then !dp s[i].toNat else !jU s[i]):=by
 unfold sy jU
 simp only[lO s i h,vaa,p7,xc]
 by_cases h0:i=0
 ·subst h0
  cases dp ((s[0]).toNat:Int)<;>simp
 ·have:((i:Int)==0)=false:=by simp;omega
  simp only[this,vab h0]
  cases dp (s[i].toNat:Int)<;>cases jX (s[i].toNat:Int)<;>simp[bne]
theorem O8(s:ah)(hs:Sk s):BH s=some (Ub s):=by
 unfold BH zG
 have:=wY s hs (λi (_:Unit)=>i) (λzz=>ko s zz) (λ_ _=>True) (λi x _=>if(if i=0 then !dp x.toNat else !jU x)=true then .inr (.inl ())else .inl ()) (λ_=>.inr ()) (λi h t _=>⟨by
  simp only[ko]
  rw[vad (by simp;omega),J9 s i h]
  simp only[vaa]
  cases(if i=0 then !dp s[i].toNat else !jU s[i])<;>rfl,λ_ _=>trivial⟩) (λt _=>by simp only[ko];rw[vab (by simp)]) 0 () (vaX _) trivial
 simp only[Int.ofNat_zero,vbc]at this
 rw[this]
 cases s with
 |nil=>rfl
 | cons c r =>
  unfold qq Ub eG
  simp only[if_true,List.isEmpty_cons,vb1,List.all_cons]
  by_cases hc:dp c.toNat=true
  ·have:=Qe (X:=Unit⊕Unit) (λi (x:UInt8)=>if i=0 then !dp x.toNat else !jU x) (λx=>!jU x) (.inl ()) (.inr ()) 1 (λi x hi=>by rw[vab (by omega)]) r 1 (vaw _)
   simp only[hc,vcZ,vaD,if_false,Qj hc,vbl,vaT]
   rw[this,vbr]
   simp only[vb7]
   cases r.all jU<;>rfl
  ·simp[hc]
theorem JX(p:ah)(hs:Sk p):sm p=some (!lP p):=by
 unfold sm lP
 rw[xe,qU p hs,O8 p hs]
 cases me p<;>cases p.all gb<;>simp
theorem uT(r:ah):gq r false=some (.inr ()):=ik rfl
theorem wZ:∀(k:Nat) (r:ah),r.length<k->Sk r->gq r true=some (if(!(jV r).all lP)=true then .inl ()else .inr ())
 |0,r,hk,_=>absurd hk (by omega)
 | k + 1,r,hk,hs => by
  obtain⟨c1,c2,c3⟩:=SJ r
  have hs':r.length<9223372036854775808:=hs
  have hb:il r true=some (if(!lP (mV r).1)=true then .inr (.inl ())else .inl ((mV r).2.1,(mV r).2.2)):=by
   simp only[il,if_true,Iw r hs,vaa]
   rw[JX _ (show _<_ by omega)]
   simp only[vaa]
   cases lP (mV r).1<;>rfl
  rw[SM r]
  unfold gq
  by_cases hp:lP (mV r).1=true
  ·rw[hp]at hb
   refine(wn (body:=λzz:ah×Bool=>il zz.1 zz.2) (s:=(r,true)) (s':=((mV r).2.1,(mV r).2.2)) hb).trans ?_
   cases hm:(mV r).2.2 with
   |false=>
    have:=uT (mV r).2.1
    unfold gq at this
    rw[this]
    simp[hp]
   |true=>
    have c4:=c3 hm
    have:=wZ k (mV r).2.1 (by omega) (show _<_ by omega)
    unfold gq at this
    rw[this]
    simp[hp]
  ·have hp':lP (mV r).1=false:=by simpa using hp
   rw[hp']at hb
   refine(ik (body:=λzz:ah×Bool=>il zz.1 zz.2) (s:=(r,true)) hb).trans ?_
   cases(mV r).2.2<;>simp[hp']
theorem JZ(r:ah)(more:Bool)(hs:Sk r):gq r more=some (if(more&&!(jV r).all lP)=true then .inl ()else .inr ()):=by
 cases more with
 |false=>exact uT r
 |true=>exact wZ (r.length+1) r (by omega) hs
def aY(s:ah):Bool:=decide (s.length<=120)&&match jV s with
 |[]=>false
 |f::r=>(mW f||jf f||(f==[118]&&!r.isEmpty))&&r.all lP
theorem JV(f:ah)(hf:Sk f)(more:Bool):sk f more=some (!(mW f||jf f||(f==[118]&&more))):=by
 unfold sk
 rw[O7 f hf,Nz f hf]
 simp only[vaa]
 cases mW f<;>cases jf f<;>cases(f==[118])<;>simp
theorem nu(s:ah):lQ s=some (Ai (aY s)):=by
 unfold lQ aY Ai
 by_cases h:s.length<=120
 ·have h1:¬((s.length:Int)>120):=by omega
  obtain⟨c1,c2,c3⟩:=SJ s
  simp only[h1,h,decide_false,decide_true,vaD,if_false,vbl,Iw s (show _<_ by omega),vaa]
  rw[JV _ (show _<_ by omega),JZ _ _ (show _<_ by omega),SM s]
  simp only[vaa]
  cases hm:(mV s).2.2 with
  |false=>
   by_cases hn:mW (mV s).1=true<;>by_cases ht:jf (mV s).1=true<;>simp[hn,ht]
  | true =>
   have:(jV (mV s).2.1).isEmpty=false:=by
    cases hd:jV (mV s).2.1 with
    |nil=>exact absurd hd (vH _)
    |cons=>rfl
   simp only[this,if_true,Bool.not_false,Bool.and_true,vbl]
   cases(mW (mV s).1||jf (mV s).1||(mV s).1==[118])<;>cases(jV (mV s).2.1).all lP<;>simp
 ·have h1:((s.length:Int)>120):=by omega
  simp[h1,h]
theorem zp(s:ah):∀(r:ah) (i b:Nat) (out o:List ah) (b':Nat),s.drop i=r->i+r.length=s.length->b<=i->((s.take i).drop b).all (λc=>!(c==46))=true->
  qq (λi x (t:List ah×Nat)=>if(x==46)=true then(Sum.inl (t.1++[(s.take i).drop t.2],i+1):(List ah×Nat)⊕(List ah×Nat))else .inl t) (λt=>t) r i (out,b)=(o,b')->
  b'<=s.length/\o++[s.drop b']=out++IN ((s.take i).drop b) (jV r)
 |[],i,b,out,o,b',h1,h2,h3,h4,h=>by
  simp only[qq,Prod.mk.injEq]at h
  obtain⟨rfl,rfl⟩:=h
  have:i=s.length:=by simpa using h2
  subst this
  simp[jV,IN,h3]
 | c :: r,i,b,out,o,b',h1,h2,h3,h4,h => by
  have hi:i<s.length:=by simp at h2;omega
  rw[vaI hi]at h1
  injection h1 with h1a h1b
  unfold qq at h
  by_cases hc:(c==46)=true
  ·simp only[hc,if_true]at h
   have ih:=zp s r (i+1) (i+1) _ o b' h1b (by simp at h2;omega) (vaw _) (by simp) h
   refine⟨ih.1,?_⟩
   rw[ih.2]
   have e:(s.take (i+1)).drop (i+1)=[]:=by simp
   rw[e,N0 (vH r)]
   conv=>rhs;arg 2;arg 2;unfold jV
   rw[vad hc]
   simp[IN]
  ·simp only[hc,if_false,vaD]at h
   have e:(s.take (i+1)).drop b=(s.take i).drop b++[c]:=by
    rw[vay hi,List.drop_append_of_le_length (by simp;omega),h1a]
   have ih:=zp s r (i+1) b _ o b' h1b (by simp at h2;omega) (by omega) (by rw[e,List.all_append,h4];simpa using hc) h
   refine⟨ih.1,?_⟩
   rw[ih.2,e,JJ c r hc,P9]
theorem qcy{α:Type}(l:List α)(a b:Nat)(h:a<=b)(h2:b<=l.length):Sa l (some (a:Int)) (some (b:Int))=some ((l.take b).drop a):=by
 simp[Sa,bd,h,h2]
theorem Qz(s:ah)(hs:s.length<=1000000):z6 s=some (jV s):=by
 unfold z6 Bl
 have:=wY s (by omega) (λi (t:List ah×Nat)=>(t.1,(t.2:Int),i)) (λzz=>fG s s.length zz.1 zz.2.1 zz.2.2) (λi t=>t.2<=i/\t.1.length<=i)
  (λi x (t:List ah×Nat)=>if(x==46)=true then(Sum.inl (t.1++[(s.take i).drop t.2],i+1):(List ah×Nat)⊕(List ah×Int))else .inl t) (λt=>(t.1,(t.2:Int))) (λi h t hI=>by
   refine⟨?_,λt' ht=>?_⟩
   ·simp only[fG]
    rw[vad (by simp;omega),lO s i h]
    simp only[vaa,Y5]
    by_cases hd:(s[i]==46)=true
    ·rw[vad hd,vad hd,qcy s _ _ hI.1 (by omega)]
     simp only[vaa]
     rw[pK (by simp;omega)]
     have e:dU ((i:Int)+1)=((i+1:Nat):Int):=by rw[cW (by omega) (by omega)];omega
     rw[e]
     rfl
    ·rw[vab hd,vab hd]
   ·by_cases hd:(s[i]==46)=true
    ·rw[vad hd]at ht;cases ht;simp;omega
    ·rw[vab hd]at ht;cases ht;omega) (λt _=>by simp only[fG];rw[vab (by simp)]) 0 ([],0) (vaX _) ⟨vaw _,vaw _⟩
 simp only[Int.ofNat_zero,vbc]at this
 rw[this]
 obtain⟨o,b',hr⟩:∃o b',qq (λi x (t:List ah×Nat)=>if(x==46)=true then(Sum.inl (t.1++[(s.take i).drop t.2],i+1):(List ah×Nat)⊕(List ah×Nat))else .inl t) (λt=>t) s 0 ([],0)=(o,b'):=⟨_,_,rfl⟩
 have key:∀(l:ah) (i:Nat) (t:List ah×Nat),qq (λi x (t:List ah×Nat)=>if(x==46)=true then(Sum.inl (t.1++[(s.take i).drop t.2],i+1):(List ah×Nat)⊕(List ah×Int))else .inl t) (λt=>(t.1,(t.2:Int))) l i t=
   ((qq (λi x (t:List ah×Nat)=>if(x==46)=true then(Sum.inl (t.1++[(s.take i).drop t.2],i+1):(List ah×Nat)⊕(List ah×Nat))else .inl t) (λt=>t) l i t).1,
    ((qq (λi x (t:List ah×Nat)=>if(x==46)=true then(Sum.inl (t.1++[(s.take i).drop t.2],i+1):(List ah×Nat)⊕(List ah×Nat))else .inl t) (λt=>t) l i t).2:Int)):=by
  intro l
  induction l with
  |nil=>intro i t;rfl
  | cons x l ih =>
   intro i t
   unfold qq
   by_cases hx:(x==46)=true
   ·simp only[hx,if_true,ih]
   ·simp only[hx,if_false,ih,vaD]
 rw[key,hr]
 obtain⟨h1,h2⟩:=zp s s 0 0 [] o b' rfl (by simp) (vaw _) (by simp) hr
 simp only[vaa]
 rw[Ey s b' h1]
 simp only[vaa]
 have hd:=(M2 s).1
 have h3:o++[s.drop b']=jV s:=by rw[h2];simp[N0 (vH s)]
 have h4:o.length+1=(jV s).length:=by rw[<-h3];simp
 rw[pK (by simp;omega),h3]
 rfl
theorem MA(p:ah)(plain:Bool)(i:Nat)(h:i<p.length):sP p plain i=some (plain&&gb p[i]):=by
 unfold sP gb
 simp only[lO p i h,vaa,mm,wt,vo]
 cases plain<;>cases dp (p[i].toNat:Int)<;>cases fc (p[i].toNat:Int)<;>simp
theorem HG:∀(l:ah) (i:Nat) (a b:Bool),qq (λ_ (x:UInt8) (t:Bool×Bool)=>(Sum.inl (t.1&&gb x,t.2&&jU x):(Bool×Bool)⊕(Bool×Bool))) (λt=>t) l i (a,b)=(a&&l.all gb,b&&l.all jU)
 |[],i,a,b=>by simp[qq]
 |x::l,i,a,b=>by
  unfold qq
  simp only[HG l,List.all_cons,Bool.and_assoc]
theorem MB(p:ah)(hp:Sk p)(a b:Bool):yn p p.length a b 0=some (a&&p.all gb,b&&p.all jU):=by
 unfold yn
 have:=wY p hp (λi (t:Bool×Bool)=>(t.1,t.2,i)) (λzz=>gn p p.length zz.1 zz.2.1 zz.2.2) (λ_ _=>True) (λ_ x t=>.inl (t.1&&gb x,t.2&&jU x)) (λt=>t) (λi h t _=>⟨by
  simp only[gn]
  rw[vad (by simp;omega),MA p _ i h]
  simp only[vaa,lO p i h,mm,vo,jU]
  cases t.2<;>cases dp (p[i].toNat:Int)<;>cases jX (p[i].toNat:Int)<;>simp,λ_ _=>trivial⟩) (λt _=>by simp only[gn];rw[vab (by simp)]) 0 (a,b) (vaX _) trivial
 simp only[Int.ofNat_zero,vbc]at this
 rw[this,HG]
theorem Su(p:ah)(hp:Sk p):Dt p=some (lP p):=by
 unfold Dt Du lP me
 cases p with
 |nil=>simp
 | cons c r =>
  have h1:¬(((c::r).length:Int)<1):=by simp;omega
  have h2:(((c::r).length:Int)>=1):=by omega
  simp only[h1,h2,decide_false,decide_true,vbl,vaD,if_false,oW,vaa,mm,MB _ hp,Ub,eG,List.isEmpty_cons,vb1]
  by_cases h:(((c::r).length:Int)>24)
  ·have h':¬(((c::r).length:Int)<=24):=by omega
   simp only[h,h',decide_true,decide_false,if_true]
   simp
  ·have h':(((c::r).length:Int)<=24):=by omega
   simp only[h,h',decide_true,decide_false,if_false,vaD,vbl]
   cases(c::r).all gb<;>simp
theorem My(f:ah)(r:List ah)(hf:Sk f):sN (f::r)=some (!(mW f||jf f||(f==[118]&&!r.isEmpty))):=by
 unfold sN
 simp only[ep,vaa,Qx f hf,Qy f hf]
 have e:(((f::r).length:Int)==1)=r.isEmpty:=by
  cases r with
  |nil=>rfl
  |cons a r=>simp;omega
 rw[e]
 unfold Ai
 cases mW f<;>cases jf f<;>cases(f==[118])<;>simp
theorem S4{s f:ah}{r:List ah}(h:s.length<=120)(hd:jV s=f::r):aY s=((mW f||jf f||(f==[118]&&!r.isEmpty))&&r.all λx=>lP x):=by
 unfold aY
 rw[hd]
 simp only[h,decide_true,vbl]
theorem lD(s:ah):io s=some (Ai (aY s)):=by
 unfold io
 by_cases h:s.length<=120
 ·have h1:¬((s.length:Int)>120):=by omega
  simp only[h1,h,decide_false,decide_true,vaD,if_false,vbl,Qz s (by omega),vaa]
  obtain⟨d1,d2⟩:=M2 s
  cases hd:jV s with
  |nil=>exact absurd hd (vH s)
  | cons f r =>
   rw[hd]at d1 d2
   rw[S4 h hd]
   rw[My f r (show _<_ by have:=d2 f (by simp);omega)]
   have hl:r.length<9223372036854775808:=by simp at d1;omega
   have:=kn r hl (λzz=>rW r r.length zz) (λx=>!lP x) (.inl ()) (.inr ()) (λj hj=>by
    simp only[rW]
    have hm:r[j]∈f::r:=by simp
    rw[vad (by simp;omega),aM r j hj]
    simp only[vaa]
    rw[Su _ (show _<_ by have:=d2 _ hm;omega)]
    simp only[vaa]
    split<;>simp_all) (by simp only[rW];rw[vab (by simp)]) 0 (vaX _)
   have e1:Sa (f::r) (some 1) none=some r:=by
    have:=Ey (f::r) 1 (by simp)
    simpa using this
   simp only[Int.ofNat_zero,vbc]at this
   simp only[vaa,e1,Dn,this,vbr,vb7]
   unfold Ai
   cases(mW f||jf f||(f==[118]&&!r.isEmpty))<;>cases r.all (λx=>lP x)<;>rfl
 ·have h1:((s.length:Int)>120):=by omega
  have h2:aY s=false:=by unfold aY;simp[h]
  simp[h1,h2,Ai]
section
variable{α β σ τ X Y:Type}
theorem Nw(l:List α)(hl:l.length<9223372036854775808)(mk:Int->τ)(body:τ->Option (τ⊕X))(p:α->Bool)(y:Nat->X)(e:X)
  (hin:∀(i:Nat) (h:i<l.length),body (mk (i:Int))=some (if p l[i]=true then .inr (y i)else .inl (mk (dU ((i:Int)+1))))) (hend:body (mk l.length)=some (.inr e)):loop body (mk 0)=some ((l.findIdx? p).elim e y):=by
 have key:∀k i,k+i=l.length->loop body (mk (i:Int))=some (((l.drop i).findIdx? p).elim e (λj=>y (i+j))):=by
  intro k
  induction k with
  |zero=>
   intro i hi
   have:i=l.length:=by omega
   subst this
   rw[jh,hend,vbN]
   rfl
  | succ k ih =>
   intro i hi
   rw[jh,hin i (by omega),vaI (by omega),vcY]
   by_cases h:p l[i]=true
   ·simp[h]
   ·simp only[h,if_false,vaD]
    rw[cW (by omega) (by omega),show((i:Int)+1)=((i+1:Nat):Int) by omega,ih (i+1) (by omega)]
    cases(l.drop (i+1)).findIdx? p with
    |none=>rfl
    |some j=>simp only[vaj,Option.elim];congr 2;omega
 have:=key l.length 0 (by omega)
 rw[vbc]at this
 simpa using this
theorem jT{A:Type}(l:List α)(hl:l.length<9223372036854775808){body:Int->Option (Int⊕(A⊕Unit))}(k:Int->α->Option (Int⊕(A⊕Unit)))(P:α->Prop)(B:A->Prop)
  (hb:∀(i:Int),body i=if decide (i<(l.length:Int))=true then(dh l i).bind (k i)else some (.inr (.inr ())))
  (hk:∀x∈l,∀i,gu (k i x) (λr=>r.elim (λt=>t=dU (i+1)/\P x) (λy=>y.elim B (λ_=>False)))):gu (loop body 0) (λr=>r.elim B (λ_=>∀x∈l,P x)):=by
 refine Yi l hl k (.inr ()) (λi=>∀j (h:j<l.length),j<i->P l[j]) hb (λi hi hI=>(hk _ (vah hi) i).mono λr hr=>?_) (λhI x hx=>?_) (λj _ h=>absurd h (va5 _))
 ·cases r with
  | inl t =>
   refine⟨hr.1,λj hj h=>?_⟩
   by_cases he:j=i
   ·subst he;exact hr.2
   ·exact hI j hj (by omega)
  |inr y=>cases y with
   |inl a=>exact hr
   |inr u=>exact hr.elim
 ·obtain⟨j,hj,rfl⟩:=vcO hx
  exact hI j hj hj
end
theorem T6{X:Type}(n:Nat)(hn:n<9223372036854775808){body:Int->Option (Int⊕X)}(k:Int->Option (Int⊕X))(e:X)(hb:∀i:Int,body i=if decide (i<(n:Int))=true then k i else some (.inr e))
  (hk:∀i:Nat,i<n->gu (k (i:Int)) (λr=>match r with|.inl t=>t=dU ((i:Int)+1)|.inr _=>True)):gu (loop body 0) (λ_=>True):=by
 have e1:(List.replicate n ()).length=n:=List.length_replicate
 refine Fq (List.replicate n ()) (by omega) (λi (_:Unit)=>i) (λ_ _=>True) (λi hi s _=>?_) (λs _=>?_) () trivial
 ·rw[e1]at hi
  rw[hb,vad (vaP (by omega))]
  exact(hk i hi).mono λr hr=>by
   cases r with
   |inl t=>exact⟨(),hr,vzz⟩
   |inr _=>trivial
 ·rw[hb,vab (by rw[e1];simp)]
  exact am vzz
theorem wr(c:Int):gu (ku c) (λ_=>True):=by unfold ku;exact aD (λ_=>am vzz) (λ_=>am vzz)
theorem EY(c:Int):gu (oO c) (λ_=>True):=by unfold oO;exact aD (λ_=>am vzz) (λ_=>am vzz)
theorem DS(c:Int):gu (lE c) (λ_=>True):=by unfold lE;exact aD (λ_=>am vzz) (λ_=>am vzz)
theorem iw{s:ah}{i:Nat}(h:i<s.length):gu (jF s (i:Int)) (λ_=>True):=Vg (lO s i h) trivial
theorem Am{s:ah}(h:0<s.length):gu (jF s 0) (λ_=>True):=iw (i:=0) h
theorem Ta(s:ah):gu (sO s) (λ_=>True):=by
 unfold sO
 exact aA (R:=λl=>l.length<9223372036854775808) ⟨_,rfl,by decide⟩ (λl hl=>dJ (Do l s hl) (am vzz))
theorem Ut{s:ah}{i:Nat}(h:i<s.length):gu (mi s i) (λ_=>True):=by
 unfold mi
 exact aA (iw h) λ_ _=>aA (wr _) λ_ _=>aD (λ_=>aA (iw h) λ_ _=>aA (EY _) λ_ _=>aD (λ_=>aA (iw h) λ_ _=>am vzz) λ_=>am vzz) λ_=>am vzz
theorem WK(s:ah):gu (zY s) (λ_=>True):=by
 unfold zY
 refine aA (R:=λo=>o=true\/s.length<=24) ?_ λo ho=>aD (λ_=>am vzz) λhn=>?_
 ·unfold vb
  refine aD (λ_=>am (.inl rfl)) λh1=>aD (λ_=>am (.inl rfl)) λh2=>?_
  rw[var]at h1 h2
  exact aA (Am (by omega)) λ_ _=>aA (wr _) λ_ _=>aD (λ_=>am (.inl rfl)) λ_=>aA (Ta s) λ_ _=>am (.inr (by omega))
 ·have hs:s.length<=24:=ho.resolve_left hn
  unfold vd
  refine aA (T6 s.length (by omega) (λi=>(mi s i).bind λo=>if o=true then some (.inr (.inl ()))else some (.inl (dU (i+1)))) (.inr ()) (λi=>rfl) λi hi=>aA (Ut hi) λ_ _=>aD (λ_=>am vzz) λ_=>am rfl) λo _=>?_
  cases o<;>exact am vzz
theorem Vf{s:ah}{i:Nat}(h:i<s.length):gu (ml s i) (λ_=>True):=by
 unfold ml
 exact aA (iw h) λ_ _=>aA (wr _) λ_ _=>aD (λ_=>aA (iw h) λ_ _=>aA (DS _) λ_ _=>aD (λ_=>aA (iw h) λ_ _=>aA (EY _) λ_ _=>am vzz) λ_=>am vzz) λ_=>am vzz
theorem WM(s:ah):gu (zZ s) (λ_=>True):=by
 unfold zZ
 refine aA (R:=λo=>o=true\/s.length<=24) ?_ λo ho=>aD (λ_=>am vzz) λhn=>?_
 ·unfold vg
  refine aD (λ_=>am (.inl rfl)) λh1=>aD (λ_=>am (.inl rfl)) λh2=>?_
  rw[var]at h1 h2
  have h3:s.length<=24:=by omega
  exact aA (Am (by omega)) λ_ _=>aA (DS _) λ_ _=>aD (λ_=>am (.inl rfl)) λ_=>aD (λ_=>am (.inl rfl)) λ_=>aD (λ_=>am (.inl rfl)) λ_=>aD (λ_=>am (.inl rfl)) λ_=>am (.inr h3)
 ·have hs:s.length<=24:=ho.resolve_left hn
  unfold vj
  refine aA (T6 s.length (by omega) (λi=>(ml s i).bind λo=>if o=true then some (.inr (.inl ()))else some (.inl (dU (i+1)))) (.inr ()) (λi=>rfl) λi hi=>aA (Vf hi) λ_ _=>aD (λ_=>am vzz) λ_=>am rfl) λo _=>?_
  cases o<;>exact am vzz
theorem XM{s:ah}(b:Bool){i:Nat}(h:i<s.length):gu (sP s b i) (λ_=>True):=by
 unfold sP
 exact aD (λ_=>aA (iw h) λ_ _=>aA (wr _) λ_ _=>aD (λ_=>am vzz) λ_=>aA (iw h) λ_ _=>aA (DS _) λ_ _=>aD (λ_=>am vzz) λ_=>aA (iw h) λ_ _=>aA (EY _) λ_ _=>am vzz) λ_=>am vzz
theorem Z0(s:ah):gu (Dt s) (λ_=>True):=by
 unfold Dt
 refine aA (R:=λo=>o=true\/(0<s.length/\s.length<=24)) ?_ λo ho=>aD (λ_=>am vzz) λhn=>?_
 ·unfold Du
  refine aD (λ_=>am (.inl rfl)) λh1=>am ?_
  rw[var]at h1
  by_cases h2:(s.length:Int)>24
  ·exact .inl (vaP h2)
  ·exact .inr ⟨by omega,by omega⟩
 ·obtain⟨h0,hs⟩:=ho.resolve_left hn
  refine aA (Am h0) λ_ _=>aA (wr _) λr6 _=>?_
  unfold yn
  refine aA (R:=λ_=>True) (Fq s (by omega) (λi (z:Bool×Bool)=>(z.1,z.2,i)) (λ_ _=>True) (λi hi z _=>?_) (λz _=>?_) (true,r6) trivial) λo _=>aD (λ_=>am vzz) λ_=>am vzz
  ·show gu (gn s s.length z.1 z.2 i) _
   unfold gn
   rw[vad (vaP (by omega))]
   exact aA (XM _ hi) λo _=>aD (λ_=>aA (iw hi) λ_ _=>aA (wr _) λ_ _=>aD (λ_=>am ⟨(o,true),rfl,vzz⟩) λ_=>aA (iw hi) λ_ _=>aA (EY _) λ_ _=>aD (λ_=>am ⟨(o,true),rfl,vzz⟩) λ_=>aA (iw hi) λc _=>am ⟨(o,c==95),rfl,vzz⟩) λ_=>am ⟨(o,false),rfl,vzz⟩
  ·show gu (gn s s.length z.1 z.2 s.length) _
   unfold gn
   rw[vab (by simp)]
   exact am vzz
theorem T1{α:Type}(l:List α)(a b:Nat)(h:a<=b)(h2:b<=l.length):Sa l (some (a:Int)) (some (b:Int))=some ((l.take b).drop a):=by
 simp[Sa,bd,h,h2]
theorem XN(s:ah)(hs:s.length<=120):gu (z6 s) (λl=>l≠[]/\l.length<=121):=by
 unfold z6 Bl
 refine aA (R:=λo=>o.1.length<=s.length/\∃b:Nat,o.2=(b:Int)/\b<=s.length) (Fq s (by omega) (λi (z:List ah×Int)=>(z.1,z.2,i)) (λi z=>z.1.length<=i/\∃b:Nat,z.2=(b:Int)/\b<=i) (λi hi z hz=>?_) (λz hz=>?_) ([],0) ⟨vaw _,0,rfl,vaw _⟩) λo ho=>?_
 ·obtain⟨out,bg⟩:=z
  obtain⟨h1,b,hb,hbi⟩:=hz
  simp only at h1 hb
  subst hb
  show gu (fG s s.length out b i) _
  unfold fG
  rw[vad (vaP (by omega))]
  refine aA (iw hi) λc _=>aD (λ_=>?_) λ_=>am ⟨(out,b),rfl,by simp only;omega,b,rfl,by omega⟩
  refine dJ (T1 s b i hbi (by omega)) (dJ (pK (by simp;omega)) (am ⟨(_,dU ((i:Int)+1)),rfl,by simp;omega,i+1,?_,vaw _⟩))
  simp only
  rw[cW (by omega) (by omega)]
  omega
 ·obtain⟨out,bg⟩:=z
  show gu (fG s s.length out bg s.length) _
  unfold fG
  rw[vab (by simp)]
  exact am hz
 ·obtain⟨h1,b,hb,hbi⟩:=ho
  rw[hb]
  exact dJ (Ey s b hbi) (dJ (pK (by simp;omega)) (am ⟨by simp,by simp;omega⟩))
theorem WY{v:List ah}(h:v≠[]):gu (sN v) (λ_=>True):=by
 obtain⟨x,r,rfl⟩:=vbB h
 unfold sN
 exact dJ (ep x r) (aA (WK x) λ_ _=>aD (λ_=>dJ (ep x r) (aA (WM x) λ_ _=>aD (λ_=>dJ (ep x r) (aD (λ_=>am vzz) λ_=>am vzz)) λ_=>am vzz)) λ_=>am vzz)
theorem YY:io []=some 3:=by kernel_rfl
theorem Ss(s:ah):gu (io s) (λr=>(r==0)=true->0<s.length):=by
 by_cases hs:s=[]
 ·subst hs
  exact Vg YY λh=>by simp at h
 have hp:0<s.length:=vcP.2 hs
 unfold io
 refine aD (λ_=>am λ_=>hp) λh1=>?_
 rw[var]at h1
 refine aA (XN s (by omega)) λl hl=>aA (WY hl.1) λ_ _=>aD (λ_=>am λ_=>hp) λ_=>?_
 have h2:1<=l.length:=vcP.2 hl.1
 refine dJ (Ey l 1 h2) ?_
 unfold Dn
 refine aA (jT (l.drop 1) (by simp;omega) _ (λ_=>True) (λ_=>True) (λi=>rfl) (λx hx i=>aA (Z0 x) λ_ _=>aD (λ_=>am vzz) λ_=>am ⟨rfl,vzz⟩)) λo _=>?_
 cases o<;>exact am λ_=>hp
theorem SI(s:ah)(b:Bool):gu (wv s b) (λ_=>True):=by
 unfold wv
 exact aA (Ss s) λr hr=>aD (λh=>aA (Am (hr h)) λ_ _=>aD (λ_=>aA (Am (hr h)) λ_ _=>am vzz) λ_=>am vzz) λ_=>am vzz
mutual
def nP:aa->Nat
 |⟨_,_,_,ks⟩=>nL ks+1
def nL:List aa->Nat
 |[]=>0
 |p::ps=>nP p+nL ps
end
theorem Ti(p:aa):nP p=nL p.Kids+1:=by obtain⟨o,n,k,ks⟩:=p;rw[nP];rfl
theorem ZI(p:aa):1<=nP p:=by rw[Ti];omega
theorem ZH:∀{l:List aa} {x:aa},x∈l->nP x<=nL l
 | y :: l,x,h => by
  rw[nL]
  rcases vaF.1 h with rfl|h
  ·omega
  ·have:=ZH h;omega
theorem UO:∀(l:List aa),l.length<=nL l
 |[]=>by simp[nL]
 |p::l=>by rw[nL];have:=UO l;have:=ZI p;simp only[vaM];omega
theorem pV{p x:aa}(h:x∈p.Kids):nP x<nP p:=by rw[Ti p];have:=ZH h;omega
theorem wX(p:aa):p.Kids.length<nP p:=by rw[Ti];have:=UO p.Kids;omega
theorem JU:∀(a b:List aa),nL (a++b)=nL a+nL b
 |[],b=>by simp[nL]
 |p::a,b=>by rw[vaL,nL,JU a b,nL];omega
mutual
theorem K3:∀(p:aa),nP p<=ff (ac p)
 |⟨o,n,k,ks⟩=>by
  have:=VX ks
  rw[nP,bU]
  simp only[ff,pm,sl]
  show nL ks+1<=1+(n.length+1+(1+(d8 (ks.map ac)+1+0)))
  omega
theorem VX:∀(l:List aa),nL l<=d8 (l.map ac)
 |[]=>by simp[nL]
 |p::l=>by
  have:=K3 p
  have:=VX l
  rw[nL]
  simp only[vae,d8]
  omega
end
mutual
def qiX:aa->aa->Bool
 |⟨o,n,k,ks⟩,⟨o',n',k',ks'⟩=>(o==o')&&((n==n')&&((k==k')&&qd3 ks ks'))
def qd3:List aa->List aa->Bool
 |[],[]=>true
 |x::xs,y::ys=>qiX x y&&qd3 xs ys
 |_,_=>false
end
mutual
theorem VD:∀(a b:aa),qiX a b=true↔a=b
 |⟨o,n,k,ks⟩,⟨o',n',k',ks'⟩=>by
  rw[qiX]
  have:=VC ks ks'
  simp only[vaf,va9,this,aa.mk.injEq]
theorem VC:∀(a b:List aa),qd3 a b=true↔a=b
 |[],[]=>by simp[qd3]
 |x::xs,y::ys=>by
  rw[qd3]
  have h1:=VD x y
  have h2:=VC xs ys
  simp only[vaf,h1,h2,vbH]
 |[],y::ys=>by simp[qd3]
 |x::xs,[]=>by simp[qd3]
end
instance:DecidableEq aa:=λa b=>decidable_of_iff _ (VD a b)
theorem W5(p:aa):(⟨p.Op,p.Name,p.N,p.Kids⟩:aa)=p:=by cases p;rfl
theorem A1{a b:aa}:a=b↔a.Op=b.Op/\a.Name=b.Name/\a.N=b.N/\a.Kids=b.Kids:=by
 cases a;cases b
 simp only[aa.mk.injEq]
 rfl
theorem WJ{α:Type}[DecidableEq α]:∀{a b:List α},a.length=b.length->(a.zip b).any (λx=>decide (x.1≠x.2))= !decide (a=b)
 |[],[],_=>by simp
 |x::a,y::b,h=>by
  have ih:=WJ (a:=a) (b:=b) (by simpa using h)
  rw[List.zip_cons_cons,List.any_cons,ih]
  by_cases h1:x=y<;>by_cases h2:a=b<;>simp[h1,h2]
theorem Ip{α X:Type}[DecidableEq α]{a b:List α}(hl:a.length=b.length)(ha:a.length<9223372036854775808)(body:Int->Option (Int⊕X))(y e:X)
  (hin:∀(i:Nat) (h:i<a.length) (h':i<b.length),body i=some (if decide (a[i]=b[i])=true then .inl (dU ((i:Int)+1))else .inr y)) (hend:body a.length=some (.inr e)):loop body 0=some (if decide (a=b)=true then e else y):=by
 have hz:(a.zip b).length=a.length:=by simp[hl]
 have:=kn (a.zip b) (by omega) body (λx=>decide (x.1≠x.2)) y e (λi h=>?_) (by rw[hz];exact hend) 0 (vaX _)
 ·rw[vbc,WJ hl]at this
  rw[show((0:Nat):Int)=0 from rfl]at this
  rw[this]
  by_cases h:a=b<;>simp[h]
 ·have h1:i<a.length:=by omega
  have h2:i<b.length:=by omega
  rw[hin i h1 h2]
  have hzi:(a.zip b)[i]=(a[i],b[i]):=by simp
  rw[hzi]
  by_cases h:a[i]=b[i]<;>simp[h]
abbrev cm:Nat:=1073741824
theorem iJ{n:Nat}(h:n<=cm):n<Uo:=by have:=qdW;unfold cm at h;omega
theorem Y8{R:aa->aa->Option Bool}{a b:List aa}(ha:a.length<=cm)(h:∀x∈a,∀y∈b,R x y=some (decide (x=y))):BO R a b=some (decide (a=b)):=by
 unfold BO
 by_cases hl:a.length=b.length
 ·rw[vab (by simp[hl])]
  unfold zH
  rw[Ip hl (by unfold cm at ha;omega) (λzz=>kp R a b (a.length:Int) zz) (.inl ()) (.inr ()) (λi h1 h2=>?_) ?_]
  ·by_cases he:a=b<;>simp[he]
  ·unfold kp
   rw[vab (by simp)]
  ·unfold kp
   rw[vad (by simp;omega),aM a i h1]
   simp only[vaa]
   rw[aM b i h2]
   simp only[vaa]
   rw[h _ (vah h1) _ (vah h2)]
   simp only[vaa]
   by_cases he:a[i]=b[i]<;>simp[he]
 ·rw[vad (by simp;omega)]
  rw[decide_eq_false (λhe=>hl (by rw[he]))]
theorem R5(a b:aa)(ha:nP a<=cm):AB a b=some (decide (a=b)):=by
 refine sj (F:=Ek) (λx=>nP x.1) (λx=>nP x.1<=cm) (λx=>decide (x.1=x.2)) (λR x hx ih=>?_) (a,b) ha (iJ ha)
 obtain⟨u,v⟩:=x
 have hx:nP u<=cm:=hx
 show y3 (λa a2=>R (a,a2)) u v=some (decide (u=v))
 unfold y3
 have hk:=wX u
 by_cases h1:u.Op=v.Op
 ·by_cases h2:u.Name=v.Name
  ·by_cases h3:u.N=v.N
   ·rw[vad (by simpa using h1),vad (by simpa using h2),vad (by simpa using h3)]
    rw[Y8 (a:=u.Kids) (b:=v.Kids) (by omega) (λx hxa y hyb=>ih (x,y) (pV hxa) (vbJ (vaU (pV hxa) hx)))]
    simp[A1 (a:=u) (b:=v),h1,h2,h3]
   ·rw[vad (by simpa using h1),vad (by simpa using h2),vab (by simpa using h3)]
    simp[A1 (a:=u) (b:=v),h3]
  ·rw[vad (by simpa using h1),vab (by simpa using h2)]
   simp[A1 (a:=u) (b:=v),h2]
 ·rw[vab (by simpa using h1)]
  simp[A1 (a:=u) (b:=v),h1]
theorem AR(a b:aa)(hb:nP b<=cm):nh a b=some (decide (a=b)):=by
 refine sj (F:=Gw) (λx=>nP x.2) (λx=>nP x.2<=cm) (λx=>decide (x.1=x.2)) (λR x hx ih=>?_) (a,b) hb (iJ hb)
 obtain⟨u,v⟩:=x
 have hx:nP v<=cm:=hx
 show Bn (λa a2=>R (a,a2)) u v=some (decide (u=v))
 unfold Bn Dx
 have hk:=wX v
 by_cases h1:u.Op=v.Op
 ·by_cases h2:u.Name=v.Name
  ·by_cases h3:u.N=v.N
   ·by_cases h4:u.Kids.length=v.Kids.length
    ·rw[vab (by simpa using h1),vab (by simpa using h2),vab (by simpa using h3)]
     simp only[h4,bne_self_eq_false,vaa,if_false,vaD]
     unfold Dy
     rw[<-h4,Ip h4 (by unfold cm at hx;omega) _ (.inl ()) (.inr ()) (λi g1 g2=>?_) ?_]
     ·by_cases he:u.Kids=v.Kids<;>simp[he,A1 (a:=u) (b:=v),h1,h2,h3]
     ·unfold rY
      rw[vab (by simp)]
     ·unfold rY
      rw[vad (by simp;omega),aM u.Kids i g1]
      simp only[vaa]
      rw[aM v.Kids i g2]
      simp only[vaa]
      have hm:=vah g2
      rw[ih (u.Kids[i],v.Kids[i]) (pV hm) (vbJ (vaU (pV hm) hx))]
      by_cases he:u.Kids[i]=v.Kids[i]<;>simp[he]
    ·have hne:u≠v:=λe=>h4 (by rw[e])
     rw[vab (by simpa using h1),vab (by simpa using h2),vab (by simpa using h3)]
     have hb:((u.Kids.length:Int)!=(v.Kids.length:Int))=true:=by simp;omega
     simp[hb,hne]
   ·have hne:u≠v:=λe=>h3 (by rw[e])
    rw[vab (by simpa using h1),vab (by simpa using h2),vad (by simpa using h3)]
    simp[hne]
  ·have hne:u≠v:=λe=>h2 (by rw[e])
   rw[vab (by simpa using h1),vad (by simpa using h2)]
   simp[hne]
 ·have hne:u≠v:=λe=>h1 (by rw[e])
  rw[vad (by simpa using h1)]
  simp[hne]
def dK:aa:=⟨0,[],0,[]⟩
theorem VZ:nP dK<=cm:=by decide
theorem Qg{α σ X:Type}(g:α->σ->σ)(e:σ->X):∀(l:List α) (i:Nat) (s:σ),qq (λ_ x (s:σ)=>(Sum.inl (g x s):σ⊕X)) e l i s=e (l.foldl (λs x=>g x s) s)
 |[],i,s=>by simp[qq]
 |x::l,i,s=>by
  unfold qq
  simp only
  rw[Qg g e l (i+1) (g x s)]
  rfl
theorem Xp{α σ τ X:Type}(l:List α)(hl:l.length<9223372036854775808)(mk:Int->σ->τ)(body:τ->Option (τ⊕X))(I:Nat->σ->Prop)(g:α->σ->σ)(e:σ->X)(s0:σ)(h0:I 0 s0)
  (hin:∀(i:Nat) (h:i<l.length) s,I i s->body (mk i s)=some (.inl (mk (dU ((i:Int)+1)) (g l[i] s)))/\I (i+1) (g l[i] s)) (hend:∀s,I l.length s->body (mk l.length s)=some (.inr (e s))):
  loop body (mk 0 s0)=some (e (l.foldl (λs x=>g x s) s0)):=by
 have:=wY l hl mk body I (λ_ x s=>.inl (g x s)) e (λi h s hs=>⟨(hin i h s hs).1,λs' hs'=>by cases hs';exact(hin i h s hs).2⟩) (λs hs=>hend s hs) 0 s0 (vaX _) h0
 rw[Qg]at this
 exact this
theorem VY(l:List aa)(i:Nat)(h:i<l.length):nL (l.take (i+1))=nL (l.take i)+nP l[i]:=by
 rw[vay h,JU]
 simp[nL]
theorem Ny(l:List aa)(i:Nat):nL (l.take i)<=nL l:=by
 have:=JU (l.take i) (l.drop i)
 rw[vbD]at this
 omega
theorem VK:∀(l:List aa) (a:Int),l.foldl (λs x=>s+(nP x:Int)) a=a+(nL l:Int)
 |[],a=>by simp[nL]
 |x::l,a=>by rw[List.foldl_cons,VK l,nL];omega
theorem IH(p:aa)(hp:nP p<=cm):oP p=some (nP p:Int):=by
 refine sj (F:=yp) nP (λx=>nP x<=cm) (λx=>(nP x:Int)) (λR x hx ih=>?_) p hp (iJ hp)
 show yo (λp=>R p) x=_
 unfold yo Bm
 have hlen:=wX x
 have hn:=Ti x
 rw[Xp x.Kids (by unfold cm at hx;omega) (λi s=>(s,i)) _ (λi s=>s=1+(nL (x.Kids.take i):Int)) (λx s=>s+(nP x:Int)) id 1 (by simp[nL]) (λi hi s hs=>?_) (λs _=>?_)]
 ·rw[VK]
  simp only[id,vaa]
  rw[hn];congr 1;omega
 ·have hm:=vah hi
  have hk:=pV hm
  refine⟨?_,by rw[VY _ _ hi,hs];omega⟩
  unfold pu
  rw[vad (by simp;omega),aM x.Kids i hi]
  simp only[vaa]
  rw[ih _ hk (by omega)]
  simp only[vaa]
  have h1:=Ny x.Kids i
  have h2:=Ny x.Kids (i+1)
  have h3:=VY x.Kids i hi
  unfold cm at hx
  rw[cW (n:=s+_) (by omega) (by omega)]
 ·unfold pu
  rw[vab (by simp)]
  rfl
mutual
def dP:aa->Nat
 |⟨_,_,_,ks⟩=>dL ks+1
def dL:List aa->Nat
 |[]=>0
 |p::ps=>max (dP p) (dL ps)
end
theorem qfF(p:aa):dP p=dL p.Kids+1:=by obtain⟨o,n,k,ks⟩:=p;rw[dP];rfl
mutual
theorem qcS:∀(p:aa),dP p<=nP p
 |⟨o,n,k,ks⟩=>by have:=qcR ks;rw[dP,nP];omega
theorem qcR:∀(l:List aa),dL l<=nL l
 |[]=>by simp[dL]
 |p::l=>by have:=qcS p;have:=qcR l;rw[dL,nL];omega
end
theorem VJ:∀(l:List aa) (a:Nat),l.foldl (λ(s:Int) x=>if(dP x:Int)>s then(dP x:Int)else s) (a:Int)=((max a (dL l):Nat):Int)
 |[],a=>by simp[dL]
 |x::l,a=>by
  rw[List.foldl_cons,show(if(dP x:Int)>(a:Int)then(dP x:Int)else(a:Int))=((max a (dP x):Nat):Int) by split<;>omega,VJ l,dL,Nat.max_assoc]
theorem M0(p:aa)(hp:nP p<=cm):EL p=some (dP p:Int):=by
 refine sj (F:=Dw) nP (λx=>nP x<=cm) (λx=>(dP x:Int)) (λR x hx ih=>?_) p hp (iJ hp)
 show Dv (λp=>R p) x=_
 unfold Dv HH
 have hlen:=wX x
 have hd:=qcS x
 have he:=qfF x
 have hz:(0:Int)=((0:Nat):Int):=rfl
 rw[UM x.Kids (by unfold cm at hx;omega) (λi s=>(s,i)) _ (λi s x=>(R x).bind λr=>some (.inl ((if r>s then r else s),dU (i+1)))) (λ_ _=>True) (λx s=>if(dP x:Int)>s then(dP x:Int)else s) id 0 trivial (λi s=>rfl) (λi hi s _=>⟨?_,vzz⟩)]
 ·rw[hz,VJ]
  simp only[id,vaa]
  unfold cm at hx
  rw[cW (by omega) (by omega)]
  congr 1;omega
 ·have hm:=vah hi
  have hk:=pV hm
  rw[ih _ hk (by omega)]
  rfl
theorem W6(t:ae):(⟨t.Op,t.Name,t.Args,t.Names,t.Pred,t.Preds⟩:ae)=t:=by cases t;rfl
mutual
def fH:ae->Nat
 |⟨_,_,xs,ns,_,ps⟩=>yZ xs+ns.length+ps.length+1
def yZ:List ae->Nat
 |[]=>0
 |a::xs=>fH a+yZ xs
end
theorem Im(t:ae):fH t=yZ t.Args+t.Names.length+t.Preds.length+1:=by obtain⟨o,n,xs,ns,p,ps⟩:=t;rw[fH];rfl
theorem Ns(t:ae):1<=fH t:=by rw[Im];omega
theorem PT:∀{l:List ae} {x:ae},x∈l->fH x<=yZ l
 | y :: l,x,h => by
  rw[yZ]
  rcases vaF.1 h with rfl|h
  ·omega
  ·have:=PT h;omega
theorem PR:∀(l:List ae),l.length<=yZ l
 |[]=>by simp[yZ]
 |p::l=>by rw[yZ];have:=PR l;have:=Ns p;simp only[vaM];omega
theorem kH{t a:ae}(h:a∈t.Args):fH a<fH t:=by rw[Im t];have:=PT h;omega
theorem lM(t:ae):t.Args.length<fH t:=by rw[Im];have:=PR t.Args;omega
theorem J3(t:ae):t.Names.length<fH t:=by rw[Im];omega
theorem AD(t:ae):t.Preds.length<fH t:=by rw[Im];omega
mutual
def QC(Q:aa->Prop):ae->Prop
 |⟨_,_,xs,_,p,ps⟩=>Q p/\(∀q∈ps,Q q)/\KT Q xs
def KT(Q:aa->Prop):List ae->Prop
 |[]=>True
 |a::xs=>QC Q a/\KT Q xs
end
theorem HT(Q:aa->Prop)(t:ae):QC Q t↔Q t.Pred/\(∀q∈t.Preds,Q q)/\KT Q t.Args:=by obtain⟨o,n,xs,ns,p,ps⟩:=t;rw[QC];rfl
theorem Pu(Q:aa->Prop):∀(l:List ae),KT Q l↔∀t∈l,QC Q t
 |[]=>by simp[KT]
 |a::l=>by rw[KT,Pu Q l];simp
theorem YF{Q:aa->Prop}{t a:ae}(h:QC Q t)(ha:a∈t.Args):QC Q a:=(Pu Q _).1 ((HT Q t).1 h).2.2 a ha
theorem qc0(l:List aa):l.length<=d8 (l.map ac):=by
 have:=UO l
 have:=VX l
 omega
theorem qc1(l:List ah):l.length<=d8 (l.map cS):=by
 have h:=TI (l.map cS) (λx hx=>by
  obtain⟨s,_,rfl⟩:=vaq.1 hx
  simp only[cS,ff,pm];omega)
 rwa[vbI]at h
theorem Ei(t:ae):ff (aj t)=1+(pm (.str t.Name)+(pm (sl aj t.Args)+(pm (sl cS t.Names)+(1+(pm (.str t.Pred.Name)+(1+(pm (sl ac t.Pred.Kids)+(pm (sl ac t.Preds)+0)))))))):=by
 rw[cR];rfl
mutual
theorem Mn:∀(t:ae),fH t<=ff (aj t)
 |⟨o,n,xs,ns,p,ps⟩=>by
  have h1:=Tc xs
  have h2:=qc0 ps
  have h3:=qc1 ns
  rw[fH,Ei]
  show _<=1+(pm (.str n)+(pm (sl aj xs)+(pm (sl cS ns)+(1+(pm (.str p.Name)+(1+(pm (sl ac p.Kids)+(pm (sl ac ps)+0))))))))
  simp only[pm,sl]
  omega
theorem Tc:∀(l:List ae),yZ l<=d8 (l.map aj)
 |[]=>by simp[yZ]
 |a::l=>by
  have:=Mn a
  have:=Tc l
  rw[yZ]
  simp only[vae,d8]
  omega
end
theorem qcg(t:ae):nP t.Pred<=ff (aj t):=by
 have h:=VX t.Pred.Kids
 rw[Ti,Ei]
 simp only[pm,sl]
 omega
mutual
theorem Vr(B:Nat):∀(t:ae),ff (aj t)<=B->QC (λp=>nP p<=B) t
 |⟨o,n,xs,ns,p,ps⟩,h=>by
  have h0:=qcg ⟨o,n,xs,ns,p,ps⟩
  rw[Ei]at h h0
  have h:1+(pm (.str n)+(pm (sl aj xs)+(pm (sl cS ns)+(1+(pm (.str p.Name)+(1+(pm (sl ac p.Kids)+(pm (sl ac ps)+0))))))))<=B:=h
  have h0:nP p<=1+(pm (.str n)+(pm (sl aj xs)+(pm (sl cS ns)+(1+(pm (.str p.Name)+(1+(pm (sl ac p.Kids)+(pm (sl ac ps)+0)))))))):=h0
  simp only[pm,sl]at h h0
  rw[QC]
  refine⟨by omega,λq hq=>?_,SA B xs (by omega)⟩
  have h1:=K3 q
  have h2:=AA (vaq.2 ⟨q,hq,rfl⟩:ac q∈ps.map ac)
  omega
theorem SA(B:Nat):∀(l:List ae),d8 (l.map aj)<=B->KT (λp=>nP p<=B) l
 |[],_=>trivial
 |a::xs,h=>by
  simp only[vae,d8]at h
  rw[KT]
  exact⟨Vr B a (by omega),SA B xs (by omega)⟩
end
theorem Qd(a b:List ah)(ha:a.length<9223372036854775808):Dp a b=some (decide (a=b)):=by
 unfold Dp
 by_cases hl:a.length=b.length
 ·rw[vab (by simp[hl])]
  unfold Dq
  rw[Xr hl ha (λzz=>zo a b (a.length:Int) zz) (λi x z=>if(!(x==z))=true then some (.inr (.inl ()))else some (.inl (dU (i+1)))) (λx y=>decide (x=y)) (.inl ()) (.inr ()) (λi=>rfl) (λx _ z _ i=>by by_cases h:x=z<;>simp[h]),Vq]
  by_cases h:a=b<;>simp[h]
 ·rw[vad (by simp;omega),decide_eq_false (λhe=>hl (by rw[he]))]
theorem Uz(t:ae)(ht:fH t<=cm):gu (z8 t) (λ_=>True):=by
 refine tN (F:=yy) fH (λx=>fH x<=cm) (λ_ _=>True) (λR x hx ih=>?_) t ht (iJ ht)
 show gu (sR (λt=>R t) x) _
 unfold sR vp
 have h1:=lM x
 refine aA (R:=λ_=>True) (Qm x.Args (by unfold cm at hx;omega) (λi s=>(s,i)) (λi s y=>(R y).bind λr=>some (.inl ((if r>s then r else s),dU (i+1)))) id (λ_ _=>True) (λi s=>rfl) (λi hi s _=>?_) (λ_ _=>trivial) 0 trivial) (λa _=>am vzz)
 exact aA (ih _ (kH (vah hi)) (by have:=kH (vah hi);omega)) (λa _=>am ⟨_,rfl,vzz⟩)
theorem NG(t:ae):gu (nj t) (λ_=>True):=by
 unfold nj
 refine aA (R:=λ_=>True) ?_ λ_ _=>aD (λ_=>am vzz) λ_=>aA (R:=λ_=>True) ?_ λ_ _=>aD (λ_=>am vzz) λ_=>aA (R:=λ_=>True) ?_ λ_ _=>aD (λ_=>am vzz) λ_=>aA (R:=λ_=>True) ?_ λ_ _=>aD (λ_=>am vzz) λ_=>am vzz
 ·unfold ip
  repeat' first|exact am vzz|refine aD (λ_=>?_) (λ_=>?_)
 ·unfold lH
  repeat' first|exact am vzz|refine aD (λ_=>?_) (λ_=>?_)
 ·unfold jW
  repeat' first|exact am vzz|refine aD (λ_=>?_) (λ_=>?_)
 ·unfold lI
  repeat' first|exact am vzz|refine aD (λ_=>?_) (λ_=>?_)|refine aA (SI _ _) λ_ _=>?_
theorem UF(t:ae)(ht:fH t<=cm):gu (Aa t) (λ_=>True):=by
 refine tN (F:=ww) fH (λx=>fH x<=cm) (λ_ _=>True) (λR x hx ih=>?_) t ht (iJ ht)
 show gu (j4 (λt=>R t) x) _
 unfold j4 oR
 have h1:=lM x
 refine aA (NG x) λ_ _=>aD (λ_=>am vzz) λ_=>aA (jT x.Args (by unfold cm at hx;omega) _ (λ_=>True) (λ_=>True) (λi=>rfl) (λy hy i=>aA (ih _ (kH hy) (by have:=kH hy;omega)) λ_ _=>aD (λ_=>am vzz) λ_=>am ⟨rfl,vzz⟩)) λo _=>?_
 cases o<;>exact am vzz
theorem yk(t:ae)(ht:fH t<=cm):gu (ig t) (λ_=>True):=by
 unfold ig
 exact aA (Uz t ht) λ_ _=>aD (λ_=>am vzz) λ_=>aA (UF t ht) λ_ _=>am vzz
theorem Zt(op n:Int):gu (ni op n) (λr=>r=true->op=8->n=2):=by
 by_cases h:op=8
 ·subst h
  refine Vg (a:=n==2) ?_ λh _=>by simpa using h
  simp[ni,yq,yr,yt]
 ·unfold ni
  refine aA (R:=λ_=>True) ?_ λ_ _=>aD (λ_=>am λ_ e=>absurd e h) λ_=>aA (R:=λ_=>True) ?_ λ_ _=>aD (λ_=>aD (λ_=>am λ_ e=>absurd e h) λ_=>am λ_ e=>absurd e h) λ_=>aA (R:=λ_=>True) ?_ λ_ _=>aD (λ_=>am λ_ e=>absurd e h) λ_=>am λ_ e=>absurd e h
  ·unfold yq
   repeat' first|exact am vzz|refine aD (λ_=>?_) (λ_=>?_)
  ·unfold yr
   repeat' first|exact am vzz|refine aD (λ_=>?_) (λ_=>?_)
  ·unfold yt
   repeat' first|exact am vzz|refine aD (λ_=>?_) (λ_=>?_)
theorem GN(p:aa):gu (j3 p) (λ_=>True):=by
 unfold j3
 have hc:=λs=>(Ss s).mono (R:=λ_=>True) λ_ _=>trivial
 repeat' first|exact am vzz|refine aD (λ_=>?_) (λ_=>?_)|refine aA (hc _) λ_ _=>?_
theorem NF(p:aa):gu (lF p) (λ_=>True):=by
 unfold lF
 have hk:gu (ni p.Op (p.Kids.length:Int)) (λr=>r=true->p.Op=8->0<p.Kids.length):=(Zt _ _).mono λr hr h1 h2=>by have:=hr h1 h2;omega
 have hn:∀r:Bool,(r=true->p.Op=8->0<p.Kids.length)->gu (some (!r)) (λo=>o=true\/(p.Op=8->0<p.Kids.length)):=λr hr=>by
  cases r with
  |false=>exact am (.inl rfl)
  |true=>exact am (.inr (hr rfl))
 refine aA (R:=λ_=>True) ?_ λo3 _=>aA (R:=λo=>o=true\/(p.Op=8->0<p.Kids.length)) ?_ λo ho=>aD (λ_=>am vzz) λhno=>aA (R:=λ_=>True) ?_ λ_ _=>aD (λ_=>am vzz) λ_=>aA (GN p) λ_ _=>aD (λ_=>am vzz) λ_=>aA (R:=λ_=>True) ?_ λ_ _=>aD (λ_=>am vzz) λ_=>am vzz
 ·unfold yu
  repeat' first|exact am vzz|refine aD (λ_=>?_) (λ_=>?_)
 ·unfold yw
  have hm:gu (z7 p.Op) (λ_=>True):=by
   unfold z7
   repeat' first|exact am vzz|refine aD (λ_=>?_) (λ_=>?_)
  repeat' first|exact am (.inl rfl)|refine aD (λ_=>?_) (λ_=>?_)|refine aA hm λ_ _=>?_|exact aA hk hn
 ·have hi:gu (Dm p.N) (λ_=>True):=by
   unfold Dm
   repeat' first|exact am vzz|refine aD (λ_=>?_) (λ_=>?_)
  unfold lG
  repeat' first|exact am vzz|refine aD (λ_=>?_) (λ_=>?_)|refine aA hi λ_ _=>?_
 ·unfold yx
  refine aD (λh=>?_) λ_=>am vzz
  exact dJ (aM p.Kids 0 (ho.resolve_left hno (by simpa using h))) (am vzz)
theorem rv:aY []=false:=by kernel_rfl
theorem pP(b:Bool):(Ai b !=0)= !b:=by cases b<;>rfl
theorem PI(b:Bool):(Ai b==0)=b:=by cases b<;>rfl
theorem Yg(t:ae):zl t=z8 t:=by
 have h:zW=yy:=rfl
 unfold zl z8
 rw[h]
theorem qaO(t:ae):sI t=some (t.Op==4||t.Op==5):=by
 unfold sI
 by_cases h:t.Op=4<;>simp[h]
theorem qaP(t:ae):sJ t=some (t.Op==4||t.Op==6):=by
 unfold sJ
 by_cases h:t.Op=4<;>simp[h]
theorem qaQ(t:ae):sK t (t.Op==4||t.Op==5) (t.Op==4||t.Op==6)=ip t:=by
 unfold sK ip
 by_cases h4:t.Op=4
 ·simp[h4]
 by_cases h5:t.Op=5
 ·simp[h5]
 by_cases h6:t.Op=6
 ·simp[h6]
 ·simp[h4,h5,h6]
theorem qeC(t:ae):zk t=(lH t).bind λa=>if a=true then some 13 else(jW t).bind λb=>if b=true then some 13 else some 0:=by
 unfold zk lH jW xM
 by_cases h4:t.Op=4
 ·simp[h4]
 by_cases h6:t.Op=6
 ·have hn:((t.Names.length:Int)!=0)=decide ((t.Names.length:Int)>0):=by
   by_cases h:t.Names.length=0
   ·rw[h];rfl
   ·have h1:((t.Names.length:Int))≠0:=by omega
    have h2:((t.Names.length:Int))>0:=by omega
    rw[vaP h2];simpa using h
  rw[hn]
  simp[h6]
 ·simp[h4,h6]
theorem qd2(s:ah)(b:Bool):wv s b=some (aY s&&(eG fc s==b)):=by
 unfold wv
 rw[lD]
 simp only[vaa,PI]
 by_cases h:aY s=true
 ·cases s with
  |nil=>rw[rv]at h;cases h
  | cons c r =>
   rw[vad h,h]
   simp only[oW,vaa,eG,fc,vbl]
   by_cases hc:(c.toNat:Int)>=65
   ·have hc':(65:Int)<=c.toNat:=hc
    rw[vad (vaP hc),vaP hc',vbl]
   ·have hc':¬(65:Int)<=c.toNat:=hc
    rw[vab (by simpa using hc),decide_eq_false hc',vcL]
 ·rw[vab h]
  have:aY s=false:=by simpa using h
  rw[this];rfl
theorem qaR(t:ae):sL t (t.Op==4||t.Op==5)=(lI t).bind λb=>if b=true then some (.inl ())else some (.inr ()):=by
 unfold sL lI
 simp only[qd2,vaa,nu,pP]
 have hJ5:aY t.Name=true->sM t=some (eG fc t.Name):=λh=>by
  unfold sM
  cases hn:t.Name with
  |nil=>rw[hn,rv]at h;cases h
  | cons c r =>
   simp only[oW,vaa,eG,fc]
   by_cases hc:(c.toNat:Int)>=65
   ·have hc':(65:Int)<=c.toNat:=hc
    rw[vad (vaP hc),vaP hc',vbl]
   ·have hc':¬(65:Int)<=c.toNat:=hc
    rw[vab (by simpa using hc),decide_eq_false hc',vcL]
 by_cases h4:t.Op=4
 ·by_cases h:aY t.Name=true
  ·rw[hJ5 h]
   cases eG fc t.Name<;>simp[h4,h]
  ·simp[h4,h]
 by_cases h5:t.Op=5
 ·by_cases h:aY t.Name=true
  ·rw[hJ5 h]
   cases eG fc t.Name<;>simp[h5,h]
  ·simp[h5,h]
 ·simp[h4,h5]
theorem Tm(t:ae):∃b1 b2 b3 b4,ip t=some b1/\lH t=some b2/\jW t=some b3/\lI t=some b4:=by
 have h1:gu (ip t) (λ_=>True):=by
  unfold ip
  repeat' first|exact am vzz|refine aD (λ_=>?_) (λ_=>?_)
 have h2:gu (lH t) (λ_=>True):=by
  unfold lH
  repeat' first|exact am vzz|refine aD (λ_=>?_) (λ_=>?_)
 have h3:gu (jW t) (λ_=>True):=by
  unfold jW
  repeat' first|exact am vzz|refine aD (λ_=>?_) (λ_=>?_)
 have h4:gu (lI t) (λ_=>True):=by
  unfold lI
  repeat' first|exact am vzz|refine aD (λ_=>?_) (λ_=>?_)|refine aA (SI _ _) λ_ _=>?_
 obtain⟨b1,e1,_⟩:=h1
 obtain⟨b2,e2,_⟩:=h2
 obtain⟨b3,e3,_⟩:=h3
 obtain⟨b4,e4,_⟩:=h4
 exact⟨b1,b2,b3,b4,e1,e2,e3,e4⟩
theorem qcE(R:ae->Option Int)(t:ae):wc R t=j4 R t:=by
 obtain⟨b1,b2,b3,b4,e1,e2,e3,e4⟩:=Tm t
 have ea:=qeC t
 have e5:=qaR t
 have hL:zX R t.Args (t.Args.length:Int) 0=oR R t.Args (t.Args.length:Int) 0:=rfl
 rw[e2,e3]at ea
 rw[e4]at e5
 unfold wc j4 nj
 rw[qaO,qaP]
 simp only[vaa]
 rw[qaQ,e1,e2,e3,e4,ea,hL]
 rw[e5]
 cases b1<;>cases b2<;>cases b3<;>cases b4<;>rfl
theorem Ky(t:ae):mf t=ig t:=by
 have h:Cr=ww:=by
  funext R x
  exact qcE (λt=>R t) x
 have h2:Cq t=Aa t:=by
  unfold Cq Aa
  rw[h]
 unfold mf ig
 rw[Yg,h2]
end Go.Proofs.YtibglelmlnfojaaGreatDoor
