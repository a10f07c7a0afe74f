/- PROVED: a part of the proof. Conditions: none. -/
import Derived.Test.YtankopenjcbeeaaGreatDoords16
import Derived.Test.YtankopenjcbeeaaGreatDoords11
import Derived.Test.YtankopenjcbeeaaGreatDoords10
set_option linter.unusedSimpArgs false
set_option linter.unusedVariables false
noncomputable section
namespace Go.Proofs.YtankopenjcbeeaaGreatDoor
open Go Go.Proofs.Tryz
set_option linter.unusedVariables false
set_option maxRecDepth 100000
noncomputable def qbD:Code:=f249.body.getD .skip
def Zs:List Nat:=[]
theorem qaD:ZF Pg Zs 249 f249 qbD:=zf call249 func249 rfl mixed
def DM(t:al):Option Bool:=
 if (t.Op == 0) = true then
  if (t.Name == ([]:ac)) = true then
   if ((t.Args.length:Int) == 0) = true then
    if((t.Names.length:Int)==0)=true then
     (pn t.Pred).bind λr9=>
     if r9=true then
      some ((t.Preds.length:Int)==0)
     else
      some false
    else
     some false
   else
    some false
  else
   some false
 else
  some false
theorem HR{t:al}:OV 249 [.agg (ai t)] (DM t) (λr=>.bool r) []:=qaD.v<|
 te (iC t)<|have pp2:=λ{X Y Z} (r:PV _ X Y Z)=>tw (aX t)<|r;tf (λc1=>have pp4:=λ{X Y Z} (r:PV _ X Y Z)=>pp2<|tg 4 c1<|tw (dg t)<|r;tf (λc3=>have pp6:=λ{X Y Z} (r:PV _ X Y Z)=>pp4<|tg 9 c3<|tw (bw t)<|cb (dC.ln t.Args)<|r;tf (λc5=>have pp8:=λ{X Y Z} (r:PV _ X Y Z)=>pp6<|tg 15 c5<|tw (ct t)<|cb (cz.ln t.Names)<|r;tf (λc7=>tb λr9 br9=>have pp11:=λ{X Y Z} (r:PV _ X Y Z)=>pp8<|tg 21 c7<|tw (dJ t)<|ck (lz _ br9)<|r;tf (λc10=>pp11<|tg 26 c10<|tw (cE t)<|cb (fl.ln t.Preds)<|tE) λc10=>pp11<|tg 26 c10<|tE) λc7=>pp8<|tg 21 c7<|tE) λc5=>pp6<|tg 15 c5<|tE) λc3=>pp4<|tg 9 c3<|tE) λc1=>pp2<|tg 4 c1<|tE
noncomputable def qbC:Code:=f248.body.getD .skip
def Zr:List Nat:=[]
theorem qaC:ZF Pg Zr 248 f248 qbC:=zf call248 func248 rfl mixed
def pX(i:Int)(a:am)(k1:(List Int))(k12:Bool):Option ((List Int)×Bool):=
 (dw a.Params i).bind λx1=>
 (bY x1.Name k1 k12).bind λr2=>
 (dw a.Params i).bind λx3=>
 (DM x3.Type_).bind λr4=>
 if(!r4)=true then
  (af ([dA]:List ac) r2.2 r2.1).bind λr6=>
  (dw a.Params i).bind λx7=>
  (dT x7.Type_ r6 r2.1).bind λr8=>
  some (r8.2,r8.1)
 else
  some (r2.2,r2.1)
theorem xH{i:Int}{a:am}{k1:(List Int)}{k12:Bool}:OG 248 [.int .i64 i,.bptr 0 0,.eptr (aj a)] [] [.cells [.bptr 1 0] [],.cells [.nptr 1 132,sl (cI .u8) k1,.bool k12] [(1,5)]] (pX i a k1 k12) (λr=>.tuple []) [] (λr=>[.cells [.bptr 1 0] [],.cells [.nptr 1 132,sl (cI .u8) r.1,.bool r.2] [(1,5)]]):=qaC.g 2<|
 tb λx1 bx1=>tb λr2 br2=>tb λx3 bx3=>tb λr4 br4=>tk<|Av (.dx [0,0,2,0,14,30,62] [] [] [])<|ts<|tw (aW a)<|tv (tV.ia (k:=.i64) bx1)<|tw (kM x1)<|tc [1] (bI _ br2)<|tw (aW a)<|tv (tV.ia (k:=.i64) bx3)<|tw (ga x3)<|ck (HR _ br4)<|tF (tb λr6 br6=>tb λx7 bx7=>tb λr8 br8=>ts<|tv (bK [dA] 1 rfl)<|tc [1] (ae _ br6)<|tk<|Av (.dx [0,0,2,0,14,30,62] [] [] [])<|ts<|tw (aW a)<|tv (tV.ia (k:=.i64) bx7)<|tw (ga x7)<|tc [1] (dU _ br8)<|tE)<|tE
section
variable(v:am)(i:Int)(t7:Int)(m:(List Int))(m2:Bool)
def ku:Option (((List Int))):=
 if decide (i>0)=true then
  (af ([ee]:List ac) m m2).bind λr3=>
  some r3
 else
  some m
theorem qy:OJ 2 (cA nQ 1014) (ku i m m2) .normal (λo=>aM 20 [(0,.bptr 0 0),(2,.func (.func 248) [] [.bptr 1 0,.eptr (aj v)]),(6,.int .i64 i),(7,.int .i64 t7),(8,.int .i64 i)] [.cells [.nptr 0 132,sl (cI .u8) o,.bool m2] [(1,5)],.cells [.bptr 0 0] []] []) (aM 20 [(0,.bptr 0 0),(2,.func (.func 248) [] [.bptr 1 0,.eptr (aj v)]),(6,.int .i64 i),(7,.int .i64 t7),(8,.int .i64 i)] [.cells [.nptr 0 132,sl (cI .u8) m,.bool m2] [(1,5)],.cells [.bptr 0 0] []] []):=oV.j<|
 tF (tb λr3 br3=>tv (bK [ee] 1 rfl)<|tc [0] (ae _ br3)<|tE)<|tE
end
section
variable(v:am)(t7:Int)(t8:Int)(m:(List Int))(m2:Bool)
def fk:ay:=aM 20 [(0,.bptr 0 0),(2,.func (.func 248) [] [.bptr 1 0,.eptr (aj v)]),(7,.int .i64 t7),(8,.int .i64 t8)] [.cells [.nptr 0 132,sl (cI .u8) m,.bool m2] [(1,5)],.cells [.bptr 0 0] []] []
def jp(o:(List Int)×Bool):ay:=aM 20 [] [.cells [.nptr 0 132,sl (cI .u8) o.1,.bool o.2] [(1,5)],.cells [.bptr 0 0] []] []
def jo:Option ((Int×(List Int)×Bool)⊕(((List Int)×Bool))):=
 if decide (t8<t7)=true then
  (ku t8 m m2).bind λo4=>
  (pX t8 v o4 m2).bind λr5=>
  some (.inl (fh (t8+1),r5.1,r5.2))
 else
  some (.inr (m,m2))
def kv:Option (((List Int)×Bool)):=loop (λ(zz:Int×(List Int)×Bool)=>jo v t7 zz.1 zz.2.1 zz.2.2) (t8,m,m2)
theorem pY:OL 2 (cA nQ 15) (jo v t7 t8 m m2) (λ(zz:Int×(List Int)×Bool)=>fk v t7 zz.1 zz.2.1 zz.2.2) (λ_=>.exit 0) jp (fk v t7 t8 m m2):=oV.l<|
 tF (tb λo4 bo4=>tb λr5 br5=>gz 2<|cu (qy v t8 t7 m m2 _ bo4)<|tc [1,0] (xH _ br5)<|tE)<|tE
theorem qz:OJ 2 (.loop (cA nQ 15)) (kv v t7 t8 m m2) (.exit 0) jp (fk v t7 t8 m m2):=sQ λ_=>pY _ _ _ _ _
end
def nf(n:Int)(c:am)(k0:(List Int))(k02:Bool):Option ((List Int)×Bool):=
 (kv c n 0 k0 k02).bind λo6=>
 some (o6.1,o6.2)
theorem uG{n:Int}{c:am}{k0:(List Int)}{k02:Bool}:OG 149 [.bptr 0 0,.int .i64 n,.func (.func 248) [] [.bptr 1 0,.eptr (aj c)]] [] [.cells [.nptr 0 132,sl (cI .u8) k0,.bool k02] [(1,5)],.cells [.bptr 0 0] []] (nf n c k0 k02) (λr=>.tuple []) [] (λr=>[.cells [.nptr 0 132,sl (cI .u8) r.1,.bool r.2] [(1,5)],.cells [.bptr 0 0] []]):=oV.g 2<|
 tb λo6 bo6=>cu (qz c n 0 k0 k02 _ bo6)<|tE
noncomputable def RW:Code:=f206.body.getD .skip
def Y2:List Nat:=[117]
theorem S7:ZF Pg Y2 206 f206 RW:=zf call206 func206 rfl mixed
section
variable(e:am)(m:(List Int))(m2:Bool)
def oc:Option (((List Int)×Bool)):=
 if decide ((e.Types.length:Int)>0)=true then
  (af ([dA]:List ac) m m2).bind λr11=>
  (dw e.Types 0).bind λx12=>
  (dT x12 r11 m2).bind λr13=>
  some (r13.2,r13.1)
 else
  some (m,m2)
theorem wN:OJ 1 (cA RW 2038) (oc e m m2) .normal (λo=>aM 176 [(2,.bptr 1 0),(3,.eptr (aj e))] [.cells [.nptr 0 132,sl (cI .u8) o.1,.bool o.2] [(1,5)],.cells [.bptr 0 0] [],.dead] []) (aM 176 [(2,.bptr 1 0),(3,.eptr (aj e))] [.cells [.nptr 0 132,sl (cI .u8) m,.bool m2] [(1,5)],.cells [.bptr 0 0] [],.dead] []):=S7.j<|
 tw (av e)<|cb (dC.ln e.Types)<|tF (tb λr11 br11=>tb λx12 bx12=>tb λr13 br13=>ts<|tv (bK [dA] 1 rfl)<|tc [0] (ae _ br11)<|tk<|Av (.dx [0,0,2,6,14] [] [] [])<|ts<|tw (av e)<|tv (dC.ia (k:=.i64) bx12)<|tv (dP x12)<|tc [0] (dU _ br13)<|tE)<|tE
end
section
variable(i:Int)(t113:waD)(t114:Int)(m:(List Int))(m2:Bool)(m3:ac)(m4:waA)(m5:Int)(m6:ac)(m7:Int)(m8:waE)(m9:waF)(m10:waD)(m11:waC)
def od:Option (((List Int))):=
 if decide (i>0)=true then
  (af ([Ov]:List ac) m m2).bind λr39=>
  some r39
 else
  some m
theorem wO:OJ 1 (cA RW 33545718) (od i m m2) .normal (λo=>aM 176 [(2,.bptr 1 0),(5,.bptr 3 0),(113,sl aN t113),(114,.int .i64 t114),(115,.int .i64 i)] [.cells [.nptr 0 132,sl (cI .u8) o,.bool m2] [(1,5)],.cells [.bptr 0 0] [],.dead,.cells [.str m3,sl cS m4,.int .i64 m5,.str m6,.int .i64 m7,sl aj m8,sl aD m9,sl aN m10,sl ai m11] []] []) (aM 176 [(2,.bptr 1 0),(4,.int .i64 i),(5,.bptr 3 0),(113,sl aN t113),(114,.int .i64 t114),(115,.int .i64 i)] [.cells [.nptr 0 132,sl (cI .u8) m,.bool m2] [(1,5)],.cells [.bptr 0 0] [],.dead,.cells [.str m3,sl cS m4,.int .i64 m5,.str m6,.int .i64 m7,sl aj m8,sl aD m9,sl aN m10,sl ai m11] []] []):=S7.j<|
 tF (tb λr39 br39=>ts<|tv (bK [Ov] 1 rfl)<|tc [0] (ae _ br39)<|tE)<|tE
end
section
variable(R110:bh)(t113:waD)(t114:Int)(t115:Int)(m:(List Int))(m2:Bool)
def eY:ay:=aM 176 [(2,.bptr 1 0),(113,sl aN t113),(114,.int .i64 t114),(115,.int .i64 t115)] [.cells [.nptr 0 132,sl (cI .u8) m,.bool m2] [(1,5)],.cells [.bptr 0 0] [],.dead] []
def gP(o:(List Int)×Bool):ay:=aM 176 [(2,.bptr 1 0)] [.cells [.nptr 0 132,sl (cI .u8) o.1,.bool o.2] [(1,5)],.cells [.bptr 0 0] [],.dead] []
instance iS_print_writer_block_L2:KS 1 (eY t113 t114 t115 m m2):=⟨rfl,(bk (aI (bH rfl) (aI (up (ak dy t113)) (aI vzz (aI vzz vzz))))),(aI (aI (bH rfl) (aI (up (ak (RD .u8) m)) (aI vzz vzz))) (aI (aI (bH rfl) trivial) (aI vzz vzz)))⟩
instance iO_print_writer_block_L2{o:((List Int)×Bool)}:KS 1 (gP o):=⟨rfl,(bk (aI (bH rfl) trivial)),(aI (aI (bH rfl) (aI (up (ak (RD .u8) o.1)) (aI vzz vzz))) (aI (aI (bH rfl) trivial) (aI vzz vzz)))⟩
def mw:Option ((Int×(List Int)×Bool)⊕(((List Int)×Bool))):=
 if decide (t115<t114)=true then
  (dw t113 t115).bind λx37=>
  (od t115 m m2).bind λo40=>
  (iu x37.Con o40 m2).bind λr41=>
  (mf x37.Names r41.2 r41.1).bind λr42=>
  (af ([uq]:List ac) r42.1 r42.2).bind λr43=>
  (R110 x37.Body r43 r42.2).bind λr44=>
  some (.inl (fh (t115+1),r44.1,r44.2))
 else
  some (.inr (m,m2))
def oe:Option (((List Int)×Bool)):=loop (λ(zz:Int×(List Int)×Bool)=>mw R110 t113 t114 zz.1 zz.2.1 zz.2.2) (t115,m,m2)
theorem uF(hR110:ch R110):OL 1 (cA RW 524151) (mw R110 t113 t114 t115 m m2) (λ(zz:Int×(List Int)×Bool)=>eY t113 t114 zz.1 zz.2.1 zz.2.2) (λ_=>.exit 1) gP (eY t113 t114 t115 m m2):=S7.lx<|
 tF (tb λx37 bx37=>tb λo40 bo40=>tb λr41 br41=>tb λr42 br42=>tb λr43 br43=>tb λr44 br44=>tv (gp.ia (k:=.i64) bx37)<|tv (mX x37)<|tx DN<|tx (kY x37)<|gz 0<|cu (wO t115 t113 t114 m m2 x37.Con x37.Names x37.Body.Op x37.Body.Name x37.Body.N x37.Body.Kids x37.Body.Params x37.Body.Alts x37.Body.Types _ bo40)<|ts<|ts<|tc [0] (iY _ br41)<|ts<|ts<|tc [0] (oB _ br42)<|ts<|tv (bK [uq] 1 rfl)<|tc [0] (ae _ br43)<|ts<|tv (eg x37.Body [])<|tc [0] (hR110 _ _ _ _ br44)<|tE)<|tE
theorem wP(hR110:ch R110):OJ 1 (.loop (cA RW 524151)) (oe R110 t113 t114 t115 m m2) (.exit 1) gP (eY t113 t114 t115 m m2):=sQ λ_=>uF _ _ _ _ _ _ hR110
end
def tH(R110:bh)(e:am)(k0:(List Int))(k02:Bool):Option ((List Int)×Bool):=
 if(e.Op==6)=true then
  (af ([IH]:List ac) k0 k02).bind λr2=>
  (nf (e.Params.length:Int) e r2 k02).bind λr3=>
  (af ([jF]:List ac) r3.1 r3.2).bind λr4=>
  (dw e.Kids 0).bind λx5=>
  (R110 x5 r4 r3.2).bind λr6=>
  some (r6.1,r6.2)
 else if(e.Op==7)=true then
  (af ([Oy]:List ac) k0 k02).bind λr8=>
  (bY e.Name r8 k02).bind λr9=>
  (oc e r9.2 r9.1).bind λo14=>
  (af ([wC]:List ac) o14.1 o14.2).bind λr15=>
  (dw e.Kids 0).bind λx16=>
  (R110 x16 r15 o14.2).bind λr17=>
  (af ([zE]:List ac) r17.1 r17.2).bind λr18=>
  (dw e.Kids 1).bind λx19=>
  (R110 x19 r18 r17.2).bind λr20=>
  some (r20.1,r20.2)
 else if(e.Op==8)=true then
  (af ([Qu]:List ac) k0 k02).bind λr22=>
  (dw e.Kids 0).bind λx23=>
  (R110 x23 r22 k02).bind λr24=>
  (af ([G4]:List ac) r24.1 r24.2).bind λr25=>
  (dw e.Kids 1).bind λx26=>
  (R110 x26 r25 r24.2).bind λr27=>
  (af ([G3]:List ac) r27.1 r27.2).bind λr28=>
  (dw e.Kids 2).bind λx29=>
  (R110 x29 r28 r27.2).bind λr30=>
  some (r30.1,r30.2)
 else if(e.Op==9)=true then
  (af ([Mj]:List ac) k0 k02).bind λr32=>
  (dw e.Kids 0).bind λx33=>
  (R110 x33 r32 k02).bind λr34=>
  (af ([yz]:List ac) r34.1 r34.2).bind λr35=>
  (oe R110 e.Alts (e.Alts.length:Int) 0 r35 r34.2).bind λo45=>
  (af ([Ot]:List ac) o45.1 o45.2).bind λr46=>
  some (r46,o45.2)
 else if(e.Op==25)=true then
  (af ([Oz]:List ac) k0 k02).bind λr48=>
  (bY e.Name r48 k02).bind λr49=>
  (af ([wA]:List ac) r49.2 r49.1).bind λr50=>
  (RF e.Kids none (some (fh ((e.Kids.length:Int) - 1)))).bind λl51=>
  (ea R110 l51 r50 r49.1).bind λr52=>
  (af ([zE]:List ac) r52.1 r52.2).bind λr53=>
  (dw e.Kids (fh ((e.Kids.length:Int) - 1))).bind λx54=>
  (R110 x54 r53 r52.2).bind λr55=>
  some (r55.1,r55.2)
 else
  some (k0,k02)
theorem AN(R110:bh)(hR110:ch R110){e:am}{k0:(List Int)}{k02:Bool}:OG 206 [.bptr 0 0,.agg (aj e)] [] [.cells [.nptr 0 132,sl (cI .u8) k0,.bool k02] [(1,5)]] (tH R110 e k0 k02) (λr=>.tuple []) [] (λr=>[.cells [.nptr 0 132,sl (cI .u8) r.1,.bool r.2] [(1,5)]]):=S7.g 1<|
 TV (rfl:bO (.bptr 0 0)=some [.bptr 0 0]) rfl<|te (cO e)<|tw (bu e)<|tF (tb λr2 br2=>tb λr3 br3=>tb λr4 br4=>tb λx5 bx5=>tb λr6 br6=>ts<|tv (bK [IH] 1 rfl)<|tc [0] (ae _ br2)<|ts<|tw (aW e)<|cb (tV.ln e.Params)<|tc [0,1] (uG _ br3)<|ts<|tv (bK [jF] 1 rfl)<|tc [0] (ae _ br4)<|tk<|Av (.dx [0,0,2,6,14] [] [] [])<|ts<|tw (az e)<|tv (fU.ia (k:=.i64) bx5)<|tv (aY x5)<|tc [0] (hR110 _ _ _ _ br6)<|tE)<|tF (tb λr8 br8=>tb λr9 br9=>tb λo14 bo14=>tb λr15 br15=>tb λx16 bx16=>tb λr17 br17=>tb λr18 br18=>tb λx19 bx19=>tb λr20 br20=>ts<|tv (bK [Oy] 1 rfl)<|tc [0] (ae _ br8)<|ts<|tw (bM e)<|tc [0] (bI _ br9)<|gz 0<|cu (wN e r9.2 r9.1 _ bo14)<|ts<|tv (bK [wC] 1 rfl)<|tc [0] (ae _ br15)<|tk<|Av (.dx [0,0,2,6,14] [] [] [])<|ts<|tw (az e)<|tv (fU.ia (k:=.i64) bx16)<|tv (aY x16)<|tc [0] (hR110 _ _ _ _ br17)<|ts<|tv (bK [zE] 1 rfl)<|tc [0] (ae _ br18)<|tk<|Av (.dx [0,0,2,6,14] [] [] [])<|ts<|tw (az e)<|tv (fU.ia (k:=.i64) bx19)<|tv (aY x19)<|tc [0] (hR110 _ _ _ _ br20)<|tE)<|tF (tb λr22 br22=>tb λx23 bx23=>tb λr24 br24=>tb λr25 br25=>tb λx26 bx26=>tb λr27 br27=>tb λr28 br28=>tb λx29 bx29=>tb λr30 br30=>ts<|tv (bK [Qu] 1 rfl)<|tc [0] (ae _ br22)<|tk<|Av (.dx [0,0,2,6,14] [] [] [])<|ts<|tw (az e)<|tv (fU.ia (k:=.i64) bx23)<|tv (aY x23)<|tc [0] (hR110 _ _ _ _ br24)<|ts<|tv (bK [G4] 1 rfl)<|tc [0] (ae _ br25)<|tk<|Av (.dx [0,0,2,6,14] [] [] [])<|ts<|tw (az e)<|tv (fU.ia (k:=.i64) bx26)<|tv (aY x26)<|tc [0] (hR110 _ _ _ _ br27)<|ts<|tv (bK [G3] 1 rfl)<|tc [0] (ae _ br28)<|tk<|Av (.dx [0,0,2,6,14] [] [] [])<|ts<|tw (az e)<|tv (fU.ia (k:=.i64) bx29)<|tv (aY x29)<|tc [0] (hR110 _ _ _ _ br30)<|tE)<|tF (tb λr32 br32=>tb λx33 bx33=>tb λr34 br34=>tb λr35 br35=>tb λo45 bo45=>tb λr46 br46=>ts<|tv (bK [Mj] 1 rfl)<|tc [0] (ae _ br32)<|tk<|Av (.dx [0,0,2,6,14] [] [] [])<|ts<|tw (az e)<|tv (fU.ia (k:=.i64) bx33)<|tv (aY x33)<|tc [0] (hR110 _ _ _ _ br34)<|ts<|tv (bK [yz] 1 rfl)<|tc [0] (ae _ br35)<|tw (aE e)<|cb (gp.ln e.Alts)<|cu (wP R110 e.Alts (e.Alts.length:Int) 0 r35 r34.2 hR110 _ bo45)<|ts<|tv (bK [Ot] 1 rfl)<|tc [0] (ae _ br46)<|tE)<|tF (tb λr48 br48=>tb λr49 br49=>tb λr50 br50=>tb λl51 bl51=>tb λr52 br52=>tb λr53 br53=>tb λx54 bx54=>tb λr55 br55=>tw (az e)<|cb (fU.ln e.Kids)<|ts<|tv (bK [Oz] 1 rfl)<|tc [0] (ae _ br48)<|ts<|tw (bM e)<|tc [0] (bI _ br49)<|ts<|tv (bK [wA] 1 rfl)<|tc [0] (ae _ br50)<|tk<|Av (.dx [0,0,2,0,14] [] [] [])<|ts<|tw (az e)<|tv (fU.sc bl51)<|tc [0] (dR R110 hR110 _ br52)<|ts<|tv (bK [zE] 1 rfl)<|tc [0] (ae _ br53)<|tk<|Av (.dx [0,0,2,0,14,30] [] [] [])<|ts<|tw (az e)<|tv (fU.ia (k:=.i64) bx54)<|tv (aY x54)<|tc [0] (hR110 _ _ _ _ br55)<|tE)<|tE
noncomputable def RX:Code:=f209.body.getD .skip
def Y5:List Nat:=[]
theorem RO:ZF Pg Y5 209 f209 RX:=zf call209 func209 rfl mixed
section
variable(e:am)(t4:Int)
def BL:Option Bool:=
 if(t4==7)=true then
  some (t4==7)
 else if(t4==8)=true then
  some (t4==8)
 else if(t4==9)=true then
  some (t4==9)
 else if(t4==6)=true then
  some (t4==6)
 else
  some (t4==25)
theorem Gv:OJ 0 (cA RX 54) (BL t4) .normal (λo=>aM 36 [(1,.eptr (aj e)),(4,.int .i64 t4),(5,.bool o)] [.dead] []) (aM 36 [(1,.eptr (aj e)),(4,.int .i64 t4)] [.dead] []):=RO.j<|
 tF tE<|tF tE<|tF tE<|tF tE<|tE
end
section
variable(t4:Int)
def BM:Option Bool:=
 if(t4==16)=true then
  some (t4==16)
 else if(t4==17)=true then
  some (t4==17)
 else
  some (t4==18)
theorem Gw:OJ 0 (cA RX 14334) (BM t4) .normal (λo=>aM 36 [(4,.int .i64 t4),(23,.bool o)] [.dead] []) (aM 36 [(4,.int .i64 t4)] [.dead] []):=RO.j<|
 tF tE<|tF tE<|tE
end
section
variable(t4:Int)
def BN:Option Bool:=
 if(t4==10)=true then
  some (t4==10)
 else
  some (t4==11)
theorem Gx:OJ 0 (cA RX 57342) (BN t4) .normal (λo=>aM 36 [(4,.int .i64 t4),(27,.bool o)] [.dead] []) (aM 36 [(4,.int .i64 t4)] [.dead] []):=RO.j<|
 tF tE<|tE
end
section
variable(t4:Int)
def BO:Option Bool:=
 if(t4==12)=true then
  some (t4==12)
 else if(t4==13)=true then
  some (t4==13)
 else
  some (t4==14)
theorem Gy:OJ 0 (cA RX 229374) (BO t4) .normal (λo=>aM 36 [(4,.int .i64 t4),(30,.bool o)] [.dead] []) (aM 36 [(4,.int .i64 t4)] [.dead] []):=RO.j<|
 tF tE<|tF tE<|tE
end
def v8(e:am):Option Int:=
 (BL e.Op).bind λo5=>
 if o5=true then
  some 0
 else if(e.Op==20)=true then
  some 1
 else if(e.Op==19)=true then
  some 2
 else if(e.Op==21)=true then
  (dw e.Kids 0).bind λx10=>
  if(x10.Op==16)=true then
   some 4
  else
   some 3
 else
  (BM e.Op).bind λo14=>
  if o14=true then
   some 4
  else
   (BN e.Op).bind λo17=>
   if o17=true then
    some 5
   else
    (BO e.Op).bind λo21=>
    if o21=true then
     some 6
    else if(e.Op==15)=true then
     some 7
    else
     some 8
theorem tG{e:am}:OV 209 [.agg (aj e)] (v8 e) (λr=>.int .i64 r) []:=RO.v<|
 tb λo5 bo5=>te (cO e)<|tw (bu e)<|gz 0<|cu (Gv e e.Op _ bo5)<|tF tE<|tF tE<|tF tE<|tF (tb λx10 bx10=>tw (az e)<|tv (fU.ia (k:=.i64) bx10)<|tw (bu x10)<|tF tE<|tE)<|tb λo14 bo14=>gz 0<|cu (Gw e.Op _ bo14)<|tF tE<|tb λo17 bo17=>gz 0<|cu (Gx e.Op _ bo17)<|tF tE<|tb λo21 bo21=>gz 0<|cu (Gy e.Op _ bo21)<|tF tE<|tF tE<|tE
noncomputable def qbo:Code:=f208.body.getD .skip
def Y4:List Nat:=[]
theorem qap:ZF Pg Y4 208 f208 qbo:=zf call208 func208 rfl mixed
def gQ(R110:bh)(e:am)(least:Int)(k0:(List Int))(k02:Bool):Option ((List Int)×Bool):=
 (v8 e).bind λr1=>
 if decide (r1<least)=true then
  (af ([mD]:List ac) k0 k02).bind λr3=>
  (R110 e r3 k02).bind λr4=>
  (af ([mE]:List ac) r4.1 r4.2).bind λr5=>
  some (r5,r4.2)
 else
  (R110 e k0 k02).bind λr6=>
  some (r6.1,r6.2)
theorem gK(R110:bh)(hR110:ch R110){e:am}{least:Int}{k0:(List Int)}{k02:Bool}:OG 208 [.bptr 0 0,.agg (aj e),.int .i64 least] [] [.cells [.nptr 0 132,sl (cI .u8) k0,.bool k02] [(1,5)]] (gQ R110 e least k0 k02) (λr=>.tuple []) [] (λr=>[.cells [.nptr 0 132,sl (cI .u8) r.1,.bool r.2] [(1,5)]]):=qap.g 1<|
 tb λr1 br1=>te (cO e)<|tv (aY e)<|ck (tG _ br1)<|tF (tb λr3 br3=>tb λr4 br4=>tb λr5 br5=>tv (bK [mD] 1 rfl)<|tc [0] (ae _ br3)<|tv (aY e)<|tc [0] (hR110 _ _ _ _ br4)<|tv (bK [mE] 1 rfl)<|tc [0] (ae _ br5)<|tE)<|tb λr6 br6=>tv (aY e)<|tc [0] (hR110 _ _ _ _ br6)<|tE
noncomputable def qbn:Code:=f207.body.getD .skip
def Y3:List Nat:=[]
theorem qao:ZF Pg Y3 207 f207 qbn:=zf call207 func207 rfl mixed
def gJ(R110:bh)(a:am)(sign:ac)(a2:am)(first:Int)(second:Int)(k0:(List Int))(k02:Bool):Option ((List Int)×Bool):=
 (gQ R110 a first k0 k02).bind λr1=>
 (af ([wA,sign,wA]:List ac) r1.1 r1.2).bind λr2=>
 (gQ R110 a2 second r2 r1.2).bind λr3=>
 some (r3.1,r3.2)
theorem ir(R110:bh)(hR110:ch R110){a:am}{sign:ac}{a2:am}{first:Int}{second:Int}{k0:(List Int)}{k02:Bool}:OG 207 [.bptr 0 0,.agg (aj a),.str sign,.agg (aj a2),.int .i64 first,.int .i64 second] [] [.cells [.nptr 0 132,sl (cI .u8) k0,.bool k02] [(1,5)]] (gJ R110 a sign a2 first second k0 k02) (λr=>.tuple []) [] (λr=>[.cells [.nptr 0 132,sl (cI .u8) r.1,.bool r.2] [(1,5)]]):=qao.g 1<|
 tb λr1 br1=>tb λr2 br2=>tb λr3 br3=>te (cO a)<|te (cO a2)<|tv (aY a)<|tc [0] (gK R110 hR110 _ br1)<|tv (bK [wA,sign,wA] 3 rfl)<|tc [0] (ae _ br2)<|tv (aY a2)<|tc [0] (gK R110 hR110 _ br3)<|tE
noncomputable def UU:Code:=f161.body.getD .skip
def YD:List Nat:=[]
theorem UG:ZF Pg YD 161 f161 UU:=zf call161 func161 rfl mixed
section
variable(e:am)(t6:Int)(m:(List Int))(m2:Bool)
def pZ:Option Bool:=
 if(t6==6)=true then
  some (t6==6)
 else if(t6==7)=true then
  some (t6==7)
 else if(t6==8)=true then
  some (t6==8)
 else if(t6==9)=true then
  some (t6==9)
 else
  some (t6==25)
theorem xJ:OJ 1 (cA UU 32766) (pZ t6) .normal (λo=>aM 203 [(0,.bptr 0 0),(3,.eptr (aj e)),(6,.int .i64 t6),(90,.bool o)] [.cells [.nptr 0 132,sl (cI .u8) m,.bool m2] [(1,5)],.dead] []) (aM 203 [(0,.bptr 0 0),(3,.eptr (aj e)),(6,.int .i64 t6)] [.cells [.nptr 0 132,sl (cI .u8) m,.bool m2] [(1,5)],.dead] []):=UG.j<|
 tF tE<|tF tE<|tF tE<|tF tE<|tE
end
section
variable(e:am)(t6:Int)(m:(List Int))(m2:Bool)
def p4:Option Bool:=
 if(t6==16)=true then
  some (t6==16)
 else if(t6==17)=true then
  some (t6==17)
 else
  some (t6==18)
theorem xK:OJ 1 (cA UU 536870910) (p4 t6) .normal (λo=>aM 203 [(0,.bptr 0 0),(3,.eptr (aj e)),(185,.bool o)] [.cells [.nptr 0 132,sl (cI .u8) m,.bool m2] [(1,5)],.dead] []) (aM 203 [(0,.bptr 0 0),(3,.eptr (aj e)),(6,.int .i64 t6)] [.cells [.nptr 0 132,sl (cI .u8) m,.bool m2] [(1,5)],.dead] []):=UG.j<|
 tF tE<|tF tE<|tE
end
def ru(R110:bh)(e:am)(k0:(List Int))(k02:Bool):Option ((List Int)×Bool):=
 if(e.Op==1)=true then
  if decide (e.N<0)=true then
   (NW e.N).bind λr3=>
   (af ([mD,r3,mE]:List ac) k0 k02).bind λr4=>
   some (r4,k02)
  else
   (NW e.N).bind λr5=>
   (af ([r5]:List ac) k0 k02).bind λr6=>
   some (r6,k02)
 else if(e.Op==2)=true then
  (mh (e.N==1)).bind λr8=>
  (af ([r8]:List ac) k0 k02).bind λr9=>
  some (r9,k02)
 else if(e.Op==3)=true then
  (bY e.Name k0 k02).bind λr11=>
  some (r11.2,r11.1)
 else if(e.Op==4)=true then
  (iu e.Name k0 k02).bind λr13=>
  (mg e.Types r13.2 r13.1).bind λr14=>
  if decide ((e.Kids.length:Int)>0)=true then
   (ea R110 e.Kids r14.1 r14.2).bind λr16=>
   some (r16.1,r16.2)
  else
   some (r14.1,r14.2)
 else if(e.Op==5)=true then
  (bY e.Name k0 k02).bind λr18=>
  (mg e.Types r18.2 r18.1).bind λr19=>
  (ea R110 e.Kids r19.1 r19.2).bind λr20=>
  some (r20.1,r20.2)
 else
  (pZ e.Op).bind λo25=>
  if o25=true then
   (tH R110 e k0 k02).bind λr27=>
   some (r27.1,r27.2)
  else if(e.Op==21)=true then
   (dw e.Kids 0).bind λx29=>
   if(x29.Op==16)=true then
    (dw x29.Kids 0).bind λx31=>
    (dw x29.Kids 1).bind λx32=>
    (gJ R110 x31 Cm x32 5 5 k0 k02).bind λr33=>
    some (r33.1,r33.2)
   else
    (af ([Qp]:List ac) k0 k02).bind λr34=>
    (gQ R110 x29 3 r34 k02).bind λr35=>
    some (r35.1,r35.2)
  else if(e.Op==15)=true then
   (af ([IE]:List ac) k0 k02).bind λr37=>
   (dw e.Kids 0).bind λx38=>
   (gQ R110 x38 7 r37 k02).bind λr39=>
   some (r39.1,r39.2)
  else if(e.Op==22)=true then
   (af ([Uz]:List ac) k0 k02).bind λr41=>
   (ea R110 e.Kids r41 k02).bind λr42=>
   some (r42.1,r42.2)
  else if(e.Op==23)=true then
   (af ([Uy]:List ac) k0 k02).bind λr44=>
   (ea R110 e.Kids r44 k02).bind λr45=>
   some (r45.1,r45.2)
  else if(e.Op==24)=true then
   (af ([UA]:List ac) k0 k02).bind λr47=>
   (ea R110 e.Kids r47 k02).bind λr48=>
   some (r48.1,r48.2)
  else if(e.Op==26)=true then
   (af ([mD]:List ac) k0 k02).bind λr50=>
   (dw e.Kids 0).bind λx51=>
   (R110 x51 r50 k02).bind λr52=>
   (af ([dA]:List ac) r52.1 r52.2).bind λr53=>
   (dw e.Types 0).bind λx54=>
   (dT x54 r53 r52.2).bind λr55=>
   (af ([mE]:List ac) r55.2 r55.1).bind λr56=>
   some (r56,r55.1)
  else
   (p4 e.Op).bind λo59=>
   if o59=true then
    (dw e.Kids 0).bind λx61=>
    (dw g8 e.Op).bind λx62=>
    (dw e.Kids 1).bind λx63=>
    (gJ R110 x61 x62 x63 5 5 k0 k02).bind λr64=>
    some (r64.1,r64.2)
   else
    (dw e.Kids 0).bind λx65=>
    (dw g8 e.Op).bind λx66=>
    (dw e.Kids 1).bind λx67=>
    (v8 e).bind λr68=>
    (v8 e).bind λr69=>
    (gJ R110 x65 x66 x67 r68 (fh (r69+1)) k0 k02).bind λr70=>
    some (r70.1,r70.2)
theorem AO(R110:bh)(hR110:ch R110){e:am}{k0:(List Int)}{k02:Bool}:OG 161 [.bptr 0 0,.agg (aj e)] [] [.cells [.nptr 0 132,sl (cI .u8) k0,.bool k02] [(1,5)]] (ru R110 e k0 k02) (λr=>.tuple []) [] (λr=>[.cells [.nptr 0 132,sl (cI .u8) r.1,.bool r.2] [(1,5)]]):=UG.g 1<|
 te (cO e)<|tw (bu e)<|tF (tw (cq e)<|tF (tb λr3 br3=>tb λr4 br4=>tw (cq e)<|ck (Jk br3)<|tv (bK [mD,r3,mE] 3 rfl)<|tc [0] (ae _ br4)<|tE)<|tb λr5 br5=>tb λr6 br6=>tw (cq e)<|ck (Jk br5)<|tv (bK [r5] 1 rfl)<|tc [0] (ae _ br6)<|tE)<|tF (tb λr8 br8=>tb λr9 br9=>tw (cq e)<|ck (oP _ br8)<|tv (bK [r8] 1 rfl)<|tc [0] (ae _ br9)<|tE)<|tF (tb λr11 br11=>tw (bM e)<|tc [0] (bI _ br11)<|tE)<|tF (tb λr13 br13=>tb λr14 br14=>tw (bM e)<|tc [0] (iY _ br13)<|tw (av e)<|tc [0] (oL _ br14)<|tw (az e)<|cb (fU.ln e.Kids)<|tF (tb λr16 br16=>tw (az e)<|tc [0] (dR R110 hR110 _ br16)<|tE)<|tE)<|tF (tb λr18 br18=>tb λr19 br19=>tb λr20 br20=>tw (bM e)<|tc [0] (bI _ br18)<|tw (av e)<|tc [0] (oL _ br19)<|tw (az e)<|tc [0] (dR R110 hR110 _ br20)<|tE)<|tb λo25 bo25=>gz 0<|cu (xJ e e.Op k0 k02 _ bo25)<|tF (tb λr27 br27=>tv (aY e)<|tc [0] (AN R110 hR110 _ br27)<|tE)<|tF (tb λx29 bx29=>tw (az e)<|tv (fU.ia (k:=.i64) bx29)<|tv (aY x29)<|tx Nk<|tx (ms x29)<|ts<|tF (tb λx31 bx31=>tb λx32 bx32=>tb λr33 br33=>tk<|Av (.dx [0,0,2,6,14,0,32,96,224] [] [] [])<|ts<|tv (fU.ia (k:=.i64) bx31)<|tv (aY x31)<|ts<|tv (fU.ia (k:=.i64) bx32)<|tv (aY x32)<|tc [0] (ir R110 hR110 _ br33)<|tE)<|tb λr34 br34=>tb λr35 br35=>tv (bK [Qp] 1 rfl)<|tc [0] (ae _ br34)<|tv (eg x29 [])<|tc [0] (gK R110 hR110 _ br35)<|tE)<|tF (tb λr37 br37=>tb λx38 bx38=>tb λr39 br39=>tv (bK [IE] 1 rfl)<|tc [0] (ae _ br37)<|tw (az e)<|tv (fU.ia (k:=.i64) bx38)<|tv (aY x38)<|tc [0] (gK R110 hR110 _ br39)<|tE)<|tF (tb λr41 br41=>tb λr42 br42=>tv (bK [Uz] 1 rfl)<|tc [0] (ae _ br41)<|tw (az e)<|tc [0] (dR R110 hR110 _ br42)<|tE)<|tF (tb λr44 br44=>tb λr45 br45=>tv (bK [Uy] 1 rfl)<|tc [0] (ae _ br44)<|tw (az e)<|tc [0] (dR R110 hR110 _ br45)<|tE)<|tF (tb λr47 br47=>tb λr48 br48=>tv (bK [UA] 1 rfl)<|tc [0] (ae _ br47)<|tw (az e)<|tc [0] (dR R110 hR110 _ br48)<|tE)<|tF (tb λr50 br50=>tb λx51 bx51=>tb λr52 br52=>tb λr53 br53=>tb λx54 bx54=>tb λr55 br55=>tb λr56 br56=>tv (bK [mD] 1 rfl)<|tc [0] (ae _ br50)<|tw (az e)<|tv (fU.ia (k:=.i64) bx51)<|tv (aY x51)<|tc [0] (hR110 _ _ _ _ br52)<|tv (bK [dA] 1 rfl)<|tc [0] (ae _ br53)<|tw (av e)<|tv (dC.ia (k:=.i64) bx54)<|tv (dP x54)<|tc [0] (dU _ br55)<|tv (bK [mE] 1 rfl)<|tc [0] (ae _ br56)<|tE)<|tb λo59 bo59=>gz 0<|cu (xK e e.Op k0 k02 _ bo59)<|tF (tb λx61 bx61=>tb λx62 bx62=>tb λx63 bx63=>tb λr64 br64=>tk<|Av (.dx [0,0,2,6,14,0,32,96,224,0,512,1536,3584] [] [] [])<|tw (az e)<|tv (fU.ia (k:=.i64) bx61)<|tv (aY x61)<|tw (bu e)<|tv (BP (k:=.i64) bx62)<|tv (BQ bx62)<|tw (az e)<|tv (fU.ia (k:=.i64) bx63)<|tv (aY x63)<|tc [0] (ir R110 hR110 _ br64)<|tE)<|tb λx65 bx65=>tb λx66 bx66=>tb λx67 bx67=>tb λr68 br68=>tb λr69 br69=>tb λr70 br70=>tk<|Av (.dx [0,0,2,6,14,0,32,96,224,0,512,1536,3584,0,8192,0,57344,122880] [] [] [])<|tw (az e)<|tv (fU.ia (k:=.i64) bx65)<|tv (aY x65)<|tw (bu e)<|tv (BP (k:=.i64) bx66)<|tv (BQ bx66)<|tw (az e)<|tv (fU.ia (k:=.i64) bx67)<|tv (aY x67)<|tv (aY e)<|ck (tG _ br68)<|tv (aY e)<|ck (tG _ br69)<|tc [0] (ir R110 hR110 _ br70)<|tE
def rv:((am×(List Int)×Bool)->Option ((List Int)×Bool))->(am×(List Int)×Bool)->Option ((List Int)×Bool):=λ(rec:(am×(List Int)×Bool)->Option ((List Int)×Bool)) (x:am×(List Int)×Bool)=>ru (λe k0 k02=>rec (e,k0,k02)) x.1 x.2.1 x.2.2
def wb(e:am)(k0:(List Int))(k02:Bool):Option ((List Int)×Bool):=Bq rv (e,k0,k02)
theorem BT{e:am}{k0:(List Int)}{k02:Bool}:OG 161 [.bptr 0 0,.agg (aj e)] [] [.cells [.nptr 0 132,sl (cI .u8) k0,.bool k02] [(1,5)]] (wb e k0 k02) (λr=>.tuple []) [] (λr=>[.cells [.nptr 0 132,sl (cI .u8) r.1,.bool r.2] [(1,5)]]):=N4 λ_ h=>
 fg (F:=rv) (M:=λ(x:am×(List Int)×Bool) (r:(List Int)×Bool)=>C Pg GE 161 [.bptr 0 0,.agg (aj x.1)] [] [.cells [.nptr 0 132,sl (cI .u8) x.2.1,.bool x.2.2] [(1,5)]] (.tuple []) [] [.cells [.nptr 0 132,sl (cI .u8) r.1,.bool r.2] [(1,5)]]) (λrec hrec x r h=>AO _ (λe k0 k02=>N4 λr h=>hrec (e,k0,k02) r h) _ h) h
noncomputable def qaU:Code:=f108.body.getD .skip
def Yc:List Nat:=[]
theorem ZW:ZF Pg Yc 108 f108 qaU:=zf call108 func108 rfl mixed
def tU(e:am)(k0:(List Int))(k02:Bool):Option (Bool×(List Int)):=
 (GI e).bind λr1=>
 if(r1 !=0)=true then
  some (true,k0)
 else
  (wb e k0 k02).bind λr3=>
  some (r3.2,r3.1)
theorem AU{e:am}{k0:(List Int)}{k02:Bool}:OG 108 [.bptr 0 0,.agg (aj e)] [] [.cells [.nptr 0 132,sl (cI .u8) k0,.bool k02] [(1,5)]] (tU e k0 k02) (λr=>.tuple []) [] (λr=>[.cells [.nptr 0 132,sl (cI .u8) r.2,.bool r.1] [(1,5)]]):=ZW.g 1<|
 tb λr1 br1=>te (cO e)<|tv (aY e)<|ck (I5 _ br1)<|tF (ts<|tE)<|tb λr3 br3=>tv (aY e)<|tc [0] (BT _ br3)<|tE
noncomputable def X0:Code:=f77.body.getD .skip
def qd5:List Nat:=[]
theorem XX:ZF Pg qd5 77 f77 X0:=zf call77 func77 rfl mixed
section
variable(d:bD)(assumed:Bool)(m:(List Int))(m2:Bool)
def rq:Option (((List Int)×Bool)):=
 if(d.Mode==0)=true then
  (af ([Ow]:List ac) m m2).bind λr2=>
  some (r2,m2)
 else if(d.Mode==2)=true then
  (af ([G9]:List ac) m m2).bind λr4=>
  some (r4,m2)
 else if(d.Mode==1)=true then
  (af ([IG]:List ac) m m2).bind λr6=>
  some (r6,m2)
 else
  some (m,true)
theorem za:OJ 1 (cA X0 14) (rq d m m2) .normal (λo=>aM 75 [(0,.bptr 0 0),(3,.eptr (aQ d)),(4,.bool assumed)] [.cells [.nptr 0 132,sl (cI .u8) o.1,.bool o.2] [(1,5)],.dead] []) (aM 75 [(0,.bptr 0 0),(3,.eptr (aQ d)),(4,.bool assumed)] [.cells [.nptr 0 132,sl (cI .u8) m,.bool m2] [(1,5)],.dead] []):=XX.j<|
 tw (mV d)<|tF (tb λr2 br2=>tv (bK [Ow] 1 rfl)<|tc [0] (ae _ br2)<|tE)<|tF (tb λr4 br4=>tv (bK [G9] 1 rfl)<|tc [0] (ae _ br4)<|tE)<|tF (tb λr6 br6=>tv (bK [IG] 1 rfl)<|tc [0] (ae _ br6)<|tE)<|ts<|tE
end
section
variable(d:bD)(assumed:Bool)(m:(List Int))(m2:Bool)
def rr:Option Bool:=
 if(d.Mode !=0)=true then
  if(!d.Typed)=true then
   some true
  else if assumed=true then
   (B9 d.Body (⟨0,([]:ac),0,([]:List am),([]:List aU),([]:List ca),([]:List al)⟩:am)).bind λr14=>
   some (!r14)
  else
   some false
 else if assumed=true then
  (B9 d.Body (⟨0,([]:ac),0,([]:List am),([]:List aU),([]:List ca),([]:List al)⟩:am)).bind λr17=>
  some (!r17)
 else
  some false
theorem zb:OJ 1 (cA X0 60) (rr d assumed) .normal (λo=>aM 75 [(0,.bptr 0 0),(3,.eptr (aQ d)),(4,.bool assumed),(45,.bool o)] [.cells [.nptr 0 132,sl (cI .u8) m,.bool m2] [(1,5)],.dead] []) (aM 75 [(0,.bptr 0 0),(3,.eptr (aQ d)),(4,.bool assumed)] [.cells [.nptr 0 132,sl (cI .u8) m,.bool m2] [(1,5)],.dead] []):=XX.j<|
 have pp9:=λ{X Y Z} (r:PV _ X Y Z)=>tw (mV d)<|r;tf (λc8=>have pp11:=λ{X Y Z} (r:PV _ X Y Z)=>pp9<|tg 4 c8<|tw (vI d)<|r;tf (λc10=>pp11<|tg 9 c10<|tE) λc10=>have pp13:=λ{X Y Z} (r:PV _ X Y Z)=>pp11<|tg 9 c10<|r;tf (λc12=>tb λr14 br14=>pp13<|tg 11 c12<|tw (jh d)<|Mf (Eb) (D9)<|ck (Ca _ br14)<|tE) λc12=>pp13<|tg 11 c12<|tE) λc8=>have pp16:=λ{X Y Z} (r:PV _ X Y Z)=>pp9<|tg 4 c8<|r;tf (λc15=>tb λr17 br17=>pp16<|tg 11 c15<|tw (jh d)<|Mf (Eb) (D9)<|ck (Ca _ br17)<|tE) λc15=>pp16<|tg 11 c15<|tE
end
section
variable(d:bD)(assumed:Bool)(m:(List Int))(m2:Bool)
def rt:Option (((List Int)×Bool)):=
 if d.Typed=true then
  (af ([dA]:List ac) m m2).bind λr23=>
  (xS d.Sig r23 m2).bind λr24=>
  some (r24.1,r24.2)
 else
  some (m,m2)
theorem zc:OJ 1 (cA X0 254) (rt d m m2) .normal (λo=>aM 75 [(0,.bptr 0 0),(3,.eptr (aQ d)),(4,.bool assumed)] [.cells [.nptr 0 132,sl (cI .u8) o.1,.bool o.2] [(1,5)],.dead] []) (aM 75 [(0,.bptr 0 0),(3,.eptr (aQ d)),(4,.bool assumed)] [.cells [.nptr 0 132,sl (cI .u8) m,.bool m2] [(1,5)],.dead] []):=XX.j<|
 tw (vI d)<|tF (tb λr23 br23=>tb λr24 br24=>tv (bK [dA] 1 rfl)<|tc [0] (ae _ br23)<|tw (Er d)<|tc [0] (C4 _ br24)<|tE)<|tE
end
def xI(d:bD)(k0:(List Int))(k02:Bool):Option ((List Int)×Bool):=
 (rq d k0 k02).bind λo7=>
 (rr d (d.Mode==1)).bind λo18=>
 if o18=true then
  some (o7.1,true)
 else
  (bY d.Name o7.1 o7.2).bind λr20=>
  (mf d.Params r20.2 r20.1).bind λr21=>
  (rt d r21.1 r21.2).bind λo25=>
  if(!(d.Mode==1))=true then
   (af ([wC]:List ac) o25.1 o25.2).bind λr27=>
   (tU d.Body r27 o25.2).bind λr28=>
   some (r28.2,r28.1)
  else
   some (o25.1,o25.2)
theorem C3{d:bD}{k0:(List Int)}{k02:Bool}:OG 77 [.bptr 0 0,.agg (aQ d)] [] [.cells [.nptr 0 132,sl (cI .u8) k0,.bool k02] [(1,5)]] (xI d k0 k02) (λr=>.tuple []) [] (λr=>[.cells [.nptr 0 132,sl (cI .u8) r.1,.bool r.2] [(1,5)]]):=XX.g 1<|
 tb λo7 bo7=>tb λo18 bo18=>te (FY d)<|tw (mV d)<|gz 0<|cu (za d (d.Mode==1) k0 k02 _ bo7)<|gz 1<|cu (zb d (d.Mode==1) o7.1 o7.2 _ bo18)<|tF (ts<|tE)<|tb λr20 br20=>tb λr21 br21=>tb λo25 bo25=>tw (Hm d)<|tc [0] (bI _ br20)<|tw (mU d)<|tc [0] (oB _ br21)<|gz 0<|cu (zc d (d.Mode==1) r21.1 r21.2 _ bo25)<|tF (tb λr27 br27=>tb λr28 br28=>tv (bK [wC] 1 rfl)<|tc [0] (ae _ br27)<|tw (jh d)<|tc [0] (AU _ br28)<|tE)<|tE
noncomputable def qaV:Code:=f109.body.getD .skip
def Ye:List Nat:=[]
theorem ZX:ZF Pg Ye 109 f109 qaV:=zf call109 func109 rfl mixed
def rL(k0:(List Int))(k02:Bool):Option Int:=
 some (k0.length:Int)
theorem zy{k0:(List Int)}{k02:Bool}:OG 109 [.bptr 0 0] [] [.cells [.nptr 0 132,sl (cI .u8) k0,.bool k02] [(1,5)]] (rL k0 k02) (λr=>.int .i64 r) [] (λr=>[.cells [.nptr 0 132,sl (cI .u8) k0,.bool k02] [(1,5)]]):=ZX.g 1<|
 ts<|cb (SP.ln k0)<|tE
noncomputable def qeG:Code:=f78.body.getD .skip
def qd6:List Nat:=[]
theorem qep:ZF Pg qd6 78 f78 qeG:=zf call78 func78 rfl mixed
def wa(k0:(List Int))(k02:Bool):Option (ac×Int):=
 if k02=true then
  some (([]:ac),6)
 else
  (rL k0 k02).bind λr2=>
  if decide (r2>40000)=true then
   some (([]:ac),7)
  else
   (Jx k0 k02).bind λr4=>
   some (r4,0)
theorem BS{k0:(List Int)}{k02:Bool}:OG 78 [.bptr 0 0] [] [.cells [.nptr 0 132,sl (cI .u8) k0,.bool k02] [(1,5)]] (wa k0 k02) (λr=>.tuple [.str r.1,.int .i64 r.2]) [] (λr=>[.cells [.nptr 0 132,sl (cI .u8) k0,.bool k02] []]):=qep.g 1<|
 ts<|tF tE<|tb λr2 br2=>tc [0] (zy _ br2)<|tF tE<|tb λr4 br4=>tc [0] (K9 br4)<|tE
noncomputable def qez:Code:=f57.body.getD .skip
def qdV:List Nat:=[]
theorem qej:ZF Pg qdV 57 f57 qez:=zf call57 func57 rfl mixed
def Mc(d:bD):Option (ac×Int):=
 (xI d ([]:List Int) false).bind λr1=>
 (wa r1.1 r1.2).bind λr2=>
 some (r2.1,r2.2)
theorem Nj{d:bD}:OV 57 [.agg (aQ d)] (Mc d) (λr=>.tuple [.str r.1,.int .i64 r.2]) []:=qej.v<|
 tb λr1 br1=>tb λr2 br2=>te (FY d)<|Mf (show cF Pg 132 []=some (.agg [.val (.pointer none),sl (cI .u8) ([]:List Int),.bool false]) by kernel_rfl) (show wL Pg 132 [] [(1,5)]from⟨[.val (.pointer none),.val dv,.bool false],by kernel_rfl,(aI rfl vzz)⟩)<|ty (qe3 [.val (.pointer none),sl (cI .u8) ([]:List Int),.bool false])<|tv (vS d)<|tc [1] (C3 _ br1)<|tc [1] (BS _ br2)<|tE
noncomputable def qew:Code:=f38.body.getD .skip
def qdP:List Nat:=[12]
theorem qeg:ZF Pg qdP 38 f38 qew:=zf call38 func38 rfl mixed
def pN(d:bD):Option ac:=
 (Mc d).bind λr1=>
 if(r1.2 !=0)=true then
  some Qt
 else
  some r1.1
theorem mS{d:bD}:OV 38 [.agg (aQ d)] (pN d) (λr=>.str r) []:=qeg.v<|
 tb λr1 br1=>te (FY d)<|tv (vS d)<|ck (Nj _ br1)<|tF tE<|tE
def eR(s:ac)(k0:(List Int)):Option (Int×Unit×(List Int)):=
 (H8 k0).bind λr1=>
 (Te k0 s).bind λl2=>
 some ((s.length:Int),(),l2)
theorem gj{s:ac}{k0:(List Int)}:OG 67 [.bptr 0 0,.str s] [] [.cells [.nptr 0 106,sl (cI .u8) k0] [(1,5)]] (eR s k0) (λr=>.tuple [.int .i64 r.1,.val .nilIface]) [] (λr=>[.cells [.nptr 0 106,sl (cI .u8) r.2.2] [(1,5)]]):=qcY.g 1<|
 tb λr1 br1=>tb λl2 bl2=>tc [0] (Jv br1)<|ti (.z [sl (cI .u8) l2]) (PM SP underlying9 (by kernel_rfl) (by kernel_rfl) (by kernel_rfl) bl2)<|cb (wr underlying9 s)<|tE
noncomputable def qeB:Code:=f66.body.getD .skip
def qdZ:List Nat:=[]
theorem qel:ZF Pg qdZ 66 f66 qeB:=zf call66 func66 rfl mixed
def d8(s:ac)(k0:(List Int)):Option ((List Int)):=
 (eR s k0).bind λr1=>
 (eR qcL r1.2.2).bind λr2=>
 some r2.2.2
theorem dz{s:ac}{k0:(List Int)}:OG 66 [.str s,.bptr 0 0] [] [.cells [.nptr 0 106,sl (cI .u8) k0] [(1,5)]] (d8 s k0) (λr=>.tuple []) [] (λr=>[.cells [.nptr 0 106,sl (cI .u8) r] [(1,5)]]):=qel.g 1<|
 tb λr1 br1=>tb λr2 br2=>tc [0] (gj _ br1)<|tc [0] (gj _ br2)<|tE
def Gu(m:aw):Option (ac×Int):=none
theorem I3{m:aw}:OV 86 [.agg (aq m)] (Gu m) (λr=>.tuple [.str r.1,.int .i64 r.2]) []:=N5 λr h=>by cases(show(none:Option _)=some r from h)
noncomputable def qeD:Code:=f69.body.getD .skip
def qd1:List Nat:=[12]
theorem qem:ZF Pg qd1 69 f69 qeD:=zf call69 func69 rfl mixed
def lN(m:aw):Option ac:=
 (Gu m).bind λr1=>
 if(r1.2 !=0)=true then
  some Qt
 else
  some r1.1
theorem lW{m:aw}:OV 69 [.agg (aq m)] (lN m) (λr=>.str r) []:=qem.v<|
 tb λr1 br1=>te (dM m)<|tv (bN m)<|ck (I3 _ br1)<|tF tE<|tE
noncomputable def qbO:Code:=f30.body.getD .skip
def qdO:List Nat:=[16,21]
theorem qcW:ZF Pg qdO 30 f30 qbO:=zf call30 func30 rfl mixed
section
variable(t7:waJ)(t8:Int)(out:waJ)(t9:Int)
def fL:ay:=aM 22 [(3,sl aQ out),(7,sl aQ t7),(8,.int .i64 t8),(9,.int .i64 t9)] [.dead] [((3,0),65)]
def iU(o:waJ):ay:=aM 22 [(3,sl aQ o)] [.dead] [((3,0),65)]
instance iS_depend_reflected_L1:KS 0 (fL t7 t8 out t9):=⟨rfl,(bk (aI (up (ak fZ out)) (aI (up (ak fZ t7)) (aI vzz (aI vzz vzz))))),(aI vzz vzz)⟩
instance iO_depend_reflected_L1{o:waJ}:KS 0 (iU o):=⟨rfl,(bk (aI (up (ak fZ o)) trivial)),(aI vzz vzz)⟩
def nX:Option ((waJ×Int)⊕(waJ)):=
 if decide (t9<t8)=true then
  (dw t7 t9).bind λx2=>
  if(x2.Mode==2)=true then
   (app out ([x2]:List bD)).bind λl4=>
   some (.inl (l4,fh (t9+1)))
  else
   some (.inl (out,fh (t9+1)))
 else
  some (.inr out)
def qZ:Option waJ:=loop (λ(zz:waJ×Int)=>nX t7 t8 zz.1 zz.2) (out,t9)
theorem xk:OL 0 (cA qbO 119) (nX t7 t8 out t9) (λ(zz:waJ×Int)=>fL t7 t8 zz.1 zz.2) (λ_=>.exit 0) iU (fL t7 t8 out t9):=qcW.lx<|
 tF (tb λx2 bx2=>tv (AV.ia (k:=.i64) bx2)<|tv (vS x2)<|tx zt<|tx (dQ x2)<|ts<|tF (tb λl4 bl4=>tv (mY x2 [])<|tv (AV.mk' (v:=H6) BF ([x2]:List bD) 1 (by kernel_rfl))<|tv (AV.ap bl4)<|tE)<|tE)<|tE
theorem yK:OJ 0 (.loop (cA qbO 119)) (qZ t7 t8 out t9) (.exit 0) iU (fL t7 t8 out t9):=sQ λ_=>xk _ _ _ _
end
def kh(m:aw):Option waJ:=
 (qZ m.Defs (m.Defs.length:Int) ([]:List bD) 0).bind λo5=>
 some o5
theorem ra{m:aw}:OV 30 [.agg (aq m)] (kh m) (λr=>sl aQ r) [(0,65)]:=qcW.v<|
 tb λo5 bo5=>te (dM m)<|tw (f8 m)<|cb (AV.ln m.Defs)<|cu (yK m.Defs (m.Defs.length:Int) ([]:List bD) 0 _ bo5)<|tE
noncomputable def qbQ:Code:=f62.body.getD .skip
def qdY:List Nat:=[]
theorem qcX:ZF Pg qdY 62 f62 qbQ:=zf call62 func62 rfl mixed
section
variable(t6:waA)(t7:Int)(t8:Int)(m1:(List (ac×Bool)))
def kQ:ay:=aM 18 [(0,.bptr 0 0),(6,sl cS t6),(7,.int .i64 t7),(8,.int .i64 t8)] [.cells [.mapr 1] [],.map (bA PVal.bool m1)] []
def rQ(o:(List (ac×Bool))):ay:=aM 18 [] [.cells [.mapr 1] [],.map (bA PVal.bool o)] []
def rO:Option ((Int×(List (ac×Bool)))⊕(((List (ac×Bool))))):=
 if decide (t8<t7)=true then
  (dw t6 t8).bind λx2=>
  some (.inl (fh (t8+1),FH m1 x2 true))
 else
  some (.inr m1)
def wy:Option (((List (ac×Bool)))):=loop (λ(zz:Int×(List (ac×Bool)))=>rO t6 t7 zz.1 zz.2) (t8,m1)
theorem AW:OL 2 (cA qbQ 15) (rO t6 t7 t8 m1) (λ(zz:Int×(List (ac×Bool)))=>kQ t6 t7 zz.1 zz.2) (λ_=>.exit 0) rQ (kQ t6 t7 t8 m1):=qcX.l<|
 tF (tb λx2 bx2=>tv (cz.ia (k:=.i64) bx2)<|tv (cH Iw (.str x2) [])<|ts<|V5 (Hv (f:=PVal.bool) underlying84 underlying9 m1 x2 true)<|tE)<|tE
theorem Ci:OJ 2 (.loop (cA qbQ 15)) (wy t6 t7 t8 m1) (.exit 0) rQ (kQ t6 t7 t8 m1):=sQ λ_=>AW _ _ _ _
end
def nK(a:waA)(k1:(List (ac×Bool))):Option ((List (ac×Bool))):=
 (wy a (a.length:Int) 0 k1).bind λo3=>
 some o3
theorem nL{a:waA}{k1:(List (ac×Bool))}:OG 62 [.bptr 0 0,sl cS a] [] [.cells [.mapr 1] [],.map (bA PVal.bool k1)] (nK a k1) (λr=>.tuple []) [] (λr=>[.cells [.mapr 1] [],.map (bA PVal.bool r)]):=qcX.g 2<|
 tb λo3 bo3=>cb (cz.ln a)<|cu (Ci a (a.length:Int) 0 k1 _ bo3)<|tE
noncomputable def qeA:Code:=f59.body.getD .skip
def qdW:List Nat:=[10]
theorem qek:ZF Pg qdW 59 f59 qeA:=zf call59 func59 rfl mixed
def xe(a:waA):Option ((List (ac×Bool))):=
 (nK a ([]:List (ac×Bool))).bind λr1=>
 some r1
theorem yj{a:waA}:ON 59 [sl cS a] (xe a) (λr=>.bptr 1 0) [] (λr=>[.map (bA PVal.bool r),.cells [.mapr 0] []]):=qek.n 2<|
 tb λr1 br1=>tv (show cF Pg 99 [(0,.mapr 0)]=some (.agg [.mapr 0]) by kernel_rfl)<|TV (qe0 [.mapr 0]) rfl<|tc [1,0] (nL _ br1)<|tE
abbrev df:=(am->waA->(List (ac×Bool))->Option ((List (ac×Bool))))
abbrev dc(R:df):Prop:=∀(e:am) (hidden:waA) (k2:(List (ac×Bool))),OG 88 [.agg (aj e),sl cS hidden,.func (.func 89) [] [.bptr 0 0]] [] [.cells [.bptr 1 0] [],.cells [.mapr 2] [],.map (bA PVal.bool k2)] (R e hidden k2) (λr=>.tuple []) [] (λr=>[.cells [.bptr 1 0] [],.cells [.mapr 2] [],.map (bA PVal.bool r)])
noncomputable def qaY:Code:=f129.body.getD .skip
def Yg:List Nat:=[]
theorem ZZ:ZF Pg Yg 129 f129 qaY:=zf call129 func129 rfl mixed
def qR(e:am):Option Bool:=
 if(e.Op==3)=true then
  some true
 else
  some (e.Op==5)
theorem ue{e:am}:OV 129 [.agg (aj e)] (qR e) (λr=>.bool r) []:=ZZ.v<|
 te (cO e)<|have pp2:=λ{X Y Z} (r:PV _ X Y Z)=>tw (bu e)<|r;tf (λc1=>pp2<|tg 4 c1<|tE) λc1=>pp2<|tg 4 c1<|tw (bu e)<|tE
noncomputable def qbR:Code:=f90.body.getD .skip
def qec:List Nat:=[10,17]
theorem qcZ:ZF Pg qec 90 f90 qbR:=zf call90 func90 rfl mixed
section
variable(s:waA)(v:ac)(t7:Int)(t8:Int)
def nv:ay:=aM 19 [(0,sl cS s),(1,.str v),(7,.int .i64 t7),(8,.int .i64 t8)] [] []
def wo(o:Int⊕(Unit)):Exit:=match o with
 |(.inl _)=>.ret
 |(.inr _)=>.exit 0
def wq(o:Int⊕(Unit)):ay:=match o with
 |(.inl o)=>aM 19 [(4,.int .i64 o)] [] []
 |(.inr o)=>aM 19 [] [] []
def wn:Option (Int⊕(Int⊕(Unit))):=
 if decide (t8<t7)=true then
  (dw s t8).bind λx2=>
  if(v==x2)=true then
   some (.inr (.inl t8))
  else
   some (.inl (fh (t8+1)))
 else
  some (.inr (.inr ()))
def Aj:Option (Int⊕(Unit)):=loop (λ(zz:Int)=>wn s v t7 zz) t8
theorem C8:OL 0 (cA qbR 55) (wn s v t7 t8) (λ(zz:Int)=>nv s v t7 zz) wo wq (nv s v t7 t8):=qcZ.l<|
 tF (tb λx2 bx2=>tv (cz.ia (k:=.i64) bx2)<|tv (cH Iw (.str x2) [])<|tF tE<|tE)<|tE
theorem tZ:OK 0 (.loop (cA qbR 55)) (Aj s v t7 t8) wo wq (nv s v t7 t8):=HK λ_=>C8 _ _ _ _
end
def slices_Index(s:waA)(v:ac):Option Int:=
 (Aj s v (s.length:Int) 0).bind λo4=>match o4 with
 |(.inl o4)=>
  some o4
 |(.inr o4)=>
  some (-1)
theorem Ak{s:waA}{v:ac}:OV 90 [sl cS s,.str v] (slices_Index s v) (λr=>.int .i64 r) []:=qcZ.v<|
 cb (cz.ln s)<|t2 (λo4 bo4=>cu (tZ s v (s.length:Int) 0 _ bo4)<|tE) λo4 bo4=>cu (tZ s v (s.length:Int) 0 _ bo4)<|tE
noncomputable def qeJ:Code:=f83.body.getD .skip
def qd9:List Nat:=[]
theorem qes:ZF Pg qd9 83 f83 qeJ:=zf call83 func83 rfl mixed
def yR(a:waA)(s:ac):Option Int:=
 (slices_Index a s).bind λr1=>
 some r1
theorem wH{a:waA}{s:ac}:OV 83 [sl cS a,.str s] (yR a s) (λr=>.int .i64 r) []:=qes.v<|
 tb λr1 br1=>ck (Ak _ br1)<|tE
noncomputable def qeK:Code:=f89.body.getD .skip
def qeb:List Nat:=[]
theorem qet:ZF Pg qeb 89 f89 qeK:=zf call89 func89 rfl mixed
def DQ(a:am)(k2:(List (ac×Bool))):Option ((List (ac×Bool))):=
 (nK ([a.Name]:List ac) k2).bind λr1=>
 some r1
theorem HU{a:am}{k2:(List (ac×Bool))}:OG 89 [.agg (aj a),.bptr 0 0] [] [.cells [.bptr 1 0] [],.cells [.mapr 2] [],.map (bA PVal.bool k2)] (DQ a k2) (λr=>.tuple []) [] (λr=>[.cells [.bptr 1 0] [],.cells [.mapr 2] [],.map (bA PVal.bool r)]):=qet.g 3<|
 tb λr1 br1=>te (cO a)<|ts<|tw (bM a)<|tv (bK [a.Name] 1 rfl)<|tc [1,2] (nL _ br1)<|tE
noncomputable def WN:Code:=f131.body.getD .skip
def Yh:List Nat:=[]
theorem Wi:ZF Pg Yh 131 f131 WN:=zf call131 func131 rfl mixed
section
variable(kid:Int)(e:am)
def yh:Option Bool:=
 if(e.Op==7)=true then
  some (decide (kid>0))
 else
  some false
theorem Df:OJ 0 (cA WN 26) (yh kid e) .normal (λo=>aM 23 [(2,.eptr (aj e)),(5,.bool o)] [.dead] []) (aM 23 [(1,.int .i64 kid),(2,.eptr (aj e))] [.dead] []):=Wi.j<|
 have pp2:=λ{X Y Z} (r:PV _ X Y Z)=>tw (bu e)<|r;tf (λc1=>pp2<|tg 4 c1<|tE) λc1=>pp2<|tg 4 c1<|tE
end
def xd(e:am)(kid:Int):Option waA:=
 (yh kid e).bind λo3=>
 if o3=true then
  some ([e.Name]:List ac)
 else if(e.Op==6)=true then
  (sK e.Params).bind λr6=>
  some r6
 else
  some ([]:List ac)
theorem yi{e:am}{kid:Int}:OV 131 [.agg (aj e),.int .i64 kid] (xd e kid) (λr=>sl cS r) [(0,9)]:=Wi.v<|
 tb λo3 bo3=>te (cO e)<|gz 1<|cu (Df kid e _ bo3)<|tF (tw (bM e)<|tv (bK [e.Name] 1 rfl)<|tE)<|tw (bu e)<|tF (tb λr6 br6=>tw (aW e)<|ck (qO _ br6)<|tE)<|tE
noncomputable def Qz:Code:=f88.body.getD .skip
def qea:List Nat:=[27]
theorem SY:ZF Pg qea 88 f88 Qz:=zf call88 func88 rfl mixed
section
variable(hidden:waA)(e:am)(m2:(List (ac×Bool)))
def iO:Option Bool:=
 (qR e).bind λr1=>
 if r1=true then
  (yR hidden e.Name).bind λr4=>
  some (decide (r4<0))
 else
  some false
theorem nU:OJ 3 (cA Qz 12) (iO hidden e) .normal (λo=>aM 57 [(1,sl cS hidden),(2,.func (.func 89) [] [.bptr 0 0]),(3,.eptr (aj e)),(18,.bool o)] [.cells [.bptr 1 0] [],.cells [.mapr 2] [],.map (bA PVal.bool m2),.dead] []) (aM 57 [(1,sl cS hidden),(2,.func (.func 89) [] [.bptr 0 0]),(3,.eptr (aj e))] [.cells [.bptr 1 0] [],.cells [.mapr 2] [],.map (bA PVal.bool m2),.dead] []):=SY.j<|
 tb λr1 br1=>have pp3:=λ{X Y Z} (r:PV _ X Y Z)=>tv (aY e)<|ck (ue _ br1)<|r;tf (λc2=>tb λr4 br4=>pp3<|tg 3 c2<|tw (bM e)<|ck (wH _ br4)<|tE) λc2=>pp3<|tg 3 c2<|tE
end
section
variable(hidden:waA)(e:am)(m2:(List (ac×Bool)))
def iN:Option (((List (ac×Bool)))):=
 (iO hidden e).bind λo5=>
 if o5=true then
  (DQ e m2).bind λr7=>
  some r7
 else
  some m2
theorem nT:OJ 3 (cA Qz 6) (iN hidden e m2) .normal (λo=>aM 57 [(1,sl cS hidden),(2,.func (.func 89) [] [.bptr 0 0]),(3,.eptr (aj e))] [.cells [.bptr 1 0] [],.cells [.mapr 2] [],.map (bA PVal.bool o),.dead] []) (aM 57 [(1,sl cS hidden),(2,.func (.func 89) [] [.bptr 0 0]),(3,.eptr (aj e))] [.cells [.bptr 1 0] [],.cells [.mapr 2] [],.map (bA PVal.bool m2),.dead] []):=SY.j<|
 tb λo5 bo5=>gz 0<|cu (nU hidden e m2 _ bo5)<|tF (tb λr7 br7=>tv (aY e)<|tc [0,1,2] (HU _ br7)<|tE)<|tE
end
section
variable(R145:df)(hidden:waA)(e:am)(t23:waE)(t24:Int)(t25:Int)(m2:(List (ac×Bool)))
def dt:ay:=aM 57 [(1,sl cS hidden),(2,.func (.func 89) [] [.bptr 0 0]),(3,.eptr (aj e)),(23,sl aj t23),(24,.int .i64 t24),(25,.int .i64 t25)] [.cells [.bptr 1 0] [],.cells [.mapr 2] [],.map (bA PVal.bool m2),.dead] []
def eG(o:(List (ac×Bool))):ay:=aM 57 [(1,sl cS hidden),(2,.func (.func 89) [] [.bptr 0 0]),(3,.eptr (aj e))] [.cells [.bptr 1 0] [],.cells [.mapr 2] [],.map (bA PVal.bool o),.dead] []
instance iS_syntax_occurrences_Free_1_L3:KS 3 (dt hidden e t23 t24 t25 m2):=⟨rfl,(bk (aI (up (ak eU hidden)) (aI (aI vzz (aI (bH rfl) trivial)) (aI (cT (b7 e)) (aI (up (ak b7 t23)) (aI vzz (aI vzz vzz))))))),(aI (aI (bH rfl) trivial) (aI (aI (bH rfl) trivial) (aI (Hh PVal.bool (λx=>trivial) m2) (aI vzz vzz))))⟩
instance iO_syntax_occurrences_Free_1_L3{o:((List (ac×Bool)))}:KS 3 (eG hidden e o):=⟨rfl,(bk (aI (up (ak eU hidden)) (aI (aI vzz (aI (bH rfl) trivial)) (aI (cT (b7 e)) trivial)))),(aI (aI (bH rfl) trivial) (aI (aI (bH rfl) trivial) (aI (Hh PVal.bool (λx=>trivial) o) (aI vzz vzz))))⟩
def g5:Option ((Int×(List (ac×Bool)))⊕(((List (ac×Bool))))):=
 if decide (t25<t24)=true then
  (dw t23 t25).bind λx10=>
  (Bb hidden).bind λr11=>
  (xd e t25).bind λr12=>
  (app r11 r12).bind λl13=>
  (R145 x10 l13 m2).bind λr14=>
  some (.inl (fh (t25+1),r14))
 else
  some (.inr m2)
def iP:Option (((List (ac×Bool)))):=loop (λ(zz:Int×(List (ac×Bool)))=>g5 R145 hidden e t23 t24 zz.1 zz.2) (t25,m2)
theorem nI(hR145:dc R145):OL 3 (cA Qz 119) (g5 R145 hidden e t23 t24 t25 m2) (λ(zz:Int×(List (ac×Bool)))=>dt hidden e t23 t24 zz.1 zz.2) (λ_=>.exit 0) (eG hidden e) (dt hidden e t23 t24 t25 m2):=SY.lx<|
 tF (tb λx10 bx10=>tb λr11 br11=>tb λr12 br12=>tb λl13 bl13=>tb λr14 br14=>tv (fU.ia (k:=.i64) bx10)<|tv (aY x10)<|tx Nk<|tx (ms x10)<|tk<|Av (.dx [0,0,2,0,0,30,62,0] [] [] [])<|tv (eg x10 [])<|ck (uQ br11)<|tv (aY e)<|ck (yi _ br12)<|tv (cz.ap bl13)<|tc [0,1,2] (hR145 _ _ _ _ br14)<|tE)<|tE
theorem nV(hR145:dc R145):OJ 3 (.loop (cA Qz 119)) (iP R145 hidden e t23 t24 t25 m2) (.exit 0) (eG hidden e) (dt hidden e t23 t24 t25 m2):=sQ λ_=>nI _ _ _ _ _ _ _ hR145
end
section
variable(R145:df)(hidden:waA)(t41:waD)(t42:Int)(t43:Int)(m2:(List (ac×Bool)))
def du:ay:=aM 57 [(1,sl cS hidden),(2,.func (.func 89) [] [.bptr 0 0]),(41,sl aN t41),(42,.int .i64 t42),(43,.int .i64 t43)] [.cells [.bptr 1 0] [],.cells [.mapr 2] [],.map (bA PVal.bool m2),.dead] []
def eH(o:(List (ac×Bool))):ay:=aM 57 [] [.cells [.bptr 1 0] [],.cells [.mapr 2] [],.map (bA PVal.bool o),.dead] []
instance iS_syntax_occurrences_Free_1_L4:KS 3 (du hidden t41 t42 t43 m2):=⟨rfl,(bk (aI (up (ak eU hidden)) (aI (aI vzz (aI (bH rfl) trivial)) (aI (up (ak dy t41)) (aI vzz (aI vzz vzz)))))),(aI (aI (bH rfl) trivial) (aI (aI (bH rfl) trivial) (aI (Hh PVal.bool (λx=>trivial) m2) (aI vzz vzz))))⟩
instance iO_syntax_occurrences_Free_1_L4{o:((List (ac×Bool)))}:KS 3 (eH o):=⟨rfl,(bk vzz),(aI (aI (bH rfl) trivial) (aI (aI (bH rfl) trivial) (aI (Hh PVal.bool (λx=>trivial) o) (aI vzz vzz))))⟩
def g6:Option ((Int×(List (ac×Bool)))⊕(((List (ac×Bool))))):=
 if decide (t43<t42)=true then
  (dw t41 t43).bind λx17=>
  (Bb hidden).bind λr18=>
  (app r18 x17.Names).bind λl19=>
  (R145 x17.Body l19 m2).bind λr20=>
  some (.inl (fh (t43+1),r20))
 else
  some (.inr m2)
def iQ:Option (((List (ac×Bool)))):=loop (λ(zz:Int×(List (ac×Bool)))=>g6 R145 hidden t41 t42 zz.1 zz.2) (t43,m2)
theorem nJ(hR145:dc R145):OL 3 (cA Qz 127) (g6 R145 hidden t41 t42 t43 m2) (λ(zz:Int×(List (ac×Bool)))=>du hidden t41 t42 zz.1 zz.2) (λ_=>.exit 2) eH (du hidden t41 t42 t43 m2):=SY.lx<|
 tF (tb λx17 bx17=>tb λr18 br18=>tb λl19 bl19=>tb λr20 br20=>tv (gp.ia (k:=.i64) bx17)<|tv (mX x17)<|tx DN<|tx (kY x17)<|tk<|Av (.dx [0,1,0,4,0,16,60,0] [] [] [])<|tv (eg x17.Body [])<|ck (uQ br18)<|ts<|tv (cz.ap bl19)<|tc [0,1,2] (hR145 _ _ _ _ br20)<|tE)<|tE
theorem nW(hR145:dc R145):OJ 3 (.loop (cA Qz 127)) (iQ R145 hidden t41 t42 t43 m2) (.exit 2) eH (du hidden t41 t42 t43 m2):=sQ λ_=>nJ _ _ _ _ _ _ hR145
end
def jD(R145:df)(e:am)(hidden:waA)(k2:(List (ac×Bool))):Option ((List (ac×Bool))):=
 (iN hidden e k2).bind λo8=>
 (iP R145 hidden e e.Kids (e.Kids.length:Int) 0 o8).bind λo15=>
 (iQ R145 hidden e.Alts (e.Alts.length:Int) 0 o15).bind λo21=>
 some o21
theorem qj(R145:df)(hR145:dc R145){e:am}{hidden:waA}{k2:(List (ac×Bool))}:OG 88 [.agg (aj e),sl cS hidden,.func (.func 89) [] [.bptr 0 0]] [] [.cells [.bptr 1 0] [],.cells [.mapr 2] [],.map (bA PVal.bool k2)] (jD R145 e hidden k2) (λr=>.tuple []) [] (λr=>[.cells [.bptr 1 0] [],.cells [.mapr 2] [],.map (bA PVal.bool r)]):=SY.g 3<|
 tb λo8 bo8=>tb λo15 bo15=>tb λo21 bo21=>te (cO e)<|gz 0<|cu (nT hidden e k2 _ bo8)<|tw (az e)<|cb (fU.ln e.Kids)<|cu (nV R145 hidden e e.Kids (e.Kids.length:Int) 0 o8 hR145 _ bo15)<|tw (aE e)<|cb (gp.ln e.Alts)<|cu (nW R145 hidden e.Alts (e.Alts.length:Int) 0 o15 hR145 _ bo21)<|tE
def jE:((am×waA×(List (ac×Bool)))->Option ((List (ac×Bool))))->(am×waA×(List (ac×Bool)))->Option ((List (ac×Bool))):=λ(rec:(am×waA×(List (ac×Bool)))->Option ((List (ac×Bool)))) (x:am×waA×(List (ac×Bool)))=>jD (λe hidden k2=>rec (e,hidden,k2)) x.1 x.2.1 x.2.2
def kC(e:am)(hidden:waA)(k2:(List (ac×Bool))):Option ((List (ac×Bool))):=Bq jE (e,hidden,k2)
theorem qP{e:am}{hidden:waA}{k2:(List (ac×Bool))}:OG 88 [.agg (aj e),sl cS hidden,.func (.func 89) [] [.bptr 0 0]] [] [.cells [.bptr 1 0] [],.cells [.mapr 2] [],.map (bA PVal.bool k2)] (kC e hidden k2) (λr=>.tuple []) [] (λr=>[.cells [.bptr 1 0] [],.cells [.mapr 2] [],.map (bA PVal.bool r)]):=N4 λ_ h=>
 fg (F:=jE) (M:=λ(x:am×waA×(List (ac×Bool))) (r:(List (ac×Bool)))=>C Pg GE 88 [.agg (aj x.1),sl cS x.2.1,.func (.func 89) [] [.bptr 0 0]] [] [.cells [.bptr 1 0] [],.cells [.mapr 2] [],.map (bA PVal.bool x.2.2)] (.tuple []) [] [.cells [.bptr 1 0] [],.cells [.mapr 2] [],.map (bA PVal.bool r)]) (λrec hrec x r h=>qj _ (λe hidden k2=>N4 λr h=>hrec (e,hidden,k2) r h) _ h) h
noncomputable def qeE:Code:=f72.body.getD .skip
def qd3:List Nat:=[]
theorem qen:ZF Pg qd3 72 f72 qeE:=zf call72 func72 rfl mixed
def Ix(e:am):Option waA:=
 (xe ([]:List ac)).bind λr1=>
 (kC e ([]:List ac) r1).bind λr2=>
 (pp r2).bind λr3=>
 some r3
theorem KN{e:am}:OV 72 [.agg (aj e)] (Ix e) (λr=>sl cS r) [(0,9)]:=qen.v<|
 tb λr1 br1=>tb λr2 br2=>tb λr3 br3=>te (cO e)<|ti (.cn ⟨[2,3],[],[],[],[],[.map (bA PVal.bool r1),.cells [.mapr 2] []],[.map (bA PVal.bool r1),.cells [.mapr 0] []],.bptr 3 0,.bptr 1 0,[]⟩) (yj _ br1)<|tq (aI (ak eU ([]:List ac)) trivial)<|tq (aI (aI (rM (bA PVal.bool r1)) (Hh (n:=0) PVal.bool (λx=>trivial) r1)) (aI (aI (rW []) (aI (xM [2,3] 0 2 rfl) trivial)) trivial))<|tq (xB [2,3] 1 3 0 rfl)<|tx XE<|ts<|tv (aY e)<|tc [1,3,2] (qP _ br2)<|ts<|tc [3,2] (DO br3)<|tE
noncomputable def qeF:Code:=f73.body.getD .skip
def qd4:List Nat:=[]
theorem qeo:ZF Pg qd4 73 f73 qeF:=zf call73 func73 rfl mixed
def Ag(s:waA)(v:ac):Option Bool:=
 (slices_Index s v).bind λr1=>
 some (decide (r1>=0))
theorem EM{s:waA}{v:ac}:OV 73 [sl cS s,.str v] (Ag s v) (λr=>.bool r) []:=qeo.v<|
 tb λr1 br1=>ck (Ak _ br1)<|tE
noncomputable def XY:Code:=f49.body.getD .skip
def qdT:List Nat:=[32,37]
theorem qaP:ZF Pg qdT 49 f49 XY:=zf call49 func49 rfl mixed
section
variable(m:aw)(d:bD)(out:waA)(s:ac)(ok:Bool)(t12:waA)(t13:Int)(t14:Int)(m2:ac)(m3:waA)(m4:Int)(m5:ac)(m6:Int)(m7:waE)(m8:waF)(m9:waD)(m10:waC)(m11:Int)(m12:Bool)(m13:waA)(m14:waH)(m15:waI)(m16:waG)(m17:Int)(m18:ac)(m19:waC)(m20:waA)(m21:Int)(m22:ac)(m23:Int)(m24:waB)(m25:waB)(m26:waB)
def sZ:Option Bool:=
 if ok=true then
  (Ag d.Params s).bind λr6=>
  some (!r6)
 else
  some false
theorem AH:OJ 0 (cA XY 15342) (sZ d s ok) .normal (λo=>aM 38 [(2,.eptr (aq m)),(3,.eptr (aQ d)),(5,sl cS out),(7,.str s),(12,sl cS t12),(13,.int .i64 t13),(14,.int .i64 t14),(31,.bool o)] [.dead,.dead,.cells [.str m2,sl cS m3,.int .i64 m4,.str m5,.int .i64 m6,sl aj m7,sl aD m8,sl aN m9,sl ai m10,.int .i64 m11,.bool m12,sl cS m13,sl bv m14,sl bP m15,sl aS m16,.int .i64 m17,.str m18,sl ai m19,sl cS m20,.int .i64 m21,.str m22,.int .i64 m23,sl aa m24,sl aa m25,sl aa m26] []] [((12,0),9),((5,0),9)]) (aM 38 [(2,.eptr (aq m)),(3,.eptr (aQ d)),(5,sl cS out),(7,.str s),(9,.bool ok),(12,sl cS t12),(13,.int .i64 t13),(14,.int .i64 t14)] [.dead,.dead,.cells [.str m2,sl cS m3,.int .i64 m4,.str m5,.int .i64 m6,sl aj m7,sl aD m8,sl aN m9,sl ai m10,.int .i64 m11,.bool m12,sl cS m13,sl bv m14,sl bP m15,sl aS m16,.int .i64 m17,.str m18,sl ai m19,sl cS m20,.int .i64 m21,.str m22,.int .i64 m23,sl aa m24,sl aa m25,sl aa m26] []] [((12,0),9),((5,0),9)]):=qaP.j<|
 tf (λc5=>tb λr6 br6=>tg 2 c5<|tw (mU d)<|ck (EM _ br6)<|tE) λc5=>tg 2 c5<|tE
end
section
variable(m:aw)(d:bD)(t12:waA)(t13:Int)(out:waA)(t14:Int)
def f0:ay:=aM 38 [(2,.eptr (aq m)),(3,.eptr (aQ d)),(5,sl cS out),(12,sl cS t12),(13,.int .i64 t13),(14,.int .i64 t14)] [.dead,.dead] [((12,0),9),((5,0),9)]
def jM(o:waA):ay:=aM 38 [(5,sl cS o)] [.dead,.dead] [((5,0),9)]
instance iS_depend_mentions_L1:KS 0 (f0 m d t12 t13 out t14):=⟨rfl,(bk (aI (cT (bQ m)) (aI (cT (fZ d)) (aI (up (ak eU out)) (aI (up (ak eU t12)) (aI vzz (aI vzz vzz))))))),(aI vzz (aI vzz vzz))⟩
instance iO_depend_mentions_L1{o:waA}:KS 0 (jM o):=⟨rfl,(bk (aI (up (ak eU o)) trivial)),(aI vzz (aI vzz vzz))⟩
def pM:Option ((waA×Int)⊕(waA)):=
 if decide (t14<t13)=true then
  (dw t12 t14).bind λx3=>
  (ed m x3).bind λr4=>
  (sZ d x3 r4.2).bind λo7=>
  if o7=true then
   (app out ([x3]:List ac)).bind λl9=>
   some (.inl (l9,fh (t14+1)))
  else
   some (.inl (out,fh (t14+1)))
 else
  some (.inr out)
def s6:Option waA:=loop (λ(zz:waA×Int)=>pM m d t12 t13 zz.1 zz.2) (out,t14)
theorem yJ:OL 0 (cA XY 119) (pM m d t12 t13 out t14) (λ(zz:waA×Int)=>f0 m d t12 t13 zz.1 zz.2) (λ_=>.exit 0) jM (f0 m d t12 t13 out t14):=qaP.lx<|
 tF (tb λx3 bx3=>tb λr4 br4=>tb λo7 bo7=>tv (cz.ia (k:=.i64) bx3)<|tv (cH Iw (.str x3) [])<|tv (bN m)<|ck (dp _ br4)<|tx zt<|tx (dQ r4.1)<|gz 0<|cu (AH m d out x3 r4.2 t12 t13 t14 r4.1.Name r4.1.Params r4.1.Body.Op r4.1.Body.Name r4.1.Body.N r4.1.Body.Kids r4.1.Body.Params r4.1.Body.Alts r4.1.Body.Types r4.1.Mode r4.1.Typed r4.1.Sig.Vars r4.1.Sig.Needs r4.1.Sig.Abs r4.1.Sig.Bounds r4.1.Sig.Type_.Op r4.1.Sig.Type_.Name r4.1.Sig.Type_.Args r4.1.Sig.Type_.Names r4.1.Sig.Type_.Pred.Op r4.1.Sig.Type_.Pred.Name r4.1.Sig.Type_.Pred.N r4.1.Sig.Type_.Pred.Kids r4.1.Sig.Type_.Preds r4.1.Sig.Metric _ bo7)<|tF (tb λl9 bl9=>tv (bK [x3] 1 rfl)<|tv (cz.ap bl9)<|tE)<|tE)<|tE
theorem AI:OJ 0 (.loop (cA XY 119)) (s6 m d t12 t13 out t14) (.exit 0) jM (f0 m d t12 t13 out t14):=sQ λ_=>yJ _ _ _ _ _ _
end
def qn(m:aw)(d:bD):Option waA:=
 (Ix d.Body).bind λr1=>
 (s6 m d r1 (r1.length:Int) ([]:List ac) 0).bind λo10=>
 some o10
theorem s7{m:aw}{d:bD}:OV 49 [.agg (aq m),.agg (aQ d)] (qn m d) (λr=>sl cS r) [(0,9)]:=qaP.v<|
 tb λr1 br1=>tb λo10 bo10=>te (dM m)<|te (FY d)<|tw (jh d)<|ck (KN _ br1)<|cb (cz.ln r1)<|cu (AI m d r1 (r1.length:Int) ([]:List ac) 0 _ bo10)<|tE
noncomputable def WY:Code:=f71.body.getD .skip
def qd2:List Nat:=[25,41,46]
theorem qaR:ZF Pg qd2 71 f71 WY:=zf call71 func71 rfl mixed
section
variable(m:aw)(t29:waA)(t30:Int)(m2:ac)(m3:waA)(m4:Int)(m5:ac)(m6:Int)(m7:waE)(m8:waF)(m9:waD)(m10:waC)(m11:Int)(m12:Bool)(m13:waA)(m14:waH)(m15:waI)(m16:waG)(m17:Int)(m18:ac)(m19:waC)(m20:waA)(m21:Int)(m22:ac)(m23:Int)(m24:waB)(m25:waB)(m26:waB)(work:waA)(t31:Int)(m1:(List (ac×Bool)))
def mR:ay:=aM 47 [(2,.eptr (aq m)),(5,.mapr 1),(6,sl cS work),(29,sl cS t29),(30,.int .i64 t30),(31,.int .i64 t31)] [.dead,.map (bA PVal.bool m1),.cells [.str m2,sl cS m3,.int .i64 m4,.str m5,.int .i64 m6,sl aj m7,sl aD m8,sl aN m9,sl ai m10,.int .i64 m11,.bool m12,sl cS m13,sl bv m14,sl bP m15,sl aS m16,.int .i64 m17,.str m18,sl ai m19,sl cS m20,.int .i64 m21,.str m22,.int .i64 m23,sl aa m24,sl aa m25,sl aa m26] []] [((29,0),9),((6,1),9)]
def vC(o:waA×(List (ac×Bool))):ay:=aM 47 [(2,.eptr (aq m)),(5,.mapr 1),(6,sl cS o.1)] [.dead,.map (bA PVal.bool o.2),.cells [.str m2,sl cS m3,.int .i64 m4,.str m5,.int .i64 m6,sl aj m7,sl aD m8,sl aN m9,sl ai m10,.int .i64 m11,.bool m12,sl cS m13,sl bv m14,sl bP m15,sl aS m16,.int .i64 m17,.str m18,sl ai m19,sl cS m20,.int .i64 m21,.str m22,.int .i64 m23,sl aa m24,sl aa m25,sl aa m26] []] [((6,1),9)]
def vB:Option ((waA×Int×(List (ac×Bool)))⊕((waA×(List (ac×Bool))))):=
 if decide (t31<t30)=true then
  (dw t29 t31).bind λx7=>
  if(!((pg m1 x7).getD false))=true then
   (app work ([x7]:List ac)).bind λl9=>
   some (.inl (l9,fh (t31+1),FH m1 x7 true))
  else
   some (.inl (work,fh (t31+1),m1))
 else
  some (.inr (work,m1))
def zO:Option ((waA×(List (ac×Bool)))):=loop (λ(zz:waA×Int×(List (ac×Bool)))=>vB t29 t30 zz.1 zz.2.1 zz.2.2) (work,t31,m1)
theorem CZ:OL 0 (cA WY 15871) (vB t29 t30 work t31 m1) (λ(zz:waA×Int×(List (ac×Bool)))=>mR m t29 t30 m2 m3 m4 m5 m6 m7 m8 m9 m10 m11 m12 m13 m14 m15 m16 m17 m18 m19 m20 m21 m22 m23 m24 m25 m26 zz.1 zz.2.1 zz.2.2) (λ_=>.exit 2) (vC m m2 m3 m4 m5 m6 m7 m8 m9 m10 m11 m12 m13 m14 m15 m16 m17 m18 m19 m20 m21 m22 m23 m24 m25 m26) (mR m t29 t30 m2 m3 m4 m5 m6 m7 m8 m9 m10 m11 m12 m13 m14 m15 m16 m17 m18 m19 m20 m21 m22 m23 m24 m25 m26 work t31 m1):=qaR.l<|
 tF (tb λx7 bx7=>tv (cz.ia (k:=.i64) bx7)<|tv (cH Iw (.str x7) [])<|tv (Hu (f:=PVal.bool) underlying84 underlying9 V7 m1 x7)<|tF (tb λl9 bl9=>V5 (Hv (f:=PVal.bool) underlying84 underlying9 m1 x7 true)<|tv (bK [x7] 1 rfl)<|ti (.z [sl cS l9]) (cz.ap bl9)<|tE)<|tE)<|tE
theorem En:OJ 0 (.loop (cA WY 15871)) (zO t29 t30 work t31 m1) (.exit 2) (vC m m2 m3 m4 m5 m6 m7 m8 m9 m10 m11 m12 m13 m14 m15 m16 m17 m18 m19 m20 m21 m22 m23 m24 m25 m26) (mR m t29 t30 m2 m3 m4 m5 m6 m7 m8 m9 m10 m11 m12 m13 m14 m15 m16 m17 m18 m19 m20 m21 m22 m23 m24 m25 m26 work t31 m1):=sQ λ_=>CZ _ _ _ _ _ _ _ _ _ _ _ _ _ _ _ _ _ _ _ _ _ _ _ _ _ _ _ _ _ _ _
end
section
variable(m:aw)(work:waA)(m1:(List (ac×Bool)))
def je:ay:=aM 47 [(2,.eptr (aq m)),(5,.mapr 1),(6,sl cS work)] [.dead,.map (bA PVal.bool m1)] [((6,1),9)]
def mQ(o:(List (ac×Bool))):ay:=aM 47 [(5,.mapr 1)] [.dead,.map (bA PVal.bool o)] []
instance iS_depend_reach_L1:KS 0 (je m work m1):=⟨rfl,(bk (aI (cT (bQ m)) (aI (bH rfl) (aI (up (ak eU work)) trivial)))),(aI vzz (aI (Hh PVal.bool (λx=>trivial) m1) trivial))⟩
instance iO_depend_reach_L1{o:((List (ac×Bool)))}:KS 0 (mQ o):=⟨rfl,(bk (aI (bH rfl) trivial)),(aI vzz (aI (Hh PVal.bool (λx=>trivial) o) trivial))⟩
def vA:Option ((waA×(List (ac×Bool)))⊕(((List (ac×Bool))))):=
 if decide ((work.length:Int)>0)=true then
  (dw work 0).bind λx2=>
  (ed m x2).bind λr3=>
  (RF work (some 1) none).bind λl4=>
  (qn m r3.1).bind λr5=>
  (zO r5 (r5.length:Int) l4 0 m1).bind λo10=>
  some (.inl (o10.1,o10.2))
 else
  some (.inr m1)
def zN:Option (((List (ac×Bool)))):=loop (λ(zz:waA×(List (ac×Bool)))=>vA m zz.1 zz.2) (work,m1)
theorem CY:OL 0 (cA WY 123) (vA m work m1) (λ(zz:waA×(List (ac×Bool)))=>je m zz.1 zz.2) (λ_=>.exit 0) mQ (je m work m1):=qaR.lx<|
 cb (cz.ln work)<|tF (tb λx2 bx2=>tb λr3 br3=>tb λl4 bl4=>tb λr5 br5=>tb λo10 bo10=>S2 [0,0,2,6,15,31,63,63,0,383,1023]<|tv (bN m)<|tv (cz.ia (k:=.i64) bx2)<|tv (cH Iw (.str x2) [])<|ck (dp _ br3)<|tx (dQ r3.1)<|ti (.z [sl cS l4]) (cz.sc bl4)<|tv (bN m)<|tv (mY r3.1 [])<|ck (s7 _ br5)<|cb (cz.ln r5)<|cu (En m r5 (r5.length:Int) r3.1.Name r3.1.Params r3.1.Body.Op r3.1.Body.Name r3.1.Body.N r3.1.Body.Kids r3.1.Body.Params r3.1.Body.Alts r3.1.Body.Types r3.1.Mode r3.1.Typed r3.1.Sig.Vars r3.1.Sig.Needs r3.1.Sig.Abs r3.1.Sig.Bounds r3.1.Sig.Type_.Op r3.1.Sig.Type_.Name r3.1.Sig.Type_.Args r3.1.Sig.Type_.Names r3.1.Sig.Type_.Pred.Op r3.1.Sig.Type_.Pred.Name r3.1.Sig.Type_.Pred.N r3.1.Sig.Type_.Pred.Kids r3.1.Sig.Type_.Preds r3.1.Sig.Metric l4 0 m1 _ bo10)<|tE)<|tE
theorem Em:OJ 0 (.loop (cA WY 123)) (zN m work m1) (.exit 0) mQ (je m work m1):=sQ λ_=>CY _ _ _
end
def f7(m:aw)(name:ac):Option ((List (ac×Bool))):=
 (zN m ([name]:List ac) ([]:List (ac×Bool))).bind λo11=>
 some o11
theorem qo{m:aw}{name:ac}:ON 71 [.agg (aq m),.str name] (f7 m name) (λr=>.mapr 1) [] (λr=>[.dead,.map (bA PVal.bool r)]):=qaR.n 2<|
 tb λo11 bo11=>te (dM m)<|tv (bK [name] 1 rfl)<|Av (.sh 6 1 9)<|cu (Em m ([name]:List ac) ([]:List (ac×Bool)) _ bo11)<|tE
open Go
set_option linter.unusedSimpArgs false
section
variable{P:Program}{GE:List (Nat×List PVal)}{E:ko}{Γ:aP}{bs:bg}{ow:Nat->Option fR}{w:World}{st:ay}
structure Fr(st:ay)(d:Nat):Prop where
 t:st.tmps.set d .undef=st.tmps
 o:bo d st.own=st.own
 l:d<st.tmps.length
theorem SR.putU{a:Array Value}(h:SR P E Γ bs ow w a st){d:Nat}(hd:Fr st d)(v:Value):SR P E Γ bs ow w (a.setIfInBounds d v) st:=by
 have:=h.set (d:=d) (p:=.undef) (v:=v) (.undef v)
 rw[hd.t,hd.o]at this
 exact this
theorem xm{a:Array Value}{ds:List Deferred}{d:Nat}{v:Value}(h:d<a.size):(Act.mk (a.setIfInBounds d v) ds).eval (.tmp d)=v:=by
 refine aV ?_
 show(a.setIfInBounds d v)[d]? =_
 simp[h]
theorem qH{a:Array Value}{ds:List Deferred}{d:Nat}{v:Value}:(Act.mk a ds).put (some d) v=⟨a.setIfInBounds d v,ds⟩:=rfl
theorem SR.turnIt{a:Array Value}(h:SR P E Γ bs ow w a st){r s c:Nat}{m:Option Nat}{seen:Array Nat}(hit:w.heap[r]? =some (.mapIter m s seen c))(hr:E.w.heap.size<=r)(hT:¬aR bs ow r){w1:World}(hw1:w1=w\/w1=w.drew)(o:Obj):SR P E Γ bs ow (Go.ChangeMaps.setBlock w1 r o) a st:=by
 obtain⟨hg,_⟩:=h.unown hit
 obtain⟨k1,k2,k3,k4,k5⟩:w1.heap=w.heap/\w1.os=w.os/\w1.tape=w.tape/\w1.output=w.output/\w.drawn<=w1.drawn:=by
  rcases hw1 with rfl|rfl
  ·exact⟨rfl,rfl,rfl,rfl,vaj _⟩
  ·exact⟨rfl,rfl,rfl,rfl,vb3 _⟩
 have hoth:∀b,b≠r->(Go.ChangeMaps.setBlock w1 r o).heap[b]? =w.heap[b]?:=λb hb=>by
  show(w1.heap.setIfInBounds r _)[b]? =_
  rw[k1,vaz (λx=>hb x.symm)]
 refine h.world (λb=>b=r) (λb m hb hm0=>⟨m,hb,vaj _,λo _=>bj (hoth b λx=>by rw[x,hg]at hb;cases hb) o⟩) (λb m hb=>?_) k2 k3 k4 ?_ (λb _ hb=>⟨hoth b hb,rfl⟩) (λb hb=>by subst hb;exact .inr hr) (λi b hb e=>hT (.inl ⟨i,e▸hb⟩)) (λb L hL hx=>hT (.inr (by rw[<-hx,hL];simp))) (vD k5)
 ·obtain⟨c,t,fr,q1,q2⟩:=h.wi b m hb
  exact⟨c,t,fr,(hoth b λx=>by rw[x,hg]at hb;cases hb).trans q1,q2⟩
 ·show _<=(w1.heap.setIfInBounds r _).size
  rw[k1];simp
variable{es:Array MapEntry}{clock bm r:Nat}{vis:List MapEntry}{a:Array Value}{ds:List Deferred}{ti d1 d2 e1 e2 kx:Nat}
theorem Vz(h:SR P E Γ bs ow w a st)(hit:w.heap[r]? =some (.mapIter (some bm) clock (vis.map (·.born)).toArray clock))(hm:w.heap[bm]? =some (.map es clock))(hb:Az es clock)(hr:E.w.heap.size<=r)(hT:¬aR bs ow r)
  (hti:st.tmps[ti]? =some (.val (AJ r))) (hd1:Fr st d1) (hd2:Fr st d2) {ro:Option Nat} {i3:Nat} {o10 o11:Oper}
  (h1:o10.op=.next (.tmp ti) false) (h1d:o10.dst=some d1) (h1g:o10.guard=none) (h2:o11.op=.extract (.tmp d1) 0) (h2d:o11.dst=some d2) (h2g:o11.guard=none):
  CQ ro P (.region i3 #[o10,o11] false) (λq a' w'=>q=.normal/\a'.defers=ds/\SR P E Γ bs ow w' a'.tmps st/\((a'.eval (.tmp d2)=.bool false/\(leftOf es (vis.map (·.born)).toArray).size=0/\w'=w)\/
   (a'.eval (.tmp d2)=.bool true/\∃y∈(leftOf es (vis.map (·.born)).toArray).toList,w'.heap[r]? =some (.mapIter (some bm) clock ((vis.map (·.born)).toArray.push y.born) clock)/\w'.heap.size=w.heap.size/\∀b,b≠r->w'.heap[b]? =w.heap[b]?))) ⟨a,ds⟩ w:=by
 refine im (by simp[db,h1,h2]) (by rintro⟨_,_,hx,_⟩;cases hx) ?_
 show wpOps P #[o10,o11] _ [0,1] _ w
 have hlt1:d1<a.size:=by rw[h.sz];exact hd1.l
 have hlt2:d2<a.size:=by rw[h.sz];exact hd2.l
 have hit':(Act.mk a ds).eval (.tmp ti)=AJ r:=by
  have h9:=h.opv ds (.tmp ti)
  have e9:opv E.GE st.tmps (.tmp ti)=.val (AJ r):=by show st.tmps.getD ti .undef=_;rw[vam,hti];rfl
  rw[e9]at h9
  generalize (Act.mk a ds).eval (.tmp ti)=u at h9
  cases h9;rfl
 have hext:∀(l:Array Value) (b:Bool) (w':World),l[0]? =some (.bool b)->(execOp ((Act.mk (a.setIfInBounds d1 (.tuple l)) ds)).eval o11).run P w'=.ok (.value (.bool b)) w':=λl b w' hl=>by
  have:=xm (ds:=ds) (v:=.tuple l) hlt1
  simp[execOp,h2,this,Instr.extract,hl]
 rcases run_next_at (P:=P) w o10.type r bm clock clock _ es clock hit hm hb.2 (vaj _)with⟨hz,hrun⟩|⟨y,hy,w1,hw1,hrun⟩
 ·refine cm (o:=o10) rfl h1g (v:=.tuple #[.bool false]) (w':=w) (by simp[execOp,h1,hit',hrun]) ?_
  rw[h1d,qH]
  refine cm (o:=o11) rfl h2g (hext _ false _ rfl) ?_
  rw[h2d,qH]
  exact⟨rfl,rfl,(h.putU hd1 _).putU hd2 _,.inl ⟨xm (by simpa using hlt2),hz,rfl⟩⟩
 ·refine cm (o:=o10) rfl h1g (v:=.tuple #[.bool true,y.key,y.val]) (w':=Go.ChangeMaps.setBlock w1 r (.mapIter (some bm) clock ((vis.map (·.born)).toArray.push y.born) clock)) (by simp[execOp,h1,hit',hrun]) ?_
  rw[h1d,qH]
  refine cm (o:=o11) rfl h2g (hext _ true _ rfl) ?_
  rw[h2d,qH]
  have hlt:r<w.heap.size:=(vab.1 hit).1
  have k1:w1.heap=w.heap:=by rcases hw1 with rfl|rfl<;>rfl
  refine⟨rfl,rfl,(((h.turnIt hit hr hT hw1 _).putU hd1 _).putU hd2 _),.inr ⟨xm (by simpa using hlt2),y,hy,?_,?_,λb hb=>?_⟩⟩
  ·show(w1.heap.setIfInBounds r _)[r]? =_
   rw[k1];simp[hlt]
  ·show(w1.heap.setIfInBounds r _).size=_
   rw[k1];simp
  ·show(w1.heap.setIfInBounds r _)[b]? =_
   rw[k1,vaz (λx=>hb x.symm)]
theorem Ty(h:SR P E Γ bs ow w a st){y:MapEntry}(hit:w.heap[r]? =some (.mapIter (some bm) clock ((vis.map (·.born)).toArray.push y.born) clock))(hm:w.heap[bm]? =some (.map es clock))(hb:Az es clock)(hy:y∈es.toList)(hk:y.key=.string ⟨(fT y).toArray⟩)
  (hti:st.tmps[ti]? =some (.val (AJ r))) (he1:Fr st e1) (he2:Fr st e2) (hkx:bo kx st.own=st.own) (hne:ti≠e1/\e1≠e2) {ro:Option Nat} {i4:Nat} {o12 o13 o4:Oper}
  (h1:o12.op=.entry (.tmp ti)) (h1d:o12.dst=some e1) (h1g:o12.guard=none) (h2:o13.op=.extract (.tmp e1) 0) (h2d:o13.dst=some e2) (h2g:o13.guard=none) (h3:o4.op=.assign (.tmp e2)) (h3d:o4.dst=some kx) (h3g:o4.guard=none):
  CQ ro P (.region i4 #[o12,o13,o4] false) (λq a' w'=>q=.normal/\a'.defers=ds/\w'=w/\SR P E Γ bs ow w a'.tmps {st with tmps:=st.tmps.set kx (.str (fT y))}) ⟨a,ds⟩ w:=by
 refine im (by simp[db,h1,h2,h3]) (by rintro⟨_,_,hx,_⟩;cases hx) ?_
 show wpOps P #[o12,o13,o4] _ [0,1,2] _ w
 have hlt1:e1<a.size:=by rw[h.sz];exact he1.l
 have hlt2:e2<a.size:=by rw[h.sz];exact he2.l
 have hit':(Act.mk a ds).eval (.tmp ti)=AJ r:=by
  have h9:=h.opv ds (.tmp ti)
  have e9:opv E.GE st.tmps (.tmp ti)=.val (AJ r):=by show st.tmps.getD ti .undef=_;rw[vam,hti];rfl
  rw[e9]at h9
  generalize (Act.mk a ds).eval (.tmp ti)=u at h9
  cases h9;rfl
 have hrun:=run_entry_at (P:=P) w r bm clock _ es clock y hit hm hy hb.1
 refine cm (o:=o12) rfl h1g (v:=.tuple #[y.key,y.val]) (w':=w) (by simp[execOp,h1,hit',hrun]) ?_
 rw[h1d,qH]
 refine cm (o:=o13) rfl h2g (v:=y.key) (w':=w) ?_ ?_
 ·have:=xm (ds:=ds) (v:=.tuple #[y.key,y.val]) hlt1
  simp[execOp,h2,this,Instr.extract]
 rw[h2d,qH]
 refine cm (o:=o4) rfl h3g (v:=y.key) (w':=w) ?_ ?_
 ·have:=xm (a:=a.setIfInBounds e1 (.tuple #[y.key,y.val])) (ds:=ds) (v:=y.key) (d:=e2) (by simpa using hlt2)
  simp[execOp,h3,this]
 rw[h3d,qH]
 refine⟨rfl,rfl,rfl,?_⟩
 have:=((h.putU he1 (.tuple #[y.key,y.val])).putU he2 y.key).set (d:=kx) (p:=.str (fT y)) (v:=y.key) (by rw[hk];exact .str _)
 rw[hkx]at this
 exact this
end
open Classical in
theorem Rt{α:Type}{l m:List α}(hl:l.Nodup)(hm:m.Nodup)(hs:∀x∈l,x∈m):∃r,(l++r).Perm m:=by
 refine⟨m.filter λx=>decide (x∉l),(vb8 ?_ hm).2 λx=>?_⟩
 ·rw[vbU]
  refine⟨hl,hm.filter _,λp hp q hq hpq=>?_⟩
  subst hpq
  have:=(vaN.1 hq).2
  simp at this
  exact this hp
 ·simp only[vaG,vaN,vap]
  constructor
  ·rintro(h|h)
   ·exact hs x h
   ·exact h.1
  ·intro h
   by_cases hx:x∈l
   ·exact .inl hx
   ·exact .inr ⟨h,hx⟩
def nY{σ:Type}(f:ac->σ->Option σ):List ac->σ->Option σ
 |[],s=>some s
 |k::l,s=>(f k s).bind λs'=>nY f l s'
theorem JQ{σ:Type}{f:ac->σ->Option σ}{k:ac}:∀{l:List ac} {s:σ},nY f (l++[k]) s=(nY f l s).bind λs'=>f k s'
 |[],s=>by simp[nY]
 |x::l,s=>by
  simp only[va1,nY]
  cases f x s with
  |none=>rfl
  |some s'=>exact JQ
def Ml{σ:Type}(f:ac->σ->Option σ)(keys:List ac)(s:σ):Prop:=∀l k,(∃r,(l++k::r).Perm keys)->∀s',nY f l s=some s'->∃s'',f k s'=some s''
section
variable{P:Program}{GE:List (Nat×List PVal)}{E:ko}{Γ:aP}{bs:bg}{ow:Nat->Option fR}{w:World}
variable{es:Array MapEntry}{clock bm r:Nat}{a:Array Value}{ds:List Deferred}{ti d1 d2 e1 e2 kx:Nat}{σ:Type}
theorem Ky{f:ac->σ->Option σ}{S:σ->ay}{s0:σ}{mB:Nat}{c5:Code}(hit:w.heap[r]? =some (.mapIter (some bm) clock #[] clock))(hm:w.heap[bm]? =some (.map es clock))(hb:Az es clock)(hr:E.w.heap.size<=r)(hTr:¬aR bs ow r)(hTb:¬aR bs ow bm)(hrb:bm≠r)
  (h0:SR P E Γ bs ow w a (S s0)) (hmB:mB≠0) (hl:mB % 1000<=bs.length) (hk:∀y∈es.toList,y.key=.string ⟨(fT y).toArray⟩)
  (hti:∀s,(S s).tmps[ti]? =some (.val (AJ r))) (hd1:∀s,Fr (S s) d1) (hd2:∀s,Fr (S s) d2) (he1:∀s,Fr (S s) e1) (he2:∀s,Fr (S s) e2) (hkx:∀s,bo kx (S s).own=(S s).own) (hne:ti≠e1/\e1≠e2)
  (hf:Ml f (es.toList.map fT) s0) (hB:∀s k s',f k s=some s'->cC P E.GE mB c5 (EX .normal (S s')) {S s with tmps:=(S s).tmps.set kx (.str k)})
  {ro:Option Nat} {i3 i4 b0 b1:Nat} {o10 o11 o12 o13 o4:Oper}
  (h1:o10.op=.next (.tmp ti) false) (h1d:o10.dst=some d1) (h1g:o10.guard=none) (h2:o11.op=.extract (.tmp d1) 0) (h2d:o11.dst=some d2) (h2g:o11.guard=none)
  (h3:o12.op=.entry (.tmp ti)) (h3d:o12.dst=some e1) (h3g:o12.guard=none) (h4:o13.op=.extract (.tmp e1) 0) (h4d:o13.dst=some e2) (h4g:o13.guard=none) (h5:o4.op=.assign (.tmp e2)) (h5d:o4.dst=some kx) (h5g:o4.guard=none):
  CQ ro P (.loop (.seq (.region i3 #[o10,o11] false) (.seq (.cond (.tmp d2) .skip (.exit b0)) (.block b1 (.seq (.region i4 #[o12,o13,o4] false) c5)))))
   (λq a' w'=>q=.exit b0/\a'.defers=ds/\∃(l:List ac) (s:σ) (Γ':aP) (bs':bg) (ow':Nat->Option fR),l.Perm (es.toList.map fT)/\nY f l s0=some s/\SR P E Γ' bs' ow' w' a'.tmps (S s)/\(∀i:Nat,i<mB % 1000->bs'[i]? =bs[i]?)/\Γ.Le w Γ' w'/\w.heap.size<=w'.heap.size/\
    ∀b,b<w.heap.size->b≠r->¬aR bs ow b->w'.heap[b]? =w.heap[b]?/\¬aR bs' ow' b) ⟨a,ds⟩ w:=by
 refine sW (λk a' w'=>a'.defers=ds/\∃(vis:List MapEntry) (s:σ) (Γ':aP) (bs':bg) (ow':Nat->Option fR),ZT es vis/\vis.length+k=es.size+1/\nY f (vis.map fT) s0=some s/\SR P E Γ' bs' ow' w' a'.tmps (S s)/\w'.heap[r]? =some (.mapIter (some bm) clock (vis.map (·.born)).toArray clock)/\
  (∀i:Nat,i<mB % 1000->bs'[i]? =bs[i]?)/\Γ.Le w Γ' w'/\w.heap.size<=w'.heap.size/\¬aR bs' ow' r/\∀b,b<w.heap.size->b≠r->¬aR bs ow b->w'.heap[b]? =w.heap[b]?/\¬aR bs' ow' b) (es.size+1)
  ⟨rfl,[],s0,Γ,bs,ow,⟨by simp,by simp⟩,by simp,rfl,h0,hit,λ_ _=>rfl,.refl _ _,vaj _,hTr,λb _ _ hb=>⟨rfl,hb⟩⟩ ?_
 rintro k ⟨a1,ds1⟩ w1 ⟨hd,vis,s,Γ1,bs1,ow1,hv,hlen,hfs,hS,hit1,hbs1,hle1,hsz1,hTr1,hk1⟩
 simp only at hd;subst hd
 have hbml:bm<w.heap.size:=(vab.1 hm).1
 have hrl:r<w.heap.size:=(vab.1 hit).1
 obtain⟨hm1,hTb1⟩:=hk1 bm hbml hrb hTb
 rw[hm]at hm1
 refine pD (ew (Vz (ds:=ds1) hS hit1 hm1 hb hr hTr1 (hti s) (hd1 s) (hd2 s) h1 h1d h1g h2 h2d h2g) λq a2 w2 hq=>?_)
 obtain⟨rfl,hd2',hS2,hc⟩:=hq
 show CQ ro P (.seq _ _) _ a2 w2
 rcases hc with⟨hff,hz,rfl⟩|⟨ht,y,hy,hit2,hsz2,hoth⟩
 ·refine pD (Be hff (λhx=>by cases hx) λ_=>JH ?_)
  exact⟨rfl,hd2',vis.map fT,s,Γ1,bs1,ow1,(L0 hb hv hz).map fT,hfs,hS2,hbs1,hle1,hsz1,hk1⟩
 ·obtain⟨hy1,hy2⟩:=NZ hy
  refine pD (Be ht (λ_=>JI ?_) λhx=>by cases hx)
  show CQ ro P (.block b1 _) _ a2 w2
  have hm2:w2.heap[bm]? =some (.map es clock):=(hoth bm hrb).trans hm1
  obtain⟨a2,ds2⟩:=a2
  simp only at hd2' hS2;subst hd2'
  refine Cv (pD (ew (Ty (ds:=ds2) hS2 hit2 hm2 hb hy1 (hk y hy1) (hti s) (he1 s) (he2 s) (hkx s) hne h3 h3d h3g h4 h4d h4g h5 h5d h5g) λq a3 w3 hq=>?_))
  obtain⟨rfl,hd3,rfl,hS3⟩:=hq
  show CQ ro P c5 _ a3 w3
  obtain⟨a3,ds3⟩:=a3
  simp only at hd3 hS3;subst hd3
  have hnd:((vis++[y]).map (·.born)).Nodup:=by
   rw[vbK,vbU]
   exact⟨hv.nd,by simp,λp hp q hq hpq=>by simp at hq;subst hq;subst hpq;exact hy2 hp⟩
  have hsub:∀x∈vis++[y],x∈es.toList:=λx hx=>by
   rcases vaG.1 hx with hx|hx
   ·exact hv.sub x hx
   ·rw[va5.1 hx];exact hy1
  have hle:vis.length<es.size:=by
   have:=(ip _ hnd).length_le_of_subset hsub
   simp at this
   omega
  obtain⟨rest,hrest⟩:=Rt (ip _ hnd) (ip _ hb.1) hsub
  rw[<-List.append_cons]at hrest
  obtain⟨s',hs'⟩:=hf (vis.map fT) (fT y) ⟨rest.map fT,by have:=hrest.map fT;simpa using this⟩ s hfs
  have hbl:mB % 1000<=bs1.length:=by
   by_cases h0:mB % 1000=0
   ·omega
   ·have:=hbs1 (mB % 1000 - 1) (by omega)
    have he:bs[mB % 1000 - 1]? =some bs[mB % 1000 - 1]:=vaa (by omega)
    rw[he]at this
    have:=ah this
    omega
  refine ew (cC.on (hB s (fT y) s' hs') hmB hS3 hbl ro ds3) λq a4 w4 hq=>?_
  obtain⟨hd4,Γ4,bs4,ow4,st4,hS4,⟨rfl,rfl⟩,hbs4,hle4,hsz4,hk4⟩:=hq
  have hr3:r<w3.heap.size:=(vab.1 hit2).1
  obtain⟨kr,tr⟩:=hk4 r hr3 hTr1
  show ∃n',n'<k/\_
  refine⟨k - 1,by omega,hd4,vis++[y],s',Γ4,bs4,ow4,⟨hsub,hnd⟩,by simp;omega,?_,hS4,?_,λi hi=>(hbs4 i hi).trans (hbs1 i hi),?_,by omega,tr,λb hb hbr hT=>?_⟩
  ·rw[vbK,List.map_singleton,JQ,hfs];exact hs'
  ·rw[kr,hit2];simp
  ·refine hle1.trans (aP.Le.trans (λb n hb hn=>⟨n,hb,vaj _,λo _=>bj (hoth b ?_) o⟩) hle4)
   intro e;subst e
   obtain⟨hg,_⟩:=hS.unown hit1
   rw[hg]at hb;cases hb
  ·obtain⟨q1,q2⟩:=hk1 b hb hbr hT
   obtain⟨q3,q4⟩:=hk4 b (by omega) q2
   exact⟨q3.trans ((hoth b hbr).trans q1),q4⟩
end
end Go.Proofs.YtankopenjcbeeaaGreatDoor
