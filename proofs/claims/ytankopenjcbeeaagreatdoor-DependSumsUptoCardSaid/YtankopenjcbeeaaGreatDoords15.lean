/- PROVED: a part of the proof. Conditions: none. -/
import Derived.Test.YtankopenjcbeeaaGreatDoords14
set_option linter.unusedSimpArgs false
set_option linter.unusedVariables false
noncomputable section
namespace Go.Proofs.YtankopenjcbeeaaGreatDoor
open Go Go.Proofs.Tryz
set_option linter.unusedVariables false
set_option maxRecDepth 100000
noncomputable def Qy:Code:=f196.body.getD .skip
def YT:List Nat:=[]
theorem RN:ZF Pg YT 196 f196 Qy:=zf call196 func196 rfl mixed
section
variable(t:al)(m:(List Int))(m2:Bool)
def rF:Option Bool:=
 if(t.Op==6)=true then
  (pn t.Pred).bind λr3=>
  if(!r3)=true then
   some true
  else if decide ((t.Preds.length:Int)>0)=true then
   some true
  else if(t.Op !=4)=true then
   some (decide ((t.Preds.length:Int)>0))
  else
   some false
 else if(t.Op !=4)=true then
  some (decide ((t.Preds.length:Int)>0))
 else
  some false
theorem zm:OJ 1 (cA Qy 12) (rF t) .normal (λo=>aM 119 [(2,.bptr 1 0),(3,.eptr (ai t)),(32,.bool o)] [.cells [.nptr 0 132,sl (cI .u8) m,.bool m2] [(1,5)],.cells [.bptr 0 0] [],.dead] []) (aM 119 [(2,.bptr 1 0),(3,.eptr (ai t))] [.cells [.nptr 0 132,sl (cI .u8) m,.bool m2] [(1,5)],.cells [.bptr 0 0] [],.dead] []):=RN.j<|
 have pp2:=λ{X Y Z} (r:PV _ X Y Z)=>tw (aX t)<|r;tf (λc1=>tb λr3 br3=>have pp5:=λ{X Y Z} (r:PV _ X Y Z)=>pp2<|tg 4 c1<|tw (dJ t)<|ck (lz _ br3)<|r;tf (λc4=>pp5<|tg 9 c4<|tE) λc4=>have pp7:=λ{X Y Z} (r:PV _ X Y Z)=>pp5<|tg 9 c4<|tw (cE t)<|cb (fl.ln t.Preds)<|r;tf (λc6=>pp7<|tg 16 c6<|tE) λc6=>have pp9:=λ{X Y Z} (r:PV _ X Y Z)=>pp7<|tg 16 c6<|tw (aX t)<|r;tf (λc8=>pp9<|tg 20 c8<|tw (cE t)<|cb (fl.ln t.Preds)<|tE) λc8=>pp9<|tg 20 c8<|tE) λc1=>have pp11:=λ{X Y Z} (r:PV _ X Y Z)=>pp2<|tg 4 c1<|tw (aX t)<|r;tf (λc10=>pp11<|tg 20 c10<|tw (cE t)<|cb (fl.ln t.Preds)<|tE) λc10=>pp11<|tg 20 c10<|tE
end
section
variable(t:al)(refined:Bool)(m:(List Int))(m2:Bool)
def rG:Option (((List Int))):=
 if refined=true then
  (af ([Ay]:List ac) m m2).bind λr16=>
  some r16
 else
  some m
theorem zn:OJ 1 (cA Qy 30) (rG refined m m2) .normal (λo=>aM 119 [(2,.bptr 1 0),(3,.eptr (ai t)),(4,.bool refined)] [.cells [.nptr 0 132,sl (cI .u8) o,.bool m2] [(1,5)],.cells [.bptr 0 0] [],.dead] []) (aM 119 [(2,.bptr 1 0),(3,.eptr (ai t)),(4,.bool refined)] [.cells [.nptr 0 132,sl (cI .u8) m,.bool m2] [(1,5)],.cells [.bptr 0 0] [],.dead] []):=RN.j<|
 tF (tb λr16 br16=>ts<|tv (bK [Ay] 1 rfl)<|tc [0] (ae _ br16)<|tE)<|tE
end
section
variable(R77:bL)(t:al)(refined:Bool)(t74:waC)(t75:Int)(t76:Int)(m:(List Int))(m2:Bool)
def fO:ay:=aM 119 [(2,.bptr 1 0),(3,.eptr (ai t)),(4,.bool refined),(74,sl ai t74),(75,.int .i64 t75),(76,.int .i64 t76)] [.cells [.nptr 0 132,sl (cI .u8) m,.bool m2] [(1,5)],.cells [.bptr 0 0] [],.dead] []
def i6(o:(List Int)×Bool):ay:=aM 119 [(2,.bptr 1 0),(3,.eptr (ai t)),(4,.bool refined)] [.cells [.nptr 0 132,sl (cI .u8) o.1,.bool o.2] [(1,5)],.cells [.bptr 0 0] [],.dead] []
instance iS_print_writer_typ_L4:KS 1 (fO t refined t74 t75 t76 m m2):=⟨rfl,(bk (aI (bH rfl) (aI (cT (bE t)) (aI vzz (aI (up (ak bE t74)) (aI vzz (aI vzz vzz))))))),(aI (aI (bH rfl) (aI (up (ak (RD .u8) m)) (aI vzz vzz))) (aI (aI (bH rfl) trivial) (aI vzz vzz)))⟩
instance iO_print_writer_typ_L4{o:((List Int)×Bool)}:KS 1 (i6 t refined o):=⟨rfl,(bk (aI (bH rfl) (aI (cT (bE t)) (aI vzz vzz)))),(aI (aI (bH rfl) (aI (up (ak (RD .u8) o.1)) (aI vzz vzz))) (aI (aI (bH rfl) trivial) (aI vzz vzz)))⟩
def oK:Option ((Int×(List Int)×Bool)⊕(((List Int)×Bool))):=
 if decide (t76<t75)=true then
  (dw t74 t76).bind λx29=>
  (af ([wA]:List ac) m m2).bind λr30=>
  (tN R77 x29 r30 m2).bind λr31=>
  some (.inl (fh (t76+1),r31.1,r31.2))
 else
  some (.inr (m,m2))
def rI:Option (((List Int)×Bool)):=loop (λ(zz:Int×(List Int)×Bool)=>oK R77 t74 t75 zz.1 zz.2.1 zz.2.2) (t76,m,m2)
theorem xY(hR77:cD R77):OL 1 (cA Qy 8257495) (oK R77 t74 t75 t76 m m2) (λ(zz:Int×(List Int)×Bool)=>fO t refined t74 t75 zz.1 zz.2.1 zz.2.2) (λ_=>.exit 1) (i6 t refined) (fO t refined t74 t75 t76 m m2):=RN.lx<|
 tF (tb λx29 bx29=>tb λr30 br30=>tb λr31 br31=>tv (dC.ia (k:=.i64) bx29)<|tv (dP x29)<|tx Rq<|tx (sR x29)<|ts<|tv (bK [wA] 1 rfl)<|tc [0] (ae _ br30)<|ts<|tv (mm x29 [])<|tc [0] (AQ R77 hR77 _ br31)<|tE)<|tE
theorem zp(hR77:cD R77):OJ 1 (.loop (cA Qy 8257495)) (rI R77 t74 t75 t76 m m2) (.exit 1) (i6 t refined) (fO t refined t74 t75 t76 m m2):=sQ λ_=>xY _ _ _ _ _ _ _ _ hR77
end
section
variable(R77:bL)(t:al)(refined:Bool)(m:(List Int))(m2:Bool)
def rH:Option (((List Int)×Bool)):=
 if(t.Op==1)=true then
  (af ([SW]:List ac) m m2).bind λr19=>
  some (r19,m2)
 else if(t.Op==2)=true then
  (af ([PH]:List ac) m m2).bind λr21=>
  some (r21,m2)
 else if(t.Op==3)=true then
  (af ([PI]:List ac) m m2).bind λr23=>
  some (r23,m2)
 else if(t.Op==5)=true then
  (bY t.Name m m2).bind λr25=>
  some (r25.2,r25.1)
 else if(t.Op==4)=true then
  (iu t.Name m m2).bind λr27=>
  (rI R77 t.Args (t.Args.length:Int) 0 r27.2 r27.1).bind λo32=>
  if decide ((t.Preds.length:Int)>0)=true then
   (af ([Oq]:List ac) o32.1 o32.2).bind λr34=>
   (ol (t.Preds.length:Int) t r34 o32.2).bind λr35=>
   (af ([Uu]:List ac) r35.1 r35.2).bind λr36=>
   some (r36,r35.2)
  else
   some (o32.1,o32.2)
 else if(t.Op==6)=true then
  (oA R77 t m m2).bind λr38=>
  some (r38.1,r38.2)
 else
  some (m,m2)
theorem zo(hR77:cD R77):OJ 1 (cA Qy 62) (rH R77 t m m2) .normal (λo=>aM 119 [(2,.bptr 1 0),(3,.eptr (ai t)),(4,.bool refined)] [.cells [.nptr 0 132,sl (cI .u8) o.1,.bool o.2] [(1,5)],.cells [.bptr 0 0] [],.dead] []) (aM 119 [(2,.bptr 1 0),(3,.eptr (ai t)),(4,.bool refined)] [.cells [.nptr 0 132,sl (cI .u8) m,.bool m2] [(1,5)],.cells [.bptr 0 0] [],.dead] []):=RN.j<|
 tw (aX t)<|tF (tb λr19 br19=>ts<|tv (bK [SW] 1 rfl)<|tc [0] (ae _ br19)<|tE)<|tF (tb λr21 br21=>ts<|tv (bK [PH] 1 rfl)<|tc [0] (ae _ br21)<|tE)<|tF (tb λr23 br23=>ts<|tv (bK [PI] 1 rfl)<|tc [0] (ae _ br23)<|tE)<|tF (tb λr25 br25=>ts<|tw (dg t)<|tc [0] (bI _ br25)<|tE)<|tF (tb λr27 br27=>tb λo32 bo32=>ts<|tw (dg t)<|tc [0] (iY _ br27)<|tw (bw t)<|cb (dC.ln t.Args)<|cu (zp R77 t refined t.Args (t.Args.length:Int) 0 r27.2 r27.1 hR77 _ bo32)<|tw (cE t)<|cb (fl.ln t.Preds)<|tF (tb λr34 br34=>tb λr35 br35=>tb λr36 br36=>ts<|tv (bK [Oq] 1 rfl)<|tc [0] (ae _ br34)<|ts<|tw (cE t)<|cb (fl.ln t.Preds)<|tc [0,1] (wS _ br35)<|ts<|tv (bK [Uu] 1 rfl)<|tc [0] (ae _ br36)<|tE)<|tE)<|tF (tb λr38 br38=>ts<|tv (dP t)<|tc [0] (wX R77 hR77 _ br38)<|tE)<|tE
end
def tS(R77:bL)(t:al)(k0:(List Int))(k02:Bool):Option (Bool×(List Int)):=
 (rF t).bind λo12=>
 if o12=true then
  some (true,k0)
 else
  (pn t.Pred).bind λr14=>
  (rG (!r14) k0 k02).bind λo17=>
  (rH R77 t o17 k02).bind λo39=>
  if(!r14)=true then
   (af ([IC]:List ac) o39.1 o39.2).bind λr41=>
   (gh t.Pred r41 o39.2).bind λr42=>
   (af ([Ux]:List ac) r42.1 r42.2).bind λr43=>
   some (r42.2,r43)
  else
   some (o39.2,o39.1)
theorem BV(R77:bL)(hR77:cD R77){t:al}{k0:(List Int)}{k02:Bool}:OG 196 [.bptr 0 0,.agg (ai t)] [] [.cells [.nptr 0 132,sl (cI .u8) k0,.bool k02] [(1,5)]] (tS R77 t k0 k02) (λr=>.tuple []) [] (λr=>[.cells [.nptr 0 132,sl (cI .u8) r.2,.bool r.1] [(1,5)]]):=RN.g 1<|
 tb λo12 bo12=>TV (rfl:bO (.bptr 0 0)=some [.bptr 0 0]) rfl<|te (iC t)<|gz 1<|cu (zm t k0 k02 _ bo12)<|tF (ts<|ts<|tE)<|tb λr14 br14=>tb λo17 bo17=>tb λo39 bo39=>tw (dJ t)<|ck (lz _ br14)<|gz 0<|cu (zn t (!r14) k0 k02 _ bo17)<|gz 0<|cu (zo R77 t (!r14) o17 k02 hR77 _ bo39)<|tF (tb λr41 br41=>tb λr42 br42=>tb λr43 br43=>ts<|tv (bK [IC] 1 rfl)<|tc [0] (ae _ br41)<|ts<|tw (dJ t)<|tc [0] (gi _ br42)<|ts<|tv (bK [Ux] 1 rfl)<|tc [0] (ae _ br43)<|tE)<|tE
def tT:((al×(List Int)×Bool)->Option (Bool×(List Int)))->(al×(List Int)×Bool)->Option (Bool×(List Int)):=λ(rec:(al×(List Int)×Bool)->Option (Bool×(List Int))) (x:al×(List Int)×Bool)=>tS (λt k0 k02=>rec (t,k0,k02)) x.1 x.2.1 x.2.2
def xX(t:al)(k0:(List Int))(k02:Bool):Option (Bool×(List Int)):=Bq tT (t,k0,k02)
theorem C5{t:al}{k0:(List Int)}{k02:Bool}:OG 196 [.bptr 0 0,.agg (ai t)] [] [.cells [.nptr 0 132,sl (cI .u8) k0,.bool k02] [(1,5)]] (xX t k0 k02) (λr=>.tuple []) [] (λr=>[.cells [.nptr 0 132,sl (cI .u8) r.2,.bool r.1] [(1,5)]]):=N4 λ_ h=>
 fg (F:=tT) (M:=λ(x:al×(List Int)×Bool) (r:Bool×(List Int))=>C Pg GE 196 [.bptr 0 0,.agg (ai x.1)] [] [.cells [.nptr 0 132,sl (cI .u8) x.2.1,.bool x.2.2] [(1,5)]] (.tuple []) [] [.cells [.nptr 0 132,sl (cI .u8) r.2,.bool r.1] [(1,5)]]) (λrec hrec x r h=>BV _ (λt k0 k02=>N4 λr h=>hrec (t,k0,k02) r h) _ h) h
noncomputable def qa9:Code:=f157.body.getD .skip
def Yz:List Nat:=[]
theorem qac:ZF Pg Yz 157 f157 qa9:=zf call157 func157 rfl mixed
def dT(t:al)(k0:(List Int))(k02:Bool):Option (Bool×(List Int)):=
 (wz t).bind λr1=>
 if(r1 !=0)=true then
  some (true,k0)
 else
  (xX t k0 k02).bind λr3=>
  some (r3.1,r3.2)
theorem dU{t:al}{k0:(List Int)}{k02:Bool}:OG 157 [.bptr 0 0,.agg (ai t)] [] [.cells [.nptr 0 132,sl (cI .u8) k0,.bool k02] [(1,5)]] (dT t k0 k02) (λr=>.tuple []) [] (λr=>[.cells [.nptr 0 132,sl (cI .u8) r.2,.bool r.1] [(1,5)]]):=qac.g 1<|
 tb λr1 br1=>te (iC t)<|tv (dP t)<|ck (ul _ br1)<|tF (ts<|tE)<|tb λr3 br3=>tv (dP t)<|tc [0] (C5 _ br3)<|tE
noncomputable def WP:Code:=f159.body.getD .skip
def YB:List Nat:=[]
theorem Wp:ZF Pg YB 159 f159 WP:=zf call159 func159 rfl mixed
section
variable(p:ag)(m:(List Int))(m2:Bool)
def qc:Option Bool:=
 if decide (p.Op<10)=true then
  some true
 else
  some (decide (p.Op>18))
theorem xW:OJ 1 (cA WP 12) (qc p) .normal (λo=>aM 24 [(0,.bptr 0 0),(3,.eptr (aa p)),(11,.bool o)] [.cells [.nptr 0 132,sl (cI .u8) m,.bool m2] [(1,5)],.dead] []) (aM 24 [(0,.bptr 0 0),(3,.eptr (aa p))] [.cells [.nptr 0 132,sl (cI .u8) m,.bool m2] [(1,5)],.dead] []):=Wp.j<|
 have pp2:=λ{X Y Z} (r:PV _ X Y Z)=>tw (aK p)<|r;tf (λc1=>pp2<|tg 4 c1<|tE) λc1=>pp2<|tg 4 c1<|tw (aK p)<|tE
end
def wc(p:ag)(k0:(List Int))(k02:Bool):Option ((List Int)×Bool):=
 (qc p).bind λo3=>
 if o3=true then
  (gh p k0 k02).bind λr5=>
  some (r5.1,r5.2)
 else
  (af ([mD]:List ac) k0 k02).bind λr6=>
  (gh p r6 k02).bind λr7=>
  (af ([mE]:List ac) r7.1 r7.2).bind λr8=>
  some (r8,r7.2)
theorem BU{p:ag}{k0:(List Int)}{k02:Bool}:OG 159 [.bptr 0 0,.agg (aa p)] [] [.cells [.nptr 0 132,sl (cI .u8) k0,.bool k02] [(1,5)]] (wc p k0 k02) (λr=>.tuple []) [] (λr=>[.cells [.nptr 0 132,sl (cI .u8) r.1,.bool r.2] [(1,5)]]):=Wp.g 1<|
 tb λo3 bo3=>te (fy p)<|gz 1<|cu (xW p k0 k02 _ bo3)<|tF (tb λr5 br5=>tv (co p)<|tc [0] (gi _ br5)<|tE)<|tb λr6 br6=>tb λr7 br7=>tb λr8 br8=>tv (bK [mD] 1 rfl)<|tc [0] (ae _ br6)<|tv (co p)<|tc [0] (gi _ br7)<|tv (bK [mE] 1 rfl)<|tc [0] (ae _ br8)<|tE
noncomputable def qba:Code:=f158.body.getD .skip
def YA:List Nat:=[]
theorem qad:ZF Pg YA 158 f158 qba:=zf call158 func158 rfl mixed
def tP(i:Int)(a:fQ)(k1:(List Int))(k12:Bool):Option ((List Int)×Bool):=
 (dw a.Metric i).bind λx1=>
 (wc x1 k1 k12).bind λr2=>
 some (r2.1,r2.2)
theorem AS{i:Int}{a:fQ}{k1:(List Int)}{k12:Bool}:OG 158 [.int .i64 i,.bptr 0 0,.eptr (bZ a)] [] [.cells [.bptr 1 0] [],.cells [.nptr 1 132,sl (cI .u8) k1,.bool k12] [(1,5)]] (tP i a k1 k12) (λr=>.tuple []) [] (λr=>[.cells [.bptr 1 0] [],.cells [.nptr 1 132,sl (cI .u8) r.1,.bool r.2] [(1,5)]]):=qad.g 2<|
 tb λx1 bx1=>tb λr2 br2=>tk<|Av (.dx [0,0,2,0,14,30] [] [] [])<|ts<|tw (lY a)<|tv (fl.ia (k:=.i64) bx1)<|tv (co x1)<|tc [1] (BU _ br2)<|tE
section
variable(v:fQ)(i:Int)(t7:Int)(m:(List Int))(m2:Bool)
def lm:Option (((List Int))):=
 if decide (i>0)=true then
  (af ([ee]:List ac) m m2).bind λr3=>
  some r3
 else
  some m
theorem sA:OJ 2 (cA nQ 1014) (lm i m m2) .normal (λo=>aM 20 [(0,.bptr 0 0),(2,.func (.func 158) [] [.bptr 1 0,.eptr (bZ v)]),(6,.int .i64 i),(7,.int .i64 t7),(8,.int .i64 i)] [.cells [.nptr 0 132,sl (cI .u8) o,.bool m2] [(1,5)],.cells [.bptr 0 0] []] []) (aM 20 [(0,.bptr 0 0),(2,.func (.func 158) [] [.bptr 1 0,.eptr (bZ v)]),(6,.int .i64 i),(7,.int .i64 t7),(8,.int .i64 i)] [.cells [.nptr 0 132,sl (cI .u8) m,.bool m2] [(1,5)],.cells [.bptr 0 0] []] []):=oV.j<|
 tF (tb λr3 br3=>tv (bK [ee] 1 rfl)<|tc [0] (ae _ br3)<|tE)<|tE
end
section
variable(v:fQ)(t7:Int)(t8:Int)(m:(List Int))(m2:Bool)
def fG:ay:=aM 20 [(0,.bptr 0 0),(2,.func (.func 158) [] [.bptr 1 0,.eptr (bZ v)]),(7,.int .i64 t7),(8,.int .i64 t8)] [.cells [.nptr 0 132,sl (cI .u8) m,.bool m2] [(1,5)],.cells [.bptr 0 0] []] []
def jZ(o:(List Int)×Bool):ay:=aM 20 [] [.cells [.nptr 0 132,sl (cI .u8) o.1,.bool o.2] [(1,5)],.cells [.bptr 0 0] []] []
def jY:Option ((Int×(List Int)×Bool)⊕(((List Int)×Bool))):=
 if decide (t8<t7)=true then
  (lm t8 m m2).bind λo4=>
  (tP t8 v o4 m2).bind λr5=>
  some (.inl (fh (t8+1),r5.1,r5.2))
 else
  some (.inr (m,m2))
def lp:Option (((List Int)×Bool)):=loop (λ(zz:Int×(List Int)×Bool)=>jY v t7 zz.1 zz.2.1 zz.2.2) (t8,m,m2)
theorem qE:OL 2 (cA nQ 15) (jY v t7 t8 m m2) (λ(zz:Int×(List Int)×Bool)=>fG v t7 zz.1 zz.2.1 zz.2.2) (λ_=>.exit 0) jZ (fG v t7 t8 m m2):=oV.l<|
 tF (tb λo4 bo4=>tb λr5 br5=>gz 2<|cu (sA v t8 t7 m m2 _ bo4)<|tc [1,0] (AS _ br5)<|tE)<|tE
theorem sB:OJ 2 (.loop (cA nQ 15)) (lp v t7 t8 m m2) (.exit 0) jZ (fG v t7 t8 m m2):=sQ λ_=>qE _ _ _ _ _
end
def oq(n:Int)(c:fQ)(k0:(List Int))(k02:Bool):Option ((List Int)×Bool):=
 (lp c n 0 k0 k02).bind λo6=>
 some (o6.1,o6.2)
theorem wU{n:Int}{c:fQ}{k0:(List Int)}{k02:Bool}:OG 149 [.bptr 0 0,.int .i64 n,.func (.func 158) [] [.bptr 1 0,.eptr (bZ c)]] [] [.cells [.nptr 0 132,sl (cI .u8) k0,.bool k02] [(1,5)],.cells [.bptr 0 0] []] (oq n c k0 k02) (λr=>.tuple []) [] (λr=>[.cells [.nptr 0 132,sl (cI .u8) r.1,.bool r.2] [(1,5)],.cells [.bptr 0 0] []]):=oV.g 2<|
 tb λo6 bo6=>cu (sB c n 0 k0 k02 _ bo6)<|tE
noncomputable def K7:Code:=f107.body.getD .skip
def Yb:List Nat:=[]
theorem Nw:ZF Pg Yb 107 f107 K7:=zf call107 func107 rfl mixed
section
variable(s:fQ)(t18:waA)(t19:Int)(t20:Int)(m:(List Int))(m2:Bool)
def iW:ay:=aM 138 [(2,.bptr 1 0),(3,.eptr (bZ s)),(18,sl cS t18),(19,.int .i64 t19),(20,.int .i64 t20)] [.cells [.nptr 0 132,sl (cI .u8) m,.bool m2] [(1,5)],.cells [.bptr 0 0] [],.dead] []
def oH(o:(List Int)×Bool):ay:=aM 138 [(2,.bptr 1 0),(3,.eptr (bZ s))] [.cells [.nptr 0 132,sl (cI .u8) o.1,.bool o.2] [(1,5)],.cells [.bptr 0 0] [],.dead] []
def oG:Option ((Int×(List Int)×Bool)⊕(((List Int)×Bool))):=
 if decide (t20<t19)=true then
  (dw t18 t20).bind λx4=>
  (af ([wA]:List ac) m m2).bind λr5=>
  (bY x4 r5 m2).bind λr6=>
  some (.inl (fh (t20+1),r6.2,r6.1))
 else
  some (.inr (m,m2))
def rD:Option (((List Int)×Bool)):=loop (λ(zz:Int×(List Int)×Bool)=>oG t18 t19 zz.1 zz.2.1 zz.2.2) (t20,m,m2)
theorem xT:OL 1 (cA K7 855) (oG t18 t19 t20 m m2) (λ(zz:Int×(List Int)×Bool)=>iW s t18 t19 zz.1 zz.2.1 zz.2.2) (λ_=>.exit 0) (oH s) (iW s t18 t19 t20 m m2):=Nw.l<|
 tF (tb λx4 bx4=>tb λr5 br5=>tb λr6 br6=>tv (cz.ia (k:=.i64) bx4)<|tv (cH Iw (.str x4) [])<|ts<|tv (bK [wA] 1 rfl)<|tc [0] (ae _ br5)<|ts<|tc [0] (bI _ br6)<|tE)<|tE
theorem zk:OJ 1 (.loop (cA K7 855)) (rD t18 t19 t20 m m2) (.exit 0) (oH s) (iW s t18 t19 t20 m m2):=sQ λ_=>xT _ _ _ _ _ _
end
section
variable(s:fQ)(m:(List Int))(m2:Bool)
def ry:Option (((List Int)×Bool)):=
 if decide ((s.Vars.length:Int)>0)=true then
  (af ([Ox]:List ac) m m2).bind λr2=>
  (rD s.Vars (s.Vars.length:Int) 0 r2 m2).bind λo7=>
  (af ([Cn]:List ac) o7.1 o7.2).bind λr8=>
  some (r8,o7.2)
 else
  some (m,m2)
theorem ze:OJ 1 (cA K7 6) (ry s m m2) .normal (λo=>aM 138 [(2,.bptr 1 0),(3,.eptr (bZ s))] [.cells [.nptr 0 132,sl (cI .u8) o.1,.bool o.2] [(1,5)],.cells [.bptr 0 0] [],.dead] []) (aM 138 [(2,.bptr 1 0),(3,.eptr (bZ s))] [.cells [.nptr 0 132,sl (cI .u8) m,.bool m2] [(1,5)],.cells [.bptr 0 0] [],.dead] []):=Nw.j<|
 tw (vJ s)<|cb (cz.ln s.Vars)<|tF (tb λr2 br2=>tb λo7 bo7=>tb λr8 br8=>ts<|tv (bK [Ox] 1 rfl)<|tc [0] (ae _ br2)<|tw (vJ s)<|cb (cz.ln s.Vars)<|cu (zk s s.Vars (s.Vars.length:Int) 0 r2 m2 _ bo7)<|ts<|tv (bK [Cn] 1 rfl)<|tc [0] (ae _ br8)<|tE)<|tE
end
section
variable(s:fQ)(m:(List Int))(m2:Bool)
def rz:Option (((List Int)×Bool)):=
 if decide ((s.Needs.length:Int)>0)=true then
  (af ([KY]:List ac) m m2).bind λr11=>
  (tL s.Needs r11 m2).bind λr12=>
  (af ([Cn]:List ac) r12.1 r12.2).bind λr13=>
  some (r13,r12.2)
 else
  some (m,m2)
theorem zg:OJ 1 (cA K7 14) (rz s m m2) .normal (λo=>aM 138 [(2,.bptr 1 0),(3,.eptr (bZ s))] [.cells [.nptr 0 132,sl (cI .u8) o.1,.bool o.2] [(1,5)],.cells [.bptr 0 0] [],.dead] []) (aM 138 [(2,.bptr 1 0),(3,.eptr (bZ s))] [.cells [.nptr 0 132,sl (cI .u8) m,.bool m2] [(1,5)],.cells [.bptr 0 0] [],.dead] []):=Nw.j<|
 tw (vK s)<|cb (qcz.ln s.Needs)<|tF (tb λr11 br11=>tb λr12 br12=>tb λr13 br13=>ts<|tv (bK [KY] 1 rfl)<|tc [0] (ae _ br11)<|ts<|tw (vK s)<|tc [0] (AP _ br12)<|ts<|tv (bK [Cn] 1 rfl)<|tc [0] (ae _ br13)<|tE)<|tE
end
section
variable(s:fQ)(m:(List Int))(m2:Bool)
def rA:Option (((List Int)×Bool)):=
 if decide ((s.Abs.length:Int)>0)=true then
  (af ([Mi]:List ac) m m2).bind λr16=>
  (og (s.Abs.length:Int) s r16 m2).bind λr17=>
  (af ([IF]:List ac) r17.1 r17.2).bind λr18=>
  some (r18,r17.2)
 else
  some (m,m2)
theorem zh:OJ 1 (cA K7 30) (rA s m m2) .normal (λo=>aM 138 [(2,.bptr 1 0),(3,.eptr (bZ s))] [.cells [.nptr 0 132,sl (cI .u8) o.1,.bool o.2] [(1,5)],.cells [.bptr 0 0] [],.dead] []) (aM 138 [(2,.bptr 1 0),(3,.eptr (bZ s))] [.cells [.nptr 0 132,sl (cI .u8) m,.bool m2] [(1,5)],.cells [.bptr 0 0] [],.dead] []):=Nw.j<|
 tw (ji s)<|cb (TS.ln s.Abs)<|tF (tb λr16 br16=>tb λr17 br17=>tb λr18 br18=>ts<|tv (bK [Mi] 1 rfl)<|tc [0] (ae _ br16)<|ts<|tw (ji s)<|cb (TS.ln s.Abs)<|tc [0,1] (wQ _ br17)<|ts<|tv (bK [IF] 1 rfl)<|tc [0] (ae _ br18)<|tE)<|tE
end
section
variable(s:fQ)(t65:waG)(t66:Int)(t67:Int)(m:(List Int))(m2:Bool)(m3:ac)(m4:wbA)(m5:Int)(m6:ac)(m7:Int)(m8:waB)(m9:Int)(m10:ac)(m11:Int)(m12:waB)
def rB:Option Bool:=
 if m2=true then
  some true
 else
  some ((m4.length:Int)==0)
theorem zi:OJ 1 (cA K7 32246) (rB m2 m4) .normal (λo=>aM 138 [(2,.bptr 1 0),(3,.eptr (bZ s)),(7,.bptr 3 0),(65,sl aS t65),(66,.int .i64 t66),(67,.int .i64 t67)] [.cells [.nptr 0 132,sl (cI .u8) m,.bool o] [(1,5)],.cells [.bptr 0 0] [],.dead,.cells [.str m3,sl cW m4,.int .i64 m5,.str m6,.int .i64 m7,sl aa m8,.int .i64 m9,.str m10,.int .i64 m11,sl aa m12] []] []) (aM 138 [(2,.bptr 1 0),(3,.eptr (bZ s)),(7,.bptr 3 0),(65,sl aS t65),(66,.int .i64 t66),(67,.int .i64 t67)] [.cells [.nptr 0 132,sl (cI .u8) m,.bool m2] [(1,5)],.cells [.bptr 0 0] [],.dead,.cells [.str m3,sl cW m4,.int .i64 m5,.str m6,.int .i64 m7,sl aa m8,.int .i64 m9,.str m10,.int .i64 m11,sl aa m12] []] []):=Nw.j<|
 tf (λc22=>S2 [0,0,2,6,14,30,62,126,254,510,1022,2047,4095,8191]<|ts<|ts<|ts<|tg 6 c22<|qdv (rfl:bO (.bool true)=some [.bool true])<|tE) λc22=>S2 [0,0,2,6,14,30,62,126,254,510,1022,2047,4095,8191]<|ts<|ts<|ts<|tg 6 c22<|ts<|cb (Oj.ln m4)<|qdv (rfl:bO (.bool ((m4.length:Int)==0))=some [.bool ((m4.length:Int)==0)])<|tE
end
section
variable(s:fQ)(t65:waG)(t66:Int)(t67:Int)(m:(List Int))(m2:Bool)(m3:ac)(m4:wbA)(m5:Int)(m6:ac)(m7:Int)(m8:waB)(m9:Int)(m10:ac)(m11:Int)(m12:waB)
def rC:Option ((ac×ac)):=
 (Is (⟨m9,m10,m11,m12⟩:ag)).bind λr30=>
 if r30=true then
  some (uq,Cn)
 else
  some (wB,ID)
theorem zj:OJ 1 (cA K7 8255486) (rC m9 m10 m11 m12) .normal (λo=>aM 138 [(2,.bptr 1 0),(3,.eptr (bZ s)),(7,.bptr 3 0),(8,.str o.1),(9,.str o.2),(65,sl aS t65),(66,.int .i64 t66),(67,.int .i64 t67)] [.cells [.nptr 0 132,sl (cI .u8) m,.bool m2] [(1,5)],.cells [.bptr 0 0] [],.dead,.cells [.str m3,sl cW m4,.int .i64 m5,.str m6,.int .i64 m7,sl aa m8,.int .i64 m9,.str m10,.int .i64 m11,sl aa m12] []] []) (aM 138 [(2,.bptr 1 0),(3,.eptr (bZ s)),(7,.bptr 3 0),(8,.str wB),(9,.str ID),(65,sl aS t65),(66,.int .i64 t66),(67,.int .i64 t67)] [.cells [.nptr 0 132,sl (cI .u8) m,.bool m2] [(1,5)],.cells [.bptr 0 0] [],.dead,.cells [.str m3,sl cW m4,.int .i64 m5,.str m6,.int .i64 m7,sl aa m8,.int .i64 m9,.str m10,.int .i64 m11,sl aa m12] []] []):=Nw.j<|
 tb λr30 br30=>tv (iS (⟨m9,m10,m11,m12⟩:ag) [])<|ck (Kv _ br30)<|tF tE<|tE
end
section
variable(s:fQ)(t65:waG)(t66:Int)(t67:Int)(m:(List Int))(m2:Bool)
def fN:ay:=aM 138 [(2,.bptr 1 0),(3,.eptr (bZ s)),(65,sl aS t65),(66,.int .i64 t66),(67,.int .i64 t67)] [.cells [.nptr 0 132,sl (cI .u8) m,.bool m2] [(1,5)],.cells [.bptr 0 0] [],.dead] []
def iX(o:(List Int)×Bool):ay:=aM 138 [(2,.bptr 1 0),(3,.eptr (bZ s))] [.cells [.nptr 0 132,sl (cI .u8) o.1,.bool o.2] [(1,5)],.cells [.bptr 0 0] [],.dead] []
instance iS_print_writer_sig_L5:KS 1 (fN s t65 t66 t67 m m2):=⟨rfl,(bk (aI (bH rfl) (aI (cT (MB s)) (aI (up (ak eA t65)) (aI vzz (aI vzz vzz)))))),(aI (aI (bH rfl) (aI (up (ak (RD .u8) m)) (aI vzz vzz))) (aI (aI (bH rfl) trivial) (aI vzz vzz)))⟩
instance iO_print_writer_sig_L5{o:((List Int)×Bool)}:KS 1 (iX s o):=⟨rfl,(bk (aI (bH rfl) (aI (cT (MB s)) trivial))),(aI (aI (bH rfl) (aI (up (ak (RD .u8) o.1)) (aI vzz vzz))) (aI (aI (bH rfl) trivial) (aI vzz vzz)))⟩
def oI:Option ((Int×(List Int)×Bool)⊕(((List Int)×Bool))):=
 if decide (t67<t66)=true then
  (dw t65 t67).bind λx21=>
  (rB m2 x21.Vars).bind λo23=>
  (af ([KX]:List ac) m o23).bind λr24=>
  (bY x21.Name r24 o23).bind λr25=>
  (af ([G2]:List ac) r25.2 r25.1).bind λr26=>
  (wd x21.Vars false r26 r25.1).bind λr27=>
  (af ([Ou]:List ac) r27.1 r27.2).bind λr28=>
  (iw x21.Hyp r28 r27.2).bind λr29=>
  (rC x21.Goal.Op x21.Goal.Name x21.Goal.N x21.Goal.Kids).bind λo32=>
  (af ([o32.1]:List ac) r29.1 r29.2).bind λr33=>
  (iw x21.Goal r33 r29.2).bind λr34=>
  (af ([o32.2]:List ac) r34.1 r34.2).bind λr35=>
  some (.inl (fh (t67+1),r35,r34.2))
 else
  some (.inr (m,m2))
def rE:Option (((List Int)×Bool)):=loop (λ(zz:Int×(List Int)×Bool)=>oI t65 t66 zz.1 zz.2.1 zz.2.2) (t67,m,m2)
theorem xU:OL 1 (cA K7 503) (oI t65 t66 t67 m m2) (λ(zz:Int×(List Int)×Bool)=>fN s t65 t66 zz.1 zz.2.1 zz.2.2) (λ_=>.exit 2) (iX s) (fN s t65 t66 t67 m m2):=Nw.lx<|
 tF (tb λx21 bx21=>tb λo23 bo23=>tb λr24 br24=>tb λr25 br25=>tb λr26 br26=>tb λr27 br27=>tb λr28 br28=>tb λr29 br29=>tb λo32 bo32=>tb λr33 br33=>tb λr34 br34=>tb λr35 br35=>tv (XL.ia (k:=.i64) bx21)<|tv (Q2 x21)<|tx XB<|tx (Pq x21)<|gz 0<|cu (zi s t65 t66 t67 m m2 x21.Name x21.Vars x21.Hyp.Op x21.Hyp.Name x21.Hyp.N x21.Hyp.Kids x21.Goal.Op x21.Goal.Name x21.Goal.N x21.Goal.Kids _ bo23)<|ts<|tv (bK [KX] 1 rfl)<|tc [0] (ae _ br24)<|ts<|ts<|tc [0] (bI _ br25)<|ts<|tv (bK [G2] 1 rfl)<|tc [0] (ae _ br26)<|ts<|ts<|tc [0] (BW _ br27)<|ts<|tv (bK [Ou] 1 rfl)<|tc [0] (ae _ br28)<|ts<|tv (iS x21.Hyp [.int .i64 x21.Goal.Op,.str x21.Goal.Name,.int .i64 x21.Goal.N,sl aa x21.Goal.Kids])<|tc [0] (iZ _ br29)<|gz 1<|cu (zj s t65 t66 t67 r29.1 r29.2 x21.Name x21.Vars x21.Hyp.Op x21.Hyp.Name x21.Hyp.N x21.Hyp.Kids x21.Goal.Op x21.Goal.Name x21.Goal.N x21.Goal.Kids _ bo32)<|ts<|tv (bK [o32.1] 1 rfl)<|tc [0] (ae _ br33)<|ts<|tv (iS x21.Goal [])<|tc [0] (iZ _ br34)<|ts<|tv (bK [o32.2] 1 rfl)<|tc [0] (ae _ br35)<|tE)<|tE
theorem zl:OJ 1 (.loop (cA K7 503)) (rE t65 t66 t67 m m2) (.exit 2) (iX s) (fN s t65 t66 t67 m m2):=sQ λ_=>xU _ _ _ _ _ _
end
def xS(s:fQ)(k0:(List Int))(k02:Bool):Option ((List Int)×Bool):=
 (ry s k0 k02).bind λo9=>
 (rz s o9.1 o9.2).bind λo14=>
 (rA s o14.1 o14.2).bind λo19=>
 (rE s.Bounds (s.Bounds.length:Int) 0 o19.1 o19.2).bind λo36=>
 (dT s.Type_ o36.1 o36.2).bind λr37=>
 if decide ((s.Metric.length:Int)>0)=true then
  (af ([Cl]:List ac) r37.2 r37.1).bind λr39=>
  (oq (s.Metric.length:Int) s r39 r37.1).bind λr40=>
  some (r40.1,r40.2)
 else
  some (r37.2,r37.1)
theorem C4{s:fQ}{k0:(List Int)}{k02:Bool}:OG 107 [.bptr 0 0,.agg (bZ s)] [] [.cells [.nptr 0 132,sl (cI .u8) k0,.bool k02] [(1,5)]] (xS s k0 k02) (λr=>.tuple []) [] (λr=>[.cells [.nptr 0 132,sl (cI .u8) r.1,.bool r.2] [(1,5)]]):=Nw.g 1<|
 tb λo9 bo9=>tb λo14 bo14=>tb λo19 bo19=>tb λo36 bo36=>tb λr37 br37=>TV (rfl:bO (.bptr 0 0)=some [.bptr 0 0]) rfl<|te (TM s)<|gz 0<|cu (ze s k0 k02 _ bo9)<|gz 0<|cu (zg s o9.1 o9.2 _ bo14)<|gz 0<|cu (zh s o14.1 o14.2 _ bo19)<|tw (FA s)<|cb (XL.ln s.Bounds)<|cu (zl s s.Bounds (s.Bounds.length:Int) 0 o19.1 o19.2 _ bo36)<|ts<|tw (FB s)<|tc [0] (dU _ br37)<|tw (lY s)<|cb (fl.ln s.Metric)<|tF (tb λr39 br39=>tb λr40 br40=>ts<|tv (bK [Cl] 1 rfl)<|tc [0] (ae _ br39)<|ts<|tw (lY s)<|cb (fl.ln s.Metric)<|tc [0,1] (wU _ br40)<|tE)<|tE
abbrev eu:=(am->Int->Option (Bool×Int))
abbrev ep(R:eu):Prop:=∀(e:am) (k0:Int),OG 199 [.agg (aj e),.func (.func 238) [] [.bptr 0 0]] [] [.cells [.int .i64 k0] []] (R e k0) (λr=>.bool r.1) [] (λr=>[.cells [.int .i64 r.2] []])
noncomputable def qbw:Code:=f238.body.getD .skip
def Zg:List Nat:=[]
theorem qaw:ZF Pg Zg 238 f238 qbw:=zf call238 func238 rfl mixed
def B8(a:am)(k0:Int):Option (Bool×Int):=
 some (true,fh (k0+1))
theorem GN{a:am}{k0:Int}:OG 238 [.agg (aj a),.bptr 0 0] [] [.cells [.int .i64 k0] []] (B8 a k0) (λr=>.bool r.1) [] (λr=>[.cells [.int .i64 r.2] []]):=qaw.g 1<|
 te (cO a)<|ts<|ts<|tE
noncomputable def Mo:Code:=f199.body.getD .skip
def YW:List Nat:=[]
theorem Qw:ZF Pg YW 199 f199 Mo:=zf call199 func199 rfl mixed
section
variable(R90:eu)(e:am)(t14:waE)(t15:Int)(t16:Int)(m:Int)
def eN:ay:=aM 38 [(1,.func (.func 238) [] [.bptr 0 0]),(2,.eptr (aj e)),(14,sl aj t14),(15,.int .i64 t15),(16,.int .i64 t16)] [.cells [.int .i64 m] [],.dead] []
def lK(o:Int⊕(Int)):Exit:=match o with
 |(.inl _)=>.ret
 |(.inr _)=>.exit 0
def gw(o:Int⊕(Int)):ay:=match o with
 |(.inl o)=>aM 38 [(4,.bool false)] [.cells [.int .i64 o] [],.dead] []
 |(.inr o)=>aM 38 [(1,.func (.func 238) [] [.bptr 0 0]),(2,.eptr (aj e))] [.cells [.int .i64 o] [],.dead] []
instance iS_syntax_walk_Nodes_1_L1:KS 1 (eN e t14 t15 t16 m):=⟨rfl,(bk (aI (aI vzz (aI (bH rfl) trivial)) (aI (cT (b7 e)) (aI (up (ak b7 t14)) (aI vzz (aI vzz vzz)))))),(aI (aI vzz vzz) (aI vzz vzz))⟩
instance iO_syntax_walk_Nodes_1_L1{o:Int⊕(Int)}:KS 1 (gw e o):=match o with
 |(.inl o)=>⟨rfl,(bk (aI vzz vzz)),(aI (aI vzz vzz) (aI vzz vzz))⟩
 |(.inr o)=>⟨rfl,(bk (aI (aI vzz (aI (bH rfl) trivial)) (aI (cT (b7 e)) trivial))),(aI (aI vzz vzz) (aI vzz vzz))⟩
def lJ:Option ((Int×Int)⊕(Int⊕(Int))):=
 if decide (t16<t15)=true then
  (dw t14 t16).bind λx4=>
  (R90 x4 m).bind λr5=>
  if(!r5.1)=true then
   some (.inr (.inl r5.2))
  else
   some (.inl (fh (t16+1),r5.2))
 else
  some (.inr (.inr m))
def nO:Option (Int⊕(Int)):=loop (λ(zz:Int×Int)=>lJ R90 t14 t15 zz.1 zz.2) (t16,m)
theorem uh(hR90:ep R90):OL 1 (cA Mo 119) (lJ R90 t14 t15 t16 m) (λ(zz:Int×Int)=>eN e t14 t15 zz.1 zz.2) lK (gw e) (eN e t14 t15 t16 m):=Qw.lx<|
 tF (tb λx4 bx4=>tb λr5 br5=>tv (fU.ia (k:=.i64) bx4)<|tv (aY x4)<|tx Nk<|tx (ms x4)<|tv (eg x4 [])<|tc [0] (hR90 _ _ _ br5)<|tF tE<|tE)<|tE
theorem kF(hR90:ep R90):OK 1 (.loop (cA Mo 119)) (nO R90 t14 t15 t16 m) lK (gw e) (eN e t14 t15 t16 m):=HK λ_=>uh _ _ _ _ _ _ hR90
end
section
variable(R90:eu)(t26:waD)(t27:Int)(t28:Int)(m:Int)
def eO:ay:=aM 38 [(1,.func (.func 238) [] [.bptr 0 0]),(26,sl aN t26),(27,.int .i64 t27),(28,.int .i64 t28)] [.cells [.int .i64 m] [],.dead] []
def lM(o:Int⊕(Int)):Exit:=match o with
 |(.inl _)=>.ret
 |(.inr _)=>.exit 2
def gy(o:Int⊕(Int)):ay:=match o with
 |(.inl o)=>aM 38 [(4,.bool false)] [.cells [.int .i64 o] [],.dead] []
 |(.inr o)=>aM 38 [] [.cells [.int .i64 o] [],.dead] []
instance iS_syntax_walk_Nodes_1_L2:KS 1 (eO t26 t27 t28 m):=⟨rfl,(bk (aI (aI vzz (aI (bH rfl) trivial)) (aI (up (ak dy t26)) (aI vzz (aI vzz vzz))))),(aI (aI vzz vzz) (aI vzz vzz))⟩
instance iO_syntax_walk_Nodes_1_L2{o:Int⊕(Int)}:KS 1 (gy o):=match o with
 |(.inl o)=>⟨rfl,(bk (aI vzz vzz)),(aI (aI vzz vzz) (aI vzz vzz))⟩
 |(.inr o)=>⟨rfl,(bk vzz),(aI (aI vzz vzz) (aI vzz vzz))⟩
def lL:Option ((Int×Int)⊕(Int⊕(Int))):=
 if decide (t28<t27)=true then
  (dw t26 t28).bind λx9=>
  (R90 x9.Body m).bind λr10=>
  if(!r10.1)=true then
   some (.inr (.inl r10.2))
  else
   some (.inl (fh (t28+1),r10.2))
 else
  some (.inr (.inr m))
def nP:Option (Int⊕(Int)):=loop (λ(zz:Int×Int)=>lL R90 t26 t27 zz.1 zz.2) (t28,m)
theorem ui(hR90:ep R90):OL 1 (cA Mo 247) (lL R90 t26 t27 t28 m) (λ(zz:Int×Int)=>eO t26 t27 zz.1 zz.2) lM gy (eO t26 t27 t28 m):=Qw.lx<|
 tF (tb λx9 bx9=>tb λr10 br10=>tv (gp.ia (k:=.i64) bx9)<|tv (mX x9)<|tx DN<|tx (kY x9)<|tv (eg x9.Body [])<|tc [0] (hR90 _ _ _ br10)<|tF tE<|tE)<|tE
theorem kG(hR90:ep R90):OK 1 (.loop (cA Mo 247)) (nP R90 t26 t27 t28 m) lM gy (eO t26 t27 t28 m):=HK λ_=>ui _ _ _ _ _ hR90
end
def oT(R90:eu)(e:am)(k0:Int):Option (Bool×Int):=
 (B8 e k0).bind λr1=>
 if(!r1.1)=true then
  some (false,r1.2)
 else
  (nO R90 e.Kids (e.Kids.length:Int) 0 r1.2).bind λo7=>match o7 with
  |(.inl o7)=>
   some (false,o7)
  | (.inr o7) =>
   (nP R90 e.Alts (e.Alts.length:Int) 0 o7).bind λo12=>match o12 with
   |(.inl o12)=>
    some (false,o12)
   |(.inr o12)=>
    some (true,o12)
theorem yt(R90:eu)(hR90:ep R90){e:am}{k0:Int}:OG 199 [.agg (aj e),.func (.func 238) [] [.bptr 0 0]] [] [.cells [.int .i64 k0] []] (oT R90 e k0) (λr=>.bool r.1) [] (λr=>[.cells [.int .i64 r.2] []]):=Qw.g 1<|
 tb λr1 br1=>te (cO e)<|tv (aY e)<|tc [0] (GN _ br1)<|tF tE<|tw (az e)<|cb (fU.ln e.Kids)<|t2 (λo7 bo7=>cu (kF R90 e e.Kids (e.Kids.length:Int) 0 r1.2 hR90 _ bo7)<|tE) λo7 bo7=>cu (kF R90 e e.Kids (e.Kids.length:Int) 0 r1.2 hR90 _ bo7)<|tw (aE e)<|cb (gp.ln e.Alts)<|t2 (λo12 bo12=>cu (kG R90 e.Alts (e.Alts.length:Int) 0 o7 hR90 _ bo12)<|tE) λo12 bo12=>cu (kG R90 e.Alts (e.Alts.length:Int) 0 o7 hR90 _ bo12)<|tE
def oU:((am×Int)->Option (Bool×Int))->(am×Int)->Option (Bool×Int):=λ(rec:(am×Int)->Option (Bool×Int)) (x:am×Int)=>oT (λe k0=>rec (e,k0)) x.1 x.2
def rS(e:am)(k0:Int):Option (Bool×Int):=Bq oU (e,k0)
theorem zD{e:am}{k0:Int}:OG 199 [.agg (aj e),.func (.func 238) [] [.bptr 0 0]] [] [.cells [.int .i64 k0] []] (rS e k0) (λr=>.bool r.1) [] (λr=>[.cells [.int .i64 r.2] []]):=N4 λ_ h=>
 fg (F:=oU) (M:=λ(x:am×Int) (r:Bool×Int)=>C Pg GE 199 [.agg (aj x.1),.func (.func 238) [] [.bptr 0 0]] [] [.cells [.int .i64 x.2] []] (.bool r.1) [] [.cells [.int .i64 r.2] []]) (λrec hrec x r h=>yt _ (λe k0=>N4 λr h=>hrec (e,k0) r h) _ h) h
noncomputable def qbh:Code:=f197.body.getD .skip
def YU:List Nat:=[]
theorem qaj:ZF Pg YU 197 f197 qbh:=zf call197 func197 rfl mixed
def GM(e:am):Option Int:=
 (rS e 0).bind λr1=>
 some r1.2
theorem I7{e:am}:OV 197 [.agg (aj e)] (GM e) (λr=>.int .i64 r) []:=qaj.v<|
 tb λr1 br1=>te (cO e)<|tx qe2<|ts<|tv (aY e)<|tc [1] (zD _ br1)<|ts<|tE
abbrev jH:=(am->Option Int)
abbrev jG(R:jH):Prop:=∀(e:am),OV 198 [.agg (aj e)] (R e) (λr=>.int .i64 r) []
noncomputable def RV:Code:=f198.body.getD .skip
def YV:List Nat:=[]
theorem UK:ZF Pg YV 198 f198 RV:=zf call198 func198 rfl mixed
section
variable(R92:jH)(e:am)(t9:waE)(t10:Int)(n:Int)(t11:Int)
def jy:ay:=aM 35 [(1,.eptr (aj e)),(3,.int .i64 n),(9,sl aj t9),(10,.int .i64 t10),(11,.int .i64 t11)] [.dead] []
def ny(o:Int):ay:=aM 35 [(1,.eptr (aj e)),(3,.int .i64 o)] [.dead] []
instance iS_syntax_Depth_L1:KS 0 (jy e t9 t10 n t11):=⟨rfl,(bk (aI (cT (b7 e)) (aI vzz (aI (up (ak b7 t9)) (aI vzz (aI vzz vzz)))))),(aI vzz vzz)⟩
instance iO_syntax_Depth_L1{o:Int}:KS 0 (ny e o):=⟨rfl,(bk (aI (cT (b7 e)) (aI vzz vzz))),(aI vzz vzz)⟩
def ws:Option ((Int×Int)⊕(Int)):=
 if decide (t11<t10)=true then
  (dw t9 t11).bind λx2=>
  (R92 x2).bind λr3=>
  some (.inl ((if r3>n then r3 else n),fh (t11+1)))
 else
  some (.inr n)
def An:Option Int:=loop (λ(zz:Int×Int)=>ws R92 t9 t10 zz.1 zz.2) (n,t11)
theorem C9(hR92:jG R92):OL 0 (cA RV 119) (ws R92 t9 t10 n t11) (λ(zz:Int×Int)=>jy e t9 t10 zz.1 zz.2) (λ_=>.exit 0) (ny e) (jy e t9 t10 n t11):=UK.lx<|
 tF (tb λx2 bx2=>tb λr3 br3=>tv (fU.ia (k:=.i64) bx2)<|tv (aY x2)<|tx Nk<|tx (ms x2)<|tv (eg x2 [])<|ck (hR92 _ _ br3)<|tE)<|tE
theorem EN(hR92:jG R92):OJ 0 (.loop (cA RV 119)) (An R92 t9 t10 n t11) (.exit 0) (ny e) (jy e t9 t10 n t11):=sQ λ_=>C9 _ _ _ _ _ _ hR92
end
section
variable(R92:jH)(t21:waD)(t22:Int)(n:Int)(t23:Int)
def jz:ay:=aM 35 [(3,.int .i64 n),(21,sl aN t21),(22,.int .i64 t22),(23,.int .i64 t23)] [.dead] []
def nz(o:Int):ay:=aM 35 [(3,.int .i64 o)] [.dead] []
instance iS_syntax_Depth_L2:KS 0 (jz t21 t22 n t23):=⟨rfl,(bk (aI vzz (aI (up (ak dy t21)) (aI vzz (aI vzz vzz))))),(aI vzz vzz)⟩
instance iO_syntax_Depth_L2{o:Int}:KS 0 (nz o):=⟨rfl,(bk (aI vzz vzz)),(aI vzz vzz)⟩
def wt:Option ((Int×Int)⊕(Int)):=
 if decide (t23<t22)=true then
  (dw t21 t23).bind λx6=>
  (R92 x6.Body).bind λr7=>
  some (.inl ((if r7>n then r7 else n),fh (t23+1)))
 else
  some (.inr n)
def Ao:Option Int:=loop (λ(zz:Int×Int)=>wt R92 t21 t22 zz.1 zz.2) (n,t23)
theorem Da(hR92:jG R92):OL 0 (cA RV 247) (wt R92 t21 t22 n t23) (λ(zz:Int×Int)=>jz t21 t22 zz.1 zz.2) (λ_=>.exit 2) nz (jz t21 t22 n t23):=UK.lx<|
 tF (tb λx6 bx6=>tb λr7 br7=>tv (gp.ia (k:=.i64) bx6)<|tv (mX x6)<|tx DN<|tx (kY x6)<|tv (eg x6.Body [])<|ck (hR92 _ _ br7)<|tE)<|tE
theorem EO(hR92:jG R92):OJ 0 (.loop (cA RV 247)) (Ao R92 t21 t22 n t23) (.exit 2) nz (jz t21 t22 n t23):=sQ λ_=>Da _ _ _ _ _ hR92
end
def B6(R92:jH)(e:am):Option Int:=
 (An R92 e.Kids (e.Kids.length:Int) 0 0).bind λo4=>
 (Ao R92 e.Alts (e.Alts.length:Int) o4 0).bind λo8=>
 some (fh (o8+1))
theorem HT(R92:jH)(hR92:jG R92){e:am}:OV 198 [.agg (aj e)] (B6 R92 e) (λr=>.int .i64 r) []:=UK.v<|
 tb λo4 bo4=>tb λo8 bo8=>te (cO e)<|tw (az e)<|cb (fU.ln e.Kids)<|cu (EN R92 e e.Kids (e.Kids.length:Int) 0 0 hR92 _ bo4)<|tw (aE e)<|cb (gp.ln e.Alts)<|cu (EO R92 e.Alts (e.Alts.length:Int) o4 0 hR92 _ bo8)<|tE
def B7:(am->Option Int)->(am)->Option Int:=λ(rec:am->Option Int) (x:am)=>B6 (λe=>rec e) x
def GL(e:am):Option Int:=Bq B7 e
theorem I6{e:am}:OV 198 [.agg (aj e)] (GL e) (λr=>.int .i64 r) []:=N5 λ_ h=>
 fg (F:=B7) (M:=λ(x:am) (r:Int)=>CC Pg GE 198 [.agg (aj x)] (.int .i64 r) []) (λrec hrec x r h=>HT _ (λe=>N5 λr h=>hrec e r h) _ h) h
abbrev er:=(am->Int->Option (Bool×Int))
abbrev eo(R:er):Prop:=∀(e:am) (k0:Int),OG 199 [.agg (aj e),.func (.func 200) [] [.bptr 0 0]] [] [.cells [.int .i64 k0] []] (R e k0) (λr=>.bool r.1) [] (λr=>[.cells [.int .i64 r.2] []])
noncomputable def Ti:Code:=f239.body.getD .skip
def Zh:List Nat:=[]
theorem S8:ZF Pg Zh 239 f239 Ti:=zf call239 func239 rfl mixed
section
variable(t4:Int)
def yo:Option Bool:=
 if(t4==1)=true then
  some (t4==1)
 else
  some (t4==2)
theorem Dh:OJ 0 (cA Ti 54) (yo t4) .normal (λo=>aM 56 [(2,.bptr 0 0),(4,.int .i64 t4),(5,.bool o)] [.cells [.bool false,.bool false,.int .i64 0,.int .i64 0,.bool false,.bool false,.int .i64 0,.int .i64 0,.bool false] []] []) (aM 56 [(2,.bptr 0 0),(4,.int .i64 t4)] [.cells [.bool false,.bool false,.int .i64 0,.int .i64 0,.bool false,.bool false,.int .i64 0,.int .i64 0,.bool false] []] []):=S8.j<|
 tF tE<|tE
end
section
variable(t4:Int)
def yp:Option Bool:=
 if(t4==10)=true then
  some (t4==10)
 else if(t4==11)=true then
  some (t4==11)
 else if(t4==12)=true then
  some (t4==12)
 else if(t4==13)=true then
  some (t4==13)
 else if(t4==14)=true then
  some (t4==14)
 else if(t4==16)=true then
  some (t4==16)
 else if(t4==17)=true then
  some (t4==17)
 else if(t4==18)=true then
  some (t4==18)
 else if(t4==19)=true then
  some (t4==19)
 else if(t4==20)=true then
  some (t4==20)
 else
  some (t4==24)
theorem Di:OJ 0 (cA Ti 3670014) (yp t4) .normal (λo=>aM 56 [(2,.bptr 0 0),(4,.int .i64 t4),(30,.bool o)] [.cells [.bool false,.bool false,.int .i64 0,.int .i64 0,.bool false,.bool false,.int .i64 0,.int .i64 0,.bool false] []] []) (aM 56 [(2,.bptr 0 0),(4,.int .i64 t4)] [.cells [.bool false,.bool false,.int .i64 0,.int .i64 0,.bool false,.bool false,.int .i64 0,.int .i64 0,.bool false] []] []):=S8.j<|
 tF tE<|tF tE<|tF tE<|tF tE<|tF tE<|tF tE<|tF tE<|tF tE<|tF tE<|tF tE<|tE
end
section
variable(t4:Int)
def yq:Option Bool:=
 if(t4==15)=true then
  some (t4==15)
 else if(t4==21)=true then
  some (t4==21)
 else if(t4==22)=true then
  some (t4==22)
 else
  some (t4==23)
theorem Dj:OJ 0 (cA Ti 14680062) (yq t4) .normal (λo=>aM 56 [(2,.bptr 0 0),(4,.int .i64 t4),(43,.bool o)] [.cells [.bool false,.bool false,.int .i64 0,.int .i64 0,.bool false,.bool false,.int .i64 0,.int .i64 0,.bool false] []] []) (aM 56 [(2,.bptr 0 0),(4,.int .i64 t4)] [.cells [.bool false,.bool false,.int .i64 0,.int .i64 0,.bool false,.bool false,.int .i64 0,.int .i64 0,.bool false] []] []):=S8.j<|
 tF tE<|tF tE<|tF tE<|tE
end
def DX(op:Int):Option (au×Bool):=
 (yo op).bind λo2=>
 if o2=true then
  some ((⟨true,false,0,0,false,false,0,0,false⟩:au),true)
 else if(op==3)=true then
  some ((⟨false,true,0,0,false,false,0,0,false⟩:au),true)
 else if(op==4)=true then
  some ((⟨false,true,0,6,false,false,0,1073741824,true⟩:au),true)
 else if(op==5)=true then
  some ((⟨false,true,1,6,false,false,0,1073741824,true⟩:au),true)
 else if(op==6)=true then
  some ((⟨false,false,1,1,true,false,0,0,false⟩:au),true)
 else if(op==7)=true then
  some ((⟨false,true,2,2,false,false,0,1,true⟩:au),true)
 else if(op==8)=true then
  some ((⟨false,false,3,3,false,false,0,0,false⟩:au),true)
 else if(op==9)=true then
  some ((⟨false,false,1,1,false,true,0,0,false⟩:au),true)
 else
  (yp op).bind λo21=>
  if o21=true then
   some ((⟨false,false,2,2,false,false,0,0,false⟩:au),true)
  else
   (yq op).bind λo26=>
   if o26=true then
    some ((⟨false,false,1,1,false,false,0,0,false⟩:au),true)
   else if(op==25)=true then
    some ((⟨false,true,2,7,false,false,0,0,false⟩:au),true)
   else if(op==26)=true then
    some ((⟨false,false,1,1,false,false,1,1,true⟩:au),true)
   else
    some ((⟨false,false,0,0,false,false,0,0,false⟩:au),false)
theorem HZ{op:Int}:OV 239 [.int .i64 op] (DX op) (λr=>.tuple [.agg (aA r.1),.bool r.2]) []:=S8.v<|
 tb λo2 bo2=>tx Uo<|gz 2<|cu (Dh op _ bo2)<|tF (tv (Ff true)<|tx (cc (⟨true,false,0,0,false,false,0,0,false⟩:au))<|GV λq=>aI (vaS PVal.tuple (cP (cp (⟨true,false,0,0,false,false,0,0,false⟩:au)) (cP (rP (.bool true)) (rfl:([]:List PVal)=[])))) q.2)<|tF (tv (Fg true)<|tx (cc (⟨false,true,0,0,false,false,0,0,false⟩:au))<|GV λq=>aI (vaS PVal.tuple (cP (cp (⟨false,true,0,0,false,false,0,0,false⟩:au)) (cP (rP (.bool true)) (rfl:([]:List PVal)=[])))) q.2)<|tF (tv (xf true 6 true 1073741824)<|tx (cc (⟨false,true,0,6,false,false,0,1073741824,true⟩:au))<|GV λq=>aI (vaS PVal.tuple (cP (cp (⟨false,true,0,6,false,false,0,1073741824,true⟩:au)) (cP (rP (.bool true)) (rfl:([]:List PVal)=[])))) q.2)<|tF (tv (kp true 1 6 true 1073741824)<|tx (cc (⟨false,true,1,6,false,false,0,1073741824,true⟩:au))<|GV λq=>aI (vaS PVal.tuple (cP (cp (⟨false,true,1,6,false,false,0,1073741824,true⟩:au)) (cP (rP (.bool true)) (rfl:([]:List PVal)=[])))) q.2)<|tF (tv (AC true 1 1)<|tx (cc (⟨false,false,1,1,true,false,0,0,false⟩:au))<|GV λq=>aI (vaS PVal.tuple (cP (cp (⟨false,false,1,1,true,false,0,0,false⟩:au)) (cP (rP (.bool true)) (rfl:([]:List PVal)=[])))) q.2)<|tF (tv (kp true 2 2 true 1)<|tx (cc (⟨false,true,2,2,false,false,0,1,true⟩:au))<|GV λq=>aI (vaS PVal.tuple (cP (cp (⟨false,true,2,2,false,false,0,1,true⟩:au)) (cP (rP (.bool true)) (rfl:([]:List PVal)=[])))) q.2)<|tF (tv (kH 3 3)<|tx (cc (⟨false,false,3,3,false,false,0,0,false⟩:au))<|GV λq=>aI (vaS PVal.tuple (cP (cp (⟨false,false,3,3,false,false,0,0,false⟩:au)) (cP (rP (.bool true)) (rfl:([]:List PVal)=[])))) q.2)<|tF (tv (AD true 1 1)<|tx (cc (⟨false,false,1,1,false,true,0,0,false⟩:au))<|GV λq=>aI (vaS PVal.tuple (cP (cp (⟨false,false,1,1,false,true,0,0,false⟩:au)) (cP (rP (.bool true)) (rfl:([]:List PVal)=[])))) q.2)<|tb λo21 bo21=>gz 0<|cu (Di op _ bo21)<|tF (tv (kH 2 2)<|tx (cc (⟨false,false,2,2,false,false,0,0,false⟩:au))<|GV λq=>aI (vaS PVal.tuple (cP (cp (⟨false,false,2,2,false,false,0,0,false⟩:au)) (cP (rP (.bool true)) (rfl:([]:List PVal)=[])))) q.2)<|tb λo26 bo26=>gz 0<|cu (Dj op _ bo26)<|tF (tv (kH 1 1)<|tx (cc (⟨false,false,1,1,false,false,0,0,false⟩:au))<|GV λq=>aI (vaS PVal.tuple (cP (cp (⟨false,false,1,1,false,false,0,0,false⟩:au)) (cP (rP (.bool true)) (rfl:([]:List PVal)=[])))) q.2)<|tF (tv (AB true 2 7)<|tx (cc (⟨false,true,2,7,false,false,0,0,false⟩:au))<|GV λq=>aI (vaS PVal.tuple (cP (cp (⟨false,true,2,7,false,false,0,0,false⟩:au)) (cP (rP (.bool true)) (rfl:([]:List PVal)=[])))) q.2)<|tF (tv (ur 1 1 true 1 1)<|tx (cc (⟨false,false,1,1,false,false,1,1,true⟩:au))<|GV λq=>aI (vaS PVal.tuple (cP (cp (⟨false,false,1,1,false,false,1,1,true⟩:au)) (cP (rP (.bool true)) (rfl:([]:List PVal)=[])))) q.2)<|tv (Fh)<|tx (cc (⟨false,false,0,0,false,false,0,0,false⟩:au))<|GV λq=>aI (vaS PVal.tuple (cP (cp (⟨false,false,0,0,false,false,0,0,false⟩:au)) (cP (rP (.bool false)) (rfl:([]:List PVal)=[])))) q.2
noncomputable def qbJ:Code:=f279.body.getD .skip
def ZB:List Nat:=[]
theorem qaJ:ZF Pg ZB 279 f279 qbJ:=zf call279 func279 rfl mixed
def Ar(a:ca):Option Bool:=
 some (decide ((a.Names.length:Int)>6))
theorem ER{a:ca}:OV 279 [.agg (aN a)] (Ar a) (λr=>.bool r) []:=qaJ.v<|
 te (Na a)<|tw (lX a)<|cb (cz.ln a.Names)<|tE
noncomputable def U7:Code:=f307.body.getD .skip
def ZK:List Nat:=[10,17]
theorem WG:ZF Pg ZK 307 f307 U7:=zf call307 func307 rfl mixed
section
variable(s:waD)(t7:Int)(t8:Int)
def eE:ay:=aM 19 [(0,sl aN s),(1,.func (.func 279) [] []),(7,.int .i64 t7),(8,.int .i64 t8)] [] []
def gY(o:Int⊕(Unit)):Exit:=match o with
 |(.inl _)=>.ret
 |(.inr _)=>.exit 0
def gZ(o:Int⊕(Unit)):ay:=match o with
 |(.inl o)=>aM 19 [(4,.int .i64 o)] [] []
 |(.inr o)=>aM 19 [] [] []
def gX:Option (Int⊕(Int⊕(Unit))):=
 if decide (t8<t7)=true then
  (dw s t8).bind λx2=>
  (Ar x2).bind λr3=>
  if r3=true then
   some (.inr (.inl t8))
  else
   some (.inl (fh (t8+1)))
 else
  some (.inr (.inr ()))
def iJ:Option (Int⊕(Unit)):=loop (λ(zz:Int)=>gX s t7 zz) t8
theorem nu:OL 0 (cA U7 55) (gX s t7 t8) (λ(zz:Int)=>eE s t7 zz) gY gZ (eE s t7 t8):=WG.l<|
 tF (tb λx2 bx2=>tb λr3 br3=>tv (gp.ia (k:=.i64) bx2)<|tv (mX x2)<|ck (ER _ br3)<|tF tE<|tE)<|tE
theorem gC:OK 0 (.loop (cA U7 55)) (iJ s t7 t8) gY gZ (eE s t7 t8):=HK λ_=>nu _ _ _
end
def kw(s:waD):Option Int:=
 (iJ s (s.length:Int) 0).bind λo5=>match o5 with
 |(.inl o5)=>
  some o5
 |(.inr o5)=>
  some (-1)
theorem qK{s:waD}:OV 307 [sl aN s,.func (.func 279) [] []] (kw s) (λr=>.int .i64 r) []:=WG.v<|
 cb (gp.ln s)<|t2 (λo5 bo5=>cu (gC s (s.length:Int) 0 _ bo5)<|tE) λo5 bo5=>cu (gC s (s.length:Int) 0 _ bo5)<|tE
noncomputable def qbI:Code:=f278.body.getD .skip
def ZA:List Nat:=[]
theorem qaI:ZF Pg ZA 278 f278 qbI:=zf call278 func278 rfl mixed
def iD(s:waD):Option Bool:=
 (kw s).bind λr1=>
 some (decide (r1>=0))
theorem nR{s:waD}:OV 278 [sl aN s,.func (.func 279) [] []] (iD s) (λr=>.bool r) []:=qaI.v<|
 tb λr1 br1=>ck (qK _ br1)<|tE
noncomputable def U2:Code:=f240.body.getD .skip
def Zi:List Nat:=[]
theorem UL:ZF Pg Zi 240 f240 U2:=zf call240 func240 rfl mixed
section
variable(e:am)(s:au)
def yf:Option Bool:=
 if decide ((e.Kids.length:Int)<s.least)=true then
  some true
 else if decide ((e.Kids.length:Int)>s.most)=true then
  some true
 else if decide ((e.Types.length:Int)<s.typesLeast)=true then
  some true
 else
  some (decide ((e.Types.length:Int)>s.typesMost))
theorem Dc:OJ 0 (cA U2 12) (yf e s) .normal (λo=>aM 69 [(2,.eptr (aj e)),(3,.eptr (aA s)),(34,.bool o)] [.dead,.dead] []) (aM 69 [(2,.eptr (aj e)),(3,.eptr (aA s))] [.dead,.dead] []):=UL.j<|
 have pp2:=λ{X Y Z} (r:PV _ X Y Z)=>tw (az e)<|cb (fU.ln e.Kids)<|tw (uy s)<|r;tf (λc1=>pp2<|tg 7 c1<|tE) λc1=>have pp4:=λ{X Y Z} (r:PV _ X Y Z)=>pp2<|tg 7 c1<|tw (az e)<|cb (fU.ln e.Kids)<|tw (uz s)<|r;tf (λc3=>pp4<|tg 15 c3<|tE) λc3=>have pp6:=λ{X Y Z} (r:PV _ X Y Z)=>pp4<|tg 15 c3<|tw (av e)<|cb (dC.ln e.Types)<|tw (uB s)<|r;tf (λc5=>pp6<|tg 23 c5<|tE) λc5=>pp6<|tg 23 c5<|tw (av e)<|cb (dC.ln e.Types)<|tw (uC s)<|tE
end
section
variable(e:am)(s:au)
def yg:Option Bool:=
 if s.params=true then
  if decide ((e.Params.length:Int)<1)=true then
   some true
  else if decide ((e.Params.length:Int)>6)=true then
   some true
  else if s.alts=true then
   if decide ((e.Alts.length:Int)<1)=true then
    some true
   else
    some (decide ((e.Alts.length:Int)>8))
  else
   some false
 else if s.alts=true then
  if decide ((e.Alts.length:Int)<1)=true then
   some true
  else
   some (decide ((e.Alts.length:Int)>8))
 else
  some false
theorem De:OJ 0 (cA U2 28) (yg e s) .normal (λo=>aM 69 [(2,.eptr (aj e)),(64,.bool o)] [.dead,.dead] []) (aM 69 [(2,.eptr (aj e)),(3,.eptr (aA s))] [.dead,.dead] []):=UL.j<|
 have pp10:=λ{X Y Z} (r:PV _ X Y Z)=>tw (uA s)<|r;tf (λc9=>have pp12:=λ{X Y Z} (r:PV _ X Y Z)=>pp10<|tg 3 c9<|tw (aW e)<|cb (tV.ln e.Params)<|r;tf (λc11=>pp12<|tg 8 c11<|tE) λc11=>have pp14:=λ{X Y Z} (r:PV _ X Y Z)=>pp12<|tg 8 c11<|tw (aW e)<|cb (tV.ln e.Params)<|r;tf (λc13=>pp14<|tg 15 c13<|tE) λc13=>have pp16:=λ{X Y Z} (r:PV _ X Y Z)=>pp14<|tg 15 c13<|tw (kq s)<|r;tf (λc15=>have pp18:=λ{X Y Z} (r:PV _ X Y Z)=>pp16<|tg 18 c15<|tw (aE e)<|cb (gp.ln e.Alts)<|r;tf (λc17=>pp18<|tg 23 c17<|tE) λc17=>pp18<|tg 23 c17<|tw (aE e)<|cb (gp.ln e.Alts)<|tE) λc15=>pp16<|tg 18 c15<|tE) λc9=>have pp20:=λ{X Y Z} (r:PV _ X Y Z)=>pp10<|tg 3 c9<|tw (kq s)<|r;tf (λc19=>have pp22:=λ{X Y Z} (r:PV _ X Y Z)=>pp20<|tg 18 c19<|tw (aE e)<|cb (gp.ln e.Alts)<|r;tf (λc21=>pp22<|tg 23 c21<|tE) λc21=>pp22<|tg 23 c21<|tw (aE e)<|cb (gp.ln e.Alts)<|tE) λc19=>pp20<|tg 18 c19<|tE
end
def DW(e:am)(s:au):Option Bool:=
 (yf e s).bind λo7=>
 if o7=true then
  some false
 else
  (yg e s).bind λo23=>
  if o23=true then
   some false
  else
   (iD e.Alts).bind λr25=>
   some (!r25)
theorem HY{e:am}{s:au}:OV 240 [.agg (aj e),.agg (aA s)] (DW e s) (λr=>.bool r) []:=UL.v<|
 tb λo7 bo7=>te (cO e)<|te (z6 s)<|gz 1<|cu (Dc e s _ bo7)<|tF tE<|tb λo23 bo23=>gz 1<|cu (De e s _ bo23)<|tF tE<|tb λr25 br25=>tw (aE e)<|ck (nR _ br25)<|tE
noncomputable def UV:Code:=f184.body.getD .skip
def YJ:List Nat:=[12,18]
theorem Wt:ZF Pg YJ 184 f184 UV:=zf call184 func184 rfl mixed
section
variable(t6:waF)(t7:Int)(out:waA)(t8:Int)
def jB:ay:=aM 19 [(3,sl cS out),(6,sl aD t6),(7,.int .i64 t7),(8,.int .i64 t8)] [] [((3,0),9)]
def nB(o:waA):ay:=aM 19 [(3,sl cS o)] [] [((3,0),9)]
instance iS_syntax_bound_L1:KS 0 (jB t6 t7 out t8):=⟨rfl,(bk (aI (up (ak eU out)) (aI (up (ak dh t6)) (aI vzz (aI vzz vzz))))),vzz⟩
instance iO_syntax_bound_L1{o:waA}:KS 0 (nB o):=⟨rfl,(bk (aI (up (ak eU o)) trivial)),vzz⟩
def wu:Option ((waA×Int)⊕(waA)):=
 if decide (t8<t7)=true then
  (dw t6 t8).bind λx2=>
  (app out ([x2.Name]:List ac)).bind λl3=>
  some (.inl (l3,fh (t8+1)))
 else
  some (.inr out)
def Ap:Option waA:=loop (λ(zz:waA×Int)=>wu t6 t7 zz.1 zz.2) (out,t8)
theorem Db:OL 0 (cA UV 119) (wu t6 t7 out t8) (λ(zz:waA×Int)=>jB t6 t7 zz.1 zz.2) (λ_=>.exit 0) nB (jB t6 t7 out t8):=Wt.lx<|
 tF (tb λx2 bx2=>tb λl3 bl3=>tv (tV.ia (k:=.i64) bx2)<|tv (Cz x2)<|tx Qg<|tx (yU x2)<|ts<|tv (bK [x2.Name] 1 rfl)<|tv (cz.ap bl3)<|tE)<|tE
theorem EP:OJ 0 (.loop (cA UV 119)) (Ap t6 t7 out t8) (.exit 0) nB (jB t6 t7 out t8):=sQ λ_=>Db _ _ _ _
end
def sK(a:waF):Option waA:=
 (Ap a (a.length:Int) ([]:List ac) 0).bind λo4=>
 some o4
theorem qO{a:waF}:OV 184 [sl aD a] (sK a) (λr=>sl cS r) [(0,9)]:=Wt.v<|
 tb λo4 bo4=>cb (tV.ln a)<|cu (EP a (a.length:Int) ([]:List ac) 0 _ bo4)<|tE
noncomputable def U8:Code:=f308.body.getD .skip
def ZM:List Nat:=[]
theorem WH:ZF Pg ZM 308 f308 U8:=zf call308 func308 rfl mixed
section
variable(t7:waA)(t8:Int)(t9:Int)(m0:(List (ac×Bool)))
def kN:ay:=aM 19 [(3,.mapr 0),(7,sl cS t7),(8,.int .i64 t8),(9,.int .i64 t9)] [.map (bA PVal.bool m0)] []
def rj(o:((List (ac×Bool)))⊕((List (ac×Bool)))):Exit:=match o with
 |(.inl _)=>.ret
 |(.inr _)=>.exit 0
def rl(o:((List (ac×Bool)))⊕((List (ac×Bool)))):ay:=match o with
 |(.inl o)=>aM 19 [(2,.bool false)] [.map (bA PVal.bool o)] []
 |(.inr o)=>aM 19 [] [.map (bA PVal.bool o)] []
def ri:Option ((Int×(List (ac×Bool)))⊕(((List (ac×Bool)))⊕((List (ac×Bool))))):=
 if decide (t9<t8)=true then
  (dw t7 t9).bind λx2=>
  if((pg m0 x2).getD false)=true then
   some (.inr (.inl m0))
  else
   some (.inl (fh (t9+1),FH m0 x2 true))
 else
  some (.inr (.inr m0))
def vT:Option (((List (ac×Bool)))⊕((List (ac×Bool)))):=loop (λ(zz:Int×(List (ac×Bool)))=>ri t7 t8 zz.1 zz.2) (t9,m0)
theorem AK:OL 0 (cA U8 119) (ri t7 t8 t9 m0) (λ(zz:Int×(List (ac×Bool)))=>kN t7 t8 zz.1 zz.2) rj rl (kN t7 t8 t9 m0):=WH.l<|
 tF (tb λx2 bx2=>tv (cz.ia (k:=.i64) bx2)<|tv (cH Iw (.str x2) [])<|tv (Hu (f:=PVal.bool) underlying84 underlying9 V7 m0 x2)<|tF tE<|V5 (Hv (f:=PVal.bool) underlying84 underlying9 m0 x2 true)<|tE)<|tE
theorem pU:OK 0 (.loop (cA U8 119)) (vT t7 t8 t9 m0) rj rl (kN t7 t8 t9 m0):=HK λ_=>AK _ _ _ _
end
def Bw(a:waA):Option Bool:=
 (vT a (a.length:Int) 0 ([]:List (ac×Bool))).bind λo4=>match o4 with
 |(.inl o4)=>
  some false
 |(.inr o4)=>
  some true
theorem FJ{a:waA}:OV 308 [sl cS a] (Bw a) (λr=>.bool r) []:=WH.v<|
 cb (cz.ln a)<|t2 (λo4 bo4=>cu (pU a (a.length:Int) 0 ([]:List (ac×Bool)) _ bo4)<|tE) λo4 bo4=>cu (pU a (a.length:Int) 0 ([]:List (ac×Bool)) _ bo4)<|tE
noncomputable def qbL:Code:=f280.body.getD .skip
def ZC:List Nat:=[]
theorem qaK:ZF Pg ZC 280 f280 qbL:=zf call280 func280 rfl mixed
def sL(a:waA):Option Bool:=
 (Bw a).bind λr1=>
 some (!r1)
theorem qQ{a:waA}:OV 280 [sl cS a] (sL a) (λr=>.bool r) []:=qaK.v<|
 tb λr1 br1=>ck (FJ _ br1)<|tE
noncomputable def U4:Code:=f281.body.getD .skip
def ZD:List Nat:=[12,18]
theorem WD:ZF Pg ZD 281 f281 U4:=zf call281 func281 rfl mixed
section
variable(t6:waD)(t7:Int)(out:waA)(t8:Int)
def eK:ay:=aM 19 [(3,sl cS out),(6,sl aN t6),(7,.int .i64 t7),(8,.int .i64 t8)] [] [((3,0),9)]
def gr(o:waA):ay:=aM 19 [(3,sl cS o)] [] [((3,0),9)]
instance iS_syntax_constructors_L1:KS 0 (eK t6 t7 out t8):=⟨rfl,(bk (aI (up (ak eU out)) (aI (up (ak dy t6)) (aI vzz (aI vzz vzz))))),vzz⟩
instance iO_syntax_constructors_L1{o:waA}:KS 0 (gr o):=⟨rfl,(bk (aI (up (ak eU o)) trivial)),vzz⟩
def lE:Option ((waA×Int)⊕(waA)):=
 if decide (t8<t7)=true then
  (dw t6 t8).bind λx2=>
  (app out ([x2.Con]:List ac)).bind λl3=>
  some (.inl (l3,fh (t8+1)))
 else
  some (.inr out)
def nC:Option waA:=loop (λ(zz:waA×Int)=>lE t6 t7 zz.1 zz.2) (out,t8)
theorem uc:OL 0 (cA U4 119) (lE t6 t7 out t8) (λ(zz:waA×Int)=>eK t6 t7 zz.1 zz.2) (λ_=>.exit 0) gr (eK t6 t7 out t8):=WD.lx<|
 tF (tb λx2 bx2=>tb λl3 bl3=>tv (gp.ia (k:=.i64) bx2)<|tv (mX x2)<|tx DN<|tx (kY x2)<|ts<|tv (bK [x2.Con] 1 rfl)<|tv (cz.ap bl3)<|tE)<|tE
theorem uM:OJ 0 (.loop (cA U4 119)) (nC t6 t7 out t8) (.exit 0) gr (eK t6 t7 out t8):=sQ λ_=>uc _ _ _ _
end
def rN(a:waD):Option waA:=
 (nC a (a.length:Int) ([]:List ac) 0).bind λo4=>
 some o4
theorem zB{a:waD}:OV 281 [sl aN a] (rN a) (λr=>sl cS r) [(0,9)]:=WD.v<|
 tb λo4 bo4=>cb (gp.ln a)<|cu (uM a (a.length:Int) ([]:List ac) 0 _ bo4)<|tE
noncomputable def qbN:Code:=f283.body.getD .skip
def ZG:List Nat:=[]
theorem qaM:ZF Pg ZG 283 f283 qbN:=zf call283 func283 rfl mixed
def Cb(a:ac):Option Bool:=
 (lZ a).bind λr1=>
 some (r1 !=0)
theorem GQ{a:ac}:OV 283 [.str a] (Cb a) (λr=>.bool r) []:=qaM.v<|
 tb λr1 br1=>ck (fq _ br1)<|tE
noncomputable def WX:Code:=f51.body.getD .skip
def qdU:List Nat:=[10,17]
theorem XW:ZF Pg qdU 51 f51 WX:=zf call51 func51 rfl mixed
section
variable(s:waA)(t7:Int)(t8:Int)
def eQ:ay:=aM 19 [(0,sl cS s),(1,.func (.func 283) [] []),(7,.int .i64 t7),(8,.int .i64 t8)] [] []
def ie(o:Int⊕(Unit)):Exit:=match o with
 |(.inl _)=>.ret
 |(.inr _)=>.exit 0
def ig(o:Int⊕(Unit)):ay:=match o with
 |(.inl o)=>aM 19 [(4,.int .i64 o)] [] []
 |(.inr o)=>aM 19 [] [] []
def ic:Option (Int⊕(Int⊕(Unit))):=
 if decide (t8<t7)=true then
  (dw s t8).bind λx2=>
  (Cb x2).bind λr3=>
  if r3=true then
   some (.inr (.inl t8))
  else
   some (.inl (fh (t8+1)))
 else
  some (.inr (.inr ()))
def jw:Option (Int⊕(Unit)):=loop (λ(zz:Int)=>ic s t7 zz) t8
theorem nS:OL 0 (cA WX 55) (ic s t7 t8) (λ(zz:Int)=>eQ s t7 zz) ie ig (eQ s t7 t8):=XW.l<|
 tF (tb λx2 bx2=>tb λr3 br3=>tv (cz.ia (k:=.i64) bx2)<|tv (cH Iw (.str x2) [])<|ck (GQ _ br3)<|tF tE<|tE)<|tE
theorem g4:OK 0 (.loop (cA WX 55)) (jw s t7 t8) ie ig (eQ s t7 t8):=HK λ_=>nS _ _ _
end
def lB(s:waA):Option Int:=
 (jw s (s.length:Int) 0).bind λo5=>match o5 with
 |(.inl o5)=>
  some o5
 |(.inr o5)=>
  some (-1)
theorem sJ{s:waA}:OV 51 [sl cS s,.func (.func 283) [] []] (lB s) (λr=>.int .i64 r) []:=XW.v<|
 cb (cz.ln s)<|t2 (λo5 bo5=>cu (g4 s (s.length:Int) 0 _ bo5)<|tE) λo5 bo5=>cu (g4 s (s.length:Int) 0 _ bo5)<|tE
noncomputable def qbM:Code:=f282.body.getD .skip
def ZE:List Nat:=[]
theorem qaL:ZF Pg ZE 282 f282 qbM:=zf call282 func282 rfl mixed
def jq(s:waA):Option Bool:=
 (lB s).bind λr1=>
 some (decide (r1>=0))
theorem pq{s:waA}:OV 282 [sl cS s,.func (.func 283) [] []] (jq s) (λr=>.bool r) []:=qaL.v<|
 tb λr1 br1=>ck (sJ _ br1)<|tE
noncomputable def RY:Code:=f242.body.getD .skip
def Zk:List Nat:=[14,36]
theorem S9:ZF Pg Zk 242 f242 RY:=zf call242 func242 rfl mixed
section
variable(e:am)(s:au)(v:waA)
def As:Option waA:=
 if s.name=true then
  (app v ([e.Name]:List ac)).bind λl3=>
  some l3
 else
  some v
theorem ES:OJ 0 (cA RY 14) (As e s v) .normal (λo=>aM 54 [(2,.eptr (aj e)),(5,sl cS o)] [.dead,.dead] [((5,0),9)]) (aM 54 [(2,.eptr (aj e)),(3,.eptr (aA s)),(5,sl cS v)] [.dead,.dead] [((5,0),9)]):=S9.j<|
 tw (uw s)<|tF (tb λl3 bl3=>tw (bM e)<|tv (bK [e.Name] 1 rfl)<|tv (cz.ap bl3)<|tE)<|tE
end
section
variable(e:am)(v:waA)
def At:Option Bool:=
 (sK e.Params).bind λr5=>
 (sL r5).bind λr6=>
 if r6=true then
  some true
 else
  (rN e.Alts).bind λr9=>
  (sL r9).bind λr10=>
  some r10
theorem ET:OJ 0 (cA RY 30) (At e) .normal (λo=>aM 54 [(2,.eptr (aj e)),(5,sl cS v),(6,.bool o)] [.dead,.dead] [((5,0),9)]) (aM 54 [(2,.eptr (aj e)),(5,sl cS v)] [.dead,.dead] [((5,0),9)]):=S9.j<|
 tb λr5 br5=>tb λr6 br6=>have pp8:=λ{X Y Z} (r:PV _ X Y Z)=>tw (aW e)<|ck (qO _ br5)<|ck (qQ _ br6)<|r;tf (λc7=>pp8<|tg 5 c7<|tE) λc7=>tb λr9 br9=>tb λr10 br10=>pp8<|tg 5 c7<|tw (aE e)<|ck (zB _ br9)<|ck (qQ _ br10)<|tE
end
section
variable(t30:waD)(t31:Int)(v:waA)(doubled:Bool)(t32:Int)
def jC:ay:=aM 54 [(5,sl cS v),(6,.bool doubled),(30,sl aN t30),(31,.int .i64 t31),(32,.int .i64 t32)] [.dead,.dead] [((5,0),9)]
def nD(o:waA×Bool):ay:=aM 54 [(5,sl cS o.1),(6,.bool o.2)] [.dead,.dead] [((5,0),9)]
instance iS_syntax_named_L3:KS 0 (jC t30 t31 v doubled t32):=⟨rfl,(bk (aI (up (ak eU v)) (aI vzz (aI (up (ak dy t30)) (aI vzz (aI vzz vzz)))))),(aI vzz (aI vzz vzz))⟩
instance iO_syntax_named_L3{o:(waA×Bool)}:KS 0 (nD o):=⟨rfl,(bk (aI (up (ak eU o.1)) (aI vzz vzz))),(aI vzz (aI vzz vzz))⟩
def wv:Option ((waA×Bool×Int)⊕((waA×Bool))):=
 if decide (t32<t31)=true then
  (dw t30 t32).bind λx13=>
  (app v ([x13.Con]:List ac)).bind λl14=>
  (app l14 x13.Names).bind λl15=>
  if doubled=true then
   some (.inl (l15,true,fh (t32+1)))
  else
   (sL x13.Names).bind λr17=>
   some (.inl (l15,r17,fh (t32+1)))
 else
  some (.inr (v,doubled))
def Au:Option ((waA×Bool)):=loop (λ(zz:waA×Bool×Int)=>wv t30 t31 zz.1 zz.2.1 zz.2.2) (v,doubled,t32)
theorem Dg:OL 0 (cA RY 503) (wv t30 t31 v doubled t32) (λ(zz:waA×Bool×Int)=>jC t30 t31 zz.1 zz.2.1 zz.2.2) (λ_=>.exit 0) nD (jC t30 t31 v doubled t32):=S9.lx<|
 tF (tb λx13 bx13=>tb λl14 bl14=>tb λl15 bl15=>tv (gp.ia (k:=.i64) bx13)<|tv (mX x13)<|tx DN<|tx (kY x13)<|S2 [0,0,2,6,15,0,32,127,255]<|ts<|tv (bK [x13.Con] 1 rfl)<|tv (cz.ap bl14)<|ts<|tv (cz.ap bl15)<|tf (λc16=>tg 2 c16<|tE) λc16=>tb λr17 br17=>tg 2 c16<|ts<|ck (qQ _ br17)<|tE)<|tE
theorem EU:OJ 0 (.loop (cA RY 503)) (Au t30 t31 v doubled t32) (.exit 0) nD (jC t30 t31 v doubled t32):=sQ λ_=>Dg _ _ _ _ _
end
def GP(e:am)(s:au):Option Int:=
 (sK e.Params).bind λr1=>
 (As e s r1).bind λo4=>
 (At e).bind λo11=>
 (Au e.Alts (e.Alts.length:Int) o4 o11 0).bind λo18=>
 (jq o18.1).bind λr19=>
 if r19=true then
  some 3
 else if o18.2=true then
  some 4
 else
  some 0
theorem Ja{e:am}{s:au}:OV 242 [.agg (aj e),.agg (aA s)] (GP e s) (λr=>.int .i64 r) []:=S9.v<|
 tb λr1 br1=>tb λo4 bo4=>tb λo11 bo11=>tb λo18 bo18=>tb λr19 br19=>te (cO e)<|te (z6 s)<|tw (aW e)<|ck (qO _ br1)<|gz 0<|cu (ES e s r1 _ bo4)<|gz 0<|cu (ET e o4 _ bo11)<|tw (aE e)<|cb (gp.ln e.Alts)<|cu (EU e.Alts (e.Alts.length:Int) o4 o11 0 _ bo18)<|ck (pq _ br19)<|tF tE<|tF tE<|tE
noncomputable def qby:Code:=f243.body.getD .skip
def Zl:List Nat:=[]
theorem qay:ZF Pg Zl 243 f243 qby:=zf call243 func243 rfl mixed
def Iz(t:al):Option Bool:=
 (lT cV t (⟨0,([]:ac),([]:List al),([]:List ac),(⟨0,([]:ac),0,([]:List ag)⟩:ag),([]:List ag)⟩:al)).bind λr1=>
 some r1
theorem KP{t:al}:OV 243 [.agg (ai t)] (Iz t) (λr=>.bool r) []:=qay.v<|
 tb λr1 br1=>te (iC t)<|tv (dP t)<|Mf (OU) (OS)<|ck (mi cV (λ_ _=>fe) _ br1)<|tE
end Go.Proofs.YtankopenjcbeeaaGreatDoor
