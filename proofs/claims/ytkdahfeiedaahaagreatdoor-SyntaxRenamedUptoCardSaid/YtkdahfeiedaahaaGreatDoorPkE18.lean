/- PROVED: a part of the proof. Conditions: none. -/
import Derived.Test.YtkdahfeiedaahaaGreatDoorPkE17
import Derived.Test.YtkdahfeiedaahaaGreatDoorPkE9
import Derived.Test.YtkdahfeiedaahaaGreatDoorPkE10
import Derived.Shelf.SlicesE.DeleteFunc
import Derived.Shelf.SlicesE.Index
import Derived.Test.YtkdahfeiedaahaaGreatDoorPkE8
noncomputable section
namespace Go.Proofs.YtkdahfeiedaahaaGreatDoor
open Go Go.Proofs.Tryz
set_option linter.unusedVariables false
set_option maxRecDepth 100000
abbrev rX:=(af->Option waA)
abbrev rS(R:rX):Prop:=∀(e:af) (r:waA),R e=some r->CC Pg GE 25 [.agg (ae e)] (sl cS r) [(0,9)]
noncomputable def Tb:Code:=f25.body.getD .skip
def QF:List Nat:=[10,27,43,58,66,75]
section
variable(e:af)
def HC:aA:=bj 76 [(1,.eptr (ae e)),(3,sl cS ([]:List ag))] [.dead] [((3,0),9)]
def ug(o:waA):aA:=bj 76 [(1,.eptr (ae e)),(3,sl cS o)] [.dead] [((3,0),9)]
def tn:Option waA:=
 if(e.Op==7)=true then
  (app ([]:List ag) ([e.Name]:List ag)).bind fun l3=>
  some l3
 else
  some ([]:List ag)
theorem GB{x:waA}(h:tn e=some x):aR Pg GE 0 (cA Tb 14) (EX .normal (ug e x)) (HC e):=by
 have p2:=fun{sc F} (r:PS sc F)=>sv (cX e)<|sv (cY e)<|r
 rcases aP h with⟨c1,h⟩|⟨c1,h⟩
 ·obtain⟨l3,bl3,h⟩:=aJ h
  obtain rfl:=lf h
  exact bJ QF (p2<|sg 0 c1<|sv (eu e)<|sv (fc e)<|sv (dK.mk' (v:=PVal.str) Lz ([e.Name]:List ag) 1 (by kernel_rfl))<|sv (dK.ap bl3)<|eF .normal (ug e l3))<|by kernel_rfl
 ·obtain rfl:=lf h
  exact bJ QF (p2<|sg 0 c1<|eF .normal (ug e ([]:List ag)))<|by kernel_rfl
end
section
variable(e:af)(out:waA)(i:Int)
def HD:aA:=bj 76 [(1,.eptr (ae e)),(3,sl cS out),(4,.int .i64 i)] [.dead] [((3,0),9)]
def uh(o:Bool):aA:=bj 76 [(1,.eptr (ae e)),(3,sl cS out),(4,.int .i64 i),(24,.bool o)] [.dead] [((3,0),9)]
def pE:Option Bool:=
 if(decide (i<(e.Params.length:Int)))=true then
  some (e.Op==6)
 else
  some false
theorem GD{x:Bool}(h:pE e i=some x):aR Pg GE 0 (cA Tb 988) (EX .normal (uh e out i x)) (HD e out i):=by
 have p6:=fun{sc F} (r:PS sc F)=>sv (bE e)<|sv (bG e)<|cq (lC.ln e.Params)<|r
 rcases aP h with⟨c5,h⟩|⟨c5,h⟩
 ·obtain rfl:=lf h
  exact bJ QF (p6<|sg 6 c5<|sv (cX e)<|sv (cY e)<|eF .normal (uh e out i (e.Op==6)))<|by kernel_rfl
 ·obtain rfl:=lf h
  exact bJ QF (p6<|sg 6 c5<|eF .normal (uh e out i false))<|by kernel_rfl
end
section
variable(e:af)(out:waA)(i:Int)
def mH:aA:=bj 76 [(1,.eptr (ae e)),(3,sl cS out),(4,.int .i64 i)] [.dead] [((3,0),9)]
def ui(o:waA):aA:=bj 76 [(1,.eptr (ae e)),(3,sl cS o)] [.dead] [((3,0),9)]
def fM:Option ((waA×Int)⊕(waA)):=
 (pE e i).bind fun o7=>
 if o7=true then
  (gY e.Params i).bind fun x10=>
  (app out ([x10.Name]:List ag)).bind fun l11=>
  some (.inl (l11,cp (i+1)))
 else
  some (.inr out)
def tp:Option waA:=loop (fun(zz:waA×Int)=>fM e zz.1 zz.2) (out,i)
theorem EE{y:(waA×Int)⊕(waA)}(h:fM e out i=some y):aR Pg GE 0 (cA Tb 247) (LQ (fun(zz:waA×Int)=>mH e zz.1 zz.2) (fun _=>.exit 0) (ui e) y) (mH e out i):=by
 obtain⟨o7,bo7,h⟩:=aJ h
 have p9:=fun{sc F} (r:PS sc F)=>rN 1<|dS (GD e out i bo7)<|r
 rcases aP h with⟨c8,h⟩|⟨c8,h⟩
 ·obtain⟨x10,bx10,h⟩:=aJ h
  obtain⟨l11,bl11,h⟩:=aJ h
  obtain rfl:=lf h
  exact AU QF (p9<|sg 0 c8<|sv (bE e)<|sv (bG e)<|sv (lC.ia (k:=.i64) bx10)<|sv (pH x10)<|sv (rG x10)<|sv (dK.mk' (v:=PVal.str) Lz ([x10.Name]:List ag) 1 (by kernel_rfl))<|sv (dK.ap bl11)<|eF .normal (mH e l11 (cp (i+1))))<|by kernel_rfl
 ·obtain rfl:=lf h
  have z:=p9<|sg 0 c8<|eF (.exit 0) (ui e out)
  exact kc QF (by intro hx;cases hx) z<|by kernel_rfl
theorem GF{x:waA}(h:tp e out i=some x):aR Pg GE 0 (.loop (cA Tb 247)) (EX (.exit 0) (ui e x)) (mH e out i):=
 aR.loop (S:=fun(zz:waA×Int)=>mH e zz.1 zz.2) (ex:=(fun _=>.exit 0)) (s:=(out,i)) h fun zz y hy=>EE e zz.1 zz.2 hy
end
section
variable(R140:rX)(e:af)(out:waA)(i:Int)
def mI:aA:=bj 76 [(1,.eptr (ae e)),(3,sl cS out),(5,.int .i64 i)] [.dead] [((3,0),9)]
def uj(o:waA):aA:=bj 76 [(1,.eptr (ae e)),(3,sl cS o)] [.dead] [((3,0),9)]
def iV:Option ((waA×Int)⊕(waA)):=
 if(decide (i<(e.Kids.length:Int)))=true then
  (gY e.Kids i).bind fun x15=>
  (R140 x15).bind fun r16=>
  (app out r16).bind fun l17=>
  some (.inl (l17,cp (i+1)))
 else
  some (.inr out)
def tq:Option waA:=loop (fun(zz:waA×Int)=>iV R140 e zz.1 zz.2) (out,i)
theorem EF(hR140:rS R140){y:(waA×Int)⊕(waA)}(h:iV R140 e out i=some y):aR Pg GE 0 (cA Tb 503) (LQ (fun(zz:waA×Int)=>mI e zz.1 zz.2) (fun _=>.exit 2) (uj e) y) (mI e out i):=by
 have p14:=fun{sc F} (r:PS sc F)=>sv (aX e)<|sv (aY e)<|cq (g6.ln e.Kids)<|r
 rcases aP h with⟨c13,h⟩|⟨c13,h⟩
 ·obtain⟨x15,bx15,h⟩:=aJ h
  obtain⟨r16,br16,h⟩:=aJ h
  obtain⟨l17,bl17,h⟩:=aJ h
  obtain rfl:=lf h
  exact AU QF (p14<|sg 0 c13<|sv (aX e)<|sv (aY e)<|sv (g6.ia (k:=.i64) bx15)<|sv (bv x15)<|cW (hR140 _ _ br16)<|sv (dK.ap bl17)<|eF .normal (mI e l17 (cp (i+1))))<|by kernel_rfl
 ·obtain rfl:=lf h
  have z:=p14<|sg 0 c13<|eF (.exit 2) (uj e out)
  exact kc QF (by intro hx;cases hx) z<|by kernel_rfl
theorem GG(hR140:rS R140){x:waA}(h:tq R140 e out i=some x):aR Pg GE 0 (.loop (cA Tb 503)) (EX (.exit 2) (uj e x)) (mI e out i):=
 aR.loop (S:=fun(zz:waA×Int)=>mI e zz.1 zz.2) (ex:=(fun _=>.exit 2)) (s:=(out,i)) h fun zz y hy=>EF R140 e zz.1 zz.2 hR140 hy
end
section
variable(R140:rX)(e:af)(out:waA)(i:Int)
def mJ:aA:=bj 76 [(1,.eptr (ae e)),(3,sl cS out),(6,.int .i64 i)] [.dead] [((3,0),9)]
def uk(o:waA):aA:=bj 76 [(3,sl cS o)] [.dead] [((3,0),9)]
def iW:Option ((waA×Int)⊕(waA)):=
 if(decide (i<(e.Alts.length:Int)))=true then
  (gY e.Alts i).bind fun x21=>
  (app out x21.Names).bind fun l22=>
  (gY e.Alts i).bind fun x23=>
  (R140 x23.Body).bind fun r24=>
  (app l22 r24).bind fun l25=>
  some (.inl (l25,cp (i+1)))
 else
  some (.inr out)
def tr:Option waA:=loop (fun(zz:waA×Int)=>iW R140 e zz.1 zz.2) (out,i)
theorem EG(hR140:rS R140){y:(waA×Int)⊕(waA)}(h:iW R140 e out i=some y):aR Pg GE 0 (cA Tb 1015) (LQ (fun(zz:waA×Int)=>mJ e zz.1 zz.2) (fun _=>.exit 4) uk y) (mJ e out i):=by
 have p20:=fun{sc F} (r:PS sc F)=>sv (aE e)<|sv (aF e)<|cq (eQ.ln e.Alts)<|r
 rcases aP h with⟨c19,h⟩|⟨c19,h⟩
 ·obtain⟨x21,bx21,h⟩:=aJ h
  obtain⟨l22,bl22,h⟩:=aJ h
  obtain⟨x23,bx23,h⟩:=aJ h
  obtain⟨r24,br24,h⟩:=aJ h
  obtain⟨l25,bl25,h⟩:=aJ h
  obtain rfl:=lf h
  exact AU QF (p20<|sg 0 c19<|sv (aE e)<|sv (aF e)<|sv (eQ.ia (k:=.i64) bx21)<|sv (pG x21)<|sv (pL x21)<|sv (dK.ap bl22)<|sv (aE e)<|sv (aF e)<|sv (eQ.ia (k:=.i64) bx23)<|sv (tv x23)<|sv (tA x23)<|cW (hR140 _ _ br24)<|sv (dK.ap bl25)<|eF .normal (mJ e l25 (cp (i+1))))<|by kernel_rfl
 ·obtain rfl:=lf h
  have z:=p20<|sg 0 c19<|eF (.exit 4) (uk out)
  exact kc QF (by intro hx;cases hx) z<|by kernel_rfl
theorem GH(hR140:rS R140){x:waA}(h:tr R140 e out i=some x):aR Pg GE 0 (.loop (cA Tb 1015)) (EX (.exit 4) (uk x)) (mJ e out i):=
 aR.loop (S:=fun(zz:waA×Int)=>mJ e zz.1 zz.2) (ex:=(fun _=>.exit 4)) (s:=(out,i)) h fun zz y hy=>EG R140 e zz.1 zz.2 hR140 hy
end
def vK(R140:rX)(e:af):Option waA:=
 (tn e).bind fun o4=>
 (tp e o4 0).bind fun o12=>
 (tq R140 e o12 0).bind fun o18=>
 (tr R140 e o18 0).bind fun o26=>
 some o26
theorem Jg(R140:rX)(hR140:rS R140){e:af}{r:waA}(h:vK R140 e=some r):CC Pg GE 25 [.agg (ae e)] (sl cS r) [(0,9)]:=by
 obtain⟨o4,bo4,h⟩:=aJ h
 obtain⟨o12,bo12,h⟩:=aJ h
 obtain⟨o18,bo18,h⟩:=aJ h
 obtain⟨o26,bo26,h⟩:=aJ h
 obtain rfl:=lf h
 have z:=se (cJ e)<|rN 1<|dS (GB e bo4)<|dS (GF e o4 0 bo12)<|dS (GG R140 e o12 0 hR140 bo18)<|dS (GH R140 e o18 0 hR140 bo26)<|en (aI (rP (sl cS o26))<|(au cb o26))
 exact cR QF call25 func25 (c:=Tb) rfl (aI (ay e) trivial) z<|by kernel_rfl
def zy:(af->Option waA)->(af)->Option waA:=fun(rec:af->Option waA) (x:af)=>vK (fun e=>rec e) x
def ED(e:af):Option waA:=sd zy e
theorem Dd{e:af}{r:waA}(h:ED e=some r):CC Pg GE 25 [.agg (ae e)] (sl cS r) [(0,9)]:=
 eM (F:=zy) (M:=fun(x:af) (r:waA)=>CC Pg GE 25 [.agg (ae x)] (sl cS r) [(0,9)]) (fun rec hrec x r h=>Jg _ (fun e r h=>hrec e r h) h) h
abbrev gP:=(af->(List (ag×Bool))->Option (Bool×(List (ag×Bool))))
abbrev gO(R:gP):Prop:=∀(e:af) (k2:(List (ag×Bool))) (r:Bool×(List (ag×Bool))),R e k2=some r->C Pg GE 64 [.agg (ae e),.func (.func 83) [] [.bptr 0 0]] [] [.cells [.bptr 1 0] [],.cells [.mapr 2] [],.map (aD PVal.bool k2)] (.bool r.1) [] [.cells [.bptr 1 0] [],.cells [.mapr 2] [],.map (aD PVal.bool r.2)]
noncomputable def XZ:Code:=f83.body.getD .skip
def W3:List Nat:=[]
section
variable(v:af)(m2:(List (ag×Bool)))
def CL:aA:=bj 17 [(1,.bptr 0 0),(2,.eptr (ae v))] [.cells [.bptr 1 0] [],.cells [.mapr 2] [],.map (aD PVal.bool m2),.dead] []
def oT(o:(List (ag×Bool))):aA:=bj 17 [(1,.bptr 0 0),(2,.eptr (ae v))] [.cells [.bptr 1 0] [],.cells [.mapr 2] [],.map (aD PVal.bool o),.dead] []
def rh:Option (((List (ag×Bool)))):=
 if(v.Op==4)=true then
  (eU ([v.Name]:List ag) m2).bind fun r3=>
  some r3
 else
  some m2
theorem Bt{x:((List (ag×Bool)))}(h:rh v m2=some x):aR Pg GE 3 (cA XZ 6) (EX .normal (oT v x)) (CL v m2):=by
 have p2:=fun{sc F} (r:PS sc F)=>sv (cX v)<|sv (cY v)<|r
 rcases aP h with⟨c1,h⟩|⟨c1,h⟩
 ·obtain⟨r3,br3,h⟩:=aJ h
  obtain rfl:=lf h
  exact bJ W3 (p2<|sg 0 c1<|ss<|sv (eu v)<|sv (fc v)<|sv (dK.mk' (v:=PVal.str) Lz ([v.Name]:List ag) 1 (by kernel_rfl))<|si (.cg ⟨[1,2],[.bptr 0 0,sl cS ([v.Name]:List ag)],[],[.cells [.mapr 2] [],.map (aD PVal.bool m2)],[.cells [.mapr 1] [],.map (aD PVal.bool m2)],[.cells [.mapr 2] [],.map (aD PVal.bool r3)],[.cells [.mapr 1] [],.map (aD PVal.bool r3)],.tuple [],.tuple [],[]⟩) (fV br3)<|sf (aI (xB [1,2] 0 1 0 rfl) (aI (xR [1,2] (sl cS ([v.Name]:List ag)) (au cb ([v.Name]:List ag))) trivial))<|sf (aI (aI (rB (.cells [.mapr 2] [])) (aI (rW []) (aI (xM [1,2] 1 2 rfl) trivial))) (aI (aI (rB (.map (aD PVal.bool m2))) (aI (rM (aD PVal.bool m2)) (mA (n:=0) PVal.bool (fun x=>trivial) m2))) trivial))<|sf (aI (aI (rW []) (aI (xM [1,2] 1 2 rfl) trivial)) (aI (aI (rM (aD PVal.bool r3)) (mA (n:=0) PVal.bool (fun x=>trivial) r3)) trivial))<|sf (xR [1,2] (.tuple []) trivial)<|eF .normal (oT v r3))<|by kernel_rfl
 ·obtain rfl:=lf h
  exact bJ W3 (p2<|sg 0 c1<|eF .normal (oT v m2))<|by kernel_rfl
end
def lY(a:af)(k2:(List (ag×Bool))):Option (Bool×(List (ag×Bool))):=
 (rh a k2).bind fun o4=>
 (iy a.Alts).bind fun r5=>
 (eU r5 o4).bind fun r6=>
 some (true,r6)
theorem Fm{a:af}{k2:(List (ag×Bool))}{r:Bool×(List (ag×Bool))}(h:lY a k2=some r):C Pg GE 83 [.agg (ae a),.bptr 0 0] [] [.cells [.bptr 1 0] [],.cells [.mapr 2] [],.map (aD PVal.bool k2)] (.bool r.1) [] [.cells [.bptr 1 0] [],.cells [.mapr 2] [],.map (aD PVal.bool r.2)]:=by
 obtain⟨o4,bo4,h⟩:=aJ h
 obtain⟨r5,br5,h⟩:=aJ h
 obtain⟨r6,br6,h⟩:=aJ h
 obtain rfl:=lf h
 have z:=se (cJ a)<|rN 0<|dS (Bt a k2 bo4)<|sk<|Vp (.dx [0,0,2,6] [] [] [])<|ss<|sv (aE a)<|sv (aF a)<|cW (qf br5)<|si (.cg ⟨[1,2],[.bptr 0 0,sl cS r5],[],[.cells [.mapr 2] [],.map (aD PVal.bool o4)],[.cells [.mapr 1] [],.map (aD PVal.bool o4)],[.cells [.mapr 2] [],.map (aD PVal.bool r6)],[.cells [.mapr 1] [],.map (aD PVal.bool r6)],.tuple [],.tuple [],[]⟩) (fV br6)<|sf (aI (xB [1,2] 0 1 0 rfl) (aI (xR [1,2] (sl cS r5) (au cb r5)) trivial))<|sf (aI (aI (rB (.cells [.mapr 2] [])) (aI (rW []) (aI (xM [1,2] 1 2 rfl) trivial))) (aI (aI (rB (.map (aD PVal.bool o4))) (aI (rM (aD PVal.bool o4)) (mA (n:=0) PVal.bool (fun x=>trivial) o4))) trivial))<|sf (aI (aI (rW []) (aI (xM [1,2] 1 2 rfl) trivial)) (aI (aI (rM (aD PVal.bool r6)) (mA (n:=0) PVal.bool (fun x=>trivial) r6)) trivial))<|sf (xR [1,2] (.tuple []) trivial)<|en (aI (rP (.bool true))<|aI trivial<|aI (rL [.cells [.bptr 1 0] [],.cells [.mapr 2] [],.map (aD PVal.bool r6)])<|(aI (aI (aZ (i:=1) (n:=3) rfl) trivial) (aI (aI (aZ (i:=2) (n:=3) rfl) trivial) (aI (mA (n:=3) PVal.bool (fun x=>trivial) r6) trivial))))
 exact C.evGp (A:=W3) mixed (m:=3) (c:=XZ) rfl call83 func83 rfl z<|by kernel_rfl
section
variable(R142:gP)(e:af)(t14:waE)(t15:Int)(t16:Int)(m2:(List (ag×Bool)))
def fu:aA:=bj 38 [(1,.func (.func 83) [] [.bptr 0 0]),(2,.eptr (ae e)),(14,sl ae t14),(15,.int .i64 t15),(16,.int .i64 t16)] [.cells [.bptr 1 0] [],.cells [.mapr 2] [],.map (aD PVal.bool m2),.dead] []
def fw(o:((List (ag×Bool)))⊕((List (ag×Bool)))):Exit:=match o with
 |(.inl _)=>.ret
 |(.inr _)=>.exit 0
def dy(o:((List (ag×Bool)))⊕((List (ag×Bool)))):aA:=match o with
 |(.inl o)=>bj 38 [(4,.bool false)] [.cells [.bptr 1 0] [],.cells [.mapr 2] [],.map (aD PVal.bool o),.dead] []
 |(.inr o)=>bj 38 [(1,.func (.func 83) [] [.bptr 0 0]),(2,.eptr (ae e))] [.cells [.bptr 1 0] [],.cells [.mapr 2] [],.map (aD PVal.bool o),.dead] []
def dw:Option ((Int×(List (ag×Bool)))⊕(((List (ag×Bool)))⊕((List (ag×Bool))))):=
 if(decide (t16<t15))=true then
  (gY t14 t16).bind fun x5=>
  (R142 x5 m2).bind fun r6=>
  if(!r6.1)=true then
   some (.inr (.inl r6.2))
  else
   some (.inl (cp (t16+1),r6.2))
 else
  some (.inr (.inr m2))
def qK:Option (((List (ag×Bool)))⊕((List (ag×Bool)))):=loop (fun(zz:Int×(List (ag×Bool)))=>dw R142 t14 t15 zz.1 zz.2) (t16,m2)
theorem vq(hR142:gO R142){y:(Int×(List (ag×Bool)))⊕(((List (ag×Bool)))⊕((List (ag×Bool))))}(h:dw R142 t14 t15 t16 m2=some y):aR Pg GE 3 (cA BG 119) (LQ (fun(zz:Int×(List (ag×Bool)))=>fu e t14 t15 zz.1 zz.2) fw (dy e) y) (fu e t14 t15 t16 m2):=by
 rcases aP h with⟨c4,h⟩|⟨c4,h⟩
 ·obtain⟨x5,bx5,h⟩:=aJ h
  obtain⟨r6,br6,h⟩:=aJ h
  have p8:=fun{sc F} (r:PS sc F)=>sg 0 c4<|sv (g6.ia (k:=.i64) bx5)<|sv (bv x5)<|sx wG<|sx (kv x5)<|sv (bu x5 [])<|si (.cg ⟨[0,1,2],[.agg (ae x5),.func (.func 83) [] [.bptr 0 0]],[],[.cells [.bptr 1 0] [],.cells [.mapr 2] [],.map (aD PVal.bool m2)],[.cells [.bptr 1 0] [],.cells [.mapr 2] [],.map (aD PVal.bool m2)],[.cells [.bptr 1 0] [],.cells [.mapr 2] [],.map (aD PVal.bool r6.2)],[.cells [.bptr 1 0] [],.cells [.mapr 2] [],.map (aD PVal.bool r6.2)],.bool r6.1,.bool r6.1,[]⟩) (hR142 _ _ _ br6)<|sf (aI (xR [0,1,2] (.agg (ae x5)) (ay x5)) (aI (xF [0,1,2] (.func 83) [] [.bptr 0 0] [] [.bptr 0 0] trivial (aI (xB [0,1,2] 0 0 0 rfl) trivial)) trivial))<|sf (aI (aI (rB (.cells [.bptr 1 0] [])) (aI (rW []) (aI (xB [0,1,2] 1 1 0 rfl) trivial))) (aI (aI (rB (.cells [.mapr 2] [])) (aI (rW []) (aI (xM [0,1,2] 2 2 rfl) trivial))) (aI (aI (rB (.map (aD PVal.bool m2))) (aI (rM (aD PVal.bool m2)) (mA (n:=0) PVal.bool (fun x=>trivial) m2))) trivial)))<|sf (aI (aI (rW []) (aI (xB [0,1,2] 1 1 0 rfl) trivial)) (aI (aI (rW []) (aI (xM [0,1,2] 2 2 rfl) trivial)) (aI (aI (rM (aD PVal.bool r6.2)) (mA (n:=0) PVal.bool (fun x=>trivial) r6.2)) trivial)))<|sf (xR [0,1,2] (.bool r6.1) trivial)<|r
  rcases aP h with⟨c7,h⟩|⟨c7,h⟩
  ·obtain rfl:=lf h
   have z:=p8<|sg 0 c7<|tN 3 (fw (.inl r6.2)) (dy e (.inl r6.2)) rfl (d5 (aI trivial trivial)) (aI (aI (aZ rfl) trivial) (aI (aI (aZ rfl) trivial) (aI (mA PVal.bool (fun x=>trivial) r6.2) (aI trivial trivial))))
   exact pR (A:=xz) mixed (by intro hx;cases hx) z<|by kernel_rfl
  ·obtain rfl:=lf h
   have z:=p8<|sg 0 c7<|tN 3 .normal (fu e t14 t15 (cp (t16+1)) r6.2) rfl (d5 (aI (aI trivial (aI (aZ rfl) trivial)) (aI (be (ay e)) (aI (up (au ay t14)) (aI trivial (aI trivial trivial)))))) (aI (aI (aZ rfl) trivial) (aI (aI (aZ rfl) trivial) (aI (mA PVal.bool (fun x=>trivial) r6.2) (aI trivial trivial))))
   exact ez (A:=xz) mixed z<|by kernel_rfl
 ·obtain rfl:=lf h
  have z:=sg 0 c4<|eF (fw (.inr m2)) (dy e (.inr m2))
  exact kc xz (by intro hx;cases hx) z<|by kernel_rfl
theorem j7(hR142:gO R142){x:((List (ag×Bool)))⊕((List (ag×Bool)))}(h:qK R142 t14 t15 t16 m2=some x):aR Pg GE 3 (.loop (cA BG 119)) (EX (fw x) (dy e x)) (fu e t14 t15 t16 m2):=
 aR.loop (S:=fun(zz:Int×(List (ag×Bool)))=>fu e t14 t15 zz.1 zz.2) (ex:=fw) (s:=(t16,m2)) h fun zz y hy=>vq R142 e t14 t15 zz.1 zz.2 hR142 hy
end
section
variable(R142:gP)(t26:waC)(t27:Int)(t28:Int)(m2:(List (ag×Bool)))
def fx:aA:=bj 38 [(1,.func (.func 83) [] [.bptr 0 0]),(26,sl az t26),(27,.int .i64 t27),(28,.int .i64 t28)] [.cells [.bptr 1 0] [],.cells [.mapr 2] [],.map (aD PVal.bool m2),.dead] []
def fy(o:((List (ag×Bool)))⊕((List (ag×Bool)))):Exit:=match o with
 |(.inl _)=>.ret
 |(.inr _)=>.exit 2
def ei(o:((List (ag×Bool)))⊕((List (ag×Bool)))):aA:=match o with
 |(.inl o)=>bj 38 [(4,.bool false)] [.cells [.bptr 1 0] [],.cells [.mapr 2] [],.map (aD PVal.bool o),.dead] []
 |(.inr o)=>bj 38 [] [.cells [.bptr 1 0] [],.cells [.mapr 2] [],.map (aD PVal.bool o),.dead] []
def dz:Option ((Int×(List (ag×Bool)))⊕(((List (ag×Bool)))⊕((List (ag×Bool))))):=
 if(decide (t28<t27))=true then
  (gY t26 t28).bind fun x11=>
  (R142 x11.Body m2).bind fun r12=>
  if(!r12.1)=true then
   some (.inr (.inl r12.2))
  else
   some (.inl (cp (t28+1),r12.2))
 else
  some (.inr (.inr m2))
def qL:Option (((List (ag×Bool)))⊕((List (ag×Bool)))):=loop (fun(zz:Int×(List (ag×Bool)))=>dz R142 t26 t27 zz.1 zz.2) (t28,m2)
theorem vw(hR142:gO R142){y:(Int×(List (ag×Bool)))⊕(((List (ag×Bool)))⊕((List (ag×Bool))))}(h:dz R142 t26 t27 t28 m2=some y):aR Pg GE 3 (cA BG 247) (LQ (fun(zz:Int×(List (ag×Bool)))=>fx t26 t27 zz.1 zz.2) fy ei y) (fx t26 t27 t28 m2):=by
 rcases aP h with⟨c10,h⟩|⟨c10,h⟩
 ·obtain⟨x11,bx11,h⟩:=aJ h
  obtain⟨r12,br12,h⟩:=aJ h
  have p14:=fun{sc F} (r:PS sc F)=>sg 0 c10<|sv (eQ.ia (k:=.i64) bx11)<|sv (mi x11)<|sx Fh<|sx (i8 x11)<|sv (bu x11.Body [])<|si (.cg ⟨[0,1,2],[.agg (ae x11.Body),.func (.func 83) [] [.bptr 0 0]],[],[.cells [.bptr 1 0] [],.cells [.mapr 2] [],.map (aD PVal.bool m2)],[.cells [.bptr 1 0] [],.cells [.mapr 2] [],.map (aD PVal.bool m2)],[.cells [.bptr 1 0] [],.cells [.mapr 2] [],.map (aD PVal.bool r12.2)],[.cells [.bptr 1 0] [],.cells [.mapr 2] [],.map (aD PVal.bool r12.2)],.bool r12.1,.bool r12.1,[]⟩) (hR142 _ _ _ br12)<|sf (aI (xR [0,1,2] (.agg (ae x11.Body)) (ay x11.Body)) (aI (xF [0,1,2] (.func 83) [] [.bptr 0 0] [] [.bptr 0 0] trivial (aI (xB [0,1,2] 0 0 0 rfl) trivial)) trivial))<|sf (aI (aI (rB (.cells [.bptr 1 0] [])) (aI (rW []) (aI (xB [0,1,2] 1 1 0 rfl) trivial))) (aI (aI (rB (.cells [.mapr 2] [])) (aI (rW []) (aI (xM [0,1,2] 2 2 rfl) trivial))) (aI (aI (rB (.map (aD PVal.bool m2))) (aI (rM (aD PVal.bool m2)) (mA (n:=0) PVal.bool (fun x=>trivial) m2))) trivial)))<|sf (aI (aI (rW []) (aI (xB [0,1,2] 1 1 0 rfl) trivial)) (aI (aI (rW []) (aI (xM [0,1,2] 2 2 rfl) trivial)) (aI (aI (rM (aD PVal.bool r12.2)) (mA (n:=0) PVal.bool (fun x=>trivial) r12.2)) trivial)))<|sf (xR [0,1,2] (.bool r12.1) trivial)<|r
  rcases aP h with⟨c13,h⟩|⟨c13,h⟩
  ·obtain rfl:=lf h
   have z:=p14<|sg 0 c13<|tN 3 (fy (.inl r12.2)) (ei (.inl r12.2)) rfl (d5 (aI trivial trivial)) (aI (aI (aZ rfl) trivial) (aI (aI (aZ rfl) trivial) (aI (mA PVal.bool (fun x=>trivial) r12.2) (aI trivial trivial))))
   exact pR (A:=xz) mixed (by intro hx;cases hx) z<|by kernel_rfl
  ·obtain rfl:=lf h
   have z:=p14<|sg 0 c13<|tN 3 .normal (fx t26 t27 (cp (t28+1)) r12.2) rfl (d5 (aI (aI trivial (aI (aZ rfl) trivial)) (aI (up (au bW t26)) (aI trivial (aI trivial trivial))))) (aI (aI (aZ rfl) trivial) (aI (aI (aZ rfl) trivial) (aI (mA PVal.bool (fun x=>trivial) r12.2) (aI trivial trivial))))
   exact ez (A:=xz) mixed z<|by kernel_rfl
 ·obtain rfl:=lf h
  have z:=sg 0 c10<|eF (fy (.inr m2)) (ei (.inr m2))
  exact kc xz (by intro hx;cases hx) z<|by kernel_rfl
theorem om(hR142:gO R142){x:((List (ag×Bool)))⊕((List (ag×Bool)))}(h:qL R142 t26 t27 t28 m2=some x):aR Pg GE 3 (.loop (cA BG 247)) (EX (fy x) (ei x)) (fx t26 t27 t28 m2):=
 aR.loop (S:=fun(zz:Int×(List (ag×Bool)))=>fx t26 t27 zz.1 zz.2) (ex:=fy) (s:=(t28,m2)) h fun zz y hy=>vw R142 t26 t27 zz.1 zz.2 hR142 hy
end
def jW(R142:gP)(e:af)(k2:(List (ag×Bool))):Option (Bool×(List (ag×Bool))):=
 (lY e k2).bind fun r1=>
 if(!r1.1)=true then
  some (false,r1.2)
 else
  (qK R142 e.Kids (e.Kids.length:Int) 0 r1.2).bind fun o9=>match o9 with
  |(.inl o9)=>
   some (false,o9)
  | (.inr o9) =>
   (qL R142 e.Alts (e.Alts.length:Int) 0 o9).bind fun o15=>match o15 with
   |(.inl o15)=>
    some (false,o15)
   |(.inr o15)=>
    some (true,o15)
theorem yq(R142:gP)(hR142:gO R142){e:af}{k2:(List (ag×Bool))}{r:Bool×(List (ag×Bool))}(h:jW R142 e k2=some r):C Pg GE 64 [.agg (ae e),.func (.func 83) [] [.bptr 0 0]] [] [.cells [.bptr 1 0] [],.cells [.mapr 2] [],.map (aD PVal.bool k2)] (.bool r.1) [] [.cells [.bptr 1 0] [],.cells [.mapr 2] [],.map (aD PVal.bool r.2)]:=by
 obtain⟨r1,br1,h⟩:=aJ h
 have p3:=fun{sc F} (r:PS sc F)=>se (cJ e)<|sv (bv e)<|si (.cg ⟨[0,1,2],[.agg (ae e),.bptr 0 0],[],[.cells [.bptr 1 0] [],.cells [.mapr 2] [],.map (aD PVal.bool k2)],[.cells [.bptr 1 0] [],.cells [.mapr 2] [],.map (aD PVal.bool k2)],[.cells [.bptr 1 0] [],.cells [.mapr 2] [],.map (aD PVal.bool r1.2)],[.cells [.bptr 1 0] [],.cells [.mapr 2] [],.map (aD PVal.bool r1.2)],.bool r1.1,.bool r1.1,[]⟩) (Fm br1)<|sf (aI (xR [0,1,2] (.agg (ae e)) (ay e)) (aI (xB [0,1,2] 0 0 0 rfl) trivial))<|sf (aI (aI (rB (.cells [.bptr 1 0] [])) (aI (rW []) (aI (xB [0,1,2] 1 1 0 rfl) trivial))) (aI (aI (rB (.cells [.mapr 2] [])) (aI (rW []) (aI (xM [0,1,2] 2 2 rfl) trivial))) (aI (aI (rB (.map (aD PVal.bool k2))) (aI (rM (aD PVal.bool k2)) (mA (n:=0) PVal.bool (fun x=>trivial) k2))) trivial)))<|sf (aI (aI (rW []) (aI (xB [0,1,2] 1 1 0 rfl) trivial)) (aI (aI (rW []) (aI (xM [0,1,2] 2 2 rfl) trivial)) (aI (aI (rM (aD PVal.bool r1.2)) (mA (n:=0) PVal.bool (fun x=>trivial) r1.2)) trivial)))<|sf (xR [0,1,2] (.bool r1.1) trivial)<|r
 rcases aP h with⟨c2,h⟩|⟨c2,h⟩
 ·obtain rfl:=lf h
  have z:=p3<|sg 0 c2<|en (aI (rP (.bool false))<|aI trivial<|aI (rL [.cells [.bptr 1 0] [],.cells [.mapr 2] [],.map (aD PVal.bool r1.2)])<|(aI (aI (aZ (i:=1) (n:=3) rfl) trivial) (aI (aI (aZ (i:=2) (n:=3) rfl) trivial) (aI (mA (n:=3) PVal.bool (fun x=>trivial) r1.2) trivial))))
  exact C.evGp (A:=xz) mixed (m:=3) (c:=BG) rfl call64 func64 rfl z<|by kernel_rfl
 ·obtain⟨o9,bo9,h⟩:=aJ h
  rcases o9 with o9|o9
  ·obtain rfl:=lf h
   have z:=p3<|sg 0 c2<|sv (aX e)<|sv (aY e)<|cq (g6.ln e.Kids)<|dS (e:=.ret) (s1:=dy e (.inl o9)) (j7 R142 e e.Kids (e.Kids.length:Int) 0 r1.2 hR142 bo9)<|en (aI (rP (.bool false))<|aI trivial<|aI (rL [.cells [.bptr 1 0] [],.cells [.mapr 2] [],.map (aD PVal.bool o9)])<|(aI (aI (aZ (i:=1) (n:=3) rfl) trivial) (aI (aI (aZ (i:=2) (n:=3) rfl) trivial) (aI (mA (n:=3) PVal.bool (fun x=>trivial) o9) trivial))))
   exact C.evGp (A:=xz) mixed (m:=3) (c:=BG) rfl call64 func64 rfl z<|by kernel_rfl
  ·obtain⟨o15,bo15,h⟩:=aJ h
   rcases o15 with o15|o15
   ·obtain rfl:=lf h
    have z:=p3<|sg 0 c2<|sv (aX e)<|sv (aY e)<|cq (g6.ln e.Kids)<|dS (e:=.exit 0) (s1:=dy e (.inr o9)) (j7 R142 e e.Kids (e.Kids.length:Int) 0 r1.2 hR142 bo9)<|sv (aE e)<|sv (aF e)<|cq (eQ.ln e.Alts)<|dS (e:=.ret) (s1:=ei (.inl o15)) (om R142 e.Alts (e.Alts.length:Int) 0 o9 hR142 bo15)<|en (aI (rP (.bool false))<|aI trivial<|aI (rL [.cells [.bptr 1 0] [],.cells [.mapr 2] [],.map (aD PVal.bool o15)])<|(aI (aI (aZ (i:=1) (n:=3) rfl) trivial) (aI (aI (aZ (i:=2) (n:=3) rfl) trivial) (aI (mA (n:=3) PVal.bool (fun x=>trivial) o15) trivial))))
    exact C.evGp (A:=xz) mixed (m:=3) (c:=BG) rfl call64 func64 rfl z<|by kernel_rfl
   ·obtain rfl:=lf h
    have z:=p3<|sg 0 c2<|sv (aX e)<|sv (aY e)<|cq (g6.ln e.Kids)<|dS (e:=.exit 0) (s1:=dy e (.inr o9)) (j7 R142 e e.Kids (e.Kids.length:Int) 0 r1.2 hR142 bo9)<|sv (aE e)<|sv (aF e)<|cq (eQ.ln e.Alts)<|dS (e:=.exit 2) (s1:=ei (.inr o15)) (om R142 e.Alts (e.Alts.length:Int) 0 o9 hR142 bo15)<|en (aI (rP (.bool true))<|aI trivial<|aI (rL [.cells [.bptr 1 0] [],.cells [.mapr 2] [],.map (aD PVal.bool o15)])<|(aI (aI (aZ (i:=1) (n:=3) rfl) trivial) (aI (aI (aZ (i:=2) (n:=3) rfl) trivial) (aI (mA (n:=3) PVal.bool (fun x=>trivial) o15) trivial))))
    exact C.evGp (A:=xz) mixed (m:=3) (c:=BG) rfl call64 func64 rfl z<|by kernel_rfl
def mZ:((af×(List (ag×Bool)))->Option (Bool×(List (ag×Bool))))->(af×(List (ag×Bool)))->Option (Bool×(List (ag×Bool))):=fun(rec:(af×(List (ag×Bool)))->Option (Bool×(List (ag×Bool)))) (x:af×(List (ag×Bool)))=>jW (fun e k2=>rec (e,k2)) x.1 x.2
def oX(e:af)(k2:(List (ag×Bool))):Option (Bool×(List (ag×Bool))):=sd mZ (e,k2)
theorem y1{e:af}{k2:(List (ag×Bool))}{r:Bool×(List (ag×Bool))}(h:oX e k2=some r):C Pg GE 64 [.agg (ae e),.func (.func 83) [] [.bptr 0 0]] [] [.cells [.bptr 1 0] [],.cells [.mapr 2] [],.map (aD PVal.bool k2)] (.bool r.1) [] [.cells [.bptr 1 0] [],.cells [.mapr 2] [],.map (aD PVal.bool r.2)]:=
 eM (F:=mZ) (M:=fun(x:af×(List (ag×Bool))) (r:Bool×(List (ag×Bool)))=>C Pg GE 64 [.agg (ae x.1),.func (.func 83) [] [.bptr 0 0]] [] [.cells [.bptr 1 0] [],.cells [.mapr 2] [],.map (aD PVal.bool x.2)] (.bool r.1) [] [.cells [.bptr 1 0] [],.cells [.mapr 2] [],.map (aD PVal.bool r.2)]) (fun rec hrec x r h=>yq _ (fun e k2 r h=>hrec (e,k2) r h) h) h
noncomputable def Yx:Code:=f27.body.getD .skip
def Yg:List Nat:=[]
def sB(e:af):Option waA:=
 (lZ ([]:List ag)).bind fun r1=>
 (oX e r1).bind fun r2=>
 (rb r2.2).bind fun r3=>
 some r3
theorem Ai{e:af}{r:waA}(h:sB e=some r):CC Pg GE 27 [.agg (ae e)] (sl cS r) [(0,9)]:=by
 obtain⟨r1,br1,h⟩:=aJ h
 obtain⟨r2,br2,h⟩:=aJ h
 obtain⟨r3,br3,h⟩:=aJ h
 obtain rfl:=lf h
 have z:=se (cJ e)<|si (.cn ⟨[2,3],[],[],[],[],[.map (aD PVal.bool r1),.cells [.mapr 2] []],[.map (aD PVal.bool r1),.cells [.mapr 0] []],.bptr 3 0,.bptr 1 0,[]⟩) (rj br1)<|sf (aI (au cb ([]:List ag)) trivial)<|sf (aI (aI (rM (aD PVal.bool r1)) (mA (n:=0) PVal.bool (fun x=>trivial) r1)) (aI (aI (rW []) (aI (xM [2,3] 0 2 rfl) trivial)) trivial))<|sf (xB [2,3] 1 3 0 rfl)<|sx T9<|ss<|sv (bv e)<|si (.cg ⟨[1,3,2],[.agg (ae e),.func (.func 83) [] [.bptr 0 0]],[],[.cells [.bptr 3 0] [],.cells [.mapr 2] [],.map (aD PVal.bool r1)],[.cells [.bptr 1 0] [],.cells [.mapr 2] [],.map (aD PVal.bool r1)],[.cells [.bptr 3 0] [],.cells [.mapr 2] [],.map (aD PVal.bool r2.2)],[.cells [.bptr 1 0] [],.cells [.mapr 2] [],.map (aD PVal.bool r2.2)],.bool r2.1,.bool r2.1,[]⟩) (y1 br2)<|sf (aI (xR [1,3,2] (.agg (ae e)) (ay e)) (aI (xF [1,3,2] (.func 83) [] [.bptr 1 0] [] [.bptr 0 0] trivial (aI (xB [1,3,2] 0 1 0 rfl) trivial)) trivial))<|sf (aI (aI (rB (.cells [.bptr 3 0] [])) (aI (rW []) (aI (xB [1,3,2] 1 3 0 rfl) trivial))) (aI (aI (rB (.cells [.mapr 2] [])) (aI (rW []) (aI (xM [1,3,2] 2 2 rfl) trivial))) (aI (aI (rB (.map (aD PVal.bool r1))) (aI (rM (aD PVal.bool r1)) (mA (n:=0) PVal.bool (fun x=>trivial) r1))) trivial)))<|sf (aI (aI (rW []) (aI (xB [1,3,2] 1 3 0 rfl) trivial)) (aI (aI (rW []) (aI (xM [1,3,2] 2 2 rfl) trivial)) (aI (aI (rM (aD PVal.bool r2.2)) (mA (n:=0) PVal.bool (fun x=>trivial) r2.2)) trivial)))<|sf (xR [1,3,2] (.bool r2.1) trivial)<|ss<|si (.cg ⟨[3,2],[.bptr 0 0],[],[.cells [.mapr 2] [],.map (aD PVal.bool r2.2)],[.cells [.mapr 1] [],.map (aD PVal.bool r2.2)],[.cells [.mapr 2] [],.map (aD PVal.bool r2.2)],[.cells [.mapr 1] [],.map (aD PVal.bool r2.2)],sl cS r3,sl cS r3,[(0,9)]⟩) (wH br3)<|sf (aI (xB [3,2] 0 3 0 rfl) trivial)<|sf (aI (aI (rB (.cells [.mapr 2] [])) (aI (rW []) (aI (xM [3,2] 1 2 rfl) trivial))) (aI (aI (rB (.map (aD PVal.bool r2.2))) (aI (rM (aD PVal.bool r2.2)) (mA (n:=0) PVal.bool (fun x=>trivial) r2.2))) trivial))<|sf (aI (aI (rW []) (aI (xM [3,2] 1 2 rfl) trivial)) (aI (aI (rM (aD PVal.bool r2.2)) (mA (n:=0) PVal.bool (fun x=>trivial) r2.2)) trivial))<|sf (xR [3,2] (sl cS r3) (au cb r3))<|en (aI (rP (sl cS r3))<|(au cb r3))
 exact cR Yg call27 func27 (c:=Yx) rfl (aI (ay e) trivial) z<|by kernel_rfl
noncomputable def b5:Code:=Tryz.f5.body.getD .skip
def A5:List Nat:=[]
section
variable(e:af)(free:waA)(v:waA)(i:Int)(m:Int)(m2:ag)(m3:Int)(m4:waE)(m5:waD)(m6:waC)(m7:waB)(k:Int)
def fK:aA:=bj 74 [(1,.eptr (ae e)),(3,.bptr 1 0),(4,sl cS free),(5,sl cS v),(6,.int .i64 i),(7,.int .i64 k)] [.dead,.cells [.int .i64 m,.str m2,.int .i64 m3,sl ae m4,sl aq m5,sl az m6,sl ai m7] [(3,28),(4,85),(5,89),(6,60)]] [((5,0),9),((4,0),9)]
def fL(o:Unit⊕(Unit)):Exit:=match o with
 |(.inl _)=>.ret
 |(.inr _)=>.exit 2
def ey(o:Unit⊕(Unit)):aA:=match o with
 |(.inl o)=>bj 74 [(2,.bool false)] [.dead,.cells [.int .i64 m,.str m2,.int .i64 m3,sl ae m4,sl aq m5,sl az m6,sl ai m7] [(3,28),(4,85),(5,89),(6,60)]] []
 |(.inr o)=>bj 74 [(1,.eptr (ae e)),(3,.bptr 1 0),(4,sl cS free),(5,sl cS v),(6,.int .i64 i)] [.dead,.cells [.int .i64 m,.str m2,.int .i64 m3,sl ae m4,sl aq m5,sl az m6,sl ai m7] [(3,28),(4,85),(5,89),(6,60)]] [((5,0),9),((4,0),9)]
def dQ:Option (Int⊕(Unit⊕(Unit))):=
 if(decide (k<i))=true then
  (gY v i).bind fun x11=>
  (gY v k).bind fun x12=>
  if(x11==x12)=true then
   some (.inr (.inl ()))
  else
   some (.inl (cp (k+1)))
 else
  some (.inr (.inr ()))
def jI:Option (Unit⊕(Unit)):=loop (fun(zz:Int)=>dQ v i zz) k
theorem wv{y:Int⊕(Unit⊕(Unit))}(h:dQ v i k=some y):aR Pg GE 0 (cA b5 65007) (LQ (fun(zz:Int)=>fK e free v i m m2 m3 m4 m5 m6 m7 zz) fL (ey e free v i m m2 m3 m4 m5 m6 m7) y) (fK e free v i m m2 m3 m4 m5 m6 m7 k):=by
 rcases aP h with⟨c10,h⟩|⟨c10,h⟩
 ·obtain⟨x11,bx11,h⟩:=aJ h
  obtain⟨x12,bx12,h⟩:=aJ h
  have p14:=fun{sc F} (r:PS sc F)=>sg 0 c10<|I1 [0,0,3,7,0,0,48,112,255]<|sv (dK.ia (k:=.i64) bx11)<|sv (cZ Ge (.str x11) [])<|sv (dK.ia (k:=.i64) bx12)<|sv (cZ Ge (.str x12) [])<|r
  rcases aP h with⟨c13,h⟩|⟨c13,h⟩
  ·obtain rfl:=lf h
   have z:=p14<|sg 0 c13<|eF (fL (.inl ())) (ey e free v i m m2 m3 m4 m5 m6 m7 (.inl ()))
   exact kc A5 (by intro hx;cases hx) z<|by kernel_rfl
  ·obtain rfl:=lf h
   exact AU A5 (p14<|sg 0 c13<|eF .normal (fK e free v i m m2 m3 m4 m5 m6 m7 (cp (k+1))))<|by kernel_rfl
 ·obtain rfl:=lf h
  have z:=sg 0 c10<|eF (fL (.inr ())) (ey e free v i m m2 m3 m4 m5 m6 m7 (.inr ()))
  exact kc A5 (by intro hx;cases hx) z<|by kernel_rfl
theorem pb{x:Unit⊕(Unit)}(h:jI v i k=some x):aR Pg GE 0 (.loop (cA b5 65007)) (EX (fL x) (ey e free v i m m2 m3 m4 m5 m6 m7 x)) (fK e free v i m m2 m3 m4 m5 m6 m7 k):=
 aR.loop (S:=fun(zz:Int)=>fK e free v i m m2 m3 m4 m5 m6 m7 zz) (ex:=fL) (s:=k) h fun zz y hy=>wv e free v i m m2 m3 m4 m5 m6 m7 zz hy
end
section
variable(e:af)(free:waA)(v:waA)(m:Int)(m2:ag)(m3:Int)(m4:waE)(m5:waD)(m6:waC)(m7:waB)(i:Int)
def fI:aA:=bj 74 [(1,.eptr (ae e)),(3,.bptr 1 0),(4,sl cS free),(5,sl cS v),(6,.int .i64 i)] [.dead,.cells [.int .i64 m,.str m2,.int .i64 m3,sl ae m4,sl aq m5,sl az m6,sl ai m7] [(3,28),(4,85),(5,89),(6,60)]] [((5,0),9),((4,0),9)]
def fJ(o:Unit⊕(Unit)):Exit:=match o with
 |(.inl _)=>.ret
 |(.inr _)=>.exit 0
def ew(o:Unit⊕(Unit)):aA:=match o with
 |(.inl o)=>bj 74 [(2,.bool false)] [.dead,.cells [.int .i64 m,.str m2,.int .i64 m3,sl ae m4,sl aq m5,sl az m6,sl ai m7] [(3,28),(4,85),(5,89),(6,60)]] []
 |(.inr o)=>bj 74 [(1,.eptr (ae e)),(3,.bptr 1 0),(4,sl cS free)] [.dead,.cells [.int .i64 m,.str m2,.int .i64 m3,sl ae m4,sl aq m5,sl az m6,sl ai m7] [(3,28),(4,85),(5,89),(6,60)]] [((4,0),9)]
def dP:Option (Int⊕(Unit⊕(Unit))):=
 if(decide (i<(v.length:Int)))=true then
  (jI v i 0).bind fun o15=>match o15 with
  |(.inl o15)=>
   some (.inr (.inl ()))
  |(.inr o15)=>
   some (.inl (cp (i+1)))
 else
  some (.inr (.inr ()))
def jH:Option (Unit⊕(Unit)):=loop (fun(zz:Int)=>dP v zz) i
theorem wu{y:Int⊕(Unit⊕(Unit))}(h:dP v i=some y):aR Pg GE 0 (cA b5 1015) (LQ (fun(zz:Int)=>fI e free v m m2 m3 m4 m5 m6 m7 zz) fJ (ew e free m m2 m3 m4 m5 m6 m7) y) (fI e free v m m2 m3 m4 m5 m6 m7 i):=by
 rcases aP h with⟨c9,h⟩|⟨c9,h⟩
 ·obtain⟨o15,bo15,h⟩:=aJ h
  rcases o15 with o15|o15
  ·obtain rfl:=lf h
   have z:=cq (dK.ln v)<|sg 0 c9<|dS (e:=.ret) (s1:=ey e free v i m m2 m3 m4 m5 m6 m7 (.inl o15)) (pb e free v i m m2 m3 m4 m5 m6 m7 0 bo15)<|eF (fJ (.inl ())) (ew e free m m2 m3 m4 m5 m6 m7 (.inl ()))
   exact kc A5 (by intro hx;cases hx) z<|by kernel_rfl
  ·obtain rfl:=lf h
   exact AU A5 (cq (dK.ln v)<|sg 0 c9<|dS (e:=.exit 2) (s1:=ey e free v i m m2 m3 m4 m5 m6 m7 (.inr o15)) (pb e free v i m m2 m3 m4 m5 m6 m7 0 bo15)<|eF .normal (fI e free v m m2 m3 m4 m5 m6 m7 (cp (i+1))))<|by kernel_rfl
 ·obtain rfl:=lf h
  have z:=cq (dK.ln v)<|sg 0 c9<|eF (fJ (.inr ())) (ew e free m m2 m3 m4 m5 m6 m7 (.inr ()))
  exact kc A5 (by intro hx;cases hx) z<|by kernel_rfl
theorem o0{x:Unit⊕(Unit)}(h:jH v i=some x):aR Pg GE 0 (.loop (cA b5 1015)) (EX (fJ x) (ew e free m m2 m3 m4 m5 m6 m7 x)) (fI e free v m m2 m3 m4 m5 m6 m7 i):=
 aR.loop (S:=fun(zz:Int)=>fI e free v m m2 m3 m4 m5 m6 m7 zz) (ex:=fJ) (s:=i) h fun zz y hy=>wu e free v m m2 m3 m4 m5 m6 m7 zz hy
end
def pD (e:af):Option Bool :=
 (AE e).bind fun r1=>
 if(!r1)=true then
  AC.bind fun r4=>
  some r4
 else
  (gL e).bind fun r5=>
  (mT e).bind fun r6=>
  (ED r5).bind fun r7=>
  (app r7 r6).bind fun l8=>
  (jH l8 0).bind fun o16=>match o16 with
  |(.inl o16)=>
   some false
  | (.inr o16) =>
   (mT r5).bind fun r17=>
   (iH r17 r6).bind fun r18=>
   if r18=true then
    (sB r5).bind fun r21=>
    (sB e).bind fun r22=>
    (iH r21 r22).bind fun r23=>
    if r23=true then
     (kX r5).bind fun r26=>
     (kX e).bind fun r27=>
     if (r26 == r27) = true then
      (nl r5).bind fun r30=>
      (nl e).bind fun r31=>
      if(r30==r31)=true then
       (gL r5).bind fun r34=>
       (zg r34 r5).bind fun r35=>
       if r35=true then
        AC.bind fun r38=>
        some r38
       else
        some false
      else
       some false
     else
      some false
    else
     some false
   else
    some false
theorem zv{e:af}{r:Bool}(h:pD e=some r):CC Pg GE 5 [.agg (ae e)] (.bool r) []:=by
 obtain⟨r1,br1,h⟩:=aJ h
 have p3:=fun{sc F} (r:PS sc F)=>se (cJ e)<|sv (bv e)<|cW (KP br1)<|r
 rcases aP h with⟨c2,h⟩|⟨c2,h⟩
 ·obtain⟨r4,br4,h⟩:=aJ h
  obtain rfl:=lf h
  have z:=p3<|sg 0 c2<|cW (Dc br4)<|en (aI (rP (.bool r4))<|trivial)
  exact cR A5 call5 func5 (c:=b5) rfl (aI (ay e) trivial) z<|by kernel_rfl
 ·obtain⟨r5,br5,h⟩:=aJ h
  obtain⟨r6,br6,h⟩:=aJ h
  obtain⟨r7,br7,h⟩:=aJ h
  obtain⟨l8,bl8,h⟩:=aJ h
  obtain⟨o16,bo16,h⟩:=aJ h
  rcases o16 with o16|o16
  ·obtain rfl:=lf h
   have z:=p3<|sg 0 c2<|sv (bv e)<|cW (nn br5)<|sx wG<|sy (bD r5)<|sv (bv e)<|cW (mU br6)<|sv (bu r5 [])<|cW (Dd br7)<|sv (dK.ap bl8)<|dS (e:=.ret) (s1:=ew e r6 r5.Op r5.Name r5.N r5.Kids r5.Params r5.Alts r5.Types (.inl o16)) (o0 e r6 l8 r5.Op r5.Name r5.N r5.Kids r5.Params r5.Alts r5.Types 0 bo16)<|en (aI (rP (.bool false))<|trivial)
   exact cR A5 call5 func5 (c:=b5) rfl (aI (ay e) trivial) z<|by kernel_rfl
  ·obtain⟨r17,br17,h⟩:=aJ h
   obtain⟨r18,br18,h⟩:=aJ h
   have p20:=fun{sc F} (r:PS sc F)=>p3<|sg 0 c2<|sv (bv e)<|cW (nn br5)<|sx wG<|sy (bD r5)<|sv (bv e)<|cW (mU br6)<|sv (bu r5 [])<|cW (Dd br7)<|sv (dK.ap bl8)<|dS (e:=.exit 0) (s1:=ew e r6 r5.Op r5.Name r5.N r5.Kids r5.Params r5.Alts r5.Types (.inr o16)) (o0 e r6 l8 r5.Op r5.Name r5.N r5.Kids r5.Params r5.Alts r5.Types 0 bo16)<|I1 [0,1,0,7,15,31,63,31,255,511,1023,2047,4095,8191,4095,32767,65535,131071,262143,524287,1048575,524287,4194303,8388607,16777215,33554431,67108863,134217727,67108863,536870911,1073741823,2147483647,4294967295,8589934591,17179869183]<|sv (bu r5 [])<|cW (mU br17)<|cW (kf br18)<|r
   rcases aP h with⟨c19,h⟩|⟨c19,h⟩
   ·obtain⟨r21,br21,h⟩:=aJ h
    obtain⟨r22,br22,h⟩:=aJ h
    obtain⟨r23,br23,h⟩:=aJ h
    have p25:=fun{sc F} (r:PS sc F)=>p20<|sg 5 c19<|sv (bu r5 [])<|cW (Ai br21)<|sv (bv e)<|cW (Ai br22)<|cW (kf br23)<|r
    rcases aP h with⟨c24,h⟩|⟨c24,h⟩
    ·obtain⟨r26,br26,h⟩:=aJ h
     obtain⟨r27,br27,h⟩:=aJ h
     have p29:=fun{sc F} (r:PS sc F)=>p25<|sg 12 c24<|sv (bu r5 [])<|cW (oJ br26)<|sv (bv e)<|cW (oJ br27)<|r
     rcases aP h with⟨c28,h⟩|⟨c28,h⟩
     ·obtain⟨r30,br30,h⟩:=aJ h
      obtain⟨r31,br31,h⟩:=aJ h
      have p33:=fun{sc F} (r:PS sc F)=>p29<|sg 19 c28<|sv (bu r5 [])<|cW (oI br30)<|sv (bv e)<|cW (oI br31)<|r
      rcases aP h with⟨c32,h⟩|⟨c32,h⟩
      ·obtain⟨r34,br34,h⟩:=aJ h
       obtain⟨r35,br35,h⟩:=aJ h
       have p37:=fun{sc F} (r:PS sc F)=>p33<|sg 26 c32<|sv (bu r5 [])<|cW (nn br34)<|sv (bu r5 [])<|cW (zp br35)<|r
       rcases aP h with⟨c36,h⟩|⟨c36,h⟩
       ·obtain⟨r38,br38,h⟩:=aJ h
        obtain rfl:=lf h
        have z:=p37<|sg 32 c36<|cW (Dc br38)<|en (aI (rP (.bool r38))<|trivial)
        exact cR A5 call5 func5 (c:=b5) rfl (aI (ay e) trivial) z<|by kernel_rfl
       ·obtain rfl:=lf h
        have z:=p37<|sg 32 c36<|en (aI (rP (.bool false))<|trivial)
        exact cR A5 call5 func5 (c:=b5) rfl (aI (ay e) trivial) z<|by kernel_rfl
      ·obtain rfl:=lf h
       have z:=p33<|sg 26 c32<|en (aI (rP (.bool false))<|trivial)
       exact cR A5 call5 func5 (c:=b5) rfl (aI (ay e) trivial) z<|by kernel_rfl
     ·obtain rfl:=lf h
      have z:=p29<|sg 19 c28<|en (aI (rP (.bool false))<|trivial)
      exact cR A5 call5 func5 (c:=b5) rfl (aI (ay e) trivial) z<|by kernel_rfl
    ·obtain rfl:=lf h
     have z:=p25<|sg 12 c24<|en (aI (rP (.bool false))<|trivial)
     exact cR A5 call5 func5 (c:=b5) rfl (aI (ay e) trivial) z<|by kernel_rfl
   ·obtain rfl:=lf h
    have z:=p20<|sg 5 c19<|en (aI (rP (.bool false))<|trivial)
    exact cR A5 call5 func5 (c:=b5) rfl (aI (ay e) trivial) z<|by kernel_rfl
open Go
theorem M8{α β X:Type}(g:α->β)(e:List β->X):∀(l:List α) (i:Nat) (s:List β),CJ (fun _ x (s:List β)=>(Sum.inl (s++[g x]):List β⊕X)) e l i s=e (s++l.map g)
 |[],i,s=>by simp[CJ]
 |x::l,i,s=>by
  unfold CJ
  simp only
  rw[M8 g e l (i+1) (s++[g x])]
  simp
theorem R0{α β τ X:Type}(l:List α)(hl:l.length<9223372036854775808)(mk:Int->List β->τ)(body:τ->Option (τ⊕X))(g:α->β)(e:List β->X)
  (hin:∀(i:Nat) (h:i<l.length) s,s.length=i->body (mk i s)=some (.inl (mk (cp ((i:Int)+1)) (s++[g l[i]])))) (hend:∀s,body (mk l.length s)=some (.inr (e s))):loop body (mk 0 [])=some (e (l.map g)):=by
 have:=DD l hl mk body (fun i s=>s.length=i) (fun _ x s=>.inl (s++[g x])) e (fun i h s hs=>⟨hin i h s hs,fun s' hs'=>by cases hs';simp[hs]⟩) (fun s _=>hend s) 0 [] (va5 _) rfl
 rw[M8]at this
 exact this
mutual
def nP:ax->Nat
 |⟨_,_,_,ks⟩=>nL ks+1
def nL:List ax->Nat
 |[]=>0
 |p::ps=>nP p+nL ps
end
theorem MH(p:ax):nP p=nL p.Kids+1:=by obtain⟨o,n,k,ks⟩:=p;rw[nP];rfl
theorem R8(p:ax):1<=nP p:=by rw[MH];omega
theorem R7:∀{l:List ax} {x:ax},x∈l->nP x<=nL l
 | y :: l,x,h => by
  rw[nL]
  rcases vaE.1 h with rfl|h
  ·omega
  ·have:=R7 h;omega
theorem Lp:∀(l:List ax),l.length<=nL l
 |[]=>by simp[nL]
 |p::l=>by rw[nL];have:=Lp l;have:=R8 p;simp only[vay];omega
theorem Lk{p x:ax}(h:x∈p.Kids):nP x<nP p:=by rw[MH p];have:=R7 h;omega
theorem MB(p:ax):p.Kids.length<nP p:=by rw[MH];have:=Lp p.Kids;omega
theorem Kh:∀(a b:List ax),nL (a++b)=nL a+nL b
 |[],b=>by simp[nL]
 |p::a,b=>by rw[va1,nL,Kh a b,nL];omega
mutual
theorem T8:∀(p:ax),nP p<=iB (aw p)
 |⟨o,n,k,ks⟩=>by
  have:=OV ks
  rw[nP,eC]
  simp only[iB,pm,sl]
  show nL ks+1<=1+(n.length+1+(1+(bM (ks.map aw)+1+0)))
  omega
theorem OV:∀(l:List ax),nL l<=bM (l.map aw)
 |[]=>by simp[nL]
 |p::l=>by
  have:=T8 p
  have:=OV l
  rw[nL]
  simp only[var,bM]
  omega
end
mutual
def Xv:ax->ax->Bool
 |⟨o,n,k,ks⟩,⟨o',n',k',ks'⟩=>(o==o')&&((n==n')&&((k==k')&&UW ks ks'))
def UW:List ax->List ax->Bool
 |[],[]=>true
 |x::xs,y::ys=>Xv x y&&UW xs ys
 |_,_=>false
end
mutual
theorem OE:∀(a b:ax),Xv a b=true↔a=b
 |⟨o,n,k,ks⟩,⟨o',n',k',ks'⟩=>by
  rw[Xv]
  have:=OD ks ks'
  simp only[vae,vaW,this,ax.mk.injEq]
theorem OD:∀(a b:List ax),UW a b=true↔a=b
 |[],[]=>by simp[UW]
 |x::xs,y::ys=>by
  rw[UW]
  have h1:=OE x y
  have h2:=OD xs ys
  simp only[vae,h1,h2,vbA]
 |[],y::ys=>by simp[UW]
 |x::xs,[]=>by simp[UW]
end
instance:DecidableEq ax:=fun a b=>decidable_of_iff _ (OE a b)
theorem PD(p:ax):(⟨p.Op,p.Name,p.N,p.Kids⟩:ax)=p:=by cases p;rfl
theorem Qn{a b:ax}:a=b↔a.Op=b.Op/\a.Name=b.Name/\a.N=b.N/\a.Kids=b.Kids:=by
 cases a;cases b
 simp only[ax.mk.injEq]
 rfl
theorem Pd{α:Type}[DecidableEq α]:∀{a b:List α},a.length=b.length->(a.zip b).any (fun x=>decide (x.1≠x.2))= !decide (a=b)
 |[],[],_=>by simp
 |x::a,y::b,h=>by
  have ih:=Pd (a:=a) (b:=b) (by simpa using h)
  rw[List.zip_cons_cons,List.any_cons,ih]
  by_cases h1:x=y<;>by_cases h2:a=b<;>simp[h1,h2]
theorem zU{α X:Type}[DecidableEq α]{a b:List α}(hl:a.length=b.length)(ha:a.length<9223372036854775808)(body:Int->Option (Int⊕X))(y e:X)
  (hin:∀(i:Nat) (h:i<a.length) (h':i<b.length),body i=some (if decide (a[i]=b[i])=true then .inl (cp ((i:Int)+1))else .inr y)) (hend:body a.length=some (.inr e)):loop body 0=some (if decide (a=b)=true then e else y):=by
 have hz:(a.zip b).length=a.length:=by simp[hl]
 have:=RZ (a.zip b) (by omega) body (fun x=>decide (x.1≠x.2)) y e (fun i h=>?_) (by rw[hz];exact hend) 0 (va5 _)
 ·rw[vcz,Pd hl]at this
  rw[show((0:Nat):Int)=0 from rfl]at this
  rw[this]
  by_cases h:a=b<;>simp[h]
 ·have h1:i<a.length:=by omega
  have h2:i<b.length:=by omega
  rw[hin i h1 h2]
  have hzi:(a.zip b)[i]=(a[i],b[i]):=by simp
  rw[hzi]
  by_cases h:a[i]=b[i]<;>simp[h]
abbrev gZ:Nat:=1073741824
theorem qR{n:Nat}(h:n<=gZ):n<Td:=by have:=UL;unfold gZ at h;omega
theorem M6(a b:ax)(hb:nP b<=gZ):C7 a b=some (decide (a=b)):=by
 refine tw (F:=Cj) (fun x=>nP x.2) (fun x=>nP x.2<=gZ) (fun x=>decide (x.1=x.2)) (fun R x hx ih=>?_) (a,b) hb (qR hb)
 obtain⟨u,v⟩:=x
 have hx:nP v<=gZ:=hx
 show xE (fun a a2=>R (a,a2)) u v=some (decide (u=v))
 unfold xE za
 have hk:=MB v
 by_cases h1:u.Op=v.Op
 ·by_cases h2:u.Name=v.Name
  ·by_cases h3:u.N=v.N
   ·by_cases h4:u.Kids.length=v.Kids.length
    ·rw[vat (by simpa using h1),vat (by simpa using h2),vat (by simpa using h3)]
     simp only[h4,bne_self_eq_false,vaa,if_false,vaV]
     unfold zb
     rw[<-h4,zU h4 (by unfold gZ at hx;omega) _ (.inl ()) (.inr ()) (fun i g1 g2=>?_) ?_]
     ·by_cases he:u.Kids=v.Kids<;>simp[he,Qn (a:=u) (b:=v),h1,h2,h3]
     ·unfold rz
      rw[vat (by simp)]
     ·unfold rz
      rw[vaq (by simp;omega),bY u.Kids i g1]
      simp only[vaa]
      rw[bY v.Kids i g2]
      simp only[vaa]
      have hm:=vaB g2
      rw[ih (u.Kids[i],v.Kids[i]) (Lk hm) (vbK (vaJ (Lk hm) hx))]
      by_cases he:u.Kids[i]=v.Kids[i]<;>simp[he]
    ·have hne:u≠v:=fun e=>h4 (by rw[e])
     rw[vat (by simpa using h1),vat (by simpa using h2),vat (by simpa using h3)]
     have hb:((u.Kids.length:Int)!=(v.Kids.length:Int))=true:=by simp;omega
     simp[hb,hne]
   ·have hne:u≠v:=fun e=>h3 (by rw[e])
    rw[vat (by simpa using h1),vat (by simpa using h2),vaq (by simpa using h3)]
    simp[hne]
  ·have hne:u≠v:=fun e=>h2 (by rw[e])
   rw[vat (by simpa using h1),vaq (by simpa using h2)]
   simp[hne]
 ·have hne:u≠v:=fun e=>h1 (by rw[e])
  rw[vaq (by simpa using h1)]
  simp[hne]
theorem Tu(l:List ax)(i:Nat)(h:i<l.length):nL (l.take (i+1))=nL (l.take i)+nP l[i]:=by
 rw[vaA h,Kh]
 simp[nL]
def Ew{α:Type}(o:Option α)(Q:α->Prop):Prop:=∃a,o=some a/\Q a
section
variable{α β σ τ X Y:Type}
theorem kM{a:α}{Q:α->Prop}(h:Q a):Ew (some a) Q:=⟨a,rfl,h⟩
theorem jj{o:Option α}{f:α->Option β}{R:α->Prop}{Q:β->Prop}(h:Ew o R)(h':∀a,R a->Ew (f a) Q):Ew (o.bind f) Q:=by
 obtain⟨a,rfl,h⟩:=h
 exact h' a h
theorem Ew.mono{o:Option α}{Q R:α->Prop}(h:Ew o Q)(h':∀a,Q a->R a):Ew o R:=by
 obtain⟨a,e,h⟩:=h
 exact⟨a,e,h' a h⟩
theorem IU{F:(X->Option Y)->X->Option Y}(μ:X->Nat)(P:X->Prop)(Q:X->Y->Prop)(h:∀(R:X->Option Y) x,P x->(∀y,μ y<μ x->P y->Ew (R y) (Q y))->Ew (F R x) (Q x))(x:X)(hx:P x)(hm:μ x<Td):Ew (sd F x) (Q x):=by
 have key:∀n x,μ x<n->P x->Ew (Vm F n x) (Q x):=by
  intro n
  induction n with
  |zero=>intro x hx;omega
  |succ n ih=>intro x hx hq;exact h _ x hq fun y hy hqy=>ih y (by omega) hqy
 exact key _ x hm hx
end
section
variable{α β σ τ X Y:Type}
theorem Ke(l:List α)(hl:l.length<=1073741824)(mk:Int->List β->τ)(body:τ->Option (τ⊕X))(h:α->Option β)(g:α->β)(e:List β->X)
  (hb:∀(i:Int) (s:List β),body (mk i s)=if decide (i<(l.length:Int))=true then(gY l i).bind (fun x=>(h x).bind fun r=>(app s ([r]:List β)).bind fun q=>some (.inl (mk (cp (i+1)) q)))else some (.inr (e s)))
  (hg:∀x∈l,h x=some (g x)):loop body (mk 0 [])=some (e (l.map g)):=by
 refine R0 l (by omega) mk body g e (fun i hi s hs=>?_) (fun s=>?_)
 ·rw[hb,vaq (by simp;omega),bY l i hi]
  simp only[vaa]
  rw[hg _ (vaB hi)]
  simp only[vaa]
  rw[j1 (by simp;omega)]
  rfl
 ·rw[hb,vat (by simp)]
end
theorem wO{α:Type}(l:List α)(h:l.length<=1073741824):qQ l=some l:=vaq h
set_option linter.unusedSimpArgs false
theorem PE(t:aj):(⟨t.Op,t.Name,t.Args,t.Names,t.Pred,t.Preds⟩:aj)=t:=by cases t;rfl
mutual
def zS:aj->Nat
 |⟨_,_,xs,ns,_,ps⟩=>j8 xs+ns.length+ps.length+1
def j8:List aj->Nat
 |[]=>0
 |a::xs=>zS a+j8 xs
end
theorem tz(t:aj):zS t=j8 t.Args+t.Names.length+t.Preds.length+1:=by obtain⟨o,n,xs,ns,p,ps⟩:=t;rw[zS];rfl
theorem RX(t:aj):1<=zS t:=by rw[tz];omega
theorem EP:∀{l:List aj} {x:aj},x∈l->zS x<=j8 l
 | y :: l,x,h => by
  rw[j8]
  rcases vaE.1 h with rfl|h
  ·omega
  ·have:=EP h;omega
theorem EO:∀(l:List aj),l.length<=j8 l
 |[]=>by simp[j8]
 |p::l=>by rw[j8];have:=EO l;have:=RX p;simp only[vay];omega
theorem Rl{t a:aj}(h:a∈t.Args):zS a<zS t:=by rw[tz t];have:=EP h;omega
theorem Rm(t:aj):t.Args.length<zS t:=by rw[tz];have:=EO t.Args;omega
theorem PU(t:aj):t.Names.length<zS t:=by rw[tz];omega
theorem Qb(t:aj):t.Preds.length<zS t:=by rw[tz];omega
mutual
def KQ(Q:ax->Prop):aj->Prop
 |⟨_,_,xs,_,p,ps⟩=>Q p/\(∀q∈ps,Q q)/\FH Q xs
def FH(Q:ax->Prop):List aj->Prop
 |[]=>True
 |a::xs=>KQ Q a/\FH Q xs
end
theorem HE(Q:ax->Prop)(t:aj):KQ Q t↔Q t.Pred/\(∀q∈t.Preds,Q q)/\FH Q t.Args:=by obtain⟨o,n,xs,ns,p,ps⟩:=t;rw[KQ];rfl
theorem JM(Q:ax->Prop):∀(l:List aj),FH Q l↔∀t∈l,KQ Q t
 |[]=>by simp[FH]
 |a::l=>by rw[FH,JM Q l];simp
theorem QQ{Q:ax->Prop}{t a:aj}(h:KQ Q t)(ha:a∈t.Args):KQ Q a:=(JM Q _).1 ((HE Q t).1 h).2.2 a ha
theorem T7(l:List ax):l.length<=bM (l.map aw):=by
 have:=Lp l
 have:=OV l
 omega
theorem OO(l:List ag):l.length<=bM (l.map cS):=by
 have h:=MU (l.map cS) (fun x hx=>by
  obtain⟨s,_,rfl⟩:=vag.1 hx
  simp only[cS,iB,pm];omega)
 rwa[va8]at h
theorem Aa(t:aj):iB (ai t)=1+(pm (.str t.Name)+(pm (sl ai t.Args)+(pm (sl cS t.Names)+(1+(pm (.str t.Pred.Name)+(1+(pm (sl aw t.Pred.Kids)+(pm (sl aw t.Preds)+0)))))))):=by
 rw[dW];rfl
mutual
theorem OP:∀(t:aj),zS t<=iB (ai t)
 |⟨o,n,xs,ns,p,ps⟩=>by
  have h1:=H6 xs
  have h2:=T7 ps
  have h3:=OO ns
  rw[zS,Aa]
  show _<=1+(pm (.str n)+(pm (sl ai xs)+(pm (sl cS ns)+(1+(pm (.str p.Name)+(1+(pm (sl aw p.Kids)+(pm (sl aw ps)+0))))))))
  simp only[pm,sl]
  omega
theorem H6:∀(l:List aj),j8 l<=bM (l.map ai)
 |[]=>by simp[j8]
 |a::l=>by
  have:=OP a
  have:=H6 l
  rw[j8]
  simp only[var,bM]
  omega
end
theorem TI(t:aj):nP t.Pred<=iB (ai t):=by
 have h:=OV t.Pred.Kids
 rw[MH,Aa]
 simp only[pm,sl]
 omega
mutual
theorem Oo(B:Nat):∀(t:aj),iB (ai t)<=B->KQ (fun p=>nP p<=B) t
 |⟨o,n,xs,ns,p,ps⟩,h=>by
  have h0:=TI ⟨o,n,xs,ns,p,ps⟩
  rw[Aa]at h h0
  have h:1+(pm (.str n)+(pm (sl ai xs)+(pm (sl cS ns)+(1+(pm (.str p.Name)+(1+(pm (sl aw p.Kids)+(pm (sl aw ps)+0))))))))<=B:=h
  have h0:nP p<=1+(pm (.str n)+(pm (sl ai xs)+(pm (sl cS ns)+(1+(pm (.str p.Name)+(1+(pm (sl aw p.Kids)+(pm (sl aw ps)+0)))))))):=h0
  simp only[pm,sl]at h h0
  rw[KQ]
  refine⟨by omega,fun q hq=>?_,L4 B xs (by omega)⟩
  have h1:=T8 q
  have h2:=DX (vag.2 ⟨q,hq,rfl⟩:aw q∈ps.map aw)
  omega
theorem L4(B:Nat):∀(l:List aj),bM (l.map ai)<=B->FH (fun p=>nP p<=B) l
 |[],_=>trivial
 |a::xs,h=>by
  simp only[var,bM]at h
  rw[FH]
  exact⟨Oo B a (by omega),L4 B xs (by omega)⟩
end
theorem J2(e:af):(⟨e.Op,e.Name,e.N,e.Kids,e.Params,e.Alts,e.Types⟩:af)=e:=by obtain⟨o,n,k,ks,ps,as1,ts⟩:=e;rfl
mutual
def nE:af->Nat
 |⟨_,_,_,ks,ps,as1,ts⟩=>tQ ks+va as1+ps.length+ts.length+1
def nA:aH->Nat
 |⟨_,ns,b⟩=>ns.length+nE b+1
def tQ:List af->Nat
 |[]=>0
 |e::l=>nE e+tQ l
def va:List aH->Nat
 |[]=>0
 |a::l=>nA a+va l
end
theorem wZ(e:af):nE e=tQ e.Kids+va e.Alts+e.Params.length+e.Types.length+1:=by obtain⟨o,n,k,ks,ps,as1,ts⟩:=e;rw[nE];rfl
theorem F0(a:aH):nA a=a.Names.length+nE a.Body+1:=by obtain⟨c,ns,b⟩:=a;rw[nA];rfl
theorem Lo(e:af):1<=nE e:=by rw[wZ];omega
theorem Ln:∀{l:List af} {x:af},x∈l->nE x<=tQ l
 | y :: l,x,h => by
  rw[tQ]
  rcases vaE.1 h with rfl|h
  ·omega
  ·have:=Ln h;omega
theorem Hd:∀{l:List aH} {x:aH},x∈l->nA x<=va l
 | y :: l,x,h => by
  rw[va]
  rcases vaE.1 h with rfl|h
  ·omega
  ·have:=Hd h;omega
theorem DG:∀(l:List af),l.length<=tQ l
 |[]=>by simp[tQ]
 |p::l=>by rw[tQ];have:=DG l;have:=Lo p;simp only[vay];omega
theorem DF:∀(l:List aH),l.length<=va l
 |[]=>by simp[va]
 |p::l=>by rw[va];have:=DF l;have:=F0 p;simp only[vay];omega
theorem AP{e x:af}(h:x∈e.Kids):nE x<nE e:=by rw[wZ e];have:=Ln h;omega
theorem AG{e:af}{x:aH}(h:x∈e.Alts):nE x.Body<nE e:=by rw[wZ e];have:=Hd h;have:=F0 x;omega
theorem EN(e:af):e.Kids.length<nE e:=by rw[wZ];have:=DG e.Kids;omega
theorem AH(e:af):e.Alts.length<nE e:=by rw[wZ];have:=DF e.Alts;omega
theorem MO(e:af):e.Params.length<nE e:=by rw[wZ];omega
theorem Oh(e:af):e.Types.length<nE e:=by rw[wZ];omega
theorem Pn{e:af}{x:aH}(h:x∈e.Alts):x.Names.length<nE e:=by rw[wZ];have:=Hd h;have:=F0 x;omega
def iD(e:af):List af:=e.Kids++e.Alts.map (·.Body)
theorem KY{e x:af}(h:x∈iD e):nE x<nE e:=by
 rcases vaw.1 h with h|h
 ·exact AP h
 ·obtain⟨a,ha,rfl⟩:=vag.1 h
  exact AG ha
theorem LO:∀(l:List af) (m:List aH),((l++m.map (·.Body)).map nE).sum<=tQ l+va m
 |[],[]=>by simp
 |[],a::m=>by
  have:=LO [] m
  have:=F0 a
  simp only[tQ,va,vbj,var,List.sum_cons]at *
  omega
 |x::l,m=>by
  have:=LO l m
  simp only[tQ,va1,var,List.sum_cons]at *
  omega
theorem OL{Q:af->Prop}(h:∀e,(∀x∈iD e,Q x)->Q e):∀e,Q e:=by
 have key:∀(n:Nat) (e:af),nE e<=n->Q e:=by
  intro n
  induction n with
  |zero=>intro e he;have:=Lo e;omega
  |succ n ih=>exact fun e he=>h e fun x hx=>ih x (by have:=KY hx;omega)
 exact fun e=>key _ e (vam _)
mutual
def eP:af->List af
 |⟨o,n,k,ks,ps,as1,ts⟩=>⟨o,n,k,ks,ps,as1,ts⟩::(ya ks++xZ as1)
def CB:aH->List af
 |⟨_,_,b⟩=>eP b
def ya:List af->List af
 |[]=>[]
 |e::l=>eP e++ya l
def xZ:List aH->List af
 |[]=>[]
 |a::l=>CB a++xZ l
end
theorem F6:∀(l:List af),ya l=l.flatMap eP
 |[]=>by rw[ya];rfl
 |e::l=>by rw[ya,F6 l];rfl
theorem PV(a:aH):CB a=eP a.Body:=by obtain⟨c,ns,b⟩:=a;rw[CB];rfl
theorem F5:∀(l:List aH),xZ l=(l.map (·.Body)).flatMap eP
 |[]=>by rw[xZ];rfl
 |a::l=>by rw[xZ,F5 l,PV];rfl
theorem AT(e:af):eP e=e::(iD e).flatMap eP:=by
 obtain⟨o,n,k,ks,ps,as1,ts⟩:=e
 rw[eP,F6,F5,iD,vcC]
 rfl
theorem Tw:∀(e:af),(eP e).length<=nE e:=by
 refine OL fun e ih=>?_
 rw[AT,vay,List.length_flatMap]
 have h1:=LO e.Kids e.Alts
 have h2:((iD e).map fun x=>(eP x).length).sum<=((iD e).map nE).sum:=by
  have:∀(l:List af),(∀x∈l,(eP x).length<=nE x)->(l.map fun x=>(eP x).length).sum<=(l.map nE).sum:=by
   intro l
   induction l with
   |nil=>intro _;simp
   |cons x l ihl=>
    intro hx
    have a:=hx x (by simp)
    have b:=ihl fun y hy=>hx y (by simp[hy])
    simp only[var,List.sum_cons];omega
  exact this _ ih
 have h3:=wZ e
 unfold iD at *
 omega
mutual
def dE:af->Nat
 |⟨_,_,_,ks,_,as1,_⟩=>max (AM ks) (SM as1)+1
def dA:aH->Nat
 |⟨_,_,b⟩=>dE b
def AM:List af->Nat
 |[]=>0
 |e::l=>max (dE e) (AM l)
def SM:List aH->Nat
 |[]=>0
 |a::l=>max (dA a) (SM l)
end
theorem Wf(a:aH):dA a=dE a.Body:=by obtain⟨c,ns,b⟩:=a;rw[dA];rfl
theorem Wg(e:af):dE e=max (AM e.Kids) (SM e.Alts)+1:=by obtain⟨o,n,k,ks,ps,as1,ts⟩:=e;rw[dE];rfl
theorem xS:∀(a b:List af),AM (a++b)=max (AM a) (AM b)
 |[],b=>by simp[AM]
 |x::a,b=>by rw[va1,AM,AM,xS a b];omega
theorem RA:∀(l:List aH),SM l=AM (l.map (·.Body))
 |[]=>by rw[SM,vbP,AM]
 |a::l=>by rw[SM,var,AM,Wf,RA l]
theorem J1(e:af):dE e=AM (iD e)+1:=by rw[Wg,iD,xS,RA]
theorem RB{n:Nat}:∀{l:List af},(∀x∈l,dE x<=n)->AM l<=n
 |[],_=>by simp[AM]
 |x::l,h=>by
  have a:=h x (by simp)
  have b:=RB (l:=l) fun y hy=>h y (by simp[hy])
  rw[AM];omega
theorem Wh:∀(e:af),dE e<=nE e:=by
 refine OL fun e ih=>?_
 rw[J1]
 have:AM (iD e)<=nE e - 1:=RB fun x hx=>by have:=ih x hx;have:=KY hx;omega
 have:=Lo e
 omega
theorem RC{X Y:Type}{F:(X->Option Y)->X->Option Y}(μ:X->Nat)(Q:X->Prop)(s:X->Option Y)(h:∀(R:X->Option Y) x,Q x->(∀y,μ y<μ x->Q y->R y=s y)->F R x=s x)(x:X)(hx:Q x)(hm:μ x<Td):sd F x=s x:=by
 have key:∀n x,μ x<n->Q x->Vm F n x=s x:=by
  intro n
  induction n with
  |zero=>intro x hx;omega
  |succ n ih=>intro x hx hq;exact h _ x hq fun y hy hqy=>ih y (by omega) hqy
 exact key _ x hm hx
def y4{α S:Type}(F:S->α->Option (Bool×S)):List α->S->Option (Bool×S)
 |[],s=>some (true,s)
 |x::l,s=>(F s x).bind fun r=>match r.1 with
  |false=>some (false,r.2)
  |true=>y4 F l r.2
theorem Cs{α S:Type}(F:S->α->Option (Bool×S)):∀(l m:List α) (s:S),y4 F (l++m) s=(y4 F l s).bind fun r=>match r.1 with
  |false=>some (false,r.2)
  |true=>y4 F m r.2
 |[],m,s=>rfl
 | x :: l,m,s => by
  rw[va1,y4,y4]
  cases h:F s x with
  |none=>rfl
  |some r=>
   obtain⟨b,s'⟩:=r
   cases b with
   |false=>rfl
   |true=>exact Cs F l m s'
theorem J5{α S:Type}{F G:S->α->Option (Bool×S)}:∀{l:List α},(∀x∈l,∀s,F s x=G s x)->∀s,y4 F l s=y4 G l s
 |[],_,s=>rfl
 |x::l,h,s=>by
  rw[y4,y4,h x (by simp)]
  congr 1
  funext r
  rw[J5 (l:=l) fun y hy=>h y (by simp[hy])]
theorem OJ{α β S:Type}(F:S->β->Option (Bool×S))(g:α->β):∀(l:List α) (s:S),y4 F (l.map g) s=y4 (fun s x=>F s (g x)) l s
 |[],s=>rfl
 |x::l,s=>by
  rw[var,y4,y4]
  congr 1
  funext r
  rw[OJ F g l]
theorem Ms{α β S:Type}(F:S->β->Option (Bool×S))(g:α->List β):∀(l:List α) (s:S),y4 F (l.flatMap g) s=y4 (fun s x=>y4 F (g x) s) l s
 |[],s=>rfl
 |x::l,s=>by
  rw[vbM,Cs,y4]
  congr 1
  funext r
  rw[Ms F g l]
theorem J6{α S:Type}{F:S->α->Option (Bool×S)}(f:S->α->S):∀(l:List α) (s:S),(∀x∈l,∀s,F s x=some (true,f s x))->y4 F l s=some (true,l.foldl f s)
 |[],s,_=>rfl
 |x::l,s,h=>by
  rw[y4,h x (by simp)]
  exact J6 f l _ fun y hy=>h y (by simp[hy])
theorem OR{α S:Type}(l:List α)(hl:l.length<9223372036854775808)(body:Int×S->Option ((Int×S)⊕(S⊕S)))(F:S->α->Option (Bool×S))
  (hin:∀(i:Nat) (h:i<l.length) s,body ((i:Int),s)=(F s l[i]).bind fun r=>match r.1 with|false=>some (.inr (.inl r.2))|true=>some (.inl (cp ((i:Int)+1),r.2)))
  (hend:∀s,body ((l.length:Int),s)=some (.inr (.inr s))) (s:S):loop body (0,s)=(y4 F l s).bind fun r=>match r.1 with|false=>some (.inl r.2)|true=>some (.inr r.2):=by
 have key:∀(k i:Nat) (s:S),i+k=l.length->loop body ((i:Int),s)=(y4 F (l.drop i) s).bind fun r=>match r.1 with|false=>some (.inl r.2)|true=>some (.inr r.2):=by
  intro k
  induction k with
  |zero=>
   intro i s hi
   have:i=l.length:=by omega
   subst this
   rw[tC,hend,vcL]
   rfl
  | succ k ih =>
   intro i s hi
   have hlt:i<l.length:=by omega
   rw[tC,hin i hlt,vbz hlt,y4]
   cases hF:F s l[i]with
   |none=>rfl
   | some r =>
    obtain⟨b,s'⟩:=r
    cases b with
    |false=>rfl
    |true=>
     have:=ih (i+1) s' (by omega)
     simp only[vaa]
     rw[co (by omega) (by omega),show((i:Int)+1)=((i+1:Nat):Int) by omega]
     exact this
 have:=key l.length 0 s (by omega)
 exact this
theorem Pc{S:Type}{F:(af×S->Option (Bool×S))->af×S->Option (Bool×S)}(step:S->af->Option (Bool×S))
  (hF:∀(R:af×S->Option (Bool×S)) e s,nE e<=gZ->F R (e,s)=(step s e).bind fun r=>match r.1 with
   |false=>some (false,r.2)
   |true=>y4 (fun s x=>R (x,s)) (iD e) r.2) (e:af) (s:S) (he:nE e<=gZ):sd F (e,s)=y4 step (eP e) s:=by
 refine RC (fun x=>nE x.1) (fun x=>nE x.1<=gZ) (fun x=>y4 step (eP x.1) x.2) (fun R x hx ih=>?_) (e,s) he (qR he)
 obtain⟨e,s⟩:=x
 show F R (e,s)=y4 step (eP e) s
 rw[hF R e s hx,AT,y4]
 congr 1
 funext r
 cases r.1 with
 |false=>rfl
 |true=>
  rw[Ms]
  refine J5 (fun x hx2 s=>?_) r.2
  have:=KY hx2
  exact ih (x,s) this (vaC (vbK this) hx)
theorem KD{S:Type}(W:S->af->Option (Bool×S))(e:af)(he:nE e<=gZ)(s:S)(b1 b2:Int×S->Option ((Int×S)⊕(S⊕S))){k1 k2:S⊕S->Option (Bool×S)}
  (h1:∀(i:Nat) (h:i<e.Kids.length) s,b1 ((i:Int),s)=(W s e.Kids[i]).bind fun r=>if(!r.1)=true then some (.inr (.inl r.2))else some (.inl (cp ((i:Int)+1),r.2))) (h1e:∀s,b1 ((e.Kids.length:Int),s)=some (.inr (.inr s)))
  (h2:∀(i:Nat) (h:i<e.Alts.length) s,b2 ((i:Int),s)=(W s e.Alts[i].Body).bind fun r=>if(!r.1)=true then some (.inr (.inl r.2))else some (.inl (cp ((i:Int)+1),r.2))) (h2e:∀s,b2 ((e.Alts.length:Int),s)=some (.inr (.inr s)))
  (g1:∀o,k1 (.inl o)=some (false,o)) (g2:∀o,k1 (.inr o)=(loop b2 (0,o)).bind k2) (g3:∀o,k2 (.inl o)=some (false,o)) (g4:∀o,k2 (.inr o)=some (true,o)):
  (loop b1 (0,s)).bind k1=y4 W (iD e) s:=by
 have l1:=EN e
 have l2:=AH e
 unfold gZ at he
 rw[OR e.Kids (by omega) b1 W (fun i h s=>by rw[h1 i h s];congr 1;funext r;cases r.1<;>rfl) h1e s,iD,Cs]
 cases h:y4 W e.Kids s with
 |none=>rfl
 | some r =>
  obtain⟨b,s'⟩:=r
  cases b with
  |false=>exact g1 s'
  | true =>
   simp only[vaa]
   rw[g2,OR e.Alts (by omega) b2 (fun s a=>W s a.Body) (fun i h s=>by rw[h2 i h s];congr 1;funext r;cases r.1<;>rfl) h2e s',OJ]
   cases h:y4 (fun s a=>W s a.Body) e.Alts s' with
   |none=>rfl
   |some r=>
    obtain⟨b,s''⟩:=r
    cases b with
    |false=>exact g3 s''
    |true=>exact g4 s''
theorem eG{σ X:Type}(n:Nat)(body:σ->Option (σ⊕X))(S:Nat->σ)(e:X)(hin:∀i,i<n->body (S i)=some (.inl (S (i+1))))(hend:body (S n)=some (.inr e)):loop body (S 0)=some e:=by
 have key:∀k i,k+i=n->loop body (S i)=some e:=by
  intro k
  induction k with
  |zero=>
   intro i hi
   have:i=n:=by omega
   subst this
   exact tP hend
  |succ k ih=>
   intro i hi
   rw[wW (hin i (by omega))]
   exact ih (i+1) (by omega)
 exact key n 0 (by omega)
theorem G5(e:af)(s:Int)(he:nE e<=gZ):nN e s=y4 (fun s x=>jb x s) (eP e) s:=by
 refine Pc (F:=me) (fun s x=>jb x s) (fun R e s he=>?_) e s he
 show jl (fun e k=>R (e,k)) e s=_
 unfold jl
 congr 1
 funext r
 obtain⟨b,s'⟩:=r
 cases b with
 |false=>rfl
 | true =>
  rw[vat (show ¬((!(true,s').1)=true) by simp)]
  refine KD (fun s x=>R (x,s)) e he s' (fun zz=>dc (fun e k=>R (e,k)) e.Kids e.Kids.length zz.1 zz.2) (fun zz=>df (fun e k=>R (e,k)) e.Alts e.Alts.length zz.1 zz.2) (fun i h s=>?_) (fun s=>?_) (fun i h s=>?_) (fun s=>?_) (fun _=>rfl) (fun _=>rfl) (fun _=>rfl) (fun _=>rfl)
  ·show dc (fun e k=>R (e,k)) e.Kids e.Kids.length i s=_
   unfold dc
   rw[vaq (by simpa using h),bY _ _ h];rfl
  ·show dc (fun e k=>R (e,k)) e.Kids e.Kids.length e.Kids.length s=_
   unfold dc
   rw[vat (by simp)]
  ·show df (fun e k=>R (e,k)) e.Alts e.Alts.length i s=_
   unfold df
   rw[vaq (by simpa using h),bY _ _ h];rfl
  ·show df (fun e k=>R (e,k)) e.Alts e.Alts.length e.Alts.length s=_
   unfold df
   rw[vat (by simp)]
theorem IZ(e:af)(s:List (ag×Bool))(he:nE e<=gZ):oX e s=y4 (fun s x=>lY x s) (eP e) s:=by
 refine Pc (F:=mZ) (fun s x=>lY x s) (fun R e s he=>?_) e s he
 show jW (fun e k=>R (e,k)) e s=_
 unfold jW
 congr 1
 funext r
 obtain⟨b,s'⟩:=r
 cases b with
 |false=>rfl
 | true =>
  rw[vat (show ¬((!(true,s').1)=true) by simp)]
  refine KD (fun s x=>R (x,s)) e he s' (fun zz=>dw (fun e k=>R (e,k)) e.Kids e.Kids.length zz.1 zz.2) (fun zz=>dz (fun e k=>R (e,k)) e.Alts e.Alts.length zz.1 zz.2) (fun i h s=>?_) (fun s=>?_) (fun i h s=>?_) (fun s=>?_) (fun _=>rfl) (fun _=>rfl) (fun _=>rfl) (fun _=>rfl)
  ·show dw (fun e k=>R (e,k)) e.Kids e.Kids.length i s=_
   unfold dw
   rw[vaq (by simpa using h),bY _ _ h];rfl
  ·show dw (fun e k=>R (e,k)) e.Kids e.Kids.length e.Kids.length s=_
   unfold dw
   rw[vat (by simp)]
  ·show dz (fun e k=>R (e,k)) e.Alts e.Alts.length i s=_
   unfold dz
   rw[vaq (by simpa using h),bY _ _ h];rfl
  ·show dz (fun e k=>R (e,k)) e.Alts e.Alts.length e.Alts.length s=_
   unfold dz
   rw[vat (by simp)]
theorem LY(e:af)(he:nE e<=gZ):kX e=some ((eP e).length:Int):=by
 have hB:nE e<=1073741824:=he
 have hn:=Tw e
 have key:∀(l:List af) (k:Nat),k+l.length<=1073741824->y4 (fun s x=>jb x s) l (k:Int)=some (true,((k+l.length:Nat):Int)):=by
  intro l
  induction l with
  |nil=>intro k _;rfl
  | cons x l ih =>
   intro k hk
   simp only[vay]at hk
   have e1:jb x (k:Int)=some (true,((k+1:Nat):Int)):=by
    unfold jb
    rw[co (by omega) (by omega)];rfl
   rw[y4,e1]
   show y4 _ l ((k+1:Nat):Int)=_
   rw[ih (k+1) (by omega)]
   simp only[vay]
   congr 3;omega
 unfold kX
 rw[G5 e 0 he]
 have:=key (eP e) 0 (by omega)
 rw[vaM]at this
 rw[show(0:Int)=((0:Nat):Int)from rfl,this];rfl
theorem Mj(l:List af)(i:Nat)(h:i<l.length):AM (l.take (i+1))=max (AM (l.take i)) (dE l[i]):=by
 rw[vaA h,xS];simp[AM]
theorem OS(a b:Nat):(if(b:Int)>(a:Int)then(b:Int)else(a:Int))=((max a b:Nat):Int):=by
 by_cases h:(b:Int)>(a:Int)
 ·rw[vaq h];congr 1;omega
 ·rw[vat h];congr 1;omega
theorem LX(e:af)(he:nE e<=gZ):nl e=some (dE e:Int):=by
 have hB:nE e<=1073741824:=he
 refine tw (F:=uP) nE (fun x=>nE x<=gZ) (fun x=>(dE x:Int)) (fun R e he ih=>?_) e he (qR he)
 have hB:nE e<=1073741824:=he
 show qb (fun e=>R e) e=_
 unfold qb
 have hk:=EN e
 have ha:=AH e
 have hd:=Wh e
 have h:=eG e.Kids.length (fun zz:Int×Int=>fP (fun e=>R e) e.Kids (e.Kids.length:Int) zz.1 zz.2) (fun i=>((AM (e.Kids.take i):Int),(i:Int))) (AM e.Kids:Int) (fun i hi=>?_) ?_
 ·have h':oG (fun e=>R e) e.Kids (e.Kids.length:Int) 0 0=some (AM e.Kids:Int):=by unfold oG;simpa[AM]using h
  rw[h',vaa]
  have g:=eG e.Alts.length (fun zz:Int×Int=>fQ (fun e=>R e) e.Alts (e.Alts.length:Int) zz.1 zz.2) (fun i=>(((max (AM e.Kids) (AM ((e.Alts.map (·.Body)).take i)):Nat):Int),(i:Int))) ((AM (iD e):Nat):Int) (fun i hi=>?_) ?_
  ·have g':oH (fun e=>R e) e.Alts (e.Alts.length:Int) (AM e.Kids:Int) 0=some (AM (iD e):Int):=by unfold oH;simpa[AM]using g
   have e1:=J1 e
   rw[g',vaa,co (by omega) (by omega),e1];rfl
  ·show fQ (fun e=>R e) e.Alts (e.Alts.length:Int) _ (i:Int)=_
   unfold fQ
   have hm:e.Alts[i]∈e.Alts:=vaB hi
   have hlt:=AG hm
   have hi':i<(e.Alts.map (·.Body)).length:=by simpa using hi
   rw[vaq (by simpa using hi),bY _ _ hi,vaa]
   show(R _).bind _=_
   rw[ih _ hlt (by unfold gZ;omega),vaa]
   dsimp only
   rw[co (by omega) (by omega),OS,Mj _ _ hi',vcK,Nat.max_assoc]
   rfl
  ·show fQ (fun e=>R e) e.Alts (e.Alts.length:Int) _ (e.Alts.length:Int)=_
   unfold fQ
   rw[vat (by simp),iD,xS,List.take_of_length_le (by simp)]
 ·show fP (fun e=>R e) e.Kids (e.Kids.length:Int) _ (i:Int)=_
  unfold fP
  have hm:e.Kids[i]∈e.Kids:=vaB hi
  have hlt:=AP hm
  rw[vaq (by simpa using hi),bY _ _ hi,vaa]
  show(R _).bind _=_
  rw[ih _ hlt (by unfold gZ;omega),vaa]
  dsimp only
  rw[co (by omega) (by omega),OS,Mj _ _ hi]
  rfl
 ·show fP (fun e=>R e) e.Kids (e.Kids.length:Int) _ (e.Kids.length:Int)=_
  unfold fP
  rw[vat (by simp),vaP]
noncomputable instance decT:DecidableEq aj:=fun a b=>Classical.propDecidable _
noncomputable instance decE:DecidableEq af:=fun a b=>Classical.propDecidable _
noncomputable instance decA:DecidableEq aH:=fun a b=>Classical.propDecidable _
noncomputable instance decQ:DecidableEq av:=fun a b=>Classical.propDecidable _
theorem VJ{a b:Bool}:(if a=true then some b else some false)=some (a&&b):=by cases a<;>rfl
theorem Wv{a b:Bool}:(if a=true then some true else some b)=some (a||b):=by cases a<;>rfl
theorem K5{α:Type}[DecidableEq α]{a b:List α}(ha:a.length<=gZ)(body:Int->Option (Int⊕(Unit⊕Unit)))
  (hin:∀(i:Nat) (h1:i<a.length) (h2:i<b.length),body (i:Int)=some (if decide (a[i]=b[i])=true then .inl (cp ((i:Int)+1))else .inr (.inl ()))) (hend:body (a.length:Int)=some (.inr (.inr ()))) {k:Unit⊕Unit->Option Bool} (g1:k (.inl ())=some false) (g2:k (.inr ())=some true):
  (if((a.length:Int)!=(b.length:Int))=true then some false else(loop body 0).bind k)=some (decide (a=b)):=by
 by_cases hl:a.length=b.length
 ·rw[vat (by simp[hl]),zU hl (by unfold gZ at ha;omega) body (.inl ()) (.inr ()) hin hend]
  by_cases he:a=b
  ·simp only[he,decide_true,if_true,vaa];exact g2
  ·simp only[he,decide_false,vaV,if_false,vaa];exact g1
 ·rw[vaq (by simp;omega),decide_eq_false (fun he=>hl (by rw[he]))]
theorem A7{a b:List ag}(ha:a.length<=gZ):iH a b=some (decide (a=b)):=by
 unfold iH qN
 refine K5 ha _ (fun i h1 h2=>?_) ?_ rfl rfl
 ·show gp a b (i:Int)=_
  unfold gp
  rw[vaq (by simpa using h1),bY a i h1]
  simp only[vaa]
  rw[bY b i h2]
  simp only[vaa]
  by_cases he:a[i]=b[i]<;>simp[he]
 ·show gp a b (a.length:Int)=_
  unfold gp
  rw[vat (by simp)]
theorem Ku{R:aj->aj->Option Bool}{a b:List aj}(ha:a.length<=gZ)(h:∀x∈a,∀y∈b,R x y=some (decide (x=y))):nV R a b=some (decide (a=b)):=by
 unfold nV qO
 refine K5 ha _ (fun i h1 h2=>?_) ?_ rfl rfl
 ·show gr R a b (i:Int)=_
  unfold gr
  rw[vaq (by simpa using h1),bY a i h1]
  simp only[vaa]
  rw[bY b i h2]
  simp only[vaa]
  rw[h _ (vaB h1) _ (vaB h2)]
  simp only[vaa]
  by_cases he:a[i]=b[i]<;>simp[he]
 ·show gr R a b (a.length:Int)=_
  unfold gr
  rw[vat (by simp)]
theorem Ba{a b:aj}:a=b↔a.Op=b.Op/\a.Name=b.Name/\a.Names=b.Names/\a.Pred=b.Pred/\a.Preds=b.Preds/\a.Args=b.Args:=by
 obtain⟨o,n,xs,ns,p,ps⟩:=a
 obtain⟨o',n',xs',ns',p',ps'⟩:=b
 constructor
 ·rintro h;cases h;exact⟨rfl,rfl,rfl,rfl,rfl,rfl⟩
 ·rintro⟨h1,h2,h3,h4,h5,h6⟩
  cases h1;cases h2;cases h3;cases h4;cases h5;cases h6;rfl
abbrev Lu(t:aj):Prop:=zS t<=gZ/\KQ (fun p=>nP p<=gZ) t
theorem Hf{t a:aj}(h:Lu t)(ha:a∈t.Args):Lu a:=⟨vaC (vbK (Rl ha)) h.1,QQ h.2 ha⟩
theorem Kx(a b:aj)(ha:Lu a)(hb:Lu b):nb a b=some (decide (a=b)):=by
 refine tw (F:=tW) (fun x=>zS x.1) (fun x=>Lu x.1/\Lu x.2) (fun x=>decide (x.1=x.2)) (fun R x hx ih=>?_) (a,b) ⟨ha,hb⟩ (qR ha.1)
 obtain⟨u,v⟩:=x
 obtain⟨hu,hv⟩:Lu u/\Lu v:=hx
 obtain⟨q1,q2,_⟩:=(HE _ v).1 hv.2
 have l1:=Rm u
 have l2:=PU u
 have l3:=Qb u
 have l0:=hu.1
 show pz (fun a a2=>R (a,a2)) u v=some (decide (u=v))
 unfold pz sH
 rw[A7 (by omega),M6 _ _ q1,Ku (R:=fun a a2=>R (a,a2)) (a:=u.Args) (b:=v.Args) (by omega) (fun x hx y hy=>ih (x,y) (Rl hx) ⟨Hf hu hx,Hf hv hy⟩)]
 simp only[vaa,Wv]
 by_cases hl:u.Preds.length=v.Preds.length
 ·unfold sI
  rw[zU hl (by unfold gZ at l0;omega) (fun zz=>fH u v zz) (.inl ()) (.inr ()) (fun i h1 h2=>?_) ?_]
  ·by_cases h5:u.Preds=v.Preds
   ·simp only[h5,decide_true,if_true,vaa]
    by_cases h0:(u.Op !=v.Op||(!(u.Name==v.Name)||(!decide (u.Names=v.Names)||(!decide (u.Pred=v.Pred)||((v.Preds.length:Int)!=(v.Preds.length:Int))))))=true
    ·rw[vaq h0]
     congr 1;symm
     rw[va3,Ba]
     rintro⟨e1,e2,e3,e4,_⟩
     simp[e1,e2,e3,e4]at h0
    ·rw[vat h0]
     congr 1
     simp only[vaY,not_or,vaT,bne_iff_ne,ne_eq,Decidable.not_not,vcG,vaW,vak]at h0
     obtain⟨e1,e2,e3,e4,_⟩:=h0
     rw[Bool.eq_iff_iff]
     simp[Ba (a:=u) (b:=v),e1,e2,e3,e4,h5]
   ·simp only[h5,decide_false,vaV,if_false,vaa,ite_self]
    congr 1;symm
    rw[va3,Ba]
    rintro⟨_,_,_,_,e5,_⟩
    exact h5 e5
  ·show fH u v (u.Preds.length:Int)=_
   unfold fH
   rw[vat (by simp)]
  ·show fH u v (i:Int)=_
   unfold fH
   rw[vaq (by simpa using h1),bY _ i h1]
   simp only[vaa]
   rw[bY _ i h2]
   simp only[vaa]
   rw[M6 _ _ (q2 _ (vaB h2))]
   simp only[vaa]
   by_cases he:u.Preds[i]=v.Preds[i]<;>simp[he]
 ·have hx:((u.Preds.length:Int)!=(v.Preds.length:Int))=true:=by simp;omega
  rw[vaq (by simp[hx])]
  congr 1;symm
  rw[va3,Ba]
  rintro⟨_,_,_,_,e5,_⟩
  exact hl (by rw[e5])
mutual
def wT:aj->Nat
 |⟨_,_,xs,_,p,ps⟩=>nP p+nL ps+Nh xs
def Nh:List aj->Nat
 |[]=>0
 |a::xs=>wT a+Nh xs
end
theorem WH(t:aj):wT t=nP t.Pred+nL t.Preds+Nh t.Args:=by obtain⟨o,n,xs,ns,p,ps⟩:=t;rw[wT];rfl
theorem SI(l:List aj)(i:Nat)(h:i<l.length):Nh (l.take (i+1))=Nh (l.take i)+wT l[i]:=by
 have key:∀(a b:List aj),Nh (a++b)=Nh a+Nh b:=by
  intro a b
  induction a with
  |nil=>simp[Nh]
  |cons x a ih=>rw[va1,Nh,Nh,ih];omega
 rw[vaA h,key]
 simp[Nh]
theorem EL{α:Type}{l:List α}{i:Nat}{n most:Int}(h:i<l.length)(hm:n<=most):(if(decide ((i:Int)<(l.length:Int)))=true then some (decide (n<=most))else some false)=some true:=by
 rw[vaq (by simp;omega),decide_eq_true hm]
theorem AK{α:Type}{l:List α}{i:Nat}{n most:Int}(h:i=l.length\/¬n<=most):(if(decide ((i:Int)<(l.length:Int)))=true then some (decide (n<=most))else some false)=some false:=by
 by_cases hi:i<l.length
 ·rw[vaq (by simp;omega)]
  rcases h with h|h
  ·omega
  ·rw[decide_eq_false h]
 ·rw[vat (by simp;omega)]
theorem Bb{α:Type}(l:List α)(hl:l.length<9223372036854775808){body:Int×Int->Option ((Int×Int)⊕Int)}(most:Int)(I:Nat->Int->Prop)
  (hin:∀(i:Nat) (h:i<l.length) n,I i n->n<=most->Ew (body (n,(i:Int))) (fun r=>∃n',r=.inl (n',cp ((i:Int)+1))/\I (i+1) n'))
  (hout:∀(i:Nat) n,i<=l.length->(i=l.length\/¬n<=most)->body (n,(i:Int))=some (.inr n)) (n:Int) (h0:I 0 n):Ew (loop body (n,0)) (fun r=>∃i,i<=l.length/\I i r/\(i=l.length\/¬r<=most)):=by
 have key:∀k i n,k+i=l.length->I i n->Ew (loop body (n,(i:Int))) (fun r=>∃i,i<=l.length/\I i r/\(i=l.length\/¬r<=most)):=by
  intro k
  induction k with
  |zero=>
   intro i n hi hI
   rw[tC,hout i n (by omega) (.inl (by omega))]
   exact kM ⟨i,by omega,hI,.inl (by omega)⟩
  | succ k ih =>
   intro i n hi hI
   by_cases hm:n<=most
   ·obtain⟨r,e,n',rfl,hI'⟩:=hin i (by omega) n hI hm
    rw[tC,e]
    simp only
    rw[co (by omega) (by omega),show((i:Int)+1)=((i+1:Nat):Int) by omega]
    exact ih (i+1) n' (by omega) hI'
   ·rw[tC,hout i n (by omega) (.inr hm)]
    exact kM ⟨i,by omega,hI,.inr hm⟩
 exact key l.length 0 n (by omega) h0
theorem Fj(a b:Nat)(hb:0<b)(ha:a<9223372036854775808):qu .i64 (a:Int) (b:Int)=some ((a / b:Nat):Int):=by
 unfold qu
 rw[vat (by omega)]
 have h:((a:Int).tdiv (b:Int))=((a / b:Nat):Int):=by
  rw[vb6 (by omega)];rfl
 rw[h]
 have h2:=vbC a b
 generalize a / b=q at *
 congr 1
 exact co (by omega) (by omega)
theorem DY(p:ax):iB (aw p)=1+(p.Name.length+1+(1+(bM (p.Kids.map aw)+1+0))):=by
 rw[eC];simp only[iB,pm,sl]
theorem tR{α:Type}(c:α->List PVal)(l:List α)(i:Nat)(h:i<l.length):bM ((l.take (i+1)).map c)=bM ((l.take i).map c)+iB (c l[i]):=by
 rw[vaA h,vaF]
 have:∀(a b:List (List PVal)),bM (a++b)=bM a+bM b:=by
  intro a
  induction a with
  |nil=>intro b;simp[bM]
  |cons x a ih=>intro b;rw[va1,bM,ih,bM];omega
 rw[this]
 simp[bM]
theorem fg{α:Type}(c:α->List PVal)(l:List α)(i:Nat):bM ((l.take i).map c)<=bM (l.map c):=by
 have:∀(l:List α) (i:Nat),bM ((l.take i).map c)<=bM (l.map c):=by
  intro l
  induction l with
  |nil=>intro i;simp
  |cons x l ih=>
   intro i
   cases i with
   |zero=>simp[bM]
   |succ i=>have:=ih i;simp only[List.take_succ_cons,var,bM];omega
 exact this l i
theorem ph{α:Type}(c:α->List PVal)(h:∀x,1<=iB (c x)):∀(l:List α),l.length<=bM (l.map c)
 |[]=>by simp
 |x::l=>by have:=ph c h l;have:=h x;simp only[var,bM,vay];omega
theorem Sw(p:ax):1<=iB (aw p):=by rw[DY];omega
theorem MG(l:List ax):nL (l.take l.length)=nL l:=by rw[vaP]
abbrev Ev:Nat:=4000000
structure V7(l:List ax)(most r:Int):Prop where
 lo:0<=r
 hi:r<=(bM (l.map aw):Int)
 sm:r<=most->(nL l:Int)<=r
theorem TK(l:List ax)(most:Int)(hl:bM (l.map aw)<=Ev)(h1: -8000000<=most)(h2:most<=1000000000):Ew (EA l most) (V7 l most):=by
 refine IU (F:=zq) (fun x=>bM (x.1.map aw)) (fun x=>bM (x.1.map aw)<=Ev/\-8000000<=x.2/\x.2<=1000000000) (fun x r=>V7 x.1 x.2 r) (fun R x hx ih=>?_) (l,most) ⟨hl,h1,h2⟩ (qR (vaC hl (by decide)))
 obtain⟨l,most⟩:=x
 obtain⟨hl,h1,h2⟩:=hx
 have hl:bM (l.map aw)<=Ev:=hl
 have h1: -8000000<=most:=h1
 have h2:most<=1000000000:=h2
 have hlen:=ph aw Sw l
 show Ew (vG (fun a most=>R (a,most)) l most) _
 unfold vG xJ
 unfold Ev at hl
 refine jj (Bb l (by omega) most (fun i n=>0<=n/\n<=(bM ((l.take i).map aw):Int)/\(n<=most->(nL (l.take i):Int)<=n)) (fun i hi n hI hm=>?_) (fun i n _ h=>?_) 0 ⟨by omega,by omega,fun _=>by simp[nL]⟩) (fun r hr=>kM ?_)
 ·obtain⟨g1,g2,g3⟩:=hI
  have e:=tR aw l i hi
  have e2:=fg aw l (i+1)
  have ep:=DY l[i]
  have en:=Tu l i hi
  have enp:=MH l[i]
  show Ew (kh (fun a most=>R (a,most)) l most n i) _
  unfold kh ti
  rw[EL hi hm,bY l i hi]
  simp only[vaa,if_true]
  have hq:=vbC l[i].Name.length 50
  rw[show(50:Int)=((50:Nat):Int)from rfl,Fj _ 50 (by omega) (by omega)]
  simp only[vaa]
  rw[co (n:=n+1) (by omega) (by omega),co (n:=n+1+_) (by omega) (by omega),co (n:=most - _) (by omega) (by omega)]
  refine jj (ih (l[i].Kids,most - (n+1+((l[i].Name.length / 50:Nat):Int))) (by show _<bM (l.map aw);show bM (l[i].Kids.map aw)<_;omega) ⟨by show bM (l[i].Kids.map aw)<=Ev;unfold Ev;omega,by show -8000000<=most - _;omega,by show most - _<=1000000000;omega⟩) (fun r hr=>?_)
  have q1:=hr.lo
  have q2:r<=(bM (l[i].Kids.map aw):Int):=hr.hi
  have q3:r<=most - (n+1+((l[i].Name.length / 50:Nat):Int))->(nL l[i].Kids:Int)<=r:=hr.sm
  rw[co (n:=n+1+_+r) (by omega) (by omega)]
  refine kM ⟨_,rfl,by omega,by omega,fun hm'=>?_⟩
  have:=q3 (by omega)
  have:=g3 hm
  omega
 ·show kh (fun a most=>R (a,most)) l most n i=_
  unfold kh ti
  rw[AK h]
  rfl
 ·obtain⟨i,hi,⟨g1,g2,g3⟩,h⟩:=hr
  have e2:=fg aw l i
  refine⟨g1,by show r<=(bM (l.map aw):Int);omega,fun hm=>?_⟩
  have hm:r<=most:=hm
  have:i=l.length:=by
   rcases h with h|h
   ·exact h
   ·exact absurd hm h
  subst this
  rw[MG]at g3
  exact g3 hm
theorem NS(l:List aj)(i:Nat)(h:i<l.length):j8 (l.take (i+1))=j8 (l.take i)+zS l[i]:=by
 have ap:∀(a b:List aj),j8 (a++b)=j8 a+j8 b:=by
  intro a
  induction a with
  |nil=>intro b;simp[j8]
  |cons x a ih=>intro b;rw[va1,j8,ih,j8];omega
 rw[vaA h,ap]
 simp[j8]
theorem MW(t:aj):1<=iB (ai t):=by rw[Aa];omega
theorem P7(t:aj):iB (ai t)=1+(t.Name.length+1)+(bM (t.Args.map ai)+1)+(bM (t.Names.map cS)+1)+iB (aw t.Pred)+(bM (t.Preds.map aw)+1):=by
 rw[Aa,DY];simp only[pm,sl];omega
structure V8(l:List aj)(most r:Int):Prop where
 lo:0<=r
 hi:r<=(bM (l.map ai):Int)
 sm:r<=most->(j8 l:Int)<=r/\(Nh l:Int)<=r
theorem Pb(l:List aj)(most:Int)(hl:bM (l.map ai)<=Ev)(h1: -8000000<=most)(h2:most<=1000000000):Ew (AB l most) (V8 l most):=by
 refine IU (F:=zt) (fun x=>bM (x.1.map ai)) (fun x=>bM (x.1.map ai)<=Ev/\-8000000<=x.2/\x.2<=1000000000) (fun x r=>V8 x.1 x.2 r) (fun R x hx ih=>?_) (l,most) ⟨hl,h1,h2⟩ (qR (vaC hl (by decide)))
 obtain⟨l,most⟩:=x
 obtain⟨hl,h1,h2⟩:=hx
 have hl:bM (l.map ai)<=Ev:=hl
 have h1: -8000000<=most:=h1
 have h2:most<=1000000000:=h2
 have hlen:=ph ai MW l
 show Ew (vH (fun a most=>R (a,most)) l most) _
 unfold vH xK
 unfold Ev at hl
 refine jj (Bb l (by omega) most (fun i n=>0<=n/\n<=(bM ((l.take i).map ai):Int)/\(n<=most->(j8 (l.take i):Int)<=n/\(Nh (l.take i):Int)<=n)) (fun i hi n hI hm=>?_) (fun i n _ h=>?_) 0 ⟨by omega,by omega,fun _=>by simp[j8,Nh]⟩) (fun r hr=>kM ?_)
 ·obtain⟨g1,g2,g3⟩:=hI
  have e:=tR ai l i hi
  have e2:=fg ai l (i+1)
  have ep:=P7 l[i]
  have epp:=DY l[i].Pred
  have en:=NS l i hi
  have en2:=SI l i hi
  have enp:=tz l[i]
  have enp2:=WH l[i]
  have hns:=OO l[i].Names
  have hps:=T7 l[i].Preds
  have hpl:=Lp l[i].Preds
  show Ew (ki (fun a most=>R (a,most)) l most n i) _
  unfold ki tj
  rw[EL hi hm,bY l i hi]
  simp only[vaa,if_true]
  have hq:=vbC l[i].Name.length 50
  rw[show(50:Int)=((50:Nat):Int)from rfl,Fj _ 50 (by omega) (by omega)]
  simp only[vaa]
  rw[j1 (by simp;omega)]
  simp only[vaa]
  refine jj (TK ([l[i].Pred]++l[i].Preds) most (by unfold Ev;simp only[List.singleton_append,var,bM];omega) h1 h2) (fun rp hp=>?_)
  have p1:=hp.lo
  have p2:rp<=((iB (aw l[i].Pred)+bM (l[i].Preds.map aw):Nat):Int):=by
   have:=hp.hi
   simp only[List.singleton_append,var,bM]at this
   exact this
  have p3:rp<=most->((nP l[i].Pred+nL l[i].Preds:Nat):Int)<=rp:=by
   have:=hp.sm
   simp only[List.singleton_append,nL]at this
   exact this
  rw[co (n:=n+1) (by omega) (by omega),co (n:=n+1+_) (by omega) (by omega),co (n:=n+1+_+_) (by omega) (by omega),co (n:=n+1+_+_+_) (by omega) (by omega),co (n:=most - _) (by omega) (by omega)]
  refine jj (ih (l[i].Args,most - (n+1+((l[i].Name.length / 50:Nat):Int)+(l[i].Names.length:Int)+rp)) (by show _<bM (l.map ai);show bM (l[i].Args.map ai)<_;omega) ⟨by show bM (l[i].Args.map ai)<=Ev;unfold Ev;omega,by show -8000000<=most - _;omega,by show most - _<=1000000000;omega⟩) (fun r hr=>?_)
  have q1:=hr.lo
  have q2:r<=(bM (l[i].Args.map ai):Int):=hr.hi
  have q3:r<=most - (n+1+((l[i].Name.length / 50:Nat):Int)+(l[i].Names.length:Int)+rp)->(j8 l[i].Args:Int)<=r/\(Nh l[i].Args:Int)<=r:=hr.sm
  rw[co (n:=_+r) (by omega) (by omega)]
  refine kM ⟨_,rfl,by omega,by omega,fun hm'=>?_⟩
  have:=q3 (by omega)
  have:=p3 (by omega)
  have:=g3 hm
  have:=R8 l[i].Pred
  omega
 ·show ki (fun a most=>R (a,most)) l most n i=_
  unfold ki tj
  rw[AK h]
  rfl
 ·obtain⟨i,hi,⟨g1,g2,g3⟩,h⟩:=hr
  have e2:=fg ai l i
  refine⟨g1,by show r<=(bM (l.map ai):Int);omega,fun hm=>?_⟩
  have hm:r<=most:=hm
  have:i=l.length:=by
   rcases h with h|h
   ·exact h
   ·exact absurd hm h
  subst this
  rw[vaP]at g3
  exact g3 hm
end Go.Proofs.YtkdahfeiedaahaaGreatDoor
