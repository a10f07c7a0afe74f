/- PROVED: a part of the proof. Conditions: none. -/
import Derived.Test.YtkdahfeiedaahaaGreatDoorPkE11
noncomputable section
namespace Go.Proofs.YtkdahfeiedaahaaGreatDoor
open Go Go.Proofs.Tryz
set_option linter.unusedVariables false
set_option maxRecDepth 100000
noncomputable def Pp:Code:=f107.body.getD .skip
def Pe:List Nat:=[14,21]
section
variable(v:Bool)(t8:waD)(t9:Int)(v2:(List aa))(out:waD)(t10:Int)(m:waA)(m2:(List aa))
def aT:aA:=bj 22 [(1,.func (.func 108) [] [.eptr (cB v),.bptr 0 0]),(5,sl aq out),(8,sl aq t8),(9,.int .i64 t9),(10,.int .i64 t10)] [.cells [.func (.func 105) [] [.bptr 1 0,.eptr ((cL ac) v2),.bptr 3 0]] [],.cells [.func (.func 62) [] [.bptr 2 0],.func (.func 61) [] []] [],.cells [sl cS m] [(0,9)],.cells [sl ac m2] [(0,137)]] [((5,0),85)]
def bX(o:waD×waA×(List aa)):aA:=bj 22 [(5,sl aq o.1)] [.cells [.func (.func 105) [] [.bptr 1 0,.eptr ((cL ac) v2),.bptr 3 0]] [],.cells [.func (.func 62) [] [.bptr 2 0],.func (.func 61) [] []] [],.cells [sl cS o.2.1] [(0,9)],.cells [sl ac o.2.2] [(0,137)]] [((5,0),85)]
def aK:Option ((waD×Int×waA×(List aa))⊕((waD×waA×(List aa)))):=
 if(decide (t10<t9))=true then
  (gY t8 t10).bind fun x2=>
  (bU x2 v v2 m m2).bind fun r3=>
  (app out ([r3.1]:List av)).bind fun l4=>
  some (.inl (l4,cp (t10+1),r3.2.1,r3.2.2))
 else
  some (.inr (out,m,m2))
def cc:Option ((waD×waA×(List aa))):=loop (fun(zz:waD×Int×waA×(List aa))=>aK v t8 t9 v2 zz.1 zz.2.1 zz.2.2.1 zz.2.2.2) (out,t10,m,m2)
theorem fS{y:(waD×Int×waA×(List aa))⊕((waD×waA×(List aa)))}(h:aK v t8 t9 v2 out t10 m m2=some y):aR Pg GE 4 (cA Pp 119) (LQ (fun(zz:waD×Int×waA×(List aa))=>aT v t8 t9 v2 zz.1 zz.2.1 zz.2.2.1 zz.2.2.2) (fun _=>.exit 0) (bX v2) y) (aT v t8 t9 v2 out t10 m m2):=by
 rcases aP h with⟨c1,h⟩|⟨c1,h⟩
 ·obtain⟨x2,bx2,h⟩:=aJ h
  obtain⟨r3,br3,h⟩:=aJ h
  obtain⟨l4,bl4,h⟩:=aJ h
  obtain rfl:=lf h
  have z:=sg 0 c1<|sv (lC.ia (k:=.i64) bx2)<|sv (AQ x2)<|sx Qd<|sx (mQ x2)<|sv (H9 x2 [])<|si (.cg ⟨[0,1,2,3],[.agg (aq x2),.eptr (cB v),.bptr 0 0],[],[.cells [.func (.func 105) [] [.bptr 1 0,.eptr ((cL ac) v2),.bptr 3 0]] [],.cells [.func (.func 62) [] [.bptr 2 0],.func (.func 61) [] []] [],.cells [sl cS m] [(0,9)],.cells [sl ac m2] [(0,137)]],[.cells [.func (.func 105) [] [.bptr 1 0,.eptr ((cL ac) v2),.bptr 3 0]] [],.cells [.func (.func 62) [] [.bptr 2 0],.func (.func 61) [] []] [],.cells [sl cS m] [(0,9)],.cells [sl ac m2] [(0,137)]],[.cells [.func (.func 105) [] [.bptr 1 0,.eptr ((cL ac) v2),.bptr 3 0]] [],.cells [.func (.func 62) [] [.bptr 2 0],.func (.func 61) [] []] [],.cells [sl cS r3.2.1] [(0,9)],.cells [sl ac r3.2.2] [(0,137)]],[.cells [.func (.func 105) [] [.bptr 1 0,.eptr ((cL ac) v2),.bptr 3 0]] [],.cells [.func (.func 62) [] [.bptr 2 0],.func (.func 61) [] []] [],.cells [sl cS r3.2.1] [(0,9)],.cells [sl ac r3.2.2] [(0,137)]],.agg (aq r3.1),.agg (aq r3.1),[]⟩) (iz br3)<|sf (aI (xR [0,1,2,3] (.agg (aq x2)) (bo x2)) (aI (xR [0,1,2,3] (.eptr (cB v)) (Vj v)) (aI (xB [0,1,2,3] 0 0 0 rfl) trivial)))<|sf (aI (aI (rB (.cells [.func (.func 105) [] [.bptr 1 0,.eptr ((cL ac) v2),.bptr 3 0]] [])) (aI (rW []) (aI (xF [0,1,2,3] (.func 105) [] [.bptr 1 0,.eptr ((cL ac) v2),.bptr 3 0] [] [.bptr 1 0,.eptr ((cL ac) v2),.bptr 3 0] trivial (aI (xB [0,1,2,3] 1 1 0 rfl) (aI (xR [0,1,2,3] (.eptr ((cL ac) v2)) (mr al v2)) (aI (xB [0,1,2,3] 3 3 0 rfl) trivial)))) trivial))) (aI (aI (rB (.cells [.func (.func 62) [] [.bptr 2 0],.func (.func 61) [] []] [])) (aI (rW []) (aI (xF [0,1,2,3] (.func 62) [] [.bptr 2 0] [] [.bptr 2 0] trivial (aI (xB [0,1,2,3] 2 2 0 rfl) trivial)) (aI (xR [0,1,2,3] (.func (.func 61) [] []) (aI trivial trivial)) trivial)))) (aI (aI (rB (.cells [sl cS m] [(0,9)])) (aI (rW [(0,9)]) (aI (xR [0,1,2,3] (sl cS m) (au cb m)) trivial))) (aI (aI (rB (.cells [sl ac m2] [(0,137)])) (aI (rW [(0,137)]) (aI (xR [0,1,2,3] (sl ac m2) (au al m2)) trivial))) trivial))))<|sf (aI (aI (rW []) (aI (xF [0,1,2,3] (.func 105) [] [.bptr 1 0,.eptr ((cL ac) v2),.bptr 3 0] [] [.bptr 1 0,.eptr ((cL ac) v2),.bptr 3 0] trivial (aI (xB [0,1,2,3] 1 1 0 rfl) (aI (xR [0,1,2,3] (.eptr ((cL ac) v2)) (mr al v2)) (aI (xB [0,1,2,3] 3 3 0 rfl) trivial)))) trivial)) (aI (aI (rW []) (aI (xF [0,1,2,3] (.func 62) [] [.bptr 2 0] [] [.bptr 2 0] trivial (aI (xB [0,1,2,3] 2 2 0 rfl) trivial)) (aI (xR [0,1,2,3] (.func (.func 61) [] []) (aI trivial trivial)) trivial))) (aI (aI (rW [(0,9)]) (aI (xR [0,1,2,3] (sl cS r3.2.1) (au cb r3.2.1)) trivial)) (aI (aI (rW [(0,137)]) (aI (xR [0,1,2,3] (sl ac r3.2.2) (au al r3.2.2)) trivial)) trivial))))<|sf (xR [0,1,2,3] (.agg (aq r3.1)) (bo r3.1))<|sv (lC.mk' (v:=Az) yc ([r3.1]:List av) 1 (by kernel_rfl))<|sv (lC.ap bl4)<|tN 4 .normal (aT v t8 t9 v2 l4 (cp (t10+1)) r3.2.1 r3.2.2) rfl (d5 (aI (aI trivial (aI (be (Vj v)) (aI (aZ rfl) trivial))) (aI (up (au bo l4)) (aI (up (au bo t8)) (aI trivial (aI trivial trivial)))))) (aI (aI (aI trivial (aI (aZ rfl) (aI (be (mr al v2)) (aI (aZ rfl) trivial)))) trivial) (aI (aI (aI trivial (aI (aZ rfl) trivial)) (aI (aI trivial trivial) trivial)) (aI (aI (up (au cb r3.2.1)) trivial) (aI (aI (up (au al r3.2.2)) trivial) trivial))))
  exact ez (A:=Pe) mixed z<|by kernel_rfl
 ·obtain rfl:=lf h
  have z:=sg 0 c1<|eF (.exit 0) (bX v2 (out,m,m2))
  exact kc Pe (by intro hx;cases hx) z<|by kernel_rfl
theorem f0{x:(waD×waA×(List aa))}(h:cc v t8 t9 v2 out t10 m m2=some x):aR Pg GE 4 (.loop (cA Pp 119)) (EX (.exit 0) (bX v2 x)) (aT v t8 t9 v2 out t10 m m2):=
 aR.loop (S:=fun(zz:waD×Int×waA×(List aa))=>aT v t8 t9 v2 zz.1 zz.2.1 zz.2.2.1 zz.2.2.2) (ex:=(fun _=>.exit 0)) (s:=(out,t10,m,m2)) h fun zz y hy=>fS v t8 t9 v2 zz.1 zz.2.1 zz.2.2.1 zz.2.2.2 hy
end
def bB(a:waD)(c:Bool)(c2:(List aa))(k2:waA)(k3:(List aa)):Option (waD×waA×(List aa)):=
 (cc c a (a.length:Int) c2 ([]:List av) 0 k2 k3).bind fun o5=>
 some (o5.1,o5.2.1,o5.2.2)
theorem gz{a:waD}{c:Bool}{c2:(List aa)}{k2:waA}{k3:(List aa)}{r:waD×waA×(List aa)}(h:bB a c c2 k2 k3=some r):C Pg GE 107 [sl aq a,.func (.func 108) [] [.eptr (cB c),.bptr 0 0]] [] [.cells [.func (.func 105) [] [.bptr 1 0,.eptr ((cL ac) c2),.bptr 3 0]] [],.cells [.func (.func 62) [] [.bptr 2 0],.func (.func 61) [] []] [],.cells [sl cS k2] [(0,9)],.cells [sl ac k3] [(0,137)]] (sl aq r.1) [(0,85)] [.cells [.func (.func 105) [] [.bptr 1 0,.eptr ((cL ac) c2),.bptr 3 0]] [],.cells [.func (.func 62) [] [.bptr 2 0],.func (.func 61) [] []] [],.cells [sl cS r.2.1] [(0,9)],.cells [sl ac r.2.2] [(0,137)]]:=by
 obtain⟨o5,bo5,h⟩:=aJ h
 obtain rfl:=lf h
 have z:=cq (lC.ln a)<|dS (f0 c a (a.length:Int) c2 ([]:List av) 0 k2 k3 bo5)<|en (aI (rP (sl aq o5.1))<|aI (up (n:=4) (au bo o5.1))<|aI (rL [.cells [.func (.func 105) [] [.bptr 1 0,.eptr ((cL ac) c2),.bptr 3 0]] [],.cells [.func (.func 62) [] [.bptr 2 0],.func (.func 61) [] []] [],.cells [sl cS o5.2.1] [(0,9)],.cells [sl ac o5.2.2] [(0,137)]])<|(aI (aI (aI trivial (aI (aZ (i:=1) (n:=4) rfl) (aI (be (n:=4) (mr al c2)) (aI (aZ (i:=3) (n:=4) rfl) trivial)))) trivial) (aI (aI (aI trivial (aI (aZ (i:=2) (n:=4) rfl) trivial)) (aI (aI trivial trivial) trivial)) (aI (aI (up (n:=4) (au cb o5.2.1)) trivial) (aI (aI (up (n:=4) (au al o5.2.2)) trivial) trivial)))))
 exact C.evGp (A:=Pe) mixed (m:=4) (c:=Pp) rfl call107 func107 rfl z<|by kernel_rfl
noncomputable def Pr:Code:=f110.body.getD .skip
def Pj:List Nat:=[24,28]
section
variable(t1:(List aa))(v:aH)(t13:waA)(t14:Int)(m2:waE)(m3:waD)(m4:waC)(m5:waB)(v2:(List aa))(v3:waA)(t15:Int)(m:waA)
def b8:aA:=bj 44 [(1,.eptr ((cL ac) t1)),(2,.bptr 0 0),(3,.eptr (az v)),(4,.bptr 3 0),(5,sl ac v2),(6,sl cS v3),(13,sl cS t13),(14,.int .i64 t14),(15,.int .i64 t15)] [.cells [.func (.func 62) [] [.bptr 1 0],.func (.func 61) [] []] [],.cells [sl cS m] [(0,9)],.dead,.cells [.str ([]:ag),sl cS ([]:List ag),.int .i64 0,.str ([]:ag),.int .i64 0,sl ae m2,sl aq m3,sl az m4,sl ai m5] [(1,9),(5,28),(6,85),(7,89),(8,60)]] [((6,0),9),((5,0),137)]
def d6(o:(List aa)×waA×waA):aA:=bj 44 [(2,.bptr 0 0),(3,.eptr (az v)),(4,.bptr 3 0),(5,sl ac o.1),(6,sl cS o.2.1)] [.cells [.func (.func 62) [] [.bptr 1 0],.func (.func 61) [] []] [],.cells [sl cS o.2.2] [(0,9)],.dead,.cells [.str ([]:ag),sl cS ([]:List ag),.int .i64 0,.str ([]:ag),.int .i64 0,sl ae m2,sl aq m3,sl az m4,sl ai m5] [(1,9),(5,28),(6,85),(7,89),(8,60)]] [((6,0),9),((5,0),137)]
def ba:Option (((List aa)×waA×Int×waA)⊕(((List aa)×waA×waA))):=
 if(decide (t15<t14))=true then
  (gY t13 t15).bind fun x3=>
  (lH x3 t1 m).bind fun r4=>
  (app v3 ([r4.1]:List ag)).bind fun l5=>
  (app v2 ([(⟨x3,r4.1⟩:aa)]:List aa)).bind fun l6=>
  some (.inl (l6,l5,cp (t15+1),r4.2))
 else
  some (.inr (v2,v3,m))
def cV:Option (((List aa)×waA×waA)):=loop (fun(zz:(List aa)×waA×Int×waA)=>ba t1 t13 t14 zz.1 zz.2.1 zz.2.2.1 zz.2.2.2) (v2,v3,t15,m)
theorem lb{y:((List aa)×waA×Int×waA)⊕(((List aa)×waA×waA))}(h:ba t1 t13 t14 v2 v3 t15 m=some y):aR Pg GE 2 (cA Pr 247) (LQ (fun(zz:(List aa)×waA×Int×waA)=>b8 t1 v t13 t14 m2 m3 m4 m5 zz.1 zz.2.1 zz.2.2.1 zz.2.2.2) (fun _=>.exit 0) (d6 v m2 m3 m4 m5) y) (b8 t1 v t13 t14 m2 m3 m4 m5 v2 v3 t15 m):=by
 rcases aP h with⟨c2,h⟩|⟨c2,h⟩
 ·obtain⟨x3,bx3,h⟩:=aJ h
  obtain⟨r4,br4,h⟩:=aJ h
  obtain⟨l5,bl5,h⟩:=aJ h
  obtain⟨l6,bl6,h⟩:=aJ h
  obtain rfl:=lf h
  exact AU Pj (sg 0 c2<|sv (dK.ia (k:=.i64) bx3)<|sv (cZ Ge (.str x3) [])<|ss<|sv (cZ GU (sl ac t1) [])<|si (.cg ⟨[1],[.str x3,sl ac t1,.bptr 0 0],[],[.cells [sl cS m] [(0,9)]],[.cells [sl cS m] [(0,9)]],[.cells [sl cS r4.2] [(0,9)]],[.cells [sl cS r4.2] [(0,9)]],.str r4.1,.str r4.1,[]⟩) (uQ br4)<|sf (aI (xR [1] (.str x3) trivial) (aI (xR [1] (sl ac t1) (au al t1)) (aI (xB [1] 0 1 0 rfl) trivial)))<|sf (aI (aI (rB (.cells [sl cS m] [(0,9)])) (aI (rW [(0,9)]) (aI (xR [1] (sl cS m) (au cb m)) trivial))) trivial)<|sf (aI (aI (rW [(0,9)]) (aI (xR [1] (sl cS r4.2) (au cb r4.2)) trivial)) trivial)<|sf (xR [1] (.str r4.1) trivial)<|sv (dK.mk' (v:=PVal.str) Lz ([r4.1]:List ag) 1 (by kernel_rfl))<|sv (dK.ap bl5)<|sv (kV x3 r4.1)<|sv (IK.mk' (v:=oo) oF ([(⟨x3,r4.1⟩:aa)]:List aa) 1 (by kernel_rfl))<|sv (IK.ap bl6)<|eF .normal (b8 t1 v t13 t14 m2 m3 m4 m5 l6 l5 (cp (t15+1)) r4.2))<|by kernel_rfl
 ·obtain rfl:=lf h
  have z:=sg 0 c2<|eF (.exit 0) (d6 v m2 m3 m4 m5 (v2,v3,m))
  exact kc Pj (by intro hx;cases hx) z<|by kernel_rfl
theorem lI{x:((List aa)×waA×waA)}(h:cV t1 t13 t14 v2 v3 t15 m=some x):aR Pg GE 2 (.loop (cA Pr 247)) (EX (.exit 0) (d6 v m2 m3 m4 m5 x)) (b8 t1 v t13 t14 m2 m3 m4 m5 v2 v3 t15 m):=
 aR.loop (S:=fun(zz:(List aa)×waA×Int×waA)=>b8 t1 v t13 t14 m2 m3 m4 m5 zz.1 zz.2.1 zz.2.2.1 zz.2.2.2) (ex:=(fun _=>.exit 0)) (s:=(v2,v3,t15,m)) h fun zz y hy=>lb t1 v t13 t14 m2 m3 m4 m5 zz.1 zz.2.1 zz.2.2.1 zz.2.2.2 hy
end
def cC(R21:aW)(a:aH)(a2:(List aa))(k1:waA):Option (aH×waA):=
 (qQ a2).bind fun r1=>
 (cV a2 a.Names (a.Names.length:Int) r1 ([]:List ag) 0 k1).bind fun o7=>
 (R21 a.Body o7.1 o7.2.2).bind fun r8=>
 some ((⟨a.Con,o7.2.1,r8.1⟩:aH),r8.2)
theorem mV(R21:aW)(hR21:bC R21){a:aH}{a2:(List aa)}{k1:waA}{r:aH×waA}(h:cC R21 a a2 k1=some r):C Pg GE 110 [.agg (az a),.eptr ((cL ac) a2),.bptr 0 0] [] [.cells [.func (.func 62) [] [.bptr 1 0],.func (.func 61) [] []] [],.cells [sl cS k1] [(0,9)]] (.agg (az r.1)) [] [.cells [.func (.func 62) [] [.bptr 1 0],.func (.func 61) [] []] [],.cells [sl cS r.2] [(0,9)]]:=by
 obtain⟨r1,br1,h⟩:=aJ h
 obtain⟨o7,bo7,h⟩:=aJ h
 obtain⟨r8,br8,h⟩:=aJ h
 obtain rfl:=lf h
 have z:=se (LA a)<|sx Fh<|sv (cZ GU (sl ac a2) [])<|cW (vL br1)<|sv (pG a)<|sv (pL a)<|cq (dK.ln a.Names)<|dS (lI a2 a a.Names (a.Names.length:Int) ([]:List af) ([]:List av) ([]:List aH) ([]:List aj) r1 ([]:List ag) 0 k1 bo7)<|Vp (.dx [0,1,0,0,0,16,0,120,255,511] [] [] [11,293,337])<|sv (xU a)<|sv (zT a)<|sv (show bK Pg 95 [.func (.func 62) [] [.bptr 1 0],.func (.func 61) [] []]=some (.agg [.func (.func 62) [] [.bptr 1 0],.func (.func 61) [] []]) by kernel_rfl)<|sv (tv a)<|sv (tA a)<|si (.cg ⟨[1],[.agg [.func (.func 62) [] [.bptr 0 0],.func (.func 61) [] []],.agg (ae a.Body),sl ac o7.1],[],[.cells [sl cS o7.2.2] [(0,9)]],[.cells [sl cS o7.2.2] [(0,9)]],[.cells [sl cS r8.2] [(0,9)]],[.cells [sl cS r8.2] [(0,9)]],.agg (ae r8.1),.agg (ae r8.1),[(3,28),(4,85),(5,89),(6,60)]⟩) (hR21 _ _ _ _ br8)<|sf (aI (xA [1] [.func (.func 62) [] [.bptr 1 0],.func (.func 61) [] []] [.func (.func 62) [] [.bptr 0 0],.func (.func 61) [] []] (aI (xF [1] (.func 62) [] [.bptr 1 0] [] [.bptr 0 0] trivial (aI (xB [1] 0 1 0 rfl) trivial)) (aI (xR [1] (.func (.func 61) [] []) (aI trivial trivial)) trivial))) (aI (xR [1] (.agg (ae a.Body)) (ay a.Body)) (aI (xR [1] (sl ac o7.1) (au al o7.1)) trivial)))<|sf (aI (aI (rB (.cells [sl cS o7.2.2] [(0,9)])) (aI (rW [(0,9)]) (aI (xR [1] (sl cS o7.2.2) (au cb o7.2.2)) trivial))) trivial)<|sf (aI (aI (rW [(0,9)]) (aI (xR [1] (sl cS r8.2) (au cb r8.2)) trivial)) trivial)<|sf (xR [1] (.agg (ae r8.1)) (ay r8.1))<|sv (BI a.Con o7.2.1 r8.1)<|sx (i8 (⟨a.Con,o7.2.1,r8.1⟩:aH))<|en (aI (M5 (⟨a.Con,o7.2.1,r8.1⟩:aH))<|aI (WG (n:=2) (bW (⟨a.Con,o7.2.1,r8.1⟩:aH)))<|aI (rL [.cells [.func (.func 62) [] [.bptr 1 0],.func (.func 61) [] []] [],.cells [sl cS r8.2] [(0,9)]])<|(aI (aI (aI trivial (aI (aZ (i:=1) (n:=2) rfl) trivial)) (aI (aI trivial trivial) trivial)) (aI (aI (up (n:=2) (au cb r8.2)) trivial) trivial)))
 exact C.evGp (A:=Pj) mixed (m:=2) (c:=Pr) rfl call110 func110 rfl z<|by kernel_rfl
noncomputable def Pq:Code:=f109.body.getD .skip
def Ph:List Nat:=[14,21]
section
variable(R21:aW)(v:(List aa))(t8:waC)(t9:Int)(out:waC)(t10:Int)(m:waA)
def bL:aA:=bj 22 [(1,.func (.func 110) [] [.eptr ((cL ac) v),.bptr 0 0]),(5,sl az out),(8,sl az t8),(9,.int .i64 t9),(10,.int .i64 t10)] [.cells [.func (.func 62) [] [.bptr 1 0],.func (.func 61) [] []] [],.cells [sl cS m] [(0,9)]] [((5,0),89)]
def di(o:waC×waA):aA:=bj 22 [(5,sl az o.1)] [.cells [.func (.func 62) [] [.bptr 1 0],.func (.func 61) [] []] [],.cells [sl cS o.2] [(0,9)]] [((5,0),89)]
def aU:Option ((waC×Int×waA)⊕((waC×waA))):=
 if(decide (t10<t9))=true then
  (gY t8 t10).bind fun x2=>
  (cC R21 x2 v m).bind fun r3=>
  (app out ([r3.1]:List aH)).bind fun l4=>
  some (.inl (l4,cp (t10+1),r3.2))
 else
  some (.inr (out,m))
def dL:Option ((waC×waA)):=loop (fun(zz:waC×Int×waA)=>aU R21 v t8 t9 zz.1 zz.2.1 zz.2.2) (out,t10,m)
theorem jV(hR21:bC R21){y:(waC×Int×waA)⊕((waC×waA))}(h:aU R21 v t8 t9 out t10 m=some y):aR Pg GE 2 (cA Pq 119) (LQ (fun(zz:waC×Int×waA)=>bL v t8 t9 zz.1 zz.2.1 zz.2.2) (fun _=>.exit 0) di y) (bL v t8 t9 out t10 m):=by
 rcases aP h with⟨c1,h⟩|⟨c1,h⟩
 ·obtain⟨x2,bx2,h⟩:=aJ h
  obtain⟨r3,br3,h⟩:=aJ h
  obtain⟨l4,bl4,h⟩:=aJ h
  obtain rfl:=lf h
  have z:=sg 0 c1<|sv (eQ.ia (k:=.i64) bx2)<|sv (mi x2)<|sx Fh<|sx (i8 x2)<|sv (MD x2 [])<|si (.cg ⟨[0,1],[.agg (az x2),.eptr ((cL ac) v),.bptr 0 0],[],[.cells [.func (.func 62) [] [.bptr 1 0],.func (.func 61) [] []] [],.cells [sl cS m] [(0,9)]],[.cells [.func (.func 62) [] [.bptr 1 0],.func (.func 61) [] []] [],.cells [sl cS m] [(0,9)]],[.cells [.func (.func 62) [] [.bptr 1 0],.func (.func 61) [] []] [],.cells [sl cS r3.2] [(0,9)]],[.cells [.func (.func 62) [] [.bptr 1 0],.func (.func 61) [] []] [],.cells [sl cS r3.2] [(0,9)]],.agg (az r3.1),.agg (az r3.1),[]⟩) (mV R21 hR21 br3)<|sf (aI (xR [0,1] (.agg (az x2)) (bW x2)) (aI (xR [0,1] (.eptr ((cL ac) v)) (mr al v)) (aI (xB [0,1] 0 0 0 rfl) trivial)))<|sf (aI (aI (rB (.cells [.func (.func 62) [] [.bptr 1 0],.func (.func 61) [] []] [])) (aI (rW []) (aI (xF [0,1] (.func 62) [] [.bptr 1 0] [] [.bptr 1 0] trivial (aI (xB [0,1] 1 1 0 rfl) trivial)) (aI (xR [0,1] (.func (.func 61) [] []) (aI trivial trivial)) trivial)))) (aI (aI (rB (.cells [sl cS m] [(0,9)])) (aI (rW [(0,9)]) (aI (xR [0,1] (sl cS m) (au cb m)) trivial))) trivial))<|sf (aI (aI (rW []) (aI (xF [0,1] (.func 62) [] [.bptr 1 0] [] [.bptr 1 0] trivial (aI (xB [0,1] 1 1 0 rfl) trivial)) (aI (xR [0,1] (.func (.func 61) [] []) (aI trivial trivial)) trivial))) (aI (aI (rW [(0,9)]) (aI (xR [0,1] (sl cS r3.2) (au cb r3.2)) trivial)) trivial))<|sf (xR [0,1] (.agg (az r3.1)) (bW r3.1))<|sv (eQ.mk' (v:=Oi) MR ([r3.1]:List aH) 1 (by kernel_rfl))<|sv (eQ.ap bl4)<|tN 2 .normal (bL v t8 t9 l4 (cp (t10+1)) r3.2) rfl (d5 (aI (aI trivial (aI (be (mr al v)) (aI (aZ rfl) trivial))) (aI (up (au bW l4)) (aI (up (au bW t8)) (aI trivial (aI trivial trivial)))))) (aI (aI (aI trivial (aI (aZ rfl) trivial)) (aI (aI trivial trivial) trivial)) (aI (aI (up (au cb r3.2)) trivial) trivial))
  exact ez (A:=Ph) mixed z<|by kernel_rfl
 ·obtain rfl:=lf h
  have z:=sg 0 c1<|eF (.exit 0) (di (out,m))
  exact kc Ph (by intro hx;cases hx) z<|by kernel_rfl
theorem j6(hR21:bC R21){x:(waC×waA)}(h:dL R21 v t8 t9 out t10 m=some x):aR Pg GE 2 (.loop (cA Pq 119)) (EX (.exit 0) (di x)) (bL v t8 t9 out t10 m):=
 aR.loop (S:=fun(zz:waC×Int×waA)=>bL v t8 t9 zz.1 zz.2.1 zz.2.2) (ex:=(fun _=>.exit 0)) (s:=(out,t10,m)) h fun zz y hy=>jV R21 v t8 t9 zz.1 zz.2.1 zz.2.2 hR21 hy
end
def b7(R21:aW)(a:waC)(c:(List aa))(k1:waA):Option (waC×waA):=
 (dL R21 c a (a.length:Int) ([]:List aH) 0 k1).bind fun o5=>
 some (o5.1,o5.2)
theorem kP(R21:aW)(hR21:bC R21){a:waC}{c:(List aa)}{k1:waA}{r:waC×waA}(h:b7 R21 a c k1=some r):C Pg GE 109 [sl az a,.func (.func 110) [] [.eptr ((cL ac) c),.bptr 0 0]] [] [.cells [.func (.func 62) [] [.bptr 1 0],.func (.func 61) [] []] [],.cells [sl cS k1] [(0,9)]] (sl az r.1) [(0,89)] [.cells [.func (.func 62) [] [.bptr 1 0],.func (.func 61) [] []] [],.cells [sl cS r.2] [(0,9)]]:=by
 obtain⟨o5,bo5,h⟩:=aJ h
 obtain rfl:=lf h
 have z:=cq (eQ.ln a)<|dS (j6 R21 c a (a.length:Int) ([]:List aH) 0 k1 hR21 bo5)<|en (aI (rP (sl az o5.1))<|aI (up (n:=2) (au bW o5.1))<|aI (rL [.cells [.func (.func 62) [] [.bptr 1 0],.func (.func 61) [] []] [],.cells [sl cS o5.2] [(0,9)]])<|(aI (aI (aI trivial (aI (aZ (i:=1) (n:=2) rfl) trivial)) (aI (aI trivial trivial) trivial)) (aI (aI (up (n:=2) (au cb o5.2)) trivial) trivial)))
 exact C.evGp (A:=Ph) mixed (m:=2) (c:=Pq) rfl call109 func109 rfl z<|by kernel_rfl
noncomputable def SL:Code:=f56.body.getD .skip
def JH:List Nat:=[33,63,73,80,88]
section
variable(scope:(List aa))(m:waA)(m2:Int)(m3:ag)(m4:Int)(m5:waE)(m6:waD)(m7:waC)(m8:waB)(m9:waE)(m10:waD)(m11:waC)(m12:waB)(m13:(List aa))
def mW:aA:=bj 96 [(3,.bptr 1 0),(4,.bptr 2 0),(5,.eptr ((cL ac) scope)),(6,.bptr 4 0),(7,.bptr 5 0),(8,.bptr 6 0)] [.cells [sl cS m] [(0,9)],.cells [.func (.func 62) [] [.bptr 0 0],.func (.func 61) [] []] [],.cells [.int .i64 m2,.str m3,.int .i64 m4,sl ae m5,sl aq m6,sl az m7,sl ai m8] [(6,60)],.dead,.cells [.int .i64 0,.str ([]:ag),.int .i64 0,sl ae m9,sl aq m10,sl az m11,sl ai m12] [(3,28),(4,85),(5,89),(6,60)],.cells [sl ac m13] [(0,137)],.cells [.func (.func 105) [] [.bptr 1 0,.eptr ((cL ac) scope),.bptr 5 0]] []] []
def cr(o:waA×ag×(List aa)):aA:=bj 96 [(3,.bptr 1 0),(4,.bptr 2 0),(5,.eptr ((cL ac) scope)),(6,.bptr 4 0),(7,.bptr 5 0),(8,.bptr 6 0)] [.cells [sl cS o.1] [(0,9)],.cells [.func (.func 62) [] [.bptr 0 0],.func (.func 61) [] []] [],.cells [.int .i64 m2,.str o.2.1,.int .i64 m4,sl ae m5,sl aq m6,sl az m7,sl ai m8] [(6,60)],.dead,.cells [.int .i64 0,.str ([]:ag),.int .i64 0,sl ae m9,sl aq m10,sl az m11,sl ai m12] [(3,28),(4,85),(5,89),(6,60)],.cells [sl ac o.2.2] [(0,137)],.cells [.func (.func 105) [] [.bptr 1 0,.eptr ((cL ac) scope),.bptr 5 0]] []] []
def dj:Option ((waA×ag×(List aa))):=
 (f6 (⟨m2,m3,m4,m5,m6,m7,m8⟩:af)).bind fun r3=>
 if r3=true then
  (pq scope m3).bind fun r6=>
  if r6.2=true then
   some (m,r6.1,m13)
  else
   (Gi m3).bind fun r9=>
   some (m,r9,m13)
 else
  if(m2==7)=true then
   (cz m3 scope m m13).bind fun r12=>
   some (r12.2.1,r12.1,r12.2.2)
  else
   some (m,m3,m13)
theorem ms{x:(waA×ag×(List aa))}(h:dj scope m m2 m3 m4 m5 m6 m7 m8 m13=some x):aR Pg GE 1 (cA SL 62) (EX .normal (cr scope m2 m4 m5 m6 m7 m8 m9 m10 m11 m12 x)) (mW scope m m2 m3 m4 m5 m6 m7 m8 m9 m10 m11 m12 m13):=by
 obtain⟨r3,br3,h⟩:=aJ h
 have p5:=fun{sc F} (r:PS sc F)=>sv (bu (⟨m2,m3,m4,m5,m6,m7,m8⟩:af) [])<|cW (lh br3)<|r
 rcases aP h with⟨c4,h⟩|⟨c4,h⟩
 ·obtain⟨r6,br6,h⟩:=aJ h
  have p8:=fun{sc F} (r:PS sc F)=>p5<|sg 0 c4<|sv (cZ GU (sl ac scope) [])<|ss<|cW (Am br6)<|r
  rcases aP h with⟨c7,h⟩|⟨c7,h⟩
  ·obtain rfl:=lf h
   exact bJ JH (p8<|sg 0 c7<|ss<|eF .normal (cr scope m2 m4 m5 m6 m7 m8 m9 m10 m11 m12 (m,r6.1,m13)))<|by kernel_rfl
  ·obtain⟨r9,br9,h⟩:=aJ h
   obtain rfl:=lf h
   exact bJ JH (p8<|sg 0 c7<|ss<|ss<|cW (IT br9)<|ss<|eF .normal (cr scope m2 m4 m5 m6 m7 m8 m9 m10 m11 m12 (m,r9,m13)))<|by kernel_rfl
 ·have p11:=fun{sc F} (r:PS sc F)=>p5<|sg 0 c4<|ss<|r
  rcases aP h with⟨c10,h⟩|⟨c10,h⟩
  ·obtain⟨r12,br12,h⟩:=aJ h
   obtain rfl:=lf h
   exact bJ JH (p11<|sg 0 c10<|ss<|ss<|si (.cg ⟨[1,0,5],[.str m3,.bptr 0 0,.eptr ((cL ac) scope),.bptr 2 0],[],[.cells [.func (.func 62) [] [.bptr 0 0],.func (.func 61) [] []] [],.cells [sl cS m] [(0,9)],.cells [sl ac m13] [(0,137)]],[.cells [.func (.func 62) [] [.bptr 1 0],.func (.func 61) [] []] [],.cells [sl cS m] [(0,9)],.cells [sl ac m13] [(0,137)]],[.cells [.func (.func 62) [] [.bptr 0 0],.func (.func 61) [] []] [],.cells [sl cS r12.2.1] [(0,9)],.cells [sl ac r12.2.2] [(0,137)]],[.cells [.func (.func 62) [] [.bptr 1 0],.func (.func 61) [] []] [],.cells [sl cS r12.2.1] [(0,9)],.cells [sl ac r12.2.2] [(0,137)]],.str r12.1,.str r12.1,[]⟩) (gT br12)<|sf (aI (xR [1,0,5] (.str m3) trivial) (aI (xB [1,0,5] 0 1 0 rfl) (aI (xR [1,0,5] (.eptr ((cL ac) scope)) (mr al scope)) (aI (xB [1,0,5] 2 5 0 rfl) trivial))))<|sf (aI (aI (rB (.cells [.func (.func 62) [] [.bptr 0 0],.func (.func 61) [] []] [])) (aI (rW []) (aI (xF [1,0,5] (.func 62) [] [.bptr 0 0] [] [.bptr 1 0] trivial (aI (xB [1,0,5] 1 0 0 rfl) trivial)) (aI (xR [1,0,5] (.func (.func 61) [] []) (aI trivial trivial)) trivial)))) (aI (aI (rB (.cells [sl cS m] [(0,9)])) (aI (rW [(0,9)]) (aI (xR [1,0,5] (sl cS m) (au cb m)) trivial))) (aI (aI (rB (.cells [sl ac m13] [(0,137)])) (aI (rW [(0,137)]) (aI (xR [1,0,5] (sl ac m13) (au al m13)) trivial))) trivial)))<|sf (aI (aI (rW []) (aI (xF [1,0,5] (.func 62) [] [.bptr 0 0] [] [.bptr 1 0] trivial (aI (xB [1,0,5] 1 0 0 rfl) trivial)) (aI (xR [1,0,5] (.func (.func 61) [] []) (aI trivial trivial)) trivial))) (aI (aI (rW [(0,9)]) (aI (xR [1,0,5] (sl cS r12.2.1) (au cb r12.2.1)) trivial)) (aI (aI (rW [(0,137)]) (aI (xR [1,0,5] (sl ac r12.2.2) (au al r12.2.2)) trivial)) trivial)))<|sf (xR [1,0,5] (.str r12.1) trivial)<|ss<|eF .normal (cr scope m2 m4 m5 m6 m7 m8 m9 m10 m11 m12 (r12.2.1,r12.1,r12.2.2)))<|by kernel_rfl
  ·obtain rfl:=lf h
   exact bJ JH (p11<|sg 0 c10<|eF .normal (cr scope m2 m4 m5 m6 m7 m8 m9 m10 m11 m12 (m,m3,m13)))<|by kernel_rfl
end
section
variable(scope:(List aa))(kids:waE)(i:Int)(t59:waE)(t60:Int)(m:waA)(m2:Int)(m3:ag)(m4:Int)(m5:waD)(m6:waC)(m7:waB)(m8:waE)(m9:waD)(m10:waC)(m11:waB)(m12:(List aa))(m13:Int)(m14:ag)(m15:Int)(m16:waE)(m17:waD)(m18:waC)(m19:waB)
def mX:aA:=bj 96 [(3,.bptr 1 0),(4,.bptr 2 0),(5,.eptr ((cL ac) scope)),(6,.bptr 4 0),(7,.bptr 5 0),(12,sl ae kids),(13,.int .i64 i),(14,.bptr 8 0),(59,sl ae t59),(60,.int .i64 t60),(61,.int .i64 i)] [.cells [sl cS m] [(0,9)],.cells [.func (.func 62) [] [.bptr 0 0],.func (.func 61) [] []] [],.cells [.int .i64 m2,.str m3,.int .i64 m4,sl ae t59,sl aq m5,sl az m6,sl ai m7] [(4,85),(6,60)],.dead,.cells [.int .i64 0,.str ([]:ag),.int .i64 0,sl ae m8,sl aq m9,sl az m10,sl ai m11] [(3,28),(4,85),(5,89),(6,60)],.cells [sl ac m12] [(0,137)],.cells [.func (.func 105) [] [.bptr 1 0,.eptr ((cL ac) scope),.bptr 5 0]] [],.dead,.cells [.int .i64 m13,.str m14,.int .i64 m15,sl ae m16,sl aq m17,sl az m18,sl ai m19] []] [((12,0),28)]
def eo(o:Bool):aA:=bj 96 [(3,.bptr 1 0),(4,.bptr 2 0),(5,.eptr ((cL ac) scope)),(6,.bptr 4 0),(7,.bptr 5 0),(12,sl ae kids),(14,.bptr 8 0),(59,sl ae t59),(60,.int .i64 t60),(61,.int .i64 i),(72,.bool o)] [.cells [sl cS m] [(0,9)],.cells [.func (.func 62) [] [.bptr 0 0],.func (.func 61) [] []] [],.cells [.int .i64 m2,.str m3,.int .i64 m4,sl ae t59,sl aq m5,sl az m6,sl ai m7] [(4,85),(6,60)],.dead,.cells [.int .i64 0,.str ([]:ag),.int .i64 0,sl ae m8,sl aq m9,sl az m10,sl ai m11] [(3,28),(4,85),(5,89),(6,60)],.cells [sl ac m12] [(0,137)],.cells [.func (.func 105) [] [.bptr 1 0,.eptr ((cL ac) scope),.bptr 5 0]] [],.dead,.cells [.int .i64 m13,.str m14,.int .i64 m15,sl ae m16,sl aq m17,sl az m18,sl ai m19] []] [((12,0),28)]
def eH:Option Bool:=
 if(m2==7)=true then
  some (i==0)
 else
  some false
theorem mt{x:Bool}(h:eH i m2=some x):aR Pg GE 1 (cA SL 523766) (EX .normal (eo scope kids i t59 t60 m m2 m3 m4 m5 m6 m7 m8 m9 m10 m11 m12 m13 m14 m15 m16 m17 m18 m19 x)) (mX scope kids i t59 t60 m m2 m3 m4 m5 m6 m7 m8 m9 m10 m11 m12 m13 m14 m15 m16 m17 m18 m19):=by
 rcases aP h with⟨c17,h⟩|⟨c17,h⟩
 ·obtain rfl:=lf h
  exact bJ JH (ss<|sg 4 c17<|eF .normal (eo scope kids i t59 t60 m m2 m3 m4 m5 m6 m7 m8 m9 m10 m11 m12 m13 m14 m15 m16 m17 m18 m19 (i==0)))<|by kernel_rfl
 ·obtain rfl:=lf h
  exact bJ JH (ss<|sg 4 c17<|eF .normal (eo scope kids i t59 t60 m m2 m3 m4 m5 m6 m7 m8 m9 m10 m11 m12 m13 m14 m15 m16 m17 m18 m19 false))<|by kernel_rfl
end
section
variable(R21:aW)(scope:(List aa))(t59:waE)(t60:Int)(m2:Int)(m3:ag)(m4:Int)(m5:waD)(m6:waC)(m7:waB)(m8:waE)(m9:waD)(m10:waC)(m11:waB)(m12:(List aa))(kids:waE)(t61:Int)(m:waA)
def bP:aA:=bj 96 [(3,.bptr 1 0),(4,.bptr 2 0),(5,.eptr ((cL ac) scope)),(6,.bptr 4 0),(7,.bptr 5 0),(12,sl ae kids),(59,sl ae t59),(60,.int .i64 t60),(61,.int .i64 t61)] [.cells [sl cS m] [(0,9)],.cells [.func (.func 62) [] [.bptr 0 0],.func (.func 61) [] []] [],.cells [.int .i64 m2,.str m3,.int .i64 m4,sl ae t59,sl aq m5,sl az m6,sl ai m7] [(4,85),(6,60)],.dead,.cells [.int .i64 0,.str ([]:ag),.int .i64 0,sl ae m8,sl aq m9,sl az m10,sl ai m11] [(3,28),(4,85),(5,89),(6,60)],.cells [sl ac m12] [(0,137)],.cells [.func (.func 105) [] [.bptr 1 0,.eptr ((cL ac) scope),.bptr 5 0]] [],.dead] [((12,0),28)]
def er(o:waE×waA):aA:=bj 96 [(3,.bptr 1 0),(4,.bptr 2 0),(5,.eptr ((cL ac) scope)),(6,.bptr 4 0),(12,sl ae o.1)] [.cells [sl cS o.2] [(0,9)],.cells [.func (.func 62) [] [.bptr 0 0],.func (.func 61) [] []] [],.cells [.int .i64 m2,.str m3,.int .i64 m4,sl ae t59,sl aq m5,sl az m6,sl ai m7] [(4,85),(6,60)],.dead,.cells [.int .i64 0,.str ([]:ag),.int .i64 0,sl ae m8,sl aq m9,sl az m10,sl ai m11] [(3,28),(4,85),(5,89),(6,60)],.cells [sl ac m12] [(0,137)],.cells [.func (.func 105) [] [.bptr 1 0,.eptr ((cL ac) scope),.bptr 5 0]] [],.dead] [((12,0),28)]
def bk:Option ((waE×Int×waA)⊕((waE×waA))):=
 if(decide (t61<t60))=true then
  (gY t59 t61).bind fun x16=>
  (eH t61 m2).bind fun o18=>
  if o18=true then
   (R21 x16 scope m).bind fun r21=>
   (app kids ([r21.1]:List af)).bind fun l22=>
   some (.inl (l22,cp (t61+1),r21.2))
  else
   (R21 x16 m12 m).bind fun r23=>
   (app kids ([r23.1]:List af)).bind fun l24=>
   some (.inl (l24,cp (t61+1),r23.2))
 else
  some (.inr (kids,m))
def dl:Option ((waE×waA)):=loop (fun(zz:waE×Int×waA)=>bk R21 scope t59 t60 m2 m12 zz.1 zz.2.1 zz.2.2) (kids,t61,m)
theorem ma(hR21:bC R21){y:(waE×Int×waA)⊕((waE×waA))}(h:bk R21 scope t59 t60 m2 m12 kids t61 m=some y):aR Pg GE 1 (cA SL 8183) (LQ (fun(zz:waE×Int×waA)=>bP scope t59 t60 m2 m3 m4 m5 m6 m7 m8 m9 m10 m11 m12 zz.1 zz.2.1 zz.2.2) (fun _=>.exit 1) (er scope t59 m2 m3 m4 m5 m6 m7 m8 m9 m10 m11 m12) y) (bP scope t59 t60 m2 m3 m4 m5 m6 m7 m8 m9 m10 m11 m12 kids t61 m):=by
 rcases aP h with⟨c15,h⟩|⟨c15,h⟩
 ·obtain⟨x16,bx16,h⟩:=aJ h
  obtain⟨o18,bo18,h⟩:=aJ h
  have p20:=fun{sc F} (r:PS sc F)=>sg 0 c15<|sv (g6.ia (k:=.i64) bx16)<|sv (bv x16)<|sx wG<|sx (kv x16)<|rN 0<|dS (mt scope kids t61 t59 t60 m m2 m3 m4 m5 m6 m7 m8 m9 m10 m11 m12 x16.Op x16.Name x16.N x16.Kids x16.Params x16.Alts x16.Types bo18)<|r
  rcases aP h with⟨c19,h⟩|⟨c19,h⟩
  ·obtain⟨r21,br21,h⟩:=aJ h
   obtain⟨l22,bl22,h⟩:=aJ h
   obtain rfl:=lf h
   have z:=p20<|sg 0 c19<|sv (show bK Pg 95 [.func (.func 62) [] [.bptr 0 0],.func (.func 61) [] []]=some (.agg [.func (.func 62) [] [.bptr 0 0],.func (.func 61) [] []]) by kernel_rfl)<|sv (bu x16 [])<|sv (cZ GU (sl ac scope) [])<|si (.cg ⟨[0],[.agg [.func (.func 62) [] [.bptr 0 0],.func (.func 61) [] []],.agg (ae x16),sl ac scope],[],[.cells [sl cS m] [(0,9)]],[.cells [sl cS m] [(0,9)]],[.cells [sl cS r21.2] [(0,9)]],[.cells [sl cS r21.2] [(0,9)]],.agg (ae r21.1),.agg (ae r21.1),[(3,28),(4,85),(5,89),(6,60)]⟩) (hR21 _ _ _ _ br21)<|sf (aI (xA [0] [.func (.func 62) [] [.bptr 0 0],.func (.func 61) [] []] [.func (.func 62) [] [.bptr 0 0],.func (.func 61) [] []] (aI (xF [0] (.func 62) [] [.bptr 0 0] [] [.bptr 0 0] trivial (aI (xB [0] 0 0 0 rfl) trivial)) (aI (xR [0] (.func (.func 61) [] []) (aI trivial trivial)) trivial))) (aI (xR [0] (.agg (ae x16)) (ay x16)) (aI (xR [0] (sl ac scope) (au al scope)) trivial)))<|sf (aI (aI (rB (.cells [sl cS m] [(0,9)])) (aI (rW [(0,9)]) (aI (xR [0] (sl cS m) (au cb m)) trivial))) trivial)<|sf (aI (aI (rW [(0,9)]) (aI (xR [0] (sl cS r21.2) (au cb r21.2)) trivial)) trivial)<|sf (xR [0] (.agg (ae r21.1)) (ay r21.1))<|sv (g6.mk' (v:=rR) nk ([r21.1]:List af) 1 (by kernel_rfl))<|sv (g6.ap bl22)<|tN 1 .normal (bP scope t59 t60 m2 m3 m4 m5 m6 m7 m8 m9 m10 m11 m12 l22 (cp (t61+1)) r21.2) rfl (d5 (aI (aZ rfl) (aI (aZ rfl) (aI (be (mr al scope)) (aI (aZ rfl) (aI (aZ rfl) (aI (up (au ay l22)) (aI (up (au ay t59)) (aI trivial (aI trivial trivial)))))))))) (aI (aI (up (au cb r21.2)) trivial) (aI (aI (aI trivial (aI (aZ rfl) trivial)) (aI (aI trivial trivial) trivial)) (aI (aI trivial (aI trivial (aI trivial (aI (up (au ay t59)) (aI (up (au bo m5)) (aI (up (au bW m6)) (aI (up (au aN m7)) trivial))))))) (aI trivial (aI (aI trivial (aI trivial (aI trivial (aI (up (au ay m8)) (aI (up (au bo m9)) (aI (up (au bW m10)) (aI (up (au aN m11)) trivial))))))) (aI (aI (up (au al m12)) trivial) (aI (aI (aI trivial (aI (aZ rfl) (aI (be (mr al scope)) (aI (aZ rfl) trivial)))) trivial) (aI trivial trivial))))))))
   exact ez (A:=JH) mixed z<|by kernel_rfl
  ·obtain⟨r23,br23,h⟩:=aJ h
   obtain⟨l24,bl24,h⟩:=aJ h
   obtain rfl:=lf h
   have z:=p20<|sg 0 c19<|sv (show bK Pg 95 [.func (.func 62) [] [.bptr 0 0],.func (.func 61) [] []]=some (.agg [.func (.func 62) [] [.bptr 0 0],.func (.func 61) [] []]) by kernel_rfl)<|sv (bu x16 [])<|ss<|si (.cg ⟨[0],[.agg [.func (.func 62) [] [.bptr 0 0],.func (.func 61) [] []],.agg (ae x16),sl ac m12],[],[.cells [sl cS m] [(0,9)]],[.cells [sl cS m] [(0,9)]],[.cells [sl cS r23.2] [(0,9)]],[.cells [sl cS r23.2] [(0,9)]],.agg (ae r23.1),.agg (ae r23.1),[(3,28),(4,85),(5,89),(6,60)]⟩) (hR21 _ _ _ _ br23)<|sf (aI (xA [0] [.func (.func 62) [] [.bptr 0 0],.func (.func 61) [] []] [.func (.func 62) [] [.bptr 0 0],.func (.func 61) [] []] (aI (xF [0] (.func 62) [] [.bptr 0 0] [] [.bptr 0 0] trivial (aI (xB [0] 0 0 0 rfl) trivial)) (aI (xR [0] (.func (.func 61) [] []) (aI trivial trivial)) trivial))) (aI (xR [0] (.agg (ae x16)) (ay x16)) (aI (xR [0] (sl ac m12) (au al m12)) trivial)))<|sf (aI (aI (rB (.cells [sl cS m] [(0,9)])) (aI (rW [(0,9)]) (aI (xR [0] (sl cS m) (au cb m)) trivial))) trivial)<|sf (aI (aI (rW [(0,9)]) (aI (xR [0] (sl cS r23.2) (au cb r23.2)) trivial)) trivial)<|sf (xR [0] (.agg (ae r23.1)) (ay r23.1))<|sv (g6.mk' (v:=rR) nk ([r23.1]:List af) 1 (by kernel_rfl))<|sv (g6.ap bl24)<|tN 1 .normal (bP scope t59 t60 m2 m3 m4 m5 m6 m7 m8 m9 m10 m11 m12 l24 (cp (t61+1)) r23.2) rfl (d5 (aI (aZ rfl) (aI (aZ rfl) (aI (be (mr al scope)) (aI (aZ rfl) (aI (aZ rfl) (aI (up (au ay l24)) (aI (up (au ay t59)) (aI trivial (aI trivial trivial)))))))))) (aI (aI (up (au cb r23.2)) trivial) (aI (aI (aI trivial (aI (aZ rfl) trivial)) (aI (aI trivial trivial) trivial)) (aI (aI trivial (aI trivial (aI trivial (aI (up (au ay t59)) (aI (up (au bo m5)) (aI (up (au bW m6)) (aI (up (au aN m7)) trivial))))))) (aI trivial (aI (aI trivial (aI trivial (aI trivial (aI (up (au ay m8)) (aI (up (au bo m9)) (aI (up (au bW m10)) (aI (up (au aN m11)) trivial))))))) (aI (aI (up (au al m12)) trivial) (aI (aI (aI trivial (aI (aZ rfl) (aI (be (mr al scope)) (aI (aZ rfl) trivial)))) trivial) (aI trivial trivial))))))))
   exact ez (A:=JH) mixed z<|by kernel_rfl
 ·obtain rfl:=lf h
  have z:=sg 0 c15<|eF (.exit 1) (er scope t59 m2 m3 m4 m5 m6 m7 m8 m9 m10 m11 m12 (kids,m))
  exact kc JH (by intro hx;cases hx) z<|by kernel_rfl
theorem mw(hR21:bC R21){x:(waE×waA)}(h:dl R21 scope t59 t60 m2 m12 kids t61 m=some x):aR Pg GE 1 (.loop (cA SL 8183)) (EX (.exit 1) (er scope t59 m2 m3 m4 m5 m6 m7 m8 m9 m10 m11 m12 x)) (bP scope t59 t60 m2 m3 m4 m5 m6 m7 m8 m9 m10 m11 m12 kids t61 m):=
 aR.loop (S:=fun(zz:waE×Int×waA)=>bP scope t59 t60 m2 m3 m4 m5 m6 m7 m8 m9 m10 m11 m12 zz.1 zz.2.1 zz.2.2) (ex:=(fun _=>.exit 1)) (s:=(kids,t61,m)) h fun zz y hy=>ma R21 scope t59 t60 m2 m3 m4 m5 m6 m7 m8 m9 m10 m11 m12 zz.1 zz.2.1 zz.2.2 hR21 hy
end
def dJ(R21:aW)(e:af)(scope:(List aa))(k0:waA):Option (af×waA):=
 (cw e.Types).bind fun r1=>
 (qQ scope).bind fun r2=>
 (dj scope k0 e.Op e.Name e.N e.Kids e.Params e.Alts r1 r2).bind fun o13=>
 (bB e.Params (e.Op==6) scope o13.1 o13.2.2).bind fun r14=>
 (dl R21 scope e.Kids (e.Kids.length:Int) e.Op r14.2.2 ([]:List af) 0 r14.2.1).bind fun o25=>
 (b7 R21 e.Alts scope o25.2).bind fun r26=>
 some ((⟨e.Op,o13.2.1,e.N,o25.1,r14.1,r26.1,r1⟩:af),r26.2)
theorem np(R21:aW)(hR21:bC R21){e:af}{scope:(List aa)}{k0:waA}{r:af×waA}(h:dJ R21 e scope k0=some r):C Pg GE 56 [.agg [.func (.func 62) [] [.bptr 0 0],.func (.func 61) [] []],.agg (ae e),sl ac scope] [] [.cells [sl cS k0] [(0,9)]] (.agg (ae r.1)) [(3,28),(4,85),(5,89),(6,60)] [.cells [sl cS r.2] [(0,9)]]:=by
 obtain⟨r1,br1,h⟩:=aJ h
 obtain⟨r2,br2,h⟩:=aJ h
 obtain⟨o13,bo13,h⟩:=aJ h
 obtain⟨r14,br14,h⟩:=aJ h
 obtain⟨o25,bo25,h⟩:=aJ h
 obtain⟨r26,br26,h⟩:=aJ h
 obtain rfl:=lf h
 have z:=sx (Wy [.func (.func 62) [] [.bptr 0 0],.func (.func 61) [] []])<|sx (kv e)<|se (X7 ac scope)<|sx wG<|ss<|cW (gM br1)<|sv (cZ GU (sl ac scope) [])<|cW (vL br2)<|sx WB<|sx WA<|ss<|rN 0<|dS (ms scope k0 e.Op e.Name e.N e.Kids e.Params e.Alts r1 ([]:List af) ([]:List av) ([]:List aH) ([]:List aj) r2 bo13)<|ss<|sx X8<|ss<|XR 7 [[.bool (e.Op==6)]] [3,4,5,6,7,8,11] [] (Xx (m:=1) (b:=7) rfl [.bool (e.Op==6)] rfl) (Xy 7 (l:=[.bool (e.Op==6)]) (aI trivial trivial)) (Xz (XM [.bool (e.Op==6)]))<|sf (GQ 7 (mr al scope))<|sf (Ij 7 (p:=sl cS o13.1) (au cb o13.1))<|sf (Ij 7 (p:=sl ae e.Kids) (au ay e.Kids))<|sf (Ij 7 (p:=sl aq e.Params) (au bo e.Params))<|sf (Ij 7 (p:=sl az e.Alts) (au bW e.Alts))<|sf (Ij 7 (p:=sl ai r1) (au aN r1))<|sf (Ij 7 (p:=sl ae ([]:List af)) (au ay ([]:List af)))<|sf (Ij 7 (p:=sl aq ([]:List av)) (au bo ([]:List av)))<|sf (Ij 7 (p:=sl az ([]:List aH)) (au bW ([]:List aH)))<|sf (Ij 7 (p:=sl ai ([]:List aj)) (au aN ([]:List aj)))<|sf (Ij 7 (p:=sl ac o13.2.2) (au al o13.2.2))<|sf (GQ 7 (mr al scope))<|ss<|si (.cg ⟨[6,1,0,5],[sl aq e.Params,.func (.func 108) [] [.eptr (cB (e.Op==6)),.bptr 0 0]],[],[.cells [.func (.func 105) [] [.bptr 1 0,.eptr ((cL ac) scope),.bptr 5 0]] [],.cells [.func (.func 62) [] [.bptr 0 0],.func (.func 61) [] []] [],.cells [sl cS o13.1] [(0,9)],.cells [sl ac o13.2.2] [(0,137)]],[.cells [.func (.func 105) [] [.bptr 1 0,.eptr ((cL ac) scope),.bptr 3 0]] [],.cells [.func (.func 62) [] [.bptr 2 0],.func (.func 61) [] []] [],.cells [sl cS o13.1] [(0,9)],.cells [sl ac o13.2.2] [(0,137)]],[.cells [.func (.func 105) [] [.bptr 1 0,.eptr ((cL ac) scope),.bptr 5 0]] [],.cells [.func (.func 62) [] [.bptr 0 0],.func (.func 61) [] []] [],.cells [sl cS r14.2.1] [(0,9)],.cells [sl ac r14.2.2] [(0,137)]],[.cells [.func (.func 105) [] [.bptr 1 0,.eptr ((cL ac) scope),.bptr 3 0]] [],.cells [.func (.func 62) [] [.bptr 2 0],.func (.func 61) [] []] [],.cells [sl cS r14.2.1] [(0,9)],.cells [sl ac r14.2.2] [(0,137)]],sl aq r14.1,sl aq r14.1,[(0,85)]⟩) (gz br14)<|sf (aI (xR [6,1,0,5] (sl aq e.Params) (au bo e.Params)) (aI (xF [6,1,0,5] (.func 108) [] [.eptr (cB (e.Op==6)),.bptr 6 0] [] [.eptr (cB (e.Op==6)),.bptr 0 0] trivial (aI (xR [6,1,0,5] (.eptr (cB (e.Op==6))) (Vj (e.Op==6))) (aI (xB [6,1,0,5] 0 6 0 rfl) trivial))) trivial))<|sf (aI (aI (rB (.cells [.func (.func 105) [] [.bptr 1 0,.eptr ((cL ac) scope),.bptr 5 0]] [])) (aI (rW []) (aI (xF [6,1,0,5] (.func 105) [] [.bptr 1 0,.eptr ((cL ac) scope),.bptr 5 0] [] [.bptr 1 0,.eptr ((cL ac) scope),.bptr 3 0] trivial (aI (xB [6,1,0,5] 1 1 0 rfl) (aI (xR [6,1,0,5] (.eptr ((cL ac) scope)) (mr al scope)) (aI (xB [6,1,0,5] 3 5 0 rfl) trivial)))) trivial))) (aI (aI (rB (.cells [.func (.func 62) [] [.bptr 0 0],.func (.func 61) [] []] [])) (aI (rW []) (aI (xF [6,1,0,5] (.func 62) [] [.bptr 0 0] [] [.bptr 2 0] trivial (aI (xB [6,1,0,5] 2 0 0 rfl) trivial)) (aI (xR [6,1,0,5] (.func (.func 61) [] []) (aI trivial trivial)) trivial)))) (aI (aI (rB (.cells [sl cS o13.1] [(0,9)])) (aI (rW [(0,9)]) (aI (xR [6,1,0,5] (sl cS o13.1) (au cb o13.1)) trivial))) (aI (aI (rB (.cells [sl ac o13.2.2] [(0,137)])) (aI (rW [(0,137)]) (aI (xR [6,1,0,5] (sl ac o13.2.2) (au al o13.2.2)) trivial))) trivial))))<|sf (aI (aI (rW []) (aI (xF [6,1,0,5] (.func 105) [] [.bptr 1 0,.eptr ((cL ac) scope),.bptr 5 0] [] [.bptr 1 0,.eptr ((cL ac) scope),.bptr 3 0] trivial (aI (xB [6,1,0,5] 1 1 0 rfl) (aI (xR [6,1,0,5] (.eptr ((cL ac) scope)) (mr al scope)) (aI (xB [6,1,0,5] 3 5 0 rfl) trivial)))) trivial)) (aI (aI (rW []) (aI (xF [6,1,0,5] (.func 62) [] [.bptr 0 0] [] [.bptr 2 0] trivial (aI (xB [6,1,0,5] 2 0 0 rfl) trivial)) (aI (xR [6,1,0,5] (.func (.func 61) [] []) (aI trivial trivial)) trivial))) (aI (aI (rW [(0,9)]) (aI (xR [6,1,0,5] (sl cS r14.2.1) (au cb r14.2.1)) trivial)) (aI (aI (rW [(0,137)]) (aI (xR [6,1,0,5] (sl ac r14.2.2) (au al r14.2.2)) trivial)) trivial))))<|sf (xR [6,1,0,5] (sl aq r14.1) (au bo r14.1))<|ss<|cq (g6.ln e.Kids)<|dS (mw R21 scope e.Kids (e.Kids.length:Int) e.Op o13.2.1 e.N r14.1 e.Alts r1 ([]:List af) ([]:List av) ([]:List aH) ([]:List aj) r14.2.2 ([]:List af) 0 r14.2.1 hR21 bo25)<|ss<|si (.cg ⟨[1,0],[sl az e.Alts,.func (.func 110) [] [.eptr ((cL ac) scope),.bptr 0 0]],[],[.cells [.func (.func 62) [] [.bptr 0 0],.func (.func 61) [] []] [],.cells [sl cS o25.2] [(0,9)]],[.cells [.func (.func 62) [] [.bptr 1 0],.func (.func 61) [] []] [],.cells [sl cS o25.2] [(0,9)]],[.cells [.func (.func 62) [] [.bptr 0 0],.func (.func 61) [] []] [],.cells [sl cS r26.2] [(0,9)]],[.cells [.func (.func 62) [] [.bptr 1 0],.func (.func 61) [] []] [],.cells [sl cS r26.2] [(0,9)]],sl az r26.1,sl az r26.1,[(0,89)]⟩) (kP R21 hR21 br26)<|sf (aI (xR [1,0] (sl az e.Alts) (au bW e.Alts)) (aI (xF [1,0] (.func 110) [] [.eptr ((cL ac) scope),.bptr 1 0] [] [.eptr ((cL ac) scope),.bptr 0 0] trivial (aI (xR [1,0] (.eptr ((cL ac) scope)) (mr al scope)) (aI (xB [1,0] 0 1 0 rfl) trivial))) trivial))<|sf (aI (aI (rB (.cells [.func (.func 62) [] [.bptr 0 0],.func (.func 61) [] []] [])) (aI (rW []) (aI (xF [1,0] (.func 62) [] [.bptr 0 0] [] [.bptr 1 0] trivial (aI (xB [1,0] 1 0 0 rfl) trivial)) (aI (xR [1,0] (.func (.func 61) [] []) (aI trivial trivial)) trivial)))) (aI (aI (rB (.cells [sl cS o25.2] [(0,9)])) (aI (rW [(0,9)]) (aI (xR [1,0] (sl cS o25.2) (au cb o25.2)) trivial))) trivial))<|sf (aI (aI (rW []) (aI (xF [1,0] (.func 62) [] [.bptr 0 0] [] [.bptr 1 0] trivial (aI (xB [1,0] 1 0 0 rfl) trivial)) (aI (xR [1,0] (.func (.func 61) [] []) (aI trivial trivial)) trivial))) (aI (aI (rW [(0,9)]) (aI (xR [1,0] (sl cS r26.2) (au cb r26.2)) trivial)) trivial))<|sf (xR [1,0] (sl az r26.1) (au bW r26.1))<|sz (bu (⟨e.Op,o13.2.1,e.N,o25.1,r14.1,r26.1,r1⟩:af) [])<|sy (bD (⟨e.Op,o13.2.1,e.N,o25.1,r14.1,r26.1,r1⟩:af))<|en (aI (ra (⟨e.Op,o13.2.1,e.N,o25.1,r14.1,r26.1,r1⟩:af))<|aI (WG (n:=1) (ay (⟨e.Op,o13.2.1,e.N,o25.1,r14.1,r26.1,r1⟩:af)))<|aI (rL [.cells [sl cS r26.2] [(0,9)]])<|aI (aI (aI (up (n:=1) (au cb r26.2)) trivial) trivial)<|rT)
 exact C.evGp (A:=JH) mixed (m:=1) (c:=SL) rfl call56 func56 rfl z<|by kernel_rfl
def eT:((af×(List aa)×waA)->Option (af×waA))->(af×(List aa)×waA)->Option (af×waA):=fun(rec:(af×(List aa)×waA)->Option (af×waA)) (x:af×(List aa)×waA)=>dJ (fun e scope k0=>rec (e,scope,k0)) x.1 x.2.1 x.2.2
def fE(e:af)(scope:(List aa))(k0:waA):Option (af×waA):=sd eT (e,scope,k0)
theorem nK{e:af}{scope:(List aa)}{k0:waA}{r:af×waA}(h:fE e scope k0=some r):C Pg GE 56 [.agg [.func (.func 62) [] [.bptr 0 0],.func (.func 61) [] []],.agg (ae e),sl ac scope] [] [.cells [sl cS k0] [(0,9)]] (.agg (ae r.1)) [(3,28),(4,85),(5,89),(6,60)] [.cells [sl cS r.2] [(0,9)]]:=
 eM (F:=eT) (M:=fun(x:af×(List aa)×waA) (r:af×waA)=>C Pg GE 56 [.agg [.func (.func 62) [] [.bptr 0 0],.func (.func 61) [] []],.agg (ae x.1),sl ac x.2.1] [] [.cells [sl cS x.2.2] [(0,9)]] (.agg (ae r.1)) [(3,28),(4,85),(5,89),(6,60)] [.cells [sl cS r.2] [(0,9)]]) (fun rec hrec x r h=>np _ (fun e scope k0 r h=>hrec (e,scope,k0) r h) h) h
noncomputable def Yu:Code:=f15.body.getD .skip
def Yd:List Nat:=[]
def gL(e:af):Option af:=
 (mT e).bind fun r1=>
 (fE e ([]:List aa) r1).bind fun r2=>
 some r2.1
theorem nn{e:af}{r:af}(h:gL e=some r):CC Pg GE 15 [.agg (ae e)] (.agg (ae r)) [(3,28),(4,85),(5,89),(6,60)]:=by
 obtain⟨r1,br1,h⟩:=aJ h
 obtain⟨r2,br2,h⟩:=aJ h
 obtain rfl:=lf h
 have z:=se (cJ e)<|sx wG<|sv (bv e)<|cW (mU br1)<|sx XL<|sv (show dX Pg 95 [(1,.func (.func 61) [] []),(0,.func (.func 62) [] [.bptr 2 0])]=some (.agg [.func (.func 62) [] [.bptr 2 0],.func (.func 61) [] []]) by kernel_rfl)<|sx WC<|sx (Wy [.func (.func 62) [] [.bptr 2 0],.func (.func 61) [] []])<|sv (show bK Pg 95 [.func (.func 62) [] [.bptr 2 0],.func (.func 61) [] []]=some (.agg [.func (.func 62) [] [.bptr 2 0],.func (.func 61) [] []]) by kernel_rfl)<|sv (bv e)<|si (.cg ⟨[2],[.agg [.func (.func 62) [] [.bptr 0 0],.func (.func 61) [] []],.agg (ae e),sl ac ([]:List aa)],[],[.cells [sl cS r1] [(0,9)]],[.cells [sl cS r1] [(0,9)]],[.cells [sl cS r2.2] [(0,9)]],[.cells [sl cS r2.2] [(0,9)]],.agg (ae r2.1),.agg (ae r2.1),[(3,28),(4,85),(5,89),(6,60)]⟩) (nK br2)<|sf (aI (xA [2] [.func (.func 62) [] [.bptr 2 0],.func (.func 61) [] []] [.func (.func 62) [] [.bptr 0 0],.func (.func 61) [] []] (aI (xF [2] (.func 62) [] [.bptr 2 0] [] [.bptr 0 0] trivial (aI (xB [2] 0 2 0 rfl) trivial)) (aI (xR [2] (.func (.func 61) [] []) (aI trivial trivial)) trivial))) (aI (xR [2] (.agg (ae e)) (ay e)) (aI (xR [2] (sl ac ([]:List aa)) (au al ([]:List aa))) trivial)))<|sf (aI (aI (rB (.cells [sl cS r1] [(0,9)])) (aI (rW [(0,9)]) (aI (xR [2] (sl cS r1) (au cb r1)) trivial))) trivial)<|sf (aI (aI (rW [(0,9)]) (aI (xR [2] (sl cS r2.2) (au cb r2.2)) trivial)) trivial)<|sf (xR [2] (.agg (ae r2.1)) (ay r2.1))<|sy (bD r2.1)<|en (aI (ra r2.1)<|aI (ay r2.1)<|rT)
 exact cR Yd call15 func15 (c:=Yu) rfl (aI (ay e) trivial) z<|by kernel_rfl
noncomputable def YA:Code:=f49.body.getD .skip
def Yj:List Nat:=[]
def zw(a:ag)(a2:ag):Option af:=
 (gH a).bind fun r1=>
 (gH a2).bind fun r2=>
 some (⟨10,([]:ag),0,([r1,r2]:List af),([]:List av),([]:List aH),([]:List aj)⟩:af)
theorem zx{a:ag}{a2:ag}{r:af}(h:zw a a2=some r):CC Pg GE 49 [.str a,.str a2] (.agg (ae r)) [(4,85),(5,89),(6,60)]:=by
 obtain⟨r1,br1,h⟩:=aJ h
 obtain⟨r2,br2,h⟩:=aJ h
 obtain rfl:=lf h
 have z:=sx wG<|cW (fb br1)<|cW (fb br2)<|sv (g6.mk' (v:=rR) nk ([r1,r2]:List af) 2 (by kernel_rfl))<|sb (K0 10 ([r1,r2]:List af)) (KX 10 ([r1,r2]:List af))<|sy (bD (⟨10,([]:ag),0,([r1,r2]:List af),([]:List av),([]:List aH),([]:List aj)⟩:af))<|en (aI (ra (⟨10,([]:ag),0,([r1,r2]:List af),([]:List av),([]:List aH),([]:List aj)⟩:af))<|aI (ay (⟨10,([]:ag),0,([r1,r2]:List af),([]:List av),([]:List aH),([]:List aj)⟩:af))<|rT)
 exact cR Yj call49 func49 (c:=YA) rfl (aI trivial (aI trivial trivial)) z<|by kernel_rfl
noncomputable def VX:Code:=f26.body.getD .skip
def U8:List Nat:=[]
section
variable(v:waA)(v2:waA)(i:Int)
def iR:aA:=bj 26 [(0,sl cS v),(1,sl cS v2),(5,.int .i64 i)] [] []
def iS(o:Unit⊕(Unit)):Exit:=match o with
 |(.inl _)=>.ret
 |(.inr _)=>.exit 0
def gq(o:Unit⊕(Unit)):aA:=match o with
 |(.inl o)=>bj 26 [(4,.bool false)] [] []
 |(.inr o)=>bj 26 [] [] []
def gp:Option (Int⊕(Unit⊕(Unit))):=
 if(decide (i<(v.length:Int)))=true then
  (gY v i).bind fun x4=>
  (gY v2 i).bind fun x5=>
  if(!(x4==x5))=true then
   some (.inr (.inl ()))
  else
   some (.inl (cp (i+1)))
 else
  some (.inr (.inr ()))
def qN:Option (Unit⊕(Unit)):=loop (fun(zz:Int)=>gp v v2 zz) i
theorem zh{y:Int⊕(Unit⊕(Unit))}(h:gp v v2 i=some y):aR Pg GE 0 (cA VX 119) (LQ (fun(zz:Int)=>iR v v2 zz) iS gq y) (iR v v2 i):=by
 rcases aP h with⟨c3,h⟩|⟨c3,h⟩
 ·obtain⟨x4,bx4,h⟩:=aJ h
  obtain⟨x5,bx5,h⟩:=aJ h
  have p7:=fun{sc F} (r:PS sc F)=>cq (dK.ln v)<|sg 0 c3<|I1 [0,0,3,7,0,0,48,112,255]<|sv (dK.ia (k:=.i64) bx4)<|sv (cZ Ge (.str x4) [])<|sv (dK.ia (k:=.i64) bx5)<|sv (cZ Ge (.str x5) [])<|r
  rcases aP h with⟨c6,h⟩|⟨c6,h⟩
  ·obtain rfl:=lf h
   have z:=p7<|sg 0 c6<|eF (iS (.inl ())) (gq (.inl ()))
   exact kc U8 (by intro hx;cases hx) z<|by kernel_rfl
  ·obtain rfl:=lf h
   exact AU U8 (p7<|sg 0 c6<|eF .normal (iR v v2 (cp (i+1))))<|by kernel_rfl
 ·obtain rfl:=lf h
  have z:=cq (dK.ln v)<|sg 0 c3<|eF (iS (.inr ())) (gq (.inr ()))
  exact kc U8 (by intro hx;cases hx) z<|by kernel_rfl
theorem s8{x:Unit⊕(Unit)}(h:qN v v2 i=some x):aR Pg GE 0 (.loop (cA VX 119)) (EX (iS x) (gq x)) (iR v v2 i):=
 aR.loop (S:=fun(zz:Int)=>iR v v2 zz) (ex:=iS) (s:=i) h fun zz y hy=>zh v v2 zz hy
end
def iH(a:waA)(a2:waA):Option Bool:=
 if((a.length:Int)!=(a2.length:Int))=true then
  some false
 else
  (qN a a2 0).bind fun o8=>match o8 with
  |(.inl o8)=>
   some false
  |(.inr o8)=>
   some true
theorem kf{a:waA}{a2:waA}{r:Bool}(h:iH a a2=some r):CC Pg GE 26 [sl cS a,sl cS a2] (.bool r) []:=by
 have p2:=fun{sc F} (r:PS sc F)=>cq (dK.ln a)<|cq (dK.ln a2)<|r
 rcases aP h with⟨c1,h⟩|⟨c1,h⟩
 ·obtain rfl:=lf h
  have z:=p2<|sg 0 c1<|en (aI (rP (.bool false))<|trivial)
  exact cR U8 call26 func26 (c:=VX) rfl (aI (au cb a) (aI (au cb a2) trivial)) z<|by kernel_rfl
 ·obtain⟨o8,bo8,h⟩:=aJ h
  rcases o8 with o8|o8
  ·obtain rfl:=lf h
   have z:=p2<|sg 0 c1<|dS (e:=.ret) (s1:=gq (.inl o8)) (s8 a a2 0 bo8)<|en (aI (rP (.bool false))<|trivial)
   exact cR U8 call26 func26 (c:=VX) rfl (aI (au cb a) (aI (au cb a2) trivial)) z<|by kernel_rfl
  ·obtain rfl:=lf h
   have z:=p2<|sg 0 c1<|dS (e:=.exit 0) (s1:=gq (.inr o8)) (s8 a a2 0 bo8)<|en (aI (rP (.bool true))<|trivial)
   exact cR U8 call26 func26 (c:=VX) rfl (aI (au cb a) (aI (au cb a2) trivial)) z<|by kernel_rfl
abbrev qP:=(af->af->Option Bool)
abbrev qM(R:qP):Prop:=∀(a:af) (a2:af) (r:Bool),R a a2=some r->CC Pg GE 12 [.agg (ae a),.agg (ae a2)] (.bool r) []
abbrev kj:=(aj->aj->Option Bool)
abbrev py(R:kj):Prop:=∀(a:aj) (a2:aj) (r:Bool),R a a2=some r->CC Pg GE 97 [.agg (ai a),.agg (ai a2)] (.bool r) []
abbrev xL:=(ax->ax->Option Bool)
abbrev Ci(R:xL):Prop:=∀(a:ax) (a2:ax) (r:Bool),R a a2=some r->CC Pg GE 133 [.agg (aw a),.agg (aw a2)] (.bool r) []
noncomputable def Ps:Code:=f133.body.getD .skip
def I4:List Nat:=[39]
section
variable(v:ax)(v2:ax)
def I7:aA:=bj 53 [(2,.eptr (aw v)),(3,.eptr (aw v2))] [.dead,.dead] []
def nO(o:Bool):aA:=bj 53 [(2,.eptr (aw v)),(3,.eptr (aw v2)),(33,.bool o)] [.dead,.dead] []
def za:Option Bool:=
 if(v.Op !=v2.Op)=true then
  some true
 else
  if(!(v.Name==v2.Name))=true then
   some true
  else
   if(v.N !=v2.N)=true then
    some true
   else
    some ((v.Kids.length:Int)!=(v2.Kids.length:Int))
theorem Hn{x:Bool}(h:za v v2=some x):aR Pg GE 0 (cA Ps 12) (EX .normal (nO v v2 x)) (I7 v v2):=by
 have p2:=fun{sc F} (r:PS sc F)=>sv (rE v)<|sv (rH v)<|sv (rE v2)<|sv (rH v2)<|r
 rcases aP h with⟨c1,h⟩|⟨c1,h⟩
 ·obtain rfl:=lf h
  exact bJ I4 (p2<|sg 6 c1<|eF .normal (nO v v2 true))<|by kernel_rfl
 ·have p4:=fun{sc F} (r:PS sc F)=>p2<|sg 6 c1<|sv (n8 v)<|sv (pM v)<|sv (n8 v2)<|sv (pM v2)<|r
  rcases aP h with⟨c3,h⟩|⟨c3,h⟩
  ·obtain rfl:=lf h
   exact bJ I4 (p4<|sg 13 c3<|eF .normal (nO v v2 true))<|by kernel_rfl
  ·have p6:=fun{sc F} (r:PS sc F)=>p4<|sg 13 c3<|sv (rF v)<|sv (tB v)<|sv (rF v2)<|sv (tB v2)<|r
   rcases aP h with⟨c5,h⟩|⟨c5,h⟩
   ·obtain rfl:=lf h
    exact bJ I4 (p6<|sg 20 c5<|eF .normal (nO v v2 true))<|by kernel_rfl
   ·obtain rfl:=lf h
    exact bJ I4 (p6<|sg 20 c5<|sv (gI v)<|sv (gK v)<|cq (nH.ln v.Kids)<|sv (gI v2)<|sv (gK v2)<|cq (nH.ln v2.Kids)<|eF .normal (nO v v2 ((v.Kids.length:Int)!=(v2.Kids.length:Int))))<|by kernel_rfl
end
section
variable(R39:xL)(v:ax)(v2:ax)(t36:Int)(t37:Int)
def nQ:aA:=bj 53 [(2,.eptr (aw v)),(3,.eptr (aw v2)),(36,.int .i64 t36),(37,.int .i64 t37)] [.dead,.dead] []
def nR(o:Unit⊕(Unit)):Exit:=match o with
 |(.inl _)=>.ret
 |(.inr _)=>.exit 0
def lR(o:Unit⊕(Unit)):aA:=match o with
 |(.inl o)=>bj 53 [(4,.bool false)] [.dead,.dead] []
 |(.inr o)=>bj 53 [] [.dead,.dead] []
def rz:Option (Int⊕(Unit⊕(Unit))):=
 if(decide (t37<t36))=true then
  (gY v.Kids t37).bind fun x11=>
  (gY v2.Kids t37).bind fun x12=>
  (R39 x11 x12).bind fun r13=>
  if(!r13)=true then
   some (.inr (.inl ()))
  else
   some (.inl (cp (t37+1)))
 else
  some (.inr (.inr ()))
def zb:Option (Unit⊕(Unit)):=loop (fun(zz:Int)=>rz R39 v v2 t36 zz) t37
theorem Gn(hR39:Ci R39){y:Int⊕(Unit⊕(Unit))}(h:rz R39 v v2 t36 t37=some y):aR Pg GE 0 (cA Ps 119) (LQ (fun(zz:Int)=>nQ v v2 t36 zz) nR lR y) (nQ v v2 t36 t37):=by
 rcases aP h with⟨c10,h⟩|⟨c10,h⟩
 ·obtain⟨x11,bx11,h⟩:=aJ h
  obtain⟨x12,bx12,h⟩:=aJ h
  obtain⟨r13,br13,h⟩:=aJ h
  have p15:=fun{sc F} (r:PS sc F)=>sg 0 c10<|I1 [0,1,0,7,15,0,32,0,224,480,1023,2047]<|sv (gI v)<|sv (gK v)<|sv (nH.ia (k:=.i64) bx11)<|sv (pN x11)<|sv (gI v2)<|sv (gK v2)<|sv (nH.ia (k:=.i64) bx12)<|sv (pN x12)<|cW (hR39 _ _ _ br13)<|r
  rcases aP h with⟨c14,h⟩|⟨c14,h⟩
  ·obtain rfl:=lf h
   have z:=p15<|sg 0 c14<|eF (nR (.inl ())) (lR (.inl ()))
   exact kc I4 (by intro hx;cases hx) z<|by kernel_rfl
  ·obtain rfl:=lf h
   exact AU I4 (p15<|sg 0 c14<|eF .normal (nQ v v2 t36 (cp (t37+1))))<|by kernel_rfl
 ·obtain rfl:=lf h
  have z:=sg 0 c10<|eF (nR (.inr ())) (lR (.inr ()))
  exact kc I4 (by intro hx;cases hx) z<|by kernel_rfl
theorem zc(hR39:Ci R39){x:Unit⊕(Unit)}(h:zb R39 v v2 t36 t37=some x):aR Pg GE 0 (.loop (cA Ps 119)) (EX (nR x) (lR x)) (nQ v v2 t36 t37):=
 aR.loop (S:=fun(zz:Int)=>nQ v v2 t36 zz) (ex:=nR) (s:=t37) h fun zz y hy=>Gn R39 v v2 t36 zz hR39 hy
end
def xE(R39:xL)(a:ax)(a2:ax):Option Bool:=
 (za a a2).bind fun o7=>
 if o7=true then
  some false
 else
  (zb R39 a a2 (a.Kids.length:Int) 0).bind fun o16=>match o16 with
  |(.inl o16)=>
   some false
  |(.inr o16)=>
   some true
theorem KH(R39:xL)(hR39:Ci R39){a:ax}{a2:ax}{r:Bool}(h:xE R39 a a2=some r):CC Pg GE 133 [.agg (aw a),.agg (aw a2)] (.bool r) []:=by
 obtain⟨o7,bo7,h⟩:=aJ h
 have p9:=fun{sc F} (r:PS sc F)=>se (DV a)<|se (DV a2)<|rN 1<|dS (Hn a a2 bo7)<|r
 rcases aP h with⟨c8,h⟩|⟨c8,h⟩
 ·obtain rfl:=lf h
  have z:=p9<|sg 0 c8<|en (aI (rP (.bool false))<|trivial)
  exact cR I4 call133 func133 (c:=Ps) rfl (aI (bO a) (aI (bO a2) trivial)) z<|by kernel_rfl
 ·obtain⟨o16,bo16,h⟩:=aJ h
  rcases o16 with o16|o16
  ·obtain rfl:=lf h
   have z:=p9<|sg 0 c8<|sv (gI a)<|sv (gK a)<|cq (nH.ln a.Kids)<|dS (e:=.ret) (s1:=lR (.inl o16)) (zc R39 a a2 (a.Kids.length:Int) 0 hR39 bo16)<|en (aI (rP (.bool false))<|trivial)
   exact cR I4 call133 func133 (c:=Ps) rfl (aI (bO a) (aI (bO a2) trivial)) z<|by kernel_rfl
  ·obtain rfl:=lf h
   have z:=p9<|sg 0 c8<|sv (gI a)<|sv (gK a)<|cq (nH.ln a.Kids)<|dS (e:=.exit 0) (s1:=lR (.inr o16)) (zc R39 a a2 (a.Kids.length:Int) 0 hR39 bo16)<|en (aI (rP (.bool true))<|trivial)
   exact cR I4 call133 func133 (c:=Ps) rfl (aI (bO a) (aI (bO a2) trivial)) z<|by kernel_rfl
def Cj:((ax×ax)->Option Bool)->(ax×ax)->Option Bool:=fun(rec:(ax×ax)->Option Bool) (x:ax×ax)=>xE (fun a a2=>rec (a,a2)) x.1 x.2
def C7(a:ax)(a2:ax):Option Bool:=sd Cj (a,a2)
theorem FF{a:ax}{a2:ax}{r:Bool}(h:C7 a a2=some r):CC Pg GE 133 [.agg (aw a),.agg (aw a2)] (.bool r) []:=
 eM (F:=Cj) (M:=fun(x:ax×ax) (r:Bool)=>CC Pg GE 133 [.agg (aw x.1),.agg (aw x.2)] (.bool r) []) (fun rec hrec x r h=>KH _ (fun a a2 r h=>hrec (a,a2) r h) h) h
noncomputable def VY:Code:=f51.body.getD .skip
def U9:List Nat:=[]
section
variable(R38:kj)(v:waB)(v2:waB)(i:Int)
def iT:aA:=bj 27 [(0,sl ai v),(1,sl ai v2),(5,.int .i64 i)] [] []
def iU(o:Unit⊕(Unit)):Exit:=match o with
 |(.inl _)=>.ret
 |(.inr _)=>.exit 0
def gu(o:Unit⊕(Unit)):aA:=match o with
 |(.inl o)=>bj 27 [(4,.bool false)] [] []
 |(.inr o)=>bj 27 [] [] []
def gr:Option (Int⊕(Unit⊕(Unit))):=
 if(decide (i<(v.length:Int)))=true then
  (gY v i).bind fun x4=>
  (gY v2 i).bind fun x5=>
  (R38 x4 x5).bind fun r6=>
  if(!r6)=true then
   some (.inr (.inl ()))
  else
   some (.inl (cp (i+1)))
 else
  some (.inr (.inr ()))
def qO:Option (Unit⊕(Unit)):=loop (fun(zz:Int)=>gr R38 v v2 zz) i
theorem zi(hR38:py R38){y:Int⊕(Unit⊕(Unit))}(h:gr R38 v v2 i=some y):aR Pg GE 0 (cA VY 119) (LQ (fun(zz:Int)=>iT v v2 zz) iU gu y) (iT v v2 i):=by
 rcases aP h with⟨c3,h⟩|⟨c3,h⟩
 ·obtain⟨x4,bx4,h⟩:=aJ h
  obtain⟨x5,bx5,h⟩:=aJ h
  obtain⟨r6,br6,h⟩:=aJ h
  have p8:=fun{sc F} (r:PS sc F)=>cq (ee.ln v)<|sg 0 c3<|I1 [0,0,3,7,0,0,48,112,255,511]<|sv (ee.ia (k:=.i64) bx4)<|sv (lm x4)<|sv (ee.ia (k:=.i64) bx5)<|sv (lm x5)<|cW (hR38 _ _ _ br6)<|r
  rcases aP h with⟨c7,h⟩|⟨c7,h⟩
  ·obtain rfl:=lf h
   have z:=p8<|sg 0 c7<|eF (iU (.inl ())) (gu (.inl ()))
   exact kc U9 (by intro hx;cases hx) z<|by kernel_rfl
  ·obtain rfl:=lf h
   exact AU U9 (p8<|sg 0 c7<|eF .normal (iT v v2 (cp (i+1))))<|by kernel_rfl
 ·obtain rfl:=lf h
  have z:=cq (ee.ln v)<|sg 0 c3<|eF (iU (.inr ())) (gu (.inr ()))
  exact kc U9 (by intro hx;cases hx) z<|by kernel_rfl
theorem s9(hR38:py R38){x:Unit⊕(Unit)}(h:qO R38 v v2 i=some x):aR Pg GE 0 (.loop (cA VY 119)) (EX (iU x) (gu x)) (iT v v2 i):=
 aR.loop (S:=fun(zz:Int)=>iT v v2 zz) (ex:=iU) (s:=i) h fun zz y hy=>zi R38 v v2 zz hR38 hy
end
def nV(R38:kj)(a:waB)(a2:waB):Option Bool:=
 if((a.length:Int)!=(a2.length:Int))=true then
  some false
 else
  (qO R38 a a2 0).bind fun o9=>match o9 with
  |(.inl o9)=>
   some false
  |(.inr o9)=>
   some true
theorem wJ(R38:kj)(hR38:py R38){a:waB}{a2:waB}{r:Bool}(h:nV R38 a a2=some r):CC Pg GE 51 [sl ai a,sl ai a2] (.bool r) []:=by
 have p2:=fun{sc F} (r:PS sc F)=>cq (ee.ln a)<|cq (ee.ln a2)<|r
 rcases aP h with⟨c1,h⟩|⟨c1,h⟩
 ·obtain rfl:=lf h
  have z:=p2<|sg 0 c1<|en (aI (rP (.bool false))<|trivial)
  exact cR U9 call51 func51 (c:=VY) rfl (aI (au aN a) (aI (au aN a2) trivial)) z<|by kernel_rfl
 ·obtain⟨o9,bo9,h⟩:=aJ h
  rcases o9 with o9|o9
  ·obtain rfl:=lf h
   have z:=p2<|sg 0 c1<|dS (e:=.ret) (s1:=gu (.inl o9)) (s9 R38 a a2 0 hR38 bo9)<|en (aI (rP (.bool false))<|trivial)
   exact cR U9 call51 func51 (c:=VY) rfl (aI (au aN a) (aI (au aN a2) trivial)) z<|by kernel_rfl
  ·obtain rfl:=lf h
   have z:=p2<|sg 0 c1<|dS (e:=.exit 0) (s1:=gu (.inr o9)) (s9 R38 a a2 0 hR38 bo9)<|en (aI (rP (.bool true))<|trivial)
   exact cR U9 call51 func51 (c:=VY) rfl (aI (au aN a) (aI (au aN a2) trivial)) z<|by kernel_rfl
noncomputable def Vh:Code:=f97.body.getD .skip
def QG:List Nat:=[]
section
variable(v:aj)(v2:aj)
def C8:aA:=bj 67 [(2,.eptr (ai v)),(3,.eptr (ai v2))] [.dead,.dead] []
def hU(o:Bool):aA:=bj 67 [(2,.eptr (ai v)),(3,.eptr (ai v2)),(42,.bool o)] [.dead,.dead] []
def sH:Option Bool:=
 if(v.Op !=v2.Op)=true then
  some true
 else
  if(!(v.Name==v2.Name))=true then
   some true
  else
   (iH v.Names v2.Names).bind fun r5=>
   if(!r5)=true then
    some true
   else
    (C7 v.Pred v2.Pred).bind fun r8=>
    if(!r8)=true then
     some true
    else
     some ((v.Preds.length:Int)!=(v2.Preds.length:Int))
theorem Cl{x:Bool}(h:sH v v2=some x):aR Pg GE 0 (cA Vh 12) (EX .normal (hU v v2 x)) (C8 v v2):=by
 have p2:=fun{sc F} (r:PS sc F)=>sv (cO v)<|sv (cP v)<|sv (cO v2)<|sv (cP v2)<|r
 rcases aP h with⟨c1,h⟩|⟨c1,h⟩
 ·obtain rfl:=lf h
  exact bJ QG (p2<|sg 6 c1<|eF .normal (hU v v2 true))<|by kernel_rfl
 ·have p4:=fun{sc F} (r:PS sc F)=>p2<|sg 6 c1<|sv (gJ v)<|sv (iE v)<|sv (gJ v2)<|sv (iE v2)<|r
  rcases aP h with⟨c3,h⟩|⟨c3,h⟩
  ·obtain rfl:=lf h
   exact bJ QG (p4<|sg 13 c3<|eF .normal (hU v v2 true))<|by kernel_rfl
  ·obtain⟨r5,br5,h⟩:=aJ h
   have p7:=fun{sc F} (r:PS sc F)=>p4<|sg 13 c3<|sv (eL v)<|sv (eO v)<|sv (eL v2)<|sv (eO v2)<|cW (kf br5)<|r
   rcases aP h with⟨c6,h⟩|⟨c6,h⟩
   ·obtain rfl:=lf h
    exact bJ QG (p7<|sg 21 c6<|eF .normal (hU v v2 true))<|by kernel_rfl
   ·obtain⟨r8,br8,h⟩:=aJ h
    have p10:=fun{sc F} (r:PS sc F)=>p7<|sg 21 c6<|sv (n9 v)<|sv (oc v)<|sv (n9 v2)<|sv (oc v2)<|cW (FF br8)<|r
    rcases aP h with⟨c9,h⟩|⟨c9,h⟩
    ·obtain rfl:=lf h
     exact bJ QG (p10<|sg 29 c9<|eF .normal (hU v v2 true))<|by kernel_rfl
    ·obtain rfl:=lf h
     exact bJ QG (p10<|sg 29 c9<|sv (iJ v)<|sv (iL v)<|cq (nH.ln v.Preds)<|sv (iJ v2)<|sv (iL v2)<|cq (nH.ln v2.Preds)<|eF .normal (hU v v2 ((v.Preds.length:Int)!=(v2.Preds.length:Int))))<|by kernel_rfl
end
section
variable(v:aj)(v2:aj)(i:Int)
def jE:aA:=bj 67 [(2,.eptr (ai v)),(3,.eptr (ai v2)),(5,.int .i64 i)] [.dead,.dead] []
def jF(o:Unit⊕(Unit)):Exit:=match o with
 |(.inl _)=>.ret
 |(.inr _)=>.exit 0
def hX(o:Unit⊕(Unit)):aA:=match o with
 |(.inl o)=>bj 67 [(4,.bool false)] [.dead,.dead] []
 |(.inr o)=>bj 67 [(2,.eptr (ai v)),(3,.eptr (ai v2))] [.dead,.dead] []
def fH:Option (Int⊕(Unit⊕(Unit))):=
 if(decide (i<(v.Preds.length:Int)))=true then
  (gY v.Preds i).bind fun x16=>
  (gY v2.Preds i).bind fun x17=>
  (C7 x16 x17).bind fun r18=>
  if(!r18)=true then
   some (.inr (.inl ()))
  else
   some (.inl (cp (i+1)))
 else
  some (.inr (.inr ()))
def sI:Option (Unit⊕(Unit)):=loop (fun(zz:Int)=>fH v v2 zz) i
theorem Bd{y:Int⊕(Unit⊕(Unit))}(h:fH v v2 i=some y):aR Pg GE 0 (cA Vh 119) (LQ (fun(zz:Int)=>jE v v2 zz) jF (hX v v2) y) (jE v v2 i):=by
 have p15:=fun{sc F} (r:PS sc F)=>sv (iJ v)<|sv (iL v)<|cq (nH.ln v.Preds)<|r
 rcases aP h with⟨c14,h⟩|⟨c14,h⟩
 ·obtain⟨x16,bx16,h⟩:=aJ h
  obtain⟨x17,bx17,h⟩:=aJ h
  obtain⟨r18,br18,h⟩:=aJ h
  have p20:=fun{sc F} (r:PS sc F)=>p15<|sg 0 c14<|I1 [0,1,0,7,15,0,32,0,224,480,1023,2047]<|sv (iJ v)<|sv (iL v)<|sv (nH.ia (k:=.i64) bx16)<|sv (pN x16)<|sv (iJ v2)<|sv (iL v2)<|sv (nH.ia (k:=.i64) bx17)<|sv (pN x17)<|cW (FF br18)<|r
  rcases aP h with⟨c19,h⟩|⟨c19,h⟩
  ·obtain rfl:=lf h
   have z:=p20<|sg 0 c19<|eF (jF (.inl ())) (hX v v2 (.inl ()))
   exact kc QG (by intro hx;cases hx) z<|by kernel_rfl
  ·obtain rfl:=lf h
   exact AU QG (p20<|sg 0 c19<|eF .normal (jE v v2 (cp (i+1))))<|by kernel_rfl
 ·obtain rfl:=lf h
  have z:=p15<|sg 0 c14<|eF (jF (.inr ())) (hX v v2 (.inr ()))
  exact kc QG (by intro hx;cases hx) z<|by kernel_rfl
theorem tX{x:Unit⊕(Unit)}(h:sI v v2 i=some x):aR Pg GE 0 (.loop (cA Vh 119)) (EX (jF x) (hX v v2 x)) (jE v v2 i):=
 aR.loop (S:=fun(zz:Int)=>jE v v2 zz) (ex:=jF) (s:=i) h fun zz y hy=>Bd v v2 zz hy
end
def pz(R38:kj)(a:aj)(a2:aj):Option Bool:=
 (sH a a2).bind fun o11=>
 if o11=true then
  some false
 else
  (sI a a2 0).bind fun o21=>match o21 with
  |(.inl o21)=>
   some false
  |(.inr o21)=>
   (nV R38 a.Args a2.Args).bind fun r22=>
   some r22
theorem Ey(R38:kj)(hR38:py R38){a:aj}{a2:aj}{r:Bool}(h:pz R38 a a2=some r):CC Pg GE 97 [.agg (ai a),.agg (ai a2)] (.bool r) []:=by
 obtain⟨o11,bo11,h⟩:=aJ h
 have p13:=fun{sc F} (r:PS sc F)=>se (pS a)<|se (pS a2)<|rN 1<|dS (Cl a a2 bo11)<|r
 rcases aP h with⟨c12,h⟩|⟨c12,h⟩
 ·obtain rfl:=lf h
  have z:=p13<|sg 0 c12<|en (aI (rP (.bool false))<|trivial)
  exact cR QG call97 func97 (c:=Vh) rfl (aI (aN a) (aI (aN a2) trivial)) z<|by kernel_rfl
 ·obtain⟨o21,bo21,h⟩:=aJ h
  rcases o21 with o21|o21
  ·obtain rfl:=lf h
   have z:=p13<|sg 0 c12<|dS (e:=.ret) (s1:=hX a a2 (.inl o21)) (tX a a2 0 bo21)<|en (aI (rP (.bool false))<|trivial)
   exact cR QG call97 func97 (c:=Vh) rfl (aI (aN a) (aI (aN a2) trivial)) z<|by kernel_rfl
  ·obtain⟨r22,br22,h⟩:=aJ h
   obtain rfl:=lf h
   have z:=p13<|sg 0 c12<|dS (e:=.exit 0) (s1:=hX a a2 (.inr o21)) (tX a a2 0 bo21)<|sv (dG a)<|sv (dH a)<|sv (dG a2)<|sv (dH a2)<|cW (wJ R38 hR38 br22)<|en (aI (rP (.bool r22))<|trivial)
   exact cR QG call97 func97 (c:=Vh) rfl (aI (aN a) (aI (aN a2) trivial)) z<|by kernel_rfl
def tW:((aj×aj)->Option Bool)->(aj×aj)->Option Bool:=fun(rec:(aj×aj)->Option Bool) (x:aj×aj)=>pz (fun a a2=>rec (a,a2)) x.1 x.2
def nb(a:aj)(a2:aj):Option Bool:=sd tW (a,a2)
theorem yt{a:aj}{a2:aj}{r:Bool}(h:nb a a2=some r):CC Pg GE 97 [.agg (ai a),.agg (ai a2)] (.bool r) []:=
 eM (F:=tW) (M:=fun(x:aj×aj) (r:Bool)=>CC Pg GE 97 [.agg (ai x.1),.agg (ai x.2)] (.bool r) []) (fun rec hrec x r h=>Ey _ (fun a a2 r h=>hrec (a,a2) r h) h) h
noncomputable def Ve:Code:=f50.body.getD .skip
def T0:List Nat:=[]
section
variable(v:waD)(v2:waD)(i:Int)
def Be:aA:=bj 42 [(0,sl aq v),(1,sl aq v2),(5,.int .i64 i)] [] []
def nC(o:Bool):aA:=bj 42 [(0,sl aq v),(1,sl aq v2),(5,.int .i64 i),(41,.bool o)] [] []
def pB:Option Bool:=
 (gY v i).bind fun x4=>
 (gY v2 i).bind fun x5=>
 if(!(x4.Name==x5.Name))=true then
  some true
 else
  (gY v i).bind fun x8=>
  (gY v2 i).bind fun x9=>
  (nb x8.Type_ x9.Type_).bind fun r10=>
  some (!r10)
theorem zr{x:Bool}(h:pB v v2 i=some x):aR Pg GE 0 (cA Ve 1914) (EX .normal (nC v v2 i x)) (Be v v2 i):=by
 obtain⟨x4,bx4,h⟩:=aJ h
 obtain⟨x5,bx5,h⟩:=aJ h
 have p7:=fun{sc F} (r:PS sc F)=>I1 [0,0,3,7,15,0,0,96,224,480,1023,2047,4095,4095,16383,32767,65535,4095,4095,397311,921599,1970175,4194303,8388607,16777215]<|sv (lC.ia (k:=.i64) bx4)<|sv (pH x4)<|sv (rG x4)<|sv (lC.ia (k:=.i64) bx5)<|sv (pH x5)<|sv (rG x5)<|r
 rcases aP h with⟨c6,h⟩|⟨c6,h⟩
 ·obtain rfl:=lf h
  exact bJ T0 (p7<|sg 12 c6<|eF .normal (nC v v2 i true))<|by kernel_rfl
 ·obtain⟨x8,bx8,h⟩:=aJ h
  obtain⟨x9,bx9,h⟩:=aJ h
  obtain⟨r10,br10,h⟩:=aJ h
  obtain rfl:=lf h
  exact bJ T0 (p7<|sg 12 c6<|sv (lC.ia (k:=.i64) bx8)<|sv (uw x8)<|sv (uB x8)<|sv (lC.ia (k:=.i64) bx9)<|sv (uw x9)<|sv (uB x9)<|cW (yt br10)<|eF .normal (nC v v2 i (!r10)))<|by kernel_rfl
end
section
variable(v:waD)(v2:waD)(i:Int)
def ip:aA:=bj 42 [(0,sl aq v),(1,sl aq v2),(5,.int .i64 i)] [] []
def iq(o:Unit⊕(Unit)):Exit:=match o with
 |(.inl _)=>.ret
 |(.inr _)=>.exit 0
def fX(o:Unit⊕(Unit)):aA:=match o with
 |(.inl o)=>bj 42 [(4,.bool false)] [] []
 |(.inr o)=>bj 42 [] [] []
def fW:Option (Int⊕(Unit⊕(Unit))):=
 if(decide (i<(v.length:Int)))=true then
  (pB v v2 i).bind fun o11=>
  if o11=true then
   some (.inr (.inl ()))
  else
   some (.inl (cp (i+1)))
 else
  some (.inr (.inr ()))
def pC:Option (Unit⊕(Unit)):=loop (fun(zz:Int)=>fW v v2 zz) i
theorem yM{y:Int⊕(Unit⊕(Unit))}(h:fW v v2 i=some y):aR Pg GE 0 (cA Ve 119) (LQ (fun(zz:Int)=>ip v v2 zz) iq fX y) (ip v v2 i):=by
 rcases aP h with⟨c3,h⟩|⟨c3,h⟩
 ·obtain⟨o11,bo11,h⟩:=aJ h
  have p13:=fun{sc F} (r:PS sc F)=>cq (lC.ln v)<|sg 0 c3<|rN 1<|dS (zr v v2 i bo11)<|r
  rcases aP h with⟨c12,h⟩|⟨c12,h⟩
  ·obtain rfl:=lf h
   have z:=p13<|sg 0 c12<|eF (iq (.inl ())) (fX (.inl ()))
   exact kc T0 (by intro hx;cases hx) z<|by kernel_rfl
  ·obtain rfl:=lf h
   exact AU T0 (p13<|sg 0 c12<|eF .normal (ip v v2 (cp (i+1))))<|by kernel_rfl
 ·obtain rfl:=lf h
  have z:=cq (lC.ln v)<|sg 0 c3<|eF (iq (.inr ())) (fX (.inr ()))
  exact kc T0 (by intro hx;cases hx) z<|by kernel_rfl
theorem rV{x:Unit⊕(Unit)}(h:pC v v2 i=some x):aR Pg GE 0 (.loop (cA Ve 119)) (EX (iq x) (fX x)) (ip v v2 i):=
 aR.loop (S:=fun(zz:Int)=>ip v v2 zz) (ex:=iq) (s:=i) h fun zz y hy=>yM v v2 zz hy
end
def pA(a:waD)(a2:waD):Option Bool:=
 if((a.length:Int)!=(a2.length:Int))=true then
  some false
 else
  (pC a a2 0).bind fun o14=>match o14 with
  |(.inl o14)=>
   some false
  |(.inr o14)=>
   some true
theorem C9{a:waD}{a2:waD}{r:Bool}(h:pA a a2=some r):CC Pg GE 50 [sl aq a,sl aq a2] (.bool r) []:=by
 have p2:=fun{sc F} (r:PS sc F)=>cq (lC.ln a)<|cq (lC.ln a2)<|r
 rcases aP h with⟨c1,h⟩|⟨c1,h⟩
 ·obtain rfl:=lf h
  have z:=p2<|sg 0 c1<|en (aI (rP (.bool false))<|trivial)
  exact cR T0 call50 func50 (c:=Ve) rfl (aI (au bo a) (aI (au bo a2) trivial)) z<|by kernel_rfl
 ·obtain⟨o14,bo14,h⟩:=aJ h
  rcases o14 with o14|o14
  ·obtain rfl:=lf h
   have z:=p2<|sg 0 c1<|dS (e:=.ret) (s1:=fX (.inl o14)) (rV a a2 0 bo14)<|en (aI (rP (.bool false))<|trivial)
   exact cR T0 call50 func50 (c:=Ve) rfl (aI (au bo a) (aI (au bo a2) trivial)) z<|by kernel_rfl
  ·obtain rfl:=lf h
   have z:=p2<|sg 0 c1<|dS (e:=.exit 0) (s1:=fX (.inr o14)) (rV a a2 0 bo14)<|en (aI (rP (.bool true))<|trivial)
   exact cR T0 call50 func50 (c:=Ve) rfl (aI (au bo a) (aI (au bo a2) trivial)) z<|by kernel_rfl
noncomputable def Qu:Code:=f12.body.getD .skip
def I3:List Nat:=[]
section
variable(v:af)(v2:af)
def Jb:aA:=bj 117 [(2,.eptr (ae v)),(3,.eptr (ae v2))] [.dead,.dead] []
def lV(o:Bool):aA:=bj 117 [(2,.eptr (ae v)),(3,.eptr (ae v2)),(43,.bool o)] [.dead,.dead] []
def zj:Option Bool:=
 if(v.Op !=v2.Op)=true then
  some true
 else
  if(!(v.Name==v2.Name))=true then
   some true
  else
   if(v.N !=v2.N)=true then
    some true
   else
    (pA v.Params v2.Params).bind fun r7=>
    if(!r7)=true then
     some true
    else
     (nV nb v.Types v2.Types).bind fun r10=>
     some (!r10)
theorem Hv{x:Bool}(h:zj v v2=some x):aR Pg GE 0 (cA Qu 12) (EX .normal (lV v v2 x)) (Jb v v2):=by
 have p2:=fun{sc F} (r:PS sc F)=>sv (cX v)<|sv (cY v)<|sv (cX v2)<|sv (cY v2)<|r
 rcases aP h with⟨c1,h⟩|⟨c1,h⟩
 ·obtain rfl:=lf h
  exact bJ I3 (p2<|sg 6 c1<|eF .normal (lV v v2 true))<|by kernel_rfl
 ·have p4:=fun{sc F} (r:PS sc F)=>p2<|sg 6 c1<|sv (eu v)<|sv (fc v)<|sv (eu v2)<|sv (fc v2)<|r
  rcases aP h with⟨c3,h⟩|⟨c3,h⟩
  ·obtain rfl:=lf h
   exact bJ I3 (p4<|sg 13 c3<|eF .normal (lV v v2 true))<|by kernel_rfl
  ·have p6:=fun{sc F} (r:PS sc F)=>p4<|sg 13 c3<|sv (iI v)<|sv (jM v)<|sv (iI v2)<|sv (jM v2)<|r
   rcases aP h with⟨c5,h⟩|⟨c5,h⟩
   ·obtain rfl:=lf h
    exact bJ I3 (p6<|sg 20 c5<|eF .normal (lV v v2 true))<|by kernel_rfl
   ·obtain⟨r7,br7,h⟩:=aJ h
    have p9:=fun{sc F} (r:PS sc F)=>p6<|sg 20 c5<|sv (bE v)<|sv (bG v)<|sv (bE v2)<|sv (bG v2)<|cW (C9 br7)<|r
    rcases aP h with⟨c8,h⟩|⟨c8,h⟩
    ·obtain rfl:=lf h
     exact bJ I3 (p9<|sg 28 c8<|eF .normal (lV v v2 true))<|by kernel_rfl
    ·obtain⟨r10,br10,h⟩:=aJ h
     obtain rfl:=lf h
     exact bJ I3 (p9<|sg 28 c8<|sv (aL v)<|sv (aM v)<|sv (aL v2)<|sv (aM v2)<|cW (wJ nb (fun _ _ _ h=>yt h) br10)<|eF .normal (lV v v2 (!r10)))<|by kernel_rfl
end
section
variable(v:af)(v2:af)
def Jc:aA:=bj 117 [(2,.eptr (ae v)),(3,.eptr (ae v2))] [.dead,.dead] []
def wt(o:Bool):aA:=bj 117 [(2,.eptr (ae v)),(3,.eptr (ae v2)),(59,.bool o)] [.dead,.dead] []
def zk:Option Bool:=
 if((v.Kids.length:Int)!=(v2.Kids.length:Int))=true then
  some true
 else
  some ((v.Alts.length:Int)!=(v2.Alts.length:Int))
theorem Hw{x:Bool}(h:zk v v2=some x):aR Pg GE 0 (cA Qu 28) (EX .normal (wt v v2 x)) (Jc v v2):=by
 have p15:=fun{sc F} (r:PS sc F)=>sv (aX v)<|sv (aY v)<|cq (g6.ln v.Kids)<|sv (aX v2)<|sv (aY v2)<|cq (g6.ln v2.Kids)<|r
 rcases aP h with⟨c14,h⟩|⟨c14,h⟩
 ·obtain rfl:=lf h
  exact bJ I3 (p15<|sg 8 c14<|eF .normal (wt v v2 true))<|by kernel_rfl
 ·obtain rfl:=lf h
  exact bJ I3 (p15<|sg 8 c14<|sv (aE v)<|sv (aF v)<|cq (eQ.ln v.Alts)<|sv (aE v2)<|sv (aF v2)<|cq (eQ.ln v2.Alts)<|eF .normal (wt v v2 ((v.Alts.length:Int)!=(v2.Alts.length:Int))))<|by kernel_rfl
end
section
variable(R36:qP)(v:af)(v2:af)(i:Int)
def nW:aA:=bj 117 [(2,.eptr (ae v)),(3,.eptr (ae v2)),(5,.int .i64 i)] [.dead,.dead] []
def nX(o:Unit⊕(Unit)):Exit:=match o with
 |(.inl _)=>.ret
 |(.inr _)=>.exit 0
def jY(o:Unit⊕(Unit)):aA:=match o with
 |(.inl o)=>bj 117 [(4,.bool false)] [.dead,.dead] []
 |(.inr o)=>bj 117 [(2,.eptr (ae v)),(3,.eptr (ae v2))] [.dead,.dead] []
def jX:Option (Int⊕(Unit⊕(Unit))):=
 if(decide (i<(v.Kids.length:Int)))=true then
  (gY v.Kids i).bind fun x21=>
  (gY v2.Kids i).bind fun x22=>
  (R36 x21 x22).bind fun r23=>
  if(!r23)=true then
   some (.inr (.inl ()))
  else
   some (.inl (cp (i+1)))
 else
  some (.inr (.inr ()))
def zm:Option (Unit⊕(Unit)):=loop (fun(zz:Int)=>jX R36 v v2 zz) i
theorem Gs(hR36:qM R36){y:Int⊕(Unit⊕(Unit))}(h:jX R36 v v2 i=some y):aR Pg GE 0 (cA Qu 247) (LQ (fun(zz:Int)=>nW v v2 zz) nX (jY v v2) y) (nW v v2 i):=by
 have p20:=fun{sc F} (r:PS sc F)=>sv (aX v)<|sv (aY v)<|cq (g6.ln v.Kids)<|r
 rcases aP h with⟨c19,h⟩|⟨c19,h⟩
 ·obtain⟨x21,bx21,h⟩:=aJ h
  obtain⟨x22,bx22,h⟩:=aJ h
  obtain⟨r23,br23,h⟩:=aJ h
  have p25:=fun{sc F} (r:PS sc F)=>p20<|sg 0 c19<|I1 [0,1,0,7,15,0,32,0,224,480,1023,2047]<|sv (aX v)<|sv (aY v)<|sv (g6.ia (k:=.i64) bx21)<|sv (bv x21)<|sv (aX v2)<|sv (aY v2)<|sv (g6.ia (k:=.i64) bx22)<|sv (bv x22)<|cW (hR36 _ _ _ br23)<|r
  rcases aP h with⟨c24,h⟩|⟨c24,h⟩
  ·obtain rfl:=lf h
   have z:=p25<|sg 0 c24<|eF (nX (.inl ())) (jY v v2 (.inl ()))
   exact kc I3 (by intro hx;cases hx) z<|by kernel_rfl
  ·obtain rfl:=lf h
   exact AU I3 (p25<|sg 0 c24<|eF .normal (nW v v2 (cp (i+1))))<|by kernel_rfl
 ·obtain rfl:=lf h
  have z:=p20<|sg 0 c19<|eF (nX (.inr ())) (jY v v2 (.inr ()))
  exact kc I3 (by intro hx;cases hx) z<|by kernel_rfl
theorem tY(hR36:qM R36){x:Unit⊕(Unit)}(h:zm R36 v v2 i=some x):aR Pg GE 0 (.loop (cA Qu 247)) (EX (nX x) (jY v v2 x)) (nW v v2 i):=
 aR.loop (S:=fun(zz:Int)=>nW v v2 zz) (ex:=nX) (s:=i) h fun zz y hy=>Gs R36 v v2 zz hR36 hy
end
section
variable(R36:qP)(v:af)(v2:af)(i:Int)(m:ag)(m2:waA)(m3:Int)(m4:ag)(m5:Int)(m6:waE)(m7:waD)(m8:waC)(m9:waB)(m10:ag)(m11:waA)(m12:Int)(m13:ag)(m14:Int)(m15:waE)(m16:waD)(m17:waC)(m18:waB)
def Jd:aA:=bj 117 [(2,.eptr (ae v)),(3,.eptr (ae v2)),(6,.int .i64 i),(7,.bptr 2 0),(8,.bptr 3 0)] [.dead,.dead,.cells [.str m,sl cS m2,.int .i64 m3,.str m4,.int .i64 m5,sl ae m6,sl aq m7,sl az m8,sl ai m9] [],.cells [.str m10,sl cS m11,.int .i64 m12,.str m13,.int .i64 m14,sl ae m15,sl aq m16,sl az m17,sl ai m18] []] []
def rA(o:Bool):aA:=bj 117 [(2,.eptr (ae v)),(3,.eptr (ae v2)),(6,.int .i64 i),(116,.bool o)] [.dead,.dead,.cells [.str m,sl cS m2,.int .i64 m3,.str m4,.int .i64 m5,sl ae m6,sl aq m7,sl az m8,sl ai m9] [],.cells [.str m10,sl cS m11,.int .i64 m12,.str m13,.int .i64 m14,sl ae m15,sl aq m16,sl az m17,sl ai m18] []] []
def zl:Option Bool:=
 if(!(m==m10))=true then
  some true
 else
  (iH m2 m11).bind fun r33=>
  if(!r33)=true then
   some true
  else
   (R36 (⟨m3,m4,m5,m6,m7,m8,m9⟩:af) (⟨m12,m13,m14,m15,m16,m17,m18⟩:af)).bind fun r36=>
   some (!r36)
theorem Hx(hR36:qM R36){x:Bool}(h:zl R36 m m2 m3 m4 m5 m6 m7 m8 m9 m10 m11 m12 m13 m14 m15 m16 m17 m18=some x):aR Pg GE 0 (cA Qu 16118) (EX .normal (rA v v2 i m m2 m3 m4 m5 m6 m7 m8 m9 m10 m11 m12 m13 m14 m15 m16 m17 m18 x)) (Jd v v2 i m m2 m3 m4 m5 m6 m7 m8 m9 m10 m11 m12 m13 m14 m15 m16 m17 m18):=by
 have p32:=fun{sc F} (r:PS sc F)=>ss<|ss<|r
 rcases aP h with⟨c31,h⟩|⟨c31,h⟩
 ·obtain rfl:=lf h
  exact bJ I3 (p32<|sg 6 c31<|eF .normal (rA v v2 i m m2 m3 m4 m5 m6 m7 m8 m9 m10 m11 m12 m13 m14 m15 m16 m17 m18 true))<|by kernel_rfl
 ·obtain⟨r33,br33,h⟩:=aJ h
  have p35:=fun{sc F} (r:PS sc F)=>p32<|sg 6 c31<|ss<|ss<|cW (kf br33)<|r
  rcases aP h with⟨c34,h⟩|⟨c34,h⟩
  ·obtain rfl:=lf h
   exact bJ I3 (p35<|sg 14 c34<|eF .normal (rA v v2 i m m2 m3 m4 m5 m6 m7 m8 m9 m10 m11 m12 m13 m14 m15 m16 m17 m18 true))<|by kernel_rfl
  ·obtain⟨r36,br36,h⟩:=aJ h
   obtain rfl:=lf h
   exact bJ I3 (p35<|sg 14 c34<|sv (bu (⟨m3,m4,m5,m6,m7,m8,m9⟩:af) [])<|sv (bu (⟨m12,m13,m14,m15,m16,m17,m18⟩:af) [])<|cW (hR36 _ _ _ br36)<|eF .normal (rA v v2 i m m2 m3 m4 m5 m6 m7 m8 m9 m10 m11 m12 m13 m14 m15 m16 m17 m18 (!r36)))<|by kernel_rfl
end
section
variable(R36:qP)(v:af)(v2:af)(i:Int)
def nY:aA:=bj 117 [(2,.eptr (ae v)),(3,.eptr (ae v2)),(6,.int .i64 i)] [.dead,.dead] []
def nZ(o:Unit⊕(Unit)):Exit:=match o with
 |(.inl _)=>.ret
 |(.inr _)=>.exit 2
def lW(o:Unit⊕(Unit)):aA:=match o with
 |(.inl o)=>bj 117 [(4,.bool false)] [.dead,.dead] []
 |(.inr o)=>bj 117 [] [.dead,.dead] []
def jZ:Option (Int⊕(Unit⊕(Unit))):=
 if(decide (i<(v.Alts.length:Int)))=true then
  (gY v.Alts i).bind fun x29=>
  (gY v2.Alts i).bind fun x30=>
  (zl R36 x29.Con x29.Names x29.Body.Op x29.Body.Name x29.Body.N x29.Body.Kids x29.Body.Params x29.Body.Alts x29.Body.Types x30.Con x30.Names x30.Body.Op x30.Body.Name x30.Body.N x30.Body.Kids x30.Body.Params x30.Body.Alts x30.Body.Types).bind fun o37=>
  if o37=true then
   some (.inr (.inl ()))
  else
   some (.inl (cp (i+1)))
 else
  some (.inr (.inr ()))
def zn:Option (Unit⊕(Unit)):=loop (fun(zz:Int)=>jZ R36 v v2 zz) i
theorem Gt(hR36:qM R36){y:Int⊕(Unit⊕(Unit))}(h:jZ R36 v v2 i=some y):aR Pg GE 0 (cA Qu 503) (LQ (fun(zz:Int)=>nY v v2 zz) nZ lW y) (nY v v2 i):=by
 have p28:=fun{sc F} (r:PS sc F)=>sv (aE v)<|sv (aF v)<|cq (eQ.ln v.Alts)<|r
 rcases aP h with⟨c27,h⟩|⟨c27,h⟩
 ·obtain⟨x29,bx29,h⟩:=aJ h
  obtain⟨x30,bx30,h⟩:=aJ h
  obtain⟨o37,bo37,h⟩:=aJ h
  have p39:=fun{sc F} (r:PS sc F)=>p28<|sg 0 c27<|Vp (.dx [0,1,0,7,15,0,32,0,224,480,0,0,3103,8191] [] [] [741,765])<|sv (aE v)<|sv (aF v)<|sv (eQ.ia (k:=.i64) bx29)<|sv (mi x29)<|sv (aE v2)<|sv (aF v2)<|sv (eQ.ia (k:=.i64) bx30)<|sv (mi x30)<|sx (i8 x29)<|sx (i8 x30)<|rN 0<|dS (Hx R36 v v2 i x29.Con x29.Names x29.Body.Op x29.Body.Name x29.Body.N x29.Body.Kids x29.Body.Params x29.Body.Alts x29.Body.Types x30.Con x30.Names x30.Body.Op x30.Body.Name x30.Body.N x30.Body.Kids x30.Body.Params x30.Body.Alts x30.Body.Types hR36 bo37)<|r
  rcases aP h with⟨c38,h⟩|⟨c38,h⟩
  ·obtain rfl:=lf h
   have z:=p39<|sg 0 c38<|tN 0 (nZ (.inl ())) (lW (.inl ())) rfl (d5 (aI trivial trivial)) (aI trivial (aI trivial trivial))
   exact pR (A:=I3) mixed (by intro hx;cases hx) z<|by kernel_rfl
  ·obtain rfl:=lf h
   have z:=p39<|sg 0 c38<|tN 0 .normal (nY v v2 (cp (i+1))) rfl (d5 (aI (be (ay v)) (aI (be (ay v2)) (aI trivial trivial)))) (aI trivial (aI trivial trivial))
   exact ez (A:=I3) mixed z<|by kernel_rfl
 ·obtain rfl:=lf h
  have z:=p28<|sg 0 c27<|eF (nZ (.inr ())) (lW (.inr ()))
  exact kc I3 (by intro hx;cases hx) z<|by kernel_rfl
theorem zo(hR36:qM R36){x:Unit⊕(Unit)}(h:zn R36 v v2 i=some x):aR Pg GE 0 (.loop (cA Qu 503)) (EX (nZ x) (lW x)) (nY v v2 i):=
 aR.loop (S:=fun(zz:Int)=>nY v v2 zz) (ex:=nZ) (s:=i) h fun zz y hy=>Gt R36 v v2 zz hR36 hy
end
def xH(R36:qP)(a:af)(a2:af):Option Bool:=
 (zj a a2).bind fun o11=>
 if o11=true then
  some false
 else
  (zk a a2).bind fun o16=>
  if o16=true then
   some false
  else
   (zm R36 a a2 0).bind fun o26=>match o26 with
   |(.inl o26)=>
    some false
   | (.inr o26) =>
    (zn R36 a a2 0).bind fun o40=>match o40 with
    |(.inl o40)=>
     some false
    |(.inr o40)=>
     some true
theorem KJ(R36:qP)(hR36:qM R36){a:af}{a2:af}{r:Bool}(h:xH R36 a a2=some r):CC Pg GE 12 [.agg (ae a),.agg (ae a2)] (.bool r) []:=by
 obtain⟨o11,bo11,h⟩:=aJ h
 have p13:=fun{sc F} (r:PS sc F)=>se (cJ a)<|se (cJ a2)<|rN 1<|dS (Hv a a2 bo11)<|r
 rcases aP h with⟨c12,h⟩|⟨c12,h⟩
 ·obtain rfl:=lf h
  have z:=p13<|sg 0 c12<|en (aI (rP (.bool false))<|trivial)
  exact cR I3 call12 func12 (c:=Qu) rfl (aI (ay a) (aI (ay a2) trivial)) z<|by kernel_rfl
 ·obtain⟨o16,bo16,h⟩:=aJ h
  have p18:=fun{sc F} (r:PS sc F)=>p13<|sg 0 c12<|rN 1<|dS (Hw a a2 bo16)<|r
  rcases aP h with⟨c17,h⟩|⟨c17,h⟩
  ·obtain rfl:=lf h
   have z:=p18<|sg 0 c17<|en (aI (rP (.bool false))<|trivial)
   exact cR I3 call12 func12 (c:=Qu) rfl (aI (ay a) (aI (ay a2) trivial)) z<|by kernel_rfl
  ·obtain⟨o26,bo26,h⟩:=aJ h
   rcases o26 with o26|o26
   ·obtain rfl:=lf h
    have z:=p18<|sg 0 c17<|dS (e:=.ret) (s1:=jY a a2 (.inl o26)) (tY R36 a a2 0 hR36 bo26)<|en (aI (rP (.bool false))<|trivial)
    exact cR I3 call12 func12 (c:=Qu) rfl (aI (ay a) (aI (ay a2) trivial)) z<|by kernel_rfl
   ·obtain⟨o40,bo40,h⟩:=aJ h
    rcases o40 with o40|o40
    ·obtain rfl:=lf h
     have z:=p18<|sg 0 c17<|dS (e:=.exit 0) (s1:=jY a a2 (.inr o26)) (tY R36 a a2 0 hR36 bo26)<|dS (e:=.ret) (s1:=lW (.inl o40)) (zo R36 a a2 0 hR36 bo40)<|en (aI (rP (.bool false))<|trivial)
     exact cR I3 call12 func12 (c:=Qu) rfl (aI (ay a) (aI (ay a2) trivial)) z<|by kernel_rfl
    ·obtain rfl:=lf h
     have z:=p18<|sg 0 c17<|dS (e:=.exit 0) (s1:=jY a a2 (.inr o26)) (tY R36 a a2 0 hR36 bo26)<|dS (e:=.exit 2) (s1:=lW (.inr o40)) (zo R36 a a2 0 hR36 bo40)<|en (aI (rP (.bool true))<|trivial)
     exact cR I3 call12 func12 (c:=Qu) rfl (aI (ay a) (aI (ay a2) trivial)) z<|by kernel_rfl
def Cm:((af×af)->Option Bool)->(af×af)->Option Bool:=fun(rec:(af×af)->Option Bool) (x:af×af)=>xH (fun a a2=>rec (a,a2)) x.1 x.2
def zg(a:af)(a2:af):Option Bool:=sd Cm (a,a2)
theorem zp{a:af}{a2:af}{r:Bool}(h:zg a a2=some r):CC Pg GE 12 [.agg (ae a),.agg (ae a2)] (.bool r) []:=
 eM (F:=Cm) (M:=fun(x:af×af) (r:Bool)=>CC Pg GE 12 [.agg (ae x.1),.agg (ae x.2)] (.bool r) []) (fun rec hrec x r h=>KJ _ (fun a a2 r h=>hrec (a,a2) r h) h) h
abbrev ec:=(af->(List (ag×Bool))->Option (Bool×(List (ag×Bool))))
abbrev ea(R:ec):Prop:=∀(e:af) (k2:(List (ag×Bool))) (r:Bool×(List (ag×Bool))),R e k2=some r->C Pg GE 64 [.agg (ae e),.func (.func 99) [] [.bptr 0 0]] [] [.cells [.func (.func 81) [.bptr 1 0] []] [],.cells [.mapr 2] [],.map (aD PVal.bool k2)] (.bool r.1) [] [.cells [.func (.func 81) [.bptr 1 0] []] [],.cells [.mapr 2] [],.map (aD PVal.bool r.2)]
end Go.Proofs.YtkdahfeiedaahaaGreatDoor
