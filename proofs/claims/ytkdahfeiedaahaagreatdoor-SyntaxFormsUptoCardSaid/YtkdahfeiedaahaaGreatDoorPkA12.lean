/- PROVED: a part of the proof. Conditions: none. -/
import Derived.Test.YtkdahfeiedaahaaGreatDoorPkA11
noncomputable section
namespace Go.Proofs.YtkdahfeiedaahaaGreatDoor
open Go Go.Proofs.Tryz
set_option linter.unusedVariables false
set_option maxRecDepth 100000
noncomputable def UH:Code:=f107.body.getD .skip
def Uv:List Nat:=[14,21]
section
variable(v:Bool)(t8:waE)(t9:Int)(v2:(List ae))(out:waE)(t10:Int)(m:waA)(m2:(List ae))
def bu:aB:=aZ 22 [(1,.func (.func 108) [] [.eptr (cB v),.bptr 0 0]),(5,sl ax out),(8,sl ax t8),(9,.int .i64 t9),(10,.int .i64 t10)] [.cells [.func (.func 105) [] [.bptr 1 0,.eptr ((cL aa) v2),.bptr 3 0]] [],.cells [.func (.func 62) [] [.bptr 2 0],.func (.func 61) [] []] [],.cells [sl cS m] [(0,9)],.cells [sl aa m2] [(0,137)]] [((5,0),85)]
def co(o:waE×waA×(List ae)):aB:=aZ 22 [(5,sl ax o.1)] [.cells [.func (.func 105) [] [.bptr 1 0,.eptr ((cL aa) v2),.bptr 3 0]] [],.cells [.func (.func 62) [] [.bptr 2 0],.func (.func 61) [] []] [],.cells [sl cS o.2.1] [(0,9)],.cells [sl aa o.2.2] [(0,137)]] [((5,0),85)]
def dD:Option ((waE×Int×waA×(List ae))⊕((waE×waA×(List ae)))):=
 if(decide (t10<t9))=true then
  (fy t8 t10).bind fun x2=>
  (eV x2 v v2 m m2).bind fun r3=>
  (app out ([r3.1]:List aA)).bind fun l4=>
  some (.inl (l4,bN (t10+1),r3.2.1,r3.2.2))
 else
  some (.inr (out,m,m2))
def dR:Option ((waE×waA×(List ae))):=loop (fun(zz:waE×Int×waA×(List ae))=>dD v t8 t9 v2 zz.1 zz.2.1 zz.2.2.1 zz.2.2.2) (out,t10,m,m2)
theorem f8{y:(waE×Int×waA×(List ae))⊕((waE×waA×(List ae)))}(h:dD v t8 t9 v2 out t10 m m2=some y):aU Pg GE 4 (cA UH 119) (LQ (fun(zz:waE×Int×waA×(List ae))=>bu v t8 t9 v2 zz.1 zz.2.1 zz.2.2.1 zz.2.2.2) (fun _=>.exit 0) (co v2) y) (bu v t8 t9 v2 out t10 m m2):=by
 rcases aH h with⟨c1,h⟩|⟨c1,h⟩
 ·obtain⟨x2,bx2,h⟩:=aG h
  obtain⟨r3,br3,h⟩:=aG h
  obtain⟨l4,bl4,h⟩:=aG h
  obtain rfl:=lf h
  have z:=sg 0 c1<|sv (il.ia (k:=.i64) bx2)<|sv (ym x2)<|sx Sv<|sx (kW x2)<|sv (Cn x2 [])<|si (.cg ⟨[0,1,2,3],[.agg (ax x2),.eptr (cB v),.bptr 0 0],[],[.cells [.func (.func 105) [] [.bptr 1 0,.eptr ((cL aa) v2),.bptr 3 0]] [],.cells [.func (.func 62) [] [.bptr 2 0],.func (.func 61) [] []] [],.cells [sl cS m] [(0,9)],.cells [sl aa m2] [(0,137)]],[.cells [.func (.func 105) [] [.bptr 1 0,.eptr ((cL aa) v2),.bptr 3 0]] [],.cells [.func (.func 62) [] [.bptr 2 0],.func (.func 61) [] []] [],.cells [sl cS m] [(0,9)],.cells [sl aa m2] [(0,137)]],[.cells [.func (.func 105) [] [.bptr 1 0,.eptr ((cL aa) v2),.bptr 3 0]] [],.cells [.func (.func 62) [] [.bptr 2 0],.func (.func 61) [] []] [],.cells [sl cS r3.2.1] [(0,9)],.cells [sl aa r3.2.2] [(0,137)]],[.cells [.func (.func 105) [] [.bptr 1 0,.eptr ((cL aa) v2),.bptr 3 0]] [],.cells [.func (.func 62) [] [.bptr 2 0],.func (.func 61) [] []] [],.cells [sl cS r3.2.1] [(0,9)],.cells [sl aa r3.2.2] [(0,137)]],.agg (ax r3.1),.agg (ax r3.1),[]⟩) (iW br3)<|sf (aI (xR [0,1,2,3] (.agg (ax x2)) (bj x2)) (aI (xR [0,1,2,3] (.eptr (cB v)) (ZY v)) (aI (xB [0,1,2,3] 0 0 0 rfl) trivial)))<|sf (aI (aI (rB (.cells [.func (.func 105) [] [.bptr 1 0,.eptr ((cL aa) v2),.bptr 3 0]] [])) (aI (rW []) (aI (xF [0,1,2,3] (.func 105) [] [.bptr 1 0,.eptr ((cL aa) v2),.bptr 3 0] [] [.bptr 1 0,.eptr ((cL aa) v2),.bptr 3 0] trivial (aI (xB [0,1,2,3] 1 1 0 rfl) (aI (xR [0,1,2,3] (.eptr ((cL aa) v2)) (oz av v2)) (aI (xB [0,1,2,3] 3 3 0 rfl) trivial)))) trivial))) (aI (aI (rB (.cells [.func (.func 62) [] [.bptr 2 0],.func (.func 61) [] []] [])) (aI (rW []) (aI (xF [0,1,2,3] (.func 62) [] [.bptr 2 0] [] [.bptr 2 0] trivial (aI (xB [0,1,2,3] 2 2 0 rfl) trivial)) (aI (xR [0,1,2,3] (.func (.func 61) [] []) (aI trivial trivial)) trivial)))) (aI (aI (rB (.cells [sl cS m] [(0,9)])) (aI (rW [(0,9)]) (aI (xR [0,1,2,3] (sl cS m) (aw cy m)) trivial))) (aI (aI (rB (.cells [sl aa m2] [(0,137)])) (aI (rW [(0,137)]) (aI (xR [0,1,2,3] (sl aa m2) (aw av m2)) trivial))) trivial))))<|sf (aI (aI (rW []) (aI (xF [0,1,2,3] (.func 105) [] [.bptr 1 0,.eptr ((cL aa) v2),.bptr 3 0] [] [.bptr 1 0,.eptr ((cL aa) v2),.bptr 3 0] trivial (aI (xB [0,1,2,3] 1 1 0 rfl) (aI (xR [0,1,2,3] (.eptr ((cL aa) v2)) (oz av v2)) (aI (xB [0,1,2,3] 3 3 0 rfl) trivial)))) trivial)) (aI (aI (rW []) (aI (xF [0,1,2,3] (.func 62) [] [.bptr 2 0] [] [.bptr 2 0] trivial (aI (xB [0,1,2,3] 2 2 0 rfl) trivial)) (aI (xR [0,1,2,3] (.func (.func 61) [] []) (aI trivial trivial)) trivial))) (aI (aI (rW [(0,9)]) (aI (xR [0,1,2,3] (sl cS r3.2.1) (aw cy r3.2.1)) trivial)) (aI (aI (rW [(0,137)]) (aI (xR [0,1,2,3] (sl aa r3.2.2) (aw av r3.2.2)) trivial)) trivial))))<|sf (xR [0,1,2,3] (.agg (ax r3.1)) (bj r3.1))<|sv (il.mk' (v:=EP) Ct ([r3.1]:List aA) 1 (by kernel_rfl))<|sv (il.ap bl4)<|vY 4 .normal (bu v t8 t9 v2 l4 (bN (t10+1)) r3.2.1 r3.2.2) rfl (dI (aI (aI trivial (aI (bH (ZY v)) (aI (bR rfl) trivial))) (aI (up (aw bj l4)) (aI (up (aw bj t8)) (aI trivial (aI trivial trivial)))))) (aI (aI (aI trivial (aI (bR rfl) (aI (bH (oz av v2)) (aI (bR rfl) trivial)))) trivial) (aI (aI (aI trivial (aI (bR rfl) trivial)) (aI (aI trivial trivial) trivial)) (aI (aI (up (aw cy r3.2.1)) trivial) (aI (aI (up (aw av r3.2.2)) trivial) trivial))))
  exact eA (A:=Uv) mixed z<|by kernel_rfl
 ·obtain rfl:=lf h
  have z:=sg 0 c1<|eF (.exit 0) (co v2 (out,m,m2))
  exact gu Uv (by intro hx;cases hx) z<|by kernel_rfl
theorem gi{x:(waE×waA×(List ae))}(h:dR v t8 t9 v2 out t10 m m2=some x):aU Pg GE 4 (.loop (cA UH 119)) (EX (.exit 0) (co v2 x)) (bu v t8 t9 v2 out t10 m m2):=
 aU.loop (S:=fun(zz:waE×Int×waA×(List ae))=>bu v t8 t9 v2 zz.1 zz.2.1 zz.2.2.1 zz.2.2.2) (ex:=(fun _=>.exit 0)) (s:=(out,t10,m,m2)) h fun zz y hy=>f8 v t8 t9 v2 zz.1 zz.2.1 zz.2.2.1 zz.2.2.2 hy
end
def ed(a:waE)(c:Bool)(c2:(List ae))(k2:waA)(k3:(List ae)):Option (waE×waA×(List ae)):=
 (dR c a (a.length:Int) c2 ([]:List aA) 0 k2 k3).bind fun o5=>
 some (o5.1,o5.2.1,o5.2.2)
theorem gM{a:waE}{c:Bool}{c2:(List ae)}{k2:waA}{k3:(List ae)}{r:waE×waA×(List ae)}(h:ed a c c2 k2 k3=some r):C Pg GE 107 [sl ax a,.func (.func 108) [] [.eptr (cB c),.bptr 0 0]] [] [.cells [.func (.func 105) [] [.bptr 1 0,.eptr ((cL aa) c2),.bptr 3 0]] [],.cells [.func (.func 62) [] [.bptr 2 0],.func (.func 61) [] []] [],.cells [sl cS k2] [(0,9)],.cells [sl aa k3] [(0,137)]] (sl ax r.1) [(0,85)] [.cells [.func (.func 105) [] [.bptr 1 0,.eptr ((cL aa) c2),.bptr 3 0]] [],.cells [.func (.func 62) [] [.bptr 2 0],.func (.func 61) [] []] [],.cells [sl cS r.2.1] [(0,9)],.cells [sl aa r.2.2] [(0,137)]]:=by
 obtain⟨o5,bo5,h⟩:=aG h
 obtain rfl:=lf h
 have z:=bF (il.ln a)<|cK (gi c a (a.length:Int) c2 ([]:List aA) 0 k2 k3 bo5)<|en (aI (rP (sl ax o5.1))<|aI (up (n:=4) (aw bj o5.1))<|aI (rL [.cells [.func (.func 105) [] [.bptr 1 0,.eptr ((cL aa) c2),.bptr 3 0]] [],.cells [.func (.func 62) [] [.bptr 2 0],.func (.func 61) [] []] [],.cells [sl cS o5.2.1] [(0,9)],.cells [sl aa o5.2.2] [(0,137)]])<|(aI (aI (aI trivial (aI (bR (i:=1) (n:=4) rfl) (aI (bH (n:=4) (oz av c2)) (aI (bR (i:=3) (n:=4) rfl) trivial)))) trivial) (aI (aI (aI trivial (aI (bR (i:=2) (n:=4) rfl) trivial)) (aI (aI trivial trivial) trivial)) (aI (aI (up (n:=4) (aw cy o5.2.1)) trivial) (aI (aI (up (n:=4) (aw av o5.2.2)) trivial) trivial)))))
 exact C.evGp (A:=Uv) mixed (m:=4) (c:=UH) rfl call107 func107 rfl z<|by kernel_rfl
noncomputable def UJ:Code:=f110.body.getD .skip
def Uy:List Nat:=[24,28]
section
variable(t1:(List ae))(v:aT)(t13:waA)(t14:Int)(m2:waD)(m3:waE)(m4:waC)(m5:waB)(v2:(List ae))(v3:waA)(t15:Int)(m:waA)
def cu:aB:=aZ 44 [(1,.eptr ((cL aa) t1)),(2,.bptr 0 0),(3,.eptr (aF v)),(4,.bptr 3 0),(5,sl aa v2),(6,sl cS v3),(13,sl cS t13),(14,.int .i64 t14),(15,.int .i64 t15)] [.cells [.func (.func 62) [] [.bptr 1 0],.func (.func 61) [] []] [],.cells [sl cS m] [(0,9)],.dead,.cells [.str ([]:ah),sl cS ([]:List ah),.int .i64 0,.str ([]:ah),.int .i64 0,sl ac m2,sl ax m3,sl aF m4,sl aj m5] [(1,9),(5,28),(6,85),(7,89),(8,60)]] [((6,0),9),((5,0),137)]
def eC(o:(List ae)×waA×waA):aB:=aZ 44 [(2,.bptr 0 0),(3,.eptr (aF v)),(4,.bptr 3 0),(5,sl aa o.1),(6,sl cS o.2.1)] [.cells [.func (.func 62) [] [.bptr 1 0],.func (.func 61) [] []] [],.cells [sl cS o.2.2] [(0,9)],.dead,.cells [.str ([]:ah),sl cS ([]:List ah),.int .i64 0,.str ([]:ah),.int .i64 0,sl ac m2,sl ax m3,sl aF m4,sl aj m5] [(1,9),(5,28),(6,85),(7,89),(8,60)]] [((6,0),9),((5,0),137)]
def gB:Option (((List ae)×waA×Int×waA)⊕(((List ae)×waA×waA))):=
 if(decide (t15<t14))=true then
  (fy t13 t15).bind fun x3=>
  (wR x3 t1 m).bind fun r4=>
  (app v3 ([r4.1]:List ah)).bind fun l5=>
  (app v2 ([(⟨x3,r4.1⟩:ae)]:List ae)).bind fun l6=>
  some (.inl (l6,l5,bN (t15+1),r4.2))
 else
  some (.inr (v2,v3,m))
def ie:Option (((List ae)×waA×waA)):=loop (fun(zz:(List ae)×waA×Int×waA)=>gB t1 t13 t14 zz.1 zz.2.1 zz.2.2.1 zz.2.2.2) (v2,v3,t15,m)
theorem mA{y:((List ae)×waA×Int×waA)⊕(((List ae)×waA×waA))}(h:gB t1 t13 t14 v2 v3 t15 m=some y):aU Pg GE 2 (cA UJ 247) (LQ (fun(zz:(List ae)×waA×Int×waA)=>cu t1 v t13 t14 m2 m3 m4 m5 zz.1 zz.2.1 zz.2.2.1 zz.2.2.2) (fun _=>.exit 0) (eC v m2 m3 m4 m5) y) (cu t1 v t13 t14 m2 m3 m4 m5 v2 v3 t15 m):=by
 rcases aH h with⟨c2,h⟩|⟨c2,h⟩
 ·obtain⟨x3,bx3,h⟩:=aG h
  obtain⟨r4,br4,h⟩:=aG h
  obtain⟨l5,bl5,h⟩:=aG h
  obtain⟨l6,bl6,h⟩:=aG h
  obtain rfl:=lf h
  exact wv Uy (sg 0 c2<|sv (cO.ia (k:=.i64) bx3)<|sv (cT GS (.str x3) [])<|ss<|sv (cT Lo (sl aa t1) [])<|si (.cg ⟨[1],[.str x3,sl aa t1,.bptr 0 0],[],[.cells [sl cS m] [(0,9)]],[.cells [sl cS m] [(0,9)]],[.cells [sl cS r4.2] [(0,9)]],[.cells [sl cS r4.2] [(0,9)]],.str r4.1,.str r4.1,[]⟩) (za br4)<|sf (aI (xR [1] (.str x3) trivial) (aI (xR [1] (sl aa t1) (aw av t1)) (aI (xB [1] 0 1 0 rfl) trivial)))<|sf (aI (aI (rB (.cells [sl cS m] [(0,9)])) (aI (rW [(0,9)]) (aI (xR [1] (sl cS m) (aw cy m)) trivial))) trivial)<|sf (aI (aI (rW [(0,9)]) (aI (xR [1] (sl cS r4.2) (aw cy r4.2)) trivial)) trivial)<|sf (xR [1] (.str r4.1) trivial)<|sv (cO.mk' (v:=PVal.str) OF ([r4.1]:List ah) 1 (by kernel_rfl))<|sv (cO.ap bl5)<|sv (mq x3 r4.1)<|sv (Ny.mk' (v:=rj) rD ([(⟨x3,r4.1⟩:ae)]:List ae) 1 (by kernel_rfl))<|sv (Ny.ap bl6)<|eF .normal (cu t1 v t13 t14 m2 m3 m4 m5 l6 l5 (bN (t15+1)) r4.2))<|by kernel_rfl
 ·obtain rfl:=lf h
  have z:=sg 0 c2<|eF (.exit 0) (eC v m2 m3 m4 m5 (v2,v3,m))
  exact gu Uy (by intro hx;cases hx) z<|by kernel_rfl
theorem na{x:((List ae)×waA×waA)}(h:ie t1 t13 t14 v2 v3 t15 m=some x):aU Pg GE 2 (.loop (cA UJ 247)) (EX (.exit 0) (eC v m2 m3 m4 m5 x)) (cu t1 v t13 t14 m2 m3 m4 m5 v2 v3 t15 m):=
 aU.loop (S:=fun(zz:(List ae)×waA×Int×waA)=>cu t1 v t13 t14 m2 m3 m4 m5 zz.1 zz.2.1 zz.2.2.1 zz.2.2.2) (ex:=(fun _=>.exit 0)) (s:=(v2,v3,t15,m)) h fun zz y hy=>mA t1 v t13 t14 m2 m3 m4 m5 zz.1 zz.2.1 zz.2.2.1 zz.2.2.2 hy
end
def jk(R21:bz)(a:aT)(a2:(List ae))(k1:waA):Option (aT×waA):=
 (wI a2).bind fun r1=>
 (ie a2 a.Names (a.Names.length:Int) r1 ([]:List ah) 0 k1).bind fun o7=>
 (R21 a.Body o7.1 o7.2.2).bind fun r8=>
 some ((⟨a.Con,o7.2.1,r8.1⟩:aT),r8.2)
theorem pC(R21:bz)(hR21:bV R21){a:aT}{a2:(List ae)}{k1:waA}{r:aT×waA}(h:jk R21 a a2 k1=some r):C Pg GE 110 [.agg (aF a),.eptr ((cL aa) a2),.bptr 0 0] [] [.cells [.func (.func 62) [] [.bptr 1 0],.func (.func 61) [] []] [],.cells [sl cS k1] [(0,9)]] (.agg (aF r.1)) [] [.cells [.func (.func 62) [] [.bptr 1 0],.func (.func 61) [] []] [],.cells [sl cS r.2] [(0,9)]]:=by
 obtain⟨r1,br1,h⟩:=aG h
 obtain⟨o7,bo7,h⟩:=aG h
 obtain⟨r8,br8,h⟩:=aG h
 obtain rfl:=lf h
 have z:=se (Id a)<|sx Ip<|sv (cT Lo (sl aa a2) [])<|cm (z7 br1)<|sv (gX a)<|sv (gZ a)<|bF (cO.ln a.Names)<|cK (na a2 a a.Names (a.Names.length:Int) ([]:List af) ([]:List aA) ([]:List aT) ([]:List ak) r1 ([]:List ah) 0 k1 bo7)<|qbt (.dx [0,1,0,0,0,16,0,120,255,511] [] [] [11,293,337])<|sv (mr a)<|sv (po a)<|sv (show bM Pg 95 [.func (.func 62) [] [.bptr 1 0],.func (.func 61) [] []]=some (.agg [.func (.func 62) [] [.bptr 1 0],.func (.func 61) [] []]) by kernel_rfl)<|sv (pM a)<|sv (pO a)<|si (.cg ⟨[1],[.agg [.func (.func 62) [] [.bptr 0 0],.func (.func 61) [] []],.agg (ac a.Body),sl aa o7.1],[],[.cells [sl cS o7.2.2] [(0,9)]],[.cells [sl cS o7.2.2] [(0,9)]],[.cells [sl cS r8.2] [(0,9)]],[.cells [sl cS r8.2] [(0,9)]],.agg (ac r8.1),.agg (ac r8.1),[(3,28),(4,85),(5,89),(6,60)]⟩) (hR21 _ _ _ _ br8)<|sf (aI (xA [1] [.func (.func 62) [] [.bptr 1 0],.func (.func 61) [] []] [.func (.func 62) [] [.bptr 0 0],.func (.func 61) [] []] (aI (xF [1] (.func 62) [] [.bptr 1 0] [] [.bptr 0 0] trivial (aI (xB [1] 0 1 0 rfl) trivial)) (aI (xR [1] (.func (.func 61) [] []) (aI trivial trivial)) trivial))) (aI (xR [1] (.agg (ac a.Body)) (al a.Body)) (aI (xR [1] (sl aa o7.1) (aw av o7.1)) trivial)))<|sf (aI (aI (rB (.cells [sl cS o7.2.2] [(0,9)])) (aI (rW [(0,9)]) (aI (xR [1] (sl cS o7.2.2) (aw cy o7.2.2)) trivial))) trivial)<|sf (aI (aI (rW [(0,9)]) (aI (xR [1] (sl cS r8.2) (aw cy r8.2)) trivial)) trivial)<|sf (xR [1] (.agg (ac r8.1)) (al r8.1))<|sv (F0 a.Con o7.2.1 r8.1)<|sx (iV (⟨a.Con,o7.2.1,r8.1⟩:aT))<|en (aI (SA (⟨a.Con,o7.2.1,r8.1⟩:aT))<|aI (qbu (n:=2) (bE (⟨a.Con,o7.2.1,r8.1⟩:aT)))<|aI (rL [.cells [.func (.func 62) [] [.bptr 1 0],.func (.func 61) [] []] [],.cells [sl cS r8.2] [(0,9)]])<|(aI (aI (aI trivial (aI (bR (i:=1) (n:=2) rfl) trivial)) (aI (aI trivial trivial) trivial)) (aI (aI (up (n:=2) (aw cy r8.2)) trivial) trivial)))
 exact C.evGp (A:=Uy) mixed (m:=2) (c:=UJ) rfl call110 func110 rfl z<|by kernel_rfl
noncomputable def UI:Code:=f109.body.getD .skip
def Ux:List Nat:=[14,21]
section
variable(R21:bz)(v:(List ae))(t8:waC)(t9:Int)(out:waC)(t10:Int)(m:waA)
def b7:aB:=aZ 22 [(1,.func (.func 110) [] [.eptr ((cL aa) v),.bptr 0 0]),(5,sl aF out),(8,sl aF t8),(9,.int .i64 t9),(10,.int .i64 t10)] [.cells [.func (.func 62) [] [.bptr 1 0],.func (.func 61) [] []] [],.cells [sl cS m] [(0,9)]] [((5,0),89)]
def dG(o:waC×waA):aB:=aZ 22 [(5,sl aF o.1)] [.cells [.func (.func 62) [] [.bptr 1 0],.func (.func 61) [] []] [],.cells [sl cS o.2] [(0,9)]] [((5,0),89)]
def fF:Option ((waC×Int×waA)⊕((waC×waA))):=
 if(decide (t10<t9))=true then
  (fy t8 t10).bind fun x2=>
  (jk R21 x2 v m).bind fun r3=>
  (app out ([r3.1]:List aT)).bind fun l4=>
  some (.inl (l4,bN (t10+1),r3.2))
 else
  some (.inr (out,m))
def fR:Option ((waC×waA)):=loop (fun(zz:waC×Int×waA)=>fF R21 v t8 t9 zz.1 zz.2.1 zz.2.2) (out,t10,m)
theorem kN(hR21:bV R21){y:(waC×Int×waA)⊕((waC×waA))}(h:fF R21 v t8 t9 out t10 m=some y):aU Pg GE 2 (cA UI 119) (LQ (fun(zz:waC×Int×waA)=>b7 v t8 t9 zz.1 zz.2.1 zz.2.2) (fun _=>.exit 0) dG y) (b7 v t8 t9 out t10 m):=by
 rcases aH h with⟨c1,h⟩|⟨c1,h⟩
 ·obtain⟨x2,bx2,h⟩:=aG h
  obtain⟨r3,br3,h⟩:=aG h
  obtain⟨l4,bl4,h⟩:=aG h
  obtain rfl:=lf h
  have z:=sg 0 c1<|sv (dZ.ia (k:=.i64) bx2)<|sv (mt x2)<|sx Ip<|sx (iV x2)<|sv (HT x2 [])<|si (.cg ⟨[0,1],[.agg (aF x2),.eptr ((cL aa) v),.bptr 0 0],[],[.cells [.func (.func 62) [] [.bptr 1 0],.func (.func 61) [] []] [],.cells [sl cS m] [(0,9)]],[.cells [.func (.func 62) [] [.bptr 1 0],.func (.func 61) [] []] [],.cells [sl cS m] [(0,9)]],[.cells [.func (.func 62) [] [.bptr 1 0],.func (.func 61) [] []] [],.cells [sl cS r3.2] [(0,9)]],[.cells [.func (.func 62) [] [.bptr 1 0],.func (.func 61) [] []] [],.cells [sl cS r3.2] [(0,9)]],.agg (aF r3.1),.agg (aF r3.1),[]⟩) (pC R21 hR21 br3)<|sf (aI (xR [0,1] (.agg (aF x2)) (bE x2)) (aI (xR [0,1] (.eptr ((cL aa) v)) (oz av v)) (aI (xB [0,1] 0 0 0 rfl) trivial)))<|sf (aI (aI (rB (.cells [.func (.func 62) [] [.bptr 1 0],.func (.func 61) [] []] [])) (aI (rW []) (aI (xF [0,1] (.func 62) [] [.bptr 1 0] [] [.bptr 1 0] trivial (aI (xB [0,1] 1 1 0 rfl) trivial)) (aI (xR [0,1] (.func (.func 61) [] []) (aI trivial trivial)) trivial)))) (aI (aI (rB (.cells [sl cS m] [(0,9)])) (aI (rW [(0,9)]) (aI (xR [0,1] (sl cS m) (aw cy m)) trivial))) trivial))<|sf (aI (aI (rW []) (aI (xF [0,1] (.func 62) [] [.bptr 1 0] [] [.bptr 1 0] trivial (aI (xB [0,1] 1 1 0 rfl) trivial)) (aI (xR [0,1] (.func (.func 61) [] []) (aI trivial trivial)) trivial))) (aI (aI (rW [(0,9)]) (aI (xR [0,1] (sl cS r3.2) (aw cy r3.2)) trivial)) trivial))<|sf (xR [0,1] (.agg (aF r3.1)) (bE r3.1))<|sv (dZ.mk' (v:=TL) Sm ([r3.1]:List aT) 1 (by kernel_rfl))<|sv (dZ.ap bl4)<|vY 2 .normal (b7 v t8 t9 l4 (bN (t10+1)) r3.2) rfl (dI (aI (aI trivial (aI (bH (oz av v)) (aI (bR rfl) trivial))) (aI (up (aw bE l4)) (aI (up (aw bE t8)) (aI trivial (aI trivial trivial)))))) (aI (aI (aI trivial (aI (bR rfl) trivial)) (aI (aI trivial trivial) trivial)) (aI (aI (up (aw cy r3.2)) trivial) trivial))
  exact eA (A:=Ux) mixed z<|by kernel_rfl
 ·obtain rfl:=lf h
  have z:=sg 0 c1<|eF (.exit 0) (dG (out,m))
  exact gu Ux (by intro hx;cases hx) z<|by kernel_rfl
theorem lb(hR21:bV R21){x:(waC×waA)}(h:fR R21 v t8 t9 out t10 m=some x):aU Pg GE 2 (.loop (cA UI 119)) (EX (.exit 0) (dG x)) (b7 v t8 t9 out t10 m):=
 aU.loop (S:=fun(zz:waC×Int×waA)=>b7 v t8 t9 zz.1 zz.2.1 zz.2.2) (ex:=(fun _=>.exit 0)) (s:=(out,t10,m)) h fun zz y hy=>kN R21 v t8 t9 zz.1 zz.2.1 zz.2.2 hR21 hy
end
def gz(R21:bz)(a:waC)(c:(List ae))(k1:waA):Option (waC×waA):=
 (fR R21 c a (a.length:Int) ([]:List aT) 0 k1).bind fun o5=>
 some (o5.1,o5.2)
theorem lZ(R21:bz)(hR21:bV R21){a:waC}{c:(List ae)}{k1:waA}{r:waC×waA}(h:gz R21 a c k1=some r):C Pg GE 109 [sl aF a,.func (.func 110) [] [.eptr ((cL aa) c),.bptr 0 0]] [] [.cells [.func (.func 62) [] [.bptr 1 0],.func (.func 61) [] []] [],.cells [sl cS k1] [(0,9)]] (sl aF r.1) [(0,89)] [.cells [.func (.func 62) [] [.bptr 1 0],.func (.func 61) [] []] [],.cells [sl cS r.2] [(0,9)]]:=by
 obtain⟨o5,bo5,h⟩:=aG h
 obtain rfl:=lf h
 have z:=bF (dZ.ln a)<|cK (lb R21 c a (a.length:Int) ([]:List aT) 0 k1 hR21 bo5)<|en (aI (rP (sl aF o5.1))<|aI (up (n:=2) (aw bE o5.1))<|aI (rL [.cells [.func (.func 62) [] [.bptr 1 0],.func (.func 61) [] []] [],.cells [sl cS o5.2] [(0,9)]])<|(aI (aI (aI trivial (aI (bR (i:=1) (n:=2) rfl) trivial)) (aI (aI trivial trivial) trivial)) (aI (aI (up (n:=2) (aw cy o5.2)) trivial) trivial)))
 exact C.evGp (A:=Ux) mixed (m:=2) (c:=UI) rfl call109 func109 rfl z<|by kernel_rfl
noncomputable def Xx:Code:=f56.body.getD .skip
def OR:List Nat:=[33,63,73,80,88]
section
variable(scope:(List ae))(m:waA)(m2:Int)(m3:ah)(m4:Int)(m5:waD)(m6:waE)(m7:waC)(m8:waB)(m9:waD)(m10:waE)(m11:waC)(m12:waB)(m13:(List ae))
def pD:aB:=aZ 96 [(3,.bptr 1 0),(4,.bptr 2 0),(5,.eptr ((cL aa) scope)),(6,.bptr 4 0),(7,.bptr 5 0),(8,.bptr 6 0)] [.cells [sl cS m] [(0,9)],.cells [.func (.func 62) [] [.bptr 0 0],.func (.func 61) [] []] [],.cells [.int .i64 m2,.str m3,.int .i64 m4,sl ac m5,sl ax m6,sl aF m7,sl aj m8] [(6,60)],.dead,.cells [.int .i64 0,.str ([]:ah),.int .i64 0,sl ac m9,sl ax m10,sl aF m11,sl aj m12] [(3,28),(4,85),(5,89),(6,60)],.cells [sl aa m13] [(0,137)],.cells [.func (.func 105) [] [.bptr 1 0,.eptr ((cL aa) scope),.bptr 5 0]] []] []
def cH(o:waA×ah×(List ae)):aB:=aZ 96 [(3,.bptr 1 0),(4,.bptr 2 0),(5,.eptr ((cL aa) scope)),(6,.bptr 4 0),(7,.bptr 5 0),(8,.bptr 6 0)] [.cells [sl cS o.1] [(0,9)],.cells [.func (.func 62) [] [.bptr 0 0],.func (.func 61) [] []] [],.cells [.int .i64 m2,.str o.2.1,.int .i64 m4,sl ac m5,sl ax m6,sl aF m7,sl aj m8] [(6,60)],.dead,.cells [.int .i64 0,.str ([]:ah),.int .i64 0,sl ac m9,sl ax m10,sl aF m11,sl aj m12] [(3,28),(4,85),(5,89),(6,60)],.cells [sl aa o.2.2] [(0,137)],.cells [.func (.func 105) [] [.bptr 1 0,.eptr ((cL aa) scope),.bptr 5 0]] []] []
def iX:Option ((waA×ah×(List ae))):=
 (nl (⟨m2,m3,m4,m5,m6,m7,m8⟩:af)).bind fun r3=>
 if r3=true then
  (Ap scope m3).bind fun r6=>
  if r6.2=true then
   some (m,r6.1,m13)
  else
   (Kv m3).bind fun r9=>
   some (m,r9,m13)
 else
  if(m2==7)=true then
   (fl m3 scope m m13).bind fun r12=>
   some (r12.2.1,r12.1,r12.2.2)
  else
   some (m,m3,m13)
theorem oA{x:(waA×ah×(List ae))}(h:iX scope m m2 m3 m4 m5 m6 m7 m8 m13=some x):aU Pg GE 1 (cA Xx 62) (EX .normal (cH scope m2 m4 m5 m6 m7 m8 m9 m10 m11 m12 x)) (pD scope m m2 m3 m4 m5 m6 m7 m8 m9 m10 m11 m12 m13):=by
 obtain⟨r3,br3,h⟩:=aG h
 have p5:=fun{sc F} (r:PS sc F)=>sv (cz (⟨m2,m3,m4,m5,m6,m7,m8⟩:af) [])<|cm (mC br3)<|r
 rcases aH h with⟨c4,h⟩|⟨c4,h⟩
 ·obtain⟨r6,br6,h⟩:=aG h
  have p8:=fun{sc F} (r:PS sc F)=>p5<|sg 0 c4<|sv (cT Lo (sl aa scope) [])<|ss<|cm (EK br6)<|r
  rcases aH h with⟨c7,h⟩|⟨c7,h⟩
  ·obtain rfl:=lf h
   exact aY OR (p8<|sg 0 c7<|ss<|eF .normal (cH scope m2 m4 m5 m6 m7 m8 m9 m10 m11 m12 (m,r6.1,m13)))<|by kernel_rfl
  ·obtain⟨r9,br9,h⟩:=aG h
   obtain rfl:=lf h
   exact aY OR (p8<|sg 0 c7<|ss<|ss<|cm (NF br9)<|ss<|eF .normal (cH scope m2 m4 m5 m6 m7 m8 m9 m10 m11 m12 (m,r9,m13)))<|by kernel_rfl
 ·have p11:=fun{sc F} (r:PS sc F)=>p5<|sg 0 c4<|ss<|r
  rcases aH h with⟨c10,h⟩|⟨c10,h⟩
  ·obtain⟨r12,br12,h⟩:=aG h
   obtain rfl:=lf h
   exact aY OR (p11<|sg 0 c10<|ss<|ss<|si (.cg ⟨[1,0,5],[.str m3,.bptr 0 0,.eptr ((cL aa) scope),.bptr 2 0],[],[.cells [.func (.func 62) [] [.bptr 0 0],.func (.func 61) [] []] [],.cells [sl cS m] [(0,9)],.cells [sl aa m13] [(0,137)]],[.cells [.func (.func 62) [] [.bptr 1 0],.func (.func 61) [] []] [],.cells [sl cS m] [(0,9)],.cells [sl aa m13] [(0,137)]],[.cells [.func (.func 62) [] [.bptr 0 0],.func (.func 61) [] []] [],.cells [sl cS r12.2.1] [(0,9)],.cells [sl aa r12.2.2] [(0,137)]],[.cells [.func (.func 62) [] [.bptr 1 0],.func (.func 61) [] []] [],.cells [sl cS r12.2.1] [(0,9)],.cells [sl aa r12.2.2] [(0,137)]],.str r12.1,.str r12.1,[]⟩) (ib br12)<|sf (aI (xR [1,0,5] (.str m3) trivial) (aI (xB [1,0,5] 0 1 0 rfl) (aI (xR [1,0,5] (.eptr ((cL aa) scope)) (oz av scope)) (aI (xB [1,0,5] 2 5 0 rfl) trivial))))<|sf (aI (aI (rB (.cells [.func (.func 62) [] [.bptr 0 0],.func (.func 61) [] []] [])) (aI (rW []) (aI (xF [1,0,5] (.func 62) [] [.bptr 0 0] [] [.bptr 1 0] trivial (aI (xB [1,0,5] 1 0 0 rfl) trivial)) (aI (xR [1,0,5] (.func (.func 61) [] []) (aI trivial trivial)) trivial)))) (aI (aI (rB (.cells [sl cS m] [(0,9)])) (aI (rW [(0,9)]) (aI (xR [1,0,5] (sl cS m) (aw cy m)) trivial))) (aI (aI (rB (.cells [sl aa m13] [(0,137)])) (aI (rW [(0,137)]) (aI (xR [1,0,5] (sl aa m13) (aw av m13)) trivial))) trivial)))<|sf (aI (aI (rW []) (aI (xF [1,0,5] (.func 62) [] [.bptr 0 0] [] [.bptr 1 0] trivial (aI (xB [1,0,5] 1 0 0 rfl) trivial)) (aI (xR [1,0,5] (.func (.func 61) [] []) (aI trivial trivial)) trivial))) (aI (aI (rW [(0,9)]) (aI (xR [1,0,5] (sl cS r12.2.1) (aw cy r12.2.1)) trivial)) (aI (aI (rW [(0,137)]) (aI (xR [1,0,5] (sl aa r12.2.2) (aw av r12.2.2)) trivial)) trivial)))<|sf (xR [1,0,5] (.str r12.1) trivial)<|ss<|eF .normal (cH scope m2 m4 m5 m6 m7 m8 m9 m10 m11 m12 (r12.2.1,r12.1,r12.2.2)))<|by kernel_rfl
  ·obtain rfl:=lf h
   exact aY OR (p11<|sg 0 c10<|eF .normal (cH scope m2 m4 m5 m6 m7 m8 m9 m10 m11 m12 (m,m3,m13)))<|by kernel_rfl
end
section
variable(scope:(List ae))(kids:waD)(i:Int)(t59:waD)(t60:Int)(m:waA)(m2:Int)(m3:ah)(m4:Int)(m5:waE)(m6:waC)(m7:waB)(m8:waD)(m9:waE)(m10:waC)(m11:waB)(m12:(List ae))(m13:Int)(m14:ah)(m15:Int)(m16:waD)(m17:waE)(m18:waC)(m19:waB)
def pE:aB:=aZ 96 [(3,.bptr 1 0),(4,.bptr 2 0),(5,.eptr ((cL aa) scope)),(6,.bptr 4 0),(7,.bptr 5 0),(12,sl ac kids),(13,.int .i64 i),(14,.bptr 8 0),(59,sl ac t59),(60,.int .i64 t60),(61,.int .i64 i)] [.cells [sl cS m] [(0,9)],.cells [.func (.func 62) [] [.bptr 0 0],.func (.func 61) [] []] [],.cells [.int .i64 m2,.str m3,.int .i64 m4,sl ac t59,sl ax m5,sl aF m6,sl aj m7] [(4,85),(6,60)],.dead,.cells [.int .i64 0,.str ([]:ah),.int .i64 0,sl ac m8,sl ax m9,sl aF m10,sl aj m11] [(3,28),(4,85),(5,89),(6,60)],.cells [sl aa m12] [(0,137)],.cells [.func (.func 105) [] [.bptr 1 0,.eptr ((cL aa) scope),.bptr 5 0]] [],.dead,.cells [.int .i64 m13,.str m14,.int .i64 m15,sl ac m16,sl ax m17,sl aF m18,sl aj m19] []] [((12,0),28)]
def eW(o:Bool):aB:=aZ 96 [(3,.bptr 1 0),(4,.bptr 2 0),(5,.eptr ((cL aa) scope)),(6,.bptr 4 0),(7,.bptr 5 0),(12,sl ac kids),(14,.bptr 8 0),(59,sl ac t59),(60,.int .i64 t60),(61,.int .i64 i),(72,.bool o)] [.cells [sl cS m] [(0,9)],.cells [.func (.func 62) [] [.bptr 0 0],.func (.func 61) [] []] [],.cells [.int .i64 m2,.str m3,.int .i64 m4,sl ac t59,sl ax m5,sl aF m6,sl aj m7] [(4,85),(6,60)],.dead,.cells [.int .i64 0,.str ([]:ah),.int .i64 0,sl ac m8,sl ax m9,sl aF m10,sl aj m11] [(3,28),(4,85),(5,89),(6,60)],.cells [sl aa m12] [(0,137)],.cells [.func (.func 105) [] [.bptr 1 0,.eptr ((cL aa) scope),.bptr 5 0]] [],.dead,.cells [.int .i64 m13,.str m14,.int .i64 m15,sl ac m16,sl ax m17,sl aF m18,sl aj m19] []] [((12,0),28)]
def iY:Option Bool:=
 if(m2==7)=true then
  some (i==0)
 else
  some false
theorem oB{x:Bool}(h:iY i m2=some x):aU Pg GE 1 (cA Xx 523766) (EX .normal (eW scope kids i t59 t60 m m2 m3 m4 m5 m6 m7 m8 m9 m10 m11 m12 m13 m14 m15 m16 m17 m18 m19 x)) (pE scope kids i t59 t60 m m2 m3 m4 m5 m6 m7 m8 m9 m10 m11 m12 m13 m14 m15 m16 m17 m18 m19):=by
 rcases aH h with⟨c17,h⟩|⟨c17,h⟩
 ·obtain rfl:=lf h
  exact aY OR (ss<|sg 4 c17<|eF .normal (eW scope kids i t59 t60 m m2 m3 m4 m5 m6 m7 m8 m9 m10 m11 m12 m13 m14 m15 m16 m17 m18 m19 (i==0)))<|by kernel_rfl
 ·obtain rfl:=lf h
  exact aY OR (ss<|sg 4 c17<|eF .normal (eW scope kids i t59 t60 m m2 m3 m4 m5 m6 m7 m8 m9 m10 m11 m12 m13 m14 m15 m16 m17 m18 m19 false))<|by kernel_rfl
end
section
variable(R21:bz)(scope:(List ae))(t59:waD)(t60:Int)(m2:Int)(m3:ah)(m4:Int)(m5:waE)(m6:waC)(m7:waB)(m8:waD)(m9:waE)(m10:waC)(m11:waB)(m12:(List ae))(kids:waD)(t61:Int)(m:waA)
def cd:aB:=aZ 96 [(3,.bptr 1 0),(4,.bptr 2 0),(5,.eptr ((cL aa) scope)),(6,.bptr 4 0),(7,.bptr 5 0),(12,sl ac kids),(59,sl ac t59),(60,.int .i64 t60),(61,.int .i64 t61)] [.cells [sl cS m] [(0,9)],.cells [.func (.func 62) [] [.bptr 0 0],.func (.func 61) [] []] [],.cells [.int .i64 m2,.str m3,.int .i64 m4,sl ac t59,sl ax m5,sl aF m6,sl aj m7] [(4,85),(6,60)],.dead,.cells [.int .i64 0,.str ([]:ah),.int .i64 0,sl ac m8,sl ax m9,sl aF m10,sl aj m11] [(3,28),(4,85),(5,89),(6,60)],.cells [sl aa m12] [(0,137)],.cells [.func (.func 105) [] [.bptr 1 0,.eptr ((cL aa) scope),.bptr 5 0]] [],.dead] [((12,0),28)]
def eX(o:waD×waA):aB:=aZ 96 [(3,.bptr 1 0),(4,.bptr 2 0),(5,.eptr ((cL aa) scope)),(6,.bptr 4 0),(12,sl ac o.1)] [.cells [sl cS o.2] [(0,9)],.cells [.func (.func 62) [] [.bptr 0 0],.func (.func 61) [] []] [],.cells [.int .i64 m2,.str m3,.int .i64 m4,sl ac t59,sl ax m5,sl aF m6,sl aj m7] [(4,85),(6,60)],.dead,.cells [.int .i64 0,.str ([]:ah),.int .i64 0,sl ac m8,sl ax m9,sl aF m10,sl aj m11] [(3,28),(4,85),(5,89),(6,60)],.cells [sl aa m12] [(0,137)],.cells [.func (.func 105) [] [.bptr 1 0,.eptr ((cL aa) scope),.bptr 5 0]] [],.dead] [((12,0),28)]
def ig:Option ((waD×Int×waA)⊕((waD×waA))):=
 if(decide (t61<t60))=true then
  (fy t59 t61).bind fun x16=>
  (iY t61 m2).bind fun o18=>
  if o18=true then
   (R21 x16 scope m).bind fun r21=>
   (app kids ([r21.1]:List af)).bind fun l22=>
   some (.inl (l22,bN (t61+1),r21.2))
  else
   (R21 x16 m12 m).bind fun r23=>
   (app kids ([r23.1]:List af)).bind fun l24=>
   some (.inl (l24,bN (t61+1),r23.2))
 else
  some (.inr (kids,m))
def iZ:Option ((waD×waA)):=loop (fun(zz:waD×Int×waA)=>ig R21 scope t59 t60 m2 m12 zz.1 zz.2.1 zz.2.2) (kids,t61,m)
theorem nV(hR21:bV R21){y:(waD×Int×waA)⊕((waD×waA))}(h:ig R21 scope t59 t60 m2 m12 kids t61 m=some y):aU Pg GE 1 (cA Xx 8183) (LQ (fun(zz:waD×Int×waA)=>cd scope t59 t60 m2 m3 m4 m5 m6 m7 m8 m9 m10 m11 m12 zz.1 zz.2.1 zz.2.2) (fun _=>.exit 1) (eX scope t59 m2 m3 m4 m5 m6 m7 m8 m9 m10 m11 m12) y) (cd scope t59 t60 m2 m3 m4 m5 m6 m7 m8 m9 m10 m11 m12 kids t61 m):=by
 rcases aH h with⟨c15,h⟩|⟨c15,h⟩
 ·obtain⟨x16,bx16,h⟩:=aG h
  obtain⟨o18,bo18,h⟩:=aG h
  have p20:=fun{sc F} (r:PS sc F)=>sg 0 c15<|sv (eP.ia (k:=.i64) bx16)<|sv (aX x16)<|sx BJ<|sx (kl x16)<|nN 0<|cK (oB scope kids t61 t59 t60 m m2 m3 m4 m5 m6 m7 m8 m9 m10 m11 m12 x16.Op x16.Name x16.N x16.Kids x16.Params x16.Alts x16.Types bo18)<|r
  rcases aH h with⟨c19,h⟩|⟨c19,h⟩
  ·obtain⟨r21,br21,h⟩:=aG h
   obtain⟨l22,bl22,h⟩:=aG h
   obtain rfl:=lf h
   have z:=p20<|sg 0 c19<|sv (show bM Pg 95 [.func (.func 62) [] [.bptr 0 0],.func (.func 61) [] []]=some (.agg [.func (.func 62) [] [.bptr 0 0],.func (.func 61) [] []]) by kernel_rfl)<|sv (cz x16 [])<|sv (cT Lo (sl aa scope) [])<|si (.cg ⟨[0],[.agg [.func (.func 62) [] [.bptr 0 0],.func (.func 61) [] []],.agg (ac x16),sl aa scope],[],[.cells [sl cS m] [(0,9)]],[.cells [sl cS m] [(0,9)]],[.cells [sl cS r21.2] [(0,9)]],[.cells [sl cS r21.2] [(0,9)]],.agg (ac r21.1),.agg (ac r21.1),[(3,28),(4,85),(5,89),(6,60)]⟩) (hR21 _ _ _ _ br21)<|sf (aI (xA [0] [.func (.func 62) [] [.bptr 0 0],.func (.func 61) [] []] [.func (.func 62) [] [.bptr 0 0],.func (.func 61) [] []] (aI (xF [0] (.func 62) [] [.bptr 0 0] [] [.bptr 0 0] trivial (aI (xB [0] 0 0 0 rfl) trivial)) (aI (xR [0] (.func (.func 61) [] []) (aI trivial trivial)) trivial))) (aI (xR [0] (.agg (ac x16)) (al x16)) (aI (xR [0] (sl aa scope) (aw av scope)) trivial)))<|sf (aI (aI (rB (.cells [sl cS m] [(0,9)])) (aI (rW [(0,9)]) (aI (xR [0] (sl cS m) (aw cy m)) trivial))) trivial)<|sf (aI (aI (rW [(0,9)]) (aI (xR [0] (sl cS r21.2) (aw cy r21.2)) trivial)) trivial)<|sf (xR [0] (.agg (ac r21.1)) (al r21.1))<|sv (eP.mk' (v:=rJ) lI ([r21.1]:List af) 1 (by kernel_rfl))<|sv (eP.ap bl22)<|vY 1 .normal (cd scope t59 t60 m2 m3 m4 m5 m6 m7 m8 m9 m10 m11 m12 l22 (bN (t61+1)) r21.2) rfl (dI (aI (bR rfl) (aI (bR rfl) (aI (bH (oz av scope)) (aI (bR rfl) (aI (bR rfl) (aI (up (aw al l22)) (aI (up (aw al t59)) (aI trivial (aI trivial trivial)))))))))) (aI (aI (up (aw cy r21.2)) trivial) (aI (aI (aI trivial (aI (bR rfl) trivial)) (aI (aI trivial trivial) trivial)) (aI (aI trivial (aI trivial (aI trivial (aI (up (aw al t59)) (aI (up (aw bj m5)) (aI (up (aw bE m6)) (aI (up (aw aO m7)) trivial))))))) (aI trivial (aI (aI trivial (aI trivial (aI trivial (aI (up (aw al m8)) (aI (up (aw bj m9)) (aI (up (aw bE m10)) (aI (up (aw aO m11)) trivial))))))) (aI (aI (up (aw av m12)) trivial) (aI (aI (aI trivial (aI (bR rfl) (aI (bH (oz av scope)) (aI (bR rfl) trivial)))) trivial) (aI trivial trivial))))))))
   exact eA (A:=OR) mixed z<|by kernel_rfl
  ·obtain⟨r23,br23,h⟩:=aG h
   obtain⟨l24,bl24,h⟩:=aG h
   obtain rfl:=lf h
   have z:=p20<|sg 0 c19<|sv (show bM Pg 95 [.func (.func 62) [] [.bptr 0 0],.func (.func 61) [] []]=some (.agg [.func (.func 62) [] [.bptr 0 0],.func (.func 61) [] []]) by kernel_rfl)<|sv (cz x16 [])<|ss<|si (.cg ⟨[0],[.agg [.func (.func 62) [] [.bptr 0 0],.func (.func 61) [] []],.agg (ac x16),sl aa m12],[],[.cells [sl cS m] [(0,9)]],[.cells [sl cS m] [(0,9)]],[.cells [sl cS r23.2] [(0,9)]],[.cells [sl cS r23.2] [(0,9)]],.agg (ac r23.1),.agg (ac r23.1),[(3,28),(4,85),(5,89),(6,60)]⟩) (hR21 _ _ _ _ br23)<|sf (aI (xA [0] [.func (.func 62) [] [.bptr 0 0],.func (.func 61) [] []] [.func (.func 62) [] [.bptr 0 0],.func (.func 61) [] []] (aI (xF [0] (.func 62) [] [.bptr 0 0] [] [.bptr 0 0] trivial (aI (xB [0] 0 0 0 rfl) trivial)) (aI (xR [0] (.func (.func 61) [] []) (aI trivial trivial)) trivial))) (aI (xR [0] (.agg (ac x16)) (al x16)) (aI (xR [0] (sl aa m12) (aw av m12)) trivial)))<|sf (aI (aI (rB (.cells [sl cS m] [(0,9)])) (aI (rW [(0,9)]) (aI (xR [0] (sl cS m) (aw cy m)) trivial))) trivial)<|sf (aI (aI (rW [(0,9)]) (aI (xR [0] (sl cS r23.2) (aw cy r23.2)) trivial)) trivial)<|sf (xR [0] (.agg (ac r23.1)) (al r23.1))<|sv (eP.mk' (v:=rJ) lI ([r23.1]:List af) 1 (by kernel_rfl))<|sv (eP.ap bl24)<|vY 1 .normal (cd scope t59 t60 m2 m3 m4 m5 m6 m7 m8 m9 m10 m11 m12 l24 (bN (t61+1)) r23.2) rfl (dI (aI (bR rfl) (aI (bR rfl) (aI (bH (oz av scope)) (aI (bR rfl) (aI (bR rfl) (aI (up (aw al l24)) (aI (up (aw al t59)) (aI trivial (aI trivial trivial)))))))))) (aI (aI (up (aw cy r23.2)) trivial) (aI (aI (aI trivial (aI (bR rfl) trivial)) (aI (aI trivial trivial) trivial)) (aI (aI trivial (aI trivial (aI trivial (aI (up (aw al t59)) (aI (up (aw bj m5)) (aI (up (aw bE m6)) (aI (up (aw aO m7)) trivial))))))) (aI trivial (aI (aI trivial (aI trivial (aI trivial (aI (up (aw al m8)) (aI (up (aw bj m9)) (aI (up (aw bE m10)) (aI (up (aw aO m11)) trivial))))))) (aI (aI (up (aw av m12)) trivial) (aI (aI (aI trivial (aI (bR rfl) (aI (bH (oz av scope)) (aI (bR rfl) trivial)))) trivial) (aI trivial trivial))))))))
   exact eA (A:=OR) mixed z<|by kernel_rfl
 ·obtain rfl:=lf h
  have z:=sg 0 c15<|eF (.exit 1) (eX scope t59 m2 m3 m4 m5 m6 m7 m8 m9 m10 m11 m12 (kids,m))
  exact gu OR (by intro hx;cases hx) z<|by kernel_rfl
theorem oC(hR21:bV R21){x:(waD×waA)}(h:iZ R21 scope t59 t60 m2 m12 kids t61 m=some x):aU Pg GE 1 (.loop (cA Xx 8183)) (EX (.exit 1) (eX scope t59 m2 m3 m4 m5 m6 m7 m8 m9 m10 m11 m12 x)) (cd scope t59 t60 m2 m3 m4 m5 m6 m7 m8 m9 m10 m11 m12 kids t61 m):=
 aU.loop (S:=fun(zz:waD×Int×waA)=>cd scope t59 t60 m2 m3 m4 m5 m6 m7 m8 m9 m10 m11 m12 zz.1 zz.2.1 zz.2.2) (ex:=(fun _=>.exit 1)) (s:=(kids,t61,m)) h fun zz y hy=>nV R21 scope t59 t60 m2 m3 m4 m5 m6 m7 m8 m9 m10 m11 m12 zz.1 zz.2.1 zz.2.2 hR21 hy
end
def jl(R21:bz)(e:af)(scope:(List ae))(k0:waA):Option (af×waA):=
 (eB e.Types).bind fun r1=>
 (wI scope).bind fun r2=>
 (iX scope k0 e.Op e.Name e.N e.Kids e.Params e.Alts r1 r2).bind fun o13=>
 (ed e.Params (e.Op==6) scope o13.1 o13.2.2).bind fun r14=>
 (iZ R21 scope e.Kids (e.Kids.length:Int) e.Op r14.2.2 ([]:List af) 0 r14.2.1).bind fun o25=>
 (gz R21 e.Alts scope o25.2).bind fun r26=>
 some ((⟨e.Op,o13.2.1,e.N,o25.1,r14.1,r26.1,r1⟩:af),r26.2)
theorem pX(R21:bz)(hR21:bV R21){e:af}{scope:(List ae)}{k0:waA}{r:af×waA}(h:jl R21 e scope k0=some r):C Pg GE 56 [.agg [.func (.func 62) [] [.bptr 0 0],.func (.func 61) [] []],.agg (ac e),sl aa scope] [] [.cells [sl cS k0] [(0,9)]] (.agg (ac r.1)) [(3,28),(4,85),(5,89),(6,60)] [.cells [sl cS r.2] [(0,9)]]:=by
 obtain⟨r1,br1,h⟩:=aG h
 obtain⟨r2,br2,h⟩:=aG h
 obtain⟨o13,bo13,h⟩:=aG h
 obtain⟨r14,br14,h⟩:=aG h
 obtain⟨o25,bo25,h⟩:=aG h
 obtain⟨r26,br26,h⟩:=aG h
 obtain rfl:=lf h
 have z:=sx (qbk [.func (.func 62) [] [.bptr 0 0],.func (.func 61) [] []])<|sx (kl e)<|se (qdh aa scope)<|sx BJ<|ss<|cm (g6 br1)<|sv (cT Lo (sl aa scope) [])<|cm (z7 br2)<|sx qbo<|sx qbn<|ss<|nN 0<|cK (oA scope k0 e.Op e.Name e.N e.Kids e.Params e.Alts r1 ([]:List af) ([]:List aA) ([]:List aT) ([]:List ak) r2 bo13)<|ss<|sx qdi<|ss<|qcT 7 [[.bool (e.Op==6)]] [3,4,5,6,7,8,11] [] (qcA (m:=1) (b:=7) rfl [.bool (e.Op==6)] rfl) (qcB 7 (l:=[.bool (e.Op==6)]) (aI trivial trivial)) (qcC (qcO [.bool (e.Op==6)]))<|sf (Lk 7 (oz av scope))<|sf (Nd 7 (p:=sl cS o13.1) (aw cy o13.1))<|sf (Nd 7 (p:=sl ac e.Kids) (aw al e.Kids))<|sf (Nd 7 (p:=sl ax e.Params) (aw bj e.Params))<|sf (Nd 7 (p:=sl aF e.Alts) (aw bE e.Alts))<|sf (Nd 7 (p:=sl aj r1) (aw aO r1))<|sf (Nd 7 (p:=sl ac ([]:List af)) (aw al ([]:List af)))<|sf (Nd 7 (p:=sl ax ([]:List aA)) (aw bj ([]:List aA)))<|sf (Nd 7 (p:=sl aF ([]:List aT)) (aw bE ([]:List aT)))<|sf (Nd 7 (p:=sl aj ([]:List ak)) (aw aO ([]:List ak)))<|sf (Nd 7 (p:=sl aa o13.2.2) (aw av o13.2.2))<|sf (Lk 7 (oz av scope))<|ss<|si (.cg ⟨[6,1,0,5],[sl ax e.Params,.func (.func 108) [] [.eptr (cB (e.Op==6)),.bptr 0 0]],[],[.cells [.func (.func 105) [] [.bptr 1 0,.eptr ((cL aa) scope),.bptr 5 0]] [],.cells [.func (.func 62) [] [.bptr 0 0],.func (.func 61) [] []] [],.cells [sl cS o13.1] [(0,9)],.cells [sl aa o13.2.2] [(0,137)]],[.cells [.func (.func 105) [] [.bptr 1 0,.eptr ((cL aa) scope),.bptr 3 0]] [],.cells [.func (.func 62) [] [.bptr 2 0],.func (.func 61) [] []] [],.cells [sl cS o13.1] [(0,9)],.cells [sl aa o13.2.2] [(0,137)]],[.cells [.func (.func 105) [] [.bptr 1 0,.eptr ((cL aa) scope),.bptr 5 0]] [],.cells [.func (.func 62) [] [.bptr 0 0],.func (.func 61) [] []] [],.cells [sl cS r14.2.1] [(0,9)],.cells [sl aa r14.2.2] [(0,137)]],[.cells [.func (.func 105) [] [.bptr 1 0,.eptr ((cL aa) scope),.bptr 3 0]] [],.cells [.func (.func 62) [] [.bptr 2 0],.func (.func 61) [] []] [],.cells [sl cS r14.2.1] [(0,9)],.cells [sl aa r14.2.2] [(0,137)]],sl ax r14.1,sl ax r14.1,[(0,85)]⟩) (gM br14)<|sf (aI (xR [6,1,0,5] (sl ax e.Params) (aw bj e.Params)) (aI (xF [6,1,0,5] (.func 108) [] [.eptr (cB (e.Op==6)),.bptr 6 0] [] [.eptr (cB (e.Op==6)),.bptr 0 0] trivial (aI (xR [6,1,0,5] (.eptr (cB (e.Op==6))) (ZY (e.Op==6))) (aI (xB [6,1,0,5] 0 6 0 rfl) trivial))) trivial))<|sf (aI (aI (rB (.cells [.func (.func 105) [] [.bptr 1 0,.eptr ((cL aa) scope),.bptr 5 0]] [])) (aI (rW []) (aI (xF [6,1,0,5] (.func 105) [] [.bptr 1 0,.eptr ((cL aa) scope),.bptr 5 0] [] [.bptr 1 0,.eptr ((cL aa) scope),.bptr 3 0] trivial (aI (xB [6,1,0,5] 1 1 0 rfl) (aI (xR [6,1,0,5] (.eptr ((cL aa) scope)) (oz av scope)) (aI (xB [6,1,0,5] 3 5 0 rfl) trivial)))) trivial))) (aI (aI (rB (.cells [.func (.func 62) [] [.bptr 0 0],.func (.func 61) [] []] [])) (aI (rW []) (aI (xF [6,1,0,5] (.func 62) [] [.bptr 0 0] [] [.bptr 2 0] trivial (aI (xB [6,1,0,5] 2 0 0 rfl) trivial)) (aI (xR [6,1,0,5] (.func (.func 61) [] []) (aI trivial trivial)) trivial)))) (aI (aI (rB (.cells [sl cS o13.1] [(0,9)])) (aI (rW [(0,9)]) (aI (xR [6,1,0,5] (sl cS o13.1) (aw cy o13.1)) trivial))) (aI (aI (rB (.cells [sl aa o13.2.2] [(0,137)])) (aI (rW [(0,137)]) (aI (xR [6,1,0,5] (sl aa o13.2.2) (aw av o13.2.2)) trivial))) trivial))))<|sf (aI (aI (rW []) (aI (xF [6,1,0,5] (.func 105) [] [.bptr 1 0,.eptr ((cL aa) scope),.bptr 5 0] [] [.bptr 1 0,.eptr ((cL aa) scope),.bptr 3 0] trivial (aI (xB [6,1,0,5] 1 1 0 rfl) (aI (xR [6,1,0,5] (.eptr ((cL aa) scope)) (oz av scope)) (aI (xB [6,1,0,5] 3 5 0 rfl) trivial)))) trivial)) (aI (aI (rW []) (aI (xF [6,1,0,5] (.func 62) [] [.bptr 0 0] [] [.bptr 2 0] trivial (aI (xB [6,1,0,5] 2 0 0 rfl) trivial)) (aI (xR [6,1,0,5] (.func (.func 61) [] []) (aI trivial trivial)) trivial))) (aI (aI (rW [(0,9)]) (aI (xR [6,1,0,5] (sl cS r14.2.1) (aw cy r14.2.1)) trivial)) (aI (aI (rW [(0,137)]) (aI (xR [6,1,0,5] (sl aa r14.2.2) (aw av r14.2.2)) trivial)) trivial))))<|sf (xR [6,1,0,5] (sl ax r14.1) (aw bj r14.1))<|ss<|bF (eP.ln e.Kids)<|cK (oC R21 scope e.Kids (e.Kids.length:Int) e.Op o13.2.1 e.N r14.1 e.Alts r1 ([]:List af) ([]:List aA) ([]:List aT) ([]:List ak) r14.2.2 ([]:List af) 0 r14.2.1 hR21 bo25)<|ss<|si (.cg ⟨[1,0],[sl aF e.Alts,.func (.func 110) [] [.eptr ((cL aa) scope),.bptr 0 0]],[],[.cells [.func (.func 62) [] [.bptr 0 0],.func (.func 61) [] []] [],.cells [sl cS o25.2] [(0,9)]],[.cells [.func (.func 62) [] [.bptr 1 0],.func (.func 61) [] []] [],.cells [sl cS o25.2] [(0,9)]],[.cells [.func (.func 62) [] [.bptr 0 0],.func (.func 61) [] []] [],.cells [sl cS r26.2] [(0,9)]],[.cells [.func (.func 62) [] [.bptr 1 0],.func (.func 61) [] []] [],.cells [sl cS r26.2] [(0,9)]],sl aF r26.1,sl aF r26.1,[(0,89)]⟩) (lZ R21 hR21 br26)<|sf (aI (xR [1,0] (sl aF e.Alts) (aw bE e.Alts)) (aI (xF [1,0] (.func 110) [] [.eptr ((cL aa) scope),.bptr 1 0] [] [.eptr ((cL aa) scope),.bptr 0 0] trivial (aI (xR [1,0] (.eptr ((cL aa) scope)) (oz av scope)) (aI (xB [1,0] 0 1 0 rfl) trivial))) trivial))<|sf (aI (aI (rB (.cells [.func (.func 62) [] [.bptr 0 0],.func (.func 61) [] []] [])) (aI (rW []) (aI (xF [1,0] (.func 62) [] [.bptr 0 0] [] [.bptr 1 0] trivial (aI (xB [1,0] 1 0 0 rfl) trivial)) (aI (xR [1,0] (.func (.func 61) [] []) (aI trivial trivial)) trivial)))) (aI (aI (rB (.cells [sl cS o25.2] [(0,9)])) (aI (rW [(0,9)]) (aI (xR [1,0] (sl cS o25.2) (aw cy o25.2)) trivial))) trivial))<|sf (aI (aI (rW []) (aI (xF [1,0] (.func 62) [] [.bptr 0 0] [] [.bptr 1 0] trivial (aI (xB [1,0] 1 0 0 rfl) trivial)) (aI (xR [1,0] (.func (.func 61) [] []) (aI trivial trivial)) trivial))) (aI (aI (rW [(0,9)]) (aI (xR [1,0] (sl cS r26.2) (aw cy r26.2)) trivial)) trivial))<|sf (xR [1,0] (sl aF r26.1) (aw bE r26.1))<|sz (cz (⟨e.Op,o13.2.1,e.N,o25.1,r14.1,r26.1,r1⟩:af) [])<|sy (cc (⟨e.Op,o13.2.1,e.N,o25.1,r14.1,r26.1,r1⟩:af))<|en (aI (uN (⟨e.Op,o13.2.1,e.N,o25.1,r14.1,r26.1,r1⟩:af))<|aI (qbu (n:=1) (al (⟨e.Op,o13.2.1,e.N,o25.1,r14.1,r26.1,r1⟩:af)))<|aI (rL [.cells [sl cS r26.2] [(0,9)]])<|aI (aI (aI (up (n:=1) (aw cy r26.2)) trivial) trivial)<|rT)
 exact C.evGp (A:=OR) mixed (m:=1) (c:=Xx) rfl call56 func56 rfl z<|by kernel_rfl
def jm:((af×(List ae)×waA)->Option (af×waA))->(af×(List ae)×waA)->Option (af×waA):=fun(rec:(af×(List ae)×waA)->Option (af×waA)) (x:af×(List ae)×waA)=>jl (fun e scope k0=>rec (e,scope,k0)) x.1 x.2.1 x.2.2
def j4(e:af)(scope:(List ae))(k0:waA):Option (af×waA):=sS jm (e,scope,k0)
theorem qr{e:af}{scope:(List ae)}{k0:waA}{r:af×waA}(h:j4 e scope k0=some r):C Pg GE 56 [.agg [.func (.func 62) [] [.bptr 0 0],.func (.func 61) [] []],.agg (ac e),sl aa scope] [] [.cells [sl cS k0] [(0,9)]] (.agg (ac r.1)) [(3,28),(4,85),(5,89),(6,60)] [.cells [sl cS r.2] [(0,9)]]:=
 eg (F:=jm) (M:=fun(x:af×(List ae)×waA) (r:af×waA)=>C Pg GE 56 [.agg [.func (.func 62) [] [.bptr 0 0],.func (.func 61) [] []],.agg (ac x.1),sl aa x.2.1] [] [.cells [sl cS x.2.2] [(0,9)]] (.agg (ac r.1)) [(3,28),(4,85),(5,89),(6,60)] [.cells [sl cS r.2] [(0,9)]]) (fun rec hrec x r h=>pX _ (fun e scope k0 r h=>hrec (e,scope,k0) r h) h) h
noncomputable def qdD:Code:=f15.body.getD .skip
def qdn:List Nat:=[]
def Gi(e:af):Option af:=
 (EE e).bind fun r1=>
 (j4 e ([]:List ae) r1).bind fun r2=>
 some r2.1
theorem JV{e:af}{r:af}(h:Gi e=some r):CC Pg GE 15 [.agg (ac e)] (.agg (ac r)) [(3,28),(4,85),(5,89),(6,60)]:=by
 obtain⟨r1,br1,h⟩:=aG h
 obtain⟨r2,br2,h⟩:=aG h
 obtain rfl:=lf h
 have z:=se (bX e)<|sx BJ<|sv (aX e)<|cm (EF br1)<|sx qcN<|sv (show cR Pg 95 [(1,.func (.func 61) [] []),(0,.func (.func 62) [] [.bptr 2 0])]=some (.agg [.func (.func 62) [] [.bptr 2 0],.func (.func 61) [] []]) by kernel_rfl)<|sx qbp<|sx (qbk [.func (.func 62) [] [.bptr 2 0],.func (.func 61) [] []])<|sv (show bM Pg 95 [.func (.func 62) [] [.bptr 2 0],.func (.func 61) [] []]=some (.agg [.func (.func 62) [] [.bptr 2 0],.func (.func 61) [] []]) by kernel_rfl)<|sv (aX e)<|si (.cg ⟨[2],[.agg [.func (.func 62) [] [.bptr 0 0],.func (.func 61) [] []],.agg (ac e),sl aa ([]:List ae)],[],[.cells [sl cS r1] [(0,9)]],[.cells [sl cS r1] [(0,9)]],[.cells [sl cS r2.2] [(0,9)]],[.cells [sl cS r2.2] [(0,9)]],.agg (ac r2.1),.agg (ac r2.1),[(3,28),(4,85),(5,89),(6,60)]⟩) (qr br2)<|sf (aI (xA [2] [.func (.func 62) [] [.bptr 2 0],.func (.func 61) [] []] [.func (.func 62) [] [.bptr 0 0],.func (.func 61) [] []] (aI (xF [2] (.func 62) [] [.bptr 2 0] [] [.bptr 0 0] trivial (aI (xB [2] 0 2 0 rfl) trivial)) (aI (xR [2] (.func (.func 61) [] []) (aI trivial trivial)) trivial))) (aI (xR [2] (.agg (ac e)) (al e)) (aI (xR [2] (sl aa ([]:List ae)) (aw av ([]:List ae))) trivial)))<|sf (aI (aI (rB (.cells [sl cS r1] [(0,9)])) (aI (rW [(0,9)]) (aI (xR [2] (sl cS r1) (aw cy r1)) trivial))) trivial)<|sf (aI (aI (rW [(0,9)]) (aI (xR [2] (sl cS r2.2) (aw cy r2.2)) trivial)) trivial)<|sf (xR [2] (.agg (ac r2.1)) (al r2.1))<|sy (cc r2.1)<|en (aI (uN r2.1)<|aI (al r2.1)<|rT)
 exact bI qdn call15 func15 (c:=qdD) rfl (aI (al e) trivial) z<|by kernel_rfl
noncomputable def qdI:Code:=f49.body.getD .skip
def qds:List Nat:=[]
def D0(a:ah)(a2:ah):Option af:=
 (gW a).bind fun r1=>
 (gW a2).bind fun r2=>
 some (⟨10,([]:ah),0,([r1,r2]:List af),([]:List aA),([]:List aT),([]:List ak)⟩:af)
theorem D1{a:ah}{a2:ah}{r:af}(h:D0 a a2=some r):CC Pg GE 49 [.str a,.str a2] (.agg (ac r)) [(4,85),(5,89),(6,60)]:=by
 obtain⟨r1,br1,h⟩:=aG h
 obtain⟨r2,br2,h⟩:=aG h
 obtain rfl:=lf h
 have z:=sx BJ<|cm (fA br1)<|cm (fA br2)<|sv (eP.mk' (v:=rJ) lI ([r1,r2]:List af) 2 (by kernel_rfl))<|sb (Qj 10 ([r1,r2]:List af)) (Qh 10 ([r1,r2]:List af))<|sy (cc (⟨10,([]:ah),0,([r1,r2]:List af),([]:List aA),([]:List aT),([]:List ak)⟩:af))<|en (aI (uN (⟨10,([]:ah),0,([r1,r2]:List af),([]:List aA),([]:List aT),([]:List ak)⟩:af))<|aI (al (⟨10,([]:ah),0,([r1,r2]:List af),([]:List aA),([]:List aT),([]:List ak)⟩:af))<|rT)
 exact bI qds call49 func49 (c:=qdI) rfl (aI trivial (aI trivial trivial)) z<|by kernel_rfl
noncomputable def qaI:Code:=f26.body.getD .skip
def ZK:List Nat:=[]
section
variable(v:waA)(v2:waA)(i:Int)
def jx:aB:=aZ 26 [(0,sl cS v),(1,sl cS v2),(5,.int .i64 i)] [] []
def jy(o:Unit⊕(Unit)):Exit:=match o with
 |(.inl _)=>.ret
 |(.inr _)=>.exit 0
def gG(o:Unit⊕(Unit)):aB:=match o with
 |(.inl o)=>aZ 26 [(4,.bool false)] [] []
 |(.inr o)=>aZ 26 [] [] []
def gE:Option (Int⊕(Unit⊕(Unit))):=
 if(decide (i<(v.length:Int)))=true then
  (fy v i).bind fun x4=>
  (fy v2 i).bind fun x5=>
  if(!(x4==x5))=true then
   some (.inr (.inl ()))
  else
   some (.inl (bN (i+1)))
 else
  some (.inr (.inr ()))
def uy:Option (Unit⊕(Unit)):=loop (fun(zz:Int)=>gE v v2 zz) i
theorem DI{y:Int⊕(Unit⊕(Unit))}(h:gE v v2 i=some y):aU Pg GE 0 (cA qaI 119) (LQ (fun(zz:Int)=>jx v v2 zz) jy gG y) (jx v v2 i):=by
 rcases aH h with⟨c3,h⟩|⟨c3,h⟩
 ·obtain⟨x4,bx4,h⟩:=aG h
  obtain⟨x5,bx5,h⟩:=aG h
  have p7:=fun{sc F} (r:PS sc F)=>bF (cO.ln v)<|sg 0 c3<|OO [0,0,3,7,0,0,48,112,255]<|sv (cO.ia (k:=.i64) bx4)<|sv (cT GS (.str x4) [])<|sv (cO.ia (k:=.i64) bx5)<|sv (cT GS (.str x5) [])<|r
  rcases aH h with⟨c6,h⟩|⟨c6,h⟩
  ·obtain rfl:=lf h
   have z:=p7<|sg 0 c6<|eF (jy (.inl ())) (gG (.inl ()))
   exact gu ZK (by intro hx;cases hx) z<|by kernel_rfl
  ·obtain rfl:=lf h
   exact wv ZK (p7<|sg 0 c6<|eF .normal (jx v v2 (bN (i+1))))<|by kernel_rfl
 ·obtain rfl:=lf h
  have z:=bF (cO.ln v)<|sg 0 c3<|eF (jy (.inr ())) (gG (.inr ()))
  exact gu ZK (by intro hx;cases hx) z<|by kernel_rfl
theorem xf{x:Unit⊕(Unit)}(h:uy v v2 i=some x):aU Pg GE 0 (.loop (cA qaI 119)) (EX (jy x) (gG x)) (jx v v2 i):=
 aU.loop (S:=fun(zz:Int)=>jx v v2 zz) (ex:=jy) (s:=i) h fun zz y hy=>DI v v2 zz hy
end
def nH(a:waA)(a2:waA):Option Bool:=
 if((a.length:Int)!=(a2.length:Int))=true then
  some false
 else
  (uy a a2 0).bind fun o8=>match o8 with
  |(.inl o8)=>
   some false
  |(.inr o8)=>
   some true
theorem uz{a:waA}{a2:waA}{r:Bool}(h:nH a a2=some r):CC Pg GE 26 [sl cS a,sl cS a2] (.bool r) []:=by
 have p2:=fun{sc F} (r:PS sc F)=>bF (cO.ln a)<|bF (cO.ln a2)<|r
 rcases aH h with⟨c1,h⟩|⟨c1,h⟩
 ·obtain rfl:=lf h
  have z:=p2<|sg 0 c1<|en (aI (rP (.bool false))<|trivial)
  exact bI ZK call26 func26 (c:=qaI) rfl (aI (aw cy a) (aI (aw cy a2) trivial)) z<|by kernel_rfl
 ·obtain⟨o8,bo8,h⟩:=aG h
  rcases o8 with o8|o8
  ·obtain rfl:=lf h
   have z:=p2<|sg 0 c1<|cK (e:=.ret) (s1:=gG (.inl o8)) (xf a a2 0 bo8)<|en (aI (rP (.bool false))<|trivial)
   exact bI ZK call26 func26 (c:=qaI) rfl (aI (aw cy a) (aI (aw cy a2) trivial)) z<|by kernel_rfl
  ·obtain rfl:=lf h
   have z:=p2<|sg 0 c1<|cK (e:=.exit 0) (s1:=gG (.inr o8)) (xf a a2 0 bo8)<|en (aI (rP (.bool true))<|trivial)
   exact bI ZK call26 func26 (c:=qaI) rfl (aI (aw cy a) (aI (aw cy a2) trivial)) z<|by kernel_rfl
abbrev uC:=(af->af->Option Bool)
abbrev uu(R:uC):Prop:=∀(a:af) (a2:af) (r:Bool),R a a2=some r->CC Pg GE 12 [.agg (ac a),.agg (ac a2)] (.bool r) []
abbrev lC:=(ak->ak->Option Bool)
abbrev sU(R:lC):Prop:=∀(a:ak) (a2:ak) (r:Bool),R a a2=some r->CC Pg GE 97 [.agg (aj a),.agg (aj a2)] (.bool r) []
abbrev Cd:=(az->az->Option Bool)
abbrev Gm(R:Cd):Prop:=∀(a:az) (a2:az) (r:Bool),R a a2=some r->CC Pg GE 133 [.agg (ay a),.agg (ay a2)] (.bool r) []
noncomputable def UK:Code:=f133.body.getD .skip
def NO:List Nat:=[39]
section
variable(v:az)(v2:az)
def NU:aB:=aZ 53 [(2,.eptr (ay v)),(3,.eptr (ay v2))] [.dead,.dead] []
def qE(o:Bool):aB:=aZ 53 [(2,.eptr (ay v)),(3,.eptr (ay v2)),(33,.bool o)] [.dead,.dead] []
def Du:Option Bool:=
 if(v.Op !=v2.Op)=true then
  some true
 else
  if(!(v.Name==v2.Name))=true then
   some true
  else
   if(v.N !=v2.N)=true then
    some true
   else
    some ((v.Kids.length:Int)!=(v2.Kids.length:Int))
theorem L8{x:Bool}(h:Du v v2=some x):aU Pg GE 0 (cA UK 12) (EX .normal (qE v v2 x)) (NU v v2):=by
 have p2:=fun{sc F} (r:PS sc F)=>sv (vg v)<|sv (vp v)<|sv (vg v2)<|sv (vp v2)<|r
 rcases aH h with⟨c1,h⟩|⟨c1,h⟩
 ·obtain rfl:=lf h
  exact aY NO (p2<|sg 6 c1<|eF .normal (qE v v2 true))<|by kernel_rfl
 ·have p4:=fun{sc F} (r:PS sc F)=>p2<|sg 6 c1<|sv (qV v)<|sv (tj v)<|sv (qV v2)<|sv (tj v2)<|r
  rcases aH h with⟨c3,h⟩|⟨c3,h⟩
  ·obtain rfl:=lf h
   exact aY NO (p4<|sg 13 c3<|eF .normal (qE v v2 true))<|by kernel_rfl
  ·have p6:=fun{sc F} (r:PS sc F)=>p4<|sg 13 c3<|sv (vj v)<|sv (xV v)<|sv (vj v2)<|sv (xV v2)<|r
   rcases aH h with⟨c5,h⟩|⟨c5,h⟩
   ·obtain rfl:=lf h
    exact aY NO (p6<|sg 20 c5<|eF .normal (qE v v2 true))<|by kernel_rfl
   ·obtain rfl:=lf h
    exact aY NO (p6<|sg 20 c5<|sv (gY v)<|sv (g5 v)<|bF (qn.ln v.Kids)<|sv (gY v2)<|sv (g5 v2)<|bF (qn.ln v2.Kids)<|eF .normal (qE v v2 ((v.Kids.length:Int)!=(v2.Kids.length:Int))))<|by kernel_rfl
end
section
variable(R39:Cd)(v:az)(v2:az)(t36:Int)(t37:Int)
def qF:aB:=aZ 53 [(2,.eptr (ay v)),(3,.eptr (ay v2)),(36,.int .i64 t36),(37,.int .i64 t37)] [.dead,.dead] []
def qG(o:Unit⊕(Unit)):Exit:=match o with
 |(.inl _)=>.ret
 |(.inr _)=>.exit 0
def ny(o:Unit⊕(Unit)):aB:=match o with
 |(.inl o)=>aZ 53 [(4,.bool false)] [.dead,.dead] []
 |(.inr o)=>aZ 53 [] [.dead,.dead] []
def u7:Option (Int⊕(Unit⊕(Unit))):=
 if(decide (t37<t36))=true then
  (fy v.Kids t37).bind fun x11=>
  (fy v2.Kids t37).bind fun x12=>
  (R39 x11 x12).bind fun r13=>
  if(!r13)=true then
   some (.inr (.inl ()))
  else
   some (.inl (bN (t37+1)))
 else
  some (.inr (.inr ()))
def Dv:Option (Unit⊕(Unit)):=loop (fun(zz:Int)=>u7 R39 v v2 t36 zz) t37
theorem KO(hR39:Gm R39){y:Int⊕(Unit⊕(Unit))}(h:u7 R39 v v2 t36 t37=some y):aU Pg GE 0 (cA UK 119) (LQ (fun(zz:Int)=>qF v v2 t36 zz) qG ny y) (qF v v2 t36 t37):=by
 rcases aH h with⟨c10,h⟩|⟨c10,h⟩
 ·obtain⟨x11,bx11,h⟩:=aG h
  obtain⟨x12,bx12,h⟩:=aG h
  obtain⟨r13,br13,h⟩:=aG h
  have p15:=fun{sc F} (r:PS sc F)=>sg 0 c10<|OO [0,1,0,7,15,0,32,0,224,480,1023,2047]<|sv (gY v)<|sv (g5 v)<|sv (qn.ia (k:=.i64) bx11)<|sv (tk x11)<|sv (gY v2)<|sv (g5 v2)<|sv (qn.ia (k:=.i64) bx12)<|sv (tk x12)<|cm (hR39 _ _ _ br13)<|r
  rcases aH h with⟨c14,h⟩|⟨c14,h⟩
  ·obtain rfl:=lf h
   have z:=p15<|sg 0 c14<|eF (qG (.inl ())) (ny (.inl ()))
   exact gu NO (by intro hx;cases hx) z<|by kernel_rfl
  ·obtain rfl:=lf h
   exact wv NO (p15<|sg 0 c14<|eF .normal (qF v v2 t36 (bN (t37+1))))<|by kernel_rfl
 ·obtain rfl:=lf h
  have z:=sg 0 c10<|eF (qG (.inr ())) (ny (.inr ()))
  exact gu NO (by intro hx;cases hx) z<|by kernel_rfl
theorem Dw(hR39:Gm R39){x:Unit⊕(Unit)}(h:Dv R39 v v2 t36 t37=some x):aU Pg GE 0 (.loop (cA UK 119)) (EX (qG x) (ny x)) (qF v v2 t36 t37):=
 aU.loop (S:=fun(zz:Int)=>qF v v2 t36 zz) (ex:=qG) (s:=t37) h fun zz y hy=>KO R39 v v2 t36 zz hR39 hy
end
def BZ(R39:Cd)(a:az)(a2:az):Option Bool:=
 (Du a a2).bind fun o7=>
 if o7=true then
  some false
 else
  (Dv R39 a a2 (a.Kids.length:Int) 0).bind fun o16=>match o16 with
  |(.inl o16)=>
   some false
  |(.inr o16)=>
   some true
theorem PZ(R39:Cd)(hR39:Gm R39){a:az}{a2:az}{r:Bool}(h:BZ R39 a a2=some r):CC Pg GE 133 [.agg (ay a),.agg (ay a2)] (.bool r) []:=by
 obtain⟨o7,bo7,h⟩:=aG h
 have p9:=fun{sc F} (r:PS sc F)=>se (Ie a)<|se (Ie a2)<|nN 1<|cK (L8 a a2 bo7)<|r
 rcases aH h with⟨c8,h⟩|⟨c8,h⟩
 ·obtain rfl:=lf h
  have z:=p9<|sg 0 c8<|en (aI (rP (.bool false))<|trivial)
  exact bI NO call133 func133 (c:=UK) rfl (aI (cb a) (aI (cb a2) trivial)) z<|by kernel_rfl
 ·obtain⟨o16,bo16,h⟩:=aG h
  rcases o16 with o16|o16
  ·obtain rfl:=lf h
   have z:=p9<|sg 0 c8<|sv (gY a)<|sv (g5 a)<|bF (qn.ln a.Kids)<|cK (e:=.ret) (s1:=ny (.inl o16)) (Dw R39 a a2 (a.Kids.length:Int) 0 hR39 bo16)<|en (aI (rP (.bool false))<|trivial)
   exact bI NO call133 func133 (c:=UK) rfl (aI (cb a) (aI (cb a2) trivial)) z<|by kernel_rfl
  ·obtain rfl:=lf h
   have z:=p9<|sg 0 c8<|sv (gY a)<|sv (g5 a)<|bF (qn.ln a.Kids)<|cK (e:=.exit 0) (s1:=ny (.inr o16)) (Dw R39 a a2 (a.Kids.length:Int) 0 hR39 bo16)<|en (aI (rP (.bool true))<|trivial)
   exact bI NO call133 func133 (c:=UK) rfl (aI (cb a) (aI (cb a2) trivial)) z<|by kernel_rfl
def Gq:((az×az)->Option Bool)->(az×az)->Option Bool:=fun(rec:(az×az)->Option Bool) (x:az×az)=>BZ (fun a a2=>rec (a,a2)) x.1 x.2
def Hk(a:az)(a2:az):Option Bool:=sS Gq (a,a2)
theorem Kb{a:az}{a2:az}{r:Bool}(h:Hk a a2=some r):CC Pg GE 133 [.agg (ay a),.agg (ay a2)] (.bool r) []:=
 eg (F:=Gq) (M:=fun(x:az×az) (r:Bool)=>CC Pg GE 133 [.agg (ay x.1),.agg (ay x.2)] (.bool r) []) (fun rec hrec x r h=>PZ _ (fun a a2 r h=>hrec (a,a2) r h) h) h
noncomputable def qaJ:Code:=f51.body.getD .skip
def ZL:List Nat:=[]
section
variable(R38:lC)(v:waB)(v2:waB)(i:Int)
def jz:aB:=aZ 27 [(0,sl aj v),(1,sl aj v2),(5,.int .i64 i)] [] []
def jA(o:Unit⊕(Unit)):Exit:=match o with
 |(.inl _)=>.ret
 |(.inr _)=>.exit 0
def gI(o:Unit⊕(Unit)):aB:=match o with
 |(.inl o)=>aZ 27 [(4,.bool false)] [] []
 |(.inr o)=>aZ 27 [] [] []
def gH:Option (Int⊕(Unit⊕(Unit))):=
 if(decide (i<(v.length:Int)))=true then
  (fy v i).bind fun x4=>
  (fy v2 i).bind fun x5=>
  (R38 x4 x5).bind fun r6=>
  if(!r6)=true then
   some (.inr (.inl ()))
  else
   some (.inl (bN (i+1)))
 else
  some (.inr (.inr ()))
def uA:Option (Unit⊕(Unit)):=loop (fun(zz:Int)=>gH R38 v v2 zz) i
theorem DJ(hR38:sU R38){y:Int⊕(Unit⊕(Unit))}(h:gH R38 v v2 i=some y):aU Pg GE 0 (cA qaJ 119) (LQ (fun(zz:Int)=>jz v v2 zz) jA gI y) (jz v v2 i):=by
 rcases aH h with⟨c3,h⟩|⟨c3,h⟩
 ·obtain⟨x4,bx4,h⟩:=aG h
  obtain⟨x5,bx5,h⟩:=aG h
  obtain⟨r6,br6,h⟩:=aG h
  have p8:=fun{sc F} (r:PS sc F)=>bF (db.ln v)<|sg 0 c3<|OO [0,0,3,7,0,0,48,112,255,511]<|sv (db.ia (k:=.i64) bx4)<|sv (fZ x4)<|sv (db.ia (k:=.i64) bx5)<|sv (fZ x5)<|cm (hR38 _ _ _ br6)<|r
  rcases aH h with⟨c7,h⟩|⟨c7,h⟩
  ·obtain rfl:=lf h
   have z:=p8<|sg 0 c7<|eF (jA (.inl ())) (gI (.inl ()))
   exact gu ZL (by intro hx;cases hx) z<|by kernel_rfl
  ·obtain rfl:=lf h
   exact wv ZL (p8<|sg 0 c7<|eF .normal (jz v v2 (bN (i+1))))<|by kernel_rfl
 ·obtain rfl:=lf h
  have z:=bF (db.ln v)<|sg 0 c3<|eF (jA (.inr ())) (gI (.inr ()))
  exact gu ZL (by intro hx;cases hx) z<|by kernel_rfl
theorem xg(hR38:sU R38){x:Unit⊕(Unit)}(h:uA R38 v v2 i=some x):aU Pg GE 0 (.loop (cA qaJ 119)) (EX (jA x) (gI x)) (jz v v2 i):=
 aU.loop (S:=fun(zz:Int)=>jz v v2 zz) (ex:=jA) (s:=i) h fun zz y hy=>DJ R38 v v2 zz hR38 hy
end
def qM(R38:lC)(a:waB)(a2:waB):Option Bool:=
 if((a.length:Int)!=(a2.length:Int))=true then
  some false
 else
  (uA R38 a a2 0).bind fun o9=>match o9 with
  |(.inl o9)=>
   some false
  |(.inr o9)=>
   some true
theorem Bb(R38:lC)(hR38:sU R38){a:waB}{a2:waB}{r:Bool}(h:qM R38 a a2=some r):CC Pg GE 51 [sl aj a,sl aj a2] (.bool r) []:=by
 have p2:=fun{sc F} (r:PS sc F)=>bF (db.ln a)<|bF (db.ln a2)<|r
 rcases aH h with⟨c1,h⟩|⟨c1,h⟩
 ·obtain rfl:=lf h
  have z:=p2<|sg 0 c1<|en (aI (rP (.bool false))<|trivial)
  exact bI ZL call51 func51 (c:=qaJ) rfl (aI (aw aO a) (aI (aw aO a2) trivial)) z<|by kernel_rfl
 ·obtain⟨o9,bo9,h⟩:=aG h
  rcases o9 with o9|o9
  ·obtain rfl:=lf h
   have z:=p2<|sg 0 c1<|cK (e:=.ret) (s1:=gI (.inl o9)) (xg R38 a a2 0 hR38 bo9)<|en (aI (rP (.bool false))<|trivial)
   exact bI ZL call51 func51 (c:=qaJ) rfl (aI (aw aO a) (aI (aw aO a2) trivial)) z<|by kernel_rfl
  ·obtain rfl:=lf h
   have z:=p2<|sg 0 c1<|cK (e:=.exit 0) (s1:=gI (.inr o9)) (xg R38 a a2 0 hR38 bo9)<|en (aI (rP (.bool true))<|trivial)
   exact bI ZL call51 func51 (c:=qaJ) rfl (aI (aw aO a) (aI (aw aO a2) trivial)) z<|by kernel_rfl
noncomputable def ZW:Code:=f97.body.getD .skip
def VX:List Nat:=[]
section
variable(v:ak)(v2:ak)
def Ho:aB:=aZ 67 [(2,.eptr (aj v)),(3,.eptr (aj v2))] [.dead,.dead] []
def iu(o:Bool):aB:=aZ 67 [(2,.eptr (aj v)),(3,.eptr (aj v2)),(42,.bool o)] [.dead,.dead] []
def wz:Option Bool:=
 if(v.Op !=v2.Op)=true then
  some true
 else
  if(!(v.Name==v2.Name))=true then
   some true
  else
   (nH v.Names v2.Names).bind fun r5=>
   if(!r5)=true then
    some true
   else
    (Hk v.Pred v2.Pred).bind fun r8=>
    if(!r8)=true then
     some true
    else
     some ((v.Preds.length:Int)!=(v2.Preds.length:Int))
theorem Gs{x:Bool}(h:wz v v2=some x):aU Pg GE 0 (cA ZW 12) (EX .normal (iu v v2 x)) (Ho v v2):=by
 have p2:=fun{sc F} (r:PS sc F)=>sv (aR v)<|sv (aS v)<|sv (aR v2)<|sv (aS v2)<|r
 rcases aH h with⟨c1,h⟩|⟨c1,h⟩
 ·obtain rfl:=lf h
  exact aY VX (p2<|sg 6 c1<|eF .normal (iu v v2 true))<|by kernel_rfl
 ·have p4:=fun{sc F} (r:PS sc F)=>p2<|sg 6 c1<|sv (er v)<|sv (e8 v)<|sv (er v2)<|sv (e8 v2)<|r
  rcases aH h with⟨c3,h⟩|⟨c3,h⟩
  ·obtain rfl:=lf h
   exact aY VX (p4<|sg 13 c3<|eF .normal (iu v v2 true))<|by kernel_rfl
  ·obtain⟨r5,br5,h⟩:=aG h
   have p7:=fun{sc F} (r:PS sc F)=>p4<|sg 13 c3<|sv (b8 v)<|sv (b9 v)<|sv (b8 v2)<|sv (b9 v2)<|cm (uz br5)<|r
   rcases aH h with⟨c6,h⟩|⟨c6,h⟩
   ·obtain rfl:=lf h
    exact aY VX (p7<|sg 21 c6<|eF .normal (iu v v2 true))<|by kernel_rfl
   ·obtain⟨r8,br8,h⟩:=aG h
    have p10:=fun{sc F} (r:PS sc F)=>p7<|sg 21 c6<|sv (qW v)<|sv (qY v)<|sv (qW v2)<|sv (qY v2)<|cm (Kb br8)<|r
    rcases aH h with⟨c9,h⟩|⟨c9,h⟩
    ·obtain rfl:=lf h
     exact aY VX (p10<|sg 29 c9<|eF .normal (iu v v2 true))<|by kernel_rfl
    ·obtain rfl:=lf h
     exact aY VX (p10<|sg 29 c9<|sv (je v)<|sv (jh v)<|bF (qn.ln v.Preds)<|sv (je v2)<|sv (jh v2)<|bF (qn.ln v2.Preds)<|eF .normal (iu v v2 ((v.Preds.length:Int)!=(v2.Preds.length:Int))))<|by kernel_rfl
end
section
variable(v:ak)(v2:ak)(i:Int)
def kr:aB:=aZ 67 [(2,.eptr (aj v)),(3,.eptr (aj v2)),(5,.int .i64 i)] [.dead,.dead] []
def ku(o:Unit⊕(Unit)):Exit:=match o with
 |(.inl _)=>.ret
 |(.inr _)=>.exit 0
def iw(o:Unit⊕(Unit)):aB:=match o with
 |(.inl o)=>aZ 67 [(4,.bool false)] [.dead,.dead] []
 |(.inr o)=>aZ 67 [(2,.eptr (aj v)),(3,.eptr (aj v2))] [.dead,.dead] []
def fV:Option (Int⊕(Unit⊕(Unit))):=
 if(decide (i<(v.Preds.length:Int)))=true then
  (fy v.Preds i).bind fun x16=>
  (fy v2.Preds i).bind fun x17=>
  (Hk x16 x17).bind fun r18=>
  if(!r18)=true then
   some (.inr (.inl ()))
  else
   some (.inl (bN (i+1)))
 else
  some (.inr (.inr ()))
def wA:Option (Unit⊕(Unit)):=loop (fun(zz:Int)=>fV v v2 zz) i
theorem Fq{y:Int⊕(Unit⊕(Unit))}(h:fV v v2 i=some y):aU Pg GE 0 (cA ZW 119) (LQ (fun(zz:Int)=>kr v v2 zz) ku (iw v v2) y) (kr v v2 i):=by
 have p15:=fun{sc F} (r:PS sc F)=>sv (je v)<|sv (jh v)<|bF (qn.ln v.Preds)<|r
 rcases aH h with⟨c14,h⟩|⟨c14,h⟩
 ·obtain⟨x16,bx16,h⟩:=aG h
  obtain⟨x17,bx17,h⟩:=aG h
  obtain⟨r18,br18,h⟩:=aG h
  have p20:=fun{sc F} (r:PS sc F)=>p15<|sg 0 c14<|OO [0,1,0,7,15,0,32,0,224,480,1023,2047]<|sv (je v)<|sv (jh v)<|sv (qn.ia (k:=.i64) bx16)<|sv (tk x16)<|sv (je v2)<|sv (jh v2)<|sv (qn.ia (k:=.i64) bx17)<|sv (tk x17)<|cm (Kb br18)<|r
  rcases aH h with⟨c19,h⟩|⟨c19,h⟩
  ·obtain rfl:=lf h
   have z:=p20<|sg 0 c19<|eF (ku (.inl ())) (iw v v2 (.inl ()))
   exact gu VX (by intro hx;cases hx) z<|by kernel_rfl
  ·obtain rfl:=lf h
   exact wv VX (p20<|sg 0 c19<|eF .normal (kr v v2 (bN (i+1))))<|by kernel_rfl
 ·obtain rfl:=lf h
  have z:=p15<|sg 0 c14<|eF (ku (.inr ())) (iw v v2 (.inr ()))
  exact gu VX (by intro hx;cases hx) z<|by kernel_rfl
theorem yA{x:Unit⊕(Unit)}(h:wA v v2 i=some x):aU Pg GE 0 (.loop (cA ZW 119)) (EX (ku x) (iw v v2 x)) (kr v v2 i):=
 aU.loop (S:=fun(zz:Int)=>kr v v2 zz) (ex:=ku) (s:=i) h fun zz y hy=>Fq v v2 zz hy
end
def s9(R38:lC)(a:ak)(a2:ak):Option Bool:=
 (wz a a2).bind fun o11=>
 if o11=true then
  some false
 else
  (wA a a2 0).bind fun o21=>match o21 with
  |(.inl o21)=>
   some false
  |(.inr o21)=>
   (qM R38 a.Args a2.Args).bind fun r22=>
   some r22
theorem IU(R38:lC)(hR38:sU R38){a:ak}{a2:ak}{r:Bool}(h:s9 R38 a a2=some r):CC Pg GE 97 [.agg (aj a),.agg (aj a2)] (.bool r) []:=by
 obtain⟨o11,bo11,h⟩:=aG h
 have p13:=fun{sc F} (r:PS sc F)=>se (kF a)<|se (kF a2)<|nN 1<|cK (Gs a a2 bo11)<|r
 rcases aH h with⟨c12,h⟩|⟨c12,h⟩
 ·obtain rfl:=lf h
  have z:=p13<|sg 0 c12<|en (aI (rP (.bool false))<|trivial)
  exact bI VX call97 func97 (c:=ZW) rfl (aI (aO a) (aI (aO a2) trivial)) z<|by kernel_rfl
 ·obtain⟨o21,bo21,h⟩:=aG h
  rcases o21 with o21|o21
  ·obtain rfl:=lf h
   have z:=p13<|sg 0 c12<|cK (e:=.ret) (s1:=iw a a2 (.inl o21)) (yA a a2 0 bo21)<|en (aI (rP (.bool false))<|trivial)
   exact bI VX call97 func97 (c:=ZW) rfl (aI (aO a) (aI (aO a2) trivial)) z<|by kernel_rfl
  ·obtain⟨r22,br22,h⟩:=aG h
   obtain rfl:=lf h
   have z:=p13<|sg 0 c12<|cK (e:=.exit 0) (s1:=iw a a2 (.inr o21)) (yA a a2 0 bo21)<|sv (bO a)<|sv (bP a)<|sv (bO a2)<|sv (bP a2)<|cm (Bb R38 hR38 br22)<|en (aI (rP (.bool r22))<|trivial)
   exact bI VX call97 func97 (c:=ZW) rfl (aI (aO a) (aI (aO a2) trivial)) z<|by kernel_rfl
def yz:((ak×ak)->Option Bool)->(ak×ak)->Option Bool:=fun(rec:(ak×ak)->Option Bool) (x:ak×ak)=>s9 (fun a a2=>rec (a,a2)) x.1 x.2
def mo(a:ak)(a2:ak):Option Bool:=sS yz (a,a2)
theorem wB{a:ak}{a2:ak}{r:Bool}(h:mo a a2=some r):CC Pg GE 97 [.agg (aj a),.agg (aj a2)] (.bool r) []:=
 eg (F:=yz) (M:=fun(x:ak×ak) (r:Bool)=>CC Pg GE 97 [.agg (aj x.1),.agg (aj x.2)] (.bool r) []) (fun rec hrec x r h=>IU _ (fun a a2 r h=>hrec (a,a2) r h) h) h
noncomputable def ZT:Code:=f50.body.getD .skip
def YC:List Nat:=[]
section
variable(v:waE)(v2:waE)(i:Int)
def Ft:aB:=aZ 42 [(0,sl ax v),(1,sl ax v2),(5,.int .i64 i)] [] []
def qg(o:Bool):aB:=aZ 42 [(0,sl ax v),(1,sl ax v2),(5,.int .i64 i),(41,.bool o)] [] []
def tc:Option Bool:=
 (fy v i).bind fun x4=>
 (fy v2 i).bind fun x5=>
 if(!(x4.Name==x5.Name))=true then
  some true
 else
  (fy v i).bind fun x8=>
  (fy v2 i).bind fun x9=>
  (mo x8.Type_ x9.Type_).bind fun r10=>
  some (!r10)
theorem DS{x:Bool}(h:tc v v2 i=some x):aU Pg GE 0 (cA ZT 1914) (EX .normal (qg v v2 i x)) (Ft v v2 i):=by
 obtain⟨x4,bx4,h⟩:=aG h
 obtain⟨x5,bx5,h⟩:=aG h
 have p7:=fun{sc F} (r:PS sc F)=>OO [0,0,3,7,15,0,0,96,224,480,1023,2047,4095,4095,16383,32767,65535,4095,4095,397311,921599,1970175,4194303,8388607,16777215]<|sv (il.ia (k:=.i64) bx4)<|sv (jG x4)<|sv (kU x4)<|sv (il.ia (k:=.i64) bx5)<|sv (jG x5)<|sv (kU x5)<|r
 rcases aH h with⟨c6,h⟩|⟨c6,h⟩
 ·obtain rfl:=lf h
  exact aY YC (p7<|sg 12 c6<|eF .normal (qg v v2 i true))<|by kernel_rfl
 ·obtain⟨x8,bx8,h⟩:=aG h
  obtain⟨x9,bx9,h⟩:=aG h
  obtain⟨r10,br10,h⟩:=aG h
  obtain rfl:=lf h
  exact aY YC (p7<|sg 12 c6<|sv (il.ia (k:=.i64) bx8)<|sv (jH x8)<|sv (jI x8)<|sv (il.ia (k:=.i64) bx9)<|sv (jH x9)<|sv (jI x9)<|cm (wB br10)<|eF .normal (qg v v2 i (!r10)))<|by kernel_rfl
end
section
variable(v:waE)(v2:waE)(i:Int)
def iR:aB:=aZ 42 [(0,sl ax v),(1,sl ax v2),(5,.int .i64 i)] [] []
def iS(o:Unit⊕(Unit)):Exit:=match o with
 |(.inl _)=>.ret
 |(.inr _)=>.exit 0
def gf(o:Unit⊕(Unit)):aB:=match o with
 |(.inl o)=>aZ 42 [(4,.bool false)] [] []
 |(.inr o)=>aZ 42 [] [] []
def gd:Option (Int⊕(Unit⊕(Unit))):=
 if(decide (i<(v.length:Int)))=true then
  (tc v v2 i).bind fun o11=>
  if o11=true then
   some (.inr (.inl ()))
  else
   some (.inl (bN (i+1)))
 else
  some (.inr (.inr ()))
def td:Option (Unit⊕(Unit)):=loop (fun(zz:Int)=>gd v v2 zz) i
theorem C1{y:Int⊕(Unit⊕(Unit))}(h:gd v v2 i=some y):aU Pg GE 0 (cA ZT 119) (LQ (fun(zz:Int)=>iR v v2 zz) iS gf y) (iR v v2 i):=by
 rcases aH h with⟨c3,h⟩|⟨c3,h⟩
 ·obtain⟨o11,bo11,h⟩:=aG h
  have p13:=fun{sc F} (r:PS sc F)=>bF (il.ln v)<|sg 0 c3<|nN 1<|cK (DS v v2 i bo11)<|r
  rcases aH h with⟨c12,h⟩|⟨c12,h⟩
  ·obtain rfl:=lf h
   have z:=p13<|sg 0 c12<|eF (iS (.inl ())) (gf (.inl ()))
   exact gu YC (by intro hx;cases hx) z<|by kernel_rfl
  ·obtain rfl:=lf h
   exact wv YC (p13<|sg 0 c12<|eF .normal (iR v v2 (bN (i+1))))<|by kernel_rfl
 ·obtain rfl:=lf h
  have z:=bF (il.ln v)<|sg 0 c3<|eF (iS (.inr ())) (gf (.inr ()))
  exact gu YC (by intro hx;cases hx) z<|by kernel_rfl
theorem vV{x:Unit⊕(Unit)}(h:td v v2 i=some x):aU Pg GE 0 (.loop (cA ZT 119)) (EX (iS x) (gf x)) (iR v v2 i):=
 aU.loop (S:=fun(zz:Int)=>iR v v2 zz) (ex:=iS) (s:=i) h fun zz y hy=>C1 v v2 zz hy
end
def tb(a:waE)(a2:waE):Option Bool:=
 if((a.length:Int)!=(a2.length:Int))=true then
  some false
 else
  (td a a2 0).bind fun o14=>match o14 with
  |(.inl o14)=>
   some false
  |(.inr o14)=>
   some true
theorem Hs{a:waE}{a2:waE}{r:Bool}(h:tb a a2=some r):CC Pg GE 50 [sl ax a,sl ax a2] (.bool r) []:=by
 have p2:=fun{sc F} (r:PS sc F)=>bF (il.ln a)<|bF (il.ln a2)<|r
 rcases aH h with⟨c1,h⟩|⟨c1,h⟩
 ·obtain rfl:=lf h
  have z:=p2<|sg 0 c1<|en (aI (rP (.bool false))<|trivial)
  exact bI YC call50 func50 (c:=ZT) rfl (aI (aw bj a) (aI (aw bj a2) trivial)) z<|by kernel_rfl
 ·obtain⟨o14,bo14,h⟩:=aG h
  rcases o14 with o14|o14
  ·obtain rfl:=lf h
   have z:=p2<|sg 0 c1<|cK (e:=.ret) (s1:=gf (.inl o14)) (vV a a2 0 bo14)<|en (aI (rP (.bool false))<|trivial)
   exact bI YC call50 func50 (c:=ZT) rfl (aI (aw bj a) (aI (aw bj a2) trivial)) z<|by kernel_rfl
  ·obtain rfl:=lf h
   have z:=p2<|sg 0 c1<|cK (e:=.exit 0) (s1:=gf (.inr o14)) (vV a a2 0 bo14)<|en (aI (rP (.bool true))<|trivial)
   exact bI YC call50 func50 (c:=ZT) rfl (aI (aw bj a) (aI (aw bj a2) trivial)) z<|by kernel_rfl
noncomputable def VK:Code:=f12.body.getD .skip
def NN:List Nat:=[]
section
variable(v:af)(v2:af)
def N5:aB:=aZ 117 [(2,.eptr (ac v)),(3,.eptr (ac v2))] [.dead,.dead] []
def nI(o:Bool):aB:=aZ 117 [(2,.eptr (ac v)),(3,.eptr (ac v2)),(43,.bool o)] [.dead,.dead] []
def DK:Option Bool:=
 if(v.Op !=v2.Op)=true then
  some true
 else
  if(!(v.Name==v2.Name))=true then
   some true
  else
   if(v.N !=v2.N)=true then
    some true
   else
    (tb v.Params v2.Params).bind fun r7=>
    if(!r7)=true then
     some true
    else
     (qM mo v.Types v2.Types).bind fun r10=>
     some (!r10)
theorem Mk{x:Bool}(h:DK v v2=some x):aU Pg GE 0 (cA VK 12) (EX .normal (nI v v2 x)) (N5 v v2):=by
 have p2:=fun{sc F} (r:PS sc F)=>sv (cp v)<|sv (cq v)<|sv (cp v2)<|sv (cq v2)<|r
 rcases aH h with⟨c1,h⟩|⟨c1,h⟩
 ·obtain rfl:=lf h
  exact aY NN (p2<|sg 6 c1<|eF .normal (nI v v2 true))<|by kernel_rfl
 ·have p4:=fun{sc F} (r:PS sc F)=>p2<|sg 6 c1<|sv (dq v)<|sv (d8 v)<|sv (dq v2)<|sv (d8 v2)<|r
  rcases aH h with⟨c3,h⟩|⟨c3,h⟩
  ·obtain rfl:=lf h
   exact aY NN (p4<|sg 13 c3<|eF .normal (nI v v2 true))<|by kernel_rfl
  ·have p6:=fun{sc F} (r:PS sc F)=>p4<|sg 13 c3<|sv (dg v)<|sv (dH v)<|sv (dg v2)<|sv (dH v2)<|r
   rcases aH h with⟨c5,h⟩|⟨c5,h⟩
   ·obtain rfl:=lf h
    exact aY NN (p6<|sg 20 c5<|eF .normal (nI v v2 true))<|by kernel_rfl
   ·obtain⟨r7,br7,h⟩:=aG h
    have p9:=fun{sc F} (r:PS sc F)=>p6<|sg 20 c5<|sv (ba v)<|sv (bh v)<|sv (ba v2)<|sv (bh v2)<|cm (Hs br7)<|r
    rcases aH h with⟨c8,h⟩|⟨c8,h⟩
    ·obtain rfl:=lf h
     exact aY NN (p9<|sg 28 c8<|eF .normal (nI v v2 true))<|by kernel_rfl
    ·obtain⟨r10,br10,h⟩:=aG h
     obtain rfl:=lf h
     exact aY NN (p9<|sg 28 c8<|sv (aJ v)<|sv (aK v)<|sv (aJ v2)<|sv (aK v2)<|cm (Bb mo (fun _ _ _ h=>wB h) br10)<|eF .normal (nI v v2 (!r10)))<|by kernel_rfl
end
section
variable(v:af)(v2:af)
def N6:aB:=aZ 117 [(2,.eptr (ac v)),(3,.eptr (ac v2))] [.dead,.dead] []
def AG(o:Bool):aB:=aZ 117 [(2,.eptr (ac v)),(3,.eptr (ac v2)),(59,.bool o)] [.dead,.dead] []
def DL:Option Bool:=
 if((v.Kids.length:Int)!=(v2.Kids.length:Int))=true then
  some true
 else
  some ((v.Alts.length:Int)!=(v2.Alts.length:Int))
theorem Ml{x:Bool}(h:DL v v2=some x):aU Pg GE 0 (cA VK 28) (EX .normal (AG v v2 x)) (N6 v v2):=by
 have p15:=fun{sc F} (r:PS sc F)=>sv (a8 v)<|sv (be v)<|bF (eP.ln v.Kids)<|sv (a8 v2)<|sv (be v2)<|bF (eP.ln v2.Kids)<|r
 rcases aH h with⟨c14,h⟩|⟨c14,h⟩
 ·obtain rfl:=lf h
  exact aY NN (p15<|sg 8 c14<|eF .normal (AG v v2 true))<|by kernel_rfl
 ·obtain rfl:=lf h
  exact aY NN (p15<|sg 8 c14<|sv (aD v)<|sv (aE v)<|bF (dZ.ln v.Alts)<|sv (aD v2)<|sv (aE v2)<|bF (dZ.ln v2.Alts)<|eF .normal (AG v v2 ((v.Alts.length:Int)!=(v2.Alts.length:Int))))<|by kernel_rfl
end
section
variable(R36:uC)(v:af)(v2:af)(i:Int)
def qN:aB:=aZ 117 [(2,.eptr (ac v)),(3,.eptr (ac v2)),(5,.int .i64 i)] [.dead,.dead] []
def qO(o:Unit⊕(Unit)):Exit:=match o with
 |(.inl _)=>.ret
 |(.inr _)=>.exit 0
def kQ(o:Unit⊕(Unit)):aB:=match o with
 |(.inl o)=>aZ 117 [(4,.bool false)] [.dead,.dead] []
 |(.inr o)=>aZ 117 [(2,.eptr (ac v)),(3,.eptr (ac v2))] [.dead,.dead] []
def kP:Option (Int⊕(Unit⊕(Unit))):=
 if(decide (i<(v.Kids.length:Int)))=true then
  (fy v.Kids i).bind fun x21=>
  (fy v2.Kids i).bind fun x22=>
  (R36 x21 x22).bind fun r23=>
  if(!r23)=true then
   some (.inr (.inl ()))
  else
   some (.inl (bN (i+1)))
 else
  some (.inr (.inr ()))
def DN:Option (Unit⊕(Unit)):=loop (fun(zz:Int)=>kP R36 v v2 zz) i
theorem KW(hR36:uu R36){y:Int⊕(Unit⊕(Unit))}(h:kP R36 v v2 i=some y):aU Pg GE 0 (cA VK 247) (LQ (fun(zz:Int)=>qN v v2 zz) qO (kQ v v2) y) (qN v v2 i):=by
 have p20:=fun{sc F} (r:PS sc F)=>sv (a8 v)<|sv (be v)<|bF (eP.ln v.Kids)<|r
 rcases aH h with⟨c19,h⟩|⟨c19,h⟩
 ·obtain⟨x21,bx21,h⟩:=aG h
  obtain⟨x22,bx22,h⟩:=aG h
  obtain⟨r23,br23,h⟩:=aG h
  have p25:=fun{sc F} (r:PS sc F)=>p20<|sg 0 c19<|OO [0,1,0,7,15,0,32,0,224,480,1023,2047]<|sv (a8 v)<|sv (be v)<|sv (eP.ia (k:=.i64) bx21)<|sv (aX x21)<|sv (a8 v2)<|sv (be v2)<|sv (eP.ia (k:=.i64) bx22)<|sv (aX x22)<|cm (hR36 _ _ _ br23)<|r
  rcases aH h with⟨c24,h⟩|⟨c24,h⟩
  ·obtain rfl:=lf h
   have z:=p25<|sg 0 c24<|eF (qO (.inl ())) (kQ v v2 (.inl ()))
   exact gu NN (by intro hx;cases hx) z<|by kernel_rfl
  ·obtain rfl:=lf h
   exact wv NN (p25<|sg 0 c24<|eF .normal (qN v v2 (bN (i+1))))<|by kernel_rfl
 ·obtain rfl:=lf h
  have z:=p20<|sg 0 c19<|eF (qO (.inr ())) (kQ v v2 (.inr ()))
  exact gu NN (by intro hx;cases hx) z<|by kernel_rfl
theorem yB(hR36:uu R36){x:Unit⊕(Unit)}(h:DN R36 v v2 i=some x):aU Pg GE 0 (.loop (cA VK 247)) (EX (qO x) (kQ v v2 x)) (qN v v2 i):=
 aU.loop (S:=fun(zz:Int)=>qN v v2 zz) (ex:=qO) (s:=i) h fun zz y hy=>KW R36 v v2 zz hR36 hy
end
section
variable(R36:uC)(v:af)(v2:af)(i:Int)(m:ah)(m2:waA)(m3:Int)(m4:ah)(m5:Int)(m6:waD)(m7:waE)(m8:waC)(m9:waB)(m10:ah)(m11:waA)(m12:Int)(m13:ah)(m14:Int)(m15:waD)(m16:waE)(m17:waC)(m18:waB)
def N7:aB:=aZ 117 [(2,.eptr (ac v)),(3,.eptr (ac v2)),(6,.int .i64 i),(7,.bptr 2 0),(8,.bptr 3 0)] [.dead,.dead,.cells [.str m,sl cS m2,.int .i64 m3,.str m4,.int .i64 m5,sl ac m6,sl ax m7,sl aF m8,sl aj m9] [],.cells [.str m10,sl cS m11,.int .i64 m12,.str m13,.int .i64 m14,sl ac m15,sl ax m16,sl aF m17,sl aj m18] []] []
def u9(o:Bool):aB:=aZ 117 [(2,.eptr (ac v)),(3,.eptr (ac v2)),(6,.int .i64 i),(116,.bool o)] [.dead,.dead,.cells [.str m,sl cS m2,.int .i64 m3,.str m4,.int .i64 m5,sl ac m6,sl ax m7,sl aF m8,sl aj m9] [],.cells [.str m10,sl cS m11,.int .i64 m12,.str m13,.int .i64 m14,sl ac m15,sl ax m16,sl aF m17,sl aj m18] []] []
def DM:Option Bool:=
 if(!(m==m10))=true then
  some true
 else
  (nH m2 m11).bind fun r33=>
  if(!r33)=true then
   some true
  else
   (R36 (⟨m3,m4,m5,m6,m7,m8,m9⟩:af) (⟨m12,m13,m14,m15,m16,m17,m18⟩:af)).bind fun r36=>
   some (!r36)
theorem Mm(hR36:uu R36){x:Bool}(h:DM R36 m m2 m3 m4 m5 m6 m7 m8 m9 m10 m11 m12 m13 m14 m15 m16 m17 m18=some x):aU Pg GE 0 (cA VK 16118) (EX .normal (u9 v v2 i m m2 m3 m4 m5 m6 m7 m8 m9 m10 m11 m12 m13 m14 m15 m16 m17 m18 x)) (N7 v v2 i m m2 m3 m4 m5 m6 m7 m8 m9 m10 m11 m12 m13 m14 m15 m16 m17 m18):=by
 have p32:=fun{sc F} (r:PS sc F)=>ss<|ss<|r
 rcases aH h with⟨c31,h⟩|⟨c31,h⟩
 ·obtain rfl:=lf h
  exact aY NN (p32<|sg 6 c31<|eF .normal (u9 v v2 i m m2 m3 m4 m5 m6 m7 m8 m9 m10 m11 m12 m13 m14 m15 m16 m17 m18 true))<|by kernel_rfl
 ·obtain⟨r33,br33,h⟩:=aG h
  have p35:=fun{sc F} (r:PS sc F)=>p32<|sg 6 c31<|ss<|ss<|cm (uz br33)<|r
  rcases aH h with⟨c34,h⟩|⟨c34,h⟩
  ·obtain rfl:=lf h
   exact aY NN (p35<|sg 14 c34<|eF .normal (u9 v v2 i m m2 m3 m4 m5 m6 m7 m8 m9 m10 m11 m12 m13 m14 m15 m16 m17 m18 true))<|by kernel_rfl
  ·obtain⟨r36,br36,h⟩:=aG h
   obtain rfl:=lf h
   exact aY NN (p35<|sg 14 c34<|sv (cz (⟨m3,m4,m5,m6,m7,m8,m9⟩:af) [])<|sv (cz (⟨m12,m13,m14,m15,m16,m17,m18⟩:af) [])<|cm (hR36 _ _ _ br36)<|eF .normal (u9 v v2 i m m2 m3 m4 m5 m6 m7 m8 m9 m10 m11 m12 m13 m14 m15 m16 m17 m18 (!r36)))<|by kernel_rfl
end
section
variable(R36:uC)(v:af)(v2:af)(i:Int)
def qP:aB:=aZ 117 [(2,.eptr (ac v)),(3,.eptr (ac v2)),(6,.int .i64 i)] [.dead,.dead] []
def qQ(o:Unit⊕(Unit)):Exit:=match o with
 |(.inl _)=>.ret
 |(.inr _)=>.exit 2
def nJ(o:Unit⊕(Unit)):aB:=match o with
 |(.inl o)=>aZ 117 [(4,.bool false)] [.dead,.dead] []
 |(.inr o)=>aZ 117 [] [.dead,.dead] []
def kR:Option (Int⊕(Unit⊕(Unit))):=
 if(decide (i<(v.Alts.length:Int)))=true then
  (fy v.Alts i).bind fun x29=>
  (fy v2.Alts i).bind fun x30=>
  (DM R36 x29.Con x29.Names x29.Body.Op x29.Body.Name x29.Body.N x29.Body.Kids x29.Body.Params x29.Body.Alts x29.Body.Types x30.Con x30.Names x30.Body.Op x30.Body.Name x30.Body.N x30.Body.Kids x30.Body.Params x30.Body.Alts x30.Body.Types).bind fun o37=>
  if o37=true then
   some (.inr (.inl ()))
  else
   some (.inl (bN (i+1)))
 else
  some (.inr (.inr ()))
def DO:Option (Unit⊕(Unit)):=loop (fun(zz:Int)=>kR R36 v v2 zz) i
theorem KX(hR36:uu R36){y:Int⊕(Unit⊕(Unit))}(h:kR R36 v v2 i=some y):aU Pg GE 0 (cA VK 503) (LQ (fun(zz:Int)=>qP v v2 zz) qQ nJ y) (qP v v2 i):=by
 have p28:=fun{sc F} (r:PS sc F)=>sv (aD v)<|sv (aE v)<|bF (dZ.ln v.Alts)<|r
 rcases aH h with⟨c27,h⟩|⟨c27,h⟩
 ·obtain⟨x29,bx29,h⟩:=aG h
  obtain⟨x30,bx30,h⟩:=aG h
  obtain⟨o37,bo37,h⟩:=aG h
  have p39:=fun{sc F} (r:PS sc F)=>p28<|sg 0 c27<|qbt (.dx [0,1,0,7,15,0,32,0,224,480,0,0,3103,8191] [] [] [741,765])<|sv (aD v)<|sv (aE v)<|sv (dZ.ia (k:=.i64) bx29)<|sv (mt x29)<|sv (aD v2)<|sv (aE v2)<|sv (dZ.ia (k:=.i64) bx30)<|sv (mt x30)<|sx (iV x29)<|sx (iV x30)<|nN 0<|cK (Mm R36 v v2 i x29.Con x29.Names x29.Body.Op x29.Body.Name x29.Body.N x29.Body.Kids x29.Body.Params x29.Body.Alts x29.Body.Types x30.Con x30.Names x30.Body.Op x30.Body.Name x30.Body.N x30.Body.Kids x30.Body.Params x30.Body.Alts x30.Body.Types hR36 bo37)<|r
  rcases aH h with⟨c38,h⟩|⟨c38,h⟩
  ·obtain rfl:=lf h
   have z:=p39<|sg 0 c38<|vY 0 (qQ (.inl ())) (nJ (.inl ())) rfl (dI (aI trivial trivial)) (aI trivial (aI trivial trivial))
   exact ql (A:=NN) mixed (by intro hx;cases hx) z<|by kernel_rfl
  ·obtain rfl:=lf h
   have z:=p39<|sg 0 c38<|vY 0 .normal (qP v v2 (bN (i+1))) rfl (dI (aI (bH (al v)) (aI (bH (al v2)) (aI trivial trivial)))) (aI trivial (aI trivial trivial))
   exact eA (A:=NN) mixed z<|by kernel_rfl
 ·obtain rfl:=lf h
  have z:=p28<|sg 0 c27<|eF (qQ (.inr ())) (nJ (.inr ()))
  exact gu NN (by intro hx;cases hx) z<|by kernel_rfl
theorem DP(hR36:uu R36){x:Unit⊕(Unit)}(h:DO R36 v v2 i=some x):aU Pg GE 0 (.loop (cA VK 503)) (EX (qQ x) (nJ x)) (qP v v2 i):=
 aU.loop (S:=fun(zz:Int)=>qP v v2 zz) (ex:=qQ) (s:=i) h fun zz y hy=>KX R36 v v2 zz hR36 hy
end
def B6(R36:uC)(a:af)(a2:af):Option Bool:=
 (DK a a2).bind fun o11=>
 if o11=true then
  some false
 else
  (DL a a2).bind fun o16=>
  if o16=true then
   some false
  else
   (DN R36 a a2 0).bind fun o26=>match o26 with
   |(.inl o26)=>
    some false
   | (.inr o26) =>
    (DO R36 a a2 0).bind fun o40=>match o40 with
    |(.inl o40)=>
     some false
    |(.inr o40)=>
     some true
theorem P4(R36:uC)(hR36:uu R36){a:af}{a2:af}{r:Bool}(h:B6 R36 a a2=some r):CC Pg GE 12 [.agg (ac a),.agg (ac a2)] (.bool r) []:=by
 obtain⟨o11,bo11,h⟩:=aG h
 have p13:=fun{sc F} (r:PS sc F)=>se (bX a)<|se (bX a2)<|nN 1<|cK (Mk a a2 bo11)<|r
 rcases aH h with⟨c12,h⟩|⟨c12,h⟩
 ·obtain rfl:=lf h
  have z:=p13<|sg 0 c12<|en (aI (rP (.bool false))<|trivial)
  exact bI NN call12 func12 (c:=VK) rfl (aI (al a) (aI (al a2) trivial)) z<|by kernel_rfl
 ·obtain⟨o16,bo16,h⟩:=aG h
  have p18:=fun{sc F} (r:PS sc F)=>p13<|sg 0 c12<|nN 1<|cK (Ml a a2 bo16)<|r
  rcases aH h with⟨c17,h⟩|⟨c17,h⟩
  ·obtain rfl:=lf h
   have z:=p18<|sg 0 c17<|en (aI (rP (.bool false))<|trivial)
   exact bI NN call12 func12 (c:=VK) rfl (aI (al a) (aI (al a2) trivial)) z<|by kernel_rfl
  ·obtain⟨o26,bo26,h⟩:=aG h
   rcases o26 with o26|o26
   ·obtain rfl:=lf h
    have z:=p18<|sg 0 c17<|cK (e:=.ret) (s1:=kQ a a2 (.inl o26)) (yB R36 a a2 0 hR36 bo26)<|en (aI (rP (.bool false))<|trivial)
    exact bI NN call12 func12 (c:=VK) rfl (aI (al a) (aI (al a2) trivial)) z<|by kernel_rfl
   ·obtain⟨o40,bo40,h⟩:=aG h
    rcases o40 with o40|o40
    ·obtain rfl:=lf h
     have z:=p18<|sg 0 c17<|cK (e:=.exit 0) (s1:=kQ a a2 (.inr o26)) (yB R36 a a2 0 hR36 bo26)<|cK (e:=.ret) (s1:=nJ (.inl o40)) (DP R36 a a2 0 hR36 bo40)<|en (aI (rP (.bool false))<|trivial)
     exact bI NN call12 func12 (c:=VK) rfl (aI (al a) (aI (al a2) trivial)) z<|by kernel_rfl
    ·obtain rfl:=lf h
     have z:=p18<|sg 0 c17<|cK (e:=.exit 0) (s1:=kQ a a2 (.inr o26)) (yB R36 a a2 0 hR36 bo26)<|cK (e:=.exit 2) (s1:=nJ (.inr o40)) (DP R36 a a2 0 hR36 bo40)<|en (aI (rP (.bool true))<|trivial)
     exact bI NN call12 func12 (c:=VK) rfl (aI (al a) (aI (al a2) trivial)) z<|by kernel_rfl
def Gt:((af×af)->Option Bool)->(af×af)->Option Bool:=fun(rec:(af×af)->Option Bool) (x:af×af)=>B6 (fun a a2=>rec (a,a2)) x.1 x.2
def DH(a:af)(a2:af):Option Bool:=sS Gt (a,a2)
theorem DQ{a:af}{a2:af}{r:Bool}(h:DH a a2=some r):CC Pg GE 12 [.agg (ac a),.agg (ac a2)] (.bool r) []:=
 eg (F:=Gt) (M:=fun(x:af×af) (r:Bool)=>CC Pg GE 12 [.agg (ac x.1),.agg (ac x.2)] (.bool r) []) (fun rec hrec x r h=>P4 _ (fun a a2 r h=>hrec (a,a2) r h) h) h
abbrev eJ:=(af->(List (ah×Bool))->Option (Bool×(List (ah×Bool))))
abbrev eH(R:eJ):Prop:=∀(e:af) (k2:(List (ah×Bool))) (r:Bool×(List (ah×Bool))),R e k2=some r->C Pg GE 64 [.agg (ac e),.func (.func 99) [] [.bptr 0 0]] [] [.cells [.func (.func 81) [.bptr 1 0] []] [],.cells [.mapr 2] [],.map (aW PVal.bool k2)] (.bool r.1) [] [.cells [.func (.func 81) [.bptr 1 0] []] [],.cells [.mapr 2] [],.map (aW PVal.bool r.2)]
end Go.Proofs.YtkdahfeiedaahaaGreatDoor
