/- PROVED: a part of the proof. Conditions: none. -/
import Derived.Test.YtkdahfeiedaahaaGreatDoorPkB11
noncomputable section
namespace Go.Proofs.YtkdahfeiedaahaaGreatDoor
open Go Go.Proofs.Tryz
set_option linter.unusedVariables false
set_option maxRecDepth 100000
noncomputable def Oz:Code:=f107.body.getD .skip
def Oq:List Nat:=[14,21]
section
variable(v:Bool)(t8:waD)(t9:Int)(v2:(List ae))(out:waD)(t10:Int)(m:waA)(m2:(List ae))
def aU:az:=aZ 22 [(1,.func (.func 108) [] [.eptr (cB v),.bptr 0 0]),(5,sl au out),(8,sl au t8),(9,.int .i64 t9),(10,.int .i64 t10)] [.cells [.func (.func 105) [] [.bptr 1 0,.eptr ((cL aa) v2),.bptr 3 0]] [],.cells [.func (.func 62) [] [.bptr 2 0],.func (.func 61) [] []] [],.cells [sl cS m] [(0,9)],.cells [sl aa m2] [(0,137)]] [((5,0),85)]
def bR(o:waD×waA×(List ae)):az:=aZ 22 [(5,sl au o.1)] [.cells [.func (.func 105) [] [.bptr 1 0,.eptr ((cL aa) v2),.bptr 3 0]] [],.cells [.func (.func 62) [] [.bptr 2 0],.func (.func 61) [] []] [],.cells [sl cS o.2.1] [(0,9)],.cells [sl aa o.2.2] [(0,137)]] [((5,0),85)]
def cW:Option ((waD×Int×waA×(List ae))⊕((waD×waA×(List ae)))):=
 if(decide (t10<t9))=true then
  (fO t8 t10).bind fun x2=>
  (ed x2 v v2 m m2).bind fun r3=>
  (app out ([r3.1]:List ay)).bind fun l4=>
  some (.inl (l4,bZ (t10+1),r3.2.1,r3.2.2))
 else
  some (.inr (out,m,m2))
def dg:Option ((waD×waA×(List ae))):=loop (fun(zz:waD×Int×waA×(List ae))=>cW v t8 t9 v2 zz.1 zz.2.1 zz.2.2.1 zz.2.2.2) (out,t10,m,m2)
theorem ft{y:(waD×Int×waA×(List ae))⊕((waD×waA×(List ae)))}(h:cW v t8 t9 v2 out t10 m m2=some y):aP Pg GE 4 (cA Oz 119) (LQ (fun(zz:waD×Int×waA×(List ae))=>aU v t8 t9 v2 zz.1 zz.2.1 zz.2.2.1 zz.2.2.2) (fun _=>.exit 0) (bR v2) y) (aU v t8 t9 v2 out t10 m m2):=by
 rcases aN h with⟨c1,h⟩|⟨c1,h⟩
 ·obtain⟨x2,bx2,h⟩:=aG h
  obtain⟨r3,br3,h⟩:=aG h
  obtain⟨l4,bl4,h⟩:=aG h
  obtain rfl:=lf h
  have z:=sg 0 c1<|sv (kU.ia (k:=.i64) bx2)<|sv (AB x2)<|sx Pm<|sx (mr x2)<|sv (Ij x2 [])<|si (.cg ⟨[0,1,2,3],[.agg (au x2),.eptr (cB v),.bptr 0 0],[],[.cells [.func (.func 105) [] [.bptr 1 0,.eptr ((cL aa) v2),.bptr 3 0]] [],.cells [.func (.func 62) [] [.bptr 2 0],.func (.func 61) [] []] [],.cells [sl cS m] [(0,9)],.cells [sl aa m2] [(0,137)]],[.cells [.func (.func 105) [] [.bptr 1 0,.eptr ((cL aa) v2),.bptr 3 0]] [],.cells [.func (.func 62) [] [.bptr 2 0],.func (.func 61) [] []] [],.cells [sl cS m] [(0,9)],.cells [sl aa m2] [(0,137)]],[.cells [.func (.func 105) [] [.bptr 1 0,.eptr ((cL aa) v2),.bptr 3 0]] [],.cells [.func (.func 62) [] [.bptr 2 0],.func (.func 61) [] []] [],.cells [sl cS r3.2.1] [(0,9)],.cells [sl aa r3.2.2] [(0,137)]],[.cells [.func (.func 105) [] [.bptr 1 0,.eptr ((cL aa) v2),.bptr 3 0]] [],.cells [.func (.func 62) [] [.bptr 2 0],.func (.func 61) [] []] [],.cells [sl cS r3.2.1] [(0,9)],.cells [sl aa r3.2.2] [(0,137)]],.agg (au r3.1),.agg (au r3.1),[]⟩) (ib br3)<|sf (aI (xR [0,1,2,3] (.agg (au x2)) (bh x2)) (aI (xR [0,1,2,3] (.eptr (cB v)) (Tu v)) (aI (xB [0,1,2,3] 0 0 0 rfl) trivial)))<|sf (aI (aI (rB (.cells [.func (.func 105) [] [.bptr 1 0,.eptr ((cL aa) v2),.bptr 3 0]] [])) (aI (rW []) (aI (xF [0,1,2,3] (.func 105) [] [.bptr 1 0,.eptr ((cL aa) v2),.bptr 3 0] [] [.bptr 1 0,.eptr ((cL aa) v2),.bptr 3 0] trivial (aI (xB [0,1,2,3] 1 1 0 rfl) (aI (xR [0,1,2,3] (.eptr ((cL aa) v2)) (lS al v2)) (aI (xB [0,1,2,3] 3 3 0 rfl) trivial)))) trivial))) (aI (aI (rB (.cells [.func (.func 62) [] [.bptr 2 0],.func (.func 61) [] []] [])) (aI (rW []) (aI (xF [0,1,2,3] (.func 62) [] [.bptr 2 0] [] [.bptr 2 0] trivial (aI (xB [0,1,2,3] 2 2 0 rfl) trivial)) (aI (xR [0,1,2,3] (.func (.func 61) [] []) (aI trivial trivial)) trivial)))) (aI (aI (rB (.cells [sl cS m] [(0,9)])) (aI (rW [(0,9)]) (aI (xR [0,1,2,3] (sl cS m) (aj bD m)) trivial))) (aI (aI (rB (.cells [sl aa m2] [(0,137)])) (aI (rW [(0,137)]) (aI (xR [0,1,2,3] (sl aa m2) (aj al m2)) trivial))) trivial))))<|sf (aI (aI (rW []) (aI (xF [0,1,2,3] (.func 105) [] [.bptr 1 0,.eptr ((cL aa) v2),.bptr 3 0] [] [.bptr 1 0,.eptr ((cL aa) v2),.bptr 3 0] trivial (aI (xB [0,1,2,3] 1 1 0 rfl) (aI (xR [0,1,2,3] (.eptr ((cL aa) v2)) (lS al v2)) (aI (xB [0,1,2,3] 3 3 0 rfl) trivial)))) trivial)) (aI (aI (rW []) (aI (xF [0,1,2,3] (.func 62) [] [.bptr 2 0] [] [.bptr 2 0] trivial (aI (xB [0,1,2,3] 2 2 0 rfl) trivial)) (aI (xR [0,1,2,3] (.func (.func 61) [] []) (aI trivial trivial)) trivial))) (aI (aI (rW [(0,9)]) (aI (xR [0,1,2,3] (sl cS r3.2.1) (aj bD r3.2.1)) trivial)) (aI (aI (rW [(0,137)]) (aI (xR [0,1,2,3] (sl aa r3.2.2) (aj al r3.2.2)) trivial)) trivial))))<|sf (xR [0,1,2,3] (.agg (au r3.1)) (bh r3.1))<|sv (kU.mk' (v:=Am) xQ ([r3.1]:List ay) 1 (by kernel_rfl))<|sv (kU.ap bl4)<|sK 4 .normal (aU v t8 t9 v2 l4 (bZ (t10+1)) r3.2.1 r3.2.2) rfl (dF (aI (aI trivial (aI (ba (Tu v)) (aI (aX rfl) trivial))) (aI (up (aj bh l4)) (aI (up (aj bh t8)) (aI trivial (aI trivial trivial)))))) (aI (aI (aI trivial (aI (aX rfl) (aI (ba (lS al v2)) (aI (aX rfl) trivial)))) trivial) (aI (aI (aI trivial (aI (aX rfl) trivial)) (aI (aI trivial trivial) trivial)) (aI (aI (up (aj bD r3.2.1)) trivial) (aI (aI (up (aj al r3.2.2)) trivial) trivial))))
  exact dZ (A:=Oq) mixed z<|by kernel_rfl
 ·obtain rfl:=lf h
  have z:=sg 0 c1<|eF (.exit 0) (bR v2 (out,m,m2))
  exact iZ Oq (by intro hx;cases hx) z<|by kernel_rfl
theorem fC{x:(waD×waA×(List ae))}(h:dg v t8 t9 v2 out t10 m m2=some x):aP Pg GE 4 (.loop (cA Oz 119)) (EX (.exit 0) (bR v2 x)) (aU v t8 t9 v2 out t10 m m2):=
 aP.loop (S:=fun(zz:waD×Int×waA×(List ae))=>aU v t8 t9 v2 zz.1 zz.2.1 zz.2.2.1 zz.2.2.2) (ex:=(fun _=>.exit 0)) (s:=(out,t10,m,m2)) h fun zz y hy=>ft v t8 t9 v2 zz.1 zz.2.1 zz.2.2.1 zz.2.2.2 hy
end
def dG(a:waD)(c:Bool)(c2:(List ae))(k2:waA)(k3:(List ae)):Option (waD×waA×(List ae)):=
 (dg c a (a.length:Int) c2 ([]:List ay) 0 k2 k3).bind fun o5=>
 some (o5.1,o5.2.1,o5.2.2)
theorem ga{a:waD}{c:Bool}{c2:(List ae)}{k2:waA}{k3:(List ae)}{r:waD×waA×(List ae)}(h:dG a c c2 k2 k3=some r):C Pg GE 107 [sl au a,.func (.func 108) [] [.eptr (cB c),.bptr 0 0]] [] [.cells [.func (.func 105) [] [.bptr 1 0,.eptr ((cL aa) c2),.bptr 3 0]] [],.cells [.func (.func 62) [] [.bptr 2 0],.func (.func 61) [] []] [],.cells [sl cS k2] [(0,9)],.cells [sl aa k3] [(0,137)]] (sl au r.1) [(0,85)] [.cells [.func (.func 105) [] [.bptr 1 0,.eptr ((cL aa) c2),.bptr 3 0]] [],.cells [.func (.func 62) [] [.bptr 2 0],.func (.func 61) [] []] [],.cells [sl cS r.2.1] [(0,9)],.cells [sl aa r.2.2] [(0,137)]]:=by
 obtain⟨o5,bo5,h⟩:=aG h
 obtain rfl:=lf h
 have z:=bW (kU.ln a)<|cU (fC c a (a.length:Int) c2 ([]:List ay) 0 k2 k3 bo5)<|en (aI (rP (sl au o5.1))<|aI (up (n:=4) (aj bh o5.1))<|aI (rL [.cells [.func (.func 105) [] [.bptr 1 0,.eptr ((cL aa) c2),.bptr 3 0]] [],.cells [.func (.func 62) [] [.bptr 2 0],.func (.func 61) [] []] [],.cells [sl cS o5.2.1] [(0,9)],.cells [sl aa o5.2.2] [(0,137)]])<|(aI (aI (aI trivial (aI (aX (i:=1) (n:=4) rfl) (aI (ba (n:=4) (lS al c2)) (aI (aX (i:=3) (n:=4) rfl) trivial)))) trivial) (aI (aI (aI trivial (aI (aX (i:=2) (n:=4) rfl) trivial)) (aI (aI trivial trivial) trivial)) (aI (aI (up (n:=4) (aj bD o5.2.1)) trivial) (aI (aI (up (n:=4) (aj al o5.2.2)) trivial) trivial)))))
 exact C.evGp (A:=Oq) mixed (m:=4) (c:=Oz) rfl call107 func107 rfl z<|by kernel_rfl
noncomputable def OC:Code:=f110.body.getD .skip
def Ov:List Nat:=[24,28]
section
variable(t1:(List ae))(v:aO)(t13:waA)(t14:Int)(m2:waE)(m3:waD)(m4:waC)(m5:waB)(v2:(List ae))(v3:waA)(t15:Int)(m:waA)
def bX:az:=aZ 44 [(1,.eptr ((cL aa) t1)),(2,.bptr 0 0),(3,.eptr (aA v)),(4,.bptr 3 0),(5,sl aa v2),(6,sl cS v3),(13,sl cS t13),(14,.int .i64 t14),(15,.int .i64 t15)] [.cells [.func (.func 62) [] [.bptr 1 0],.func (.func 61) [] []] [],.cells [sl cS m] [(0,9)],.dead,.cells [.str ([]:ag),sl cS ([]:List ag),.int .i64 0,.str ([]:ag),.int .i64 0,sl ac m2,sl au m3,sl aA m4,sl ai m5] [(1,9),(5,28),(6,85),(7,89),(8,60)]] [((6,0),9),((5,0),137)]
def dR(o:(List ae)×waA×waA):az:=aZ 44 [(2,.bptr 0 0),(3,.eptr (aA v)),(4,.bptr 3 0),(5,sl aa o.1),(6,sl cS o.2.1)] [.cells [.func (.func 62) [] [.bptr 1 0],.func (.func 61) [] []] [],.cells [sl cS o.2.2] [(0,9)],.dead,.cells [.str ([]:ag),sl cS ([]:List ag),.int .i64 0,.str ([]:ag),.int .i64 0,sl ac m2,sl au m3,sl aA m4,sl ai m5] [(1,9),(5,28),(6,85),(7,89),(8,60)]] [((6,0),9),((5,0),137)]
def fU:Option (((List ae)×waA×Int×waA)⊕(((List ae)×waA×waA))):=
 if(decide (t15<t14))=true then
  (fO t13 t15).bind fun x3=>
  (sj x3 t1 m).bind fun r4=>
  (app v3 ([r4.1]:List ag)).bind fun l5=>
  (app v2 ([(⟨x3,r4.1⟩:ae)]:List ae)).bind fun l6=>
  some (.inl (l6,l5,bZ (t15+1),r4.2))
 else
  some (.inr (v2,v3,m))
def gD:Option (((List ae)×waA×waA)):=loop (fun(zz:(List ae)×waA×Int×waA)=>fU t1 t13 t14 zz.1 zz.2.1 zz.2.2.1 zz.2.2.2) (v2,v3,t15,m)
theorem ky{y:((List ae)×waA×Int×waA)⊕(((List ae)×waA×waA))}(h:fU t1 t13 t14 v2 v3 t15 m=some y):aP Pg GE 2 (cA OC 247) (LQ (fun(zz:(List ae)×waA×Int×waA)=>bX t1 v t13 t14 m2 m3 m4 m5 zz.1 zz.2.1 zz.2.2.1 zz.2.2.2) (fun _=>.exit 0) (dR v m2 m3 m4 m5) y) (bX t1 v t13 t14 m2 m3 m4 m5 v2 v3 t15 m):=by
 rcases aN h with⟨c2,h⟩|⟨c2,h⟩
 ·obtain⟨x3,bx3,h⟩:=aG h
  obtain⟨r4,br4,h⟩:=aG h
  obtain⟨l5,bl5,h⟩:=aG h
  obtain⟨l6,bl6,h⟩:=aG h
  obtain rfl:=lf h
  exact xO Ov (sg 0 c2<|sv (ch.ia (k:=.i64) bx3)<|sv (cy C2 (.str x3) [])<|ss<|sv (cy GT (sl aa t1) [])<|si (.cg ⟨[1],[.str x3,sl aa t1,.bptr 0 0],[],[.cells [sl cS m] [(0,9)]],[.cells [sl cS m] [(0,9)]],[.cells [sl cS r4.2] [(0,9)]],[.cells [sl cS r4.2] [(0,9)]],.str r4.1,.str r4.1,[]⟩) (ug br4)<|sf (aI (xR [1] (.str x3) trivial) (aI (xR [1] (sl aa t1) (aj al t1)) (aI (xB [1] 0 1 0 rfl) trivial)))<|sf (aI (aI (rB (.cells [sl cS m] [(0,9)])) (aI (rW [(0,9)]) (aI (xR [1] (sl cS m) (aj bD m)) trivial))) trivial)<|sf (aI (aI (rW [(0,9)]) (aI (xR [1] (sl cS r4.2) (aj bD r4.2)) trivial)) trivial)<|sf (xR [1] (.str r4.1) trivial)<|sv (ch.mk' (v:=PVal.str) E7 ([r4.1]:List ag) 1 (by kernel_rfl))<|sv (ch.ap bl5)<|sv (kr x3 r4.1)<|sv (IQ.mk' (v:=nV) oc ([(⟨x3,r4.1⟩:ae)]:List ae) 1 (by kernel_rfl))<|sv (IQ.ap bl6)<|eF .normal (bX t1 v t13 t14 m2 m3 m4 m5 l6 l5 (bZ (t15+1)) r4.2))<|by kernel_rfl
 ·obtain rfl:=lf h
  have z:=sg 0 c2<|eF (.exit 0) (dR v m2 m3 m4 m5 (v2,v3,m))
  exact iZ Ov (by intro hx;cases hx) z<|by kernel_rfl
theorem kZ{x:((List ae)×waA×waA)}(h:gD t1 t13 t14 v2 v3 t15 m=some x):aP Pg GE 2 (.loop (cA OC 247)) (EX (.exit 0) (dR v m2 m3 m4 m5 x)) (bX t1 v t13 t14 m2 m3 m4 m5 v2 v3 t15 m):=
 aP.loop (S:=fun(zz:(List ae)×waA×Int×waA)=>bX t1 v t13 t14 m2 m3 m4 m5 zz.1 zz.2.1 zz.2.2.1 zz.2.2.2) (ex:=(fun _=>.exit 0)) (s:=(v2,v3,t15,m)) h fun zz y hy=>ky t1 v t13 t14 m2 m3 m4 m5 zz.1 zz.2.1 zz.2.2.1 zz.2.2.2 hy
end
def iu(R21:aY)(a:aO)(a2:(List ae))(k1:waA):Option (aO×waA):=
 (ol a2).bind fun r1=>
 (gD a2 a.Names (a.Names.length:Int) r1 ([]:List ag) 0 k1).bind fun o7=>
 (R21 a.Body o7.1 o7.2.2).bind fun r8=>
 some ((⟨a.Con,o7.2.1,r8.1⟩:aO),r8.2)
theorem my(R21:aY)(hR21:bv R21){a:aO}{a2:(List ae)}{k1:waA}{r:aO×waA}(h:iu R21 a a2 k1=some r):C Pg GE 110 [.agg (aA a),.eptr ((cL aa) a2),.bptr 0 0] [] [.cells [.func (.func 62) [] [.bptr 1 0],.func (.func 61) [] []] [],.cells [sl cS k1] [(0,9)]] (.agg (aA r.1)) [] [.cells [.func (.func 62) [] [.bptr 1 0],.func (.func 61) [] []] [],.cells [sl cS r.2] [(0,9)]]:=by
 obtain⟨r1,br1,h⟩:=aG h
 obtain⟨o7,bo7,h⟩:=aG h
 obtain⟨r8,br8,h⟩:=aG h
 obtain rfl:=lf h
 have z:=se (Lt a)<|sx D2<|sv (cy GT (sl aa a2) [])<|cH (u5 br1)<|sv (pg a)<|sv (pn a)<|bW (ch.ln a.Names)<|cU (kZ a2 a a.Names (a.Names.length:Int) ([]:List af) ([]:List ay) ([]:List aO) ([]:List am) r1 ([]:List ag) 0 k1 bo7)<|Sv (.dx [0,1,0,0,0,16,0,120,255,511] [] [] [11,293,337])<|sv (ta a)<|sv (vg a)<|sv (show bE Pg 95 [.func (.func 62) [] [.bptr 1 0],.func (.func 61) [] []]=some (.agg [.func (.func 62) [] [.bptr 1 0],.func (.func 61) [] []]) by kernel_rfl)<|sv (ph a)<|sv (po a)<|si (.cg ⟨[1],[.agg [.func (.func 62) [] [.bptr 0 0],.func (.func 61) [] []],.agg (ac a.Body),sl aa o7.1],[],[.cells [sl cS o7.2.2] [(0,9)]],[.cells [sl cS o7.2.2] [(0,9)]],[.cells [sl cS r8.2] [(0,9)]],[.cells [sl cS r8.2] [(0,9)]],.agg (ac r8.1),.agg (ac r8.1),[(3,28),(4,85),(5,89),(6,60)]⟩) (hR21 _ _ _ _ br8)<|sf (aI (xA [1] [.func (.func 62) [] [.bptr 1 0],.func (.func 61) [] []] [.func (.func 62) [] [.bptr 0 0],.func (.func 61) [] []] (aI (xF [1] (.func 62) [] [.bptr 1 0] [] [.bptr 0 0] trivial (aI (xB [1] 0 1 0 rfl) trivial)) (aI (xR [1] (.func (.func 61) [] []) (aI trivial trivial)) trivial))) (aI (xR [1] (.agg (ac a.Body)) (av a.Body)) (aI (xR [1] (sl aa o7.1) (aj al o7.1)) trivial)))<|sf (aI (aI (rB (.cells [sl cS o7.2.2] [(0,9)])) (aI (rW [(0,9)]) (aI (xR [1] (sl cS o7.2.2) (aj bD o7.2.2)) trivial))) trivial)<|sf (aI (aI (rW [(0,9)]) (aI (xR [1] (sl cS r8.2) (aj bD r8.2)) trivial)) trivial)<|sf (xR [1] (.agg (ac r8.1)) (av r8.1))<|sv (Bw a.Con o7.2.1 r8.1)<|sx (hX (⟨a.Con,o7.2.1,r8.1⟩:aO))<|en (aI (MQ (⟨a.Con,o7.2.1,r8.1⟩:aO))<|aI (UM (n:=2) (bL (⟨a.Con,o7.2.1,r8.1⟩:aO)))<|aI (rL [.cells [.func (.func 62) [] [.bptr 1 0],.func (.func 61) [] []] [],.cells [sl cS r8.2] [(0,9)]])<|(aI (aI (aI trivial (aI (aX (i:=1) (n:=2) rfl) trivial)) (aI (aI trivial trivial) trivial)) (aI (aI (up (n:=2) (aj bD r8.2)) trivial) trivial)))
 exact C.evGp (A:=Ov) mixed (m:=2) (c:=OC) rfl call110 func110 rfl z<|by kernel_rfl
noncomputable def OB:Code:=f109.body.getD .skip
def Ou:List Nat:=[14,21]
section
variable(R21:aY)(v:(List ae))(t8:waC)(t9:Int)(out:waC)(t10:Int)(m:waA)
def bF:az:=aZ 22 [(1,.func (.func 110) [] [.eptr ((cL aa) v),.bptr 0 0]),(5,sl aA out),(8,sl aA t8),(9,.int .i64 t9),(10,.int .i64 t10)] [.cells [.func (.func 62) [] [.bptr 1 0],.func (.func 61) [] []] [],.cells [sl cS m] [(0,9)]] [((5,0),89)]
def da(o:waC×waA):az:=aZ 22 [(5,sl aA o.1)] [.cells [.func (.func 62) [] [.bptr 1 0],.func (.func 61) [] []] [],.cells [sl cS o.2] [(0,9)]] [((5,0),89)]
def eW:Option ((waC×Int×waA)⊕((waC×waA))):=
 if(decide (t10<t9))=true then
  (fO t8 t10).bind fun x2=>
  (iu R21 x2 v m).bind fun r3=>
  (app out ([r3.1]:List aO)).bind fun l4=>
  some (.inl (l4,bZ (t10+1),r3.2))
 else
  some (.inr (out,m))
def fk:Option ((waC×waA)):=loop (fun(zz:waC×Int×waA)=>eW R21 v t8 t9 zz.1 zz.2.1 zz.2.2) (out,t10,m)
theorem jE(hR21:bv R21){y:(waC×Int×waA)⊕((waC×waA))}(h:eW R21 v t8 t9 out t10 m=some y):aP Pg GE 2 (cA OB 119) (LQ (fun(zz:waC×Int×waA)=>bF v t8 t9 zz.1 zz.2.1 zz.2.2) (fun _=>.exit 0) da y) (bF v t8 t9 out t10 m):=by
 rcases aN h with⟨c1,h⟩|⟨c1,h⟩
 ·obtain⟨x2,bx2,h⟩:=aG h
  obtain⟨r3,br3,h⟩:=aG h
  obtain⟨l4,bl4,h⟩:=aG h
  obtain rfl:=lf h
  have z:=sg 0 c1<|sv (ea.ia (k:=.i64) bx2)<|sv (ku x2)<|sx D2<|sx (hX x2)<|sv (Mq x2 [])<|si (.cg ⟨[0,1],[.agg (aA x2),.eptr ((cL aa) v),.bptr 0 0],[],[.cells [.func (.func 62) [] [.bptr 1 0],.func (.func 61) [] []] [],.cells [sl cS m] [(0,9)]],[.cells [.func (.func 62) [] [.bptr 1 0],.func (.func 61) [] []] [],.cells [sl cS m] [(0,9)]],[.cells [.func (.func 62) [] [.bptr 1 0],.func (.func 61) [] []] [],.cells [sl cS r3.2] [(0,9)]],[.cells [.func (.func 62) [] [.bptr 1 0],.func (.func 61) [] []] [],.cells [sl cS r3.2] [(0,9)]],.agg (aA r3.1),.agg (aA r3.1),[]⟩) (my R21 hR21 br3)<|sf (aI (xR [0,1] (.agg (aA x2)) (bL x2)) (aI (xR [0,1] (.eptr ((cL aa) v)) (lS al v)) (aI (xB [0,1] 0 0 0 rfl) trivial)))<|sf (aI (aI (rB (.cells [.func (.func 62) [] [.bptr 1 0],.func (.func 61) [] []] [])) (aI (rW []) (aI (xF [0,1] (.func 62) [] [.bptr 1 0] [] [.bptr 1 0] trivial (aI (xB [0,1] 1 1 0 rfl) trivial)) (aI (xR [0,1] (.func (.func 61) [] []) (aI trivial trivial)) trivial)))) (aI (aI (rB (.cells [sl cS m] [(0,9)])) (aI (rW [(0,9)]) (aI (xR [0,1] (sl cS m) (aj bD m)) trivial))) trivial))<|sf (aI (aI (rW []) (aI (xF [0,1] (.func 62) [] [.bptr 1 0] [] [.bptr 1 0] trivial (aI (xB [0,1] 1 1 0 rfl) trivial)) (aI (xR [0,1] (.func (.func 61) [] []) (aI trivial trivial)) trivial))) (aI (aI (rW [(0,9)]) (aI (xR [0,1] (sl cS r3.2) (aj bD r3.2)) trivial)) trivial))<|sf (xR [0,1] (.agg (aA r3.1)) (bL r3.1))<|sv (ea.mk' (v:=NR) MA ([r3.1]:List aO) 1 (by kernel_rfl))<|sv (ea.ap bl4)<|sK 2 .normal (bF v t8 t9 l4 (bZ (t10+1)) r3.2) rfl (dF (aI (aI trivial (aI (ba (lS al v)) (aI (aX rfl) trivial))) (aI (up (aj bL l4)) (aI (up (aj bL t8)) (aI trivial (aI trivial trivial)))))) (aI (aI (aI trivial (aI (aX rfl) trivial)) (aI (aI trivial trivial) trivial)) (aI (aI (up (aj bD r3.2)) trivial) trivial))
  exact dZ (A:=Ou) mixed z<|by kernel_rfl
 ·obtain rfl:=lf h
  have z:=sg 0 c1<|eF (.exit 0) (da (out,m))
  exact iZ Ou (by intro hx;cases hx) z<|by kernel_rfl
theorem jO(hR21:bv R21){x:(waC×waA)}(h:fk R21 v t8 t9 out t10 m=some x):aP Pg GE 2 (.loop (cA OB 119)) (EX (.exit 0) (da x)) (bF v t8 t9 out t10 m):=
 aP.loop (S:=fun(zz:waC×Int×waA)=>bF v t8 t9 zz.1 zz.2.1 zz.2.2) (ex:=(fun _=>.exit 0)) (s:=(out,t10,m)) h fun zz y hy=>jE R21 v t8 t9 zz.1 zz.2.1 zz.2.2 hR21 hy
end
def fS(R21:aY)(a:waC)(c:(List ae))(k1:waA):Option (waC×waA):=
 (fk R21 c a (a.length:Int) ([]:List aO) 0 k1).bind fun o5=>
 some (o5.1,o5.2)
theorem kl(R21:aY)(hR21:bv R21){a:waC}{c:(List ae)}{k1:waA}{r:waC×waA}(h:fS R21 a c k1=some r):C Pg GE 109 [sl aA a,.func (.func 110) [] [.eptr ((cL aa) c),.bptr 0 0]] [] [.cells [.func (.func 62) [] [.bptr 1 0],.func (.func 61) [] []] [],.cells [sl cS k1] [(0,9)]] (sl aA r.1) [(0,89)] [.cells [.func (.func 62) [] [.bptr 1 0],.func (.func 61) [] []] [],.cells [sl cS r.2] [(0,9)]]:=by
 obtain⟨o5,bo5,h⟩:=aG h
 obtain rfl:=lf h
 have z:=bW (ea.ln a)<|cU (jO R21 c a (a.length:Int) ([]:List aO) 0 k1 hR21 bo5)<|en (aI (rP (sl aA o5.1))<|aI (up (n:=2) (aj bL o5.1))<|aI (rL [.cells [.func (.func 62) [] [.bptr 1 0],.func (.func 61) [] []] [],.cells [sl cS o5.2] [(0,9)]])<|(aI (aI (aI trivial (aI (aX (i:=1) (n:=2) rfl) trivial)) (aI (aI trivial trivial) trivial)) (aI (aI (up (n:=2) (aj bD o5.2)) trivial) trivial)))
 exact C.evGp (A:=Ou) mixed (m:=2) (c:=OB) rfl call109 func109 rfl z<|by kernel_rfl
noncomputable def Rf:Code:=f56.body.getD .skip
def JV:List Nat:=[33,63,73,80,88]
section
variable(scope:(List ae))(m:waA)(m2:Int)(m3:ag)(m4:Int)(m5:waE)(m6:waD)(m7:waC)(m8:waB)(m9:waE)(m10:waD)(m11:waC)(m12:waB)(m13:(List ae))
def mz:az:=aZ 96 [(3,.bptr 1 0),(4,.bptr 2 0),(5,.eptr ((cL aa) scope)),(6,.bptr 4 0),(7,.bptr 5 0),(8,.bptr 6 0)] [.cells [sl cS m] [(0,9)],.cells [.func (.func 62) [] [.bptr 0 0],.func (.func 61) [] []] [],.cells [.int .i64 m2,.str m3,.int .i64 m4,sl ac m5,sl au m6,sl aA m7,sl ai m8] [(6,60)],.dead,.cells [.int .i64 0,.str ([]:ag),.int .i64 0,sl ac m9,sl au m10,sl aA m11,sl ai m12] [(3,28),(4,85),(5,89),(6,60)],.cells [sl aa m13] [(0,137)],.cells [.func (.func 105) [] [.bptr 1 0,.eptr ((cL aa) scope),.bptr 5 0]] []] []
def ck(o:waA×ag×(List ae)):az:=aZ 96 [(3,.bptr 1 0),(4,.bptr 2 0),(5,.eptr ((cL aa) scope)),(6,.bptr 4 0),(7,.bptr 5 0),(8,.bptr 6 0)] [.cells [sl cS o.1] [(0,9)],.cells [.func (.func 62) [] [.bptr 0 0],.func (.func 61) [] []] [],.cells [.int .i64 m2,.str o.2.1,.int .i64 m4,sl ac m5,sl au m6,sl aA m7,sl ai m8] [(6,60)],.dead,.cells [.int .i64 0,.str ([]:ag),.int .i64 0,sl ac m9,sl au m10,sl aA m11,sl ai m12] [(3,28),(4,85),(5,89),(6,60)],.cells [sl aa o.2.2] [(0,137)],.cells [.func (.func 105) [] [.bptr 1 0,.eptr ((cL aa) scope),.bptr 5 0]] []] []
def ic:Option ((waA×ag×(List ae))):=
 (eV (⟨m2,m3,m4,m5,m6,m7,m8⟩:af)).bind fun r3=>
 if r3=true then
  (vJ scope m3).bind fun r6=>
  if r6.2=true then
   some (m,r6.1,m13)
  else
   (Gb m3).bind fun r9=>
   some (m,r9,m13)
 else
  if(m2==7)=true then
   (eD m3 scope m m13).bind fun r12=>
   some (r12.2.1,r12.1,r12.2.2)
  else
   some (m,m3,m13)
theorem lT{x:(waA×ag×(List ae))}(h:ic scope m m2 m3 m4 m5 m6 m7 m8 m13=some x):aP Pg GE 1 (cA Rf 62) (EX .normal (ck scope m2 m4 m5 m6 m7 m8 m9 m10 m11 m12 x)) (mz scope m m2 m3 m4 m5 m6 m7 m8 m9 m10 m11 m12 m13):=by
 obtain⟨r3,br3,h⟩:=aG h
 have p5:=fun{sc F} (r:PS sc F)=>sv (bQ (⟨m2,m3,m4,m5,m6,m7,m8⟩:af) [])<|cH (iT br3)<|r
 rcases aN h with⟨c4,h⟩|⟨c4,h⟩
 ·obtain⟨r6,br6,h⟩:=aG h
  have p8:=fun{sc F} (r:PS sc F)=>p5<|sg 0 c4<|sv (cy GT (sl aa scope) [])<|ss<|cH (z8 br6)<|r
  rcases aN h with⟨c7,h⟩|⟨c7,h⟩
  ·obtain rfl:=lf h
   exact bk JV (p8<|sg 0 c7<|ss<|eF .normal (ck scope m2 m4 m5 m6 m7 m8 m9 m10 m11 m12 (m,r6.1,m13)))<|by kernel_rfl
  ·obtain⟨r9,br9,h⟩:=aG h
   obtain rfl:=lf h
   exact bk JV (p8<|sg 0 c7<|ss<|ss<|cH (I0 br9)<|ss<|eF .normal (ck scope m2 m4 m5 m6 m7 m8 m9 m10 m11 m12 (m,r9,m13)))<|by kernel_rfl
 ·have p11:=fun{sc F} (r:PS sc F)=>p5<|sg 0 c4<|ss<|r
  rcases aN h with⟨c10,h⟩|⟨c10,h⟩
  ·obtain⟨r12,br12,h⟩:=aG h
   obtain rfl:=lf h
   exact bk JV (p11<|sg 0 c10<|ss<|ss<|si (.cg ⟨[1,0,5],[.str m3,.bptr 0 0,.eptr ((cL aa) scope),.bptr 2 0],[],[.cells [.func (.func 62) [] [.bptr 0 0],.func (.func 61) [] []] [],.cells [sl cS m] [(0,9)],.cells [sl aa m13] [(0,137)]],[.cells [.func (.func 62) [] [.bptr 1 0],.func (.func 61) [] []] [],.cells [sl cS m] [(0,9)],.cells [sl aa m13] [(0,137)]],[.cells [.func (.func 62) [] [.bptr 0 0],.func (.func 61) [] []] [],.cells [sl cS r12.2.1] [(0,9)],.cells [sl aa r12.2.2] [(0,137)]],[.cells [.func (.func 62) [] [.bptr 1 0],.func (.func 61) [] []] [],.cells [sl cS r12.2.1] [(0,9)],.cells [sl aa r12.2.2] [(0,137)]],.str r12.1,.str r12.1,[]⟩) (gB br12)<|sf (aI (xR [1,0,5] (.str m3) trivial) (aI (xB [1,0,5] 0 1 0 rfl) (aI (xR [1,0,5] (.eptr ((cL aa) scope)) (lS al scope)) (aI (xB [1,0,5] 2 5 0 rfl) trivial))))<|sf (aI (aI (rB (.cells [.func (.func 62) [] [.bptr 0 0],.func (.func 61) [] []] [])) (aI (rW []) (aI (xF [1,0,5] (.func 62) [] [.bptr 0 0] [] [.bptr 1 0] trivial (aI (xB [1,0,5] 1 0 0 rfl) trivial)) (aI (xR [1,0,5] (.func (.func 61) [] []) (aI trivial trivial)) trivial)))) (aI (aI (rB (.cells [sl cS m] [(0,9)])) (aI (rW [(0,9)]) (aI (xR [1,0,5] (sl cS m) (aj bD m)) trivial))) (aI (aI (rB (.cells [sl aa m13] [(0,137)])) (aI (rW [(0,137)]) (aI (xR [1,0,5] (sl aa m13) (aj al m13)) trivial))) trivial)))<|sf (aI (aI (rW []) (aI (xF [1,0,5] (.func 62) [] [.bptr 0 0] [] [.bptr 1 0] trivial (aI (xB [1,0,5] 1 0 0 rfl) trivial)) (aI (xR [1,0,5] (.func (.func 61) [] []) (aI trivial trivial)) trivial))) (aI (aI (rW [(0,9)]) (aI (xR [1,0,5] (sl cS r12.2.1) (aj bD r12.2.1)) trivial)) (aI (aI (rW [(0,137)]) (aI (xR [1,0,5] (sl aa r12.2.2) (aj al r12.2.2)) trivial)) trivial)))<|sf (xR [1,0,5] (.str r12.1) trivial)<|ss<|eF .normal (ck scope m2 m4 m5 m6 m7 m8 m9 m10 m11 m12 (r12.2.1,r12.1,r12.2.2)))<|by kernel_rfl
  ·obtain rfl:=lf h
   exact bk JV (p11<|sg 0 c10<|eF .normal (ck scope m2 m4 m5 m6 m7 m8 m9 m10 m11 m12 (m,m3,m13)))<|by kernel_rfl
end
section
variable(scope:(List ae))(kids:waE)(i:Int)(t59:waE)(t60:Int)(m:waA)(m2:Int)(m3:ag)(m4:Int)(m5:waD)(m6:waC)(m7:waB)(m8:waE)(m9:waD)(m10:waC)(m11:waB)(m12:(List ae))(m13:Int)(m14:ag)(m15:Int)(m16:waE)(m17:waD)(m18:waC)(m19:waB)
def mA:az:=aZ 96 [(3,.bptr 1 0),(4,.bptr 2 0),(5,.eptr ((cL aa) scope)),(6,.bptr 4 0),(7,.bptr 5 0),(12,sl ac kids),(13,.int .i64 i),(14,.bptr 8 0),(59,sl ac t59),(60,.int .i64 t60),(61,.int .i64 i)] [.cells [sl cS m] [(0,9)],.cells [.func (.func 62) [] [.bptr 0 0],.func (.func 61) [] []] [],.cells [.int .i64 m2,.str m3,.int .i64 m4,sl ac t59,sl au m5,sl aA m6,sl ai m7] [(4,85),(6,60)],.dead,.cells [.int .i64 0,.str ([]:ag),.int .i64 0,sl ac m8,sl au m9,sl aA m10,sl ai m11] [(3,28),(4,85),(5,89),(6,60)],.cells [sl aa m12] [(0,137)],.cells [.func (.func 105) [] [.bptr 1 0,.eptr ((cL aa) scope),.bptr 5 0]] [],.dead,.cells [.int .i64 m13,.str m14,.int .i64 m15,sl ac m16,sl au m17,sl aA m18,sl ai m19] []] [((12,0),28)]
def ee(o:Bool):az:=aZ 96 [(3,.bptr 1 0),(4,.bptr 2 0),(5,.eptr ((cL aa) scope)),(6,.bptr 4 0),(7,.bptr 5 0),(12,sl ac kids),(14,.bptr 8 0),(59,sl ac t59),(60,.int .i64 t60),(61,.int .i64 i),(72,.bool o)] [.cells [sl cS m] [(0,9)],.cells [.func (.func 62) [] [.bptr 0 0],.func (.func 61) [] []] [],.cells [.int .i64 m2,.str m3,.int .i64 m4,sl ac t59,sl au m5,sl aA m6,sl ai m7] [(4,85),(6,60)],.dead,.cells [.int .i64 0,.str ([]:ag),.int .i64 0,sl ac m8,sl au m9,sl aA m10,sl ai m11] [(3,28),(4,85),(5,89),(6,60)],.cells [sl aa m12] [(0,137)],.cells [.func (.func 105) [] [.bptr 1 0,.eptr ((cL aa) scope),.bptr 5 0]] [],.dead,.cells [.int .i64 m13,.str m14,.int .i64 m15,sl ac m16,sl au m17,sl aA m18,sl ai m19] []] [((12,0),28)]
def ie:Option Bool:=
 if(m2==7)=true then
  some (i==0)
 else
  some false
theorem lU{x:Bool}(h:ie i m2=some x):aP Pg GE 1 (cA Rf 523766) (EX .normal (ee scope kids i t59 t60 m m2 m3 m4 m5 m6 m7 m8 m9 m10 m11 m12 m13 m14 m15 m16 m17 m18 m19 x)) (mA scope kids i t59 t60 m m2 m3 m4 m5 m6 m7 m8 m9 m10 m11 m12 m13 m14 m15 m16 m17 m18 m19):=by
 rcases aN h with⟨c17,h⟩|⟨c17,h⟩
 ·obtain rfl:=lf h
  exact bk JV (ss<|sg 4 c17<|eF .normal (ee scope kids i t59 t60 m m2 m3 m4 m5 m6 m7 m8 m9 m10 m11 m12 m13 m14 m15 m16 m17 m18 m19 (i==0)))<|by kernel_rfl
 ·obtain rfl:=lf h
  exact bk JV (ss<|sg 4 c17<|eF .normal (ee scope kids i t59 t60 m m2 m3 m4 m5 m6 m7 m8 m9 m10 m11 m12 m13 m14 m15 m16 m17 m18 m19 false))<|by kernel_rfl
end
section
variable(R21:aY)(scope:(List ae))(t59:waE)(t60:Int)(m2:Int)(m3:ag)(m4:Int)(m5:waD)(m6:waC)(m7:waB)(m8:waE)(m9:waD)(m10:waC)(m11:waB)(m12:(List ae))(kids:waE)(t61:Int)(m:waA)
def bJ:az:=aZ 96 [(3,.bptr 1 0),(4,.bptr 2 0),(5,.eptr ((cL aa) scope)),(6,.bptr 4 0),(7,.bptr 5 0),(12,sl ac kids),(59,sl ac t59),(60,.int .i64 t60),(61,.int .i64 t61)] [.cells [sl cS m] [(0,9)],.cells [.func (.func 62) [] [.bptr 0 0],.func (.func 61) [] []] [],.cells [.int .i64 m2,.str m3,.int .i64 m4,sl ac t59,sl au m5,sl aA m6,sl ai m7] [(4,85),(6,60)],.dead,.cells [.int .i64 0,.str ([]:ag),.int .i64 0,sl ac m8,sl au m9,sl aA m10,sl ai m11] [(3,28),(4,85),(5,89),(6,60)],.cells [sl aa m12] [(0,137)],.cells [.func (.func 105) [] [.bptr 1 0,.eptr ((cL aa) scope),.bptr 5 0]] [],.dead] [((12,0),28)]
def ef(o:waE×waA):az:=aZ 96 [(3,.bptr 1 0),(4,.bptr 2 0),(5,.eptr ((cL aa) scope)),(6,.bptr 4 0),(12,sl ac o.1)] [.cells [sl cS o.2] [(0,9)],.cells [.func (.func 62) [] [.bptr 0 0],.func (.func 61) [] []] [],.cells [.int .i64 m2,.str m3,.int .i64 m4,sl ac t59,sl au m5,sl aA m6,sl ai m7] [(4,85),(6,60)],.dead,.cells [.int .i64 0,.str ([]:ag),.int .i64 0,sl ac m8,sl au m9,sl aA m10,sl ai m11] [(3,28),(4,85),(5,89),(6,60)],.cells [sl aa m12] [(0,137)],.cells [.func (.func 105) [] [.bptr 1 0,.eptr ((cL aa) scope),.bptr 5 0]] [],.dead] [((12,0),28)]
def gE:Option ((waE×Int×waA)⊕((waE×waA))):=
 if(decide (t61<t60))=true then
  (fO t59 t61).bind fun x16=>
  (ie t61 m2).bind fun o18=>
  if o18=true then
   (R21 x16 scope m).bind fun r21=>
   (app kids ([r21.1]:List af)).bind fun l22=>
   some (.inl (l22,bZ (t61+1),r21.2))
  else
   (R21 x16 m12 m).bind fun r23=>
   (app kids ([r23.1]:List af)).bind fun l24=>
   some (.inl (l24,bZ (t61+1),r23.2))
 else
  some (.inr (kids,m))
def ig:Option ((waE×waA)):=loop (fun(zz:waE×Int×waA)=>gE R21 scope t59 t60 m2 m12 zz.1 zz.2.1 zz.2.2) (kids,t61,m)
theorem lG(hR21:bv R21){y:(waE×Int×waA)⊕((waE×waA))}(h:gE R21 scope t59 t60 m2 m12 kids t61 m=some y):aP Pg GE 1 (cA Rf 8183) (LQ (fun(zz:waE×Int×waA)=>bJ scope t59 t60 m2 m3 m4 m5 m6 m7 m8 m9 m10 m11 m12 zz.1 zz.2.1 zz.2.2) (fun _=>.exit 1) (ef scope t59 m2 m3 m4 m5 m6 m7 m8 m9 m10 m11 m12) y) (bJ scope t59 t60 m2 m3 m4 m5 m6 m7 m8 m9 m10 m11 m12 kids t61 m):=by
 rcases aN h with⟨c15,h⟩|⟨c15,h⟩
 ·obtain⟨x16,bx16,h⟩:=aG h
  obtain⟨o18,bo18,h⟩:=aG h
  have p20:=fun{sc F} (r:PS sc F)=>sg 0 c15<|sv (fi.ia (k:=.i64) bx16)<|sv (aW x16)<|sx wR<|sx (jj x16)<|oz 0<|cU (lU scope kids t61 t59 t60 m m2 m3 m4 m5 m6 m7 m8 m9 m10 m11 m12 x16.Op x16.Name x16.N x16.Kids x16.Params x16.Alts x16.Types bo18)<|r
  rcases aN h with⟨c19,h⟩|⟨c19,h⟩
  ·obtain⟨r21,br21,h⟩:=aG h
   obtain⟨l22,bl22,h⟩:=aG h
   obtain rfl:=lf h
   have z:=p20<|sg 0 c19<|sv (show bE Pg 95 [.func (.func 62) [] [.bptr 0 0],.func (.func 61) [] []]=some (.agg [.func (.func 62) [] [.bptr 0 0],.func (.func 61) [] []]) by kernel_rfl)<|sv (bQ x16 [])<|sv (cy GT (sl aa scope) [])<|si (.cg ⟨[0],[.agg [.func (.func 62) [] [.bptr 0 0],.func (.func 61) [] []],.agg (ac x16),sl aa scope],[],[.cells [sl cS m] [(0,9)]],[.cells [sl cS m] [(0,9)]],[.cells [sl cS r21.2] [(0,9)]],[.cells [sl cS r21.2] [(0,9)]],.agg (ac r21.1),.agg (ac r21.1),[(3,28),(4,85),(5,89),(6,60)]⟩) (hR21 _ _ _ _ br21)<|sf (aI (xA [0] [.func (.func 62) [] [.bptr 0 0],.func (.func 61) [] []] [.func (.func 62) [] [.bptr 0 0],.func (.func 61) [] []] (aI (xF [0] (.func 62) [] [.bptr 0 0] [] [.bptr 0 0] trivial (aI (xB [0] 0 0 0 rfl) trivial)) (aI (xR [0] (.func (.func 61) [] []) (aI trivial trivial)) trivial))) (aI (xR [0] (.agg (ac x16)) (av x16)) (aI (xR [0] (sl aa scope) (aj al scope)) trivial)))<|sf (aI (aI (rB (.cells [sl cS m] [(0,9)])) (aI (rW [(0,9)]) (aI (xR [0] (sl cS m) (aj bD m)) trivial))) trivial)<|sf (aI (aI (rW [(0,9)]) (aI (xR [0] (sl cS r21.2) (aj bD r21.2)) trivial)) trivial)<|sf (xR [0] (.agg (ac r21.1)) (av r21.1))<|sv (fi.mk' (v:=og) j4 ([r21.1]:List af) 1 (by kernel_rfl))<|sv (fi.ap bl22)<|sK 1 .normal (bJ scope t59 t60 m2 m3 m4 m5 m6 m7 m8 m9 m10 m11 m12 l22 (bZ (t61+1)) r21.2) rfl (dF (aI (aX rfl) (aI (aX rfl) (aI (ba (lS al scope)) (aI (aX rfl) (aI (aX rfl) (aI (up (aj av l22)) (aI (up (aj av t59)) (aI trivial (aI trivial trivial)))))))))) (aI (aI (up (aj bD r21.2)) trivial) (aI (aI (aI trivial (aI (aX rfl) trivial)) (aI (aI trivial trivial) trivial)) (aI (aI trivial (aI trivial (aI trivial (aI (up (aj av t59)) (aI (up (aj bh m5)) (aI (up (aj bL m6)) (aI (up (aj aL m7)) trivial))))))) (aI trivial (aI (aI trivial (aI trivial (aI trivial (aI (up (aj av m8)) (aI (up (aj bh m9)) (aI (up (aj bL m10)) (aI (up (aj aL m11)) trivial))))))) (aI (aI (up (aj al m12)) trivial) (aI (aI (aI trivial (aI (aX rfl) (aI (ba (lS al scope)) (aI (aX rfl) trivial)))) trivial) (aI trivial trivial))))))))
   exact dZ (A:=JV) mixed z<|by kernel_rfl
  ·obtain⟨r23,br23,h⟩:=aG h
   obtain⟨l24,bl24,h⟩:=aG h
   obtain rfl:=lf h
   have z:=p20<|sg 0 c19<|sv (show bE Pg 95 [.func (.func 62) [] [.bptr 0 0],.func (.func 61) [] []]=some (.agg [.func (.func 62) [] [.bptr 0 0],.func (.func 61) [] []]) by kernel_rfl)<|sv (bQ x16 [])<|ss<|si (.cg ⟨[0],[.agg [.func (.func 62) [] [.bptr 0 0],.func (.func 61) [] []],.agg (ac x16),sl aa m12],[],[.cells [sl cS m] [(0,9)]],[.cells [sl cS m] [(0,9)]],[.cells [sl cS r23.2] [(0,9)]],[.cells [sl cS r23.2] [(0,9)]],.agg (ac r23.1),.agg (ac r23.1),[(3,28),(4,85),(5,89),(6,60)]⟩) (hR21 _ _ _ _ br23)<|sf (aI (xA [0] [.func (.func 62) [] [.bptr 0 0],.func (.func 61) [] []] [.func (.func 62) [] [.bptr 0 0],.func (.func 61) [] []] (aI (xF [0] (.func 62) [] [.bptr 0 0] [] [.bptr 0 0] trivial (aI (xB [0] 0 0 0 rfl) trivial)) (aI (xR [0] (.func (.func 61) [] []) (aI trivial trivial)) trivial))) (aI (xR [0] (.agg (ac x16)) (av x16)) (aI (xR [0] (sl aa m12) (aj al m12)) trivial)))<|sf (aI (aI (rB (.cells [sl cS m] [(0,9)])) (aI (rW [(0,9)]) (aI (xR [0] (sl cS m) (aj bD m)) trivial))) trivial)<|sf (aI (aI (rW [(0,9)]) (aI (xR [0] (sl cS r23.2) (aj bD r23.2)) trivial)) trivial)<|sf (xR [0] (.agg (ac r23.1)) (av r23.1))<|sv (fi.mk' (v:=og) j4 ([r23.1]:List af) 1 (by kernel_rfl))<|sv (fi.ap bl24)<|sK 1 .normal (bJ scope t59 t60 m2 m3 m4 m5 m6 m7 m8 m9 m10 m11 m12 l24 (bZ (t61+1)) r23.2) rfl (dF (aI (aX rfl) (aI (aX rfl) (aI (ba (lS al scope)) (aI (aX rfl) (aI (aX rfl) (aI (up (aj av l24)) (aI (up (aj av t59)) (aI trivial (aI trivial trivial)))))))))) (aI (aI (up (aj bD r23.2)) trivial) (aI (aI (aI trivial (aI (aX rfl) trivial)) (aI (aI trivial trivial) trivial)) (aI (aI trivial (aI trivial (aI trivial (aI (up (aj av t59)) (aI (up (aj bh m5)) (aI (up (aj bL m6)) (aI (up (aj aL m7)) trivial))))))) (aI trivial (aI (aI trivial (aI trivial (aI trivial (aI (up (aj av m8)) (aI (up (aj bh m9)) (aI (up (aj bL m10)) (aI (up (aj aL m11)) trivial))))))) (aI (aI (up (aj al m12)) trivial) (aI (aI (aI trivial (aI (aX rfl) (aI (ba (lS al scope)) (aI (aX rfl) trivial)))) trivial) (aI trivial trivial))))))))
   exact dZ (A:=JV) mixed z<|by kernel_rfl
 ·obtain rfl:=lf h
  have z:=sg 0 c15<|eF (.exit 1) (ef scope t59 m2 m3 m4 m5 m6 m7 m8 m9 m10 m11 m12 (kids,m))
  exact iZ JV (by intro hx;cases hx) z<|by kernel_rfl
theorem lV(hR21:bv R21){x:(waE×waA)}(h:ig R21 scope t59 t60 m2 m12 kids t61 m=some x):aP Pg GE 1 (.loop (cA Rf 8183)) (EX (.exit 1) (ef scope t59 m2 m3 m4 m5 m6 m7 m8 m9 m10 m11 m12 x)) (bJ scope t59 t60 m2 m3 m4 m5 m6 m7 m8 m9 m10 m11 m12 kids t61 m):=
 aP.loop (S:=fun(zz:waE×Int×waA)=>bJ scope t59 t60 m2 m3 m4 m5 m6 m7 m8 m9 m10 m11 m12 zz.1 zz.2.1 zz.2.2) (ex:=(fun _=>.exit 1)) (s:=(kids,t61,m)) h fun zz y hy=>lG R21 scope t59 t60 m2 m3 m4 m5 m6 m7 m8 m9 m10 m11 m12 zz.1 zz.2.1 zz.2.2 hR21 hy
end
def iw(R21:aY)(e:af)(scope:(List ae))(k0:waA):Option (af×waA):=
 (dQ e.Types).bind fun r1=>
 (ol scope).bind fun r2=>
 (ic scope k0 e.Op e.Name e.N e.Kids e.Params e.Alts r1 r2).bind fun o13=>
 (dG e.Params (e.Op==6) scope o13.1 o13.2.2).bind fun r14=>
 (ig R21 scope e.Kids (e.Kids.length:Int) e.Op r14.2.2 ([]:List af) 0 r14.2.1).bind fun o25=>
 (fS R21 e.Alts scope o25.2).bind fun r26=>
 some ((⟨e.Op,o13.2.1,e.N,o25.1,r14.1,r26.1,r1⟩:af),r26.2)
theorem mK(R21:aY)(hR21:bv R21){e:af}{scope:(List ae)}{k0:waA}{r:af×waA}(h:iw R21 e scope k0=some r):C Pg GE 56 [.agg [.func (.func 62) [] [.bptr 0 0],.func (.func 61) [] []],.agg (ac e),sl aa scope] [] [.cells [sl cS k0] [(0,9)]] (.agg (ac r.1)) [(3,28),(4,85),(5,89),(6,60)] [.cells [sl cS r.2] [(0,9)]]:=by
 obtain⟨r1,br1,h⟩:=aG h
 obtain⟨r2,br2,h⟩:=aG h
 obtain⟨o13,bo13,h⟩:=aG h
 obtain⟨r14,br14,h⟩:=aG h
 obtain⟨o25,bo25,h⟩:=aG h
 obtain⟨r26,br26,h⟩:=aG h
 obtain rfl:=lf h
 have z:=sx (UD [.func (.func 62) [] [.bptr 0 0],.func (.func 61) [] []])<|sx (jj e)<|se (We aa scope)<|sx wR<|ss<|cH (gq br1)<|sv (cy GT (sl aa scope) [])<|cH (u5 br2)<|sx UH<|sx UG<|ss<|oz 0<|cU (lT scope k0 e.Op e.Name e.N e.Kids e.Params e.Alts r1 ([]:List af) ([]:List ay) ([]:List aO) ([]:List am) r2 bo13)<|ss<|sx Wf<|ss<|VW 7 [[.bool (e.Op==6)]] [3,4,5,6,7,8,11] [] (VC (m:=1) (b:=7) rfl [.bool (e.Op==6)] rfl) (VD 7 (l:=[.bool (e.Op==6)]) (aI trivial trivial)) (VE (VQ [.bool (e.Op==6)]))<|sf (GP 7 (lS al scope))<|sf (Ix 7 (p:=sl cS o13.1) (aj bD o13.1))<|sf (Ix 7 (p:=sl ac e.Kids) (aj av e.Kids))<|sf (Ix 7 (p:=sl au e.Params) (aj bh e.Params))<|sf (Ix 7 (p:=sl aA e.Alts) (aj bL e.Alts))<|sf (Ix 7 (p:=sl ai r1) (aj aL r1))<|sf (Ix 7 (p:=sl ac ([]:List af)) (aj av ([]:List af)))<|sf (Ix 7 (p:=sl au ([]:List ay)) (aj bh ([]:List ay)))<|sf (Ix 7 (p:=sl aA ([]:List aO)) (aj bL ([]:List aO)))<|sf (Ix 7 (p:=sl ai ([]:List am)) (aj aL ([]:List am)))<|sf (Ix 7 (p:=sl aa o13.2.2) (aj al o13.2.2))<|sf (GP 7 (lS al scope))<|ss<|si (.cg ⟨[6,1,0,5],[sl au e.Params,.func (.func 108) [] [.eptr (cB (e.Op==6)),.bptr 0 0]],[],[.cells [.func (.func 105) [] [.bptr 1 0,.eptr ((cL aa) scope),.bptr 5 0]] [],.cells [.func (.func 62) [] [.bptr 0 0],.func (.func 61) [] []] [],.cells [sl cS o13.1] [(0,9)],.cells [sl aa o13.2.2] [(0,137)]],[.cells [.func (.func 105) [] [.bptr 1 0,.eptr ((cL aa) scope),.bptr 3 0]] [],.cells [.func (.func 62) [] [.bptr 2 0],.func (.func 61) [] []] [],.cells [sl cS o13.1] [(0,9)],.cells [sl aa o13.2.2] [(0,137)]],[.cells [.func (.func 105) [] [.bptr 1 0,.eptr ((cL aa) scope),.bptr 5 0]] [],.cells [.func (.func 62) [] [.bptr 0 0],.func (.func 61) [] []] [],.cells [sl cS r14.2.1] [(0,9)],.cells [sl aa r14.2.2] [(0,137)]],[.cells [.func (.func 105) [] [.bptr 1 0,.eptr ((cL aa) scope),.bptr 3 0]] [],.cells [.func (.func 62) [] [.bptr 2 0],.func (.func 61) [] []] [],.cells [sl cS r14.2.1] [(0,9)],.cells [sl aa r14.2.2] [(0,137)]],sl au r14.1,sl au r14.1,[(0,85)]⟩) (ga br14)<|sf (aI (xR [6,1,0,5] (sl au e.Params) (aj bh e.Params)) (aI (xF [6,1,0,5] (.func 108) [] [.eptr (cB (e.Op==6)),.bptr 6 0] [] [.eptr (cB (e.Op==6)),.bptr 0 0] trivial (aI (xR [6,1,0,5] (.eptr (cB (e.Op==6))) (Tu (e.Op==6))) (aI (xB [6,1,0,5] 0 6 0 rfl) trivial))) trivial))<|sf (aI (aI (rB (.cells [.func (.func 105) [] [.bptr 1 0,.eptr ((cL aa) scope),.bptr 5 0]] [])) (aI (rW []) (aI (xF [6,1,0,5] (.func 105) [] [.bptr 1 0,.eptr ((cL aa) scope),.bptr 5 0] [] [.bptr 1 0,.eptr ((cL aa) scope),.bptr 3 0] trivial (aI (xB [6,1,0,5] 1 1 0 rfl) (aI (xR [6,1,0,5] (.eptr ((cL aa) scope)) (lS al scope)) (aI (xB [6,1,0,5] 3 5 0 rfl) trivial)))) trivial))) (aI (aI (rB (.cells [.func (.func 62) [] [.bptr 0 0],.func (.func 61) [] []] [])) (aI (rW []) (aI (xF [6,1,0,5] (.func 62) [] [.bptr 0 0] [] [.bptr 2 0] trivial (aI (xB [6,1,0,5] 2 0 0 rfl) trivial)) (aI (xR [6,1,0,5] (.func (.func 61) [] []) (aI trivial trivial)) trivial)))) (aI (aI (rB (.cells [sl cS o13.1] [(0,9)])) (aI (rW [(0,9)]) (aI (xR [6,1,0,5] (sl cS o13.1) (aj bD o13.1)) trivial))) (aI (aI (rB (.cells [sl aa o13.2.2] [(0,137)])) (aI (rW [(0,137)]) (aI (xR [6,1,0,5] (sl aa o13.2.2) (aj al o13.2.2)) trivial))) trivial))))<|sf (aI (aI (rW []) (aI (xF [6,1,0,5] (.func 105) [] [.bptr 1 0,.eptr ((cL aa) scope),.bptr 5 0] [] [.bptr 1 0,.eptr ((cL aa) scope),.bptr 3 0] trivial (aI (xB [6,1,0,5] 1 1 0 rfl) (aI (xR [6,1,0,5] (.eptr ((cL aa) scope)) (lS al scope)) (aI (xB [6,1,0,5] 3 5 0 rfl) trivial)))) trivial)) (aI (aI (rW []) (aI (xF [6,1,0,5] (.func 62) [] [.bptr 0 0] [] [.bptr 2 0] trivial (aI (xB [6,1,0,5] 2 0 0 rfl) trivial)) (aI (xR [6,1,0,5] (.func (.func 61) [] []) (aI trivial trivial)) trivial))) (aI (aI (rW [(0,9)]) (aI (xR [6,1,0,5] (sl cS r14.2.1) (aj bD r14.2.1)) trivial)) (aI (aI (rW [(0,137)]) (aI (xR [6,1,0,5] (sl aa r14.2.2) (aj al r14.2.2)) trivial)) trivial))))<|sf (xR [6,1,0,5] (sl au r14.1) (aj bh r14.1))<|ss<|bW (fi.ln e.Kids)<|cU (lV R21 scope e.Kids (e.Kids.length:Int) e.Op o13.2.1 e.N r14.1 e.Alts r1 ([]:List af) ([]:List ay) ([]:List aO) ([]:List am) r14.2.2 ([]:List af) 0 r14.2.1 hR21 bo25)<|ss<|si (.cg ⟨[1,0],[sl aA e.Alts,.func (.func 110) [] [.eptr ((cL aa) scope),.bptr 0 0]],[],[.cells [.func (.func 62) [] [.bptr 0 0],.func (.func 61) [] []] [],.cells [sl cS o25.2] [(0,9)]],[.cells [.func (.func 62) [] [.bptr 1 0],.func (.func 61) [] []] [],.cells [sl cS o25.2] [(0,9)]],[.cells [.func (.func 62) [] [.bptr 0 0],.func (.func 61) [] []] [],.cells [sl cS r26.2] [(0,9)]],[.cells [.func (.func 62) [] [.bptr 1 0],.func (.func 61) [] []] [],.cells [sl cS r26.2] [(0,9)]],sl aA r26.1,sl aA r26.1,[(0,89)]⟩) (kl R21 hR21 br26)<|sf (aI (xR [1,0] (sl aA e.Alts) (aj bL e.Alts)) (aI (xF [1,0] (.func 110) [] [.eptr ((cL aa) scope),.bptr 1 0] [] [.eptr ((cL aa) scope),.bptr 0 0] trivial (aI (xR [1,0] (.eptr ((cL aa) scope)) (lS al scope)) (aI (xB [1,0] 0 1 0 rfl) trivial))) trivial))<|sf (aI (aI (rB (.cells [.func (.func 62) [] [.bptr 0 0],.func (.func 61) [] []] [])) (aI (rW []) (aI (xF [1,0] (.func 62) [] [.bptr 0 0] [] [.bptr 1 0] trivial (aI (xB [1,0] 1 0 0 rfl) trivial)) (aI (xR [1,0] (.func (.func 61) [] []) (aI trivial trivial)) trivial)))) (aI (aI (rB (.cells [sl cS o25.2] [(0,9)])) (aI (rW [(0,9)]) (aI (xR [1,0] (sl cS o25.2) (aj bD o25.2)) trivial))) trivial))<|sf (aI (aI (rW []) (aI (xF [1,0] (.func 62) [] [.bptr 0 0] [] [.bptr 1 0] trivial (aI (xB [1,0] 1 0 0 rfl) trivial)) (aI (xR [1,0] (.func (.func 61) [] []) (aI trivial trivial)) trivial))) (aI (aI (rW [(0,9)]) (aI (xR [1,0] (sl cS r26.2) (aj bD r26.2)) trivial)) trivial))<|sf (xR [1,0] (sl aA r26.1) (aj bL r26.1))<|sz (bQ (⟨e.Op,o13.2.1,e.N,o25.1,r14.1,r26.1,r1⟩:af) [])<|sy (bI (⟨e.Op,o13.2.1,e.N,o25.1,r14.1,r26.1,r1⟩:af))<|en (aI (qN (⟨e.Op,o13.2.1,e.N,o25.1,r14.1,r26.1,r1⟩:af))<|aI (UM (n:=1) (av (⟨e.Op,o13.2.1,e.N,o25.1,r14.1,r26.1,r1⟩:af)))<|aI (rL [.cells [sl cS r26.2] [(0,9)]])<|aI (aI (aI (up (n:=1) (aj bD r26.2)) trivial) trivial)<|rT)
 exact C.evGp (A:=JV) mixed (m:=1) (c:=Rf) rfl call56 func56 rfl z<|by kernel_rfl
def iy:((af×(List ae)×waA)->Option (af×waA))->(af×(List ae)×waA)->Option (af×waA):=fun(rec:(af×(List ae)×waA)->Option (af×waA)) (x:af×(List ae)×waA)=>iw (fun e scope k0=>rec (e,scope,k0)) x.1 x.2.1 x.2.2
def iX(e:af)(scope:(List ae))(k0:waA):Option (af×waA):=qc iy (e,scope,k0)
theorem na{e:af}{scope:(List ae)}{k0:waA}{r:af×waA}(h:iX e scope k0=some r):C Pg GE 56 [.agg [.func (.func 62) [] [.bptr 0 0],.func (.func 61) [] []],.agg (ac e),sl aa scope] [] [.cells [sl cS k0] [(0,9)]] (.agg (ac r.1)) [(3,28),(4,85),(5,89),(6,60)] [.cells [sl cS r.2] [(0,9)]]:=
 d9 (F:=iy) (M:=fun(x:af×(List ae)×waA) (r:af×waA)=>C Pg GE 56 [.agg [.func (.func 62) [] [.bptr 0 0],.func (.func 61) [] []],.agg (ac x.1),sl aa x.2.1] [] [.cells [sl cS x.2.2] [(0,9)]] (.agg (ac r.1)) [(3,28),(4,85),(5,89),(6,60)] [.cells [sl cS r.2] [(0,9)]]) (fun rec hrec x r h=>mK _ (fun e scope k0 r h=>hrec (e,scope,k0) r h) h) h
noncomputable def WG:Code:=f15.body.getD .skip
def Wk:List Nat:=[]
def BW(e:af):Option af:=
 (oN e).bind fun r1=>
 (iX e ([]:List ae) r1).bind fun r2=>
 some r2.1
theorem Fi{e:af}{r:af}(h:BW e=some r):CC Pg GE 15 [.agg (ac e)] (.agg (ac r)) [(3,28),(4,85),(5,89),(6,60)]:=by
 obtain⟨r1,br1,h⟩:=aG h
 obtain⟨r2,br2,h⟩:=aG h
 obtain rfl:=lf h
 have z:=se (bK e)<|sx wR<|sv (aW e)<|cH (uf br1)<|sx UF<|sv (show dL Pg 95 [(1,.func (.func 61) [] []),(0,.func (.func 62) [] [.bptr 2 0])]=some (.agg [.func (.func 62) [] [.bptr 2 0],.func (.func 61) [] []]) by kernel_rfl)<|sx UI<|sx (UD [.func (.func 62) [] [.bptr 2 0],.func (.func 61) [] []])<|sv (show bE Pg 95 [.func (.func 62) [] [.bptr 2 0],.func (.func 61) [] []]=some (.agg [.func (.func 62) [] [.bptr 2 0],.func (.func 61) [] []]) by kernel_rfl)<|sv (aW e)<|si (.cg ⟨[2],[.agg [.func (.func 62) [] [.bptr 0 0],.func (.func 61) [] []],.agg (ac e),sl aa ([]:List ae)],[],[.cells [sl cS r1] [(0,9)]],[.cells [sl cS r1] [(0,9)]],[.cells [sl cS r2.2] [(0,9)]],[.cells [sl cS r2.2] [(0,9)]],.agg (ac r2.1),.agg (ac r2.1),[(3,28),(4,85),(5,89),(6,60)]⟩) (na br2)<|sf (aI (xA [2] [.func (.func 62) [] [.bptr 2 0],.func (.func 61) [] []] [.func (.func 62) [] [.bptr 0 0],.func (.func 61) [] []] (aI (xF [2] (.func 62) [] [.bptr 2 0] [] [.bptr 0 0] trivial (aI (xB [2] 0 2 0 rfl) trivial)) (aI (xR [2] (.func (.func 61) [] []) (aI trivial trivial)) trivial))) (aI (xR [2] (.agg (ac e)) (av e)) (aI (xR [2] (sl aa ([]:List ae)) (aj al ([]:List ae))) trivial)))<|sf (aI (aI (rB (.cells [sl cS r1] [(0,9)])) (aI (rW [(0,9)]) (aI (xR [2] (sl cS r1) (aj bD r1)) trivial))) trivial)<|sf (aI (aI (rW [(0,9)]) (aI (xR [2] (sl cS r2.2) (aj bD r2.2)) trivial)) trivial)<|sf (xR [2] (.agg (ac r2.1)) (av r2.1))<|sy (bI r2.1)<|en (aI (qN r2.1)<|aI (av r2.1)<|rT)
 exact cC Wk call15 func15 (c:=WG) rfl (aI (av e) trivial) z<|by kernel_rfl
noncomputable def WQ:Code:=f49.body.getD .skip
def Wu:List Nat:=[]
def zj(a:ag)(a2:ag):Option af:=
 (gk a).bind fun r1=>
 (gk a2).bind fun r2=>
 some (⟨10,([]:ag),0,([r1,r2]:List af),([]:List ay),([]:List aO),([]:List am)⟩:af)
theorem zk{a:ag}{a2:ag}{r:af}(h:zj a a2=some r):CC Pg GE 49 [.str a,.str a2] (.agg (ac r)) [(4,85),(5,89),(6,60)]:=by
 obtain⟨r1,br1,h⟩:=aG h
 obtain⟨r2,br2,h⟩:=aG h
 obtain rfl:=lf h
 have z:=sx wR<|cH (eO br1)<|cH (eO br2)<|sv (fi.mk' (v:=og) j4 ([r1,r2]:List af) 2 (by kernel_rfl))<|sb (K1 10 ([r1,r2]:List af)) (KY 10 ([r1,r2]:List af))<|sy (bI (⟨10,([]:ag),0,([r1,r2]:List af),([]:List ay),([]:List aO),([]:List am)⟩:af))<|en (aI (qN (⟨10,([]:ag),0,([r1,r2]:List af),([]:List ay),([]:List aO),([]:List am)⟩:af))<|aI (av (⟨10,([]:ag),0,([r1,r2]:List af),([]:List ay),([]:List aO),([]:List am)⟩:af))<|rT)
 exact cC Wu call49 func49 (c:=WQ) rfl (aI trivial (aI trivial trivial)) z<|by kernel_rfl
noncomputable def T3:Code:=f26.body.getD .skip
def Ti:List Nat:=[]
section
variable(v:waA)(v2:waA)(i:Int)
def iE:az:=aZ 26 [(0,sl cS v),(1,sl cS v2),(5,.int .i64 i)] [] []
def iF(o:Unit⊕(Unit)):Exit:=match o with
 |(.inl _)=>.ret
 |(.inr _)=>.exit 0
def fY(o:Unit⊕(Unit)):az:=match o with
 |(.inl o)=>aZ 26 [(4,.bool false)] [] []
 |(.inr o)=>aZ 26 [] [] []
def fX:Option (Int⊕(Unit⊕(Unit))):=
 if(decide (i<(v.length:Int)))=true then
  (fO v i).bind fun x4=>
  (fO v2 i).bind fun x5=>
  if(!(x4==x5))=true then
   some (.inr (.inl ()))
  else
   some (.inl (bZ (i+1)))
 else
  some (.inr (.inr ()))
def qC:Option (Unit⊕(Unit)):=loop (fun(zz:Int)=>fX v v2 zz) i
theorem y7{y:Int⊕(Unit⊕(Unit))}(h:fX v v2 i=some y):aP Pg GE 0 (cA T3 119) (LQ (fun(zz:Int)=>iE v v2 zz) iF fY y) (iE v v2 i):=by
 rcases aN h with⟨c3,h⟩|⟨c3,h⟩
 ·obtain⟨x4,bx4,h⟩:=aG h
  obtain⟨x5,bx5,h⟩:=aG h
  have p7:=fun{sc F} (r:PS sc F)=>bW (ch.ln v)<|sg 0 c3<|IS [0,0,3,7,0,0,48,112,255]<|sv (ch.ia (k:=.i64) bx4)<|sv (cy C2 (.str x4) [])<|sv (ch.ia (k:=.i64) bx5)<|sv (cy C2 (.str x5) [])<|r
  rcases aN h with⟨c6,h⟩|⟨c6,h⟩
  ·obtain rfl:=lf h
   have z:=p7<|sg 0 c6<|eF (iF (.inl ())) (fY (.inl ()))
   exact iZ Ti (by intro hx;cases hx) z<|by kernel_rfl
  ·obtain rfl:=lf h
   exact xO Ti (p7<|sg 0 c6<|eF .normal (iE v v2 (bZ (i+1))))<|by kernel_rfl
 ·obtain rfl:=lf h
  have z:=bW (ch.ln v)<|sg 0 c3<|eF (iF (.inr ())) (fY (.inr ()))
  exact iZ Ti (by intro hx;cases hx) z<|by kernel_rfl
theorem sH{x:Unit⊕(Unit)}(h:qC v v2 i=some x):aP Pg GE 0 (.loop (cA T3 119)) (EX (iF x) (fY x)) (iE v v2 i):=
 aP.loop (S:=fun(zz:Int)=>iE v v2 zz) (ex:=iF) (s:=i) h fun zz y hy=>y7 v v2 zz hy
end
def gj(a:waA)(a2:waA):Option Bool:=
 if((a.length:Int)!=(a2.length:Int))=true then
  some false
 else
  (qC a a2 0).bind fun o8=>match o8 with
  |(.inl o8)=>
   some false
  |(.inr o8)=>
   some true
theorem iA{a:waA}{a2:waA}{r:Bool}(h:gj a a2=some r):CC Pg GE 26 [sl cS a,sl cS a2] (.bool r) []:=by
 have p2:=fun{sc F} (r:PS sc F)=>bW (ch.ln a)<|bW (ch.ln a2)<|r
 rcases aN h with⟨c1,h⟩|⟨c1,h⟩
 ·obtain rfl:=lf h
  have z:=p2<|sg 0 c1<|en (aI (rP (.bool false))<|trivial)
  exact cC Ti call26 func26 (c:=T3) rfl (aI (aj bD a) (aI (aj bD a2) trivial)) z<|by kernel_rfl
 ·obtain⟨o8,bo8,h⟩:=aG h
  rcases o8 with o8|o8
  ·obtain rfl:=lf h
   have z:=p2<|sg 0 c1<|cU (e:=.ret) (s1:=fY (.inl o8)) (sH a a2 0 bo8)<|en (aI (rP (.bool false))<|trivial)
   exact cC Ti call26 func26 (c:=T3) rfl (aI (aj bD a) (aI (aj bD a2) trivial)) z<|by kernel_rfl
  ·obtain rfl:=lf h
   have z:=p2<|sg 0 c1<|cU (e:=.exit 0) (s1:=fY (.inr o8)) (sH a a2 0 bo8)<|en (aI (rP (.bool true))<|trivial)
   exact cC Ti call26 func26 (c:=T3) rfl (aI (aj bD a) (aI (aj bD a2) trivial)) z<|by kernel_rfl
abbrev qD:=(af->af->Option Bool)
abbrev qA(R:qD):Prop:=∀(a:af) (a2:af) (r:Bool),R a a2=some r->CC Pg GE 12 [.agg (ac a),.agg (ac a2)] (.bool r) []
abbrev jX:=(am->am->Option Bool)
abbrev oZ(R:jX):Prop:=∀(a:am) (a2:am) (r:Bool),R a a2=some r->CC Pg GE 97 [.agg (ai a),.agg (ai a2)] (.bool r) []
abbrev xG:=(ax->ax->Option Bool)
abbrev Cb(R:xG):Prop:=∀(a:ax) (a2:ax) (r:Bool),R a a2=some r->CC Pg GE 133 [.agg (aw a),.agg (aw a2)] (.bool r) []
noncomputable def OF:Code:=f133.body.getD .skip
def Ja:List Nat:=[39]
section
variable(v:ax)(v2:ax)
def Jh:az:=aZ 53 [(2,.eptr (aw v)),(3,.eptr (aw v2))] [.dead,.dead] []
def nh(o:Bool):az:=aZ 53 [(2,.eptr (aw v)),(3,.eptr (aw v2)),(33,.bool o)] [.dead,.dead] []
def Fv:Option Bool:=
 if(v.Op !=v2.Op)=true then
  some true
 else
  if(!(v.Name==v2.Name))=true then
   some true
  else
   if(v.N !=v2.N)=true then
    some true
   else
    some ((v.Kids.length:Int)!=(v2.Kids.length:Int))
theorem Hs{x:Bool}(h:Fv v v2=some x):aP Pg GE 0 (cA OF 12) (EX .normal (nh v v2 x)) (Jh v v2):=by
 have p2:=fun{sc F} (r:PS sc F)=>sv (rf v)<|sv (rj v)<|sv (rf v2)<|sv (rj v2)<|r
 rcases aN h with⟨c1,h⟩|⟨c1,h⟩
 ·obtain rfl:=lf h
  exact bk Ja (p2<|sg 6 c1<|eF .normal (nh v v2 true))<|by kernel_rfl
 ·have p4:=fun{sc F} (r:PS sc F)=>p2<|sg 6 c1<|sv (nF v)<|sv (pp v)<|sv (nF v2)<|sv (pp v2)<|r
  rcases aN h with⟨c3,h⟩|⟨c3,h⟩
  ·obtain rfl:=lf h
   exact bk Ja (p4<|sg 13 c3<|eF .normal (nh v v2 true))<|by kernel_rfl
  ·have p6:=fun{sc F} (r:PS sc F)=>p4<|sg 13 c3<|sv (rh v)<|sv (tc v)<|sv (rh v2)<|sv (tc v2)<|r
   rcases aN h with⟨c5,h⟩|⟨c5,h⟩
   ·obtain rfl:=lf h
    exact bk Ja (p6<|sg 20 c5<|eF .normal (nh v v2 true))<|by kernel_rfl
   ·obtain rfl:=lf h
    exact bk Ja (p6<|sg 20 c5<|sv (gm v)<|sv (gp v)<|bW (mX.ln v.Kids)<|sv (gm v2)<|sv (gp v2)<|bW (mX.ln v2.Kids)<|eF .normal (nh v v2 ((v.Kids.length:Int)!=(v2.Kids.length:Int))))<|by kernel_rfl
end
section
variable(R39:xG)(v:ax)(v2:ax)(t36:Int)(t37:Int)
def ni:az:=aZ 53 [(2,.eptr (aw v)),(3,.eptr (aw v2)),(36,.int .i64 t36),(37,.int .i64 t37)] [.dead,.dead] []
def nj(o:Unit⊕(Unit)):Exit:=match o with
 |(.inl _)=>.ret
 |(.inr _)=>.exit 0
def lr(o:Unit⊕(Unit)):az:=match o with
 |(.inl o)=>aZ 53 [(4,.bool false)] [.dead,.dead] []
 |(.inr o)=>aZ 53 [] [.dead,.dead] []
def Bq:Option (Int⊕(Unit⊕(Unit))):=
 if(decide (t37<t36))=true then
  (fO v.Kids t37).bind fun x11=>
  (fO v2.Kids t37).bind fun x12=>
  (R39 x11 x12).bind fun r13=>
  if(!r13)=true then
   some (.inr (.inl ()))
  else
   some (.inl (bZ (t37+1)))
 else
  some (.inr (.inr ()))
def Fw:Option (Unit⊕(Unit)):=loop (fun(zz:Int)=>Bq R39 v v2 t36 zz) t37
theorem Gi(hR39:Cb R39){y:Int⊕(Unit⊕(Unit))}(h:Bq R39 v v2 t36 t37=some y):aP Pg GE 0 (cA OF 119) (LQ (fun(zz:Int)=>ni v v2 t36 zz) nj lr y) (ni v v2 t36 t37):=by
 rcases aN h with⟨c10,h⟩|⟨c10,h⟩
 ·obtain⟨x11,bx11,h⟩:=aG h
  obtain⟨x12,bx12,h⟩:=aG h
  obtain⟨r13,br13,h⟩:=aG h
  have p15:=fun{sc F} (r:PS sc F)=>sg 0 c10<|IS [0,1,0,7,15,0,32,0,224,480,1023,2047]<|sv (gm v)<|sv (gp v)<|sv (mX.ia (k:=.i64) bx11)<|sv (pq x11)<|sv (gm v2)<|sv (gp v2)<|sv (mX.ia (k:=.i64) bx12)<|sv (pq x12)<|cH (hR39 _ _ _ br13)<|r
  rcases aN h with⟨c14,h⟩|⟨c14,h⟩
  ·obtain rfl:=lf h
   have z:=p15<|sg 0 c14<|eF (nj (.inl ())) (lr (.inl ()))
   exact iZ Ja (by intro hx;cases hx) z<|by kernel_rfl
  ·obtain rfl:=lf h
   exact xO Ja (p15<|sg 0 c14<|eF .normal (ni v v2 t36 (bZ (t37+1))))<|by kernel_rfl
 ·obtain rfl:=lf h
  have z:=sg 0 c10<|eF (nj (.inr ())) (lr (.inr ()))
  exact iZ Ja (by intro hx;cases hx) z<|by kernel_rfl
theorem y1(hR39:Cb R39){x:Unit⊕(Unit)}(h:Fw R39 v v2 t36 t37=some x):aP Pg GE 0 (.loop (cA OF 119)) (EX (nj x) (lr x)) (ni v v2 t36 t37):=
 aP.loop (S:=fun(zz:Int)=>ni v v2 t36 zz) (ex:=nj) (s:=t37) h fun zz y hy=>Gi R39 v v2 t36 zz hR39 hy
end
def Hq(R39:xG)(a:ax)(a2:ax):Option Bool:=
 (Fv a a2).bind fun o7=>
 if o7=true then
  some false
 else
  (Fw R39 a a2 (a.Kids.length:Int) 0).bind fun o16=>match o16 with
  |(.inl o16)=>
   some false
  |(.inr o16)=>
   some true
theorem KK(R39:xG)(hR39:Cb R39){a:ax}{a2:ax}{r:Bool}(h:Hq R39 a a2=some r):CC Pg GE 133 [.agg (aw a),.agg (aw a2)] (.bool r) []:=by
 obtain⟨o7,bo7,h⟩:=aG h
 have p9:=fun{sc F} (r:PS sc F)=>se (DT a)<|se (DT a2)<|oz 1<|cU (Hs a a2 bo7)<|r
 rcases aN h with⟨c8,h⟩|⟨c8,h⟩
 ·obtain rfl:=lf h
  have z:=p9<|sg 0 c8<|en (aI (rP (.bool false))<|trivial)
  exact cC Ja call133 func133 (c:=OF) rfl (aI (bH a) (aI (bH a2) trivial)) z<|by kernel_rfl
 ·obtain⟨o16,bo16,h⟩:=aG h
  rcases o16 with o16|o16
  ·obtain rfl:=lf h
   have z:=p9<|sg 0 c8<|sv (gm a)<|sv (gp a)<|bW (mX.ln a.Kids)<|cU (e:=.ret) (s1:=lr (.inl o16)) (y1 R39 a a2 (a.Kids.length:Int) 0 hR39 bo16)<|en (aI (rP (.bool false))<|trivial)
   exact cC Ja call133 func133 (c:=OF) rfl (aI (bH a) (aI (bH a2) trivial)) z<|by kernel_rfl
  ·obtain rfl:=lf h
   have z:=p9<|sg 0 c8<|sv (gm a)<|sv (gp a)<|bW (mX.ln a.Kids)<|cU (e:=.exit 0) (s1:=lr (.inr o16)) (y1 R39 a a2 (a.Kids.length:Int) 0 hR39 bo16)<|en (aI (rP (.bool true))<|trivial)
   exact cC Ja call133 func133 (c:=OF) rfl (aI (bH a) (aI (bH a2) trivial)) z<|by kernel_rfl
def Hr:((ax×ax)->Option Bool)->(ax×ax)->Option Bool:=fun(rec:(ax×ax)->Option Bool) (x:ax×ax)=>Hq (fun a a2=>rec (a,a2)) x.1 x.2
def Hp(a:ax)(a2:ax):Option Bool:=qc Hr (a,a2)
theorem Fx{a:ax}{a2:ax}{r:Bool}(h:Hp a a2=some r):CC Pg GE 133 [.agg (aw a),.agg (aw a2)] (.bool r) []:=
 d9 (F:=Hr) (M:=fun(x:ax×ax) (r:Bool)=>CC Pg GE 133 [.agg (aw x.1),.agg (aw x.2)] (.bool r) []) (fun rec hrec x r h=>KK _ (fun a a2 r h=>hrec (a,a2) r h) h) h
noncomputable def T4:Code:=f51.body.getD .skip
def Tj:List Nat:=[]
section
variable(R38:jX)(v:waB)(v2:waB)(i:Int)
def iG:az:=aZ 27 [(0,sl ai v),(1,sl ai v2),(5,.int .i64 i)] [] []
def iH(o:Unit⊕(Unit)):Exit:=match o with
 |(.inl _)=>.ret
 |(.inr _)=>.exit 0
def fZ(o:Unit⊕(Unit)):az:=match o with
 |(.inl o)=>aZ 27 [(4,.bool false)] [] []
 |(.inr o)=>aZ 27 [] [] []
def tC:Option (Int⊕(Unit⊕(Unit))):=
 if(decide (i<(v.length:Int)))=true then
  (fO v i).bind fun x4=>
  (fO v2 i).bind fun x5=>
  (R38 x4 x5).bind fun r6=>
  if(!r6)=true then
   some (.inr (.inl ()))
  else
   some (.inl (bZ (i+1)))
 else
  some (.inr (.inr ()))
def ws:Option (Unit⊕(Unit)):=loop (fun(zz:Int)=>tC R38 v v2 zz) i
theorem zb(hR38:oZ R38){y:Int⊕(Unit⊕(Unit))}(h:tC R38 v v2 i=some y):aP Pg GE 0 (cA T4 119) (LQ (fun(zz:Int)=>iG v v2 zz) iH fZ y) (iG v v2 i):=by
 rcases aN h with⟨c3,h⟩|⟨c3,h⟩
 ·obtain⟨x4,bx4,h⟩:=aG h
  obtain⟨x5,bx5,h⟩:=aG h
  obtain⟨r6,br6,h⟩:=aG h
  have p8:=fun{sc F} (r:PS sc F)=>bW (d4.ln v)<|sg 0 c3<|IS [0,0,3,7,0,0,48,112,255,511]<|sv (d4.ia (k:=.i64) bx4)<|sv (kG x4)<|sv (d4.ia (k:=.i64) bx5)<|sv (kG x5)<|cH (hR38 _ _ _ br6)<|r
  rcases aN h with⟨c7,h⟩|⟨c7,h⟩
  ·obtain rfl:=lf h
   have z:=p8<|sg 0 c7<|eF (iH (.inl ())) (fZ (.inl ()))
   exact iZ Tj (by intro hx;cases hx) z<|by kernel_rfl
  ·obtain rfl:=lf h
   exact xO Tj (p8<|sg 0 c7<|eF .normal (iG v v2 (bZ (i+1))))<|by kernel_rfl
 ·obtain rfl:=lf h
  have z:=bW (d4.ln v)<|sg 0 c3<|eF (iH (.inr ())) (fZ (.inr ()))
  exact iZ Tj (by intro hx;cases hx) z<|by kernel_rfl
theorem sI(hR38:oZ R38){x:Unit⊕(Unit)}(h:ws R38 v v2 i=some x):aP Pg GE 0 (.loop (cA T4 119)) (EX (iH x) (fZ x)) (iG v v2 i):=
 aP.loop (S:=fun(zz:Int)=>iG v v2 zz) (ex:=iH) (s:=i) h fun zz y hy=>zb R38 v v2 zz hR38 hy
end
def vV(R38:jX)(a:waB)(a2:waB):Option Bool:=
 if((a.length:Int)!=(a2.length:Int))=true then
  some false
 else
  (ws R38 a a2 0).bind fun o9=>match o9 with
  |(.inl o9)=>
   some false
  |(.inr o9)=>
   some true
theorem wt(R38:jX)(hR38:oZ R38){a:waB}{a2:waB}{r:Bool}(h:vV R38 a a2=some r):CC Pg GE 51 [sl ai a,sl ai a2] (.bool r) []:=by
 have p2:=fun{sc F} (r:PS sc F)=>bW (d4.ln a)<|bW (d4.ln a2)<|r
 rcases aN h with⟨c1,h⟩|⟨c1,h⟩
 ·obtain rfl:=lf h
  have z:=p2<|sg 0 c1<|en (aI (rP (.bool false))<|trivial)
  exact cC Tj call51 func51 (c:=T4) rfl (aI (aj aL a) (aI (aj aL a2) trivial)) z<|by kernel_rfl
 ·obtain⟨o9,bo9,h⟩:=aG h
  rcases o9 with o9|o9
  ·obtain rfl:=lf h
   have z:=p2<|sg 0 c1<|cU (e:=.ret) (s1:=fZ (.inl o9)) (sI R38 a a2 0 hR38 bo9)<|en (aI (rP (.bool false))<|trivial)
   exact cC Tj call51 func51 (c:=T4) rfl (aI (aj aL a) (aI (aj aL a2) trivial)) z<|by kernel_rfl
  ·obtain rfl:=lf h
   have z:=p2<|sg 0 c1<|cU (e:=.exit 0) (s1:=fZ (.inr o9)) (sI R38 a a2 0 hR38 bo9)<|en (aI (rP (.bool true))<|trivial)
   exact cC Tj call51 func51 (c:=T4) rfl (aI (aj aL a) (aI (aj aL a2) trivial)) z<|by kernel_rfl
noncomputable def Ts:Code:=f97.body.getD .skip
def PO:List Nat:=[]
section
variable(v:am)(v2:am)
def Db:az:=aZ 67 [(2,.eptr (ai v)),(3,.eptr (ai v2))] [.dead,.dead] []
def gP(o:Bool):az:=aZ 67 [(2,.eptr (ai v)),(3,.eptr (ai v2)),(42,.bool o)] [.dead,.dead] []
def yh:Option Bool:=
 if(v.Op !=v2.Op)=true then
  some true
 else
  if(!(v.Name==v2.Name))=true then
   some true
  else
   (gj v.Names v2.Names).bind fun r5=>
   if(!r5)=true then
    some true
   else
    (Hp v.Pred v2.Pred).bind fun r8=>
    if(!r8)=true then
     some true
    else
     some ((v.Preds.length:Int)!=(v2.Preds.length:Int))
theorem Cg{x:Bool}(h:yh v v2=some x):aP Pg GE 0 (cA Ts 12) (EX .normal (gP v v2 x)) (Db v v2):=by
 have p2:=fun{sc F} (r:PS sc F)=>sv (cJ v)<|sv (cK v)<|sv (cJ v2)<|sv (cK v2)<|r
 rcases aN h with⟨c1,h⟩|⟨c1,h⟩
 ·obtain rfl:=lf h
  exact bk PO (p2<|sg 6 c1<|eF .normal (gP v v2 true))<|by kernel_rfl
 ·have p4:=fun{sc F} (r:PS sc F)=>p2<|sg 6 c1<|sv (gn v)<|sv (ik v)<|sv (gn v2)<|sv (ik v2)<|r
  rcases aN h with⟨c3,h⟩|⟨c3,h⟩
  ·obtain rfl:=lf h
   exact bk PO (p4<|sg 13 c3<|eF .normal (gP v v2 true))<|by kernel_rfl
  ·obtain⟨r5,br5,h⟩:=aG h
   have p7:=fun{sc F} (r:PS sc F)=>p4<|sg 13 c3<|sv (ez v)<|sv (eB v)<|sv (ez v2)<|sv (eB v2)<|cH (iA br5)<|r
   rcases aN h with⟨c6,h⟩|⟨c6,h⟩
   ·obtain rfl:=lf h
    exact bk PO (p7<|sg 21 c6<|eF .normal (gP v v2 true))<|by kernel_rfl
   ·obtain⟨r8,br8,h⟩:=aG h
    have p10:=fun{sc F} (r:PS sc F)=>p7<|sg 21 c6<|sv (nG v)<|sv (nH v)<|sv (nG v2)<|sv (nH v2)<|cH (Fx br8)<|r
    rcases aN h with⟨c9,h⟩|⟨c9,h⟩
    ·obtain rfl:=lf h
     exact bk PO (p10<|sg 29 c9<|eF .normal (gP v v2 true))<|by kernel_rfl
    ·obtain rfl:=lf h
     exact bk PO (p10<|sg 29 c9<|sv (ip v)<|sv (ir v)<|bW (mX.ln v.Preds)<|sv (ip v2)<|sv (ir v2)<|bW (mX.ln v2.Preds)<|eF .normal (gP v v2 ((v.Preds.length:Int)!=(v2.Preds.length:Int))))<|by kernel_rfl
end
section
variable(v:am)(v2:am)(i:Int)
def jn:az:=aZ 67 [(2,.eptr (ai v)),(3,.eptr (ai v2)),(5,.int .i64 i)] [.dead,.dead] []
def jo(o:Unit⊕(Unit)):Exit:=match o with
 |(.inl _)=>.ret
 |(.inr _)=>.exit 0
def gQ(o:Unit⊕(Unit)):az:=match o with
 |(.inl o)=>aZ 67 [(4,.bool false)] [.dead,.dead] []
 |(.inr o)=>aZ 67 [(2,.eptr (ai v)),(3,.eptr (ai v2))] [.dead,.dead] []
def uP:Option (Int⊕(Unit⊕(Unit))):=
 if(decide (i<(v.Preds.length:Int)))=true then
  (fO v.Preds i).bind fun x16=>
  (fO v2.Preds i).bind fun x17=>
  (Hp x16 x17).bind fun r18=>
  if(!r18)=true then
   some (.inr (.inl ()))
  else
   some (.inl (bZ (i+1)))
 else
  some (.inr (.inr ()))
def yi:Option (Unit⊕(Unit)):=loop (fun(zz:Int)=>uP v v2 zz) i
theorem AR{y:Int⊕(Unit⊕(Unit))}(h:uP v v2 i=some y):aP Pg GE 0 (cA Ts 119) (LQ (fun(zz:Int)=>jn v v2 zz) jo (gQ v v2) y) (jn v v2 i):=by
 have p15:=fun{sc F} (r:PS sc F)=>sv (ip v)<|sv (ir v)<|bW (mX.ln v.Preds)<|r
 rcases aN h with⟨c14,h⟩|⟨c14,h⟩
 ·obtain⟨x16,bx16,h⟩:=aG h
  obtain⟨x17,bx17,h⟩:=aG h
  obtain⟨r18,br18,h⟩:=aG h
  have p20:=fun{sc F} (r:PS sc F)=>p15<|sg 0 c14<|IS [0,1,0,7,15,0,32,0,224,480,1023,2047]<|sv (ip v)<|sv (ir v)<|sv (mX.ia (k:=.i64) bx16)<|sv (pq x16)<|sv (ip v2)<|sv (ir v2)<|sv (mX.ia (k:=.i64) bx17)<|sv (pq x17)<|cH (Fx br18)<|r
  rcases aN h with⟨c19,h⟩|⟨c19,h⟩
  ·obtain rfl:=lf h
   have z:=p20<|sg 0 c19<|eF (jo (.inl ())) (gQ v v2 (.inl ()))
   exact iZ PO (by intro hx;cases hx) z<|by kernel_rfl
  ·obtain rfl:=lf h
   exact xO PO (p20<|sg 0 c19<|eF .normal (jn v v2 (bZ (i+1))))<|by kernel_rfl
 ·obtain rfl:=lf h
  have z:=p15<|sg 0 c14<|eF (jo (.inr ())) (gQ v v2 (.inr ()))
  exact iZ PO (by intro hx;cases hx) z<|by kernel_rfl
theorem tB{x:Unit⊕(Unit)}(h:yi v v2 i=some x):aP Pg GE 0 (.loop (cA Ts 119)) (EX (jo x) (gQ v v2 x)) (jn v v2 i):=
 aP.loop (S:=fun(zz:Int)=>jn v v2 zz) (ex:=jo) (s:=i) h fun zz y hy=>AR v v2 zz hy
end
def y8(R38:jX)(a:am)(a2:am):Option Bool:=
 (yh a a2).bind fun o11=>
 if o11=true then
  some false
 else
  (yi a a2 0).bind fun o21=>match o21 with
  |(.inl o21)=>
   some false
  |(.inr o21)=>
   (vV R38 a.Args a2.Args).bind fun r22=>
   some r22
theorem Ey(R38:jX)(hR38:oZ R38){a:am}{a2:am}{r:Bool}(h:y8 R38 a a2=some r):CC Pg GE 97 [.agg (ai a),.agg (ai a2)] (.bool r) []:=by
 obtain⟨o11,bo11,h⟩:=aG h
 have p13:=fun{sc F} (r:PS sc F)=>se (px a)<|se (px a2)<|oz 1<|cU (Cg a a2 bo11)<|r
 rcases aN h with⟨c12,h⟩|⟨c12,h⟩
 ·obtain rfl:=lf h
  have z:=p13<|sg 0 c12<|en (aI (rP (.bool false))<|trivial)
  exact cC PO call97 func97 (c:=Ts) rfl (aI (aL a) (aI (aL a2) trivial)) z<|by kernel_rfl
 ·obtain⟨o21,bo21,h⟩:=aG h
  rcases o21 with o21|o21
  ·obtain rfl:=lf h
   have z:=p13<|sg 0 c12<|cU (e:=.ret) (s1:=gQ a a2 (.inl o21)) (tB a a2 0 bo21)<|en (aI (rP (.bool false))<|trivial)
   exact cC PO call97 func97 (c:=Ts) rfl (aI (aL a) (aI (aL a2) trivial)) z<|by kernel_rfl
  ·obtain⟨r22,br22,h⟩:=aG h
   obtain rfl:=lf h
   have z:=p13<|sg 0 c12<|cU (e:=.exit 0) (s1:=gQ a a2 (.inr o21)) (tB a a2 0 bo21)<|sv (du a)<|sv (dv a)<|sv (du a2)<|sv (dv a2)<|cH (wt R38 hR38 br22)<|en (aI (rP (.bool r22))<|trivial)
   exact cC PO call97 func97 (c:=Ts) rfl (aI (aL a) (aI (aL a2) trivial)) z<|by kernel_rfl
def za:((am×am)->Option Bool)->(am×am)->Option Bool:=fun(rec:(am×am)->Option Bool) (x:am×am)=>y8 (fun a a2=>rec (a,a2)) x.1 x.2
def sV(a:am)(a2:am):Option Bool:=qc za (a,a2)
theorem yj{a:am}{a2:am}{r:Bool}(h:sV a a2=some r):CC Pg GE 97 [.agg (ai a),.agg (ai a2)] (.bool r) []:=
 d9 (F:=za) (M:=fun(x:am×am) (r:Bool)=>CC Pg GE 97 [.agg (ai x.1),.agg (ai x.2)] (.bool r) []) (fun rec hrec x r h=>Ey _ (fun a a2 r h=>hrec (a,a2) r h) h) h
noncomputable def To:Code:=f50.body.getD .skip
def Sk:List Nat:=[]
section
variable(v:waD)(v2:waD)(i:Int)
def AS:az:=aZ 42 [(0,sl au v),(1,sl au v2),(5,.int .i64 i)] [] []
def mT(o:Bool):az:=aZ 42 [(0,sl au v),(1,sl au v2),(5,.int .i64 i),(41,.bool o)] [] []
def uX:Option Bool:=
 (fO v i).bind fun x4=>
 (fO v2 i).bind fun x5=>
 if(!(x4.Name==x5.Name))=true then
  some true
 else
  (fO v i).bind fun x8=>
  (fO v2 i).bind fun x9=>
  (sV x8.Type_ x9.Type_).bind fun r10=>
  some (!r10)
theorem zg{x:Bool}(h:uX v v2 i=some x):aP Pg GE 0 (cA To 1914) (EX .normal (mT v v2 i x)) (AS v v2 i):=by
 obtain⟨x4,bx4,h⟩:=aG h
 obtain⟨x5,bx5,h⟩:=aG h
 have p7:=fun{sc F} (r:PS sc F)=>IS [0,0,3,7,15,0,0,96,224,480,1023,2047,4095,4095,16383,32767,65535,4095,4095,397311,921599,1970175,4194303,8388607,16777215]<|sv (kU.ia (k:=.i64) bx4)<|sv (pj x4)<|sv (ri x4)<|sv (kU.ia (k:=.i64) bx5)<|sv (pj x5)<|sv (ri x5)<|r
 rcases aN h with⟨c6,h⟩|⟨c6,h⟩
 ·obtain rfl:=lf h
  exact bk Sk (p7<|sg 12 c6<|eF .normal (mT v v2 i true))<|by kernel_rfl
 ·obtain⟨x8,bx8,h⟩:=aG h
  obtain⟨x9,bx9,h⟩:=aG h
  obtain⟨r10,br10,h⟩:=aG h
  obtain rfl:=lf h
  exact bk Sk (p7<|sg 12 c6<|sv (kU.ia (k:=.i64) bx8)<|sv (tT x8)<|sv (tW x8)<|sv (kU.ia (k:=.i64) bx9)<|sv (tT x9)<|sv (tW x9)<|cH (yj br10)<|eF .normal (mT v v2 i (!r10)))<|by kernel_rfl
end
section
variable(v:waD)(v2:waD)(i:Int)
def g8:az:=aZ 42 [(0,sl au v),(1,sl au v2),(5,.int .i64 i)] [] []
def g9(o:Unit⊕(Unit)):Exit:=match o with
 |(.inl _)=>.ret
 |(.inr _)=>.exit 0
def fy(o:Unit⊕(Unit)):az:=match o with
 |(.inl o)=>aZ 42 [(4,.bool false)] [] []
 |(.inr o)=>aZ 42 [] [] []
def sJ:Option (Int⊕(Unit⊕(Unit))):=
 if(decide (i<(v.length:Int)))=true then
  (uX v v2 i).bind fun o11=>
  if o11=true then
   some (.inr (.inl ()))
  else
   some (.inl (bZ (i+1)))
 else
  some (.inr (.inr ()))
def uY:Option (Unit⊕(Unit)):=loop (fun(zz:Int)=>sJ v v2 zz) i
theorem yG{y:Int⊕(Unit⊕(Unit))}(h:sJ v v2 i=some y):aP Pg GE 0 (cA To 119) (LQ (fun(zz:Int)=>g8 v v2 zz) g9 fy y) (g8 v v2 i):=by
 rcases aN h with⟨c3,h⟩|⟨c3,h⟩
 ·obtain⟨o11,bo11,h⟩:=aG h
  have p13:=fun{sc F} (r:PS sc F)=>bW (kU.ln v)<|sg 0 c3<|oz 1<|cU (zg v v2 i bo11)<|r
  rcases aN h with⟨c12,h⟩|⟨c12,h⟩
  ·obtain rfl:=lf h
   have z:=p13<|sg 0 c12<|eF (g9 (.inl ())) (fy (.inl ()))
   exact iZ Sk (by intro hx;cases hx) z<|by kernel_rfl
  ·obtain rfl:=lf h
   exact xO Sk (p13<|sg 0 c12<|eF .normal (g8 v v2 (bZ (i+1))))<|by kernel_rfl
 ·obtain rfl:=lf h
  have z:=bW (kU.ln v)<|sg 0 c3<|eF (g9 (.inr ())) (fy (.inr ()))
  exact iZ Sk (by intro hx;cases hx) z<|by kernel_rfl
theorem ru{x:Unit⊕(Unit)}(h:uY v v2 i=some x):aP Pg GE 0 (.loop (cA To 119)) (EX (g9 x) (fy x)) (g8 v v2 i):=
 aP.loop (S:=fun(zz:Int)=>g8 v v2 zz) (ex:=g9) (s:=i) h fun zz y hy=>yG v v2 zz hy
end
def zf(a:waD)(a2:waD):Option Bool:=
 if((a.length:Int)!=(a2.length:Int))=true then
  some false
 else
  (uY a a2 0).bind fun o14=>match o14 with
  |(.inl o14)=>
   some false
  |(.inr o14)=>
   some true
theorem De{a:waD}{a2:waD}{r:Bool}(h:zf a a2=some r):CC Pg GE 50 [sl au a,sl au a2] (.bool r) []:=by
 have p2:=fun{sc F} (r:PS sc F)=>bW (kU.ln a)<|bW (kU.ln a2)<|r
 rcases aN h with⟨c1,h⟩|⟨c1,h⟩
 ·obtain rfl:=lf h
  have z:=p2<|sg 0 c1<|en (aI (rP (.bool false))<|trivial)
  exact cC Sk call50 func50 (c:=To) rfl (aI (aj bh a) (aI (aj bh a2) trivial)) z<|by kernel_rfl
 ·obtain⟨o14,bo14,h⟩:=aG h
  rcases o14 with o14|o14
  ·obtain rfl:=lf h
   have z:=p2<|sg 0 c1<|cU (e:=.ret) (s1:=fy (.inl o14)) (ru a a2 0 bo14)<|en (aI (rP (.bool false))<|trivial)
   exact cC Sk call50 func50 (c:=To) rfl (aI (aj bh a) (aI (aj bh a2) trivial)) z<|by kernel_rfl
  ·obtain rfl:=lf h
   have z:=p2<|sg 0 c1<|cU (e:=.exit 0) (s1:=fy (.inr o14)) (ru a a2 0 bo14)<|en (aI (rP (.bool true))<|trivial)
   exact cC Sk call50 func50 (c:=To) rfl (aI (aj bh a) (aI (aj bh a2) trivial)) z<|by kernel_rfl
noncomputable def PC:Code:=f12.body.getD .skip
def I9:List Nat:=[]
section
variable(v:af)(v2:af)
def Jl:az:=aZ 117 [(2,.eptr (ac v)),(3,.eptr (ac v2))] [.dead,.dead] []
def lx(o:Bool):az:=aZ 117 [(2,.eptr (ac v)),(3,.eptr (ac v2)),(43,.bool o)] [.dead,.dead] []
def Fy:Option Bool:=
 if(v.Op !=v2.Op)=true then
  some true
 else
  if(!(v.Name==v2.Name))=true then
   some true
  else
   if(v.N !=v2.N)=true then
    some true
   else
    (zf v.Params v2.Params).bind fun r7=>
    if(!r7)=true then
     some true
    else
     (vV sV v.Types v2.Types).bind fun r10=>
     some (!r10)
theorem HD{x:Bool}(h:Fy v v2=some x):aP Pg GE 0 (cA PC 12) (EX .normal (lx v v2 x)) (Jl v v2):=by
 have p2:=fun{sc F} (r:PS sc F)=>sv (cd v)<|sv (ce v)<|sv (cd v2)<|sv (ce v2)<|r
 rcases aN h with⟨c1,h⟩|⟨c1,h⟩
 ·obtain rfl:=lf h
  exact bk I9 (p2<|sg 6 c1<|eF .normal (lx v v2 true))<|by kernel_rfl
 ·have p4:=fun{sc F} (r:PS sc F)=>p2<|sg 6 c1<|sv (cp v)<|sv (cz v)<|sv (cp v2)<|sv (cz v2)<|r
  rcases aN h with⟨c3,h⟩|⟨c3,h⟩
  ·obtain rfl:=lf h
   exact bk I9 (p4<|sg 13 c3<|eF .normal (lx v v2 true))<|by kernel_rfl
  ·have p6:=fun{sc F} (r:PS sc F)=>p4<|sg 13 c3<|sv (io v)<|sv (jt v)<|sv (io v2)<|sv (jt v2)<|r
   rcases aN h with⟨c5,h⟩|⟨c5,h⟩
   ·obtain rfl:=lf h
    exact bk I9 (p6<|sg 20 c5<|eF .normal (lx v v2 true))<|by kernel_rfl
   ·obtain⟨r7,br7,h⟩:=aG h
    have p9:=fun{sc F} (r:PS sc F)=>p6<|sg 20 c5<|sv (bw v)<|sv (bA v)<|sv (bw v2)<|sv (bA v2)<|cH (De br7)<|r
    rcases aN h with⟨c8,h⟩|⟨c8,h⟩
    ·obtain rfl:=lf h
     exact bk I9 (p9<|sg 28 c8<|eF .normal (lx v v2 true))<|by kernel_rfl
    ·obtain⟨r10,br10,h⟩:=aG h
     obtain rfl:=lf h
     exact bk I9 (p9<|sg 28 c8<|sv (aJ v)<|sv (aK v)<|sv (aJ v2)<|sv (aK v2)<|cH (wt sV (fun _ _ _ h=>yj h) br10)<|eF .normal (lx v v2 (!r10)))<|by kernel_rfl
end
section
variable(v:af)(v2:af)
def Jm:az:=aZ 117 [(2,.eptr (ac v)),(3,.eptr (ac v2))] [.dead,.dead] []
def vW(o:Bool):az:=aZ 117 [(2,.eptr (ac v)),(3,.eptr (ac v2)),(59,.bool o)] [.dead,.dead] []
def FA:Option Bool:=
 if((v.Kids.length:Int)!=(v2.Kids.length:Int))=true then
  some true
 else
  some ((v.Alts.length:Int)!=(v2.Alts.length:Int))
theorem HE{x:Bool}(h:FA v v2=some x):aP Pg GE 0 (cA PC 28) (EX .normal (vW v v2 x)) (Jm v v2):=by
 have p15:=fun{sc F} (r:PS sc F)=>sv (aR v)<|sv (aS v)<|bW (fi.ln v.Kids)<|sv (aR v2)<|sv (aS v2)<|bW (fi.ln v2.Kids)<|r
 rcases aN h with⟨c14,h⟩|⟨c14,h⟩
 ·obtain rfl:=lf h
  exact bk I9 (p15<|sg 8 c14<|eF .normal (vW v v2 true))<|by kernel_rfl
 ·obtain rfl:=lf h
  exact bk I9 (p15<|sg 8 c14<|sv (aB v)<|sv (aC v)<|bW (ea.ln v.Alts)<|sv (aB v2)<|sv (aC v2)<|bW (ea.ln v2.Alts)<|eF .normal (vW v v2 ((v.Alts.length:Int)!=(v2.Alts.length:Int))))<|by kernel_rfl
end
section
variable(R36:qD)(v:af)(v2:af)(i:Int)
def np:az:=aZ 117 [(2,.eptr (ac v)),(3,.eptr (ac v2)),(5,.int .i64 i)] [.dead,.dead] []
def nq(o:Unit⊕(Unit)):Exit:=match o with
 |(.inl _)=>.ret
 |(.inr _)=>.exit 0
def jG(o:Unit⊕(Unit)):az:=match o with
 |(.inl o)=>aZ 117 [(4,.bool false)] [.dead,.dead] []
 |(.inr o)=>aZ 117 [(2,.eptr (ac v)),(3,.eptr (ac v2))] [.dead,.dead] []
def Br:Option (Int⊕(Unit⊕(Unit))):=
 if(decide (i<(v.Kids.length:Int)))=true then
  (fO v.Kids i).bind fun x21=>
  (fO v2.Kids i).bind fun x22=>
  (R36 x21 x22).bind fun r23=>
  if(!r23)=true then
   some (.inr (.inl ()))
  else
   some (.inl (bZ (i+1)))
 else
  some (.inr (.inr ()))
def FC:Option (Unit⊕(Unit)):=loop (fun(zz:Int)=>Br R36 v v2 zz) i
theorem Gm(hR36:qA R36){y:Int⊕(Unit⊕(Unit))}(h:Br R36 v v2 i=some y):aP Pg GE 0 (cA PC 247) (LQ (fun(zz:Int)=>np v v2 zz) nq (jG v v2) y) (np v v2 i):=by
 have p20:=fun{sc F} (r:PS sc F)=>sv (aR v)<|sv (aS v)<|bW (fi.ln v.Kids)<|r
 rcases aN h with⟨c19,h⟩|⟨c19,h⟩
 ·obtain⟨x21,bx21,h⟩:=aG h
  obtain⟨x22,bx22,h⟩:=aG h
  obtain⟨r23,br23,h⟩:=aG h
  have p25:=fun{sc F} (r:PS sc F)=>p20<|sg 0 c19<|IS [0,1,0,7,15,0,32,0,224,480,1023,2047]<|sv (aR v)<|sv (aS v)<|sv (fi.ia (k:=.i64) bx21)<|sv (aW x21)<|sv (aR v2)<|sv (aS v2)<|sv (fi.ia (k:=.i64) bx22)<|sv (aW x22)<|cH (hR36 _ _ _ br23)<|r
  rcases aN h with⟨c24,h⟩|⟨c24,h⟩
  ·obtain rfl:=lf h
   have z:=p25<|sg 0 c24<|eF (nq (.inl ())) (jG v v2 (.inl ()))
   exact iZ I9 (by intro hx;cases hx) z<|by kernel_rfl
  ·obtain rfl:=lf h
   exact xO I9 (p25<|sg 0 c24<|eF .normal (np v v2 (bZ (i+1))))<|by kernel_rfl
 ·obtain rfl:=lf h
  have z:=p20<|sg 0 c19<|eF (nq (.inr ())) (jG v v2 (.inr ()))
  exact iZ I9 (by intro hx;cases hx) z<|by kernel_rfl
theorem tD(hR36:qA R36){x:Unit⊕(Unit)}(h:FC R36 v v2 i=some x):aP Pg GE 0 (.loop (cA PC 247)) (EX (nq x) (jG v v2 x)) (np v v2 i):=
 aP.loop (S:=fun(zz:Int)=>np v v2 zz) (ex:=nq) (s:=i) h fun zz y hy=>Gm R36 v v2 zz hR36 hy
end
section
variable(R36:qD)(v:af)(v2:af)(i:Int)(m:ag)(m2:waA)(m3:Int)(m4:ag)(m5:Int)(m6:waE)(m7:waD)(m8:waC)(m9:waB)(m10:ag)(m11:waA)(m12:Int)(m13:ag)(m14:Int)(m15:waE)(m16:waD)(m17:waC)(m18:waB)
def Jn:az:=aZ 117 [(2,.eptr (ac v)),(3,.eptr (ac v2)),(6,.int .i64 i),(7,.bptr 2 0),(8,.bptr 3 0)] [.dead,.dead,.cells [.str m,sl cS m2,.int .i64 m3,.str m4,.int .i64 m5,sl ac m6,sl au m7,sl aA m8,sl ai m9] [],.cells [.str m10,sl cS m11,.int .i64 m12,.str m13,.int .i64 m14,sl ac m15,sl au m16,sl aA m17,sl ai m18] []] []
def ra(o:Bool):az:=aZ 117 [(2,.eptr (ac v)),(3,.eptr (ac v2)),(6,.int .i64 i),(116,.bool o)] [.dead,.dead,.cells [.str m,sl cS m2,.int .i64 m3,.str m4,.int .i64 m5,sl ac m6,sl au m7,sl aA m8,sl ai m9] [],.cells [.str m10,sl cS m11,.int .i64 m12,.str m13,.int .i64 m14,sl ac m15,sl au m16,sl aA m17,sl ai m18] []] []
def FB:Option Bool:=
 if(!(m==m10))=true then
  some true
 else
  (gj m2 m11).bind fun r33=>
  if(!r33)=true then
   some true
  else
   (R36 (⟨m3,m4,m5,m6,m7,m8,m9⟩:af) (⟨m12,m13,m14,m15,m16,m17,m18⟩:af)).bind fun r36=>
   some (!r36)
theorem HF(hR36:qA R36){x:Bool}(h:FB R36 m m2 m3 m4 m5 m6 m7 m8 m9 m10 m11 m12 m13 m14 m15 m16 m17 m18=some x):aP Pg GE 0 (cA PC 16118) (EX .normal (ra v v2 i m m2 m3 m4 m5 m6 m7 m8 m9 m10 m11 m12 m13 m14 m15 m16 m17 m18 x)) (Jn v v2 i m m2 m3 m4 m5 m6 m7 m8 m9 m10 m11 m12 m13 m14 m15 m16 m17 m18):=by
 have p32:=fun{sc F} (r:PS sc F)=>ss<|ss<|r
 rcases aN h with⟨c31,h⟩|⟨c31,h⟩
 ·obtain rfl:=lf h
  exact bk I9 (p32<|sg 6 c31<|eF .normal (ra v v2 i m m2 m3 m4 m5 m6 m7 m8 m9 m10 m11 m12 m13 m14 m15 m16 m17 m18 true))<|by kernel_rfl
 ·obtain⟨r33,br33,h⟩:=aG h
  have p35:=fun{sc F} (r:PS sc F)=>p32<|sg 6 c31<|ss<|ss<|cH (iA br33)<|r
  rcases aN h with⟨c34,h⟩|⟨c34,h⟩
  ·obtain rfl:=lf h
   exact bk I9 (p35<|sg 14 c34<|eF .normal (ra v v2 i m m2 m3 m4 m5 m6 m7 m8 m9 m10 m11 m12 m13 m14 m15 m16 m17 m18 true))<|by kernel_rfl
  ·obtain⟨r36,br36,h⟩:=aG h
   obtain rfl:=lf h
   exact bk I9 (p35<|sg 14 c34<|sv (bQ (⟨m3,m4,m5,m6,m7,m8,m9⟩:af) [])<|sv (bQ (⟨m12,m13,m14,m15,m16,m17,m18⟩:af) [])<|cH (hR36 _ _ _ br36)<|eF .normal (ra v v2 i m m2 m3 m4 m5 m6 m7 m8 m9 m10 m11 m12 m13 m14 m15 m16 m17 m18 (!r36)))<|by kernel_rfl
end
section
variable(R36:qD)(v:af)(v2:af)(i:Int)
def nr:az:=aZ 117 [(2,.eptr (ac v)),(3,.eptr (ac v2)),(6,.int .i64 i)] [.dead,.dead] []
def nu(o:Unit⊕(Unit)):Exit:=match o with
 |(.inl _)=>.ret
 |(.inr _)=>.exit 2
def ly(o:Unit⊕(Unit)):az:=match o with
 |(.inl o)=>aZ 117 [(4,.bool false)] [.dead,.dead] []
 |(.inr o)=>aZ 117 [] [.dead,.dead] []
def Bt:Option (Int⊕(Unit⊕(Unit))):=
 if(decide (i<(v.Alts.length:Int)))=true then
  (fO v.Alts i).bind fun x29=>
  (fO v2.Alts i).bind fun x30=>
  (FB R36 x29.Con x29.Names x29.Body.Op x29.Body.Name x29.Body.N x29.Body.Kids x29.Body.Params x29.Body.Alts x29.Body.Types x30.Con x30.Names x30.Body.Op x30.Body.Name x30.Body.N x30.Body.Kids x30.Body.Params x30.Body.Alts x30.Body.Types).bind fun o37=>
  if o37=true then
   some (.inr (.inl ()))
  else
   some (.inl (bZ (i+1)))
 else
  some (.inr (.inr ()))
def FD:Option (Unit⊕(Unit)):=loop (fun(zz:Int)=>Bt R36 v v2 zz) i
theorem Gn(hR36:qA R36){y:Int⊕(Unit⊕(Unit))}(h:Bt R36 v v2 i=some y):aP Pg GE 0 (cA PC 503) (LQ (fun(zz:Int)=>nr v v2 zz) nu ly y) (nr v v2 i):=by
 have p28:=fun{sc F} (r:PS sc F)=>sv (aB v)<|sv (aC v)<|bW (ea.ln v.Alts)<|r
 rcases aN h with⟨c27,h⟩|⟨c27,h⟩
 ·obtain⟨x29,bx29,h⟩:=aG h
  obtain⟨x30,bx30,h⟩:=aG h
  obtain⟨o37,bo37,h⟩:=aG h
  have p39:=fun{sc F} (r:PS sc F)=>p28<|sg 0 c27<|Sv (.dx [0,1,0,7,15,0,32,0,224,480,0,0,3103,8191] [] [] [741,765])<|sv (aB v)<|sv (aC v)<|sv (ea.ia (k:=.i64) bx29)<|sv (ku x29)<|sv (aB v2)<|sv (aC v2)<|sv (ea.ia (k:=.i64) bx30)<|sv (ku x30)<|sx (hX x29)<|sx (hX x30)<|oz 0<|cU (HF R36 v v2 i x29.Con x29.Names x29.Body.Op x29.Body.Name x29.Body.N x29.Body.Kids x29.Body.Params x29.Body.Alts x29.Body.Types x30.Con x30.Names x30.Body.Op x30.Body.Name x30.Body.N x30.Body.Kids x30.Body.Params x30.Body.Alts x30.Body.Types hR36 bo37)<|r
  rcases aN h with⟨c38,h⟩|⟨c38,h⟩
  ·obtain rfl:=lf h
   have z:=p39<|sg 0 c38<|sK 0 (nu (.inl ())) (ly (.inl ())) rfl (dF (aI trivial trivial)) (aI trivial (aI trivial trivial))
   exact pw (A:=I9) mixed (by intro hx;cases hx) z<|by kernel_rfl
  ·obtain rfl:=lf h
   have z:=p39<|sg 0 c38<|sK 0 .normal (nr v v2 (bZ (i+1))) rfl (dF (aI (ba (av v)) (aI (ba (av v2)) (aI trivial trivial)))) (aI trivial (aI trivial trivial))
   exact dZ (A:=I9) mixed z<|by kernel_rfl
 ·obtain rfl:=lf h
  have z:=p28<|sg 0 c27<|eF (nu (.inr ())) (ly (.inr ()))
  exact iZ I9 (by intro hx;cases hx) z<|by kernel_rfl
theorem zc(hR36:qA R36){x:Unit⊕(Unit)}(h:FD R36 v v2 i=some x):aP Pg GE 0 (.loop (cA PC 503)) (EX (nu x) (ly x)) (nr v v2 i):=
 aP.loop (S:=fun(zz:Int)=>nr v v2 zz) (ex:=nu) (s:=i) h fun zz y hy=>Gn R36 v v2 zz hR36 hy
end
def HB(R36:qD)(a:af)(a2:af):Option Bool:=
 (Fy a a2).bind fun o11=>
 if o11=true then
  some false
 else
  (FA a a2).bind fun o16=>
  if o16=true then
   some false
  else
   (FC R36 a a2 0).bind fun o26=>match o26 with
   |(.inl o26)=>
    some false
   | (.inr o26) =>
    (FD R36 a a2 0).bind fun o40=>match o40 with
    |(.inl o40)=>
     some false
    |(.inr o40)=>
     some true
theorem KN(R36:qD)(hR36:qA R36){a:af}{a2:af}{r:Bool}(h:HB R36 a a2=some r):CC Pg GE 12 [.agg (ac a),.agg (ac a2)] (.bool r) []:=by
 obtain⟨o11,bo11,h⟩:=aG h
 have p13:=fun{sc F} (r:PS sc F)=>se (bK a)<|se (bK a2)<|oz 1<|cU (HD a a2 bo11)<|r
 rcases aN h with⟨c12,h⟩|⟨c12,h⟩
 ·obtain rfl:=lf h
  have z:=p13<|sg 0 c12<|en (aI (rP (.bool false))<|trivial)
  exact cC I9 call12 func12 (c:=PC) rfl (aI (av a) (aI (av a2) trivial)) z<|by kernel_rfl
 ·obtain⟨o16,bo16,h⟩:=aG h
  have p18:=fun{sc F} (r:PS sc F)=>p13<|sg 0 c12<|oz 1<|cU (HE a a2 bo16)<|r
  rcases aN h with⟨c17,h⟩|⟨c17,h⟩
  ·obtain rfl:=lf h
   have z:=p18<|sg 0 c17<|en (aI (rP (.bool false))<|trivial)
   exact cC I9 call12 func12 (c:=PC) rfl (aI (av a) (aI (av a2) trivial)) z<|by kernel_rfl
  ·obtain⟨o26,bo26,h⟩:=aG h
   rcases o26 with o26|o26
   ·obtain rfl:=lf h
    have z:=p18<|sg 0 c17<|cU (e:=.ret) (s1:=jG a a2 (.inl o26)) (tD R36 a a2 0 hR36 bo26)<|en (aI (rP (.bool false))<|trivial)
    exact cC I9 call12 func12 (c:=PC) rfl (aI (av a) (aI (av a2) trivial)) z<|by kernel_rfl
   ·obtain⟨o40,bo40,h⟩:=aG h
    rcases o40 with o40|o40
    ·obtain rfl:=lf h
     have z:=p18<|sg 0 c17<|cU (e:=.exit 0) (s1:=jG a a2 (.inr o26)) (tD R36 a a2 0 hR36 bo26)<|cU (e:=.ret) (s1:=ly (.inl o40)) (zc R36 a a2 0 hR36 bo40)<|en (aI (rP (.bool false))<|trivial)
     exact cC I9 call12 func12 (c:=PC) rfl (aI (av a) (aI (av a2) trivial)) z<|by kernel_rfl
    ·obtain rfl:=lf h
     have z:=p18<|sg 0 c17<|cU (e:=.exit 0) (s1:=jG a a2 (.inr o26)) (tD R36 a a2 0 hR36 bo26)<|cU (e:=.exit 2) (s1:=ly (.inr o40)) (zc R36 a a2 0 hR36 bo40)<|en (aI (rP (.bool true))<|trivial)
     exact cC I9 call12 func12 (c:=PC) rfl (aI (av a) (aI (av a2) trivial)) z<|by kernel_rfl
def HC:((af×af)->Option Bool)->(af×af)->Option Bool:=fun(rec:(af×af)->Option Bool) (x:af×af)=>HB (fun a a2=>rec (a,a2)) x.1 x.2
def HA(a:af)(a2:af):Option Bool:=qc HC (a,a2)
theorem FE{a:af}{a2:af}{r:Bool}(h:HA a a2=some r):CC Pg GE 12 [.agg (ac a),.agg (ac a2)] (.bool r) []:=
 d9 (F:=HC) (M:=fun(x:af×af) (r:Bool)=>CC Pg GE 12 [.agg (ac x.1),.agg (ac x.2)] (.bool r) []) (fun rec hrec x r h=>KN _ (fun a a2 r h=>hrec (a,a2) r h) h) h
abbrev dX:=(af->(List (ag×Bool))->Option (Bool×(List (ag×Bool))))
abbrev dV(R:dX):Prop:=∀(e:af) (k2:(List (ag×Bool))) (r:Bool×(List (ag×Bool))),R e k2=some r->C Pg GE 64 [.agg (ac e),.func (.func 99) [] [.bptr 0 0]] [] [.cells [.func (.func 81) [.bptr 1 0] []] [],.cells [.mapr 2] [],.map (aF PVal.bool k2)] (.bool r.1) [] [.cells [.func (.func 81) [.bptr 1 0] []] [],.cells [.mapr 2] [],.map (aF PVal.bool r.2)]
end Go.Proofs.YtkdahfeiedaahaaGreatDoor
