/- PROVED: a part of the proof. Conditions: none. -/
import Derived.Test.YtkdahfeiedaahaaGreatDoorPkC11
noncomputable section
namespace Go.Proofs.YtkdahfeiedaahaaGreatDoor
open Go Go.Proofs.Tryz
set_option linter.unusedVariables false
set_option maxRecDepth 100000
noncomputable def Oa:Code:=f107.body.getD .skip
def NZ:List Nat:=[14,21]
section
variable(v:Bool)(t8:waG)(t9:Int)(v2:(List ac))(out:waG)(t10:Int)(m:waA)(m2:(List ac))
def aV:aA:=bg 22 [(1,.func (.func 108) [] [.eptr (cB v),.bptr 0 0]),(5,sl av out),(8,sl av t8),(9,.int .i64 t9),(10,.int .i64 t10)] [.cells [.func (.func 105) [] [.bptr 1 0,.eptr ((cL aa) v2),.bptr 3 0]] [],.cells [.func (.func 62) [] [.bptr 2 0],.func (.func 61) [] []] [],.cells [sl cS m] [(0,9)],.cells [sl aa m2] [(0,137)]] [((5,0),85)]
def bV(o:waG×waA×(List ac)):aA:=bg 22 [(5,sl av o.1)] [.cells [.func (.func 105) [] [.bptr 1 0,.eptr ((cL aa) v2),.bptr 3 0]] [],.cells [.func (.func 62) [] [.bptr 2 0],.func (.func 61) [] []] [],.cells [sl cS o.2.1] [(0,9)],.cells [sl aa o.2.2] [(0,137)]] [((5,0),85)]
def cW:Option ((waG×Int×waA×(List ac))⊕((waG×waA×(List ac)))):=
 if(decide (t10<t9))=true then
  (fJ t8 t10).bind fun x2=>
  (ed x2 v v2 m m2).bind fun r3=>
  (app out ([r3.1]:List aw)).bind fun l4=>
  some (.inl (l4,ca (t10+1),r3.2.1,r3.2.2))
 else
  some (.inr (out,m,m2))
def dj:Option ((waG×waA×(List ac))):=loop (fun(zz:waG×Int×waA×(List ac))=>cW v t8 t9 v2 zz.1 zz.2.1 zz.2.2.1 zz.2.2.2) (out,t10,m,m2)
theorem fp{y:(waG×Int×waA×(List ac))⊕((waG×waA×(List ac)))}(h:cW v t8 t9 v2 out t10 m m2=some y):aQ Pg GE 4 (cA Oa 119) (LQ (fun(zz:waG×Int×waA×(List ac))=>aV v t8 t9 v2 zz.1 zz.2.1 zz.2.2.1 zz.2.2.2) (fun _=>.exit 0) (bV v2) y) (aV v t8 t9 v2 out t10 m m2):=by
 rcases aN h with⟨c1,h⟩|⟨c1,h⟩
 ·obtain⟨x2,bx2,h⟩:=aG h
  obtain⟨r3,br3,h⟩:=aG h
  obtain⟨l4,bl4,h⟩:=aG h
  obtain rfl:=lf h
  have z:=sg 0 c1<|sv (lT.ia (k:=.i64) bx2)<|sv (As x2)<|sx OY<|sx (mi x2)<|sv (Hq x2 [])<|si (.cg ⟨[0,1,2,3],[.agg (av x2),.eptr (cB v),.bptr 0 0],[],[.cells [.func (.func 105) [] [.bptr 1 0,.eptr ((cL aa) v2),.bptr 3 0]] [],.cells [.func (.func 62) [] [.bptr 2 0],.func (.func 61) [] []] [],.cells [sl cS m] [(0,9)],.cells [sl aa m2] [(0,137)]],[.cells [.func (.func 105) [] [.bptr 1 0,.eptr ((cL aa) v2),.bptr 3 0]] [],.cells [.func (.func 62) [] [.bptr 2 0],.func (.func 61) [] []] [],.cells [sl cS m] [(0,9)],.cells [sl aa m2] [(0,137)]],[.cells [.func (.func 105) [] [.bptr 1 0,.eptr ((cL aa) v2),.bptr 3 0]] [],.cells [.func (.func 62) [] [.bptr 2 0],.func (.func 61) [] []] [],.cells [sl cS r3.2.1] [(0,9)],.cells [sl aa r3.2.2] [(0,137)]],[.cells [.func (.func 105) [] [.bptr 1 0,.eptr ((cL aa) v2),.bptr 3 0]] [],.cells [.func (.func 62) [] [.bptr 2 0],.func (.func 61) [] []] [],.cells [sl cS r3.2.1] [(0,9)],.cells [sl aa r3.2.2] [(0,137)]],.agg (av r3.1),.agg (av r3.1),[]⟩) (g4 br3)<|sf (aI (xR [0,1,2,3] (.agg (av x2)) (ba x2)) (aI (xR [0,1,2,3] (.eptr (cB v)) (Tu v)) (aI (xB [0,1,2,3] 0 0 0 rfl) trivial)))<|sf (aI (aI (rB (.cells [.func (.func 105) [] [.bptr 1 0,.eptr ((cL aa) v2),.bptr 3 0]] [])) (aI (rW []) (aI (xF [0,1,2,3] (.func 105) [] [.bptr 1 0,.eptr ((cL aa) v2),.bptr 3 0] [] [.bptr 1 0,.eptr ((cL aa) v2),.bptr 3 0] trivial (aI (xB [0,1,2,3] 1 1 0 rfl) (aI (xR [0,1,2,3] (.eptr ((cL aa) v2)) (lS au v2)) (aI (xB [0,1,2,3] 3 3 0 rfl) trivial)))) trivial))) (aI (aI (rB (.cells [.func (.func 62) [] [.bptr 2 0],.func (.func 61) [] []] [])) (aI (rW []) (aI (xF [0,1,2,3] (.func 62) [] [.bptr 2 0] [] [.bptr 2 0] trivial (aI (xB [0,1,2,3] 2 2 0 rfl) trivial)) (aI (xR [0,1,2,3] (.func (.func 61) [] []) (aI trivial trivial)) trivial)))) (aI (aI (rB (.cells [sl cS m] [(0,9)])) (aI (rW [(0,9)]) (aI (xR [0,1,2,3] (sl cS m) (am bO m)) trivial))) (aI (aI (rB (.cells [sl aa m2] [(0,137)])) (aI (rW [(0,137)]) (aI (xR [0,1,2,3] (sl aa m2) (am au m2)) trivial))) trivial))))<|sf (aI (aI (rW []) (aI (xF [0,1,2,3] (.func 105) [] [.bptr 1 0,.eptr ((cL aa) v2),.bptr 3 0] [] [.bptr 1 0,.eptr ((cL aa) v2),.bptr 3 0] trivial (aI (xB [0,1,2,3] 1 1 0 rfl) (aI (xR [0,1,2,3] (.eptr ((cL aa) v2)) (lS au v2)) (aI (xB [0,1,2,3] 3 3 0 rfl) trivial)))) trivial)) (aI (aI (rW []) (aI (xF [0,1,2,3] (.func 62) [] [.bptr 2 0] [] [.bptr 2 0] trivial (aI (xB [0,1,2,3] 2 2 0 rfl) trivial)) (aI (xR [0,1,2,3] (.func (.func 61) [] []) (aI trivial trivial)) trivial))) (aI (aI (rW [(0,9)]) (aI (xR [0,1,2,3] (sl cS r3.2.1) (am bO r3.2.1)) trivial)) (aI (aI (rW [(0,137)]) (aI (xR [0,1,2,3] (sl aa r3.2.2) (am au r3.2.2)) trivial)) trivial))))<|sf (xR [0,1,2,3] (.agg (av r3.1)) (ba r3.1))<|sv (lT.mk' (v:=Ah) xj ([r3.1]:List aw) 1 (by kernel_rfl))<|sv (lT.ap bl4)<|rx 4 .normal (aV v t8 t9 v2 l4 (ca (t10+1)) r3.2.1 r3.2.2) rfl (dv (aI (aI trivial (aI (bk (Tu v)) (aI (bh rfl) trivial))) (aI (up (am ba l4)) (aI (up (am ba t8)) (aI trivial (aI trivial trivial)))))) (aI (aI (aI trivial (aI (bh rfl) (aI (bk (lS au v2)) (aI (bh rfl) trivial)))) trivial) (aI (aI (aI trivial (aI (bh rfl) trivial)) (aI (aI trivial trivial) trivial)) (aI (aI (up (am bO r3.2.1)) trivial) (aI (aI (up (am au r3.2.2)) trivial) trivial))))
  exact d4 (A:=NZ) mixed z<|by kernel_rfl
 ·obtain rfl:=lf h
  have z:=sg 0 c1<|eF (.exit 0) (bV v2 (out,m,m2))
  exact iI NZ (by intro hx;cases hx) z<|by kernel_rfl
theorem fA{x:(waG×waA×(List ac))}(h:dj v t8 t9 v2 out t10 m m2=some x):aQ Pg GE 4 (.loop (cA Oa 119)) (EX (.exit 0) (bV v2 x)) (aV v t8 t9 v2 out t10 m m2):=
 aQ.loop (S:=fun(zz:waG×Int×waA×(List ac))=>aV v t8 t9 v2 zz.1 zz.2.1 zz.2.2.1 zz.2.2.2) (ex:=(fun _=>.exit 0)) (s:=(out,t10,m,m2)) h fun zz y hy=>fp v t8 t9 v2 zz.1 zz.2.1 zz.2.2.1 zz.2.2.2 hy
end
def dJ(a:waG)(c:Bool)(c2:(List ac))(k2:waA)(k3:(List ac)):Option (waG×waA×(List ac)):=
 (dj c a (a.length:Int) c2 ([]:List aw) 0 k2 k3).bind fun o5=>
 some (o5.1,o5.2.1,o5.2.2)
theorem f6{a:waG}{c:Bool}{c2:(List ac)}{k2:waA}{k3:(List ac)}{r:waG×waA×(List ac)}(h:dJ a c c2 k2 k3=some r):C Pg GE 107 [sl av a,.func (.func 108) [] [.eptr (cB c),.bptr 0 0]] [] [.cells [.func (.func 105) [] [.bptr 1 0,.eptr ((cL aa) c2),.bptr 3 0]] [],.cells [.func (.func 62) [] [.bptr 2 0],.func (.func 61) [] []] [],.cells [sl cS k2] [(0,9)],.cells [sl aa k3] [(0,137)]] (sl av r.1) [(0,85)] [.cells [.func (.func 105) [] [.bptr 1 0,.eptr ((cL aa) c2),.bptr 3 0]] [],.cells [.func (.func 62) [] [.bptr 2 0],.func (.func 61) [] []] [],.cells [sl cS r.2.1] [(0,9)],.cells [sl aa r.2.2] [(0,137)]]:=by
 obtain⟨o5,bo5,h⟩:=aG h
 obtain rfl:=lf h
 have z:=bU (lT.ln a)<|cY (fA c a (a.length:Int) c2 ([]:List aw) 0 k2 k3 bo5)<|en (aI (rP (sl av o5.1))<|aI (up (n:=4) (am ba o5.1))<|aI (rL [.cells [.func (.func 105) [] [.bptr 1 0,.eptr ((cL aa) c2),.bptr 3 0]] [],.cells [.func (.func 62) [] [.bptr 2 0],.func (.func 61) [] []] [],.cells [sl cS o5.2.1] [(0,9)],.cells [sl aa o5.2.2] [(0,137)]])<|(aI (aI (aI trivial (aI (bh (i:=1) (n:=4) rfl) (aI (bk (n:=4) (lS au c2)) (aI (bh (i:=3) (n:=4) rfl) trivial)))) trivial) (aI (aI (aI trivial (aI (bh (i:=2) (n:=4) rfl) trivial)) (aI (aI trivial trivial) trivial)) (aI (aI (up (n:=4) (am bO o5.2.1)) trivial) (aI (aI (up (n:=4) (am au o5.2.2)) trivial) trivial)))))
 exact C.evGp (A:=NZ) mixed (m:=4) (c:=Oa) rfl call107 func107 rfl z<|by kernel_rfl
noncomputable def Oc:Code:=f110.body.getD .skip
def N2:List Nat:=[24,28]
section
variable(t1:(List ac))(v:aF)(t13:waA)(t14:Int)(m2:waH)(m3:waG)(m4:waD)(m5:waC)(v2:(List ac))(v3:waA)(t15:Int)(m:waA)
def bX:aA:=bg 44 [(1,.eptr ((cL aa) t1)),(2,.bptr 0 0),(3,.eptr (ay v)),(4,.bptr 3 0),(5,sl aa v2),(6,sl cS v3),(13,sl cS t13),(14,.int .i64 t14),(15,.int .i64 t15)] [.cells [.func (.func 62) [] [.bptr 1 0],.func (.func 61) [] []] [],.cells [sl cS m] [(0,9)],.dead,.cells [.str ([]:ae),sl cS ([]:List ae),.int .i64 0,.str ([]:ae),.int .i64 0,sl af m2,sl av m3,sl ay m4,sl ai m5] [(1,9),(5,28),(6,85),(7,89),(8,60)]] [((6,0),9),((5,0),137)]
def dS(o:(List ac)×waA×waA):aA:=bg 44 [(2,.bptr 0 0),(3,.eptr (ay v)),(4,.bptr 3 0),(5,sl aa o.1),(6,sl cS o.2.1)] [.cells [.func (.func 62) [] [.bptr 1 0],.func (.func 61) [] []] [],.cells [sl cS o.2.2] [(0,9)],.dead,.cells [.str ([]:ae),sl cS ([]:List ae),.int .i64 0,.str ([]:ae),.int .i64 0,sl af m2,sl av m3,sl ay m4,sl ai m5] [(1,9),(5,28),(6,85),(7,89),(8,60)]] [((6,0),9),((5,0),137)]
def fP:Option (((List ac)×waA×Int×waA)⊕(((List ac)×waA×waA))):=
 if(decide (t15<t14))=true then
  (fJ t13 t15).bind fun x3=>
  (rI x3 t1 m).bind fun r4=>
  (app v3 ([r4.1]:List ae)).bind fun l5=>
  (app v2 ([(⟨x3,r4.1⟩:ac)]:List ac)).bind fun l6=>
  some (.inl (l6,l5,ca (t15+1),r4.2))
 else
  some (.inr (v2,v3,m))
def gy:Option (((List ac)×waA×waA)):=loop (fun(zz:(List ac)×waA×Int×waA)=>fP t1 t13 t14 zz.1 zz.2.1 zz.2.2.1 zz.2.2.2) (v2,v3,t15,m)
theorem kn{y:((List ac)×waA×Int×waA)⊕(((List ac)×waA×waA))}(h:fP t1 t13 t14 v2 v3 t15 m=some y):aQ Pg GE 2 (cA Oc 247) (LQ (fun(zz:(List ac)×waA×Int×waA)=>bX t1 v t13 t14 m2 m3 m4 m5 zz.1 zz.2.1 zz.2.2.1 zz.2.2.2) (fun _=>.exit 0) (dS v m2 m3 m4 m5) y) (bX t1 v t13 t14 m2 m3 m4 m5 v2 v3 t15 m):=by
 rcases aN h with⟨c2,h⟩|⟨c2,h⟩
 ·obtain⟨x3,bx3,h⟩:=aG h
  obtain⟨r4,br4,h⟩:=aG h
  obtain⟨l5,bl5,h⟩:=aG h
  obtain⟨l6,bl6,h⟩:=aG h
  obtain rfl:=lf h
  exact yz N2 (sg 0 c2<|sv (eu.ia (k:=.i64) bx3)<|sv (de GB (.str x3) [])<|ss<|sv (de Ge (sl aa t1) [])<|si (.cg ⟨[1],[.str x3,sl aa t1,.bptr 0 0],[],[.cells [sl cS m] [(0,9)]],[.cells [sl cS m] [(0,9)]],[.cells [sl cS r4.2] [(0,9)]],[.cells [sl cS r4.2] [(0,9)]],.str r4.1,.str r4.1,[]⟩) (tK br4)<|sf (aI (xR [1] (.str x3) trivial) (aI (xR [1] (sl aa t1) (am au t1)) (aI (xB [1] 0 1 0 rfl) trivial)))<|sf (aI (aI (rB (.cells [sl cS m] [(0,9)])) (aI (rW [(0,9)]) (aI (xR [1] (sl cS m) (am bO m)) trivial))) trivial)<|sf (aI (aI (rW [(0,9)]) (aI (xR [1] (sl cS r4.2) (am bO r4.2)) trivial)) trivial)<|sf (xR [1] (.str r4.1) trivial)<|sv (eu.mk' (v:=PVal.str) Mj ([r4.1]:List ae) 1 (by kernel_rfl))<|sv (eu.ap bl5)<|sv (kl x3 r4.1)<|sv (HV.mk' (v:=nT) oc ([(⟨x3,r4.1⟩:ac)]:List ac) 1 (by kernel_rfl))<|sv (HV.ap bl6)<|eF .normal (bX t1 v t13 t14 m2 m3 m4 m5 l6 l5 (ca (t15+1)) r4.2))<|by kernel_rfl
 ·obtain rfl:=lf h
  have z:=sg 0 c2<|eF (.exit 0) (dS v m2 m3 m4 m5 (v2,v3,m))
  exact iI N2 (by intro hx;cases hx) z<|by kernel_rfl
theorem kU{x:((List ac)×waA×waA)}(h:gy t1 t13 t14 v2 v3 t15 m=some x):aQ Pg GE 2 (.loop (cA Oc 247)) (EX (.exit 0) (dS v m2 m3 m4 m5 x)) (bX t1 v t13 t14 m2 m3 m4 m5 v2 v3 t15 m):=
 aQ.loop (S:=fun(zz:(List ac)×waA×Int×waA)=>bX t1 v t13 t14 m2 m3 m4 m5 zz.1 zz.2.1 zz.2.2.1 zz.2.2.2) (ex:=(fun _=>.exit 0)) (s:=(v2,v3,t15,m)) h fun zz y hy=>kn t1 v t13 t14 m2 m3 m4 m5 zz.1 zz.2.1 zz.2.2.1 zz.2.2.2 hy
end
def ic(R21:aX)(a:aF)(a2:(List ac))(k1:waA):Option (aF×waA):=
 (rE a2).bind fun r1=>
 (gy a2 a.Names (a.Names.length:Int) r1 ([]:List ae) 0 k1).bind fun o7=>
 (R21 a.Body o7.1 o7.2.2).bind fun r8=>
 some ((⟨a.Con,o7.2.1,r8.1⟩:aF),r8.2)
theorem mn(R21:aX)(hR21:bD R21){a:aF}{a2:(List ac)}{k1:waA}{r:aF×waA}(h:ic R21 a a2 k1=some r):C Pg GE 110 [.agg (ay a),.eptr ((cL aa) a2),.bptr 0 0] [] [.cells [.func (.func 62) [] [.bptr 1 0],.func (.func 61) [] []] [],.cells [sl cS k1] [(0,9)]] (.agg (ay r.1)) [] [.cells [.func (.func 62) [] [.bptr 1 0],.func (.func 61) [] []] [],.cells [sl cS r.2] [(0,9)]]:=by
 obtain⟨r1,br1,h⟩:=aG h
 obtain⟨o7,bo7,h⟩:=aG h
 obtain⟨r8,br8,h⟩:=aG h
 obtain rfl:=lf h
 have z:=se (KF a)<|sx Gd<|sv (de Ge (sl aa a2) [])<|du (uy br1)<|sv (sL a)<|sv (sO a)<|bU (eu.ln a.Names)<|cY (kU a2 a a.Names (a.Names.length:Int) ([]:List ag) ([]:List aw) ([]:List aF) ([]:List ah) r1 ([]:List ae) 0 k1 bo7)<|UP (.dx [0,1,0,0,0,16,0,120,255,511] [] [] [11,293,337])<|sv (xa a)<|sv (zo a)<|sv (show be Pg 95 [.func (.func 62) [] [.bptr 1 0],.func (.func 61) [] []]=some (.agg [.func (.func 62) [] [.bptr 1 0],.func (.func 61) [] []]) by kernel_rfl)<|sv (xc a)<|sv (xg a)<|si (.cg ⟨[1],[.agg [.func (.func 62) [] [.bptr 0 0],.func (.func 61) [] []],.agg (af a.Body),sl aa o7.1],[],[.cells [sl cS o7.2.2] [(0,9)]],[.cells [sl cS o7.2.2] [(0,9)]],[.cells [sl cS r8.2] [(0,9)]],[.cells [sl cS r8.2] [(0,9)]],.agg (af r8.1),.agg (af r8.1),[(3,28),(4,85),(5,89),(6,60)]⟩) (hR21 _ _ _ _ br8)<|sf (aI (xA [1] [.func (.func 62) [] [.bptr 1 0],.func (.func 61) [] []] [.func (.func 62) [] [.bptr 0 0],.func (.func 61) [] []] (aI (xF [1] (.func 62) [] [.bptr 1 0] [] [.bptr 0 0] trivial (aI (xB [1] 0 1 0 rfl) trivial)) (aI (xR [1] (.func (.func 61) [] []) (aI trivial trivial)) trivial))) (aI (xR [1] (.agg (af a.Body)) (az a.Body)) (aI (xR [1] (sl aa o7.1) (am au o7.1)) trivial)))<|sf (aI (aI (rB (.cells [sl cS o7.2.2] [(0,9)])) (aI (rW [(0,9)]) (aI (xR [1] (sl cS o7.2.2) (am bO o7.2.2)) trivial))) trivial)<|sf (aI (aI (rW [(0,9)]) (aI (xR [1] (sl cS r8.2) (am bO r8.2)) trivial)) trivial)<|sf (xR [1] (.agg (af r8.1)) (az r8.1))<|sv (Bj a.Con o7.2.1 r8.1)<|sx (ji (⟨a.Con,o7.2.1,r8.1⟩:aF))<|en (aI (L7 (⟨a.Con,o7.2.1,r8.1⟩:aF))<|aI (UQ (n:=2) (bL (⟨a.Con,o7.2.1,r8.1⟩:aF)))<|aI (rL [.cells [.func (.func 62) [] [.bptr 1 0],.func (.func 61) [] []] [],.cells [sl cS r8.2] [(0,9)]])<|(aI (aI (aI trivial (aI (bh (i:=1) (n:=2) rfl) trivial)) (aI (aI trivial trivial) trivial)) (aI (aI (up (n:=2) (am bO r8.2)) trivial) trivial)))
 exact C.evGp (A:=N2) mixed (m:=2) (c:=Oc) rfl call110 func110 rfl z<|by kernel_rfl
noncomputable def Ob:Code:=f109.body.getD .skip
def N1:List Nat:=[14,21]
section
variable(R21:aX)(v:(List ac))(t8:waD)(t9:Int)(out:waD)(t10:Int)(m:waA)
def bI:aA:=bg 22 [(1,.func (.func 110) [] [.eptr ((cL aa) v),.bptr 0 0]),(5,sl ay out),(8,sl ay t8),(9,.int .i64 t9),(10,.int .i64 t10)] [.cells [.func (.func 62) [] [.bptr 1 0],.func (.func 61) [] []] [],.cells [sl cS m] [(0,9)]] [((5,0),89)]
def cZ(o:waD×waA):aA:=bg 22 [(5,sl ay o.1)] [.cells [.func (.func 62) [] [.bptr 1 0],.func (.func 61) [] []] [],.cells [sl cS o.2] [(0,9)]] [((5,0),89)]
def eV:Option ((waD×Int×waA)⊕((waD×waA))):=
 if(decide (t10<t9))=true then
  (fJ t8 t10).bind fun x2=>
  (ic R21 x2 v m).bind fun r3=>
  (app out ([r3.1]:List aF)).bind fun l4=>
  some (.inl (l4,ca (t10+1),r3.2))
 else
  some (.inr (out,m))
def fe:Option ((waD×waA)):=loop (fun(zz:waD×Int×waA)=>eV R21 v t8 t9 zz.1 zz.2.1 zz.2.2) (out,t10,m)
theorem jq(hR21:bD R21){y:(waD×Int×waA)⊕((waD×waA))}(h:eV R21 v t8 t9 out t10 m=some y):aQ Pg GE 2 (cA Ob 119) (LQ (fun(zz:waD×Int×waA)=>bI v t8 t9 zz.1 zz.2.1 zz.2.2) (fun _=>.exit 0) cZ y) (bI v t8 t9 out t10 m):=by
 rcases aN h with⟨c1,h⟩|⟨c1,h⟩
 ·obtain⟨x2,bx2,h⟩:=aG h
  obtain⟨r3,br3,h⟩:=aG h
  obtain⟨l4,bl4,h⟩:=aG h
  obtain rfl:=lf h
  have z:=sg 0 c1<|sv (fo.ia (k:=.i64) bx2)<|sv (mF x2)<|sx Gd<|sx (ji x2)<|sv (LG x2 [])<|si (.cg ⟨[0,1],[.agg (ay x2),.eptr ((cL aa) v),.bptr 0 0],[],[.cells [.func (.func 62) [] [.bptr 1 0],.func (.func 61) [] []] [],.cells [sl cS m] [(0,9)]],[.cells [.func (.func 62) [] [.bptr 1 0],.func (.func 61) [] []] [],.cells [sl cS m] [(0,9)]],[.cells [.func (.func 62) [] [.bptr 1 0],.func (.func 61) [] []] [],.cells [sl cS r3.2] [(0,9)]],[.cells [.func (.func 62) [] [.bptr 1 0],.func (.func 61) [] []] [],.cells [sl cS r3.2] [(0,9)]],.agg (ay r3.1),.agg (ay r3.1),[]⟩) (mn R21 hR21 br3)<|sf (aI (xR [0,1] (.agg (ay x2)) (bL x2)) (aI (xR [0,1] (.eptr ((cL aa) v)) (lS au v)) (aI (xB [0,1] 0 0 0 rfl) trivial)))<|sf (aI (aI (rB (.cells [.func (.func 62) [] [.bptr 1 0],.func (.func 61) [] []] [])) (aI (rW []) (aI (xF [0,1] (.func 62) [] [.bptr 1 0] [] [.bptr 1 0] trivial (aI (xB [0,1] 1 1 0 rfl) trivial)) (aI (xR [0,1] (.func (.func 61) [] []) (aI trivial trivial)) trivial)))) (aI (aI (rB (.cells [sl cS m] [(0,9)])) (aI (rW [(0,9)]) (aI (xR [0,1] (sl cS m) (am bO m)) trivial))) trivial))<|sf (aI (aI (rW []) (aI (xF [0,1] (.func 62) [] [.bptr 1 0] [] [.bptr 1 0] trivial (aI (xB [0,1] 1 1 0 rfl) trivial)) (aI (xR [0,1] (.func (.func 61) [] []) (aI trivial trivial)) trivial))) (aI (aI (rW [(0,9)]) (aI (xR [0,1] (sl cS r3.2) (am bO r3.2)) trivial)) trivial))<|sf (xR [0,1] (.agg (ay r3.1)) (bL r3.1))<|sv (fo.mk' (v:=Ni) LR ([r3.1]:List aF) 1 (by kernel_rfl))<|sv (fo.ap bl4)<|rx 2 .normal (bI v t8 t9 l4 (ca (t10+1)) r3.2) rfl (dv (aI (aI trivial (aI (bk (lS au v)) (aI (bh rfl) trivial))) (aI (up (am bL l4)) (aI (up (am bL t8)) (aI trivial (aI trivial trivial)))))) (aI (aI (aI trivial (aI (bh rfl) trivial)) (aI (aI trivial trivial) trivial)) (aI (aI (up (am bO r3.2)) trivial) trivial))
  exact d4 (A:=N1) mixed z<|by kernel_rfl
 ·obtain rfl:=lf h
  have z:=sg 0 c1<|eF (.exit 0) (cZ (out,m))
  exact iI N1 (by intro hx;cases hx) z<|by kernel_rfl
theorem jB(hR21:bD R21){x:(waD×waA)}(h:fe R21 v t8 t9 out t10 m=some x):aQ Pg GE 2 (.loop (cA Ob 119)) (EX (.exit 0) (cZ x)) (bI v t8 t9 out t10 m):=
 aQ.loop (S:=fun(zz:waD×Int×waA)=>bI v t8 t9 zz.1 zz.2.1 zz.2.2) (ex:=(fun _=>.exit 0)) (s:=(out,t10,m)) h fun zz y hy=>jq R21 v t8 t9 zz.1 zz.2.1 zz.2.2 hR21 hy
end
def fN(R21:aX)(a:waD)(c:(List ac))(k1:waA):Option (waD×waA):=
 (fe R21 c a (a.length:Int) ([]:List aF) 0 k1).bind fun o5=>
 some (o5.1,o5.2)
theorem kc(R21:aX)(hR21:bD R21){a:waD}{c:(List ac)}{k1:waA}{r:waD×waA}(h:fN R21 a c k1=some r):C Pg GE 109 [sl ay a,.func (.func 110) [] [.eptr ((cL aa) c),.bptr 0 0]] [] [.cells [.func (.func 62) [] [.bptr 1 0],.func (.func 61) [] []] [],.cells [sl cS k1] [(0,9)]] (sl ay r.1) [(0,89)] [.cells [.func (.func 62) [] [.bptr 1 0],.func (.func 61) [] []] [],.cells [sl cS r.2] [(0,9)]]:=by
 obtain⟨o5,bo5,h⟩:=aG h
 obtain rfl:=lf h
 have z:=bU (fo.ln a)<|cY (jB R21 c a (a.length:Int) ([]:List aF) 0 k1 hR21 bo5)<|en (aI (rP (sl ay o5.1))<|aI (up (n:=2) (am bL o5.1))<|aI (rL [.cells [.func (.func 62) [] [.bptr 1 0],.func (.func 61) [] []] [],.cells [sl cS o5.2] [(0,9)]])<|(aI (aI (aI trivial (aI (bh (i:=1) (n:=2) rfl) trivial)) (aI (aI trivial trivial) trivial)) (aI (aI (up (n:=2) (am bO o5.2)) trivial) trivial)))
 exact C.evGp (A:=N1) mixed (m:=2) (c:=Ob) rfl call109 func109 rfl z<|by kernel_rfl
noncomputable def Q0:Code:=f56.body.getD .skip
def I3:List Nat:=[33,63,73,80,88]
section
variable(scope:(List ac))(m:waA)(m2:Int)(m3:ae)(m4:Int)(m5:waH)(m6:waG)(m7:waD)(m8:waC)(m9:waH)(m10:waG)(m11:waD)(m12:waC)(m13:(List ac))
def mo:aA:=bg 96 [(3,.bptr 1 0),(4,.bptr 2 0),(5,.eptr ((cL aa) scope)),(6,.bptr 4 0),(7,.bptr 5 0),(8,.bptr 6 0)] [.cells [sl cS m] [(0,9)],.cells [.func (.func 62) [] [.bptr 0 0],.func (.func 61) [] []] [],.cells [.int .i64 m2,.str m3,.int .i64 m4,sl af m5,sl av m6,sl ay m7,sl ai m8] [(6,60)],.dead,.cells [.int .i64 0,.str ([]:ae),.int .i64 0,sl af m9,sl av m10,sl ay m11,sl ai m12] [(3,28),(4,85),(5,89),(6,60)],.cells [sl aa m13] [(0,137)],.cells [.func (.func 105) [] [.bptr 1 0,.eptr ((cL aa) scope),.bptr 5 0]] []] []
def cf(o:waA×ae×(List ac)):aA:=bg 96 [(3,.bptr 1 0),(4,.bptr 2 0),(5,.eptr ((cL aa) scope)),(6,.bptr 4 0),(7,.bptr 5 0),(8,.bptr 6 0)] [.cells [sl cS o.1] [(0,9)],.cells [.func (.func 62) [] [.bptr 0 0],.func (.func 61) [] []] [],.cells [.int .i64 m2,.str o.2.1,.int .i64 m4,sl af m5,sl av m6,sl ay m7,sl ai m8] [(6,60)],.dead,.cells [.int .i64 0,.str ([]:ae),.int .i64 0,sl af m9,sl av m10,sl ay m11,sl ai m12] [(3,28),(4,85),(5,89),(6,60)],.cells [sl aa o.2.2] [(0,137)],.cells [.func (.func 105) [] [.bptr 1 0,.eptr ((cL aa) scope),.bptr 5 0]] []] []
def g5:Option ((waA×ae×(List ac))):=
 (lc (⟨m2,m3,m4,m5,m6,m7,m8⟩:ag)).bind fun r3=>
 if r3=true then
  (uX scope m3).bind fun r6=>
  if r6.2=true then
   some (m,r6.1,m13)
  else
   (FB m3).bind fun r9=>
   some (m,r9,m13)
 else
  if(m2==7)=true then
   (eE m3 scope m m13).bind fun r12=>
   some (r12.2.1,r12.1,r12.2.2)
  else
   some (m,m3,m13)
theorem lU{x:(waA×ae×(List ac))}(h:g5 scope m m2 m3 m4 m5 m6 m7 m8 m13=some x):aQ Pg GE 1 (cA Q0 62) (EX .normal (cf scope m2 m4 m5 m6 m7 m8 m9 m10 m11 m12 x)) (mo scope m m2 m3 m4 m5 m6 m7 m8 m9 m10 m11 m12 m13):=by
 obtain⟨r3,br3,h⟩:=aG h
 have p5:=fun{sc F} (r:PS sc F)=>sv (b8 (⟨m2,m3,m4,m5,m6,m7,m8⟩:ag) [])<|du (kp br3)<|r
 rcases aN h with⟨c4,h⟩|⟨c4,h⟩
 ·obtain⟨r6,br6,h⟩:=aG h
  have p8:=fun{sc F} (r:PS sc F)=>p5<|sg 0 c4<|sv (de Ge (sl aa scope) [])<|ss<|du (zW br6)<|r
  rcases aN h with⟨c7,h⟩|⟨c7,h⟩
  ·obtain rfl:=lf h
   exact bA I3 (p8<|sg 0 c7<|ss<|eF .normal (cf scope m2 m4 m5 m6 m7 m8 m9 m10 m11 m12 (m,r6.1,m13)))<|by kernel_rfl
  ·obtain⟨r9,br9,h⟩:=aG h
   obtain rfl:=lf h
   exact bA I3 (p8<|sg 0 c7<|ss<|ss<|du (H5 br9)<|ss<|eF .normal (cf scope m2 m4 m5 m6 m7 m8 m9 m10 m11 m12 (m,r9,m13)))<|by kernel_rfl
 ·have p11:=fun{sc F} (r:PS sc F)=>p5<|sg 0 c4<|ss<|r
  rcases aN h with⟨c10,h⟩|⟨c10,h⟩
  ·obtain⟨r12,br12,h⟩:=aG h
   obtain rfl:=lf h
   exact bA I3 (p11<|sg 0 c10<|ss<|ss<|si (.cg ⟨[1,0,5],[.str m3,.bptr 0 0,.eptr ((cL aa) scope),.bptr 2 0],[],[.cells [.func (.func 62) [] [.bptr 0 0],.func (.func 61) [] []] [],.cells [sl cS m] [(0,9)],.cells [sl aa m13] [(0,137)]],[.cells [.func (.func 62) [] [.bptr 1 0],.func (.func 61) [] []] [],.cells [sl cS m] [(0,9)],.cells [sl aa m13] [(0,137)]],[.cells [.func (.func 62) [] [.bptr 0 0],.func (.func 61) [] []] [],.cells [sl cS r12.2.1] [(0,9)],.cells [sl aa r12.2.2] [(0,137)]],[.cells [.func (.func 62) [] [.bptr 1 0],.func (.func 61) [] []] [],.cells [sl cS r12.2.1] [(0,9)],.cells [sl aa r12.2.2] [(0,137)]],.str r12.1,.str r12.1,[]⟩) (gv br12)<|sf (aI (xR [1,0,5] (.str m3) trivial) (aI (xB [1,0,5] 0 1 0 rfl) (aI (xR [1,0,5] (.eptr ((cL aa) scope)) (lS au scope)) (aI (xB [1,0,5] 2 5 0 rfl) trivial))))<|sf (aI (aI (rB (.cells [.func (.func 62) [] [.bptr 0 0],.func (.func 61) [] []] [])) (aI (rW []) (aI (xF [1,0,5] (.func 62) [] [.bptr 0 0] [] [.bptr 1 0] trivial (aI (xB [1,0,5] 1 0 0 rfl) trivial)) (aI (xR [1,0,5] (.func (.func 61) [] []) (aI trivial trivial)) trivial)))) (aI (aI (rB (.cells [sl cS m] [(0,9)])) (aI (rW [(0,9)]) (aI (xR [1,0,5] (sl cS m) (am bO m)) trivial))) (aI (aI (rB (.cells [sl aa m13] [(0,137)])) (aI (rW [(0,137)]) (aI (xR [1,0,5] (sl aa m13) (am au m13)) trivial))) trivial)))<|sf (aI (aI (rW []) (aI (xF [1,0,5] (.func 62) [] [.bptr 0 0] [] [.bptr 1 0] trivial (aI (xB [1,0,5] 1 0 0 rfl) trivial)) (aI (xR [1,0,5] (.func (.func 61) [] []) (aI trivial trivial)) trivial))) (aI (aI (rW [(0,9)]) (aI (xR [1,0,5] (sl cS r12.2.1) (am bO r12.2.1)) trivial)) (aI (aI (rW [(0,137)]) (aI (xR [1,0,5] (sl aa r12.2.2) (am au r12.2.2)) trivial)) trivial)))<|sf (xR [1,0,5] (.str r12.1) trivial)<|ss<|eF .normal (cf scope m2 m4 m5 m6 m7 m8 m9 m10 m11 m12 (r12.2.1,r12.1,r12.2.2)))<|by kernel_rfl
  ·obtain rfl:=lf h
   exact bA I3 (p11<|sg 0 c10<|eF .normal (cf scope m2 m4 m5 m6 m7 m8 m9 m10 m11 m12 (m,m3,m13)))<|by kernel_rfl
end
section
variable(scope:(List ac))(kids:waH)(i:Int)(t59:waH)(t60:Int)(m:waA)(m2:Int)(m3:ae)(m4:Int)(m5:waG)(m6:waD)(m7:waC)(m8:waH)(m9:waG)(m10:waD)(m11:waC)(m12:(List ac))(m13:Int)(m14:ae)(m15:Int)(m16:waH)(m17:waG)(m18:waD)(m19:waC)
def mq:aA:=bg 96 [(3,.bptr 1 0),(4,.bptr 2 0),(5,.eptr ((cL aa) scope)),(6,.bptr 4 0),(7,.bptr 5 0),(12,sl af kids),(13,.int .i64 i),(14,.bptr 8 0),(59,sl af t59),(60,.int .i64 t60),(61,.int .i64 i)] [.cells [sl cS m] [(0,9)],.cells [.func (.func 62) [] [.bptr 0 0],.func (.func 61) [] []] [],.cells [.int .i64 m2,.str m3,.int .i64 m4,sl af t59,sl av m5,sl ay m6,sl ai m7] [(4,85),(6,60)],.dead,.cells [.int .i64 0,.str ([]:ae),.int .i64 0,sl af m8,sl av m9,sl ay m10,sl ai m11] [(3,28),(4,85),(5,89),(6,60)],.cells [sl aa m12] [(0,137)],.cells [.func (.func 105) [] [.bptr 1 0,.eptr ((cL aa) scope),.bptr 5 0]] [],.dead,.cells [.int .i64 m13,.str m14,.int .i64 m15,sl af m16,sl av m17,sl ay m18,sl ai m19] []] [((12,0),28)]
def ee(o:Bool):aA:=bg 96 [(3,.bptr 1 0),(4,.bptr 2 0),(5,.eptr ((cL aa) scope)),(6,.bptr 4 0),(7,.bptr 5 0),(12,sl af kids),(14,.bptr 8 0),(59,sl af t59),(60,.int .i64 t60),(61,.int .i64 i),(72,.bool o)] [.cells [sl cS m] [(0,9)],.cells [.func (.func 62) [] [.bptr 0 0],.func (.func 61) [] []] [],.cells [.int .i64 m2,.str m3,.int .i64 m4,sl af t59,sl av m5,sl ay m6,sl ai m7] [(4,85),(6,60)],.dead,.cells [.int .i64 0,.str ([]:ae),.int .i64 0,sl af m8,sl av m9,sl ay m10,sl ai m11] [(3,28),(4,85),(5,89),(6,60)],.cells [sl aa m12] [(0,137)],.cells [.func (.func 105) [] [.bptr 1 0,.eptr ((cL aa) scope),.bptr 5 0]] [],.dead,.cells [.int .i64 m13,.str m14,.int .i64 m15,sl af m16,sl av m17,sl ay m18,sl ai m19] []] [((12,0),28)]
def g6:Option Bool:=
 if(m2==7)=true then
  some (i==0)
 else
  some false
theorem lV{x:Bool}(h:g6 i m2=some x):aQ Pg GE 1 (cA Q0 523766) (EX .normal (ee scope kids i t59 t60 m m2 m3 m4 m5 m6 m7 m8 m9 m10 m11 m12 m13 m14 m15 m16 m17 m18 m19 x)) (mq scope kids i t59 t60 m m2 m3 m4 m5 m6 m7 m8 m9 m10 m11 m12 m13 m14 m15 m16 m17 m18 m19):=by
 rcases aN h with⟨c17,h⟩|⟨c17,h⟩
 ·obtain rfl:=lf h
  exact bA I3 (ss<|sg 4 c17<|eF .normal (ee scope kids i t59 t60 m m2 m3 m4 m5 m6 m7 m8 m9 m10 m11 m12 m13 m14 m15 m16 m17 m18 m19 (i==0)))<|by kernel_rfl
 ·obtain rfl:=lf h
  exact bA I3 (ss<|sg 4 c17<|eF .normal (ee scope kids i t59 t60 m m2 m3 m4 m5 m6 m7 m8 m9 m10 m11 m12 m13 m14 m15 m16 m17 m18 m19 false))<|by kernel_rfl
end
section
variable(R21:aX)(scope:(List ac))(t59:waH)(t60:Int)(m2:Int)(m3:ae)(m4:Int)(m5:waG)(m6:waD)(m7:waC)(m8:waH)(m9:waG)(m10:waD)(m11:waC)(m12:(List ac))(kids:waH)(t61:Int)(m:waA)
def bK:aA:=bg 96 [(3,.bptr 1 0),(4,.bptr 2 0),(5,.eptr ((cL aa) scope)),(6,.bptr 4 0),(7,.bptr 5 0),(12,sl af kids),(59,sl af t59),(60,.int .i64 t60),(61,.int .i64 t61)] [.cells [sl cS m] [(0,9)],.cells [.func (.func 62) [] [.bptr 0 0],.func (.func 61) [] []] [],.cells [.int .i64 m2,.str m3,.int .i64 m4,sl af t59,sl av m5,sl ay m6,sl ai m7] [(4,85),(6,60)],.dead,.cells [.int .i64 0,.str ([]:ae),.int .i64 0,sl af m8,sl av m9,sl ay m10,sl ai m11] [(3,28),(4,85),(5,89),(6,60)],.cells [sl aa m12] [(0,137)],.cells [.func (.func 105) [] [.bptr 1 0,.eptr ((cL aa) scope),.bptr 5 0]] [],.dead] [((12,0),28)]
def ef(o:waH×waA):aA:=bg 96 [(3,.bptr 1 0),(4,.bptr 2 0),(5,.eptr ((cL aa) scope)),(6,.bptr 4 0),(12,sl af o.1)] [.cells [sl cS o.2] [(0,9)],.cells [.func (.func 62) [] [.bptr 0 0],.func (.func 61) [] []] [],.cells [.int .i64 m2,.str m3,.int .i64 m4,sl af t59,sl av m5,sl ay m6,sl ai m7] [(4,85),(6,60)],.dead,.cells [.int .i64 0,.str ([]:ae),.int .i64 0,sl af m8,sl av m9,sl ay m10,sl ai m11] [(3,28),(4,85),(5,89),(6,60)],.cells [sl aa m12] [(0,137)],.cells [.func (.func 105) [] [.bptr 1 0,.eptr ((cL aa) scope),.bptr 5 0]] [],.dead] [((12,0),28)]
def gz:Option ((waH×Int×waA)⊕((waH×waA))):=
 if(decide (t61<t60))=true then
  (fJ t59 t61).bind fun x16=>
  (g6 t61 m2).bind fun o18=>
  if o18=true then
   (R21 x16 scope m).bind fun r21=>
   (app kids ([r21.1]:List ag)).bind fun l22=>
   some (.inl (l22,ca (t61+1),r21.2))
  else
   (R21 x16 m12 m).bind fun r23=>
   (app kids ([r23.1]:List ag)).bind fun l24=>
   some (.inl (l24,ca (t61+1),r23.2))
 else
  some (.inr (kids,m))
def g7:Option ((waH×waA)):=loop (fun(zz:waH×Int×waA)=>gz R21 scope t59 t60 m2 m12 zz.1 zz.2.1 zz.2.2) (kids,t61,m)
theorem lE(hR21:bD R21){y:(waH×Int×waA)⊕((waH×waA))}(h:gz R21 scope t59 t60 m2 m12 kids t61 m=some y):aQ Pg GE 1 (cA Q0 8183) (LQ (fun(zz:waH×Int×waA)=>bK scope t59 t60 m2 m3 m4 m5 m6 m7 m8 m9 m10 m11 m12 zz.1 zz.2.1 zz.2.2) (fun _=>.exit 1) (ef scope t59 m2 m3 m4 m5 m6 m7 m8 m9 m10 m11 m12) y) (bK scope t59 t60 m2 m3 m4 m5 m6 m7 m8 m9 m10 m11 m12 kids t61 m):=by
 rcases aN h with⟨c15,h⟩|⟨c15,h⟩
 ·obtain⟨x16,bx16,h⟩:=aG h
  obtain⟨o18,bo18,h⟩:=aG h
  have p20:=fun{sc F} (r:PS sc F)=>sg 0 c15<|sv (iJ.ia (k:=.i64) bx16)<|sv (cu x16)<|sx yx<|sx (ly x16)<|qk 0<|cY (lV scope kids t61 t59 t60 m m2 m3 m4 m5 m6 m7 m8 m9 m10 m11 m12 x16.Op x16.Name x16.N x16.Kids x16.Params x16.Alts x16.Types bo18)<|r
  rcases aN h with⟨c19,h⟩|⟨c19,h⟩
  ·obtain⟨r21,br21,h⟩:=aG h
   obtain⟨l22,bl22,h⟩:=aG h
   obtain rfl:=lf h
   have z:=p20<|sg 0 c19<|sv (show be Pg 95 [.func (.func 62) [] [.bptr 0 0],.func (.func 61) [] []]=some (.agg [.func (.func 62) [] [.bptr 0 0],.func (.func 61) [] []]) by kernel_rfl)<|sv (b8 x16 [])<|sv (de Ge (sl aa scope) [])<|si (.cg ⟨[0],[.agg [.func (.func 62) [] [.bptr 0 0],.func (.func 61) [] []],.agg (af x16),sl aa scope],[],[.cells [sl cS m] [(0,9)]],[.cells [sl cS m] [(0,9)]],[.cells [sl cS r21.2] [(0,9)]],[.cells [sl cS r21.2] [(0,9)]],.agg (af r21.1),.agg (af r21.1),[(3,28),(4,85),(5,89),(6,60)]⟩) (hR21 _ _ _ _ br21)<|sf (aI (xA [0] [.func (.func 62) [] [.bptr 0 0],.func (.func 61) [] []] [.func (.func 62) [] [.bptr 0 0],.func (.func 61) [] []] (aI (xF [0] (.func 62) [] [.bptr 0 0] [] [.bptr 0 0] trivial (aI (xB [0] 0 0 0 rfl) trivial)) (aI (xR [0] (.func (.func 61) [] []) (aI trivial trivial)) trivial))) (aI (xR [0] (.agg (af x16)) (az x16)) (aI (xR [0] (sl aa scope) (am au scope)) trivial)))<|sf (aI (aI (rB (.cells [sl cS m] [(0,9)])) (aI (rW [(0,9)]) (aI (xR [0] (sl cS m) (am bO m)) trivial))) trivial)<|sf (aI (aI (rW [(0,9)]) (aI (xR [0] (sl cS r21.2) (am bO r21.2)) trivial)) trivial)<|sf (xR [0] (.agg (af r21.1)) (az r21.1))<|sv (iJ.mk' (v:=qX) mJ ([r21.1]:List ag) 1 (by kernel_rfl))<|sv (iJ.ap bl22)<|rx 1 .normal (bK scope t59 t60 m2 m3 m4 m5 m6 m7 m8 m9 m10 m11 m12 l22 (ca (t61+1)) r21.2) rfl (dv (aI (bh rfl) (aI (bh rfl) (aI (bk (lS au scope)) (aI (bh rfl) (aI (bh rfl) (aI (up (am az l22)) (aI (up (am az t59)) (aI trivial (aI trivial trivial)))))))))) (aI (aI (up (am bO r21.2)) trivial) (aI (aI (aI trivial (aI (bh rfl) trivial)) (aI (aI trivial trivial) trivial)) (aI (aI trivial (aI trivial (aI trivial (aI (up (am az t59)) (aI (up (am ba m5)) (aI (up (am bL m6)) (aI (up (am aE m7)) trivial))))))) (aI trivial (aI (aI trivial (aI trivial (aI trivial (aI (up (am az m8)) (aI (up (am ba m9)) (aI (up (am bL m10)) (aI (up (am aE m11)) trivial))))))) (aI (aI (up (am au m12)) trivial) (aI (aI (aI trivial (aI (bh rfl) (aI (bk (lS au scope)) (aI (bh rfl) trivial)))) trivial) (aI trivial trivial))))))))
   exact d4 (A:=I3) mixed z<|by kernel_rfl
  ·obtain⟨r23,br23,h⟩:=aG h
   obtain⟨l24,bl24,h⟩:=aG h
   obtain rfl:=lf h
   have z:=p20<|sg 0 c19<|sv (show be Pg 95 [.func (.func 62) [] [.bptr 0 0],.func (.func 61) [] []]=some (.agg [.func (.func 62) [] [.bptr 0 0],.func (.func 61) [] []]) by kernel_rfl)<|sv (b8 x16 [])<|ss<|si (.cg ⟨[0],[.agg [.func (.func 62) [] [.bptr 0 0],.func (.func 61) [] []],.agg (af x16),sl aa m12],[],[.cells [sl cS m] [(0,9)]],[.cells [sl cS m] [(0,9)]],[.cells [sl cS r23.2] [(0,9)]],[.cells [sl cS r23.2] [(0,9)]],.agg (af r23.1),.agg (af r23.1),[(3,28),(4,85),(5,89),(6,60)]⟩) (hR21 _ _ _ _ br23)<|sf (aI (xA [0] [.func (.func 62) [] [.bptr 0 0],.func (.func 61) [] []] [.func (.func 62) [] [.bptr 0 0],.func (.func 61) [] []] (aI (xF [0] (.func 62) [] [.bptr 0 0] [] [.bptr 0 0] trivial (aI (xB [0] 0 0 0 rfl) trivial)) (aI (xR [0] (.func (.func 61) [] []) (aI trivial trivial)) trivial))) (aI (xR [0] (.agg (af x16)) (az x16)) (aI (xR [0] (sl aa m12) (am au m12)) trivial)))<|sf (aI (aI (rB (.cells [sl cS m] [(0,9)])) (aI (rW [(0,9)]) (aI (xR [0] (sl cS m) (am bO m)) trivial))) trivial)<|sf (aI (aI (rW [(0,9)]) (aI (xR [0] (sl cS r23.2) (am bO r23.2)) trivial)) trivial)<|sf (xR [0] (.agg (af r23.1)) (az r23.1))<|sv (iJ.mk' (v:=qX) mJ ([r23.1]:List ag) 1 (by kernel_rfl))<|sv (iJ.ap bl24)<|rx 1 .normal (bK scope t59 t60 m2 m3 m4 m5 m6 m7 m8 m9 m10 m11 m12 l24 (ca (t61+1)) r23.2) rfl (dv (aI (bh rfl) (aI (bh rfl) (aI (bk (lS au scope)) (aI (bh rfl) (aI (bh rfl) (aI (up (am az l24)) (aI (up (am az t59)) (aI trivial (aI trivial trivial)))))))))) (aI (aI (up (am bO r23.2)) trivial) (aI (aI (aI trivial (aI (bh rfl) trivial)) (aI (aI trivial trivial) trivial)) (aI (aI trivial (aI trivial (aI trivial (aI (up (am az t59)) (aI (up (am ba m5)) (aI (up (am bL m6)) (aI (up (am aE m7)) trivial))))))) (aI trivial (aI (aI trivial (aI trivial (aI trivial (aI (up (am az m8)) (aI (up (am ba m9)) (aI (up (am bL m10)) (aI (up (am aE m11)) trivial))))))) (aI (aI (up (am au m12)) trivial) (aI (aI (aI trivial (aI (bh rfl) (aI (bk (lS au scope)) (aI (bh rfl) trivial)))) trivial) (aI trivial trivial))))))))
   exact d4 (A:=I3) mixed z<|by kernel_rfl
 ·obtain rfl:=lf h
  have z:=sg 0 c15<|eF (.exit 1) (ef scope t59 m2 m3 m4 m5 m6 m7 m8 m9 m10 m11 m12 (kids,m))
  exact iI I3 (by intro hx;cases hx) z<|by kernel_rfl
theorem lW(hR21:bD R21){x:(waH×waA)}(h:g7 R21 scope t59 t60 m2 m12 kids t61 m=some x):aQ Pg GE 1 (.loop (cA Q0 8183)) (EX (.exit 1) (ef scope t59 m2 m3 m4 m5 m6 m7 m8 m9 m10 m11 m12 x)) (bK scope t59 t60 m2 m3 m4 m5 m6 m7 m8 m9 m10 m11 m12 kids t61 m):=
 aQ.loop (S:=fun(zz:waH×Int×waA)=>bK scope t59 t60 m2 m3 m4 m5 m6 m7 m8 m9 m10 m11 m12 zz.1 zz.2.1 zz.2.2) (ex:=(fun _=>.exit 1)) (s:=(kids,t61,m)) h fun zz y hy=>lE R21 scope t59 t60 m2 m3 m4 m5 m6 m7 m8 m9 m10 m11 m12 zz.1 zz.2.1 zz.2.2 hR21 hy
end
def ie(R21:aX)(e:ag)(scope:(List ac))(k0:waA):Option (ag×waA):=
 (dR e.Types).bind fun r1=>
 (rE scope).bind fun r2=>
 (g5 scope k0 e.Op e.Name e.N e.Kids e.Params e.Alts r1 r2).bind fun o13=>
 (dJ e.Params (e.Op==6) scope o13.1 o13.2.2).bind fun r14=>
 (g7 R21 scope e.Kids (e.Kids.length:Int) e.Op r14.2.2 ([]:List ag) 0 r14.2.1).bind fun o25=>
 (fN R21 e.Alts scope o25.2).bind fun r26=>
 some ((⟨e.Op,o13.2.1,e.N,o25.1,r14.1,r26.1,r1⟩:ag),r26.2)
theorem mM(R21:aX)(hR21:bD R21){e:ag}{scope:(List ac)}{k0:waA}{r:ag×waA}(h:ie R21 e scope k0=some r):C Pg GE 56 [.agg [.func (.func 62) [] [.bptr 0 0],.func (.func 61) [] []],.agg (af e),sl aa scope] [] [.cells [sl cS k0] [(0,9)]] (.agg (af r.1)) [(3,28),(4,85),(5,89),(6,60)] [.cells [sl cS r.2] [(0,9)]]:=by
 obtain⟨r1,br1,h⟩:=aG h
 obtain⟨r2,br2,h⟩:=aG h
 obtain⟨o13,bo13,h⟩:=aG h
 obtain⟨r14,br14,h⟩:=aG h
 obtain⟨o25,bo25,h⟩:=aG h
 obtain⟨r26,br26,h⟩:=aG h
 obtain rfl:=lf h
 have z:=sx (UF [.func (.func 62) [] [.bptr 0 0],.func (.func 61) [] []])<|sx (ly e)<|se (Wl aa scope)<|sx yx<|ss<|du (gm br1)<|sv (de Ge (sl aa scope) [])<|du (uy br2)<|sx UK<|sx UJ<|ss<|qk 0<|cY (lU scope k0 e.Op e.Name e.N e.Kids e.Params e.Alts r1 ([]:List ag) ([]:List aw) ([]:List aF) ([]:List ah) r2 bo13)<|ss<|sx Wm<|ss<|V6 7 [[.bool (e.Op==6)]] [3,4,5,6,7,8,11] [] (VL (m:=1) (b:=7) rfl [.bool (e.Op==6)] rfl) (VM 7 (l:=[.bool (e.Op==6)]) (aI trivial trivial)) (VN (V1 [.bool (e.Op==6)]))<|sf (F9 7 (lS au scope))<|sf (HB 7 (p:=sl cS o13.1) (am bO o13.1))<|sf (HB 7 (p:=sl af e.Kids) (am az e.Kids))<|sf (HB 7 (p:=sl av e.Params) (am ba e.Params))<|sf (HB 7 (p:=sl ay e.Alts) (am bL e.Alts))<|sf (HB 7 (p:=sl ai r1) (am aE r1))<|sf (HB 7 (p:=sl af ([]:List ag)) (am az ([]:List ag)))<|sf (HB 7 (p:=sl av ([]:List aw)) (am ba ([]:List aw)))<|sf (HB 7 (p:=sl ay ([]:List aF)) (am bL ([]:List aF)))<|sf (HB 7 (p:=sl ai ([]:List ah)) (am aE ([]:List ah)))<|sf (HB 7 (p:=sl aa o13.2.2) (am au o13.2.2))<|sf (F9 7 (lS au scope))<|ss<|si (.cg ⟨[6,1,0,5],[sl av e.Params,.func (.func 108) [] [.eptr (cB (e.Op==6)),.bptr 0 0]],[],[.cells [.func (.func 105) [] [.bptr 1 0,.eptr ((cL aa) scope),.bptr 5 0]] [],.cells [.func (.func 62) [] [.bptr 0 0],.func (.func 61) [] []] [],.cells [sl cS o13.1] [(0,9)],.cells [sl aa o13.2.2] [(0,137)]],[.cells [.func (.func 105) [] [.bptr 1 0,.eptr ((cL aa) scope),.bptr 3 0]] [],.cells [.func (.func 62) [] [.bptr 2 0],.func (.func 61) [] []] [],.cells [sl cS o13.1] [(0,9)],.cells [sl aa o13.2.2] [(0,137)]],[.cells [.func (.func 105) [] [.bptr 1 0,.eptr ((cL aa) scope),.bptr 5 0]] [],.cells [.func (.func 62) [] [.bptr 0 0],.func (.func 61) [] []] [],.cells [sl cS r14.2.1] [(0,9)],.cells [sl aa r14.2.2] [(0,137)]],[.cells [.func (.func 105) [] [.bptr 1 0,.eptr ((cL aa) scope),.bptr 3 0]] [],.cells [.func (.func 62) [] [.bptr 2 0],.func (.func 61) [] []] [],.cells [sl cS r14.2.1] [(0,9)],.cells [sl aa r14.2.2] [(0,137)]],sl av r14.1,sl av r14.1,[(0,85)]⟩) (f6 br14)<|sf (aI (xR [6,1,0,5] (sl av e.Params) (am ba e.Params)) (aI (xF [6,1,0,5] (.func 108) [] [.eptr (cB (e.Op==6)),.bptr 6 0] [] [.eptr (cB (e.Op==6)),.bptr 0 0] trivial (aI (xR [6,1,0,5] (.eptr (cB (e.Op==6))) (Tu (e.Op==6))) (aI (xB [6,1,0,5] 0 6 0 rfl) trivial))) trivial))<|sf (aI (aI (rB (.cells [.func (.func 105) [] [.bptr 1 0,.eptr ((cL aa) scope),.bptr 5 0]] [])) (aI (rW []) (aI (xF [6,1,0,5] (.func 105) [] [.bptr 1 0,.eptr ((cL aa) scope),.bptr 5 0] [] [.bptr 1 0,.eptr ((cL aa) scope),.bptr 3 0] trivial (aI (xB [6,1,0,5] 1 1 0 rfl) (aI (xR [6,1,0,5] (.eptr ((cL aa) scope)) (lS au scope)) (aI (xB [6,1,0,5] 3 5 0 rfl) trivial)))) trivial))) (aI (aI (rB (.cells [.func (.func 62) [] [.bptr 0 0],.func (.func 61) [] []] [])) (aI (rW []) (aI (xF [6,1,0,5] (.func 62) [] [.bptr 0 0] [] [.bptr 2 0] trivial (aI (xB [6,1,0,5] 2 0 0 rfl) trivial)) (aI (xR [6,1,0,5] (.func (.func 61) [] []) (aI trivial trivial)) trivial)))) (aI (aI (rB (.cells [sl cS o13.1] [(0,9)])) (aI (rW [(0,9)]) (aI (xR [6,1,0,5] (sl cS o13.1) (am bO o13.1)) trivial))) (aI (aI (rB (.cells [sl aa o13.2.2] [(0,137)])) (aI (rW [(0,137)]) (aI (xR [6,1,0,5] (sl aa o13.2.2) (am au o13.2.2)) trivial))) trivial))))<|sf (aI (aI (rW []) (aI (xF [6,1,0,5] (.func 105) [] [.bptr 1 0,.eptr ((cL aa) scope),.bptr 5 0] [] [.bptr 1 0,.eptr ((cL aa) scope),.bptr 3 0] trivial (aI (xB [6,1,0,5] 1 1 0 rfl) (aI (xR [6,1,0,5] (.eptr ((cL aa) scope)) (lS au scope)) (aI (xB [6,1,0,5] 3 5 0 rfl) trivial)))) trivial)) (aI (aI (rW []) (aI (xF [6,1,0,5] (.func 62) [] [.bptr 0 0] [] [.bptr 2 0] trivial (aI (xB [6,1,0,5] 2 0 0 rfl) trivial)) (aI (xR [6,1,0,5] (.func (.func 61) [] []) (aI trivial trivial)) trivial))) (aI (aI (rW [(0,9)]) (aI (xR [6,1,0,5] (sl cS r14.2.1) (am bO r14.2.1)) trivial)) (aI (aI (rW [(0,137)]) (aI (xR [6,1,0,5] (sl aa r14.2.2) (am au r14.2.2)) trivial)) trivial))))<|sf (xR [6,1,0,5] (sl av r14.1) (am ba r14.1))<|ss<|bU (iJ.ln e.Kids)<|cY (lW R21 scope e.Kids (e.Kids.length:Int) e.Op o13.2.1 e.N r14.1 e.Alts r1 ([]:List ag) ([]:List aw) ([]:List aF) ([]:List ah) r14.2.2 ([]:List ag) 0 r14.2.1 hR21 bo25)<|ss<|si (.cg ⟨[1,0],[sl ay e.Alts,.func (.func 110) [] [.eptr ((cL aa) scope),.bptr 0 0]],[],[.cells [.func (.func 62) [] [.bptr 0 0],.func (.func 61) [] []] [],.cells [sl cS o25.2] [(0,9)]],[.cells [.func (.func 62) [] [.bptr 1 0],.func (.func 61) [] []] [],.cells [sl cS o25.2] [(0,9)]],[.cells [.func (.func 62) [] [.bptr 0 0],.func (.func 61) [] []] [],.cells [sl cS r26.2] [(0,9)]],[.cells [.func (.func 62) [] [.bptr 1 0],.func (.func 61) [] []] [],.cells [sl cS r26.2] [(0,9)]],sl ay r26.1,sl ay r26.1,[(0,89)]⟩) (kc R21 hR21 br26)<|sf (aI (xR [1,0] (sl ay e.Alts) (am bL e.Alts)) (aI (xF [1,0] (.func 110) [] [.eptr ((cL aa) scope),.bptr 1 0] [] [.eptr ((cL aa) scope),.bptr 0 0] trivial (aI (xR [1,0] (.eptr ((cL aa) scope)) (lS au scope)) (aI (xB [1,0] 0 1 0 rfl) trivial))) trivial))<|sf (aI (aI (rB (.cells [.func (.func 62) [] [.bptr 0 0],.func (.func 61) [] []] [])) (aI (rW []) (aI (xF [1,0] (.func 62) [] [.bptr 0 0] [] [.bptr 1 0] trivial (aI (xB [1,0] 1 0 0 rfl) trivial)) (aI (xR [1,0] (.func (.func 61) [] []) (aI trivial trivial)) trivial)))) (aI (aI (rB (.cells [sl cS o25.2] [(0,9)])) (aI (rW [(0,9)]) (aI (xR [1,0] (sl cS o25.2) (am bO o25.2)) trivial))) trivial))<|sf (aI (aI (rW []) (aI (xF [1,0] (.func 62) [] [.bptr 0 0] [] [.bptr 1 0] trivial (aI (xB [1,0] 1 0 0 rfl) trivial)) (aI (xR [1,0] (.func (.func 61) [] []) (aI trivial trivial)) trivial))) (aI (aI (rW [(0,9)]) (aI (xR [1,0] (sl cS r26.2) (am bO r26.2)) trivial)) trivial))<|sf (xR [1,0] (sl ay r26.1) (am bL r26.1))<|sz (b8 (⟨e.Op,o13.2.1,e.N,o25.1,r14.1,r26.1,r1⟩:ag) [])<|sy (bz (⟨e.Op,o13.2.1,e.N,o25.1,r14.1,r26.1,r1⟩:ag))<|en (aI (qF (⟨e.Op,o13.2.1,e.N,o25.1,r14.1,r26.1,r1⟩:ag))<|aI (UQ (n:=1) (az (⟨e.Op,o13.2.1,e.N,o25.1,r14.1,r26.1,r1⟩:ag)))<|aI (rL [.cells [sl cS r26.2] [(0,9)]])<|aI (aI (aI (up (n:=1) (am bO r26.2)) trivial) trivial)<|rT)
 exact C.evGp (A:=I3) mixed (m:=1) (c:=Q0) rfl call56 func56 rfl z<|by kernel_rfl
def ig:((ag×(List ac)×waA)->Option (ag×waA))->(ag×(List ac)×waA)->Option (ag×waA):=fun(rec:(ag×(List ac)×waA)->Option (ag×waA)) (x:ag×(List ac)×waA)=>ie (fun e scope k0=>rec (e,scope,k0)) x.1 x.2.1 x.2.2
def iL(e:ag)(scope:(List ac))(k0:waA):Option (ag×waA):=uc ig (e,scope,k0)
theorem ng{e:ag}{scope:(List ac)}{k0:waA}{r:ag×waA}(h:iL e scope k0=some r):C Pg GE 56 [.agg [.func (.func 62) [] [.bptr 0 0],.func (.func 61) [] []],.agg (af e),sl aa scope] [] [.cells [sl cS k0] [(0,9)]] (.agg (af r.1)) [(3,28),(4,85),(5,89),(6,60)] [.cells [sl cS r.2] [(0,9)]]:=
 fk (F:=ig) (M:=fun(x:ag×(List ac)×waA) (r:ag×waA)=>C Pg GE 56 [.agg [.func (.func 62) [] [.bptr 0 0],.func (.func 61) [] []],.agg (af x.1),sl aa x.2.1] [] [.cells [sl cS x.2.2] [(0,9)]] (.agg (af r.1)) [(3,28),(4,85),(5,89),(6,60)] [.cells [sl cS r.2] [(0,9)]]) (fun rec hrec x r h=>mM _ (fun e scope k0 r h=>hrec (e,scope,k0) r h) h) h
noncomputable def WF:Code:=f15.body.getD .skip
def Wq:List Nat:=[]
def BG(e:ag):Option ag:=
 (zQ e).bind fun r1=>
 (iL e ([]:List ac) r1).bind fun r2=>
 some r2.1
theorem EY{e:ag}{r:ag}(h:BG e=some r):CC Pg GE 15 [.agg (af e)] (.agg (af r)) [(3,28),(4,85),(5,89),(6,60)]:=by
 obtain⟨r1,br1,h⟩:=aG h
 obtain⟨r2,br2,h⟩:=aG h
 obtain rfl:=lf h
 have z:=se (dM e)<|sx yx<|sv (cu e)<|du (zR br1)<|sx V0<|sv (show dB Pg 95 [(1,.func (.func 61) [] []),(0,.func (.func 62) [] [.bptr 2 0])]=some (.agg [.func (.func 62) [] [.bptr 2 0],.func (.func 61) [] []]) by kernel_rfl)<|sx UL<|sx (UF [.func (.func 62) [] [.bptr 2 0],.func (.func 61) [] []])<|sv (show be Pg 95 [.func (.func 62) [] [.bptr 2 0],.func (.func 61) [] []]=some (.agg [.func (.func 62) [] [.bptr 2 0],.func (.func 61) [] []]) by kernel_rfl)<|sv (cu e)<|si (.cg ⟨[2],[.agg [.func (.func 62) [] [.bptr 0 0],.func (.func 61) [] []],.agg (af e),sl aa ([]:List ac)],[],[.cells [sl cS r1] [(0,9)]],[.cells [sl cS r1] [(0,9)]],[.cells [sl cS r2.2] [(0,9)]],[.cells [sl cS r2.2] [(0,9)]],.agg (af r2.1),.agg (af r2.1),[(3,28),(4,85),(5,89),(6,60)]⟩) (ng br2)<|sf (aI (xA [2] [.func (.func 62) [] [.bptr 2 0],.func (.func 61) [] []] [.func (.func 62) [] [.bptr 0 0],.func (.func 61) [] []] (aI (xF [2] (.func 62) [] [.bptr 2 0] [] [.bptr 0 0] trivial (aI (xB [2] 0 2 0 rfl) trivial)) (aI (xR [2] (.func (.func 61) [] []) (aI trivial trivial)) trivial))) (aI (xR [2] (.agg (af e)) (az e)) (aI (xR [2] (sl aa ([]:List ac)) (am au ([]:List ac))) trivial)))<|sf (aI (aI (rB (.cells [sl cS r1] [(0,9)])) (aI (rW [(0,9)]) (aI (xR [2] (sl cS r1) (am bO r1)) trivial))) trivial)<|sf (aI (aI (rW [(0,9)]) (aI (xR [2] (sl cS r2.2) (am bO r2.2)) trivial)) trivial)<|sf (xR [2] (.agg (af r2.1)) (az r2.1))<|sy (bz r2.1)<|en (aI (qF r2.1)<|aI (az r2.1)<|rT)
 exact cH Wq call15 func15 (c:=WF) rfl (aI (az e) trivial) z<|by kernel_rfl
noncomputable def WK:Code:=f49.body.getD .skip
def Wv:List Nat:=[]
def y6(a:ae)(a2:ae):Option ag:=
 (gg a).bind fun r1=>
 (gg a2).bind fun r2=>
 some (⟨10,([]:ae),0,([r1,r2]:List ag),([]:List aw),([]:List aF),([]:List ah)⟩:ag)
theorem y7{a:ae}{a2:ae}{r:ag}(h:y6 a a2=some r):CC Pg GE 49 [.str a,.str a2] (.agg (af r)) [(4,85),(5,89),(6,60)]:=by
 obtain⟨r1,br1,h⟩:=aG h
 obtain⟨r2,br2,h⟩:=aG h
 obtain rfl:=lf h
 have z:=sx yx<|du (eO br1)<|du (eO br2)<|sv (iJ.mk' (v:=qX) mJ ([r1,r2]:List ag) 2 (by kernel_rfl))<|sb (J1 10 ([r1,r2]:List ag)) (JZ 10 ([r1,r2]:List ag))<|sy (bz (⟨10,([]:ae),0,([r1,r2]:List ag),([]:List aw),([]:List aF),([]:List ah)⟩:ag))<|en (aI (qF (⟨10,([]:ae),0,([r1,r2]:List ag),([]:List aw),([]:List aF),([]:List ah)⟩:ag))<|aI (az (⟨10,([]:ae),0,([r1,r2]:List ag),([]:List aw),([]:List aF),([]:List ah)⟩:ag))<|rT)
 exact cH Wv call49 func49 (c:=WK) rfl (aI trivial (aI trivial trivial)) z<|by kernel_rfl
noncomputable def T7:Code:=f26.body.getD .skip
def Th:List Nat:=[]
section
variable(v:waA)(v2:waA)(i:Int)
def io:aA:=bg 26 [(0,sl cS v),(1,sl cS v2),(5,.int .i64 i)] [] []
def ip(o:Unit⊕(Unit)):Exit:=match o with
 |(.inl _)=>.ret
 |(.inr _)=>.exit 0
def fU(o:Unit⊕(Unit)):aA:=match o with
 |(.inl o)=>bg 26 [(4,.bool false)] [] []
 |(.inr o)=>bg 26 [] [] []
def fT:Option (Int⊕(Unit⊕(Unit))):=
 if(decide (i<(v.length:Int)))=true then
  (fJ v i).bind fun x4=>
  (fJ v2 i).bind fun x5=>
  if(!(x4==x5))=true then
   some (.inr (.inl ()))
  else
   some (.inl (ca (i+1)))
 else
  some (.inr (.inr ()))
def qq:Option (Unit⊕(Unit)):=loop (fun(zz:Int)=>fT v v2 zz) i
theorem yM{y:Int⊕(Unit⊕(Unit))}(h:fT v v2 i=some y):aQ Pg GE 0 (cA T7 119) (LQ (fun(zz:Int)=>io v v2 zz) ip fU y) (io v v2 i):=by
 rcases aN h with⟨c3,h⟩|⟨c3,h⟩
 ·obtain⟨x4,bx4,h⟩:=aG h
  obtain⟨x5,bx5,h⟩:=aG h
  have p7:=fun{sc F} (r:PS sc F)=>bU (eu.ln v)<|sg 0 c3<|IY [0,0,3,7,0,0,48,112,255]<|sv (eu.ia (k:=.i64) bx4)<|sv (de GB (.str x4) [])<|sv (eu.ia (k:=.i64) bx5)<|sv (de GB (.str x5) [])<|r
  rcases aN h with⟨c6,h⟩|⟨c6,h⟩
  ·obtain rfl:=lf h
   have z:=p7<|sg 0 c6<|eF (ip (.inl ())) (fU (.inl ()))
   exact iI Th (by intro hx;cases hx) z<|by kernel_rfl
  ·obtain rfl:=lf h
   exact yz Th (p7<|sg 0 c6<|eF .normal (io v v2 (ca (i+1))))<|by kernel_rfl
 ·obtain rfl:=lf h
  have z:=bU (eu.ln v)<|sg 0 c3<|eF (ip (.inr ())) (fU (.inr ()))
  exact iI Th (by intro hx;cases hx) z<|by kernel_rfl
theorem rY{x:Unit⊕(Unit)}(h:qq v v2 i=some x):aQ Pg GE 0 (.loop (cA T7 119)) (EX (ip x) (fU x)) (io v v2 i):=
 aQ.loop (S:=fun(zz:Int)=>io v v2 zz) (ex:=ip) (s:=i) h fun zz y hy=>yM v v2 zz hy
end
def hO(a:waA)(a2:waA):Option Bool:=
 if((a.length:Int)!=(a2.length:Int))=true then
  some false
 else
  (qq a a2 0).bind fun o8=>match o8 with
  |(.inl o8)=>
   some false
  |(.inr o8)=>
   some true
theorem jH{a:waA}{a2:waA}{r:Bool}(h:hO a a2=some r):CC Pg GE 26 [sl cS a,sl cS a2] (.bool r) []:=by
 have p2:=fun{sc F} (r:PS sc F)=>bU (eu.ln a)<|bU (eu.ln a2)<|r
 rcases aN h with⟨c1,h⟩|⟨c1,h⟩
 ·obtain rfl:=lf h
  have z:=p2<|sg 0 c1<|en (aI (rP (.bool false))<|trivial)
  exact cH Th call26 func26 (c:=T7) rfl (aI (am bO a) (aI (am bO a2) trivial)) z<|by kernel_rfl
 ·obtain⟨o8,bo8,h⟩:=aG h
  rcases o8 with o8|o8
  ·obtain rfl:=lf h
   have z:=p2<|sg 0 c1<|cY (e:=.ret) (s1:=fU (.inl o8)) (rY a a2 0 bo8)<|en (aI (rP (.bool false))<|trivial)
   exact cH Th call26 func26 (c:=T7) rfl (aI (am bO a) (aI (am bO a2) trivial)) z<|by kernel_rfl
  ·obtain rfl:=lf h
   have z:=p2<|sg 0 c1<|cY (e:=.exit 0) (s1:=fU (.inr o8)) (rY a a2 0 bo8)<|en (aI (rP (.bool true))<|trivial)
   exact cH Th call26 func26 (c:=T7) rfl (aI (am bO a) (aI (am bO a2) trivial)) z<|by kernel_rfl
abbrev qt:=(ag->ag->Option Bool)
abbrev qp(R:qt):Prop:=∀(a:ag) (a2:ag) (r:Bool),R a a2=some r->CC Pg GE 12 [.agg (af a),.agg (af a2)] (.bool r) []
abbrev jL:=(ah->ah->Option Bool)
abbrev oU(R:jL):Prop:=∀(a:ah) (a2:ah) (r:Bool),R a a2=some r->CC Pg GE 97 [.agg (ai a),.agg (ai a2)] (.bool r) []
abbrev wR:=(aj->aj->Option Bool)
abbrev BU(R:wR):Prop:=∀(a:aj) (a2:aj) (r:Bool),R a a2=some r->CC Pg GE 133 [.agg (al a),.agg (al a2)] (.bool r) []
noncomputable def Od:Code:=f133.body.getD .skip
def If:List Nat:=[39]
section
variable(v:aj)(v2:aj)
def Ii:aA:=bg 53 [(2,.eptr (al v)),(3,.eptr (al v2))] [.dead,.dead] []
def ni(o:Bool):aA:=bg 53 [(2,.eptr (al v)),(3,.eptr (al v2)),(33,.bool o)] [.dead,.dead] []
def yD:Option Bool:=
 if(v.Op !=v2.Op)=true then
  some true
 else
  if(!(v.Name==v2.Name))=true then
   some true
  else
   if(v.N !=v2.N)=true then
    some true
   else
    some ((v.Kids.length:Int)!=(v2.Kids.length:Int))
theorem GI{x:Bool}(h:yD v v2=some x):aQ Pg GE 0 (cA Od 12) (EX .normal (ni v v2 x)) (Ii v v2):=by
 have p2:=fun{sc F} (r:PS sc F)=>sv (qR v)<|sv (qT v)<|sv (qR v2)<|sv (qT v2)<|r
 rcases aN h with⟨c1,h⟩|⟨c1,h⟩
 ·obtain rfl:=lf h
  exact bA If (p2<|sg 6 c1<|eF .normal (ni v v2 true))<|by kernel_rfl
 ·have p4:=fun{sc F} (r:PS sc F)=>p2<|sg 6 c1<|sv (nC v)<|sv (pr v)<|sv (nC v2)<|sv (pr v2)<|r
  rcases aN h with⟨c3,h⟩|⟨c3,h⟩
  ·obtain rfl:=lf h
   exact bA If (p4<|sg 13 c3<|eF .normal (ni v v2 true))<|by kernel_rfl
  ·have p6:=fun{sc F} (r:PS sc F)=>p4<|sg 13 c3<|sv (qS v)<|sv (sP v)<|sv (qS v2)<|sv (sP v2)<|r
   rcases aN h with⟨c5,h⟩|⟨c5,h⟩
   ·obtain rfl:=lf h
    exact bA If (p6<|sg 20 c5<|eF .normal (ni v v2 true))<|by kernel_rfl
   ·obtain rfl:=lf h
    exact bA If (p6<|sg 20 c5<|sv (gh v)<|sv (gk v)<|bU (nb.ln v.Kids)<|sv (gh v2)<|sv (gk v2)<|bU (nb.ln v2.Kids)<|eF .normal (ni v v2 ((v.Kids.length:Int)!=(v2.Kids.length:Int))))<|by kernel_rfl
end
section
variable(R39:wR)(v:aj)(v2:aj)(t36:Int)(t37:Int)
def nj:aA:=bg 53 [(2,.eptr (al v)),(3,.eptr (al v2)),(36,.int .i64 t36),(37,.int .i64 t37)] [.dead,.dead] []
def nk(o:Unit⊕(Unit)):Exit:=match o with
 |(.inl _)=>.ret
 |(.inr _)=>.exit 0
def lm(o:Unit⊕(Unit)):aA:=match o with
 |(.inl o)=>bg 53 [(4,.bool false)] [.dead,.dead] []
 |(.inr o)=>bg 53 [] [.dead,.dead] []
def qN:Option (Int⊕(Unit⊕(Unit))):=
 if(decide (t37<t36))=true then
  (fJ v.Kids t37).bind fun x11=>
  (fJ v2.Kids t37).bind fun x12=>
  (R39 x11 x12).bind fun r13=>
  if(!r13)=true then
   some (.inr (.inl ()))
  else
   some (.inl (ca (t37+1)))
 else
  some (.inr (.inr ()))
def yE:Option (Unit⊕(Unit)):=loop (fun(zz:Int)=>qN R39 v v2 t36 zz) t37
theorem FF(hR39:BU R39){y:Int⊕(Unit⊕(Unit))}(h:qN R39 v v2 t36 t37=some y):aQ Pg GE 0 (cA Od 119) (LQ (fun(zz:Int)=>nj v v2 t36 zz) nk lm y) (nj v v2 t36 t37):=by
 rcases aN h with⟨c10,h⟩|⟨c10,h⟩
 ·obtain⟨x11,bx11,h⟩:=aG h
  obtain⟨x12,bx12,h⟩:=aG h
  obtain⟨r13,br13,h⟩:=aG h
  have p15:=fun{sc F} (r:PS sc F)=>sg 0 c10<|IY [0,1,0,7,15,0,32,0,224,480,1023,2047]<|sv (gh v)<|sv (gk v)<|sv (nb.ia (k:=.i64) bx11)<|sv (pu x11)<|sv (gh v2)<|sv (gk v2)<|sv (nb.ia (k:=.i64) bx12)<|sv (pu x12)<|du (hR39 _ _ _ br13)<|r
  rcases aN h with⟨c14,h⟩|⟨c14,h⟩
  ·obtain rfl:=lf h
   have z:=p15<|sg 0 c14<|eF (nk (.inl ())) (lm (.inl ()))
   exact iI If (by intro hx;cases hx) z<|by kernel_rfl
  ·obtain rfl:=lf h
   exact yz If (p15<|sg 0 c14<|eF .normal (nj v v2 t36 (ca (t37+1))))<|by kernel_rfl
 ·obtain rfl:=lf h
  have z:=sg 0 c10<|eF (nk (.inr ())) (lm (.inr ()))
  exact iI If (by intro hx;cases hx) z<|by kernel_rfl
theorem yF(hR39:BU R39){x:Unit⊕(Unit)}(h:yE R39 v v2 t36 t37=some x):aQ Pg GE 0 (.loop (cA Od 119)) (EX (nk x) (lm x)) (nj v v2 t36 t37):=
 aQ.loop (S:=fun(zz:Int)=>nj v v2 t36 zz) (ex:=nk) (s:=t37) h fun zz y hy=>FF R39 v v2 t36 zz hR39 hy
end
def wL(R39:wR)(a:aj)(a2:aj):Option Bool:=
 (yD a a2).bind fun o7=>
 if o7=true then
  some false
 else
  (yE R39 a a2 (a.Kids.length:Int) 0).bind fun o16=>match o16 with
  |(.inl o16)=>
   some false
  |(.inr o16)=>
   some true
theorem JN(R39:wR)(hR39:BU R39){a:aj}{a2:aj}{r:Bool}(h:wL R39 a a2=some r):CC Pg GE 133 [.agg (al a),.agg (al a2)] (.bool r) []:=by
 obtain⟨o7,bo7,h⟩:=aG h
 have p9:=fun{sc F} (r:PS sc F)=>se (DD a)<|se (DD a2)<|qk 1<|cY (GI a a2 bo7)<|r
 rcases aN h with⟨c8,h⟩|⟨c8,h⟩
 ·obtain rfl:=lf h
  have z:=p9<|sg 0 c8<|en (aI (rP (.bool false))<|trivial)
  exact cH If call133 func133 (c:=Od) rfl (aI (aS a) (aI (aS a2) trivial)) z<|by kernel_rfl
 ·obtain⟨o16,bo16,h⟩:=aG h
  rcases o16 with o16|o16
  ·obtain rfl:=lf h
   have z:=p9<|sg 0 c8<|sv (gh a)<|sv (gk a)<|bU (nb.ln a.Kids)<|cY (e:=.ret) (s1:=lm (.inl o16)) (yF R39 a a2 (a.Kids.length:Int) 0 hR39 bo16)<|en (aI (rP (.bool false))<|trivial)
   exact cH If call133 func133 (c:=Od) rfl (aI (aS a) (aI (aS a2) trivial)) z<|by kernel_rfl
  ·obtain rfl:=lf h
   have z:=p9<|sg 0 c8<|sv (gh a)<|sv (gk a)<|bU (nb.ln a.Kids)<|cY (e:=.exit 0) (s1:=lm (.inr o16)) (yF R39 a a2 (a.Kids.length:Int) 0 hR39 bo16)<|en (aI (rP (.bool true))<|trivial)
   exact cH If call133 func133 (c:=Od) rfl (aI (aS a) (aI (aS a2) trivial)) z<|by kernel_rfl
def BV:((aj×aj)->Option Bool)->(aj×aj)->Option Bool:=fun(rec:(aj×aj)->Option Bool) (x:aj×aj)=>wL (fun a a2=>rec (a,a2)) x.1 x.2
def CW(a:aj)(a2:aj):Option Bool:=uc BV (a,a2)
theorem Fb{a:aj}{a2:aj}{r:Bool}(h:CW a a2=some r):CC Pg GE 133 [.agg (al a),.agg (al a2)] (.bool r) []:=
 fk (F:=BV) (M:=fun(x:aj×aj) (r:Bool)=>CC Pg GE 133 [.agg (al x.1),.agg (al x.2)] (.bool r) []) (fun rec hrec x r h=>JN _ (fun a a2 r h=>hrec (a,a2) r h) h) h
noncomputable def T8:Code:=f51.body.getD .skip
def Ti:List Nat:=[]
section
variable(R38:jL)(v:waC)(v2:waC)(i:Int)
def iq:aA:=bg 27 [(0,sl ai v),(1,sl ai v2),(5,.int .i64 i)] [] []
def ir(o:Unit⊕(Unit)):Exit:=match o with
 |(.inl _)=>.ret
 |(.inr _)=>.exit 0
def fW(o:Unit⊕(Unit)):aA:=match o with
 |(.inl o)=>bg 27 [(4,.bool false)] [] []
 |(.inr o)=>bg 27 [] [] []
def fV:Option (Int⊕(Unit⊕(Unit))):=
 if(decide (i<(v.length:Int)))=true then
  (fJ v i).bind fun x4=>
  (fJ v2 i).bind fun x5=>
  (R38 x4 x5).bind fun r6=>
  if(!r6)=true then
   some (.inr (.inl ()))
  else
   some (.inl (ca (i+1)))
 else
  some (.inr (.inr ()))
def qr:Option (Unit⊕(Unit)):=loop (fun(zz:Int)=>fV R38 v v2 zz) i
theorem yN(hR38:oU R38){y:Int⊕(Unit⊕(Unit))}(h:fV R38 v v2 i=some y):aQ Pg GE 0 (cA T8 119) (LQ (fun(zz:Int)=>iq v v2 zz) ir fW y) (iq v v2 i):=by
 rcases aN h with⟨c3,h⟩|⟨c3,h⟩
 ·obtain⟨x4,bx4,h⟩:=aG h
  obtain⟨x5,bx5,h⟩:=aG h
  obtain⟨r6,br6,h⟩:=aG h
  have p8:=fun{sc F} (r:PS sc F)=>bU (d5.ln v)<|sg 0 c3<|IY [0,0,3,7,0,0,48,112,255,511]<|sv (d5.ia (k:=.i64) bx4)<|sv (ku x4)<|sv (d5.ia (k:=.i64) bx5)<|sv (ku x5)<|du (hR38 _ _ _ br6)<|r
  rcases aN h with⟨c7,h⟩|⟨c7,h⟩
  ·obtain rfl:=lf h
   have z:=p8<|sg 0 c7<|eF (ir (.inl ())) (fW (.inl ()))
   exact iI Ti (by intro hx;cases hx) z<|by kernel_rfl
  ·obtain rfl:=lf h
   exact yz Ti (p8<|sg 0 c7<|eF .normal (iq v v2 (ca (i+1))))<|by kernel_rfl
 ·obtain rfl:=lf h
  have z:=bU (d5.ln v)<|sg 0 c3<|eF (ir (.inr ())) (fW (.inr ()))
  exact iI Ti (by intro hx;cases hx) z<|by kernel_rfl
theorem rZ(hR38:oU R38){x:Unit⊕(Unit)}(h:qr R38 v v2 i=some x):aQ Pg GE 0 (.loop (cA T8 119)) (EX (ir x) (fW x)) (iq v v2 i):=
 aQ.loop (S:=fun(zz:Int)=>iq v v2 zz) (ex:=ir) (s:=i) h fun zz y hy=>yN R38 v v2 zz hR38 hy
end
def nu(R38:jL)(a:waC)(a2:waC):Option Bool:=
 if((a.length:Int)!=(a2.length:Int))=true then
  some false
 else
  (qr R38 a a2 0).bind fun o9=>match o9 with
  |(.inl o9)=>
   some false
  |(.inr o9)=>
   some true
theorem vL(R38:jL)(hR38:oU R38){a:waC}{a2:waC}{r:Bool}(h:nu R38 a a2=some r):CC Pg GE 51 [sl ai a,sl ai a2] (.bool r) []:=by
 have p2:=fun{sc F} (r:PS sc F)=>bU (d5.ln a)<|bU (d5.ln a2)<|r
 rcases aN h with⟨c1,h⟩|⟨c1,h⟩
 ·obtain rfl:=lf h
  have z:=p2<|sg 0 c1<|en (aI (rP (.bool false))<|trivial)
  exact cH Ti call51 func51 (c:=T8) rfl (aI (am aE a) (aI (am aE a2) trivial)) z<|by kernel_rfl
 ·obtain⟨o9,bo9,h⟩:=aG h
  rcases o9 with o9|o9
  ·obtain rfl:=lf h
   have z:=p2<|sg 0 c1<|cY (e:=.ret) (s1:=fW (.inl o9)) (rZ R38 a a2 0 hR38 bo9)<|en (aI (rP (.bool false))<|trivial)
   exact cH Ti call51 func51 (c:=T8) rfl (aI (am aE a) (aI (am aE a2) trivial)) z<|by kernel_rfl
  ·obtain rfl:=lf h
   have z:=p2<|sg 0 c1<|cY (e:=.exit 0) (s1:=fW (.inr o9)) (rZ R38 a a2 0 hR38 bo9)<|en (aI (rP (.bool true))<|trivial)
   exact cH Ti call51 func51 (c:=T8) rfl (aI (am aE a) (aI (am aE a2) trivial)) z<|by kernel_rfl
noncomputable def Ts:Code:=f97.body.getD .skip
def Pq:List Nat:=[]
section
variable(v:ah)(v2:ah)
def CY:aA:=bg 67 [(2,.eptr (ai v)),(3,.eptr (ai v2))] [.dead,.dead] []
def gI(o:Bool):aA:=bg 67 [(2,.eptr (ai v)),(3,.eptr (ai v2)),(42,.bool o)] [.dead,.dead] []
def rz:Option Bool:=
 if(v.Op !=v2.Op)=true then
  some true
 else
  if(!(v.Name==v2.Name))=true then
   some true
  else
   (hO v.Names v2.Names).bind fun r5=>
   if(!r5)=true then
    some true
   else
    (CW v.Pred v2.Pred).bind fun r8=>
    if(!r8)=true then
     some true
    else
     some ((v.Preds.length:Int)!=(v2.Preds.length:Int))
theorem B3{x:Bool}(h:rz v v2=some x):aQ Pg GE 0 (cA Ts 12) (EX .normal (gI v v2 x)) (CY v v2):=by
 have p2:=fun{sc F} (r:PS sc F)=>sv (cN v)<|sv (cO v)<|sv (cN v2)<|sv (cO v2)<|r
 rcases aN h with⟨c1,h⟩|⟨c1,h⟩
 ·obtain rfl:=lf h
  exact bA Pq (p2<|sg 6 c1<|eF .normal (gI v v2 true))<|by kernel_rfl
 ·have p4:=fun{sc F} (r:PS sc F)=>p2<|sg 6 c1<|sv (gi v)<|sv (g9 v)<|sv (gi v2)<|sv (g9 v2)<|r
  rcases aN h with⟨c3,h⟩|⟨c3,h⟩
  ·obtain rfl:=lf h
   exact bA Pq (p4<|sg 13 c3<|eF .normal (gI v v2 true))<|by kernel_rfl
  ·obtain⟨r5,br5,h⟩:=aG h
   have p7:=fun{sc F} (r:PS sc F)=>p4<|sg 13 c3<|sv (eA v)<|sv (eC v)<|sv (eA v2)<|sv (eC v2)<|du (jH br5)<|r
   rcases aN h with⟨c6,h⟩|⟨c6,h⟩
   ·obtain rfl:=lf h
    exact bA Pq (p7<|sg 21 c6<|eF .normal (gI v v2 true))<|by kernel_rfl
   ·obtain⟨r8,br8,h⟩:=aG h
    have p10:=fun{sc F} (r:PS sc F)=>p7<|sg 21 c6<|sv (nD v)<|sv (nG v)<|sv (nD v2)<|sv (nG v2)<|du (Fb br8)<|r
    rcases aN h with⟨c9,h⟩|⟨c9,h⟩
    ·obtain rfl:=lf h
     exact bA Pq (p10<|sg 29 c9<|eF .normal (gI v v2 true))<|by kernel_rfl
    ·obtain rfl:=lf h
     exact bA Pq (p10<|sg 29 c9<|sv (hX v)<|sv (ib v)<|bU (nb.ln v.Preds)<|sv (hX v2)<|sv (ib v2)<|bU (nb.ln v2.Preds)<|eF .normal (gI v v2 ((v.Preds.length:Int)!=(v2.Preds.length:Int))))<|by kernel_rfl
end
section
variable(v:ah)(v2:ah)(i:Int)
def jb:aA:=bg 67 [(2,.eptr (ai v)),(3,.eptr (ai v2)),(5,.int .i64 i)] [.dead,.dead] []
def jc(o:Unit⊕(Unit)):Exit:=match o with
 |(.inl _)=>.ret
 |(.inr _)=>.exit 0
def gJ(o:Unit⊕(Unit)):aA:=match o with
 |(.inl o)=>bg 67 [(4,.bool false)] [.dead,.dead] []
 |(.inr o)=>bg 67 [(2,.eptr (ai v)),(3,.eptr (ai v2))] [.dead,.dead] []
def fi:Option (Int⊕(Unit⊕(Unit))):=
 if(decide (i<(v.Preds.length:Int)))=true then
  (fJ v.Preds i).bind fun x16=>
  (fJ v2.Preds i).bind fun x17=>
  (CW x16 x17).bind fun r18=>
  if(!r18)=true then
   some (.inr (.inl ()))
  else
   some (.inl (ca (i+1)))
 else
  some (.inr (.inr ()))
def rA:Option (Unit⊕(Unit)):=loop (fun(zz:Int)=>fi v v2 zz) i
theorem AF{y:Int⊕(Unit⊕(Unit))}(h:fi v v2 i=some y):aQ Pg GE 0 (cA Ts 119) (LQ (fun(zz:Int)=>jb v v2 zz) jc (gJ v v2) y) (jb v v2 i):=by
 have p15:=fun{sc F} (r:PS sc F)=>sv (hX v)<|sv (ib v)<|bU (nb.ln v.Preds)<|r
 rcases aN h with⟨c14,h⟩|⟨c14,h⟩
 ·obtain⟨x16,bx16,h⟩:=aG h
  obtain⟨x17,bx17,h⟩:=aG h
  obtain⟨r18,br18,h⟩:=aG h
  have p20:=fun{sc F} (r:PS sc F)=>p15<|sg 0 c14<|IY [0,1,0,7,15,0,32,0,224,480,1023,2047]<|sv (hX v)<|sv (ib v)<|sv (nb.ia (k:=.i64) bx16)<|sv (pu x16)<|sv (hX v2)<|sv (ib v2)<|sv (nb.ia (k:=.i64) bx17)<|sv (pu x17)<|du (Fb br18)<|r
  rcases aN h with⟨c19,h⟩|⟨c19,h⟩
  ·obtain rfl:=lf h
   have z:=p20<|sg 0 c19<|eF (jc (.inl ())) (gJ v v2 (.inl ()))
   exact iI Pq (by intro hx;cases hx) z<|by kernel_rfl
  ·obtain rfl:=lf h
   exact yz Pq (p20<|sg 0 c19<|eF .normal (jb v v2 (ca (i+1))))<|by kernel_rfl
 ·obtain rfl:=lf h
  have z:=p15<|sg 0 c14<|eF (jc (.inr ())) (gJ v v2 (.inr ()))
  exact iI Pq (by intro hx;cases hx) z<|by kernel_rfl
theorem te{x:Unit⊕(Unit)}(h:rA v v2 i=some x):aQ Pg GE 0 (.loop (cA Ts 119)) (EX (jc x) (gJ v v2 x)) (jb v v2 i):=
 aQ.loop (S:=fun(zz:Int)=>jb v v2 zz) (ex:=jc) (s:=i) h fun zz y hy=>AF v v2 zz hy
end
def pb(R38:jL)(a:ah)(a2:ah):Option Bool:=
 (rz a a2).bind fun o11=>
 if o11=true then
  some false
 else
  (rA a a2 0).bind fun o21=>match o21 with
  |(.inl o21)=>
   some false
  |(.inr o21)=>
   (nu R38 a.Args a2.Args).bind fun r22=>
   some r22
theorem Ef(R38:jL)(hR38:oU R38){a:ah}{a2:ah}{r:Bool}(h:pb R38 a a2=some r):CC Pg GE 97 [.agg (ai a),.agg (ai a2)] (.bool r) []:=by
 obtain⟨o11,bo11,h⟩:=aG h
 have p13:=fun{sc F} (r:PS sc F)=>se (py a)<|se (py a2)<|qk 1<|cY (B3 a a2 bo11)<|r
 rcases aN h with⟨c12,h⟩|⟨c12,h⟩
 ·obtain rfl:=lf h
  have z:=p13<|sg 0 c12<|en (aI (rP (.bool false))<|trivial)
  exact cH Pq call97 func97 (c:=Ts) rfl (aI (aE a) (aI (aE a2) trivial)) z<|by kernel_rfl
 ·obtain⟨o21,bo21,h⟩:=aG h
  rcases o21 with o21|o21
  ·obtain rfl:=lf h
   have z:=p13<|sg 0 c12<|cY (e:=.ret) (s1:=gJ a a2 (.inl o21)) (te a a2 0 bo21)<|en (aI (rP (.bool false))<|trivial)
   exact cH Pq call97 func97 (c:=Ts) rfl (aI (aE a) (aI (aE a2) trivial)) z<|by kernel_rfl
  ·obtain⟨r22,br22,h⟩:=aG h
   obtain rfl:=lf h
   have z:=p13<|sg 0 c12<|cY (e:=.exit 0) (s1:=gJ a a2 (.inr o21)) (te a a2 0 bo21)<|sv (dy a)<|sv (dz a)<|sv (dy a2)<|sv (dz a2)<|du (vL R38 hR38 br22)<|en (aI (rP (.bool r22))<|trivial)
   exact cH Pq call97 func97 (c:=Ts) rfl (aI (aE a) (aI (aE a2) trivial)) z<|by kernel_rfl
def td:((ah×ah)->Option Bool)->(ah×ah)->Option Bool:=fun(rec:(ah×ah)->Option Bool) (x:ah×ah)=>pb (fun a a2=>rec (a,a2)) x.1 x.2
def my(a:ah)(a2:ah):Option Bool:=uc td (a,a2)
theorem xH{a:ah}{a2:ah}{r:Bool}(h:my a a2=some r):CC Pg GE 97 [.agg (ai a),.agg (ai a2)] (.bool r) []:=
 fk (F:=td) (M:=fun(x:ah×ah) (r:Bool)=>CC Pg GE 97 [.agg (ai x.1),.agg (ai x.2)] (.bool r) []) (fun rec hrec x r h=>Ef _ (fun a a2 r h=>hrec (a,a2) r h) h) h
noncomputable def Tp:Code:=f50.body.getD .skip
def Si:List Nat:=[]
section
variable(v:waG)(v2:waG)(i:Int)
def AG:aA:=bg 42 [(0,sl av v),(1,sl av v2),(5,.int .i64 i)] [] []
def mW(o:Bool):aA:=bg 42 [(0,sl av v),(1,sl av v2),(5,.int .i64 i),(41,.bool o)] [] []
def pe:Option Bool:=
 (fJ v i).bind fun x4=>
 (fJ v2 i).bind fun x5=>
 if(!(x4.Name==x5.Name))=true then
  some true
 else
  (fJ v i).bind fun x8=>
  (fJ v2 i).bind fun x9=>
  (my x8.Type_ x9.Type_).bind fun r10=>
  some (!r10)
theorem yX{x:Bool}(h:pe v v2 i=some x):aQ Pg GE 0 (cA Tp 1914) (EX .normal (mW v v2 i x)) (AG v v2 i):=by
 obtain⟨x4,bx4,h⟩:=aG h
 obtain⟨x5,bx5,h⟩:=aG h
 have p7:=fun{sc F} (r:PS sc F)=>IY [0,0,3,7,15,0,0,96,224,480,1023,2047,4095,4095,16383,32767,65535,4095,4095,397311,921599,1970175,4194303,8388607,16777215]<|sv (lT.ia (k:=.i64) bx4)<|sv (tv x4)<|sv (vB x4)<|sv (lT.ia (k:=.i64) bx5)<|sv (tv x5)<|sv (vB x5)<|r
 rcases aN h with⟨c6,h⟩|⟨c6,h⟩
 ·obtain rfl:=lf h
  exact bA Si (p7<|sg 12 c6<|eF .normal (mW v v2 i true))<|by kernel_rfl
 ·obtain⟨x8,bx8,h⟩:=aG h
  obtain⟨x9,bx9,h⟩:=aG h
  obtain⟨r10,br10,h⟩:=aG h
  obtain rfl:=lf h
  exact bA Si (p7<|sg 12 c6<|sv (lT.ia (k:=.i64) bx8)<|sv (tw x8)<|sv (tB x8)<|sv (lT.ia (k:=.i64) bx9)<|sv (tw x9)<|sv (tB x9)<|du (xH br10)<|eF .normal (mW v v2 i (!r10)))<|by kernel_rfl
end
section
variable(v:waG)(v2:waG)(i:Int)
def gW:aA:=bg 42 [(0,sl av v),(1,sl av v2),(5,.int .i64 i)] [] []
def gX(o:Unit⊕(Unit)):Exit:=match o with
 |(.inl _)=>.ret
 |(.inr _)=>.exit 0
def fw(o:Unit⊕(Unit)):aA:=match o with
 |(.inl o)=>bg 42 [(4,.bool false)] [] []
 |(.inr o)=>bg 42 [] [] []
def fu:Option (Int⊕(Unit⊕(Unit))):=
 if(decide (i<(v.length:Int)))=true then
  (pe v v2 i).bind fun o11=>
  if o11=true then
   some (.inr (.inl ()))
  else
   some (.inl (ca (i+1)))
 else
  some (.inr (.inr ()))
def pf:Option (Unit⊕(Unit)):=loop (fun(zz:Int)=>fu v v2 zz) i
theorem yh{y:Int⊕(Unit⊕(Unit))}(h:fu v v2 i=some y):aQ Pg GE 0 (cA Tp 119) (LQ (fun(zz:Int)=>gW v v2 zz) gX fw y) (gW v v2 i):=by
 rcases aN h with⟨c3,h⟩|⟨c3,h⟩
 ·obtain⟨o11,bo11,h⟩:=aG h
  have p13:=fun{sc F} (r:PS sc F)=>bU (lT.ln v)<|sg 0 c3<|qk 1<|cY (yX v v2 i bo11)<|r
  rcases aN h with⟨c12,h⟩|⟨c12,h⟩
  ·obtain rfl:=lf h
   have z:=p13<|sg 0 c12<|eF (gX (.inl ())) (fw (.inl ()))
   exact iI Si (by intro hx;cases hx) z<|by kernel_rfl
  ·obtain rfl:=lf h
   exact yz Si (p13<|sg 0 c12<|eF .normal (gW v v2 (ca (i+1))))<|by kernel_rfl
 ·obtain rfl:=lf h
  have z:=bU (lT.ln v)<|sg 0 c3<|eF (gX (.inr ())) (fw (.inr ()))
  exact iI Si (by intro hx;cases hx) z<|by kernel_rfl
theorem qY{x:Unit⊕(Unit)}(h:pf v v2 i=some x):aQ Pg GE 0 (.loop (cA Tp 119)) (EX (gX x) (fw x)) (gW v v2 i):=
 aQ.loop (S:=fun(zz:Int)=>gW v v2 zz) (ex:=gX) (s:=i) h fun zz y hy=>yh v v2 zz hy
end
def pd(a:waG)(a2:waG):Option Bool:=
 if((a.length:Int)!=(a2.length:Int))=true then
  some false
 else
  (pf a a2 0).bind fun o14=>match o14 with
  |(.inl o14)=>
   some false
  |(.inr o14)=>
   some true
theorem CZ{a:waG}{a2:waG}{r:Bool}(h:pd a a2=some r):CC Pg GE 50 [sl av a,sl av a2] (.bool r) []:=by
 have p2:=fun{sc F} (r:PS sc F)=>bU (lT.ln a)<|bU (lT.ln a2)<|r
 rcases aN h with⟨c1,h⟩|⟨c1,h⟩
 ·obtain rfl:=lf h
  have z:=p2<|sg 0 c1<|en (aI (rP (.bool false))<|trivial)
  exact cH Si call50 func50 (c:=Tp) rfl (aI (am ba a) (aI (am ba a2) trivial)) z<|by kernel_rfl
 ·obtain⟨o14,bo14,h⟩:=aG h
  rcases o14 with o14|o14
  ·obtain rfl:=lf h
   have z:=p2<|sg 0 c1<|cY (e:=.ret) (s1:=fw (.inl o14)) (qY a a2 0 bo14)<|en (aI (rP (.bool false))<|trivial)
   exact cH Si call50 func50 (c:=Tp) rfl (aI (am ba a) (aI (am ba a2) trivial)) z<|by kernel_rfl
  ·obtain rfl:=lf h
   have z:=p2<|sg 0 c1<|cY (e:=.exit 0) (s1:=fw (.inr o14)) (qY a a2 0 bo14)<|en (aI (rP (.bool true))<|trivial)
   exact cH Si call50 func50 (c:=Tp) rfl (aI (am ba a) (aI (am ba a2) trivial)) z<|by kernel_rfl
noncomputable def Pd:Code:=f12.body.getD .skip
def Ie:List Nat:=[]
section
variable(v:ag)(v2:ag)
def Im:aA:=bg 117 [(2,.eptr (af v)),(3,.eptr (af v2))] [.dead,.dead] []
def lu(o:Bool):aA:=bg 117 [(2,.eptr (af v)),(3,.eptr (af v2)),(43,.bool o)] [.dead,.dead] []
def yO:Option Bool:=
 if(v.Op !=v2.Op)=true then
  some true
 else
  if(!(v.Name==v2.Name))=true then
   some true
  else
   if(v.N !=v2.N)=true then
    some true
   else
    (pd v.Params v2.Params).bind fun r7=>
    if(!r7)=true then
     some true
    else
     (nu my v.Types v2.Types).bind fun r10=>
     some (!r10)
theorem GT{x:Bool}(h:yO v v2=some x):aQ Pg GE 0 (cA Pd 12) (EX .normal (lu v v2 x)) (Im v v2):=by
 have p2:=fun{sc F} (r:PS sc F)=>sv (ei v)<|sv (ej v)<|sv (ei v2)<|sv (ej v2)<|r
 rcases aN h with⟨c1,h⟩|⟨c1,h⟩
 ·obtain rfl:=lf h
  exact bA Ie (p2<|sg 6 c1<|eF .normal (lu v v2 true))<|by kernel_rfl
 ·have p4:=fun{sc F} (r:PS sc F)=>p2<|sg 6 c1<|sv (fg v)<|sv (gj v)<|sv (fg v2)<|sv (gj v2)<|r
  rcases aN h with⟨c3,h⟩|⟨c3,h⟩
  ·obtain rfl:=lf h
   exact bA Ie (p4<|sg 13 c3<|eF .normal (lu v v2 true))<|by kernel_rfl
  ·have p6:=fun{sc F} (r:PS sc F)=>p4<|sg 13 c3<|sv (hU v)<|sv (jh v)<|sv (hU v2)<|sv (jh v2)<|r
   rcases aN h with⟨c5,h⟩|⟨c5,h⟩
   ·obtain rfl:=lf h
    exact bA Ie (p6<|sg 20 c5<|eF .normal (lu v v2 true))<|by kernel_rfl
   ·obtain⟨r7,br7,h⟩:=aG h
    have p9:=fun{sc F} (r:PS sc F)=>p6<|sg 20 c5<|sv (bM v)<|sv (bN v)<|sv (bM v2)<|sv (bN v2)<|du (CZ br7)<|r
    rcases aN h with⟨c8,h⟩|⟨c8,h⟩
    ·obtain rfl:=lf h
     exact bA Ie (p9<|sg 28 c8<|eF .normal (lu v v2 true))<|by kernel_rfl
    ·obtain⟨r10,br10,h⟩:=aG h
     obtain rfl:=lf h
     exact bA Ie (p9<|sg 28 c8<|sv (aK v)<|sv (aL v)<|sv (aK v2)<|sv (aL v2)<|du (vL my (fun _ _ _ h=>xH h) br10)<|eF .normal (lu v v2 (!r10)))<|by kernel_rfl
end
section
variable(v:ag)(v2:ag)
def Io:aA:=bg 117 [(2,.eptr (af v)),(3,.eptr (af v2))] [.dead,.dead] []
def vj(o:Bool):aA:=bg 117 [(2,.eptr (af v)),(3,.eptr (af v2)),(59,.bool o)] [.dead,.dead] []
def yP:Option Bool:=
 if((v.Kids.length:Int)!=(v2.Kids.length:Int))=true then
  some true
 else
  some ((v.Alts.length:Int)!=(v2.Alts.length:Int))
theorem GU{x:Bool}(h:yP v v2=some x):aQ Pg GE 0 (cA Pd 28) (EX .normal (vj v v2 x)) (Io v v2):=by
 have p15:=fun{sc F} (r:PS sc F)=>sv (bu v)<|sv (bv v)<|bU (iJ.ln v.Kids)<|sv (bu v2)<|sv (bv v2)<|bU (iJ.ln v2.Kids)<|r
 rcases aN h with⟨c14,h⟩|⟨c14,h⟩
 ·obtain rfl:=lf h
  exact bA Ie (p15<|sg 8 c14<|eF .normal (vj v v2 true))<|by kernel_rfl
 ·obtain rfl:=lf h
  exact bA Ie (p15<|sg 8 c14<|sv (aH v)<|sv (aJ v)<|bU (fo.ln v.Alts)<|sv (aH v2)<|sv (aJ v2)<|bU (fo.ln v2.Alts)<|eF .normal (vj v v2 ((v.Alts.length:Int)!=(v2.Alts.length:Int))))<|by kernel_rfl
end
section
variable(R36:qt)(v:ag)(v2:ag)(i:Int)
def nv:aA:=bg 117 [(2,.eptr (af v)),(3,.eptr (af v2)),(5,.int .i64 i)] [.dead,.dead] []
def nx(o:Unit⊕(Unit)):Exit:=match o with
 |(.inl _)=>.ret
 |(.inr _)=>.exit 0
def jw(o:Unit⊕(Unit)):aA:=match o with
 |(.inl o)=>bg 117 [(4,.bool false)] [.dead,.dead] []
 |(.inr o)=>bg 117 [(2,.eptr (af v)),(3,.eptr (af v2))] [.dead,.dead] []
def jv:Option (Int⊕(Unit⊕(Unit))):=
 if(decide (i<(v.Kids.length:Int)))=true then
  (fJ v.Kids i).bind fun x21=>
  (fJ v2.Kids i).bind fun x22=>
  (R36 x21 x22).bind fun r23=>
  if(!r23)=true then
   some (.inr (.inl ()))
  else
   some (.inl (ca (i+1)))
 else
  some (.inr (.inr ()))
def yR:Option (Unit⊕(Unit)):=loop (fun(zz:Int)=>jv R36 v v2 zz) i
theorem FL(hR36:qp R36){y:Int⊕(Unit⊕(Unit))}(h:jv R36 v v2 i=some y):aQ Pg GE 0 (cA Pd 247) (LQ (fun(zz:Int)=>nv v v2 zz) nx (jw v v2) y) (nv v v2 i):=by
 have p20:=fun{sc F} (r:PS sc F)=>sv (bu v)<|sv (bv v)<|bU (iJ.ln v.Kids)<|r
 rcases aN h with⟨c19,h⟩|⟨c19,h⟩
 ·obtain⟨x21,bx21,h⟩:=aG h
  obtain⟨x22,bx22,h⟩:=aG h
  obtain⟨r23,br23,h⟩:=aG h
  have p25:=fun{sc F} (r:PS sc F)=>p20<|sg 0 c19<|IY [0,1,0,7,15,0,32,0,224,480,1023,2047]<|sv (bu v)<|sv (bv v)<|sv (iJ.ia (k:=.i64) bx21)<|sv (cu x21)<|sv (bu v2)<|sv (bv v2)<|sv (iJ.ia (k:=.i64) bx22)<|sv (cu x22)<|du (hR36 _ _ _ br23)<|r
  rcases aN h with⟨c24,h⟩|⟨c24,h⟩
  ·obtain rfl:=lf h
   have z:=p25<|sg 0 c24<|eF (nx (.inl ())) (jw v v2 (.inl ()))
   exact iI Ie (by intro hx;cases hx) z<|by kernel_rfl
  ·obtain rfl:=lf h
   exact yz Ie (p25<|sg 0 c24<|eF .normal (nv v v2 (ca (i+1))))<|by kernel_rfl
 ·obtain rfl:=lf h
  have z:=p20<|sg 0 c19<|eF (nx (.inr ())) (jw v v2 (.inr ()))
  exact iI Ie (by intro hx;cases hx) z<|by kernel_rfl
theorem tf(hR36:qp R36){x:Unit⊕(Unit)}(h:yR R36 v v2 i=some x):aQ Pg GE 0 (.loop (cA Pd 247)) (EX (nx x) (jw v v2 x)) (nv v v2 i):=
 aQ.loop (S:=fun(zz:Int)=>nv v v2 zz) (ex:=nx) (s:=i) h fun zz y hy=>FL R36 v v2 zz hR36 hy
end
section
variable(R36:qt)(v:ag)(v2:ag)(i:Int)(m:ae)(m2:waA)(m3:Int)(m4:ae)(m5:Int)(m6:waH)(m7:waG)(m8:waD)(m9:waC)(m10:ae)(m11:waA)(m12:Int)(m13:ae)(m14:Int)(m15:waH)(m16:waG)(m17:waD)(m18:waC)
def Ip:aA:=bg 117 [(2,.eptr (af v)),(3,.eptr (af v2)),(6,.int .i64 i),(7,.bptr 2 0),(8,.bptr 3 0)] [.dead,.dead,.cells [.str m,sl cS m2,.int .i64 m3,.str m4,.int .i64 m5,sl af m6,sl av m7,sl ay m8,sl ai m9] [],.cells [.str m10,sl cS m11,.int .i64 m12,.str m13,.int .i64 m14,sl af m15,sl av m16,sl ay m17,sl ai m18] []] []
def qO(o:Bool):aA:=bg 117 [(2,.eptr (af v)),(3,.eptr (af v2)),(6,.int .i64 i),(116,.bool o)] [.dead,.dead,.cells [.str m,sl cS m2,.int .i64 m3,.str m4,.int .i64 m5,sl af m6,sl av m7,sl ay m8,sl ai m9] [],.cells [.str m10,sl cS m11,.int .i64 m12,.str m13,.int .i64 m14,sl af m15,sl av m16,sl ay m17,sl ai m18] []] []
def yQ:Option Bool:=
 if(!(m==m10))=true then
  some true
 else
  (hO m2 m11).bind fun r33=>
  if(!r33)=true then
   some true
  else
   (R36 (⟨m3,m4,m5,m6,m7,m8,m9⟩:ag) (⟨m12,m13,m14,m15,m16,m17,m18⟩:ag)).bind fun r36=>
   some (!r36)
theorem GV(hR36:qp R36){x:Bool}(h:yQ R36 m m2 m3 m4 m5 m6 m7 m8 m9 m10 m11 m12 m13 m14 m15 m16 m17 m18=some x):aQ Pg GE 0 (cA Pd 16118) (EX .normal (qO v v2 i m m2 m3 m4 m5 m6 m7 m8 m9 m10 m11 m12 m13 m14 m15 m16 m17 m18 x)) (Ip v v2 i m m2 m3 m4 m5 m6 m7 m8 m9 m10 m11 m12 m13 m14 m15 m16 m17 m18):=by
 have p32:=fun{sc F} (r:PS sc F)=>ss<|ss<|r
 rcases aN h with⟨c31,h⟩|⟨c31,h⟩
 ·obtain rfl:=lf h
  exact bA Ie (p32<|sg 6 c31<|eF .normal (qO v v2 i m m2 m3 m4 m5 m6 m7 m8 m9 m10 m11 m12 m13 m14 m15 m16 m17 m18 true))<|by kernel_rfl
 ·obtain⟨r33,br33,h⟩:=aG h
  have p35:=fun{sc F} (r:PS sc F)=>p32<|sg 6 c31<|ss<|ss<|du (jH br33)<|r
  rcases aN h with⟨c34,h⟩|⟨c34,h⟩
  ·obtain rfl:=lf h
   exact bA Ie (p35<|sg 14 c34<|eF .normal (qO v v2 i m m2 m3 m4 m5 m6 m7 m8 m9 m10 m11 m12 m13 m14 m15 m16 m17 m18 true))<|by kernel_rfl
  ·obtain⟨r36,br36,h⟩:=aG h
   obtain rfl:=lf h
   exact bA Ie (p35<|sg 14 c34<|sv (b8 (⟨m3,m4,m5,m6,m7,m8,m9⟩:ag) [])<|sv (b8 (⟨m12,m13,m14,m15,m16,m17,m18⟩:ag) [])<|du (hR36 _ _ _ br36)<|eF .normal (qO v v2 i m m2 m3 m4 m5 m6 m7 m8 m9 m10 m11 m12 m13 m14 m15 m16 m17 m18 (!r36)))<|by kernel_rfl
end
section
variable(R36:qt)(v:ag)(v2:ag)(i:Int)
def ny:aA:=bg 117 [(2,.eptr (af v)),(3,.eptr (af v2)),(6,.int .i64 i)] [.dead,.dead] []
def nz(o:Unit⊕(Unit)):Exit:=match o with
 |(.inl _)=>.ret
 |(.inr _)=>.exit 2
def lw(o:Unit⊕(Unit)):aA:=match o with
 |(.inl o)=>bg 117 [(4,.bool false)] [.dead,.dead] []
 |(.inr o)=>bg 117 [] [.dead,.dead] []
def jx:Option (Int⊕(Unit⊕(Unit))):=
 if(decide (i<(v.Alts.length:Int)))=true then
  (fJ v.Alts i).bind fun x29=>
  (fJ v2.Alts i).bind fun x30=>
  (yQ R36 x29.Con x29.Names x29.Body.Op x29.Body.Name x29.Body.N x29.Body.Kids x29.Body.Params x29.Body.Alts x29.Body.Types x30.Con x30.Names x30.Body.Op x30.Body.Name x30.Body.N x30.Body.Kids x30.Body.Params x30.Body.Alts x30.Body.Types).bind fun o37=>
  if o37=true then
   some (.inr (.inl ()))
  else
   some (.inl (ca (i+1)))
 else
  some (.inr (.inr ()))
def yS:Option (Unit⊕(Unit)):=loop (fun(zz:Int)=>jx R36 v v2 zz) i
theorem FM(hR36:qp R36){y:Int⊕(Unit⊕(Unit))}(h:jx R36 v v2 i=some y):aQ Pg GE 0 (cA Pd 503) (LQ (fun(zz:Int)=>ny v v2 zz) nz lw y) (ny v v2 i):=by
 have p28:=fun{sc F} (r:PS sc F)=>sv (aH v)<|sv (aJ v)<|bU (fo.ln v.Alts)<|r
 rcases aN h with⟨c27,h⟩|⟨c27,h⟩
 ·obtain⟨x29,bx29,h⟩:=aG h
  obtain⟨x30,bx30,h⟩:=aG h
  obtain⟨o37,bo37,h⟩:=aG h
  have p39:=fun{sc F} (r:PS sc F)=>p28<|sg 0 c27<|UP (.dx [0,1,0,7,15,0,32,0,224,480,0,0,3103,8191] [] [] [741,765])<|sv (aH v)<|sv (aJ v)<|sv (fo.ia (k:=.i64) bx29)<|sv (mF x29)<|sv (aH v2)<|sv (aJ v2)<|sv (fo.ia (k:=.i64) bx30)<|sv (mF x30)<|sx (ji x29)<|sx (ji x30)<|qk 0<|cY (GV R36 v v2 i x29.Con x29.Names x29.Body.Op x29.Body.Name x29.Body.N x29.Body.Kids x29.Body.Params x29.Body.Alts x29.Body.Types x30.Con x30.Names x30.Body.Op x30.Body.Name x30.Body.N x30.Body.Kids x30.Body.Params x30.Body.Alts x30.Body.Types hR36 bo37)<|r
  rcases aN h with⟨c38,h⟩|⟨c38,h⟩
  ·obtain rfl:=lf h
   have z:=p39<|sg 0 c38<|rx 0 (nz (.inl ())) (lw (.inl ())) rfl (dv (aI trivial trivial)) (aI trivial (aI trivial trivial))
   exact mZ (A:=Ie) mixed (by intro hx;cases hx) z<|by kernel_rfl
  ·obtain rfl:=lf h
   have z:=p39<|sg 0 c38<|rx 0 .normal (ny v v2 (ca (i+1))) rfl (dv (aI (bk (az v)) (aI (bk (az v2)) (aI trivial trivial)))) (aI trivial (aI trivial trivial))
   exact d4 (A:=Ie) mixed z<|by kernel_rfl
 ·obtain rfl:=lf h
  have z:=p28<|sg 0 c27<|eF (nz (.inr ())) (lw (.inr ()))
  exact iI Ie (by intro hx;cases hx) z<|by kernel_rfl
theorem yU(hR36:qp R36){x:Unit⊕(Unit)}(h:yS R36 v v2 i=some x):aQ Pg GE 0 (.loop (cA Pd 503)) (EX (nz x) (lw x)) (ny v v2 i):=
 aQ.loop (S:=fun(zz:Int)=>ny v v2 zz) (ex:=nz) (s:=i) h fun zz y hy=>FM R36 v v2 zz hR36 hy
end
def wN(R36:qt)(a:ag)(a2:ag):Option Bool:=
 (yO a a2).bind fun o11=>
 if o11=true then
  some false
 else
  (yP a a2).bind fun o16=>
  if o16=true then
   some false
  else
   (yR R36 a a2 0).bind fun o26=>match o26 with
   |(.inl o26)=>
    some false
   | (.inr o26) =>
    (yS R36 a a2 0).bind fun o40=>match o40 with
    |(.inl o40)=>
     some false
    |(.inr o40)=>
     some true
theorem JP(R36:qt)(hR36:qp R36){a:ag}{a2:ag}{r:Bool}(h:wN R36 a a2=some r):CC Pg GE 12 [.agg (af a),.agg (af a2)] (.bool r) []:=by
 obtain⟨o11,bo11,h⟩:=aG h
 have p13:=fun{sc F} (r:PS sc F)=>se (dM a)<|se (dM a2)<|qk 1<|cY (GT a a2 bo11)<|r
 rcases aN h with⟨c12,h⟩|⟨c12,h⟩
 ·obtain rfl:=lf h
  have z:=p13<|sg 0 c12<|en (aI (rP (.bool false))<|trivial)
  exact cH Ie call12 func12 (c:=Pd) rfl (aI (az a) (aI (az a2) trivial)) z<|by kernel_rfl
 ·obtain⟨o16,bo16,h⟩:=aG h
  have p18:=fun{sc F} (r:PS sc F)=>p13<|sg 0 c12<|qk 1<|cY (GU a a2 bo16)<|r
  rcases aN h with⟨c17,h⟩|⟨c17,h⟩
  ·obtain rfl:=lf h
   have z:=p18<|sg 0 c17<|en (aI (rP (.bool false))<|trivial)
   exact cH Ie call12 func12 (c:=Pd) rfl (aI (az a) (aI (az a2) trivial)) z<|by kernel_rfl
  ·obtain⟨o26,bo26,h⟩:=aG h
   rcases o26 with o26|o26
   ·obtain rfl:=lf h
    have z:=p18<|sg 0 c17<|cY (e:=.ret) (s1:=jw a a2 (.inl o26)) (tf R36 a a2 0 hR36 bo26)<|en (aI (rP (.bool false))<|trivial)
    exact cH Ie call12 func12 (c:=Pd) rfl (aI (az a) (aI (az a2) trivial)) z<|by kernel_rfl
   ·obtain⟨o40,bo40,h⟩:=aG h
    rcases o40 with o40|o40
    ·obtain rfl:=lf h
     have z:=p18<|sg 0 c17<|cY (e:=.exit 0) (s1:=jw a a2 (.inr o26)) (tf R36 a a2 0 hR36 bo26)<|cY (e:=.ret) (s1:=lw (.inl o40)) (yU R36 a a2 0 hR36 bo40)<|en (aI (rP (.bool false))<|trivial)
     exact cH Ie call12 func12 (c:=Pd) rfl (aI (az a) (aI (az a2) trivial)) z<|by kernel_rfl
    ·obtain rfl:=lf h
     have z:=p18<|sg 0 c17<|cY (e:=.exit 0) (s1:=jw a a2 (.inr o26)) (tf R36 a a2 0 hR36 bo26)<|cY (e:=.exit 2) (s1:=lw (.inr o40)) (yU R36 a a2 0 hR36 bo40)<|en (aI (rP (.bool true))<|trivial)
     exact cH Ie call12 func12 (c:=Pd) rfl (aI (az a) (aI (az a2) trivial)) z<|by kernel_rfl
def B4:((ag×ag)->Option Bool)->(ag×ag)->Option Bool:=fun(rec:(ag×ag)->Option Bool) (x:ag×ag)=>wN (fun a a2=>rec (a,a2)) x.1 x.2
def yL(a:ag)(a2:ag):Option Bool:=uc B4 (a,a2)
theorem yV{a:ag}{a2:ag}{r:Bool}(h:yL a a2=some r):CC Pg GE 12 [.agg (af a),.agg (af a2)] (.bool r) []:=
 fk (F:=B4) (M:=fun(x:ag×ag) (r:Bool)=>CC Pg GE 12 [.agg (af x.1),.agg (af x.2)] (.bool r) []) (fun rec hrec x r h=>JP _ (fun a a2 r h=>hrec (a,a2) r h) h) h
abbrev dY:=(ag->(List (ae×Bool))->Option (Bool×(List (ae×Bool))))
abbrev dW(R:dY):Prop:=∀(e:ag) (k2:(List (ae×Bool))) (r:Bool×(List (ae×Bool))),R e k2=some r->C Pg GE 64 [.agg (af e),.func (.func 99) [] [.bptr 0 0]] [] [.cells [.func (.func 81) [.bptr 1 0] []] [],.cells [.mapr 2] [],.map (aP PVal.bool k2)] (.bool r.1) [] [.cells [.func (.func 81) [.bptr 1 0] []] [],.cells [.mapr 2] [],.map (aP PVal.bool r.2)]
end Go.Proofs.YtkdahfeiedaahaaGreatDoor
