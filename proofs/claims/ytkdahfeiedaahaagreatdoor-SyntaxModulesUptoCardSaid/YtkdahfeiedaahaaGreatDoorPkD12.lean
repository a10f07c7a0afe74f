/- PROVED: a part of the proof. Conditions: none. -/
import Derived.Test.YtkdahfeiedaahaaGreatDoorPkD11
noncomputable section
namespace Go.Proofs.YtkdahfeiedaahaaGreatDoor
open Go Go.Proofs.Tryz
set_option linter.unusedVariables false
set_option maxRecDepth 100000
noncomputable def S2:Code:=f107.body.getD .skip
def SU:List Nat:=[14,21]
theorem Z107:ZF SU 107 f107 S2:=⟨call107,func107,rfl⟩
section
variable(v:Bool)(t8:waE)(t9:Int)(v2:(List ag))(out:waE)(t10:Int)(m:waA)(m2:(List ag))
def bw:aB:=aS 22 [(1,.func (.func 108) [] [.eptr (cB v),.bptr 0 0]),(5,sl au out),(8,sl au t8),(9,.int .i64 t9),(10,.int .i64 t10)] [.cells [.func (.func 105) [] [.bptr 1 0,.eptr ((cL aa) v2),.bptr 3 0]] [],.cells [.func (.func 62) [] [.bptr 2 0],.func (.func 61) [] []] [],.cells [sl cS m] [(0,9)],.cells [sl aa m2] [(0,137)]] [((5,0),85)]
def bX(o:waE×waA×(List ag)):aB:=aS 22 [(5,sl au o.1)] [.cells [.func (.func 105) [] [.bptr 1 0,.eptr ((cL aa) v2),.bptr 3 0]] [],.cells [.func (.func 62) [] [.bptr 2 0],.func (.func 61) [] []] [],.cells [sl cS o.2.1] [(0,9)],.cells [sl aa o.2.2] [(0,137)]] [((5,0),85)]
def dp:Option ((waE×Int×waA×(List ag))⊕((waE×waA×(List ag)))):=
 if(decide (t10<t9))=true then
  (eT t8 t10).bind fun x2=>
  (ew x2 v v2 m m2).bind fun r3=>
  (app out ([r3.1]:List aw)).bind fun l4=>
  some (.inl (l4,bB (t10+1),r3.2.1,r3.2.2))
 else
  some (.inr (out,m,m2))
def dz:Option ((waE×waA×(List ag))):=loop (fun(zz:waE×Int×waA×(List ag))=>dp v t8 t9 v2 zz.1 zz.2.1 zz.2.2.1 zz.2.2.2) (out,t10,m,m2)
theorem fE{y:(waE×Int×waA×(List ag))⊕((waE×waA×(List ag)))}(h:dp v t8 t9 v2 out t10 m m2=some y):aW Pg GE 4 (cA S2 119) (LQ (fun(zz:waE×Int×waA×(List ag))=>bw v t8 t9 v2 zz.1 zz.2.1 zz.2.2.1 zz.2.2.2) (fun _=>.exit 0) (bX v2) y) (bw v t8 t9 v2 out t10 m m2):=by
 rcases aO h with⟨c1,h⟩|⟨c1,h⟩
 ·obtain⟨x2,bx2,r3,br3,l4,bl4,h⟩:=Zb3 h
  obtain rfl:=lf h
  have z:=sg 0 c1<|sv (lH.ia (k:=.i64) bx2)<|sv (Dr x2)<|sx TU<|sx (nb x2)<|sv (LF x2 [])<|si (.cg ⟨[0,1,2,3],[.agg (au x2),.eptr (cB v),.bptr 0 0],[],[.cells [.func (.func 105) [] [.bptr 1 0,.eptr ((cL aa) v2),.bptr 3 0]] [],.cells [.func (.func 62) [] [.bptr 2 0],.func (.func 61) [] []] [],.cells [sl cS m] [(0,9)],.cells [sl aa m2] [(0,137)]],[.cells [.func (.func 105) [] [.bptr 1 0,.eptr ((cL aa) v2),.bptr 3 0]] [],.cells [.func (.func 62) [] [.bptr 2 0],.func (.func 61) [] []] [],.cells [sl cS m] [(0,9)],.cells [sl aa m2] [(0,137)]],[.cells [.func (.func 105) [] [.bptr 1 0,.eptr ((cL aa) v2),.bptr 3 0]] [],.cells [.func (.func 62) [] [.bptr 2 0],.func (.func 61) [] []] [],.cells [sl cS r3.2.1] [(0,9)],.cells [sl aa r3.2.2] [(0,137)]],[.cells [.func (.func 105) [] [.bptr 1 0,.eptr ((cL aa) v2),.bptr 3 0]] [],.cells [.func (.func 62) [] [.bptr 2 0],.func (.func 61) [] []] [],.cells [sl cS r3.2.1] [(0,9)],.cells [sl aa r3.2.2] [(0,137)]],.agg (au r3.1),.agg (au r3.1),[]⟩) (iE br3)<|sf (aI (xR [0,1,2,3] (.agg (au x2)) (aZ x2)) (aI (xR [0,1,2,3] (.eptr (cB v)) (Yo v)) (aI (xB [0,1,2,3] 0 0 0 rfl) trivial)))<|sf (aI (aI (rB (.cells [.func (.func 105) [] [.bptr 1 0,.eptr ((cL aa) v2),.bptr 3 0]] [])) (aI (rW []) (aI (xF [0,1,2,3] (.func 105) [] [.bptr 1 0,.eptr ((cL aa) v2),.bptr 3 0] [] [.bptr 1 0,.eptr ((cL aa) v2),.bptr 3 0] trivial (aI (xB [0,1,2,3] 1 1 0 rfl) (aI (xR [0,1,2,3] (.eptr ((cL aa) v2)) (mP av v2)) (aI (xB [0,1,2,3] 3 3 0 rfl) trivial)))) trivial))) (aI (aI (rB (.cells [.func (.func 62) [] [.bptr 2 0],.func (.func 61) [] []] [])) (aI (rW []) (aI (xF [0,1,2,3] (.func 62) [] [.bptr 2 0] [] [.bptr 2 0] trivial (aI (xB [0,1,2,3] 2 2 0 rfl) trivial)) (aI (xR [0,1,2,3] (.func (.func 61) [] []) (aI trivial trivial)) trivial)))) (aI (aI (rB (.cells [sl cS m] [(0,9)])) (aI (rW [(0,9)]) (aI (xR [0,1,2,3] (sl cS m) (aj bz m)) trivial))) (aI (aI (rB (.cells [sl aa m2] [(0,137)])) (aI (rW [(0,137)]) (aI (xR [0,1,2,3] (sl aa m2) (aj av m2)) trivial))) trivial))))<|sf (aI (aI (rW []) (aI (xF [0,1,2,3] (.func 105) [] [.bptr 1 0,.eptr ((cL aa) v2),.bptr 3 0] [] [.bptr 1 0,.eptr ((cL aa) v2),.bptr 3 0] trivial (aI (xB [0,1,2,3] 1 1 0 rfl) (aI (xR [0,1,2,3] (.eptr ((cL aa) v2)) (mP av v2)) (aI (xB [0,1,2,3] 3 3 0 rfl) trivial)))) trivial)) (aI (aI (rW []) (aI (xF [0,1,2,3] (.func 62) [] [.bptr 2 0] [] [.bptr 2 0] trivial (aI (xB [0,1,2,3] 2 2 0 rfl) trivial)) (aI (xR [0,1,2,3] (.func (.func 61) [] []) (aI trivial trivial)) trivial))) (aI (aI (rW [(0,9)]) (aI (xR [0,1,2,3] (sl cS r3.2.1) (aj bz r3.2.1)) trivial)) (aI (aI (rW [(0,137)]) (aI (xR [0,1,2,3] (sl aa r3.2.2) (aj av r3.2.2)) trivial)) trivial))))<|sf (xR [0,1,2,3] (.agg (au r3.1)) (aZ r3.1))<|sv (lH.mk' (v:=Da) AA ([r3.1]:List aw) 1 (by kernel_rfl))<|sv (lH.ap bl4)<|tr 4 .normal (bw v t8 t9 v2 l4 (bB (t10+1)) r3.2.1 r3.2.2) rfl (du (aI (aI trivial (aI (a8 (Yo v)) (aI (aT rfl) trivial))) (aI (up (aj aZ l4)) (aI (up (aj aZ t8)) (aI trivial (aI trivial trivial)))))) (aI (aI (aI trivial (aI (aT rfl) (aI (a8 (mP av v2)) (aI (aT rfl) trivial)))) trivial) (aI (aI (aI trivial (aI (aT rfl) trivial)) (aI (aI trivial trivial) trivial)) (aI (aI (up (aj bz r3.2.1)) trivial) (aI (aI (up (aj av r3.2.2)) trivial) trivial))))
  exact dy (A:=SU) mixed z<|by kernel_rfl
 ·obtain rfl:=lf h
  have z:=sg 0 c1<|eF (.exit 0) (bX v2 (out,m,m2))
  exact hU SU (Zn rfl) z<|by kernel_rfl
theorem fL{x:(waE×waA×(List ag))}(h:dz v t8 t9 v2 out t10 m m2=some x):aW Pg GE 4 (.loop (cA S2 119)) (EX (.exit 0) (bX v2 x)) (bw v t8 t9 v2 out t10 m m2):=
 ZL h fun _ _ hy=>fE _ _ _ _ _ _ _ _ hy
end
def dK(a:waE)(c:Bool)(c2:(List ag))(k2:waA)(k3:(List ag)):Option (waE×waA×(List ag)):=
 (dz c a (a.length:Int) c2 ([]:List aw) 0 k2 k3).bind fun o5=>
 some (o5.1,o5.2.1,o5.2.2)
theorem gv{a:waE}{c:Bool}{c2:(List ag)}{k2:waA}{k3:(List ag)}{r:waE×waA×(List ag)}(h:dK a c c2 k2 k3=some r):C Pg GE 107 [sl au a,.func (.func 108) [] [.eptr (cB c),.bptr 0 0]] [] [.cells [.func (.func 105) [] [.bptr 1 0,.eptr ((cL aa) c2),.bptr 3 0]] [],.cells [.func (.func 62) [] [.bptr 2 0],.func (.func 61) [] []] [],.cells [sl cS k2] [(0,9)],.cells [sl aa k3] [(0,137)]] (sl au r.1) [(0,85)] [.cells [.func (.func 105) [] [.bptr 1 0,.eptr ((cL aa) c2),.bptr 3 0]] [],.cells [.func (.func 62) [] [.bptr 2 0],.func (.func 61) [] []] [],.cells [sl cS r.2.1] [(0,9)],.cells [sl aa r.2.2] [(0,137)]]:=by
 obtain⟨o5,bo5,h⟩:=ck h
 obtain rfl:=lf h
 have z:=bQ (lH.ln a)<|cT (fL c a (a.length:Int) c2 ([]:List aw) 0 k2 k3 bo5)<|en (aI (rP (sl au o5.1))<|aI (up (n:=4) (aj aZ o5.1))<|aI (rL [.cells [.func (.func 105) [] [.bptr 1 0,.eptr ((cL aa) c2),.bptr 3 0]] [],.cells [.func (.func 62) [] [.bptr 2 0],.func (.func 61) [] []] [],.cells [sl cS o5.2.1] [(0,9)],.cells [sl aa o5.2.2] [(0,137)]])<|(aI (aI (aI trivial (aI (aT (i:=1) (n:=4) rfl) (aI (a8 (n:=4) (mP av c2)) (aI (aT (i:=3) (n:=4) rfl) trivial)))) trivial) (aI (aI (aI trivial (aI (aT (i:=2) (n:=4) rfl) trivial)) (aI (aI trivial trivial) trivial)) (aI (aI (up (n:=4) (aj bz o5.2.1)) trivial) (aI (aI (up (n:=4) (aj av o5.2.2)) trivial) trivial)))))
 exact Z107.g (m:=4) rfl z<|by kernel_rfl
noncomputable def S4:Code:=f110.body.getD .skip
def SX:List Nat:=[24,28]
theorem Z110:ZF SX 110 f110 S4:=⟨call110,func110,rfl⟩
section
variable(t1:(List ag))(v:aJ)(t13:waA)(t14:Int)(m2:waF)(m3:waE)(m4:waD)(m5:waC)(v2:(List ag))(v3:waA)(t15:Int)(m:waA)
def cX:aB:=aS 44 [(1,.eptr ((cL aa) t1)),(2,.bptr 0 0),(3,.eptr (aA v)),(4,.bptr 3 0),(5,sl aa v2),(6,sl cS v3),(13,sl cS t13),(14,.int .i64 t14),(15,.int .i64 t15)] [.cells [.func (.func 62) [] [.bptr 1 0],.func (.func 61) [] []] [],.cells [sl cS m] [(0,9)],.dead,.cells [.str ([]:ae),sl cS ([]:List ae),.int .i64 0,.str ([]:ae),.int .i64 0,sl ac m2,sl au m3,sl aA m4,sl ah m5] [(1,9),(5,28),(6,85),(7,89),(8,60)]] [((6,0),9),((5,0),137)]
def dX(o:(List ag)×waA×waA):aB:=aS 44 [(2,.bptr 0 0),(3,.eptr (aA v)),(4,.bptr 3 0),(5,sl aa o.1),(6,sl cS o.2.1)] [.cells [.func (.func 62) [] [.bptr 1 0],.func (.func 61) [] []] [],.cells [sl cS o.2.2] [(0,9)],.dead,.cells [.str ([]:ae),sl cS ([]:List ae),.int .i64 0,.str ([]:ae),.int .i64 0,sl ac m2,sl au m3,sl aA m4,sl ah m5] [(1,9),(5,28),(6,85),(7,89),(8,60)]] [((6,0),9),((5,0),137)]
def gg:Option (((List ag)×waA×Int×waA)⊕(((List ag)×waA×waA))):=
 if(decide (t15<t14))=true then
  (eT t13 t15).bind fun x3=>
  (ut x3 t1 m).bind fun r4=>
  (app v3 ([r4.1]:List ae)).bind fun l5=>
  (app v2 ([(⟨x3,r4.1⟩:ag)]:List ag)).bind fun l6=>
  some (.inl (l6,l5,bB (t15+1),r4.2))
 else
  some (.inr (v2,v3,m))
def gZ:Option (((List ag)×waA×waA)):=loop (fun(zz:(List ag)×waA×Int×waA)=>gg t1 t13 t14 zz.1 zz.2.1 zz.2.2.1 zz.2.2.2) (v2,v3,t15,m)
theorem ly{y:((List ag)×waA×Int×waA)⊕(((List ag)×waA×waA))}(h:gg t1 t13 t14 v2 v3 t15 m=some y):aW Pg GE 2 (cA S4 247) (LQ (fun(zz:(List ag)×waA×Int×waA)=>cX t1 v t13 t14 m2 m3 m4 m5 zz.1 zz.2.1 zz.2.2.1 zz.2.2.2) (fun _=>.exit 0) (dX v m2 m3 m4 m5) y) (cX t1 v t13 t14 m2 m3 m4 m5 v2 v3 t15 m):=by
 rcases aO h with⟨c2,h⟩|⟨c2,h⟩
 ·obtain⟨x3,bx3,r4,br4,l5,bl5,l6,bl6,h⟩:=Zb4 h
  obtain rfl:=lf h
  exact wJ SX (sg 0 c2<|sv (bN.ia (k:=.i64) bx3)<|sv (b8 AF (.str x3) [])<|ss<|sv (b8 J7 (sl aa t1) [])<|si (.cg ⟨[1],[.str x3,sl aa t1,.bptr 0 0],[],[.cells [sl cS m] [(0,9)]],[.cells [sl cS m] [(0,9)]],[.cells [sl cS r4.2] [(0,9)]],[.cells [sl cS r4.2] [(0,9)]],.str r4.1,.str r4.1,[]⟩) (wQ br4)<|sf (aI (xR [1] (.str x3) trivial) (aI (xR [1] (sl aa t1) (aj av t1)) (aI (xB [1] 0 1 0 rfl) trivial)))<|sf (aI (aI (rB (.cells [sl cS m] [(0,9)])) (aI (rW [(0,9)]) (aI (xR [1] (sl cS m) (aj bz m)) trivial))) trivial)<|sf (aI (aI (rW [(0,9)]) (aI (xR [1] (sl cS r4.2) (aj bz r4.2)) trivial)) trivial)<|sf (xR [1] (.str r4.1) trivial)<|sv (bN.mk' (v:=PVal.str) Ij ([r4.1]:List ae) 1 (by kernel_rfl))<|sv (bN.ap bl5)<|sv (lj x3 r4.1)<|sv (Mc.mk' (v:=oT) pn ([(⟨x3,r4.1⟩:ag)]:List ag) 1 (by kernel_rfl))<|sv (Mc.ap bl6)<|eF .normal (cX t1 v t13 t14 m2 m3 m4 m5 l6 l5 (bB (t15+1)) r4.2))<|by kernel_rfl
 ·obtain rfl:=lf h
  have z:=sg 0 c2<|eF (.exit 0) (dX v m2 m3 m4 m5 (v2,v3,m))
  exact hU SX (Zn rfl) z<|by kernel_rfl
theorem lM{x:((List ag)×waA×waA)}(h:gZ t1 t13 t14 v2 v3 t15 m=some x):aW Pg GE 2 (.loop (cA S4 247)) (EX (.exit 0) (dX v m2 m3 m4 m5 x)) (cX t1 v t13 t14 m2 m3 m4 m5 v2 v3 t15 m):=
 ZL h fun _ _ hy=>ly _ _ _ _ _ _ _ _ _ _ _ _ hy
end
def iR(R21:aY)(a:aJ)(a2:(List ag))(k1:waA):Option (aJ×waA):=
 (pC a2).bind fun r1=>
 (gZ a2 a.Names (a.Names.length:Int) r1 ([]:List ae) 0 k1).bind fun o7=>
 (R21 a.Body o7.1 o7.2.2).bind fun r8=>
 some ((⟨a.Con,o7.2.1,r8.1⟩:aJ),r8.2)
theorem nh(R21:aY)(hR21:bG R21){a:aJ}{a2:(List ag)}{k1:waA}{r:aJ×waA}(h:iR R21 a a2 k1=some r):C Pg GE 110 [.agg (aA a),.eptr ((cL aa) a2),.bptr 0 0] [] [.cells [.func (.func 62) [] [.bptr 1 0],.func (.func 61) [] []] [],.cells [sl cS k1] [(0,9)]] (.agg (aA r.1)) [] [.cells [.func (.func 62) [] [.bptr 1 0],.func (.func 61) [] []] [],.cells [sl cS r.2] [(0,9)]]:=by
 obtain⟨r1,br1,o7,bo7,r8,br8,h⟩:=Zb3 h
 obtain rfl:=lf h
 have z:=se (Ph a)<|sx Io<|sv (b8 J7 (sl aa a2) [])<|cD (xN br1)<|sv (qy a)<|sv (qE a)<|bQ (bN.ln a.Names)<|cT (lM a2 a a.Names (a.Names.length:Int) ([]:List af) ([]:List aw) ([]:List aJ) ([]:List ai) r1 ([]:List ae) 0 k1 bo7)<|X8 (.dx [0,1,0,0,0,16,0,120,255,511] [] [] [11,293,337])<|sv (Aq a)<|sv (Cn a)<|sv (show bo Pg 95 [.func (.func 62) [] [.bptr 1 0],.func (.func 61) [] []]=some (.agg [.func (.func 62) [] [.bptr 1 0],.func (.func 61) [] []]) by kernel_rfl)<|sv (qz a)<|sv (qF a)<|si (.cg ⟨[1],[.agg [.func (.func 62) [] [.bptr 0 0],.func (.func 61) [] []],.agg (ac a.Body),sl aa o7.1],[],[.cells [sl cS o7.2.2] [(0,9)]],[.cells [sl cS o7.2.2] [(0,9)]],[.cells [sl cS r8.2] [(0,9)]],[.cells [sl cS r8.2] [(0,9)]],.agg (ac r8.1),.agg (ac r8.1),[(3,28),(4,85),(5,89),(6,60)]⟩) (hR21 _ _ _ _ br8)<|sf (aI (xA [1] [.func (.func 62) [] [.bptr 1 0],.func (.func 61) [] []] [.func (.func 62) [] [.bptr 0 0],.func (.func 61) [] []] (aI (xF [1] (.func 62) [] [.bptr 1 0] [] [.bptr 0 0] trivial (aI (xB [1] 0 1 0 rfl) trivial)) (aI (xR [1] (.func (.func 61) [] []) (aI trivial trivial)) trivial))) (aI (xR [1] (.agg (ac a.Body)) (az a.Body)) (aI (xR [1] (sl aa o7.1) (aj av o7.1)) trivial)))<|sf (aI (aI (rB (.cells [sl cS o7.2.2] [(0,9)])) (aI (rW [(0,9)]) (aI (xR [1] (sl cS o7.2.2) (aj bz o7.2.2)) trivial))) trivial)<|sf (aI (aI (rW [(0,9)]) (aI (xR [1] (sl cS r8.2) (aj bz r8.2)) trivial)) trivial)<|sf (xR [1] (.agg (ac r8.1)) (az r8.1))<|sv (Ef a.Con o7.2.1 r8.1)<|sx (i7 (⟨a.Con,o7.2.1,r8.1⟩:aJ))<|en (aI (QV (⟨a.Con,o7.2.1,r8.1⟩:aJ))<|aI (ZD (n:=2) (bF (⟨a.Con,o7.2.1,r8.1⟩:aJ)))<|aI (rL [.cells [.func (.func 62) [] [.bptr 1 0],.func (.func 61) [] []] [],.cells [sl cS r8.2] [(0,9)]])<|(aI (aI (aI trivial (aI (aT (i:=1) (n:=2) rfl) trivial)) (aI (aI trivial trivial) trivial)) (aI (aI (up (n:=2) (aj bz r8.2)) trivial) trivial)))
 exact Z110.g (m:=2) rfl z<|by kernel_rfl
noncomputable def S3:Code:=f109.body.getD .skip
def SW:List Nat:=[14,21]
theorem Z109:ZF SW 109 f109 S3:=⟨call109,func109,rfl⟩
section
variable(R21:aY)(v:(List ag))(t8:waD)(t9:Int)(out:waD)(t10:Int)(m:waA)
def cq:aB:=aS 22 [(1,.func (.func 110) [] [.eptr ((cL aa) v),.bptr 0 0]),(5,sl aA out),(8,sl aA t8),(9,.int .i64 t9),(10,.int .i64 t10)] [.cells [.func (.func 62) [] [.bptr 1 0],.func (.func 61) [] []] [],.cells [sl cS m] [(0,9)]] [((5,0),89)]
def dt(o:waD×waA):aB:=aS 22 [(5,sl aA o.1)] [.cells [.func (.func 62) [] [.bptr 1 0],.func (.func 61) [] []] [],.cells [sl cS o.2] [(0,9)]] [((5,0),89)]
def fl:Option ((waD×Int×waA)⊕((waD×waA))):=
 if(decide (t10<t9))=true then
  (eT t8 t10).bind fun x2=>
  (iR R21 x2 v m).bind fun r3=>
  (app out ([r3.1]:List aJ)).bind fun l4=>
  some (.inl (l4,bB (t10+1),r3.2))
 else
  some (.inr (out,m))
def fw:Option ((waD×waA)):=loop (fun(zz:waD×Int×waA)=>fl R21 v t8 t9 zz.1 zz.2.1 zz.2.2) (out,t10,m)
theorem jY(hR21:bG R21){y:(waD×Int×waA)⊕((waD×waA))}(h:fl R21 v t8 t9 out t10 m=some y):aW Pg GE 2 (cA S3 119) (LQ (fun(zz:waD×Int×waA)=>cq v t8 t9 zz.1 zz.2.1 zz.2.2) (fun _=>.exit 0) dt y) (cq v t8 t9 out t10 m):=by
 rcases aO h with⟨c1,h⟩|⟨c1,h⟩
 ·obtain⟨x2,bx2,r3,br3,l4,bl4,h⟩:=Zb3 h
  obtain rfl:=lf h
  have z:=sg 0 c1<|sv (eZ.ia (k:=.i64) bx2)<|sv (mA x2)<|sx Io<|sx (i7 x2)<|sv (Qq x2 [])<|si (.cg ⟨[0,1],[.agg (aA x2),.eptr ((cL aa) v),.bptr 0 0],[],[.cells [.func (.func 62) [] [.bptr 1 0],.func (.func 61) [] []] [],.cells [sl cS m] [(0,9)]],[.cells [.func (.func 62) [] [.bptr 1 0],.func (.func 61) [] []] [],.cells [sl cS m] [(0,9)]],[.cells [.func (.func 62) [] [.bptr 1 0],.func (.func 61) [] []] [],.cells [sl cS r3.2] [(0,9)]],[.cells [.func (.func 62) [] [.bptr 1 0],.func (.func 61) [] []] [],.cells [sl cS r3.2] [(0,9)]],.agg (aA r3.1),.agg (aA r3.1),[]⟩) (nh R21 hR21 br3)<|sf (aI (xR [0,1] (.agg (aA x2)) (bF x2)) (aI (xR [0,1] (.eptr ((cL aa) v)) (mP av v)) (aI (xB [0,1] 0 0 0 rfl) trivial)))<|sf (aI (aI (rB (.cells [.func (.func 62) [] [.bptr 1 0],.func (.func 61) [] []] [])) (aI (rW []) (aI (xF [0,1] (.func 62) [] [.bptr 1 0] [] [.bptr 1 0] trivial (aI (xB [0,1] 1 1 0 rfl) trivial)) (aI (xR [0,1] (.func (.func 61) [] []) (aI trivial trivial)) trivial)))) (aI (aI (rB (.cells [sl cS m] [(0,9)])) (aI (rW [(0,9)]) (aI (xR [0,1] (sl cS m) (aj bz m)) trivial))) trivial))<|sf (aI (aI (rW []) (aI (xF [0,1] (.func 62) [] [.bptr 1 0] [] [.bptr 1 0] trivial (aI (xB [0,1] 1 1 0 rfl) trivial)) (aI (xR [0,1] (.func (.func 61) [] []) (aI trivial trivial)) trivial))) (aI (aI (rW [(0,9)]) (aI (xR [0,1] (sl cS r3.2) (aj bz r3.2)) trivial)) trivial))<|sf (xR [0,1] (.agg (aA r3.1)) (bF r3.1))<|sv (eZ.mk' (v:=Sb) QD ([r3.1]:List aJ) 1 (by kernel_rfl))<|sv (eZ.ap bl4)<|tr 2 .normal (cq v t8 t9 l4 (bB (t10+1)) r3.2) rfl (du (aI (aI trivial (aI (a8 (mP av v)) (aI (aT rfl) trivial))) (aI (up (aj bF l4)) (aI (up (aj bF t8)) (aI trivial (aI trivial trivial)))))) (aI (aI (aI trivial (aI (aT rfl) trivial)) (aI (aI trivial trivial) trivial)) (aI (aI (up (aj bz r3.2)) trivial) trivial))
  exact dy (A:=SW) mixed z<|by kernel_rfl
 ·obtain rfl:=lf h
  have z:=sg 0 c1<|eF (.exit 0) (dt (out,m))
  exact hU SW (Zn rfl) z<|by kernel_rfl
theorem ke(hR21:bG R21){x:(waD×waA)}(h:fw R21 v t8 t9 out t10 m=some x):aW Pg GE 2 (.loop (cA S3 119)) (EX (.exit 0) (dt x)) (cq v t8 t9 out t10 m):=
 ZL h fun _ _ hy=>jY _ _ _ _ _ _ _ hR21 hy
end
def gd(R21:aY)(a:waD)(c:(List ag))(k1:waA):Option (waD×waA):=
 (fw R21 c a (a.length:Int) ([]:List aJ) 0 k1).bind fun o5=>
 some (o5.1,o5.2)
theorem kR(R21:aY)(hR21:bG R21){a:waD}{c:(List ag)}{k1:waA}{r:waD×waA}(h:gd R21 a c k1=some r):C Pg GE 109 [sl aA a,.func (.func 110) [] [.eptr ((cL aa) c),.bptr 0 0]] [] [.cells [.func (.func 62) [] [.bptr 1 0],.func (.func 61) [] []] [],.cells [sl cS k1] [(0,9)]] (sl aA r.1) [(0,89)] [.cells [.func (.func 62) [] [.bptr 1 0],.func (.func 61) [] []] [],.cells [sl cS r.2] [(0,9)]]:=by
 obtain⟨o5,bo5,h⟩:=ck h
 obtain rfl:=lf h
 have z:=bQ (eZ.ln a)<|cT (ke R21 c a (a.length:Int) ([]:List aJ) 0 k1 hR21 bo5)<|en (aI (rP (sl aA o5.1))<|aI (up (n:=2) (aj bF o5.1))<|aI (rL [.cells [.func (.func 62) [] [.bptr 1 0],.func (.func 61) [] []] [],.cells [sl cS o5.2] [(0,9)]])<|(aI (aI (aI trivial (aI (aT (i:=1) (n:=2) rfl) trivial)) (aI (aI trivial trivial) trivial)) (aI (aI (up (n:=2) (aj bz o5.2)) trivial) trivial)))
 exact Z109.g (m:=2) rfl z<|by kernel_rfl
noncomputable def VP:Code:=f56.body.getD .skip
def Nl:List Nat:=[33,63,73,80,88]
theorem Z56:ZF Nl 56 f56 VP:=⟨call56,func56,rfl⟩
section
variable(scope:(List ag))(m:waA)(m2:Int)(m3:ae)(m4:Int)(m5:waF)(m6:waE)(m7:waD)(m8:waC)(m9:waF)(m10:waE)(m11:waD)(m12:waC)(m13:(List ag))
def ni:aB:=aS 96 [(3,.bptr 1 0),(4,.bptr 2 0),(5,.eptr ((cL aa) scope)),(6,.bptr 4 0),(7,.bptr 5 0),(8,.bptr 6 0)] [.cells [sl cS m] [(0,9)],.cells [.func (.func 62) [] [.bptr 0 0],.func (.func 61) [] []] [],.cells [.int .i64 m2,.str m3,.int .i64 m4,sl ac m5,sl au m6,sl aA m7,sl ah m8] [(6,60)],.dead,.cells [.int .i64 0,.str ([]:ae),.int .i64 0,sl ac m9,sl au m10,sl aA m11,sl ah m12] [(3,28),(4,85),(5,89),(6,60)],.cells [sl aa m13] [(0,137)],.cells [.func (.func 105) [] [.bptr 1 0,.eptr ((cL aa) scope),.bptr 5 0]] []] []
def cm(o:waA×ae×(List ag)):aB:=aS 96 [(3,.bptr 1 0),(4,.bptr 2 0),(5,.eptr ((cL aa) scope)),(6,.bptr 4 0),(7,.bptr 5 0),(8,.bptr 6 0)] [.cells [sl cS o.1] [(0,9)],.cells [.func (.func 62) [] [.bptr 0 0],.func (.func 61) [] []] [],.cells [.int .i64 m2,.str o.2.1,.int .i64 m4,sl ac m5,sl au m6,sl aA m7,sl ah m8] [(6,60)],.dead,.cells [.int .i64 0,.str ([]:ae),.int .i64 0,sl ac m9,sl au m10,sl aA m11,sl ah m12] [(3,28),(4,85),(5,89),(6,60)],.cells [sl aa o.2.2] [(0,137)],.cells [.func (.func 105) [] [.bptr 1 0,.eptr ((cL aa) scope),.bptr 5 0]] []] []
def iF:Option ((waA×ae×(List ag))):=
 (fj (⟨m2,m3,m4,m5,m6,m7,m8⟩:af)).bind fun r3=>
 if r3=true then
  (yk scope m3).bind fun r6=>
  if r6.2=true then
   some (m,r6.1,m13)
  else
   (Jl m3).bind fun r9=>
   some (m,r9,m13)
 else
  if(m2==7)=true then
   (fc m3 scope m m13).bind fun r12=>
   some (r12.2.1,r12.1,r12.2.2)
  else
   some (m,m3,m13)
theorem mQ{x:(waA×ae×(List ag))}(h:iF scope m m2 m3 m4 m5 m6 m7 m8 m13=some x):aW Pg GE 1 (cA VP 62) (EX .normal (cm scope m2 m4 m5 m6 m7 m8 m9 m10 m11 m12 x)) (ni scope m m2 m3 m4 m5 m6 m7 m8 m9 m10 m11 m12 m13):=by
 obtain⟨r3,br3,h⟩:=ck h
 have p5:=fun{sc F} (r:PS sc F)=>sv (bW (⟨m2,m3,m4,m5,m6,m7,m8⟩:af) [])<|cD (jj br3)<|r
 rcases aO h with⟨c4,h⟩|⟨c4,h⟩
 ·obtain⟨r6,br6,h⟩:=ck h
  have p8:=fun{sc F} (r:PS sc F)=>p5<|sg 0 c4<|sv (b8 J7 (sl aa scope) [])<|ss<|cD (CW br6)<|r
  rcases aO h with⟨c7,h⟩|⟨c7,h⟩
  ·obtain rfl:=lf h
   exact bv Nl (p8<|sg 0 c7<|ss<|eF .normal (cm scope m2 m4 m5 m6 m7 m8 m9 m10 m11 m12 (m,r6.1,m13)))<|by kernel_rfl
  ·obtain⟨r9,br9,h⟩:=ck h
   obtain rfl:=lf h
   exact bv Nl (p8<|sg 0 c7<|ss<|ss<|cD (Mm br9)<|ss<|eF .normal (cm scope m2 m4 m5 m6 m7 m8 m9 m10 m11 m12 (m,r9,m13)))<|by kernel_rfl
 ·have p11:=fun{sc F} (r:PS sc F)=>p5<|sg 0 c4<|ss<|r
  rcases aO h with⟨c10,h⟩|⟨c10,h⟩
  ·obtain⟨r12,br12,h⟩:=ck h
   obtain rfl:=lf h
   exact bv Nl (p11<|sg 0 c10<|ss<|ss<|si (.cg ⟨[1,0,5],[.str m3,.bptr 0 0,.eptr ((cL aa) scope),.bptr 2 0],[],[.cells [.func (.func 62) [] [.bptr 0 0],.func (.func 61) [] []] [],.cells [sl cS m] [(0,9)],.cells [sl aa m13] [(0,137)]],[.cells [.func (.func 62) [] [.bptr 1 0],.func (.func 61) [] []] [],.cells [sl cS m] [(0,9)],.cells [sl aa m13] [(0,137)]],[.cells [.func (.func 62) [] [.bptr 0 0],.func (.func 61) [] []] [],.cells [sl cS r12.2.1] [(0,9)],.cells [sl aa r12.2.2] [(0,137)]],[.cells [.func (.func 62) [] [.bptr 1 0],.func (.func 61) [] []] [],.cells [sl cS r12.2.1] [(0,9)],.cells [sl aa r12.2.2] [(0,137)]],.str r12.1,.str r12.1,[]⟩) (gX br12)<|sf (aI (xR [1,0,5] (.str m3) trivial) (aI (xB [1,0,5] 0 1 0 rfl) (aI (xR [1,0,5] (.eptr ((cL aa) scope)) (mP av scope)) (aI (xB [1,0,5] 2 5 0 rfl) trivial))))<|sf (aI (aI (rB (.cells [.func (.func 62) [] [.bptr 0 0],.func (.func 61) [] []] [])) (aI (rW []) (aI (xF [1,0,5] (.func 62) [] [.bptr 0 0] [] [.bptr 1 0] trivial (aI (xB [1,0,5] 1 0 0 rfl) trivial)) (aI (xR [1,0,5] (.func (.func 61) [] []) (aI trivial trivial)) trivial)))) (aI (aI (rB (.cells [sl cS m] [(0,9)])) (aI (rW [(0,9)]) (aI (xR [1,0,5] (sl cS m) (aj bz m)) trivial))) (aI (aI (rB (.cells [sl aa m13] [(0,137)])) (aI (rW [(0,137)]) (aI (xR [1,0,5] (sl aa m13) (aj av m13)) trivial))) trivial)))<|sf (aI (aI (rW []) (aI (xF [1,0,5] (.func 62) [] [.bptr 0 0] [] [.bptr 1 0] trivial (aI (xB [1,0,5] 1 0 0 rfl) trivial)) (aI (xR [1,0,5] (.func (.func 61) [] []) (aI trivial trivial)) trivial))) (aI (aI (rW [(0,9)]) (aI (xR [1,0,5] (sl cS r12.2.1) (aj bz r12.2.1)) trivial)) (aI (aI (rW [(0,137)]) (aI (xR [1,0,5] (sl aa r12.2.2) (aj av r12.2.2)) trivial)) trivial)))<|sf (xR [1,0,5] (.str r12.1) trivial)<|ss<|eF .normal (cm scope m2 m4 m5 m6 m7 m8 m9 m10 m11 m12 (r12.2.1,r12.1,r12.2.2)))<|by kernel_rfl
  ·obtain rfl:=lf h
   exact bv Nl (p11<|sg 0 c10<|eF .normal (cm scope m2 m4 m5 m6 m7 m8 m9 m10 m11 m12 (m,m3,m13)))<|by kernel_rfl
end
section
variable(scope:(List ag))(kids:waF)(i:Int)(t59:waF)(t60:Int)(m:waA)(m2:Int)(m3:ae)(m4:Int)(m5:waE)(m6:waD)(m7:waC)(m8:waF)(m9:waE)(m10:waD)(m11:waC)(m12:(List ag))(m13:Int)(m14:ae)(m15:Int)(m16:waF)(m17:waE)(m18:waD)(m19:waC)
def nj:aB:=aS 96 [(3,.bptr 1 0),(4,.bptr 2 0),(5,.eptr ((cL aa) scope)),(6,.bptr 4 0),(7,.bptr 5 0),(12,sl ac kids),(13,.int .i64 i),(14,.bptr 8 0),(59,sl ac t59),(60,.int .i64 t60),(61,.int .i64 i)] [.cells [sl cS m] [(0,9)],.cells [.func (.func 62) [] [.bptr 0 0],.func (.func 61) [] []] [],.cells [.int .i64 m2,.str m3,.int .i64 m4,sl ac t59,sl au m5,sl aA m6,sl ah m7] [(4,85),(6,60)],.dead,.cells [.int .i64 0,.str ([]:ae),.int .i64 0,sl ac m8,sl au m9,sl aA m10,sl ah m11] [(3,28),(4,85),(5,89),(6,60)],.cells [sl aa m12] [(0,137)],.cells [.func (.func 105) [] [.bptr 1 0,.eptr ((cL aa) scope),.bptr 5 0]] [],.dead,.cells [.int .i64 m13,.str m14,.int .i64 m15,sl ac m16,sl au m17,sl aA m18,sl ah m19] []] [((12,0),28)]
def ey(o:Bool):aB:=aS 96 [(3,.bptr 1 0),(4,.bptr 2 0),(5,.eptr ((cL aa) scope)),(6,.bptr 4 0),(7,.bptr 5 0),(12,sl ac kids),(14,.bptr 8 0),(59,sl ac t59),(60,.int .i64 t60),(61,.int .i64 i),(72,.bool o)] [.cells [sl cS m] [(0,9)],.cells [.func (.func 62) [] [.bptr 0 0],.func (.func 61) [] []] [],.cells [.int .i64 m2,.str m3,.int .i64 m4,sl ac t59,sl au m5,sl aA m6,sl ah m7] [(4,85),(6,60)],.dead,.cells [.int .i64 0,.str ([]:ae),.int .i64 0,sl ac m8,sl au m9,sl aA m10,sl ah m11] [(3,28),(4,85),(5,89),(6,60)],.cells [sl aa m12] [(0,137)],.cells [.func (.func 105) [] [.bptr 1 0,.eptr ((cL aa) scope),.bptr 5 0]] [],.dead,.cells [.int .i64 m13,.str m14,.int .i64 m15,sl ac m16,sl au m17,sl aA m18,sl ah m19] []] [((12,0),28)]
def iG:Option Bool:=
 if(m2==7)=true then
  some (i==0)
 else
  some false
theorem mR{x:Bool}(h:iG i m2=some x):aW Pg GE 1 (cA VP 523766) (EX .normal (ey scope kids i t59 t60 m m2 m3 m4 m5 m6 m7 m8 m9 m10 m11 m12 m13 m14 m15 m16 m17 m18 m19 x)) (nj scope kids i t59 t60 m m2 m3 m4 m5 m6 m7 m8 m9 m10 m11 m12 m13 m14 m15 m16 m17 m18 m19):=by
 rcases aO h with⟨c17,h⟩|⟨c17,h⟩
 ·obtain rfl:=lf h
  exact bv Nl (ss<|sg 4 c17<|eF .normal (ey scope kids i t59 t60 m m2 m3 m4 m5 m6 m7 m8 m9 m10 m11 m12 m13 m14 m15 m16 m17 m18 m19 (i==0)))<|by kernel_rfl
 ·obtain rfl:=lf h
  exact bv Nl (ss<|sg 4 c17<|eF .normal (ey scope kids i t59 t60 m m2 m3 m4 m5 m6 m7 m8 m9 m10 m11 m12 m13 m14 m15 m16 m17 m18 m19 false))<|by kernel_rfl
end
section
variable(R21:aY)(scope:(List ag))(t59:waF)(t60:Int)(m2:Int)(m3:ae)(m4:Int)(m5:waE)(m6:waD)(m7:waC)(m8:waF)(m9:waE)(m10:waD)(m11:waC)(m12:(List ag))(kids:waF)(t61:Int)(m:waA)
def co:aB:=aS 96 [(3,.bptr 1 0),(4,.bptr 2 0),(5,.eptr ((cL aa) scope)),(6,.bptr 4 0),(7,.bptr 5 0),(12,sl ac kids),(59,sl ac t59),(60,.int .i64 t60),(61,.int .i64 t61)] [.cells [sl cS m] [(0,9)],.cells [.func (.func 62) [] [.bptr 0 0],.func (.func 61) [] []] [],.cells [.int .i64 m2,.str m3,.int .i64 m4,sl ac t59,sl au m5,sl aA m6,sl ah m7] [(4,85),(6,60)],.dead,.cells [.int .i64 0,.str ([]:ae),.int .i64 0,sl ac m8,sl au m9,sl aA m10,sl ah m11] [(3,28),(4,85),(5,89),(6,60)],.cells [sl aa m12] [(0,137)],.cells [.func (.func 105) [] [.bptr 1 0,.eptr ((cL aa) scope),.bptr 5 0]] [],.dead] [((12,0),28)]
def ez(o:waF×waA):aB:=aS 96 [(3,.bptr 1 0),(4,.bptr 2 0),(5,.eptr ((cL aa) scope)),(6,.bptr 4 0),(12,sl ac o.1)] [.cells [sl cS o.2] [(0,9)],.cells [.func (.func 62) [] [.bptr 0 0],.func (.func 61) [] []] [],.cells [.int .i64 m2,.str m3,.int .i64 m4,sl ac t59,sl au m5,sl aA m6,sl ah m7] [(4,85),(6,60)],.dead,.cells [.int .i64 0,.str ([]:ae),.int .i64 0,sl ac m8,sl au m9,sl aA m10,sl ah m11] [(3,28),(4,85),(5,89),(6,60)],.cells [sl aa m12] [(0,137)],.cells [.func (.func 105) [] [.bptr 1 0,.eptr ((cL aa) scope),.bptr 5 0]] [],.dead] [((12,0),28)]
def g5:Option ((waF×Int×waA)⊕((waF×waA))):=
 if(decide (t61<t60))=true then
  (eT t59 t61).bind fun x16=>
  (iG t61 m2).bind fun o18=>
  if o18=true then
   (R21 x16 scope m).bind fun r21=>
   (app kids ([r21.1]:List af)).bind fun l22=>
   some (.inl (l22,bB (t61+1),r21.2))
  else
   (R21 x16 m12 m).bind fun r23=>
   (app kids ([r23.1]:List af)).bind fun l24=>
   some (.inl (l24,bB (t61+1),r23.2))
 else
  some (.inr (kids,m))
def iH:Option ((waF×waA)):=loop (fun(zz:waF×Int×waA)=>g5 R21 scope t59 t60 m2 m12 zz.1 zz.2.1 zz.2.2) (kids,t61,m)
theorem mn(hR21:bG R21){y:(waF×Int×waA)⊕((waF×waA))}(h:g5 R21 scope t59 t60 m2 m12 kids t61 m=some y):aW Pg GE 1 (cA VP 8183) (LQ (fun(zz:waF×Int×waA)=>co scope t59 t60 m2 m3 m4 m5 m6 m7 m8 m9 m10 m11 m12 zz.1 zz.2.1 zz.2.2) (fun _=>.exit 1) (ez scope t59 m2 m3 m4 m5 m6 m7 m8 m9 m10 m11 m12) y) (co scope t59 t60 m2 m3 m4 m5 m6 m7 m8 m9 m10 m11 m12 kids t61 m):=by
 rcases aO h with⟨c15,h⟩|⟨c15,h⟩
 ·obtain⟨x16,bx16,o18,bo18,h⟩:=Zb2 h
  have p20:=fun{sc F} (r:PS sc F)=>sg 0 c15<|sv (fQ.ia (k:=.i64) bx16)<|sv (bM x16)<|sx AD<|sx (kF x16)<|nF 0<|cT (mR scope kids t61 t59 t60 m m2 m3 m4 m5 m6 m7 m8 m9 m10 m11 m12 x16.Op x16.Name x16.N x16.Kids x16.Params x16.Alts x16.Types bo18)<|r
  rcases aO h with⟨c19,h⟩|⟨c19,h⟩
  ·obtain⟨r21,br21,l22,bl22,h⟩:=Zb2 h
   obtain rfl:=lf h
   have z:=p20<|sg 0 c19<|sv (show bo Pg 95 [.func (.func 62) [] [.bptr 0 0],.func (.func 61) [] []]=some (.agg [.func (.func 62) [] [.bptr 0 0],.func (.func 61) [] []]) by kernel_rfl)<|sv (bW x16 [])<|sv (b8 J7 (sl aa scope) [])<|si (.cg ⟨[0],[.agg [.func (.func 62) [] [.bptr 0 0],.func (.func 61) [] []],.agg (ac x16),sl aa scope],[],[.cells [sl cS m] [(0,9)]],[.cells [sl cS m] [(0,9)]],[.cells [sl cS r21.2] [(0,9)]],[.cells [sl cS r21.2] [(0,9)]],.agg (ac r21.1),.agg (ac r21.1),[(3,28),(4,85),(5,89),(6,60)]⟩) (hR21 _ _ _ _ br21)<|sf (aI (xA [0] [.func (.func 62) [] [.bptr 0 0],.func (.func 61) [] []] [.func (.func 62) [] [.bptr 0 0],.func (.func 61) [] []] (aI (xF [0] (.func 62) [] [.bptr 0 0] [] [.bptr 0 0] trivial (aI (xB [0] 0 0 0 rfl) trivial)) (aI (xR [0] (.func (.func 61) [] []) (aI trivial trivial)) trivial))) (aI (xR [0] (.agg (ac x16)) (az x16)) (aI (xR [0] (sl aa scope) (aj av scope)) trivial)))<|sf (aI (aI (rB (.cells [sl cS m] [(0,9)])) (aI (rW [(0,9)]) (aI (xR [0] (sl cS m) (aj bz m)) trivial))) trivial)<|sf (aI (aI (rW [(0,9)]) (aI (xR [0] (sl cS r21.2) (aj bz r21.2)) trivial)) trivial)<|sf (xR [0] (.agg (ac r21.1)) (az r21.1))<|sv (fQ.mk' (v:=pA) kE ([r21.1]:List af) 1 (by kernel_rfl))<|sv (fQ.ap bl22)<|tr 1 .normal (co scope t59 t60 m2 m3 m4 m5 m6 m7 m8 m9 m10 m11 m12 l22 (bB (t61+1)) r21.2) rfl (du (aI (aT rfl) (aI (aT rfl) (aI (a8 (mP av scope)) (aI (aT rfl) (aI (aT rfl) (aI (up (aj az l22)) (aI (up (aj az t59)) (aI trivial (aI trivial trivial)))))))))) (aI (aI (up (aj bz r21.2)) trivial) (aI (aI (aI trivial (aI (aT rfl) trivial)) (aI (aI trivial trivial) trivial)) (aI (aI trivial (aI trivial (aI trivial (aI (up (aj az t59)) (aI (up (aj aZ m5)) (aI (up (aj bF m6)) (aI (up (aj aF m7)) trivial))))))) (aI trivial (aI (aI trivial (aI trivial (aI trivial (aI (up (aj az m8)) (aI (up (aj aZ m9)) (aI (up (aj bF m10)) (aI (up (aj aF m11)) trivial))))))) (aI (aI (up (aj av m12)) trivial) (aI (aI (aI trivial (aI (aT rfl) (aI (a8 (mP av scope)) (aI (aT rfl) trivial)))) trivial) (aI trivial trivial))))))))
   exact dy (A:=Nl) mixed z<|by kernel_rfl
  ·obtain⟨r23,br23,l24,bl24,h⟩:=Zb2 h
   obtain rfl:=lf h
   have z:=p20<|sg 0 c19<|sv (show bo Pg 95 [.func (.func 62) [] [.bptr 0 0],.func (.func 61) [] []]=some (.agg [.func (.func 62) [] [.bptr 0 0],.func (.func 61) [] []]) by kernel_rfl)<|sv (bW x16 [])<|ss<|si (.cg ⟨[0],[.agg [.func (.func 62) [] [.bptr 0 0],.func (.func 61) [] []],.agg (ac x16),sl aa m12],[],[.cells [sl cS m] [(0,9)]],[.cells [sl cS m] [(0,9)]],[.cells [sl cS r23.2] [(0,9)]],[.cells [sl cS r23.2] [(0,9)]],.agg (ac r23.1),.agg (ac r23.1),[(3,28),(4,85),(5,89),(6,60)]⟩) (hR21 _ _ _ _ br23)<|sf (aI (xA [0] [.func (.func 62) [] [.bptr 0 0],.func (.func 61) [] []] [.func (.func 62) [] [.bptr 0 0],.func (.func 61) [] []] (aI (xF [0] (.func 62) [] [.bptr 0 0] [] [.bptr 0 0] trivial (aI (xB [0] 0 0 0 rfl) trivial)) (aI (xR [0] (.func (.func 61) [] []) (aI trivial trivial)) trivial))) (aI (xR [0] (.agg (ac x16)) (az x16)) (aI (xR [0] (sl aa m12) (aj av m12)) trivial)))<|sf (aI (aI (rB (.cells [sl cS m] [(0,9)])) (aI (rW [(0,9)]) (aI (xR [0] (sl cS m) (aj bz m)) trivial))) trivial)<|sf (aI (aI (rW [(0,9)]) (aI (xR [0] (sl cS r23.2) (aj bz r23.2)) trivial)) trivial)<|sf (xR [0] (.agg (ac r23.1)) (az r23.1))<|sv (fQ.mk' (v:=pA) kE ([r23.1]:List af) 1 (by kernel_rfl))<|sv (fQ.ap bl24)<|tr 1 .normal (co scope t59 t60 m2 m3 m4 m5 m6 m7 m8 m9 m10 m11 m12 l24 (bB (t61+1)) r23.2) rfl (du (aI (aT rfl) (aI (aT rfl) (aI (a8 (mP av scope)) (aI (aT rfl) (aI (aT rfl) (aI (up (aj az l24)) (aI (up (aj az t59)) (aI trivial (aI trivial trivial)))))))))) (aI (aI (up (aj bz r23.2)) trivial) (aI (aI (aI trivial (aI (aT rfl) trivial)) (aI (aI trivial trivial) trivial)) (aI (aI trivial (aI trivial (aI trivial (aI (up (aj az t59)) (aI (up (aj aZ m5)) (aI (up (aj bF m6)) (aI (up (aj aF m7)) trivial))))))) (aI trivial (aI (aI trivial (aI trivial (aI trivial (aI (up (aj az m8)) (aI (up (aj aZ m9)) (aI (up (aj bF m10)) (aI (up (aj aF m11)) trivial))))))) (aI (aI (up (aj av m12)) trivial) (aI (aI (aI trivial (aI (aT rfl) (aI (a8 (mP av scope)) (aI (aT rfl) trivial)))) trivial) (aI trivial trivial))))))))
   exact dy (A:=Nl) mixed z<|by kernel_rfl
 ·obtain rfl:=lf h
  have z:=sg 0 c15<|eF (.exit 1) (ez scope t59 m2 m3 m4 m5 m6 m7 m8 m9 m10 m11 m12 (kids,m))
  exact hU Nl (Zn rfl) z<|by kernel_rfl
theorem mS(hR21:bG R21){x:(waF×waA)}(h:iH R21 scope t59 t60 m2 m12 kids t61 m=some x):aW Pg GE 1 (.loop (cA VP 8183)) (EX (.exit 1) (ez scope t59 m2 m3 m4 m5 m6 m7 m8 m9 m10 m11 m12 x)) (co scope t59 t60 m2 m3 m4 m5 m6 m7 m8 m9 m10 m11 m12 kids t61 m):=
 ZL h fun _ _ hy=>mn _ _ _ _ _ _ _ _ _ _ _ _ _ _ _ _ _ _ hR21 hy
end
def iS(R21:aY)(e:af)(scope:(List ag))(k0:waA):Option (af×waA):=
 (dW e.Types).bind fun r1=>
 (pC scope).bind fun r2=>
 (iF scope k0 e.Op e.Name e.N e.Kids e.Params e.Alts r1 r2).bind fun o13=>
 (dK e.Params (e.Op==6) scope o13.1 o13.2.2).bind fun r14=>
 (iH R21 scope e.Kids (e.Kids.length:Int) e.Op r14.2.2 ([]:List af) 0 r14.2.1).bind fun o25=>
 (gd R21 e.Alts scope o25.2).bind fun r26=>
 some ((⟨e.Op,o13.2.1,e.N,o25.1,r14.1,r26.1,r1⟩:af),r26.2)
theorem nK(R21:aY)(hR21:bG R21){e:af}{scope:(List ag)}{k0:waA}{r:af×waA}(h:iS R21 e scope k0=some r):C Pg GE 56 [.agg [.func (.func 62) [] [.bptr 0 0],.func (.func 61) [] []],.agg (ac e),sl aa scope] [] [.cells [sl cS k0] [(0,9)]] (.agg (ac r.1)) [(3,28),(4,85),(5,89),(6,60)] [.cells [sl cS r.2] [(0,9)]]:=by
 obtain⟨r1,br1,r2,br2,o13,bo13,r14,br14,h⟩:=Zb4 h
 obtain⟨o25,bo25,r26,br26,h⟩:=Zb2 h
 obtain rfl:=lf h
 have z:=sx (Zs [.func (.func 62) [] [.bptr 0 0],.func (.func 61) [] []])<|sx (kF e)<|se (qbL aa scope)<|sx AD<|ss<|cD (gL br1)<|sv (b8 J7 (sl aa scope) [])<|cD (xN br2)<|sx Zy<|sx Zx<|ss<|nF 0<|cT (mQ scope k0 e.Op e.Name e.N e.Kids e.Params e.Alts r1 ([]:List af) ([]:List aw) ([]:List aJ) ([]:List ai) r2 bo13)<|ss<|sx qbN<|ss<|qbv 7 [[.bool (e.Op==6)]] [3,4,5,6,7,8,11] [] (qba (m:=1) (b:=7) rfl [.bool (e.Op==6)] rfl) (qbb 7 (l:=[.bool (e.Op==6)]) (aI trivial trivial)) (qbc (qbp [.bool (e.Op==6)]))<|sf (J3 7 (mP av scope))<|sf (LS 7 (p:=sl cS o13.1) (aj bz o13.1))<|sf (LS 7 (p:=sl ac e.Kids) (aj az e.Kids))<|sf (LS 7 (p:=sl au e.Params) (aj aZ e.Params))<|sf (LS 7 (p:=sl aA e.Alts) (aj bF e.Alts))<|sf (LS 7 (p:=sl ah r1) (aj aF r1))<|sf (LS 7 (p:=sl ac ([]:List af)) (aj az ([]:List af)))<|sf (LS 7 (p:=sl au ([]:List aw)) (aj aZ ([]:List aw)))<|sf (LS 7 (p:=sl aA ([]:List aJ)) (aj bF ([]:List aJ)))<|sf (LS 7 (p:=sl ah ([]:List ai)) (aj aF ([]:List ai)))<|sf (LS 7 (p:=sl aa o13.2.2) (aj av o13.2.2))<|sf (J3 7 (mP av scope))<|ss<|si (.cg ⟨[6,1,0,5],[sl au e.Params,.func (.func 108) [] [.eptr (cB (e.Op==6)),.bptr 0 0]],[],[.cells [.func (.func 105) [] [.bptr 1 0,.eptr ((cL aa) scope),.bptr 5 0]] [],.cells [.func (.func 62) [] [.bptr 0 0],.func (.func 61) [] []] [],.cells [sl cS o13.1] [(0,9)],.cells [sl aa o13.2.2] [(0,137)]],[.cells [.func (.func 105) [] [.bptr 1 0,.eptr ((cL aa) scope),.bptr 3 0]] [],.cells [.func (.func 62) [] [.bptr 2 0],.func (.func 61) [] []] [],.cells [sl cS o13.1] [(0,9)],.cells [sl aa o13.2.2] [(0,137)]],[.cells [.func (.func 105) [] [.bptr 1 0,.eptr ((cL aa) scope),.bptr 5 0]] [],.cells [.func (.func 62) [] [.bptr 0 0],.func (.func 61) [] []] [],.cells [sl cS r14.2.1] [(0,9)],.cells [sl aa r14.2.2] [(0,137)]],[.cells [.func (.func 105) [] [.bptr 1 0,.eptr ((cL aa) scope),.bptr 3 0]] [],.cells [.func (.func 62) [] [.bptr 2 0],.func (.func 61) [] []] [],.cells [sl cS r14.2.1] [(0,9)],.cells [sl aa r14.2.2] [(0,137)]],sl au r14.1,sl au r14.1,[(0,85)]⟩) (gv br14)<|sf (aI (xR [6,1,0,5] (sl au e.Params) (aj aZ e.Params)) (aI (xF [6,1,0,5] (.func 108) [] [.eptr (cB (e.Op==6)),.bptr 6 0] [] [.eptr (cB (e.Op==6)),.bptr 0 0] trivial (aI (xR [6,1,0,5] (.eptr (cB (e.Op==6))) (Yo (e.Op==6))) (aI (xB [6,1,0,5] 0 6 0 rfl) trivial))) trivial))<|sf (aI (aI (rB (.cells [.func (.func 105) [] [.bptr 1 0,.eptr ((cL aa) scope),.bptr 5 0]] [])) (aI (rW []) (aI (xF [6,1,0,5] (.func 105) [] [.bptr 1 0,.eptr ((cL aa) scope),.bptr 5 0] [] [.bptr 1 0,.eptr ((cL aa) scope),.bptr 3 0] trivial (aI (xB [6,1,0,5] 1 1 0 rfl) (aI (xR [6,1,0,5] (.eptr ((cL aa) scope)) (mP av scope)) (aI (xB [6,1,0,5] 3 5 0 rfl) trivial)))) trivial))) (aI (aI (rB (.cells [.func (.func 62) [] [.bptr 0 0],.func (.func 61) [] []] [])) (aI (rW []) (aI (xF [6,1,0,5] (.func 62) [] [.bptr 0 0] [] [.bptr 2 0] trivial (aI (xB [6,1,0,5] 2 0 0 rfl) trivial)) (aI (xR [6,1,0,5] (.func (.func 61) [] []) (aI trivial trivial)) trivial)))) (aI (aI (rB (.cells [sl cS o13.1] [(0,9)])) (aI (rW [(0,9)]) (aI (xR [6,1,0,5] (sl cS o13.1) (aj bz o13.1)) trivial))) (aI (aI (rB (.cells [sl aa o13.2.2] [(0,137)])) (aI (rW [(0,137)]) (aI (xR [6,1,0,5] (sl aa o13.2.2) (aj av o13.2.2)) trivial))) trivial))))<|sf (aI (aI (rW []) (aI (xF [6,1,0,5] (.func 105) [] [.bptr 1 0,.eptr ((cL aa) scope),.bptr 5 0] [] [.bptr 1 0,.eptr ((cL aa) scope),.bptr 3 0] trivial (aI (xB [6,1,0,5] 1 1 0 rfl) (aI (xR [6,1,0,5] (.eptr ((cL aa) scope)) (mP av scope)) (aI (xB [6,1,0,5] 3 5 0 rfl) trivial)))) trivial)) (aI (aI (rW []) (aI (xF [6,1,0,5] (.func 62) [] [.bptr 0 0] [] [.bptr 2 0] trivial (aI (xB [6,1,0,5] 2 0 0 rfl) trivial)) (aI (xR [6,1,0,5] (.func (.func 61) [] []) (aI trivial trivial)) trivial))) (aI (aI (rW [(0,9)]) (aI (xR [6,1,0,5] (sl cS r14.2.1) (aj bz r14.2.1)) trivial)) (aI (aI (rW [(0,137)]) (aI (xR [6,1,0,5] (sl aa r14.2.2) (aj av r14.2.2)) trivial)) trivial))))<|sf (xR [6,1,0,5] (sl au r14.1) (aj aZ r14.1))<|ss<|bQ (fQ.ln e.Kids)<|cT (mS R21 scope e.Kids (e.Kids.length:Int) e.Op o13.2.1 e.N r14.1 e.Alts r1 ([]:List af) ([]:List aw) ([]:List aJ) ([]:List ai) r14.2.2 ([]:List af) 0 r14.2.1 hR21 bo25)<|ss<|si (.cg ⟨[1,0],[sl aA e.Alts,.func (.func 110) [] [.eptr ((cL aa) scope),.bptr 0 0]],[],[.cells [.func (.func 62) [] [.bptr 0 0],.func (.func 61) [] []] [],.cells [sl cS o25.2] [(0,9)]],[.cells [.func (.func 62) [] [.bptr 1 0],.func (.func 61) [] []] [],.cells [sl cS o25.2] [(0,9)]],[.cells [.func (.func 62) [] [.bptr 0 0],.func (.func 61) [] []] [],.cells [sl cS r26.2] [(0,9)]],[.cells [.func (.func 62) [] [.bptr 1 0],.func (.func 61) [] []] [],.cells [sl cS r26.2] [(0,9)]],sl aA r26.1,sl aA r26.1,[(0,89)]⟩) (kR R21 hR21 br26)<|sf (aI (xR [1,0] (sl aA e.Alts) (aj bF e.Alts)) (aI (xF [1,0] (.func 110) [] [.eptr ((cL aa) scope),.bptr 1 0] [] [.eptr ((cL aa) scope),.bptr 0 0] trivial (aI (xR [1,0] (.eptr ((cL aa) scope)) (mP av scope)) (aI (xB [1,0] 0 1 0 rfl) trivial))) trivial))<|sf (aI (aI (rB (.cells [.func (.func 62) [] [.bptr 0 0],.func (.func 61) [] []] [])) (aI (rW []) (aI (xF [1,0] (.func 62) [] [.bptr 0 0] [] [.bptr 1 0] trivial (aI (xB [1,0] 1 0 0 rfl) trivial)) (aI (xR [1,0] (.func (.func 61) [] []) (aI trivial trivial)) trivial)))) (aI (aI (rB (.cells [sl cS o25.2] [(0,9)])) (aI (rW [(0,9)]) (aI (xR [1,0] (sl cS o25.2) (aj bz o25.2)) trivial))) trivial))<|sf (aI (aI (rW []) (aI (xF [1,0] (.func 62) [] [.bptr 0 0] [] [.bptr 1 0] trivial (aI (xB [1,0] 1 0 0 rfl) trivial)) (aI (xR [1,0] (.func (.func 61) [] []) (aI trivial trivial)) trivial))) (aI (aI (rW [(0,9)]) (aI (xR [1,0] (sl cS r26.2) (aj bz r26.2)) trivial)) trivial))<|sf (xR [1,0] (sl aA r26.1) (aj bF r26.1))<|sz (bW (⟨e.Op,o13.2.1,e.N,o25.1,r14.1,r26.1,r1⟩:af) [])<|sy (bE (⟨e.Op,o13.2.1,e.N,o25.1,r14.1,r26.1,r1⟩:af))<|en (aI (sK (⟨e.Op,o13.2.1,e.N,o25.1,r14.1,r26.1,r1⟩:af))<|aI (ZD (n:=1) (az (⟨e.Op,o13.2.1,e.N,o25.1,r14.1,r26.1,r1⟩:af)))<|aI (rL [.cells [sl cS r26.2] [(0,9)]])<|aI (aI (aI (up (n:=1) (aj bz r26.2)) trivial) trivial)<|rT)
 exact Z56.g (m:=1) rfl z<|by kernel_rfl
def iT:((af×(List ag)×waA)->Option (af×waA))->(af×(List ag)×waA)->Option (af×waA):=fun(rec:(af×(List ag)×waA)->Option (af×waA)) (x:af×(List ag)×waA)=>iS (fun e scope k0=>rec (e,scope,k0)) x.1 x.2.1 x.2.2
def jv(e:af)(scope:(List ag))(k0:waA):Option (af×waA):=rE iT (e,scope,k0)
theorem oo{e:af}{scope:(List ag)}{k0:waA}{r:af×waA}(h:jv e scope k0=some r):C Pg GE 56 [.agg [.func (.func 62) [] [.bptr 0 0],.func (.func 61) [] []],.agg (ac e),sl aa scope] [] [.cells [sl cS k0] [(0,9)]] (.agg (ac r.1)) [(3,28),(4,85),(5,89),(6,60)] [.cells [sl cS r.2] [(0,9)]]:=
 ek (F:=iT) (M:=fun(x:af×(List ag)×waA) (r:af×waA)=>C Pg GE 56 [.agg [.func (.func 62) [] [.bptr 0 0],.func (.func 61) [] []],.agg (ac x.1),sl aa x.2.1] [] [.cells [sl cS x.2.2] [(0,9)]] (.agg (ac r.1)) [(3,28),(4,85),(5,89),(6,60)] [.cells [sl cS r.2] [(0,9)]]) (fun rec hrec x r h=>nK _ (fun e scope k0 r h=>hrec (e,scope,k0) r h) h) h
noncomputable def qck:Code:=f15.body.getD .skip
def qbU:List Nat:=[]
theorem Z15:ZF qbU 15 f15 qck:=⟨call15,func15,rfl⟩
def EF(e:af):Option af:=
 (CQ e).bind fun r1=>
 (jv e ([]:List ag) r1).bind fun r2=>
 some r2.1
theorem Iw{e:af}{r:af}(h:EF e=some r):CC Pg GE 15 [.agg (ac e)] (.agg (ac r)) [(3,28),(4,85),(5,89),(6,60)]:=by
 obtain⟨r1,br1,r2,br2,h⟩:=Zb2 h
 obtain rfl:=lf h
 have z:=se (cF e)<|sx AD<|sv (bM e)<|cD (CR br1)<|sx Zw<|sv (show dG Pg 95 [(1,.func (.func 61) [] []),(0,.func (.func 62) [] [.bptr 2 0])]=some (.agg [.func (.func 62) [] [.bptr 2 0],.func (.func 61) [] []]) by kernel_rfl)<|sx Zz<|sx (Zs [.func (.func 62) [] [.bptr 2 0],.func (.func 61) [] []])<|sv (show bo Pg 95 [.func (.func 62) [] [.bptr 2 0],.func (.func 61) [] []]=some (.agg [.func (.func 62) [] [.bptr 2 0],.func (.func 61) [] []]) by kernel_rfl)<|sv (bM e)<|si (.cg ⟨[2],[.agg [.func (.func 62) [] [.bptr 0 0],.func (.func 61) [] []],.agg (ac e),sl aa ([]:List ag)],[],[.cells [sl cS r1] [(0,9)]],[.cells [sl cS r1] [(0,9)]],[.cells [sl cS r2.2] [(0,9)]],[.cells [sl cS r2.2] [(0,9)]],.agg (ac r2.1),.agg (ac r2.1),[(3,28),(4,85),(5,89),(6,60)]⟩) (oo br2)<|sf (aI (xA [2] [.func (.func 62) [] [.bptr 2 0],.func (.func 61) [] []] [.func (.func 62) [] [.bptr 0 0],.func (.func 61) [] []] (aI (xF [2] (.func 62) [] [.bptr 2 0] [] [.bptr 0 0] trivial (aI (xB [2] 0 2 0 rfl) trivial)) (aI (xR [2] (.func (.func 61) [] []) (aI trivial trivial)) trivial))) (aI (xR [2] (.agg (ac e)) (az e)) (aI (xR [2] (sl aa ([]:List ag)) (aj av ([]:List ag))) trivial)))<|sf (aI (aI (rB (.cells [sl cS r1] [(0,9)])) (aI (rW [(0,9)]) (aI (xR [2] (sl cS r1) (aj bz r1)) trivial))) trivial)<|sf (aI (aI (rW [(0,9)]) (aI (xR [2] (sl cS r2.2) (aj bz r2.2)) trivial)) trivial)<|sf (xR [2] (.agg (ac r2.1)) (az r2.1))<|sy (bE r2.1)<|en (aI (sK r2.1)<|aI (az r2.1)<|rT)
 exact Z15.v (aI (az e) trivial) z<|by kernel_rfl
noncomputable def qcv:Code:=f49.body.getD .skip
def qb5:List Nat:=[]
theorem Z49:ZF qb5 49 f49 qcv:=⟨call49,func49,rfl⟩
def B8(a:ae)(a2:ae):Option af:=
 (gE a).bind fun r1=>
 (gE a2).bind fun r2=>
 some (⟨10,([]:ae),0,([r1,r2]:List af),([]:List aw),([]:List aJ),([]:List ai)⟩:af)
theorem B9{a:ae}{a2:ae}{r:af}(h:B8 a a2=some r):CC Pg GE 49 [.str a,.str a2] (.agg (ac r)) [(4,85),(5,89),(6,60)]:=by
 obtain⟨r1,br1,r2,br2,h⟩:=Zb2 h
 obtain rfl:=lf h
 have z:=sx AD<|cD (fe br1)<|cD (fe br2)<|sv (fQ.mk' (v:=pA) kE ([r1,r2]:List af) 2 (by kernel_rfl))<|sb (OC 10 ([r1,r2]:List af)) (Oy 10 ([r1,r2]:List af))<|sy (bE (⟨10,([]:ae),0,([r1,r2]:List af),([]:List aw),([]:List aJ),([]:List ai)⟩:af))<|en (aI (sK (⟨10,([]:ae),0,([r1,r2]:List af),([]:List aw),([]:List aJ),([]:List ai)⟩:af))<|aI (az (⟨10,([]:ae),0,([r1,r2]:List af),([]:List aw),([]:List aJ),([]:List ai)⟩:af))<|rT)
 exact Z49.v (aI trivial (aI trivial trivial)) z<|by kernel_rfl
noncomputable def qaN:Code:=f26.body.getD .skip
def ZG:List Nat:=[]
theorem Z26:ZF ZG 26 f26 qaN:=⟨call26,func26,rfl⟩
section
variable(v:waA)(v2:waA)(i:Int)
def kZ:aB:=aS 26 [(0,sl cS v),(1,sl cS v2),(5,.int .i64 i)] [] []
def lb(o:Unit⊕(Unit)):Exit:=match o with
 |(.inl _)=>.ret
 |(.inr _)=>.exit 0
def gk(o:Unit⊕(Unit)):aB:=match o with
 |(.inl o)=>aS 26 [(4,.bool false)] [] []
 |(.inr o)=>aS 26 [] [] []
def gj:Option (Int⊕(Unit⊕(Unit))):=
 if(decide (i<(v.length:Int)))=true then
  (eT v i).bind fun x4=>
  (eT v2 i).bind fun x5=>
  if(!(x4==x5))=true then
   some (.inr (.inl ()))
  else
   some (.inl (bB (i+1)))
 else
  some (.inr (.inr ()))
def sq:Option (Unit⊕(Unit)):=loop (fun(zz:Int)=>gj v v2 zz) i
theorem BP{y:Int⊕(Unit⊕(Unit))}(h:gj v v2 i=some y):aW Pg GE 0 (cA qaN 119) (LQ (fun(zz:Int)=>kZ v v2 zz) lb gk y) (kZ v v2 i):=by
 rcases aO h with⟨c3,h⟩|⟨c3,h⟩
 ·obtain⟨x4,bx4,x5,bx5,h⟩:=Zb2 h
  have p7:=fun{sc F} (r:PS sc F)=>bQ (bN.ln v)<|sg 0 c3<|G0 [0,0,3,7,0,0,48,112,255]<|sv (bN.ia (k:=.i64) bx4)<|sv (b8 AF (.str x4) [])<|sv (bN.ia (k:=.i64) bx5)<|sv (b8 AF (.str x5) [])<|r
  rcases aO h with⟨c6,h⟩|⟨c6,h⟩
  ·obtain rfl:=lf h
   have z:=p7<|sg 0 c6<|eF (lb (.inl ())) (gk (.inl ()))
   exact hU ZG (Zn rfl) z<|by kernel_rfl
  ·obtain rfl:=lf h
   exact wJ ZG (p7<|sg 0 c6<|eF .normal (kZ v v2 (bB (i+1))))<|by kernel_rfl
 ·obtain rfl:=lf h
  have z:=bQ (bN.ln v)<|sg 0 c3<|eF (lb (.inr ())) (gk (.inr ()))
  exact hU ZG (Zn rfl) z<|by kernel_rfl
theorem uE{x:Unit⊕(Unit)}(h:sq v v2 i=some x):aW Pg GE 0 (.loop (cA qaN 119)) (EX (lb x) (gk x)) (kZ v v2 i):=
 ZL h fun _ _ hy=>BP _ _ _ hy
end
def j5(a:waA)(a2:waA):Option Bool:=
 if((a.length:Int)!=(a2.length:Int))=true then
  some false
 else
  (sq a a2 0).bind fun o8=>match o8 with
  |(.inl o8)=>
   some false
  |(.inr o8)=>
   some true
theorem nn{a:waA}{a2:waA}{r:Bool}(h:j5 a a2=some r):CC Pg GE 26 [sl cS a,sl cS a2] (.bool r) []:=by
 have p2:=fun{sc F} (r:PS sc F)=>bQ (bN.ln a)<|bQ (bN.ln a2)<|r
 rcases aO h with⟨c1,h⟩|⟨c1,h⟩
 ·obtain rfl:=lf h
  have z:=p2<|sg 0 c1<|en (aI (rP (.bool false))<|trivial)
  exact Z26.v (aI (aj bz a) (aI (aj bz a2) trivial)) z<|by kernel_rfl
 ·obtain⟨o8,bo8,h⟩:=ck h
  rcases o8 with o8|o8
  ·obtain rfl:=lf h
   have z:=p2<|sg 0 c1<|cT (e:=.ret) (s1:=gk (.inl o8)) (uE a a2 0 bo8)<|en (aI (rP (.bool false))<|trivial)
   exact Z26.v (aI (aj bz a) (aI (aj bz a2) trivial)) z<|by kernel_rfl
  ·obtain rfl:=lf h
   have z:=p2<|sg 0 c1<|cT (e:=.exit 0) (s1:=gk (.inr o8)) (uE a a2 0 bo8)<|en (aI (rP (.bool true))<|trivial)
   exact Z26.v (aI (aj bz a) (aI (aj bz a2) trivial)) z<|by kernel_rfl
abbrev su:=(af->af->Option Bool)
abbrev sh(R:su):Prop:=∀(a:af) (a2:af) (r:Bool),R a a2=some r->CC Pg GE 12 [.agg (ac a),.agg (ac a2)] (.bool r) []
abbrev kw:=(ai->ai->Option Bool)
abbrev qf(R:kw):Prop:=∀(a:ai) (a2:ai) (r:Bool),R a a2=some r->CC Pg GE 97 [.agg (ah a),.agg (ah a2)] (.bool r) []
abbrev Ae:=(am->am->Option Bool)
abbrev EQ(R:Ae):Prop:=∀(a:am) (a2:am) (r:Bool),R a a2=some r->CC Pg GE 133 [.agg (al a),.agg (al a2)] (.bool r) []
noncomputable def Wd:Code:=f133.body.getD .skip
def PF:List Nat:=[39]
theorem Z133:ZF PF 133 f133 Wd:=⟨call133,func133,rfl⟩
section
variable(v:am)(v2:am)
def MA:aB:=aS 53 [(2,.eptr (al v)),(3,.eptr (al v2))] [.dead,.dead] []
def oA(o:Bool):aB:=aS 53 [(2,.eptr (al v)),(3,.eptr (al v2)),(33,.bool o)] [.dead,.dead] []
def IK:Option Bool:=
 if(v.Op !=v2.Op)=true then
  some true
 else
  if(!(v.Name==v2.Name))=true then
   some true
  else
   if(v.N !=v2.N)=true then
    some true
   else
    some ((v.Kids.length:Int)!=(v2.Kids.length:Int))
theorem KK{x:Bool}(h:IK v v2=some x):aW Pg GE 0 (cA Wd 12) (EX .normal (oA v v2 x)) (MA v v2):=by
 have p2:=fun{sc F} (r:PS sc F)=>sv (tt v)<|sv (tw v)<|sv (tt v2)<|sv (tw v2)<|r
 rcases aO h with⟨c1,h⟩|⟨c1,h⟩
 ·obtain rfl:=lf h
  exact bv PF (p2<|sg 6 c1<|eF .normal (oA v v2 true))<|by kernel_rfl
 ·have p4:=fun{sc F} (r:PS sc F)=>p2<|sg 6 c1<|sv (oF v)<|sv (qG v)<|sv (oF v2)<|sv (qG v2)<|r
  rcases aO h with⟨c3,h⟩|⟨c3,h⟩
  ·obtain rfl:=lf h
   exact bv PF (p4<|sg 13 c3<|eF .normal (oA v v2 true))<|by kernel_rfl
  ·have p6:=fun{sc F} (r:PS sc F)=>p4<|sg 13 c3<|sv (tu v)<|sv (vC v)<|sv (tu v2)<|sv (vC v2)<|r
   rcases aO h with⟨c5,h⟩|⟨c5,h⟩
   ·obtain rfl:=lf h
    exact bv PF (p6<|sg 20 c5<|eF .normal (oA v v2 true))<|by kernel_rfl
   ·obtain rfl:=lf h
    exact bv PF (p6<|sg 20 c5<|sv (gG v)<|sv (gI v)<|bQ (oh.ln v.Kids)<|sv (gG v2)<|sv (gI v2)<|bQ (oh.ln v2.Kids)<|eF .normal (oA v v2 ((v.Kids.length:Int)!=(v2.Kids.length:Int))))<|by kernel_rfl
end
section
variable(R39:Ae)(v:am)(v2:am)(t36:Int)(t37:Int)
def s4:aB:=aS 53 [(2,.eptr (al v)),(3,.eptr (al v2)),(36,.int .i64 t36),(37,.int .i64 t37)] [.dead,.dead] []
def s8(o:Unit⊕(Unit)):Exit:=match o with
 |(.inl _)=>.ret
 |(.inr _)=>.exit 0
def lZ(o:Unit⊕(Unit)):aB:=match o with
 |(.inl o)=>aS 53 [(4,.bool false)] [.dead,.dead] []
 |(.inr o)=>aS 53 [] [.dead,.dead] []
def D7:Option (Int⊕(Unit⊕(Unit))):=
 if(decide (t37<t36))=true then
  (eT v.Kids t37).bind fun x11=>
  (eT v2.Kids t37).bind fun x12=>
  (R39 x11 x12).bind fun r13=>
  if(!r13)=true then
   some (.inr (.inl ()))
  else
   some (.inl (bB (t37+1)))
 else
  some (.inr (.inr ()))
def IL:Option (Unit⊕(Unit)):=loop (fun(zz:Int)=>D7 R39 v v2 t36 zz) t37
theorem Js(hR39:EQ R39){y:Int⊕(Unit⊕(Unit))}(h:D7 R39 v v2 t36 t37=some y):aW Pg GE 0 (cA Wd 119) (LQ (fun(zz:Int)=>s4 v v2 t36 zz) s8 lZ y) (s4 v v2 t36 t37):=by
 rcases aO h with⟨c10,h⟩|⟨c10,h⟩
 ·obtain⟨x11,bx11,x12,bx12,r13,br13,h⟩:=Zb3 h
  have p15:=fun{sc F} (r:PS sc F)=>sg 0 c10<|G0 [0,1,0,7,15,0,32,0,224,480,1023,2047]<|sv (gG v)<|sv (gI v)<|sv (oh.ia (k:=.i64) bx11)<|sv (qH x11)<|sv (gG v2)<|sv (gI v2)<|sv (oh.ia (k:=.i64) bx12)<|sv (qH x12)<|cD (hR39 _ _ _ br13)<|r
  rcases aO h with⟨c14,h⟩|⟨c14,h⟩
  ·obtain rfl:=lf h
   have z:=p15<|sg 0 c14<|eF (s8 (.inl ())) (lZ (.inl ()))
   exact hU PF (Zn rfl) z<|by kernel_rfl
  ·obtain rfl:=lf h
   exact wJ PF (p15<|sg 0 c14<|eF .normal (s4 v v2 t36 (bB (t37+1))))<|by kernel_rfl
 ·obtain rfl:=lf h
  have z:=sg 0 c10<|eF (s8 (.inr ())) (lZ (.inr ()))
  exact hU PF (Zn rfl) z<|by kernel_rfl
theorem BK(hR39:EQ R39){x:Unit⊕(Unit)}(h:IL R39 v v2 t36 t37=some x):aW Pg GE 0 (.loop (cA Wd 119)) (EX (s8 x) (lZ x)) (s4 v v2 t36 t37):=
 ZL h fun _ _ hy=>Js _ _ _ _ _ hR39 hy
end
def KI(R39:Ae)(a:am)(a2:am):Option Bool:=
 (IK a a2).bind fun o7=>
 if o7=true then
  some false
 else
  (IL R39 a a2 (a.Kids.length:Int) 0).bind fun o16=>match o16 with
  |(.inl o16)=>
   some false
  |(.inr o16)=>
   some true
theorem Oe(R39:Ae)(hR39:EQ R39){a:am}{a2:am}{r:Bool}(h:KI R39 a a2=some r):CC Pg GE 133 [.agg (al a),.agg (al a2)] (.bool r) []:=by
 obtain⟨o7,bo7,h⟩:=ck h
 have p9:=fun{sc F} (r:PS sc F)=>se (GO a)<|se (GO a2)<|nF 1<|cT (KK a a2 bo7)<|r
 rcases aO h with⟨c8,h⟩|⟨c8,h⟩
 ·obtain rfl:=lf h
  have z:=p9<|sg 0 c8<|en (aI (rP (.bool false))<|trivial)
  exact Z133.v (aI (aQ a) (aI (aQ a2) trivial)) z<|by kernel_rfl
 ·obtain⟨o16,bo16,h⟩:=ck h
  rcases o16 with o16|o16
  ·obtain rfl:=lf h
   have z:=p9<|sg 0 c8<|sv (gG a)<|sv (gI a)<|bQ (oh.ln a.Kids)<|cT (e:=.ret) (s1:=lZ (.inl o16)) (BK R39 a a2 (a.Kids.length:Int) 0 hR39 bo16)<|en (aI (rP (.bool false))<|trivial)
   exact Z133.v (aI (aQ a) (aI (aQ a2) trivial)) z<|by kernel_rfl
  ·obtain rfl:=lf h
   have z:=p9<|sg 0 c8<|sv (gG a)<|sv (gI a)<|bQ (oh.ln a.Kids)<|cT (e:=.exit 0) (s1:=lZ (.inr o16)) (BK R39 a a2 (a.Kids.length:Int) 0 hR39 bo16)<|en (aI (rP (.bool true))<|trivial)
   exact Z133.v (aI (aQ a) (aI (aQ a2) trivial)) z<|by kernel_rfl
def KJ:((am×am)->Option Bool)->(am×am)->Option Bool:=fun(rec:(am×am)->Option Bool) (x:am×am)=>KI (fun a a2=>rec (a,a2)) x.1 x.2
def KH(a:am)(a2:am):Option Bool:=rE KJ (a,a2)
theorem IM{a:am}{a2:am}{r:Bool}(h:KH a a2=some r):CC Pg GE 133 [.agg (al a),.agg (al a2)] (.bool r) []:=
 ek (F:=KJ) (M:=fun(x:am×am) (r:Bool)=>CC Pg GE 133 [.agg (al x.1),.agg (al x.2)] (.bool r) []) (fun rec hrec x r h=>Oe _ (fun a a2 r h=>hrec (a,a2) r h) h) h
noncomputable def qaR:Code:=f51.body.getD .skip
def ZJ:List Nat:=[]
theorem Z51:ZF ZJ 51 f51 qaR:=⟨call51,func51,rfl⟩
section
variable(R38:kw)(v:waC)(v2:waC)(i:Int)
def lc:aB:=aS 27 [(0,sl ah v),(1,sl ah v2),(5,.int .i64 i)] [] []
def lh(o:Unit⊕(Unit)):Exit:=match o with
 |(.inl _)=>.ret
 |(.inr _)=>.exit 0
def gm(o:Unit⊕(Unit)):aB:=match o with
 |(.inl o)=>aS 27 [(4,.bool false)] [] []
 |(.inr o)=>aS 27 [] [] []
def wh:Option (Int⊕(Unit⊕(Unit))):=
 if(decide (i<(v.length:Int)))=true then
  (eT v i).bind fun x4=>
  (eT v2 i).bind fun x5=>
  (R38 x4 x5).bind fun r6=>
  if(!r6)=true then
   some (.inr (.inl ()))
  else
   some (.inl (bB (i+1)))
 else
  some (.inr (.inr ()))
def yS:Option (Unit⊕(Unit)):=loop (fun(zz:Int)=>wh R38 v v2 zz) i
theorem BT(hR38:qf R38){y:Int⊕(Unit⊕(Unit))}(h:wh R38 v v2 i=some y):aW Pg GE 0 (cA qaR 119) (LQ (fun(zz:Int)=>lc v v2 zz) lh gm y) (lc v v2 i):=by
 rcases aO h with⟨c3,h⟩|⟨c3,h⟩
 ·obtain⟨x4,bx4,x5,bx5,r6,br6,h⟩:=Zb3 h
  have p8:=fun{sc F} (r:PS sc F)=>bQ (ee.ln v)<|sg 0 c3<|G0 [0,0,3,7,0,0,48,112,255,511]<|sv (ee.ia (k:=.i64) bx4)<|sv (lC x4)<|sv (ee.ia (k:=.i64) bx5)<|sv (lC x5)<|cD (hR38 _ _ _ br6)<|r
  rcases aO h with⟨c7,h⟩|⟨c7,h⟩
  ·obtain rfl:=lf h
   have z:=p8<|sg 0 c7<|eF (lh (.inl ())) (gm (.inl ()))
   exact hU ZJ (Zn rfl) z<|by kernel_rfl
  ·obtain rfl:=lf h
   exact wJ ZJ (p8<|sg 0 c7<|eF .normal (lc v v2 (bB (i+1))))<|by kernel_rfl
 ·obtain rfl:=lf h
  have z:=bQ (ee.ln v)<|sg 0 c3<|eF (lh (.inr ())) (gm (.inr ()))
  exact hU ZJ (Zn rfl) z<|by kernel_rfl
theorem uF(hR38:qf R38){x:Unit⊕(Unit)}(h:yS R38 v v2 i=some x):aW Pg GE 0 (.loop (cA qaR 119)) (EX (lh x) (gm x)) (lc v v2 i):=
 ZL h fun _ _ hy=>BT _ _ _ _ hR38 hy
end
def yx(R38:kw)(a:waC)(a2:waC):Option Bool:=
 if((a.length:Int)!=(a2.length:Int))=true then
  some false
 else
  (yS R38 a a2 0).bind fun o9=>match o9 with
  |(.inl o9)=>
   some false
  |(.inr o9)=>
   some true
theorem yU(R38:kw)(hR38:qf R38){a:waC}{a2:waC}{r:Bool}(h:yx R38 a a2=some r):CC Pg GE 51 [sl ah a,sl ah a2] (.bool r) []:=by
 have p2:=fun{sc F} (r:PS sc F)=>bQ (ee.ln a)<|bQ (ee.ln a2)<|r
 rcases aO h with⟨c1,h⟩|⟨c1,h⟩
 ·obtain rfl:=lf h
  have z:=p2<|sg 0 c1<|en (aI (rP (.bool false))<|trivial)
  exact Z51.v (aI (aj aF a) (aI (aj aF a2) trivial)) z<|by kernel_rfl
 ·obtain⟨o9,bo9,h⟩:=ck h
  rcases o9 with o9|o9
  ·obtain rfl:=lf h
   have z:=p2<|sg 0 c1<|cT (e:=.ret) (s1:=gm (.inl o9)) (uF R38 a a2 0 hR38 bo9)<|en (aI (rP (.bool false))<|trivial)
   exact Z51.v (aI (aj aF a) (aI (aj aF a2) trivial)) z<|by kernel_rfl
  ·obtain rfl:=lf h
   have z:=p2<|sg 0 c1<|cT (e:=.exit 0) (s1:=gm (.inr o9)) (uF R38 a a2 0 hR38 bo9)<|en (aI (rP (.bool true))<|trivial)
   exact Z51.v (aI (aj aF a) (aI (aj aF a2) trivial)) z<|by kernel_rfl
noncomputable def ZS:Code:=f97.body.getD .skip
def V1:List Nat:=[]
theorem Z97:ZF V1 97 f97 ZS:=⟨call97,func97,rfl⟩
section
variable(v:ai)(v2:ai)
def F0:aB:=aS 67 [(2,.eptr (ah v)),(3,.eptr (ah v2))] [.dead,.dead] []
def ie(o:Bool):aB:=aS 67 [(2,.eptr (ah v)),(3,.eptr (ah v2)),(42,.bool o)] [.dead,.dead] []
def AR:Option Bool:=
 if(v.Op !=v2.Op)=true then
  some true
 else
  if(!(v.Name==v2.Name))=true then
   some true
  else
   (j5 v.Names v2.Names).bind fun r5=>
   if(!r5)=true then
    some true
   else
    (KH v.Pred v2.Pred).bind fun r8=>
    if(!r8)=true then
     some true
    else
     some ((v.Preds.length:Int)!=(v2.Preds.length:Int))
theorem EV{x:Bool}(h:AR v v2=some x):aW Pg GE 0 (cA ZS 12) (EX .normal (ie v v2 x)) (F0 v v2):=by
 have p2:=fun{sc F} (r:PS sc F)=>sv (db v)<|sv (dc v)<|sv (db v2)<|sv (dc v2)<|r
 rcases aO h with⟨c1,h⟩|⟨c1,h⟩
 ·obtain rfl:=lf h
  exact bv V1 (p2<|sg 6 c1<|eF .normal (ie v v2 true))<|by kernel_rfl
 ·have p4:=fun{sc F} (r:PS sc F)=>p2<|sg 6 c1<|sv (gH v)<|sv (iK v)<|sv (gH v2)<|sv (iK v2)<|r
  rcases aO h with⟨c3,h⟩|⟨c3,h⟩
  ·obtain rfl:=lf h
   exact bv V1 (p4<|sg 13 c3<|eF .normal (ie v v2 true))<|by kernel_rfl
  ·obtain⟨r5,br5,h⟩:=ck h
   have p7:=fun{sc F} (r:PS sc F)=>p4<|sg 13 c3<|sv (e9 v)<|sv (fb v)<|sv (e9 v2)<|sv (fb v2)<|cD (nn br5)<|r
   rcases aO h with⟨c6,h⟩|⟨c6,h⟩
   ·obtain rfl:=lf h
    exact bv V1 (p7<|sg 21 c6<|eF .normal (ie v v2 true))<|by kernel_rfl
   ·obtain⟨r8,br8,h⟩:=ck h
    have p10:=fun{sc F} (r:PS sc F)=>p7<|sg 21 c6<|sv (oG v)<|sv (oH v)<|sv (oG v2)<|sv (oH v2)<|cD (IM br8)<|r
    rcases aO h with⟨c9,h⟩|⟨c9,h⟩
    ·obtain rfl:=lf h
     exact bv V1 (p10<|sg 29 c9<|eF .normal (ie v v2 true))<|by kernel_rfl
    ·obtain rfl:=lf h
     exact bv V1 (p10<|sg 29 c9<|sv (iO v)<|sv (iQ v)<|bQ (oh.ln v.Preds)<|sv (iO v2)<|sv (iQ v2)<|bQ (oh.ln v2.Preds)<|eF .normal (ie v v2 ((v.Preds.length:Int)!=(v2.Preds.length:Int))))<|by kernel_rfl
end
section
variable(v:ai)(v2:ai)(i:Int)
def mt:aB:=aS 67 [(2,.eptr (ah v)),(3,.eptr (ah v2)),(5,.int .i64 i)] [.dead,.dead] []
def mw(o:Unit⊕(Unit)):Exit:=match o with
 |(.inl _)=>.ret
 |(.inr _)=>.exit 0
def ig(o:Unit⊕(Unit)):aB:=match o with
 |(.inl o)=>aS 67 [(4,.bool false)] [.dead,.dead] []
 |(.inr o)=>aS 67 [(2,.eptr (ah v)),(3,.eptr (ah v2))] [.dead,.dead] []
def xy:Option (Int⊕(Unit⊕(Unit))):=
 if(decide (i<(v.Preds.length:Int)))=true then
  (eT v.Preds i).bind fun x16=>
  (eT v2.Preds i).bind fun x17=>
  (KH x16 x17).bind fun r18=>
  if(!r18)=true then
   some (.inr (.inl ()))
  else
   some (.inl (bB (i+1)))
 else
  some (.inr (.inr ()))
def AS:Option (Unit⊕(Unit)):=loop (fun(zz:Int)=>xy v v2 zz) i
theorem DF{y:Int⊕(Unit⊕(Unit))}(h:xy v v2 i=some y):aW Pg GE 0 (cA ZS 119) (LQ (fun(zz:Int)=>mt v v2 zz) mw (ig v v2) y) (mt v v2 i):=by
 have p15:=fun{sc F} (r:PS sc F)=>sv (iO v)<|sv (iQ v)<|bQ (oh.ln v.Preds)<|r
 rcases aO h with⟨c14,h⟩|⟨c14,h⟩
 ·obtain⟨x16,bx16,x17,bx17,r18,br18,h⟩:=Zb3 h
  have p20:=fun{sc F} (r:PS sc F)=>p15<|sg 0 c14<|G0 [0,1,0,7,15,0,32,0,224,480,1023,2047]<|sv (iO v)<|sv (iQ v)<|sv (oh.ia (k:=.i64) bx16)<|sv (qH x16)<|sv (iO v2)<|sv (iQ v2)<|sv (oh.ia (k:=.i64) bx17)<|sv (qH x17)<|cD (IM br18)<|r
  rcases aO h with⟨c19,h⟩|⟨c19,h⟩
  ·obtain rfl:=lf h
   have z:=p20<|sg 0 c19<|eF (mw (.inl ())) (ig v v2 (.inl ()))
   exact hU V1 (Zn rfl) z<|by kernel_rfl
  ·obtain rfl:=lf h
   exact wJ V1 (p20<|sg 0 c19<|eF .normal (mt v v2 (bB (i+1))))<|by kernel_rfl
 ·obtain rfl:=lf h
  have z:=p15<|sg 0 c14<|eF (mw (.inr ())) (ig v v2 (.inr ()))
  exact hU V1 (Zn rfl) z<|by kernel_rfl
theorem wg{x:Unit⊕(Unit)}(h:AS v v2 i=some x):aW Pg GE 0 (.loop (cA ZS 119)) (EX (mw x) (ig v v2 x)) (mt v v2 i):=
 ZL h fun _ _ hy=>DF _ _ _ hy
end
def BQ(R38:kw)(a:ai)(a2:ai):Option Bool:=
 (AR a a2).bind fun o11=>
 if o11=true then
  some false
 else
  (AS a a2 0).bind fun o21=>match o21 with
  |(.inl o21)=>
   some false
  |(.inr o21)=>
   (yx R38 a.Args a2.Args).bind fun r22=>
   some r22
theorem HD(R38:kw)(hR38:qf R38){a:ai}{a2:ai}{r:Bool}(h:BQ R38 a a2=some r):CC Pg GE 97 [.agg (ah a),.agg (ah a2)] (.bool r) []:=by
 obtain⟨o11,bo11,h⟩:=ck h
 have p13:=fun{sc F} (r:PS sc F)=>se (qL a)<|se (qL a2)<|nF 1<|cT (EV a a2 bo11)<|r
 rcases aO h with⟨c12,h⟩|⟨c12,h⟩
 ·obtain rfl:=lf h
  have z:=p13<|sg 0 c12<|en (aI (rP (.bool false))<|trivial)
  exact Z97.v (aI (aF a) (aI (aF a2) trivial)) z<|by kernel_rfl
 ·obtain⟨o21,bo21,h⟩:=ck h
  rcases o21 with o21|o21
  ·obtain rfl:=lf h
   have z:=p13<|sg 0 c12<|cT (e:=.ret) (s1:=ig a a2 (.inl o21)) (wg a a2 0 bo21)<|en (aI (rP (.bool false))<|trivial)
   exact Z97.v (aI (aF a) (aI (aF a2) trivial)) z<|by kernel_rfl
  ·obtain⟨r22,br22,h⟩:=ck h
   obtain rfl:=lf h
   have z:=p13<|sg 0 c12<|cT (e:=.exit 0) (s1:=ig a a2 (.inr o21)) (wg a a2 0 bo21)<|sv (dA a)<|sv (dB a)<|sv (dA a2)<|sv (dB a2)<|cD (yU R38 hR38 br22)<|en (aI (rP (.bool r22))<|trivial)
   exact Z97.v (aI (aF a) (aI (aF a2) trivial)) z<|by kernel_rfl
def BS:((ai×ai)->Option Bool)->(ai×ai)->Option Bool:=fun(rec:(ai×ai)->Option Bool) (x:ai×ai)=>BQ (fun a a2=>rec (a,a2)) x.1 x.2
def uV(a:ai)(a2:ai):Option Bool:=rE BS (a,a2)
theorem AT{a:ai}{a2:ai}{r:Bool}(h:uV a a2=some r):CC Pg GE 97 [.agg (ah a),.agg (ah a2)] (.bool r) []:=
 ek (F:=BS) (M:=fun(x:ai×ai) (r:Bool)=>CC Pg GE 97 [.agg (ah x.1),.agg (ah x.2)] (.bool r) []) (fun rec hrec x r h=>HD _ (fun a a2 r h=>hrec (a,a2) r h) h) h
noncomputable def ZO:Code:=f50.body.getD .skip
def Yj:List Nat:=[]
theorem Z50:ZF Yj 50 f50 ZO:=⟨call50,func50,rfl⟩
section
variable(v:waE)(v2:waE)(i:Int)
def DG:aB:=aS 42 [(0,sl au v),(1,sl au v2),(5,.int .i64 i)] [] []
def n8(o:Bool):aB:=aS 42 [(0,sl au v),(1,sl au v2),(5,.int .i64 i),(41,.bool o)] [] []
def xG:Option Bool:=
 (eT v i).bind fun x4=>
 (eT v2 i).bind fun x5=>
 if(!(x4.Name==x5.Name))=true then
  some true
 else
  (eT v i).bind fun x8=>
  (eT v2 i).bind fun x9=>
  (uV x8.Type_ x9.Type_).bind fun r10=>
  some (!r10)
theorem B4{x:Bool}(h:xG v v2 i=some x):aW Pg GE 0 (cA ZO 1914) (EX .normal (n8 v v2 i x)) (DG v v2 i):=by
 obtain⟨x4,bx4,x5,bx5,h⟩:=Zb2 h
 have p7:=fun{sc F} (r:PS sc F)=>G0 [0,0,3,7,15,0,0,96,224,480,1023,2047,4095,4095,16383,32767,65535,4095,4095,397311,921599,1970175,4194303,8388607,16777215]<|sv (lH.ia (k:=.i64) bx4)<|sv (qA x4)<|sv (tv x4)<|sv (lH.ia (k:=.i64) bx5)<|sv (qA x5)<|sv (tv x5)<|r
 rcases aO h with⟨c6,h⟩|⟨c6,h⟩
 ·obtain rfl:=lf h
  exact bv Yj (p7<|sg 12 c6<|eF .normal (n8 v v2 i true))<|by kernel_rfl
 ·obtain⟨x8,bx8,x9,bx9,r10,br10,h⟩:=Zb3 h
  obtain rfl:=lf h
  exact bv Yj (p7<|sg 12 c6<|sv (lH.ia (k:=.i64) bx8)<|sv (wD x8)<|sv (wG x8)<|sv (lH.ia (k:=.i64) bx9)<|sv (wD x9)<|sv (wG x9)<|cD (AT br10)<|eF .normal (n8 v v2 i (!r10)))<|by kernel_rfl
end
section
variable(v:waE)(v2:waE)(i:Int)
def kl:aB:=aS 42 [(0,sl au v),(1,sl au v2),(5,.int .i64 i)] [] []
def km(o:Unit⊕(Unit)):Exit:=match o with
 |(.inl _)=>.ret
 |(.inr _)=>.exit 0
def fI(o:Unit⊕(Unit)):aB:=match o with
 |(.inl o)=>aS 42 [(4,.bool false)] [] []
 |(.inr o)=>aS 42 [] [] []
def uG:Option (Int⊕(Unit⊕(Unit))):=
 if(decide (i<(v.length:Int)))=true then
  (xG v v2 i).bind fun o11=>
  if o11=true then
   some (.inr (.inl ()))
  else
   some (.inl (bB (i+1)))
 else
  some (.inr (.inr ()))
def xH:Option (Unit⊕(Unit)):=loop (fun(zz:Int)=>uG v v2 zz) i
theorem Bp{y:Int⊕(Unit⊕(Unit))}(h:uG v v2 i=some y):aW Pg GE 0 (cA ZO 119) (LQ (fun(zz:Int)=>kl v v2 zz) km fI y) (kl v v2 i):=by
 rcases aO h with⟨c3,h⟩|⟨c3,h⟩
 ·obtain⟨o11,bo11,h⟩:=ck h
  have p13:=fun{sc F} (r:PS sc F)=>bQ (lH.ln v)<|sg 0 c3<|nF 1<|cT (B4 v v2 i bo11)<|r
  rcases aO h with⟨c12,h⟩|⟨c12,h⟩
  ·obtain rfl:=lf h
   have z:=p13<|sg 0 c12<|eF (km (.inl ())) (fI (.inl ()))
   exact hU Yj (Zn rfl) z<|by kernel_rfl
  ·obtain rfl:=lf h
   exact wJ Yj (p13<|sg 0 c12<|eF .normal (kl v v2 (bB (i+1))))<|by kernel_rfl
 ·obtain rfl:=lf h
  have z:=bQ (lH.ln v)<|sg 0 c3<|eF (km (.inr ())) (fI (.inr ()))
  exact hU Yj (Zn rfl) z<|by kernel_rfl
theorem tE{x:Unit⊕(Unit)}(h:xH v v2 i=some x):aW Pg GE 0 (.loop (cA ZO 119)) (EX (km x) (fI x)) (kl v v2 i):=
 ZL h fun _ _ hy=>Bp _ _ _ hy
end
def B3(a:waE)(a2:waE):Option Bool:=
 if((a.length:Int)!=(a2.length:Int))=true then
  some false
 else
  (xH a a2 0).bind fun o14=>match o14 with
  |(.inl o14)=>
   some false
  |(.inr o14)=>
   some true
theorem F5{a:waE}{a2:waE}{r:Bool}(h:B3 a a2=some r):CC Pg GE 50 [sl au a,sl au a2] (.bool r) []:=by
 have p2:=fun{sc F} (r:PS sc F)=>bQ (lH.ln a)<|bQ (lH.ln a2)<|r
 rcases aO h with⟨c1,h⟩|⟨c1,h⟩
 ·obtain rfl:=lf h
  have z:=p2<|sg 0 c1<|en (aI (rP (.bool false))<|trivial)
  exact Z50.v (aI (aj aZ a) (aI (aj aZ a2) trivial)) z<|by kernel_rfl
 ·obtain⟨o14,bo14,h⟩:=ck h
  rcases o14 with o14|o14
  ·obtain rfl:=lf h
   have z:=p2<|sg 0 c1<|cT (e:=.ret) (s1:=fI (.inl o14)) (tE a a2 0 bo14)<|en (aI (rP (.bool false))<|trivial)
   exact Z50.v (aI (aj aZ a) (aI (aj aZ a2) trivial)) z<|by kernel_rfl
  ·obtain rfl:=lf h
   have z:=p2<|sg 0 c1<|cT (e:=.exit 0) (s1:=fI (.inr o14)) (tE a a2 0 bo14)<|en (aI (rP (.bool true))<|trivial)
   exact Z50.v (aI (aj aZ a) (aI (aj aZ a2) trivial)) z<|by kernel_rfl
noncomputable def W4:Code:=f12.body.getD .skip
def PE:List Nat:=[]
theorem Z12:ZF PE 12 f12 W4:=⟨call12,func12,rfl⟩
section
variable(v:af)(v2:af)
def MF:aB:=aS 117 [(2,.eptr (ac v)),(3,.eptr (ac v2))] [.dead,.dead] []
def me(o:Bool):aB:=aS 117 [(2,.eptr (ac v)),(3,.eptr (ac v2)),(43,.bool o)] [.dead,.dead] []
def IN:Option Bool:=
 if(v.Op !=v2.Op)=true then
  some true
 else
  if(!(v.Name==v2.Name))=true then
   some true
  else
   if(v.N !=v2.N)=true then
    some true
   else
    (B3 v.Params v2.Params).bind fun r7=>
    if(!r7)=true then
     some true
    else
     (yx uV v.Types v2.Types).bind fun r10=>
     some (!r10)
theorem KY{x:Bool}(h:IN v v2=some x):aW Pg GE 0 (cA W4 12) (EX .normal (me v v2 x)) (MF v v2):=by
 have p2:=fun{sc F} (r:PS sc F)=>sv (cK v)<|sv (cM v)<|sv (cK v2)<|sv (cM v2)<|r
 rcases aO h with⟨c1,h⟩|⟨c1,h⟩
 ·obtain rfl:=lf h
  exact bv PE (p2<|sg 6 c1<|eF .normal (me v v2 true))<|by kernel_rfl
 ·have p4:=fun{sc F} (r:PS sc F)=>p2<|sg 6 c1<|sv (da v)<|sv (dv v)<|sv (da v2)<|sv (dv v2)<|r
  rcases aO h with⟨c3,h⟩|⟨c3,h⟩
  ·obtain rfl:=lf h
   exact bv PE (p4<|sg 13 c3<|eF .normal (me v v2 true))<|by kernel_rfl
  ·have p6:=fun{sc F} (r:PS sc F)=>p4<|sg 13 c3<|sv (iN v)<|sv (jU v)<|sv (iN v2)<|sv (jU v2)<|r
   rcases aO h with⟨c5,h⟩|⟨c5,h⟩
   ·obtain rfl:=lf h
    exact bv PE (p6<|sg 20 c5<|eF .normal (me v v2 true))<|by kernel_rfl
   ·obtain⟨r7,br7,h⟩:=ck h
    have p9:=fun{sc F} (r:PS sc F)=>p6<|sg 20 c5<|sv (bH v)<|sv (bJ v)<|sv (bH v2)<|sv (bJ v2)<|cD (F5 br7)<|r
    rcases aO h with⟨c8,h⟩|⟨c8,h⟩
    ·obtain rfl:=lf h
     exact bv PE (p9<|sg 28 c8<|eF .normal (me v v2 true))<|by kernel_rfl
    ·obtain⟨r10,br10,h⟩:=ck h
     obtain rfl:=lf h
     exact bv PE (p9<|sg 28 c8<|sv (aM v)<|sv (aN v)<|sv (aM v2)<|sv (aN v2)<|cD (yU uV (fun _ _ _ h=>AT h) br10)<|eF .normal (me v v2 (!r10)))<|by kernel_rfl
end
section
variable(v:af)(v2:af)
def MG:aB:=aS 117 [(2,.eptr (ac v)),(3,.eptr (ac v2))] [.dead,.dead] []
def yy(o:Bool):aB:=aS 117 [(2,.eptr (ac v)),(3,.eptr (ac v2)),(59,.bool o)] [.dead,.dead] []
def IP:Option Bool:=
 if((v.Kids.length:Int)!=(v2.Kids.length:Int))=true then
  some true
 else
  some ((v.Alts.length:Int)!=(v2.Alts.length:Int))
theorem KZ{x:Bool}(h:IP v v2=some x):aW Pg GE 0 (cA W4 28) (EX .normal (yy v v2 x)) (MG v v2):=by
 have p15:=fun{sc F} (r:PS sc F)=>sv (ba v)<|sv (be v)<|bQ (fQ.ln v.Kids)<|sv (ba v2)<|sv (be v2)<|bQ (fQ.ln v2.Kids)<|r
 rcases aO h with⟨c14,h⟩|⟨c14,h⟩
 ·obtain rfl:=lf h
  exact bv PE (p15<|sg 8 c14<|eF .normal (yy v v2 true))<|by kernel_rfl
 ·obtain rfl:=lf h
  exact bv PE (p15<|sg 8 c14<|sv (aG v)<|sv (aH v)<|bQ (eZ.ln v.Alts)<|sv (aG v2)<|sv (aH v2)<|bQ (eZ.ln v2.Alts)<|eF .normal (yy v v2 ((v.Alts.length:Int)!=(v2.Alts.length:Int))))<|by kernel_rfl
end
section
variable(R36:su)(v:af)(v2:af)(i:Int)
def td:aB:=aS 117 [(2,.eptr (ac v)),(3,.eptr (ac v2)),(5,.int .i64 i)] [.dead,.dead] []
def te(o:Unit⊕(Unit)):Exit:=match o with
 |(.inl _)=>.ret
 |(.inr _)=>.exit 0
def j6(o:Unit⊕(Unit)):aB:=match o with
 |(.inl o)=>aS 117 [(4,.bool false)] [.dead,.dead] []
 |(.inr o)=>aS 117 [(2,.eptr (ac v)),(3,.eptr (ac v2))] [.dead,.dead] []
def D9:Option (Int⊕(Unit⊕(Unit))):=
 if(decide (i<(v.Kids.length:Int)))=true then
  (eT v.Kids i).bind fun x21=>
  (eT v2.Kids i).bind fun x22=>
  (R36 x21 x22).bind fun r23=>
  if(!r23)=true then
   some (.inr (.inl ()))
  else
   some (.inl (bB (i+1)))
 else
  some (.inr (.inr ()))
def IR:Option (Unit⊕(Unit)):=loop (fun(zz:Int)=>D9 R36 v v2 zz) i
theorem JA(hR36:sh R36){y:Int⊕(Unit⊕(Unit))}(h:D9 R36 v v2 i=some y):aW Pg GE 0 (cA W4 247) (LQ (fun(zz:Int)=>td v v2 zz) te (j6 v v2) y) (td v v2 i):=by
 have p20:=fun{sc F} (r:PS sc F)=>sv (ba v)<|sv (be v)<|bQ (fQ.ln v.Kids)<|r
 rcases aO h with⟨c19,h⟩|⟨c19,h⟩
 ·obtain⟨x21,bx21,x22,bx22,r23,br23,h⟩:=Zb3 h
  have p25:=fun{sc F} (r:PS sc F)=>p20<|sg 0 c19<|G0 [0,1,0,7,15,0,32,0,224,480,1023,2047]<|sv (ba v)<|sv (be v)<|sv (fQ.ia (k:=.i64) bx21)<|sv (bM x21)<|sv (ba v2)<|sv (be v2)<|sv (fQ.ia (k:=.i64) bx22)<|sv (bM x22)<|cD (hR36 _ _ _ br23)<|r
  rcases aO h with⟨c24,h⟩|⟨c24,h⟩
  ·obtain rfl:=lf h
   have z:=p25<|sg 0 c24<|eF (te (.inl ())) (j6 v v2 (.inl ()))
   exact hU PE (Zn rfl) z<|by kernel_rfl
  ·obtain rfl:=lf h
   exact wJ PE (p25<|sg 0 c24<|eF .normal (td v v2 (bB (i+1))))<|by kernel_rfl
 ·obtain rfl:=lf h
  have z:=p20<|sg 0 c19<|eF (te (.inr ())) (j6 v v2 (.inr ()))
  exact hU PE (Zn rfl) z<|by kernel_rfl
theorem wj(hR36:sh R36){x:Unit⊕(Unit)}(h:IR R36 v v2 i=some x):aW Pg GE 0 (.loop (cA W4 247)) (EX (te x) (j6 v v2 x)) (td v v2 i):=
 ZL h fun _ _ hy=>JA _ _ _ _ hR36 hy
end
section
variable(R36:su)(v:af)(v2:af)(i:Int)(m:ae)(m2:waA)(m3:Int)(m4:ae)(m5:Int)(m6:waF)(m7:waE)(m8:waD)(m9:waC)(m10:ae)(m11:waA)(m12:Int)(m13:ae)(m14:Int)(m15:waF)(m16:waE)(m17:waD)(m18:waC)
def MH:aB:=aS 117 [(2,.eptr (ac v)),(3,.eptr (ac v2)),(6,.int .i64 i),(7,.bptr 2 0),(8,.bptr 3 0)] [.dead,.dead,.cells [.str m,sl cS m2,.int .i64 m3,.str m4,.int .i64 m5,sl ac m6,sl au m7,sl aA m8,sl ah m9] [],.cells [.str m10,sl cS m11,.int .i64 m12,.str m13,.int .i64 m14,sl ac m15,sl au m16,sl aA m17,sl ah m18] []] []
def tc(o:Bool):aB:=aS 117 [(2,.eptr (ac v)),(3,.eptr (ac v2)),(6,.int .i64 i),(116,.bool o)] [.dead,.dead,.cells [.str m,sl cS m2,.int .i64 m3,.str m4,.int .i64 m5,sl ac m6,sl au m7,sl aA m8,sl ah m9] [],.cells [.str m10,sl cS m11,.int .i64 m12,.str m13,.int .i64 m14,sl ac m15,sl au m16,sl aA m17,sl ah m18] []] []
def IQ:Option Bool:=
 if(!(m==m10))=true then
  some true
 else
  (j5 m2 m11).bind fun r33=>
  if(!r33)=true then
   some true
  else
   (R36 (⟨m3,m4,m5,m6,m7,m8,m9⟩:af) (⟨m12,m13,m14,m15,m16,m17,m18⟩:af)).bind fun r36=>
   some (!r36)
theorem K0(hR36:sh R36){x:Bool}(h:IQ R36 m m2 m3 m4 m5 m6 m7 m8 m9 m10 m11 m12 m13 m14 m15 m16 m17 m18=some x):aW Pg GE 0 (cA W4 16118) (EX .normal (tc v v2 i m m2 m3 m4 m5 m6 m7 m8 m9 m10 m11 m12 m13 m14 m15 m16 m17 m18 x)) (MH v v2 i m m2 m3 m4 m5 m6 m7 m8 m9 m10 m11 m12 m13 m14 m15 m16 m17 m18):=by
 have p32:=fun{sc F} (r:PS sc F)=>ss<|ss<|r
 rcases aO h with⟨c31,h⟩|⟨c31,h⟩
 ·obtain rfl:=lf h
  exact bv PE (p32<|sg 6 c31<|eF .normal (tc v v2 i m m2 m3 m4 m5 m6 m7 m8 m9 m10 m11 m12 m13 m14 m15 m16 m17 m18 true))<|by kernel_rfl
 ·obtain⟨r33,br33,h⟩:=ck h
  have p35:=fun{sc F} (r:PS sc F)=>p32<|sg 6 c31<|ss<|ss<|cD (nn br33)<|r
  rcases aO h with⟨c34,h⟩|⟨c34,h⟩
  ·obtain rfl:=lf h
   exact bv PE (p35<|sg 14 c34<|eF .normal (tc v v2 i m m2 m3 m4 m5 m6 m7 m8 m9 m10 m11 m12 m13 m14 m15 m16 m17 m18 true))<|by kernel_rfl
  ·obtain⟨r36,br36,h⟩:=ck h
   obtain rfl:=lf h
   exact bv PE (p35<|sg 14 c34<|sv (bW (⟨m3,m4,m5,m6,m7,m8,m9⟩:af) [])<|sv (bW (⟨m12,m13,m14,m15,m16,m17,m18⟩:af) [])<|cD (hR36 _ _ _ br36)<|eF .normal (tc v v2 i m m2 m3 m4 m5 m6 m7 m8 m9 m10 m11 m12 m13 m14 m15 m16 m17 m18 (!r36)))<|by kernel_rfl
end
section
variable(R36:su)(v:af)(v2:af)(i:Int)
def tf:aB:=aS 117 [(2,.eptr (ac v)),(3,.eptr (ac v2)),(6,.int .i64 i)] [.dead,.dead] []
def tg(o:Unit⊕(Unit)):Exit:=match o with
 |(.inl _)=>.ret
 |(.inr _)=>.exit 2
def mf(o:Unit⊕(Unit)):aB:=match o with
 |(.inl o)=>aS 117 [(4,.bool false)] [.dead,.dead] []
 |(.inr o)=>aS 117 [] [.dead,.dead] []
def Ea:Option (Int⊕(Unit⊕(Unit))):=
 if(decide (i<(v.Alts.length:Int)))=true then
  (eT v.Alts i).bind fun x29=>
  (eT v2.Alts i).bind fun x30=>
  (IQ R36 x29.Con x29.Names x29.Body.Op x29.Body.Name x29.Body.N x29.Body.Kids x29.Body.Params x29.Body.Alts x29.Body.Types x30.Con x30.Names x30.Body.Op x30.Body.Name x30.Body.N x30.Body.Kids x30.Body.Params x30.Body.Alts x30.Body.Types).bind fun o37=>
  if o37=true then
   some (.inr (.inl ()))
  else
   some (.inl (bB (i+1)))
 else
  some (.inr (.inr ()))
def IS:Option (Unit⊕(Unit)):=loop (fun(zz:Int)=>Ea R36 v v2 zz) i
theorem JB(hR36:sh R36){y:Int⊕(Unit⊕(Unit))}(h:Ea R36 v v2 i=some y):aW Pg GE 0 (cA W4 503) (LQ (fun(zz:Int)=>tf v v2 zz) tg mf y) (tf v v2 i):=by
 have p28:=fun{sc F} (r:PS sc F)=>sv (aG v)<|sv (aH v)<|bQ (eZ.ln v.Alts)<|r
 rcases aO h with⟨c27,h⟩|⟨c27,h⟩
 ·obtain⟨x29,bx29,x30,bx30,o37,bo37,h⟩:=Zb3 h
  have p39:=fun{sc F} (r:PS sc F)=>p28<|sg 0 c27<|X8 (.dx [0,1,0,7,15,0,32,0,224,480,0,0,3103,8191] [] [] [741,765])<|sv (aG v)<|sv (aH v)<|sv (eZ.ia (k:=.i64) bx29)<|sv (mA x29)<|sv (aG v2)<|sv (aH v2)<|sv (eZ.ia (k:=.i64) bx30)<|sv (mA x30)<|sx (i7 x29)<|sx (i7 x30)<|nF 0<|cT (K0 R36 v v2 i x29.Con x29.Names x29.Body.Op x29.Body.Name x29.Body.N x29.Body.Kids x29.Body.Params x29.Body.Alts x29.Body.Types x30.Con x30.Names x30.Body.Op x30.Body.Name x30.Body.N x30.Body.Kids x30.Body.Params x30.Body.Alts x30.Body.Types hR36 bo37)<|r
  rcases aO h with⟨c38,h⟩|⟨c38,h⟩
  ·obtain rfl:=lf h
   have z:=p39<|sg 0 c38<|tr 0 (tg (.inl ())) (mf (.inl ())) rfl (du (aI trivial trivial)) (aI trivial (aI trivial trivial))
   exact sF (A:=PE) mixed (Zn rfl) z<|by kernel_rfl
  ·obtain rfl:=lf h
   have z:=p39<|sg 0 c38<|tr 0 .normal (tf v v2 (bB (i+1))) rfl (du (aI (a8 (az v)) (aI (a8 (az v2)) (aI trivial trivial)))) (aI trivial (aI trivial trivial))
   exact dy (A:=PE) mixed z<|by kernel_rfl
 ·obtain rfl:=lf h
  have z:=p28<|sg 0 c27<|eF (tg (.inr ())) (mf (.inr ()))
  exact hU PE (Zn rfl) z<|by kernel_rfl
theorem BU(hR36:sh R36){x:Unit⊕(Unit)}(h:IS R36 v v2 i=some x):aW Pg GE 0 (.loop (cA W4 503)) (EX (tg x) (mf x)) (tf v v2 i):=
 ZL h fun _ _ hy=>JB _ _ _ _ hR36 hy
end
def KW(R36:su)(a:af)(a2:af):Option Bool:=
 (IN a a2).bind fun o11=>
 if o11=true then
  some false
 else
  (IP a a2).bind fun o16=>
  if o16=true then
   some false
  else
   (IR R36 a a2 0).bind fun o26=>match o26 with
   |(.inl o26)=>
    some false
   | (.inr o26) =>
    (IS R36 a a2 0).bind fun o40=>match o40 with
    |(.inl o40)=>
     some false
    |(.inr o40)=>
     some true
theorem Oi(R36:su)(hR36:sh R36){a:af}{a2:af}{r:Bool}(h:KW R36 a a2=some r):CC Pg GE 12 [.agg (ac a),.agg (ac a2)] (.bool r) []:=by
 obtain⟨o11,bo11,h⟩:=ck h
 have p13:=fun{sc F} (r:PS sc F)=>se (cF a)<|se (cF a2)<|nF 1<|cT (KY a a2 bo11)<|r
 rcases aO h with⟨c12,h⟩|⟨c12,h⟩
 ·obtain rfl:=lf h
  have z:=p13<|sg 0 c12<|en (aI (rP (.bool false))<|trivial)
  exact Z12.v (aI (az a) (aI (az a2) trivial)) z<|by kernel_rfl
 ·obtain⟨o16,bo16,h⟩:=ck h
  have p18:=fun{sc F} (r:PS sc F)=>p13<|sg 0 c12<|nF 1<|cT (KZ a a2 bo16)<|r
  rcases aO h with⟨c17,h⟩|⟨c17,h⟩
  ·obtain rfl:=lf h
   have z:=p18<|sg 0 c17<|en (aI (rP (.bool false))<|trivial)
   exact Z12.v (aI (az a) (aI (az a2) trivial)) z<|by kernel_rfl
  ·obtain⟨o26,bo26,h⟩:=ck h
   rcases o26 with o26|o26
   ·obtain rfl:=lf h
    have z:=p18<|sg 0 c17<|cT (e:=.ret) (s1:=j6 a a2 (.inl o26)) (wj R36 a a2 0 hR36 bo26)<|en (aI (rP (.bool false))<|trivial)
    exact Z12.v (aI (az a) (aI (az a2) trivial)) z<|by kernel_rfl
   ·obtain⟨o40,bo40,h⟩:=ck h
    rcases o40 with o40|o40
    ·obtain rfl:=lf h
     have z:=p18<|sg 0 c17<|cT (e:=.exit 0) (s1:=j6 a a2 (.inr o26)) (wj R36 a a2 0 hR36 bo26)<|cT (e:=.ret) (s1:=mf (.inl o40)) (BU R36 a a2 0 hR36 bo40)<|en (aI (rP (.bool false))<|trivial)
     exact Z12.v (aI (az a) (aI (az a2) trivial)) z<|by kernel_rfl
    ·obtain rfl:=lf h
     have z:=p18<|sg 0 c17<|cT (e:=.exit 0) (s1:=j6 a a2 (.inr o26)) (wj R36 a a2 0 hR36 bo26)<|cT (e:=.exit 2) (s1:=mf (.inr o40)) (BU R36 a a2 0 hR36 bo40)<|en (aI (rP (.bool true))<|trivial)
     exact Z12.v (aI (az a) (aI (az a2) trivial)) z<|by kernel_rfl
def KX:((af×af)->Option Bool)->(af×af)->Option Bool:=fun(rec:(af×af)->Option Bool) (x:af×af)=>KW (fun a a2=>rec (a,a2)) x.1 x.2
def KV(a:af)(a2:af):Option Bool:=rE KX (a,a2)
theorem IT{a:af}{a2:af}{r:Bool}(h:KV a a2=some r):CC Pg GE 12 [.agg (ac a),.agg (ac a2)] (.bool r) []:=
 ek (F:=KX) (M:=fun(x:af×af) (r:Bool)=>CC Pg GE 12 [.agg (ac x.1),.agg (ac x.2)] (.bool r) []) (fun rec hrec x r h=>Oi _ (fun a a2 r h=>hrec (a,a2) r h) h) h
abbrev ea:=(af->(List (ae×Bool))->Option (Bool×(List (ae×Bool))))
abbrev d8(R:ea):Prop:=∀(e:af) (k2:(List (ae×Bool))) (r:Bool×(List (ae×Bool))),R e k2=some r->C Pg GE 64 [.agg (ac e),.func (.func 99) [] [.bptr 0 0]] [] [.cells [.func (.func 81) [.bptr 1 0] []] [],.cells [.mapr 2] [],.map (aL PVal.bool k2)] (.bool r.1) [] [.cells [.func (.func 81) [.bptr 1 0] []] [],.cells [.mapr 2] [],.map (aL PVal.bool r.2)]
end Go.Proofs.YtkdahfeiedaahaaGreatDoor
