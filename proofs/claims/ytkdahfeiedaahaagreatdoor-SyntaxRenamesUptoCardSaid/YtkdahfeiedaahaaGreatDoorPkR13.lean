/- PROVED: a part of the proof. Conditions: none. -/
import Derived.Test.YtkdahfeiedaahaaGreatDoorPkR12
set_option linter.unusedSimpArgs false
set_option linter.unusedVariables false
noncomputable section
namespace Go.Proofs.YtkdahfeiedaahaaGreatDoor
open Go Go.Proofs.Tryz
set_option linter.unusedVariables false
set_option linter.defProp false
set_option maxRecDepth 100000
noncomputable def qai:Code:=f56.body.getD .skip
theorem Za:ZF Pg [33,63,73,80,88] 56 f56 qai:=zf call56 func56 rfl mixed
section
variable(scope:(List af))(m:waA)(m2:Int)(m3:ai)(m4:Int)(m5:waE)(m6:waC)(m7:waD)(m8:waB)(m9:waE)(m10:waC)(m11:waD)(m12:waB)(m13:(List af))
def cY:Option ((waA×ai×(List af))):=
 (eX (⟨m2,m3,m4,m5,m6,m7,m8⟩:ag)).bind λr3=>
 if r3=true then
  (ng scope m3).bind λr5=>
  if r5.2=true then
   some (m,r5.1,m13)
  else
   (IG m3).bind λr7=>
   some (m,r7,m13)
 else if(m2==7)=true then
  (cz m3 scope m m13).bind λr9=>
  some (r9.2.1,r9.1,r9.2.2)
 else
  some (m,m3,m13)
theorem kE:OJ 1 (cA qai 62) (cY scope m m2 m3 m4 m5 m6 m7 m8 m13) .normal (λo=>aO 96 [(3,.bptr 1 0),(4,.bptr 2 0),(5,.eptr ((cL ak) scope)),(6,.bptr 4 0),(7,.bptr 5 0),(8,.bptr 6 0)] [.cells [sl cS o.1] [(0,9)],.cells [.func (.func 62) [] [.bptr 0 0],.func (.func 61) [] []] [],.cells [.int .i64 m2,.str o.2.1,.int .i64 m4,sl ae m5,sl aj m6,sl au m7,sl ah m8] [(6,60)],.dead,.cells [.int .i64 0,.str ([]:ai),.int .i64 0,sl ae m9,sl aj m10,sl au m11,sl ah m12] [(3,28),(4,85),(5,89),(6,60)],.cells [sl ak o.2.2] [(0,137)],.cells [.func (.func 105) [] [.bptr 1 0,.eptr ((cL ak) scope),.bptr 5 0]] []] []) (aO 96 [(3,.bptr 1 0),(4,.bptr 2 0),(5,.eptr ((cL ak) scope)),(6,.bptr 4 0),(7,.bptr 5 0),(8,.bptr 6 0)] [.cells [sl cS m] [(0,9)],.cells [.func (.func 62) [] [.bptr 0 0],.func (.func 61) [] []] [],.cells [.int .i64 m2,.str m3,.int .i64 m4,sl ae m5,sl aj m6,sl au m7,sl ah m8] [(6,60)],.dead,.cells [.int .i64 0,.str ([]:ai),.int .i64 0,sl ae m9,sl aj m10,sl au m11,sl ah m12] [(3,28),(4,85),(5,89),(6,60)],.cells [sl ak m13] [(0,137)],.cells [.func (.func 105) [] [.bptr 1 0,.eptr ((cL ak) scope),.bptr 5 0]] []] []):=Za.j<|
 tb λr3 br3=>tv (aK (⟨m2,m3,m4,m5,m6,m7,m8⟩:ag) [])<|bM (jQ _ br3)<|tF (tb λr5 br5=>tv (cw Jx (sl ak scope) [])<|ts<|bM (AZ br5)<|tF (ts<|tE)<|tb λr7 br7=>ts<|ts<|bM (Mi _ br7)<|ts<|tE)<|ts<|tF (tb λr9 br9=>ts<|ts<|tc [1,0,5] (fJ _ br9)<|ts<|tE)<|tE
end
section
variable(scope:(List af))(kids:waE)(i:Int)(t59:waE)(t60:Int)(m:waA)(m2:Int)(m3:ai)(m4:Int)(m5:waC)(m6:waD)(m7:waB)(m8:waE)(m9:waC)(m10:waD)(m11:waB)(m12:(List af))(m13:Int)(m14:ai)(m15:Int)(m16:waE)(m17:waC)(m18:waD)(m19:waB)
def d5:Option Bool:=
 if(m2==7)=true then
  some (i==0)
 else
  some false
theorem kF:OU 1 (cA qai 523766) (d5 i m2) .normal (λo=>[(13,.undef),(72,.bool o)]) (aO 96 [(3,.bptr 1 0),(4,.bptr 2 0),(5,.eptr ((cL ak) scope)),(6,.bptr 4 0),(7,.bptr 5 0),(12,sl ae kids),(13,.int .i64 i),(14,.bptr 8 0),(59,sl ae t59),(60,.int .i64 t60),(61,.int .i64 i)] [.cells [sl cS m] [(0,9)],.cells [.func (.func 62) [] [.bptr 0 0],.func (.func 61) [] []] [],.cells [.int .i64 m2,.str m3,.int .i64 m4,sl ae t59,sl aj m5,sl au m6,sl ah m7] [(4,85),(6,60)],.dead,.cells [.int .i64 0,.str ([]:ai),.int .i64 0,sl ae m8,sl aj m9,sl au m10,sl ah m11] [(3,28),(4,85),(5,89),(6,60)],.cells [sl ak m12] [(0,137)],.cells [.func (.func 105) [] [.bptr 1 0,.eptr ((cL ak) scope),.bptr 5 0]] [],.dead,.cells [.int .i64 m13,.str m14,.int .i64 m15,sl ae m16,sl aj m17,sl au m18,sl ah m19] []] [((12,0),28)]):=Za.j<|
 tf (λc14=>ts<|tg 4 c14<|tE) λc14=>ts<|tg 4 c14<|tE
end
section
variable(R28:aW)(scope:(List af))(t59:waE)(t60:Int)(m2:Int)(m3:ai)(m4:Int)(m5:waC)(m6:waD)(m7:waB)(m8:waE)(m9:waC)(m10:waD)(m11:waB)(m12:(List af))(kids:waE)(t61:Int)(m:waA)
def dM:aB:=aO 96 [(3,.bptr 1 0),(4,.bptr 2 0),(5,.eptr ((cL ak) scope)),(6,.bptr 4 0),(7,.bptr 5 0),(12,sl ae kids),(59,sl ae t59),(60,.int .i64 t60),(61,.int .i64 t61)] [.cells [sl cS m] [(0,9)],.cells [.func (.func 62) [] [.bptr 0 0],.func (.func 61) [] []] [],.cells [.int .i64 m2,.str m3,.int .i64 m4,sl ae t59,sl aj m5,sl au m6,sl ah m7] [(4,85),(6,60)],.dead,.cells [.int .i64 0,.str ([]:ai),.int .i64 0,sl ae m8,sl aj m9,sl au m10,sl ah m11] [(3,28),(4,85),(5,89),(6,60)],.cells [sl ak m12] [(0,137)],.cells [.func (.func 105) [] [.bptr 1 0,.eptr ((cL ak) scope),.bptr 5 0]] [],.dead] [((12,0),28)]
def fL(o:waE×waA):aB:=aO 96 [(3,.bptr 1 0),(4,.bptr 2 0),(5,.eptr ((cL ak) scope)),(6,.bptr 4 0),(12,sl ae o.1)] [.cells [sl cS o.2] [(0,9)],.cells [.func (.func 62) [] [.bptr 0 0],.func (.func 61) [] []] [],.cells [.int .i64 m2,.str m3,.int .i64 m4,sl ae t59,sl aj m5,sl au m6,sl ah m7] [(4,85),(6,60)],.dead,.cells [.int .i64 0,.str ([]:ai),.int .i64 0,sl ae m8,sl aj m9,sl au m10,sl ah m11] [(3,28),(4,85),(5,89),(6,60)],.cells [sl ak m12] [(0,137)],.cells [.func (.func 105) [] [.bptr 1 0,.eptr ((cL ak) scope),.bptr 5 0]] [],.dead] [((12,0),28)]
instance iS_syntax_naming_apply_Rename_1_same_L2:KS 1 (dM scope t59 t60 m2 m3 m4 m5 m6 m7 m8 m9 m10 m11 m12 kids t61 m):=⟨rfl,(yL (aI (ky rfl) (aI (ky rfl) (aI (iQ (Ha bj scope)) (aI (ky rfl) (aI (ky rfl) (aI (up (aH a8 kids)) (aI (up (aH a8 t59)) (aI vzz (aI vzz vzz)))))))))),(aI (aI (up (aH uB m)) trivial) (aI (aI (aI vzz (aI (ky rfl) trivial)) (aI (aI vzz vzz) trivial)) (aI (aI vzz (aI vzz (aI vzz (aI (up (aH a8 t59)) (aI (up (aH bH m5)) (aI (up (aH dm m6)) (aI (up (aH bU m7)) trivial))))))) (aI vzz (aI (aI vzz (aI vzz (aI vzz (aI (up (aH a8 m8)) (aI (up (aH bH m9)) (aI (up (aH dm m10)) (aI (up (aH bU m11)) trivial))))))) (aI (aI (up (aH bj m12)) trivial) (aI (aI (aI vzz (aI (ky rfl) (aI (iQ (Ha bj scope)) (aI (ky rfl) trivial)))) trivial) (aI vzz vzz))))))))⟩
instance iO_syntax_naming_apply_Rename_1_same_L2{o:(waE×waA)}:KS 1 (fL scope t59 m2 m3 m4 m5 m6 m7 m8 m9 m10 m11 m12 o):=⟨rfl,(yL (aI (ky rfl) (aI (ky rfl) (aI (iQ (Ha bj scope)) (aI (ky rfl) (aI (up (aH a8 o.1)) trivial)))))),(aI (aI (up (aH uB o.2)) trivial) (aI (aI (aI vzz (aI (ky rfl) trivial)) (aI (aI vzz vzz) trivial)) (aI (aI vzz (aI vzz (aI vzz (aI (up (aH a8 t59)) (aI (up (aH bH m5)) (aI (up (aH dm m6)) (aI (up (aH bU m7)) trivial))))))) (aI vzz (aI (aI vzz (aI vzz (aI vzz (aI (up (aH a8 m8)) (aI (up (aH bH m9)) (aI (up (aH dm m10)) (aI (up (aH bU m11)) trivial))))))) (aI (aI (up (aH bj m12)) trivial) (aI (aI (aI vzz (aI (ky rfl) (aI (iQ (Ha bj scope)) (aI (ky rfl) trivial)))) trivial) (aI vzz vzz))))))))⟩
def bw:Option ((waE×Int×waA)⊕((waE×waA))):=
 if decide (t61<t60)=true then
  (ey t59 t61).bind λx13=>
  (d5 t61 m2).bind λo15=>
  if o15=true then
   (R28 x13 scope m).bind λr17=>
   (app kids ([r17.1]:List ag)).bind λl18=>
   some (.inl (l18,dp (t61+1),r17.2))
  else
   (R28 x13 m12 m).bind λr19=>
   (app kids ([r19.1]:List ag)).bind λl20=>
   some (.inl (l20,dp (t61+1),r19.2))
 else
  some (.inr (kids,m))
def d6:Option ((waE×waA)):=loop (λ(zz:waE×Int×waA)=>bw R28 scope t59 t60 m2 m12 zz.1 zz.2.1 zz.2.2) (kids,t61,m)
theorem kp(hR28:bJ R28):OL 1 (cA qai 8183) (bw R28 scope t59 t60 m2 m12 kids t61 m) (λ(zz:waE×Int×waA)=>dM scope t59 t60 m2 m3 m4 m5 m6 m7 m8 m9 m10 m11 m12 zz.1 zz.2.1 zz.2.2) (λ_=>.exit 1) (fL scope t59 m2 m3 m4 m5 m6 m7 m8 m9 m10 m11 m12) (dM scope t59 t60 m2 m3 m4 m5 m6 m7 m8 m9 m10 m11 m12 kids t61 m):=Za.lx<|
 tF (tb λx13 bx13=>tb λo15 bo15=>tv (cR.ia (k:=.i64) bx13)<|tv (aX x13)<|tx rH<|tx (dn x13)<|jo 0<|cD (kF scope kids t61 t59 t60 m m2 m3 m4 m5 m6 m7 m8 m9 m10 m11 m12 x13.Op x13.Name x13.N x13.Kids x13.Params x13.Alts x13.Types _ bo15)<|tF (tb λr17 br17=>tb λl18 bl18=>tv (show aY Pg 95 [.func (.func 62) [] [.bptr 0 0],.func (.func 61) [] []]=some (.agg [.func (.func 62) [] [.bptr 0 0],.func (.func 61) [] []]) by kernel_rfl)<|tv (aK x13 [])<|tv (cw Jx (sl ak scope) [])<|tc [0] (hR28 _ _ _ _ br17)<|tv (cR.mk' (v:=ly) dR ([r17.1]:List ag) 1 (by kernel_rfl))<|tv (cR.ap bl18)<|tE)<|tb λr19 br19=>tb λl20 bl20=>tv (show aY Pg 95 [.func (.func 62) [] [.bptr 0 0],.func (.func 61) [] []]=some (.agg [.func (.func 62) [] [.bptr 0 0],.func (.func 61) [] []]) by kernel_rfl)<|tv (aK x13 [])<|ts<|tc [0] (hR28 _ _ _ _ br19)<|tv (cR.mk' (v:=ly) dR ([r19.1]:List ag) 1 (by kernel_rfl))<|tv (cR.ap bl20)<|tE)<|tE
def kG(hR28:bJ R28):=rE (s:=(kids,t61,m)) λzz=>kp R28 scope t59 t60 m2 m3 m4 m5 m6 m7 m8 m9 m10 m11 m12 zz.1 zz.2.1 zz.2.2 hR28
end
def de(R28:aW)(e:ag)(scope:(List af))(k0:waA):Option (ag×waA):=
 (cr e.Types).bind λr1=>
 (pj scope).bind λr2=>
 (cY scope k0 e.Op e.Name e.N e.Kids e.Params e.Alts r1 r2).bind λo10=>
 (bI e.Params (e.Op==6) scope o10.1 o10.2.2).bind λr11=>
 (d6 R28 scope e.Kids (e.Kids.length:Int) e.Op r11.2.2 ([]:List ag) 0 r11.2.1).bind λo21=>
 (ca R28 e.Alts scope o21.2).bind λr22=>
 some ((⟨e.Op,o10.2.1,e.N,o21.1,r11.1,r22.1,r1⟩:ag),r22.2)
theorem lr(R28:aW)(hR28:bJ R28){e:ag}{scope:(List af)}{k0:waA}:OG 56 [.agg [.func (.func 62) [] [.bptr 0 0],.func (.func 61) [] []],.agg (ae e),sl ak scope] [] [.cells [sl cS k0] [(0,9)]] (de R28 e scope k0) (λr=>.agg (ae r.1)) [(3,28),(4,85),(5,89),(6,60)] (λr=>[.cells [sl cS r.2] [(0,9)]]):=Za.ga 1<|
 tb λr1 br1=>tb λr2 br2=>tb λo10 bo10=>tb λr11 br11=>tb λo21 bo21=>tb λr22 br22=>T9 (Zl [.func (.func 62) [] [.bptr 0 0],.func (.func 61) [] []]) rfl<|T9 (dn e) rfl<|te (qeG ak scope)<|tx rH<|ts<|bM (fC _ br1)<|tv (cw Jx (sl ak scope) [])<|bM (uC br2)<|tx qcn<|tx qcm<|ts<|jo 0<|cD (kE scope k0 e.Op e.Name e.N e.Kids e.Params e.Alts r1 ([]:List ag) ([]:List am) ([]:List az) ([]:List al) r2 _ bo10)<|ts<|tx qeH<|ts<|Vt 7 [[.bool (e.Op==6)]] [3,4,5,6,7,8,11] [] (qdS (m:=1) (b:=7) rfl [.bool (e.Op==6)] rfl) (qdT 7 (l:=[.bool (e.Op==6)]) (aI vzz vzz)) (qdU (qd6 [.bool (e.Op==6)]))<|tq (Jq 7 (Ha bj scope))<|tq (iD 7 (p:=sl cS o10.1) (aH uB o10.1))<|tq (iD 7 (p:=sl ae e.Kids) (aH a8 e.Kids))<|tq (iD 7 (p:=sl aj e.Params) (aH bH e.Params))<|tq (iD 7 (p:=sl au e.Alts) (aH dm e.Alts))<|tq (iD 7 (p:=sl ah r1) (aH bU r1))<|tq (iD 7 (p:=sl ae ([]:List ag)) (aH a8 ([]:List ag)))<|tq (iD 7 (p:=sl aj ([]:List am)) (aH bH ([]:List am)))<|tq (iD 7 (p:=sl au ([]:List az)) (aH dm ([]:List az)))<|tq (iD 7 (p:=sl ah ([]:List al)) (aH bU ([]:List al)))<|tq (iD 7 (p:=sl ak o10.2.2) (aH bj o10.2.2))<|tq (Jq 7 (Ha bj scope))<|ts<|tc [6,1,0,5] (fq _ br11)<|ts<|ct (cR.ln e.Kids)<|cD (kG R28 scope e.Kids (e.Kids.length:Int) e.Op o10.2.1 e.N r11.1 e.Alts r1 ([]:List ag) ([]:List am) ([]:List az) ([]:List al) r11.2.2 ([]:List ag) 0 r11.2.1 hR28 _ bo21)<|ts<|tc [1,0] (jq R28 hR28 _ br22)<|tz (aK (⟨e.Op,o10.2.1,e.N,o21.1,r11.1,r22.1,r1⟩:ag) [])<|ty (bz (⟨e.Op,o10.2.1,e.N,o21.1,r11.1,r22.1,r1⟩:ag))<|Ei λq=>aI (iX (⟨e.Op,o10.2.1,e.N,o21.1,r11.1,r22.1,r1⟩:ag)) q.2
def ec:((ag×(List af)×waA)->Option (ag×waA))->(ag×(List af)×waA)->Option (ag×waA):=λ(rec:(ag×(List af)×waA)->Option (ag×waA)) (x:ag×(List af)×waA)=>de (λe scope k0=>rec (e,scope,k0)) x.1 x.2.1 x.2.2
def eC(e:ag)(scope:(List af))(k0:waA):Option (ag×waA):=pl ec (e,scope,k0)
theorem lR{e:ag}{scope:(List af)}{k0:waA}:OG 56 [.agg [.func (.func 62) [] [.bptr 0 0],.func (.func 61) [] []],.agg (ae e),sl ak scope] [] [.cells [sl cS k0] [(0,9)]] (eC e scope k0) (λr=>.agg (ae r.1)) [(3,28),(4,85),(5,89),(6,60)] (λr=>[.cells [sl cS r.2] [(0,9)]]):=XI λ_ h=>
 dY (F:=ec) (M:=λ(x:ag×(List af)×waA) (r:ag×waA)=>C Pg GE 56 [.agg [.func (.func 62) [] [.bptr 0 0],.func (.func 61) [] []],.agg (ae x.1),sl ak x.2.1] [] [.cells [sl cS x.2.2] [(0,9)]] (.agg (ae r.1)) [(3,28),(4,85),(5,89),(6,60)] [.cells [sl cS r.2] [(0,9)]]) (λrec hrec x r h=>lr _ (λe scope k0=>XI λr h=>hrec (e,scope,k0) r h) _ h) h
noncomputable def qfg:Code:=f15.body.getD .skip
theorem qeS:ZF Pg [] 15 f15 qfg:=zf call15 func15 rfl mixed
def kl(e:ag):Option ag:=
 (qa e).bind λr1=>
 (eC e ([]:List af) r1).bind λr2=>
 some r2.1
theorem pw{e:ag}:OV 15 [.agg (ae e)] (kl e) (λr=>.agg (ae r)) [(3,28),(4,85),(5,89),(6,60)]:=qeS.va<|
 tb λr1 br1=>tb λr2 br2=>te (cm e)<|tx rH<|tv (aX e)<|bM (fI _ br1)<|tx qd5<|tv (show dh Pg 95 [(1,.func (.func 61) [] []),(0,.func (.func 62) [] [.bptr 2 0])]=some (.agg [.func (.func 62) [] [.bptr 2 0],.func (.func 61) [] []]) by kernel_rfl)<|tx qco<|tx (Zl [.func (.func 62) [] [.bptr 2 0],.func (.func 61) [] []])<|tv (show aY Pg 95 [.func (.func 62) [] [.bptr 2 0],.func (.func 61) [] []]=some (.agg [.func (.func 62) [] [.bptr 2 0],.func (.func 61) [] []]) by kernel_rfl)<|tv (aX e)<|tc [2] (lR _ br2)<|ty (bz r2.1)<|Ei λq=>aI (iX r2.1) q.2
noncomputable def qfo:Code:=f49.body.getD .skip
theorem qe0:ZF Pg [] 49 f49 qfo:=zf call49 func49 rfl mixed
def Ad(a:ai)(a2:ai):Option ag:=
 (fB a).bind λr1=>
 (fB a2).bind λr2=>
 some (⟨10,([]:ai),0,([r1,r2]:List ag),([]:List am),([]:List az),([]:List al)⟩:ag)
theorem Ae{a:ai}{a2:ai}:OV 49 [.str a,.str a2] (Ad a a2) (λr=>.agg (ae r)) [(4,85),(5,89),(6,60)]:=qe0.va<|
 tb λr1 br1=>tb λr2 br2=>tx rH<|bM (bL _ br1)<|bM (bL _ br2)<|tv (cR.mk' (v:=ly) dR ([r1,r2]:List ag) 2 (by kernel_rfl))<|Vf (Pe 10 ([r1,r2]:List ag)) (Pa 10 ([r1,r2]:List ag))<|ty (bz (⟨10,([]:ai),0,([r1,r2]:List ag),([]:List am),([]:List az),([]:List al)⟩:ag))<|Ei λq=>aI (iX (⟨10,([]:ai),0,([r1,r2]:List ag),([]:List am),([]:List az),([]:List al)⟩:ag)) q.2
noncomputable def qdA:Code:=f26.body.getD .skip
theorem qel:ZF Pg [] 26 f26 qdA:=zf call26 func26 rfl mixed
section
variable(v:waA)(v2:waA)(i:Int)
def mH:aB:=aO 26 [(0,sl cS v),(1,sl cS v2),(5,.int .i64 i)] [] []
def sa(o:Unit⊕(Unit)):Exit:=match o with
 |(.inl _)=>.ret
 |(.inr _)=>.exit 0
def sb(o:Unit⊕(Unit)):aB:=match o with
 |(.inl o)=>aO 26 [(4,.bool false)] [] []
 |(.inr o)=>aO 26 [] [] []
def fj:Option (Int⊕(Unit⊕(Unit))):=
 if decide (i<(v.length:Int))=true then
  (ey v i).bind λx3=>
  (ey v2 i).bind λx4=>
  if(!(x3==x4))=true then
   some (.inr (.inl ()))
  else
   some (.inl (dp (i+1)))
 else
  some (.inr (.inr ()))
def pd:Option (Unit⊕(Unit)):=loop (λ(zz:Int)=>fj v v2 zz) i
theorem zE:OL 0 (cA qdA 119) (fj v v2 i) (λ(zz:Int)=>mH v v2 zz) sa sb (mH v v2 i):=qel.l<|
 ct (b8.ln v)<|tF (tb λx3 bx3=>tb λx4 bx4=>Be [0,0,3,7,0,0,48,112,255]<|tv (b8.ia (k:=.i64) bx3)<|tv (cw BZ (.str x3) [])<|tv (b8.ia (k:=.i64) bx4)<|tv (cw BZ (.str x4) [])<|tF tE<|tE)<|tE
theorem qF:OK 0 (.loop (cA qdA 119)) (pd v v2 i) sa sb (mH v v2 i):=C9 λ_=>zE _ _ _
end
def kc(a:waA)(a2:waA):Option Bool:=
 if((a.length:Int)!=(a2.length:Int))=true then
  some false
 else
  (pd a a2 0).bind λo6=>match o6 with
  |(.inl o6)=>
   some false
  |(.inr o6)=>
   some true
theorem dQ{a:waA}{a2:waA}:OV 26 [sl cS a,sl cS a2] (kc a a2) (λr=>.bool r) []:=qel.v<|
 ct (b8.ln a)<|ct (b8.ln a2)<|tF tE<|t2 (λo6 bo6=>cD (qF a a2 0 _ bo6)<|tE) λo6 bo6=>cD (qF a a2 0 _ bo6)<|tE
abbrev ph:=(ag->ag->Option Bool)
abbrev o0(R:ph):Prop:=∀(a:ag) (a2:ag),OV 12 [.agg (ae a),.agg (ae a2)] (R a a2) (λr=>.bool r) []
abbrev iP:=(al->al->Option Bool)
abbrev nk(R:iP):Prop:=∀(a:al) (a2:al),OV 97 [.agg (ah a),.agg (ah a2)] (R a a2) (λr=>.bool r) []
abbrev xW:=(aw->aw->Option Bool)
abbrev Dq(R:xW):Prop:=∀(a:aw) (a2:aw),OV 133 [.agg (av a),.agg (av a2)] (R a a2) (λr=>.bool r) []
noncomputable def X4:Code:=f133.body.getD .skip
theorem ZD:ZF Pg [39] 133 f133 X4:=zf call133 func133 rfl mixed
section
variable(v:aw)(v2:aw)
def zA:Option Bool:=
 if(v.Op !=v2.Op)=true then
  some true
 else if(!(v.Name==v2.Name))=true then
  some true
 else if(v.N !=v2.N)=true then
  some true
 else
  some ((v.Kids.length:Int)!=(v2.Kids.length:Int))
theorem Kd:OU 0 (cA X4 12) (zA v v2) .normal (λo=>[(33,.bool o)]) (aO 53 [(2,.eptr (av v)),(3,.eptr (av v2))] [.dead,.dead] []):=ZD.j<|
 have pp2:=λ{X Y Z} (r:PV _ X Y Z)=>tw (jJ v)<|tw (jJ v2)<|r;tf (λc1=>pp2<|tg 6 c1<|tE) λc1=>have pp4:=λ{X Y Z} (r:PV _ X Y Z)=>pp2<|tg 6 c1<|tw (g8 v)<|tw (g8 v2)<|r;tf (λc3=>pp4<|tg 13 c3<|tE) λc3=>have pp6:=λ{X Y Z} (r:PV _ X Y Z)=>pp4<|tg 13 c3<|tw (kv v)<|tw (kv v2)<|r;tf (λc5=>pp6<|tg 20 c5<|tE) λc5=>pp6<|tg 20 c5<|tw (dH v)<|ct (ni.ln v.Kids)<|tw (dH v2)<|ct (ni.ln v2.Kids)<|tE
end
section
variable(R46:xW)(v:aw)(v2:aw)(t36:Int)(t37:Int)
def vF:aB:=aO 53 [(2,.eptr (av v)),(3,.eptr (av v2)),(36,.int .i64 t36),(37,.int .i64 t37)] [.dead,.dead] []
def Ct(o:Unit⊕(Unit)):Exit:=match o with
 |(.inl _)=>.ret
 |(.inr _)=>.exit 0
def Cu(o:Unit⊕(Unit)):aB:=match o with
 |(.inl o)=>aO 53 [(4,.bool false)] [.dead,.dead] []
 |(.inr o)=>aO 53 [] [.dead,.dead] []
def pB:Option (Int⊕(Unit⊕(Unit))):=
 if decide (t37<t36)=true then
  (ey v.Kids t37).bind λx10=>
  (ey v2.Kids t37).bind λx11=>
  (R46 x10 x11).bind λr12=>
  if(!r12)=true then
   some (.inr (.inl ()))
  else
   some (.inl (dp (t37+1)))
 else
  some (.inr (.inr ()))
def zC:Option (Unit⊕(Unit)):=loop (λ(zz:Int)=>pB R46 v v2 t36 zz) t37
theorem IQ(hR46:Dq R46):OL 0 (cA X4 119) (pB R46 v v2 t36 t37) (λ(zz:Int)=>vF v v2 t36 zz) Ct Cu (vF v v2 t36 t37):=ZD.l<|
 tF (tb λx10 bx10=>tb λx11 bx11=>tb λr12 br12=>Be [0,1,0,7,15,0,32,0,224,480,1023,2047]<|tw (dH v)<|tv (ni.ia (k:=.i64) bx10)<|tv (nK x10)<|tw (dH v2)<|tv (ni.ia (k:=.i64) bx11)<|tv (nK x11)<|bM (hR46 _ _ _ br12)<|tF tE<|tE)<|tE
theorem zD(hR46:Dq R46):OK 0 (.loop (cA X4 119)) (zC R46 v v2 t36 t37) Ct Cu (vF v v2 t36 t37):=C9 λ_=>IQ _ _ _ _ _ hR46
end
def xx(R46:xW)(a:aw)(a2:aw):Option Bool:=
 (zA a a2).bind λo7=>
 if o7=true then
  some false
 else
  (zC R46 a a2 (a.Kids.length:Int) 0).bind λo14=>match o14 with
  |(.inl o14)=>
   some false
  |(.inr o14)=>
   some true
theorem Ou(R46:xW)(hR46:Dq R46){a:aw}{a2:aw}:OV 133 [.agg (av a),.agg (av a2)] (xx R46 a a2) (λr=>.bool r) []:=ZD.v<|
 tb λo7 bo7=>te (FE a)<|te (FE a2)<|jo 1<|cD (Kd a a2 _ bo7)<|tF tE<|tw (dH a)<|ct (ni.ln a.Kids)<|t2 (λo14 bo14=>cD (zD R46 a a2 (a.Kids.length:Int) 0 hR46 _ bo14)<|tE) λo14 bo14=>cD (zD R46 a a2 (a.Kids.length:Int) 0 hR46 _ bo14)<|tE
def Ds:((aw×aw)->Option Bool)->(aw×aw)->Option Bool:=λ(rec:(aw×aw)->Option Bool) (x:aw×aw)=>xx (λa a2=>rec (a,a2)) x.1 x.2
def Es(a:aw)(a2:aw):Option Bool:=pl Ds (a,a2)
theorem HZ{a:aw}{a2:aw}:OV 133 [.agg (av a),.agg (av a2)] (Es a a2) (λr=>.bool r) []:=BN λ_ h=>
 dY (F:=Ds) (M:=λ(x:aw×aw) (r:Bool)=>CC Pg GE 133 [.agg (av x.1),.agg (av x.2)] (.bool r) []) (λrec hrec x r h=>Ou _ (λa a2=>BN λr h=>hrec (a,a2) r h) _ h) h
noncomputable def qdB:Code:=f51.body.getD .skip
theorem qem:ZF Pg [] 51 f51 qdB:=zf call51 func51 rfl mixed
section
variable(R45:iP)(v:waB)(v2:waB)(i:Int)
def mI:aB:=aO 27 [(0,sl ah v),(1,sl ah v2),(5,.int .i64 i)] [] []
def sj(o:Unit⊕(Unit)):Exit:=match o with
 |(.inl _)=>.ret
 |(.inr _)=>.exit 0
def sk(o:Unit⊕(Unit)):aB:=match o with
 |(.inl o)=>aO 27 [(4,.bool false)] [] []
 |(.inr o)=>aO 27 [] [] []
def fk:Option (Int⊕(Unit⊕(Unit))):=
 if decide (i<(v.length:Int))=true then
  (ey v i).bind λx3=>
  (ey v2 i).bind λx4=>
  (R45 x3 x4).bind λr5=>
  if(!r5)=true then
   some (.inr (.inl ()))
  else
   some (.inl (dp (i+1)))
 else
  some (.inr (.inr ()))
def pe:Option (Unit⊕(Unit)):=loop (λ(zz:Int)=>fk R45 v v2 zz) i
theorem zF(hR45:nk R45):OL 0 (cA qdB 119) (fk R45 v v2 i) (λ(zz:Int)=>mI v v2 zz) sj sk (mI v v2 i):=qem.l<|
 ct (dZ.ln v)<|tF (tb λx3 bx3=>tb λx4 bx4=>tb λr5 br5=>Be [0,0,3,7,0,0,48,112,255,511]<|tv (dZ.ia (k:=.i64) bx3)<|tv (jT x3)<|tv (dZ.ia (k:=.i64) bx4)<|tv (jT x4)<|bM (hR45 _ _ _ br5)<|tF tE<|tE)<|tE
theorem qG(hR45:nk R45):OK 0 (.loop (cA qdB 119)) (pe R45 v v2 i) sj sk (mI v v2 i):=C9 λ_=>zF _ _ _ _ hR45
end
def lW(R45:iP)(a:waB)(a2:waB):Option Bool:=
 if((a.length:Int)!=(a2.length:Int))=true then
  some false
 else
  (pe R45 a a2 0).bind λo7=>match o7 with
  |(.inl o7)=>
   some false
  |(.inr o7)=>
   some true
theorem wb(R45:iP)(hR45:nk R45){a:waB}{a2:waB}:OV 51 [sl ah a,sl ah a2] (lW R45 a a2) (λr=>.bool r) []:=qem.v<|
 ct (dZ.ln a)<|ct (dZ.ln a2)<|tF tE<|t2 (λo7 bo7=>cD (qG R45 a a2 0 hR45 _ bo7)<|tE) λo7 bo7=>cD (qG R45 a a2 0 hR45 _ bo7)<|tE
noncomputable def qcy:Code:=f97.body.getD .skip
theorem qdh:ZF Pg [] 97 f97 qcy:=zf call97 func97 rfl mixed
section
variable(v:al)(v2:al)
def qe:Option Bool:=
 if(v.Op !=v2.Op)=true then
  some true
 else if(!(v.Name==v2.Name))=true then
  some true
 else
  (kc v.Names v2.Names).bind λr5=>
  if(!r5)=true then
   some true
  else
   (Es v.Pred v2.Pred).bind λr8=>
   if(!r8)=true then
    some true
   else
    some ((v.Preds.length:Int)!=(v2.Preds.length:Int))
theorem Du:OU 0 (cA qcy 12) (qe v v2) .normal (λo=>[(42,.bool o)]) (aO 67 [(2,.eptr (ah v)),(3,.eptr (ah v2))] [.dead,.dead] []):=qdh.j<|
 have pp2:=λ{X Y Z} (r:PV _ X Y Z)=>tw (bG v)<|tw (bG v2)<|r;tf (λc1=>pp2<|tg 6 c1<|tE) λc1=>have pp4:=λ{X Y Z} (r:PV _ X Y Z)=>pp2<|tg 6 c1<|tw (dB v)<|tw (dB v2)<|r;tf (λc3=>pp4<|tg 13 c3<|tE) λc3=>tb λr5 br5=>have pp7:=λ{X Y Z} (r:PV _ X Y Z)=>pp4<|tg 13 c3<|tw (cG v)<|tw (cG v2)<|bM (dQ _ br5)<|r;tf (λc6=>pp7<|tg 21 c6<|tE) λc6=>tb λr8 br8=>have pp10:=λ{X Y Z} (r:PV _ X Y Z)=>pp7<|tg 21 c6<|tw (gC v)<|tw (gC v2)<|bM (HZ _ br8)<|r;tf (λc9=>pp10<|tg 29 c9<|tE) λc9=>pp10<|tg 29 c9<|tw (dI v)<|ct (ni.ln v.Preds)<|tw (dI v2)<|ct (ni.ln v2.Preds)<|tE
end
section
variable(v:al)(v2:al)(i:Int)
def np:aB:=aO 67 [(2,.eptr (ah v)),(3,.eptr (ah v2)),(5,.int .i64 i)] [.dead,.dead] []
def um(o:Unit⊕(Unit)):Exit:=match o with
 |(.inl _)=>.ret
 |(.inr _)=>.exit 0
def uo(o:Unit⊕(Unit)):aB:=match o with
 |(.inl o)=>aO 67 [(4,.bool false)] [.dead,.dead] []
 |(.inr o)=>aO 67 [(2,.eptr (ah v)),(3,.eptr (ah v2))] [.dead,.dead] []
def eH:Option (Int⊕(Unit⊕(Unit))):=
 if decide (i<(v.Preds.length:Int))=true then
  (ey v.Preds i).bind λx14=>
  (ey v2.Preds i).bind λx15=>
  (Es x14 x15).bind λr16=>
  if(!r16)=true then
   some (.inr (.inl ()))
  else
   some (.inl (dp (i+1)))
 else
  some (.inr (.inr ()))
def qf:Option (Unit⊕(Unit)):=loop (λ(zz:Int)=>eH v v2 zz) i
theorem B7:OL 0 (cA qcy 119) (eH v v2 i) (λ(zz:Int)=>np v v2 zz) um (uo v v2) (np v v2 i):=qdh.l<|
 tw (dI v)<|ct (ni.ln v.Preds)<|tF (tb λx14 bx14=>tb λx15 bx15=>tb λr16 br16=>Be [0,1,0,7,15,0,32,0,224,480,1023,2047]<|tw (dI v)<|tv (ni.ia (k:=.i64) bx14)<|tv (nK x14)<|tw (dI v2)<|tv (ni.ia (k:=.i64) bx15)<|tv (nK x15)<|bM (HZ _ br16)<|tF tE<|tE)<|tE
theorem si:OK 0 (.loop (cA qcy 119)) (qf v v2 i) um (uo v v2) (np v v2 i):=C9 λ_=>B7 _ _ _
end
def nn(R45:iP)(a:al)(a2:al):Option Bool:=
 (qe a a2).bind λo11=>
 if o11=true then
  some false
 else
  (qf a a2 0).bind λo18=>match o18 with
  |(.inl o18)=>
   some false
  |(.inr o18)=>
   (lW R45 a.Args a2.Args).bind λr19=>
   some r19
theorem Gu(R45:iP)(hR45:nk R45){a:al}{a2:al}:OV 97 [.agg (ah a),.agg (ah a2)] (nn R45 a a2) (λr=>.bool r) []:=qdh.v<|
 tb λo11 bo11=>te (nR a)<|te (nR a2)<|jo 1<|cD (Du a a2 _ bo11)<|tF tE<|t2 (λo18 bo18=>cD (si a a2 0 _ bo18)<|tE) λo18 bo18=>tb λr19 br19=>cD (si a a2 0 _ bo18)<|tw (cb a)<|tw (cb a2)<|bM (wb R45 hR45 _ br19)<|tE
def sd:((al×al)->Option Bool)->(al×al)->Option Bool:=λ(rec:(al×al)->Option Bool) (x:al×al)=>nn (λa a2=>rec (a,a2)) x.1 x.2
def ll(a:al)(a2:al):Option Bool:=pl sd (a,a2)
theorem yE{a:al}{a2:al}:OV 97 [.agg (ah a),.agg (ah a2)] (ll a a2) (λr=>.bool r) []:=BN λ_ h=>
 dY (F:=sd) (M:=λ(x:al×al) (r:Bool)=>CC Pg GE 97 [.agg (ah x.1),.agg (ah x.2)] (.bool r) []) (λrec hrec x r h=>Gu _ (λa a2=>BN λr h=>hrec (a,a2) r h) _ h) h
noncomputable def qcx:Code:=f50.body.getD .skip
theorem qdc:ZF Pg [] 50 f50 qcx:=zf call50 func50 rfl mixed
section
variable(v:waC)(v2:waC)(i:Int)
def nx:Option Bool:=
 (ey v i).bind λx3=>
 (ey v2 i).bind λx4=>
 if(!(x3.Name==x4.Name))=true then
  some true
 else
  (ey v i).bind λx6=>
  (ey v2 i).bind λx7=>
  (ll x6.Type_ x7.Type_).bind λr8=>
  some (!r8)
theorem zX:OU 0 (cA qcx 1914) (nx v v2 i) .normal (λo=>[(41,.bool o)]) (aO 42 [(0,sl aj v),(1,sl aj v2),(5,.int .i64 i)] [] []):=qdc.j<|
 tb λx3 bx3=>tb λx4 bx4=>tf (λc5=>Be [0,0,3,7,15,0,0,96,224,480,1023,2047,4095,4095,16383,32767,65535,4095,4095,397311,921599,1970175,4194303,8388607,16777215]<|tv (er.ia (k:=.i64) bx3)<|tw (dG x3)<|tv (er.ia (k:=.i64) bx4)<|tw (dG x4)<|tg 12 c5<|tE) λc5=>tb λx6 bx6=>tb λx7 bx7=>tb λr8 br8=>Be [0,0,3,7,15,0,0,96,224,480,1023,2047,4095,4095,16383,32767,65535,4095,4095,397311,921599,1970175,4194303,8388607,16777215]<|tv (er.ia (k:=.i64) bx3)<|tw (dG x3)<|tv (er.ia (k:=.i64) bx4)<|tw (dG x4)<|tg 12 c5<|tv (er.ia (k:=.i64) bx6)<|tw (lM x6)<|tv (er.ia (k:=.i64) bx7)<|tw (lM x7)<|bM (yE _ br8)<|tE
end
section
variable(v:waC)(v2:waC)(i:Int)
def lJ:aB:=aO 42 [(0,sl aj v),(1,sl aj v2),(5,.int .i64 i)] [] []
def qH(o:Unit⊕(Unit)):Exit:=match o with
 |(.inl _)=>.ret
 |(.inr _)=>.exit 0
def qI(o:Unit⊕(Unit)):aB:=match o with
 |(.inl o)=>aO 42 [(4,.bool false)] [] []
 |(.inr o)=>aO 42 [] [] []
def eP:Option (Int⊕(Unit⊕(Unit))):=
 if decide (i<(v.length:Int))=true then
  (nx v v2 i).bind λo9=>
  if o9=true then
   some (.inr (.inl ()))
  else
   some (.inl (dp (i+1)))
 else
  some (.inr (.inr ()))
def ny:Option (Unit⊕(Unit)):=loop (λ(zz:Int)=>eP v v2 zz) i
theorem zh:OL 0 (cA qcx 119) (eP v v2 i) (λ(zz:Int)=>lJ v v2 zz) qH qI (lJ v v2 i):=qdc.l<|
 ct (er.ln v)<|tF (tb λo9 bo9=>jo 1<|cD (zX v v2 i _ bo9)<|tF tE<|tE)<|tE
theorem pP:OK 0 (.loop (cA qcx 119)) (ny v v2 i) qH qI (lJ v v2 i):=C9 λ_=>zh _ _ _
end
def nv(a:waC)(a2:waC):Option Bool:=
 if((a.length:Int)!=(a2.length:Int))=true then
  some false
 else
  (ny a a2 0).bind λo11=>match o11 with
  |(.inl o11)=>
   some false
  |(.inr o11)=>
   some true
theorem EN{a:waC}{a2:waC}:OV 50 [sl aj a,sl aj a2] (nv a a2) (λr=>.bool r) []:=qdc.v<|
 ct (er.ln a)<|ct (er.ln a2)<|tF tE<|t2 (λo11 bo11=>cD (pP a a2 0 _ bo11)<|tE) λo11 bo11=>cD (pP a a2 0 _ bo11)<|tE
noncomputable def Zd:Code:=f12.body.getD .skip
theorem qaU:ZF Pg [] 12 f12 Zd:=zf call12 func12 rfl mixed
section
variable(v:ag)(v2:ag)
def zG:Option Bool:=
 if(v.Op !=v2.Op)=true then
  some true
 else if(!(v.Name==v2.Name))=true then
  some true
 else if(v.N !=v2.N)=true then
  some true
 else
  (nv v.Params v2.Params).bind λr7=>
  if(!r7)=true then
   some true
  else
   (lW ll v.Types v2.Types).bind λr10=>
   some (!r10)
theorem Kl:OU 0 (cA Zd 12) (zG v v2) .normal (λo=>[(43,.bool o)]) (aO 117 [(2,.eptr (ae v)),(3,.eptr (ae v2))] [.dead,.dead] []):=qaU.j<|
 have pp2:=λ{X Y Z} (r:PV _ X Y Z)=>tw (aU v)<|tw (aU v2)<|r;tf (λc1=>pp2<|tg 6 c1<|tE) λc1=>have pp4:=λ{X Y Z} (r:PV _ X Y Z)=>pp2<|tg 6 c1<|tw (bV v)<|tw (bV v2)<|r;tf (λc3=>pp4<|tg 13 c3<|tE) λc3=>have pp6:=λ{X Y Z} (r:PV _ X Y Z)=>pp4<|tg 13 c3<|tw (ea v)<|tw (ea v2)<|r;tf (λc5=>pp6<|tg 20 c5<|tE) λc5=>tb λr7 br7=>have pp9:=λ{X Y Z} (r:PV _ X Y Z)=>pp6<|tg 20 c5<|tw (aM v)<|tw (aM v2)<|bM (EN _ br7)<|r;tf (λc8=>pp9<|tg 28 c8<|tE) λc8=>tb λr10 br10=>pp9<|tg 28 c8<|tw (aC v)<|tw (aC v2)<|bM (wb ll (λ_ _=>yE) _ br10)<|tE
end
section
variable(v:ag)(v2:ag)
def zH:Option Bool:=
 if((v.Kids.length:Int)!=(v2.Kids.length:Int))=true then
  some true
 else
  some ((v.Alts.length:Int)!=(v2.Alts.length:Int))
theorem Km:OU 0 (cA Zd 28) (zH v v2) .normal (λo=>[(59,.bool o)]) (aO 117 [(2,.eptr (ae v)),(3,.eptr (ae v2))] [.dead,.dead] []):=qaU.j<|
 have pp14:=λ{X Y Z} (r:PV _ X Y Z)=>tw (aR v)<|ct (cR.ln v.Kids)<|tw (aR v2)<|ct (cR.ln v2.Kids)<|r;tf (λc13=>pp14<|tg 8 c13<|tE) λc13=>pp14<|tg 8 c13<|tw (ay v)<|ct (dc.ln v.Alts)<|tw (ay v2)<|ct (dc.ln v2.Alts)<|tE
end
section
variable(R43:ph)(v:ag)(v2:ag)(i:Int)
def vG:aB:=aO 117 [(2,.eptr (ae v)),(3,.eptr (ae v2)),(5,.int .i64 i)] [.dead,.dead] []
def Cz(o:Unit⊕(Unit)):Exit:=match o with
 |(.inl _)=>.ret
 |(.inr _)=>.exit 0
def CA(o:Unit⊕(Unit)):aB:=match o with
 |(.inl o)=>aO 117 [(4,.bool false)] [.dead,.dead] []
 |(.inr o)=>aO 117 [(2,.eptr (ae v)),(3,.eptr (ae v2))] [.dead,.dead] []
def ie:Option (Int⊕(Unit⊕(Unit))):=
 if decide (i<(v.Kids.length:Int))=true then
  (ey v.Kids i).bind λx18=>
  (ey v2.Kids i).bind λx19=>
  (R43 x18 x19).bind λr20=>
  if(!r20)=true then
   some (.inr (.inl ()))
  else
   some (.inl (dp (i+1)))
 else
  some (.inr (.inr ()))
def zJ:Option (Unit⊕(Unit)):=loop (λ(zz:Int)=>ie R43 v v2 zz) i
theorem IU(hR43:o0 R43):OL 0 (cA Zd 247) (ie R43 v v2 i) (λ(zz:Int)=>vG v v2 zz) Cz (CA v v2) (vG v v2 i):=qaU.l<|
 tw (aR v)<|ct (cR.ln v.Kids)<|tF (tb λx18 bx18=>tb λx19 bx19=>tb λr20 br20=>Be [0,1,0,7,15,0,32,0,224,480,1023,2047]<|tw (aR v)<|tv (cR.ia (k:=.i64) bx18)<|tv (aX x18)<|tw (aR v2)<|tv (cR.ia (k:=.i64) bx19)<|tv (aX x19)<|bM (hR43 _ _ _ br20)<|tF tE<|tE)<|tE
theorem zK(hR43:o0 R43):OK 0 (.loop (cA Zd 247)) (zJ R43 v v2 i) Cz (CA v v2) (vG v v2 i):=C9 λ_=>IU _ _ _ _ hR43
end
section
variable(R43:ph)(v:ag)(v2:ag)(i:Int)(m:ai)(m2:waA)(m3:Int)(m4:ai)(m5:Int)(m6:waE)(m7:waC)(m8:waD)(m9:waB)(m10:ai)(m11:waA)(m12:Int)(m13:ai)(m14:Int)(m15:waE)(m16:waC)(m17:waD)(m18:waB)
def zI:Option Bool:=
 if(!(m==m10))=true then
  some true
 else
  (kc m2 m11).bind λr28=>
  if(!r28)=true then
   some true
  else
   (R43 (⟨m3,m4,m5,m6,m7,m8,m9⟩:ag) (⟨m12,m13,m14,m15,m16,m17,m18⟩:ag)).bind λr31=>
   some (!r31)
theorem Kn(hR43:o0 R43):OU 0 (cA Zd 16118) (zI R43 m m2 m3 m4 m5 m6 m7 m8 m9 m10 m11 m12 m13 m14 m15 m16 m17 m18) .normal (λo=>[(7,.undef),(8,.undef),(116,.bool o)]) (aO 117 [(2,.eptr (ae v)),(3,.eptr (ae v2)),(6,.int .i64 i),(7,.bptr 2 0),(8,.bptr 3 0)] [.dead,.dead,.cells [.str m,sl cS m2,.int .i64 m3,.str m4,.int .i64 m5,sl ae m6,sl aj m7,sl au m8,sl ah m9] [],.cells [.str m10,sl cS m11,.int .i64 m12,.str m13,.int .i64 m14,sl ae m15,sl aj m16,sl au m17,sl ah m18] []] []):=qaU.j<|
 have pp27:=λ{X Y Z} (r:PV _ X Y Z)=>ts<|ts<|r;tf (λc26=>pp27<|tg 6 c26<|tE) λc26=>tb λr28 br28=>have pp30:=λ{X Y Z} (r:PV _ X Y Z)=>pp27<|tg 6 c26<|ts<|ts<|bM (dQ _ br28)<|r;tf (λc29=>pp30<|tg 14 c29<|tE) λc29=>tb λr31 br31=>pp30<|tg 14 c29<|tv (aK (⟨m3,m4,m5,m6,m7,m8,m9⟩:ag) [])<|tv (aK (⟨m12,m13,m14,m15,m16,m17,m18⟩:ag) [])<|bM (hR43 _ _ _ br31)<|tE
end
section
variable(R43:ph)(v:ag)(v2:ag)(i:Int)
def pC:aB:=aO 117 [(2,.eptr (ae v)),(3,.eptr (ae v2)),(6,.int .i64 i)] [.dead,.dead] []
def CB(o:Unit⊕(Unit)):Exit:=match o with
 |(.inl _)=>.ret
 |(.inr _)=>.exit 2
def vH(o:Unit⊕(Unit)):aB:=match o with
 |(.inl o)=>aO 117 [(4,.bool false)] [.dead,.dead] []
 |(.inr o)=>aO 117 [] [.dead,.dead] []
instance iS_R20_Same_L4:KS 0 (pC v v2 i):=ks 2 rfl
instance iO_R20_Same_L4{o:Unit⊕(Unit)}:KS 0 (vH o):=match o with
 |(.inl o)=>ks 2 rfl
 |(.inr o)=>ks 2 rfl
def ig:Option (Int⊕(Unit⊕(Unit))):=
 if decide (i<(v.Alts.length:Int))=true then
  (ey v.Alts i).bind λx24=>
  (ey v2.Alts i).bind λx25=>
  (zI R43 x24.Con x24.Names x24.Body.Op x24.Body.Name x24.Body.N x24.Body.Kids x24.Body.Params x24.Body.Alts x24.Body.Types x25.Con x25.Names x25.Body.Op x25.Body.Name x25.Body.N x25.Body.Kids x25.Body.Params x25.Body.Alts x25.Body.Types).bind λo32=>
  if o32=true then
   some (.inr (.inl ()))
  else
   some (.inl (dp (i+1)))
 else
  some (.inr (.inr ()))
def zL:Option (Unit⊕(Unit)):=loop (λ(zz:Int)=>ig R43 v v2 zz) i
theorem IV(hR43:o0 R43):OL 0 (cA Zd 503) (ig R43 v v2 i) (λ(zz:Int)=>pC v v2 zz) CB vH (pC v v2 i):=qaU.lx<|
 tw (ay v)<|ct (dc.ln v.Alts)<|tF (tb λx24 bx24=>tb λx25 bx25=>tb λo32 bo32=>RL (.dx [0,1,0,7,15,0,32,0,224,480,0,0,3103,8191] [] [] [741,765])<|tw (ay v)<|tv (dc.ia (k:=.i64) bx24)<|tv (lp x24)<|tw (ay v2)<|tv (dc.ia (k:=.i64) bx25)<|tv (lp x25)<|tx (hU x24)<|tx (hU x25)<|jo 0<|cD (Kn R43 v v2 i x24.Con x24.Names x24.Body.Op x24.Body.Name x24.Body.N x24.Body.Kids x24.Body.Params x24.Body.Alts x24.Body.Types x25.Con x25.Names x25.Body.Op x25.Body.Name x25.Body.N x25.Body.Kids x25.Body.Params x25.Body.Alts x25.Body.Types hR43 _ bo32)<|tF tE<|tE)<|tE
theorem zM(hR43:o0 R43):OK 0 (.loop (cA Zd 503)) (zL R43 v v2 i) CB vH (pC v v2 i):=C9 λ_=>IV _ _ _ _ hR43
end
def xC(R43:ph)(a:ag)(a2:ag):Option Bool:=
 (zG a a2).bind λo11=>
 if o11=true then
  some false
 else
  (zH a a2).bind λo15=>
  if o15=true then
   some false
  else
   (zJ R43 a a2 0).bind λo22=>match o22 with
   |(.inl o22)=>
    some false
   | (.inr o22) =>
    (zL R43 a a2 0).bind λo34=>match o34 with
    |(.inl o34)=>
     some false
    |(.inr o34)=>
     some true
theorem Ow(R43:ph)(hR43:o0 R43){a:ag}{a2:ag}:OV 12 [.agg (ae a),.agg (ae a2)] (xC R43 a a2) (λr=>.bool r) []:=qaU.v<|
 tb λo11 bo11=>te (cm a)<|te (cm a2)<|jo 1<|cD (Kl a a2 _ bo11)<|tF tE<|tb λo15 bo15=>jo 1<|cD (Km a a2 _ bo15)<|tF tE<|t2 (λo22 bo22=>cD (zK R43 a a2 0 hR43 _ bo22)<|tE) λo22 bo22=>cD (zK R43 a a2 0 hR43 _ bo22)<|t2 (λo34 bo34=>cD (zM R43 a a2 0 hR43 _ bo34)<|tE) λo34 bo34=>cD (zM R43 a a2 0 hR43 _ bo34)<|tE
def Dv:((ag×ag)->Option Bool)->(ag×ag)->Option Bool:=λ(rec:(ag×ag)->Option Bool) (x:ag×ag)=>xC (λa a2=>rec (a,a2)) x.1 x.2
def wa(a:ag)(a2:ag):Option Bool:=pl Dv (a,a2)
theorem dq{a:ag}{a2:ag}:OV 12 [.agg (ae a),.agg (ae a2)] (wa a a2) (λr=>.bool r) []:=BN λ_ h=>
 dY (F:=Dv) (M:=λ(x:ag×ag) (r:Bool)=>CC Pg GE 12 [.agg (ae x.1),.agg (ae x.2)] (.bool r) []) (λrec hrec x r h=>Ow _ (λa a2=>BN λr h=>hrec (a,a2) r h) _ h) h
abbrev dz:=(ag->(List (ai×Bool))->Option (Bool×(List (ai×Bool))))
abbrev dw(R:dz):Prop:=∀(e:ag) (k2:(List (ai×Bool))),OG 64 [.agg (ae e),.func (.func 99) [] [.bptr 0 0]] [] [.cells [.func (.func 81) [.bptr 1 0] []] [],.cells [.mapr 2] [],.map (df PVal.bool k2)] (R e k2) (λr=>.bool r.1) [] (λr=>[.cells [.func (.func 81) [.bptr 1 0] []] [],.cells [.mapr 2] [],.map (df PVal.bool r.2)])
noncomputable def qbO:Code:=f99.body.getD .skip
theorem qbv:ZF Pg [] 99 f99 qbO:=zf call99 func99 rfl mixed
section
variable(v:ag)(m2:(List (ai×Bool)))
def jc:Option Bool:=
 (eX v).bind λr1=>
 if r1=true then
  some true
 else
  some (v.Op==7)
theorem tD:OU 3 (cA qbO 12) (jc v) .normal (λo=>[(12,.bool o)]) (aO 38 [(1,.bptr 0 0),(2,.eptr (ae v))] [.cells [.func (.func 81) [.bptr 1 0] []] [],.cells [.mapr 2] [],.map (df PVal.bool m2),.dead] []):=qbv.j<|
 tb λr1 br1=>have pp3:=λ{X Y Z} (r:PV _ X Y Z)=>tv (aX v)<|bM (jQ _ br1)<|r;tf (λc2=>pp3<|tg 3 c2<|tE) λc2=>pp3<|tg 3 c2<|tw (aU v)<|tE
end
section
variable(v:ag)(m2:(List (ai×Bool)))
def fV:Option (((List (ai×Bool)))):=
 (jc v).bind λo4=>
 if o4=true then
  (fM ([v.Name]:List ai) m2).bind λr6=>
  some r6
 else
  some m2
theorem tC:OJ 3 (cA qbO 6) (fV v m2) .normal (λo=>aO 38 [(1,.bptr 0 0),(2,.eptr (ae v))] [.cells [.func (.func 81) [.bptr 1 0] []] [],.cells [.mapr 2] [],.map (df PVal.bool o),.dead] []) (aO 38 [(1,.bptr 0 0),(2,.eptr (ae v))] [.cells [.func (.func 81) [.bptr 1 0] []] [],.cells [.mapr 2] [],.map (df PVal.bool m2),.dead] []):=qbv.j<|
 tb λo4 bo4=>jo 0<|cD (tD v m2 _ bo4)<|tF (tb λr6 br6=>ts<|tw (bV v)<|tv (gD [v.Name] 1 rfl)<|tc [1,2] (ib _ br6)<|tE)<|tE
end
section
variable(v:ag)(m2:(List (ai×Bool)))
def fW:Option (((List (ai×Bool)))):=
 if(v.Op==6)=true then
  (jL v.Params).bind λr9=>
  (fM r9 m2).bind λr10=>
  some r10
 else
  some m2
theorem tG:OJ 3 (cA qbO 14) (fW v m2) .normal (λo=>aO 38 [(1,.bptr 0 0),(2,.eptr (ae v))] [.cells [.func (.func 81) [.bptr 1 0] []] [],.cells [.mapr 2] [],.map (df PVal.bool o),.dead] []) (aO 38 [(1,.bptr 0 0),(2,.eptr (ae v))] [.cells [.func (.func 81) [.bptr 1 0] []] [],.cells [.mapr 2] [],.map (df PVal.bool m2),.dead] []):=qbv.j<|
 tw (aU v)<|tF (tb λr9 br9=>tb λr10 br10=>tk<|RL (.dx [0,0,2,6] [] [] [])<|ts<|tw (aM v)<|bM (mE _ br9)<|tc [1,2] (ib _ br10)<|tE)<|tE
end
section
variable(t27:waD)(t28:Int)(t29:Int)(m2:(List (ai×Bool)))
def gU:aB:=aO 38 [(1,.bptr 0 0),(27,sl au t27),(28,.int .i64 t28),(29,.int .i64 t29)] [.cells [.func (.func 81) [.bptr 1 0] []] [],.cells [.mapr 2] [],.map (df PVal.bool m2),.dead] []
def lE(o:(List (ai×Bool))):aB:=aO 38 [] [.cells [.func (.func 81) [.bptr 1 0] []] [],.cells [.mapr 2] [],.map (df PVal.bool o),.dead] []
instance iS_syntax_all_1_set_add_L4:KS 3 (gU t27 t28 t29 m2):=ks 4 rfl
instance iO_syntax_all_1_set_add_L4{o:((List (ai×Bool)))}:KS 3 (lE o):=ks 4 rfl
def cK:Option ((Int×(List (ai×Bool)))⊕(((List (ai×Bool))))):=
 if decide (t29<t28)=true then
  (ey t27 t29).bind λx13=>
  (fM x13.Names m2).bind λr14=>
  some (.inl (dp (t29+1),r14))
 else
  some (.inr m2)
def jd:Option (((List (ai×Bool)))):=loop (λ(zz:Int×(List (ai×Bool)))=>cK t27 t28 zz.1 zz.2) (t29,m2)
theorem rJ:OL 3 (cA qbO 247) (cK t27 t28 t29 m2) (λ(zz:Int×(List (ai×Bool)))=>gU t27 t28 zz.1 zz.2) (λ_=>.exit 0) lE (gU t27 t28 t29 m2):=qbv.lx<|
 tF (tb λx13 bx13=>tb λr14 br14=>tv (dc.ia (k:=.i64) bx13)<|tv (lp x13)<|tx Jv<|tx (hU x13)<|ts<|ts<|tc [1,2] (ib _ br14)<|tE)<|tE
def tH:=rE (s:=(t29,m2)) λzz=>rJ t27 t28 zz.1 zz.2
end
def ew(a:ag)(k2:(List (ai×Bool))):Option (Bool×(List (ai×Bool))):=
 (fV a k2).bind λo7=>
 (fW a o7).bind λo11=>
 (jd a.Alts (a.Alts.length:Int) 0 o11).bind λo15=>
 some (true,o15)
theorem w8{a:ag}{k2:(List (ai×Bool))}:OG 99 [.agg (ae a),.bptr 0 0] [] [.cells [.func (.func 81) [.bptr 1 0] []] [],.cells [.mapr 2] [],.map (df PVal.bool k2)] (ew a k2) (λr=>.bool r.1) [] (λr=>[.cells [.func (.func 81) [.bptr 1 0] []] [],.cells [.mapr 2] [],.map (df PVal.bool r.2)]):=qbv.g 3<|
 tb λo7 bo7=>tb λo11 bo11=>tb λo15 bo15=>te (cm a)<|jo 0<|cD (tC a k2 _ bo7)<|jo 0<|cD (tG a o7 _ bo11)<|tw (ay a)<|ct (dc.ln a.Alts)<|cD (tH a.Alts (a.Alts.length:Int) 0 o11 _ bo15)<|tE
noncomputable def Ug:Code:=f64.body.getD .skip
theorem XT:ZF Pg [] 64 f64 Ug:=zf call64 func64 rfl mixed
section
variable(R50:dz)(e:ag)(t14:waE)(t15:Int)(t16:Int)(m2:(List (ai×Bool)))
def dV:aB:=aO 38 [(1,.func (.func 99) [] [.bptr 0 0]),(2,.eptr (ae e)),(14,sl ae t14),(15,.int .i64 t15),(16,.int .i64 t16)] [.cells [.func (.func 81) [.bptr 1 0] []] [],.cells [.mapr 2] [],.map (df PVal.bool m2),.dead] []
def jl(o:((List (ai×Bool)))⊕((List (ai×Bool)))):Exit:=match o with
 |(.inl _)=>.ret
 |(.inr _)=>.exit 0
def fy(o:((List (ai×Bool)))⊕((List (ai×Bool)))):aB:=match o with
 |(.inl o)=>aO 38 [(4,.bool false)] [.cells [.func (.func 81) [.bptr 1 0] []] [],.cells [.mapr 2] [],.map (df PVal.bool o),.dead] []
 |(.inr o)=>aO 38 [(1,.func (.func 99) [] [.bptr 0 0]),(2,.eptr (ae e))] [.cells [.func (.func 81) [.bptr 1 0] []] [],.cells [.mapr 2] [],.map (df PVal.bool o),.dead] []
instance iS_syntax_walk_all_1_set_add_L1:KS 3 (dV e t14 t15 t16 m2):=ks 4 rfl
instance iO_syntax_walk_all_1_set_add_L1{o:((List (ai×Bool)))⊕((List (ai×Bool)))}:KS 3 (fy e o):=match o with
 |(.inl o)=>ks 4 rfl
 |(.inr o)=>ks 4 rfl
def ce:Option ((Int×(List (ai×Bool)))⊕(((List (ai×Bool)))⊕((List (ai×Bool))))):=
 if decide (t16<t15)=true then
  (ey t14 t16).bind λx4=>
  (R50 x4 m2).bind λr5=>
  if(!r5.1)=true then
   some (.inr (.inl r5.2))
  else
   some (.inl (dp (t16+1),r5.2))
 else
  some (.inr (.inr m2))
def j7:Option (((List (ai×Bool)))⊕((List (ai×Bool)))):=loop (λ(zz:Int×(List (ai×Bool)))=>ce R50 t14 t15 zz.1 zz.2) (t16,m2)
theorem oG(hR50:dw R50):OL 3 (cA Ug 119) (ce R50 t14 t15 t16 m2) (λ(zz:Int×(List (ai×Bool)))=>dV e t14 t15 zz.1 zz.2) jl (fy e) (dV e t14 t15 t16 m2):=XT.lx<|
 tF (tb λx4 bx4=>tb λr5 br5=>tv (cR.ia (k:=.i64) bx4)<|tv (aX x4)<|tx rH<|tx (dn x4)<|tv (aK x4 [])<|tc [0,1,2] (hR50 _ _ _ br5)<|tF tE<|tE)<|tE
theorem iG(hR50:dw R50):OK 3 (.loop (cA Ug 119)) (j7 R50 t14 t15 t16 m2) jl (fy e) (dV e t14 t15 t16 m2):=C9 λ_=>oG _ _ _ _ _ _ hR50
end
section
variable(R50:dz)(t26:waD)(t27:Int)(t28:Int)(m2:(List (ai×Bool)))
def dW:aB:=aO 38 [(1,.func (.func 99) [] [.bptr 0 0]),(26,sl au t26),(27,.int .i64 t27),(28,.int .i64 t28)] [.cells [.func (.func 81) [.bptr 1 0] []] [],.cells [.mapr 2] [],.map (df PVal.bool m2),.dead] []
def jm(o:((List (ai×Bool)))⊕((List (ai×Bool)))):Exit:=match o with
 |(.inl _)=>.ret
 |(.inr _)=>.exit 2
def fA(o:((List (ai×Bool)))⊕((List (ai×Bool)))):aB:=match o with
 |(.inl o)=>aO 38 [(4,.bool false)] [.cells [.func (.func 81) [.bptr 1 0] []] [],.cells [.mapr 2] [],.map (df PVal.bool o),.dead] []
 |(.inr o)=>aO 38 [] [.cells [.func (.func 81) [.bptr 1 0] []] [],.cells [.mapr 2] [],.map (df PVal.bool o),.dead] []
instance iS_syntax_walk_all_1_set_add_L2:KS 3 (dW t26 t27 t28 m2):=ks 4 rfl
instance iO_syntax_walk_all_1_set_add_L2{o:((List (ai×Bool)))⊕((List (ai×Bool)))}:KS 3 (fA o):=match o with
 |(.inl o)=>ks 4 rfl
 |(.inr o)=>ks 4 rfl
def cf:Option ((Int×(List (ai×Bool)))⊕(((List (ai×Bool)))⊕((List (ai×Bool))))):=
 if decide (t28<t27)=true then
  (ey t26 t28).bind λx9=>
  (R50 x9.Body m2).bind λr10=>
  if(!r10.1)=true then
   some (.inr (.inl r10.2))
  else
   some (.inl (dp (t28+1),r10.2))
 else
  some (.inr (.inr m2))
def j8:Option (((List (ai×Bool)))⊕((List (ai×Bool)))):=loop (λ(zz:Int×(List (ai×Bool)))=>cf R50 t26 t27 zz.1 zz.2) (t28,m2)
theorem oH(hR50:dw R50):OL 3 (cA Ug 247) (cf R50 t26 t27 t28 m2) (λ(zz:Int×(List (ai×Bool)))=>dW t26 t27 zz.1 zz.2) jm fA (dW t26 t27 t28 m2):=XT.lx<|
 tF (tb λx9 bx9=>tb λr10 br10=>tv (dc.ia (k:=.i64) bx9)<|tv (lp x9)<|tx Jv<|tx (hU x9)<|tv (aK x9.Body [])<|tc [0,1,2] (hR50 _ _ _ br10)<|tF tE<|tE)<|tE
theorem iH(hR50:dw R50):OK 3 (.loop (cA Ug 247)) (j8 R50 t26 t27 t28 m2) jm fA (dW t26 t27 t28 m2):=C9 λ_=>oH _ _ _ _ _ hR50
end
def eA(R50:dz)(e:ag)(k2:(List (ai×Bool))):Option (Bool×(List (ai×Bool))):=
 (ew e k2).bind λr1=>
 if(!r1.1)=true then
  some (false,r1.2)
 else
  (j7 R50 e.Kids (e.Kids.length:Int) 0 r1.2).bind λo7=>match o7 with
  |(.inl o7)=>
   some (false,o7)
  | (.inr o7) =>
   (j8 R50 e.Alts (e.Alts.length:Int) 0 o7).bind λo12=>match o12 with
   |(.inl o12)=>
    some (false,o12)
   |(.inr o12)=>
    some (true,o12)
theorem qc(R50:dz)(hR50:dw R50){e:ag}{k2:(List (ai×Bool))}:OG 64 [.agg (ae e),.func (.func 99) [] [.bptr 0 0]] [] [.cells [.func (.func 81) [.bptr 1 0] []] [],.cells [.mapr 2] [],.map (df PVal.bool k2)] (eA R50 e k2) (λr=>.bool r.1) [] (λr=>[.cells [.func (.func 81) [.bptr 1 0] []] [],.cells [.mapr 2] [],.map (df PVal.bool r.2)]):=XT.g 3<|
 tb λr1 br1=>te (cm e)<|tv (aX e)<|tc [0,1,2] (w8 _ br1)<|tF tE<|tw (aR e)<|ct (cR.ln e.Kids)<|t2 (λo7 bo7=>cD (iG R50 e e.Kids (e.Kids.length:Int) 0 r1.2 hR50 _ bo7)<|tE) λo7 bo7=>cD (iG R50 e e.Kids (e.Kids.length:Int) 0 r1.2 hR50 _ bo7)<|tw (ay e)<|ct (dc.ln e.Alts)<|t2 (λo12 bo12=>cD (iH R50 e.Alts (e.Alts.length:Int) 0 o7 hR50 _ bo12)<|tE) λo12 bo12=>cD (iH R50 e.Alts (e.Alts.length:Int) 0 o7 hR50 _ bo12)<|tE
def gm:((ag×(List (ai×Bool)))->Option (Bool×(List (ai×Bool))))->(ag×(List (ai×Bool)))->Option (Bool×(List (ai×Bool))):=λ(rec:(ag×(List (ai×Bool)))->Option (Bool×(List (ai×Bool)))) (x:ag×(List (ai×Bool)))=>eA (λe k2=>rec (e,k2)) x.1 x.2
def gX(e:ag)(k2:(List (ai×Bool))):Option (Bool×(List (ai×Bool))):=pl gm (e,k2)
theorem qC{e:ag}{k2:(List (ai×Bool))}:OG 64 [.agg (ae e),.func (.func 99) [] [.bptr 0 0]] [] [.cells [.func (.func 81) [.bptr 1 0] []] [],.cells [.mapr 2] [],.map (df PVal.bool k2)] (gX e k2) (λr=>.bool r.1) [] (λr=>[.cells [.func (.func 81) [.bptr 1 0] []] [],.cells [.mapr 2] [],.map (df PVal.bool r.2)]):=XI λ_ h=>
 dY (F:=gm) (M:=λ(x:ag×(List (ai×Bool))) (r:Bool×(List (ai×Bool)))=>C Pg GE 64 [.agg (ae x.1),.func (.func 99) [] [.bptr 0 0]] [] [.cells [.func (.func 81) [.bptr 1 0] []] [],.cells [.mapr 2] [],.map (df PVal.bool x.2)] (.bool r.1) [] [.cells [.func (.func 81) [.bptr 1 0] []] [],.cells [.mapr 2] [],.map (df PVal.bool r.2)]) (λrec hrec x r h=>qc _ (λe k2=>XI λr h=>hrec (e,k2) r h) _ h) h
noncomputable def qfp:Code:=f53.body.getD .skip
theorem qe1:ZF Pg [] 53 f53 qfp:=zf call53 func53 rfl mixed
def yy(e:ag):Option waA:=
 (mn ([]:List ai)).bind λr1=>
 (gX e r1).bind λr2=>
 (tt r2.2).bind λr3=>
 some r3
theorem Nt{e:ag}:OV 53 [.agg (ae e)] (yy e) (λr=>sl cS r) [(0,9)]:=qe1.v<|
 tb λr1 br1=>tb λr2 br2=>tb λr3 br3=>te (cm e)<|ti (.cn ⟨[1,2],[],[],[],[],[.map (df PVal.bool r1),.cells [.mapr 1] []],[.map (df PVal.bool r1),.cells [.mapr 0] []],.bptr 2 0,.bptr 1 0,[]⟩) (xc _ br1)<|tq (aI (aH uB ([]:List ai)) trivial)<|tq (aI (aI (rM (df PVal.bool r1)) (qcB (n:=0) PVal.bool (λx=>trivial) r1)) (aI (aI (rW []) (aI (xM [1,2] 0 1 rfl) trivial)) trivial))<|tq (xB [1,2] 1 2 0 rfl)<|tx qcl<|ts<|tv (aX e)<|tc [3,2,1] (qC _ br2)<|tc [2,1] (Dc br3)<|tE
abbrev aS:=(ai->ai->ai->ai->ai->ag->(List af)->Option ag)
abbrev bA(R:aS):Prop:=∀(c:ai) (c2:ai) (c3:ai) (c4:ai) (c5:ai) (e:ag) (scope:(List af)),OV 56 [.agg [.func (.func 55) [] [.eptr (cS c),.eptr (cS c2),.eptr (cS c3)],.func (.func 54) [] [.eptr (cS c4),.eptr (cS c5)]],.agg (ae e),sl ak scope] (R c c2 c3 c4 c5 e scope) (λr=>.agg (ae r)) [(3,28),(4,85),(5,89),(6,60)]
noncomputable def qfq:Code:=f54.body.getD .skip
theorem qe2:ZF Pg [9] 54 f54 qfq:=zf call54 func54 rfl mixed
def ol(s:ai)(a:ai)(a2:ai):Option ai:=
 if(s==a)=true then
  some a2
 else
  some s
theorem F8{s:ai}{a:ai}{a2:ai}:OV 54 [.str s,.eptr (cS a),.eptr (cS a2)] (ol s a a2) (λr=>.str r) []:=qe2.v<|
 tv (cw BZ (.str a) [])<|tF (tv (cw BZ (.str a2) [])<|tE)<|tE
noncomputable def qeu:Code:=f55.body.getD .skip
theorem qen:ZF Pg [17] 55 f55 qeu:=zf call55 func55 rfl mixed
section
variable(s:ai)(t2:ai)(t3:ai)(t4:ai)
def om:Option Bool:=
 if(s==t2)=true then
  some (!(t3==t2))
 else
  some false
theorem AX:OU 0 (cA qeu 12) (om s t2 t3) .normal (λo=>[(2,.undef),(3,.undef),(15,.bool o)]) (aO 18 [(0,.str s),(2,.eptr (cS t2)),(3,.eptr (cS t3)),(4,.eptr (cS t4))] [] []):=qen.j<|
 tf (λc1=>tv (cw BZ (.str t2) [])<|tg 4 c1<|tv (cw BZ (.str t3) [])<|tv (cw BZ (.str t2) [])<|tE) λc1=>tv (cw BZ (.str t2) [])<|tg 4 c1<|tE
end
def kX(s:ai)(a:(List af))(a2:ai)(a3:ai)(a4:ai):Option ai:=
 (om s a2 a3).bind λo2=>
 if o2=true then
  some a4
 else
  some s
theorem vg{s:ai}{a:(List af)}{a2:ai}{a3:ai}{a4:ai}:OV 55 [.str s,sl ak a,.eptr (cS a2),.eptr (cS a3),.eptr (cS a4)] (kX s a a2 a3 a4) (λr=>.str r) []:=qen.v<|
 tb λo2 bo2=>jo 2<|cD (AX s a2 a3 a4 _ bo2)<|tF (tv (cw BZ (.str a4) [])<|tE)<|tE
def cp(s:ai)(a:(List af))(c:ai)(c2:ai)(c3:ai)(c4:ai)(c5:ai)(k1:(List af)):Option (ai×(List af)):=
 (kX s a c c2 c3).bind λr1=>
 (app k1 ([(⟨s,r1⟩:af)]:List af)).bind λl2=>
 some (r1,l2)
theorem fg{s:ai}{a:(List af)}{c:ai}{c2:ai}{c3:ai}{c4:ai}{c5:ai}{k1:(List af)}:OG 105 [.str s,.bptr 0 0,.eptr ((cL ak) a),.bptr 1 0] [] [.cells [.func (.func 55) [] [.eptr (cS c),.eptr (cS c2),.eptr (cS c3)],.func (.func 54) [] [.eptr (cS c4),.eptr (cS c5)]] [],.cells [sl ak k1] [(0,137)]] (cp s a c c2 c3 c4 c5 k1) (λr=>.str r.1) [] (λr=>[.cells [.func (.func 55) [] [.eptr (cS c),.eptr (cS c2),.eptr (cS c3)],.func (.func 54) [] [.eptr (cS c4),.eptr (cS c5)]] [],.cells [sl ak r.2] [(0,137)]]):=qbd.g 2<|
 tb λr1 br1=>tb λl2 bl2=>ts<|tv (cw Jx (sl ak a) [])<|bM (vg _ br1)<|tv (jH s r1)<|tv (Mb.mk' (v:=mA) mD ([(⟨s,r1⟩:af)]:List af) 1 (by kernel_rfl))<|tv (Mb.ap bl2)<|tE
section
variable(t1:Bool)(v:(List af))(v2:ai)(v3:ai)(v4:ai)(v5:ai)(v6:ai)(m:(List af))(m2:ai)(m3:Int)(m4:ai)(m5:waB)(m6:waA)(m7:Int)(m8:ai)(m9:Int)(m10:waF)(m11:waF)(m12:waB)(m13:waF)
def ck:Option (((List af)×ai)):=
 if t1=true then
  (cp m2 v v2 v3 v4 v5 v6 m).bind λr2=>
  some (r2.2,r2.1)
 else
  some (m,m2)
theorem fu:OJ 3 (cA Z0 6) (ck t1 v v2 v3 v4 v5 v6 m m2) .normal (λo=>aO 17 [(3,.bptr 3 0),(4,.bptr 4 0)] [.cells [.func (.func 105) [] [.bptr 1 0,.eptr ((cL ak) v),.bptr 2 0]] [],.cells [.func (.func 55) [] [.eptr (cS v2),.eptr (cS v3),.eptr (cS v4)],.func (.func 54) [] [.eptr (cS v5),.eptr (cS v6)]] [],.cells [sl ak o.1] [(0,137)],.cells [.str o.2,.int .i64 m3,.str m4,sl ah m5,sl cS m6,.int .i64 m7,.str m8,.int .i64 m9,sl av m10,sl av m11] [],.cells [.str ([]:ai),.int .i64 0,.str ([]:ai),sl ah m12,sl cS ([]:List ai),.int .i64 0,.str ([]:ai),.int .i64 0,sl av m13,sl av m13] [(3,60),(4,9),(8,58),(9,58)]] []) (aO 17 [(1,.eptr (cB t1)),(2,.bptr 0 0),(3,.bptr 3 0),(4,.bptr 4 0)] [.cells [.func (.func 105) [] [.bptr 1 0,.eptr ((cL ak) v),.bptr 2 0]] [],.cells [.func (.func 55) [] [.eptr (cS v2),.eptr (cS v3),.eptr (cS v4)],.func (.func 54) [] [.eptr (cS v5),.eptr (cS v6)]] [],.cells [sl ak m] [(0,137)],.cells [.str m2,.int .i64 m3,.str m4,sl ah m5,sl cS m6,.int .i64 m7,.str m8,.int .i64 m9,sl av m10,sl av m11] [],.cells [.str ([]:ai),.int .i64 0,.str ([]:ai),sl ah m12,sl cS ([]:List ai),.int .i64 0,.str ([]:ai),.int .i64 0,sl av m13,sl av m13] [(3,60),(4,9),(8,58),(9,58)]] []):=XM.j<|
 tv (cw qeK (.bool t1) [])<|tF (tb λr2 br2=>ts<|ts<|tc [1,2] (fg _ br2)<|ts<|tE)<|tE
end
def bQ(p:am)(a:Bool)(c:(List af))(c2:ai)(c3:ai)(c4:ai)(c5:ai)(c6:ai)(k2:(List af)):Option (am×(List af)):=
 (ck a c c2 c3 c4 c5 c6 k2 p.Name).bind λo3=>
 (dT cr p.Type_).bind λr4=>
 some ((⟨o3.2,r4⟩:am),o3.1)
theorem fO{p:am}{a:Bool}{c:(List af)}{c2:ai}{c3:ai}{c4:ai}{c5:ai}{c6:ai}{k2:(List af)}:OG 108 [.agg (aj p),.eptr (cB a),.bptr 0 0] [] [.cells [.func (.func 105) [] [.bptr 1 0,.eptr ((cL ak) c),.bptr 2 0]] [],.cells [.func (.func 55) [] [.eptr (cS c2),.eptr (cS c3),.eptr (cS c4)],.func (.func 54) [] [.eptr (cS c5),.eptr (cS c6)]] [],.cells [sl ak k2] [(0,137)]] (bQ p a c c2 c3 c4 c5 c6 k2) (λr=>.agg (aj r.1)) [] (λr=>[.cells [.func (.func 105) [] [.bptr 1 0,.eptr ((cL ak) c),.bptr 2 0]] [],.cells [.func (.func 55) [] [.eptr (cS c2),.eptr (cS c3),.eptr (cS c4)],.func (.func 54) [] [.eptr (cS c5),.eptr (cS c6)]] [],.cells [sl ak r.2] [(0,137)]]):=XM.g 3<|
 tb λo3 bo3=>tb λr4 br4=>T9 (kU p) rfl<|tx U1<|jo 0<|cD (fu a c c2 c3 c4 c5 c6 k2 p.Name p.Type_.Op p.Type_.Name p.Type_.Args p.Type_.Names p.Type_.Pred.Op p.Type_.Pred.Name p.Type_.Pred.N p.Type_.Pred.Kids p.Type_.Preds ([]:List al) ([]:List aw) _ bo3)<|Be [0,1,0,4,12,31,63]<|ts<|tv (iT p.Type_ [])<|bM (lQ cr (λ_=>fC) _ br4)<|tv (CL o3.2 r4)<|tx (kU (⟨o3.2,r4⟩:am))<|Ei λq=>aI (L9 (⟨o3.2,r4⟩:am)) q.2
section
variable(v:Bool)(t8:waC)(t9:Int)(v2:(List af))(v3:ai)(v4:ai)(v5:ai)(v6:ai)(v7:ai)(out:waC)(t10:Int)(m:(List af))
def bW:aB:=aO 22 [(1,.func (.func 108) [] [.eptr (cB v),.bptr 0 0]),(5,sl aj out),(8,sl aj t8),(9,.int .i64 t9),(10,.int .i64 t10)] [.cells [.func (.func 105) [] [.bptr 1 0,.eptr ((cL ak) v2),.bptr 2 0]] [],.cells [.func (.func 55) [] [.eptr (cS v3),.eptr (cS v4),.eptr (cS v5)],.func (.func 54) [] [.eptr (cS v6),.eptr (cS v7)]] [],.cells [sl ak m] [(0,137)]] [((5,0),85)]
def cN(o:waC×(List af)):aB:=aO 22 [(5,sl aj o.1)] [.cells [.func (.func 105) [] [.bptr 1 0,.eptr ((cL ak) v2),.bptr 2 0]] [],.cells [.func (.func 55) [] [.eptr (cS v3),.eptr (cS v4),.eptr (cS v5)],.func (.func 54) [] [.eptr (cS v6),.eptr (cS v7)]] [],.cells [sl ak o.2] [(0,137)]] [((5,0),85)]
instance iS_syntax_each_naming_apply_2_naming_apply_1_Subst_2_Subst_1_L1:KS 3 (bW v t8 t9 v2 v3 v4 v5 v6 v7 out t10 m):=ks 3 rfl
instance iO_syntax_each_naming_apply_2_naming_apply_1_Subst_2_Subst_1_L1{o:(waC×(List af))}:KS 3 (cN v2 v3 v4 v5 v6 v7 o):=ks 3 rfl
def aG:Option ((waC×Int×(List af))⊕((waC×(List af)))):=
 if decide (t10<t9)=true then
  (ey t8 t10).bind λx2=>
  (bQ x2 v v2 v3 v4 v5 v6 v7 m).bind λr3=>
  (app out ([r3.1]:List am)).bind λl4=>
  some (.inl (l4,dp (t10+1),r3.2))
 else
  some (.inr (out,m))
def cW:Option ((waC×(List af))):=loop (λ(zz:waC×Int×(List af))=>aG v t8 t9 v2 v3 v4 v5 v6 v7 zz.1 zz.2.1 zz.2.2) (out,t10,m)
theorem eB:OL 3 (cA ZZ 119) (aG v t8 t9 v2 v3 v4 v5 v6 v7 out t10 m) (λ(zz:waC×Int×(List af))=>bW v t8 t9 v2 v3 v4 v5 v6 v7 zz.1 zz.2.1 zz.2.2) (λ_=>.exit 0) (cN v2 v3 v4 v5 v6 v7) (bW v t8 t9 v2 v3 v4 v5 v6 v7 out t10 m):=XL.lx<|
 tF (tb λx2 bx2=>tb λr3 br3=>tb λl4 bl4=>tv (er.ia (k:=.i64) bx2)<|tv (BF x2)<|tx U1<|tx (kU x2)<|tv (Ly x2 [])<|tc [0,1,2] (fO _ br3)<|tv (er.mk' (v:=xr) th ([r3.1]:List am) 1 (by kernel_rfl))<|tv (er.ap bl4)<|tE)<|tE
def eG:=rE (s:=(out,t10,m)) λzz=>eB v t8 t9 v2 v3 v4 v5 v6 v7 zz.1 zz.2.1 zz.2.2
end
def bF(a:waC)(c:Bool)(c2:(List af))(c3:ai)(c4:ai)(c5:ai)(c6:ai)(c7:ai)(k2:(List af)):Option (waC×(List af)):=
 (cW c a (a.length:Int) c2 c3 c4 c5 c6 c7 ([]:List am) 0 k2).bind λo5=>
 some (o5.1,o5.2)
theorem eY{a:waC}{c:Bool}{c2:(List af)}{c3:ai}{c4:ai}{c5:ai}{c6:ai}{c7:ai}{k2:(List af)}:OG 107 [sl aj a,.func (.func 108) [] [.eptr (cB c),.bptr 0 0]] [] [.cells [.func (.func 105) [] [.bptr 1 0,.eptr ((cL ak) c2),.bptr 2 0]] [],.cells [.func (.func 55) [] [.eptr (cS c3),.eptr (cS c4),.eptr (cS c5)],.func (.func 54) [] [.eptr (cS c6),.eptr (cS c7)]] [],.cells [sl ak k2] [(0,137)]] (bF a c c2 c3 c4 c5 c6 c7 k2) (λr=>sl aj r.1) [(0,85)] (λr=>[.cells [.func (.func 105) [] [.bptr 1 0,.eptr ((cL ak) c2),.bptr 2 0]] [],.cells [.func (.func 55) [] [.eptr (cS c3),.eptr (cS c4),.eptr (cS c5)],.func (.func 54) [] [.eptr (cS c6),.eptr (cS c7)]] [],.cells [sl ak r.2] [(0,137)]]):=XL.g 3<|
 tb λo5 bo5=>ct (er.ln a)<|cD (eG c a (a.length:Int) c2 c3 c4 c5 c6 c7 ([]:List am) 0 k2 _ bo5)<|tE
section
variable(t1:(List af))(v:az)(t13:waA)(t14:Int)(v4:ai)(v5:ai)(v6:ai)(v7:ai)(v8:ai)(m:waE)(m2:waC)(m3:waD)(m4:waB)(v2:(List af))(v3:waA)(t15:Int)
def eO:aB:=aO 44 [(1,.eptr ((cL ak) t1)),(2,.bptr 0 0),(3,.eptr (au v)),(4,.bptr 2 0),(5,sl ak v2),(6,sl cS v3),(13,sl cS t13),(14,.int .i64 t14),(15,.int .i64 t15)] [.cells [.func (.func 55) [] [.eptr (cS v4),.eptr (cS v5),.eptr (cS v6)],.func (.func 54) [] [.eptr (cS v7),.eptr (cS v8)]] [],.dead,.cells [.str ([]:ai),sl cS ([]:List ai),.int .i64 0,.str ([]:ai),.int .i64 0,sl ae m,sl aj m2,sl au m3,sl ah m4] [(1,9),(5,28),(6,85),(7,89),(8,60)]] [((6,0),9),((5,0),137)]
def jO(o:(List af)×waA):aB:=aO 44 [(2,.bptr 0 0),(3,.eptr (au v)),(4,.bptr 2 0),(5,sl ak o.1),(6,sl cS o.2)] [.cells [.func (.func 55) [] [.eptr (cS v4),.eptr (cS v5),.eptr (cS v6)],.func (.func 54) [] [.eptr (cS v7),.eptr (cS v8)]] [],.dead,.cells [.str ([]:ai),sl cS ([]:List ai),.int .i64 0,.str ([]:ai),.int .i64 0,sl ae m,sl aj m2,sl au m3,sl ah m4] [(1,9),(5,28),(6,85),(7,89),(8,60)]] [((6,0),9),((5,0),137)]
def aZ:Option (((List af)×waA×Int)⊕(((List af)×waA))):=
 if decide (t15<t14)=true then
  (ey t13 t15).bind λx3=>
  (kX x3 t1 v4 v5 v6).bind λr4=>
  (app v3 ([r4]:List ai)).bind λl5=>
  (app v2 ([(⟨x3,r4⟩:af)]:List af)).bind λl6=>
  some (.inl (l6,l5,dp (t15+1)))
 else
  some (.inr (v2,v3))
def dt:Option (((List af)×waA)):=loop (λ(zz:(List af)×waA×Int)=>aZ t1 t13 t14 v4 v5 v6 zz.1 zz.2.1 zz.2.2) (v2,v3,t15)
theorem ji:OL 1 (cA Z2 247) (aZ t1 t13 t14 v4 v5 v6 v2 v3 t15) (λ(zz:(List af)×waA×Int)=>eO t1 v t13 t14 v4 v5 v6 v7 v8 m m2 m3 m4 zz.1 zz.2.1 zz.2.2) (λ_=>.exit 0) (jO v v4 v5 v6 v7 v8 m m2 m3 m4) (eO t1 v t13 t14 v4 v5 v6 v7 v8 m m2 m3 m4 v2 v3 t15):=XO.l<|
 tF (tb λx3 bx3=>tb λr4 br4=>tb λl5 bl5=>tb λl6 bl6=>tv (b8.ia (k:=.i64) bx3)<|tv (cw BZ (.str x3) [])<|ts<|tv (cw Jx (sl ak t1) [])<|bM (vg _ br4)<|tv (gD [r4] 1 rfl)<|tv (b8.ap bl5)<|tv (jH x3 r4)<|tv (Mb.mk' (v:=mA) mD ([(⟨x3,r4⟩:af)]:List af) 1 (by kernel_rfl))<|tv (Mb.ap bl6)<|tE)<|tE
def jr:=rE (s:=(v2,v3,t15)) λzz=>ji t1 v t13 t14 v4 v5 v6 v7 v8 m m2 m3 m4 zz.1 zz.2.1 zz.2.2
end
def cq(R52:aS)(a:az)(a2:(List af))(c:ai)(c2:ai)(c3:ai)(c4:ai)(c5:ai):Option az:=
 (pj a2).bind λr1=>
 (dt a2 a.Names (a.Names.length:Int) c c2 c3 r1 ([]:List ai) 0).bind λo7=>
 (R52 c c2 c3 c4 c5 a.Body o7.1).bind λr8=>
 some (⟨a.Con,o7.2,r8⟩:az)
theorem ko(R52:aS)(hR52:bA R52){a:az}{a2:(List af)}{c:ai}{c2:ai}{c3:ai}{c4:ai}{c5:ai}:OG 110 [.agg (au a),.eptr ((cL ak) a2),.bptr 0 0] [] [.cells [.func (.func 55) [] [.eptr (cS c),.eptr (cS c2),.eptr (cS c3)],.func (.func 54) [] [.eptr (cS c4),.eptr (cS c5)]] []] (cq R52 a a2 c c2 c3 c4 c5) (λr=>.agg (au r)) [] (λr=>[.cells [.func (.func 55) [] [.eptr (cS c),.eptr (cS c2),.eptr (cS c3)],.func (.func 54) [] [.eptr (cS c4),.eptr (cS c5)]] []]):=XO.g 1<|
 tb λr1 br1=>tb λo7 bo7=>tb λr8 br8=>te (PQ a)<|tx Jv<|tv (cw Jx (sl ak a2) [])<|bM (uC br1)<|tw (eK a)<|ct (b8.ln a.Names)<|cD (jr a2 a a.Names (a.Names.length:Int) c c2 c3 c4 c5 ([]:List ag) ([]:List am) ([]:List az) ([]:List al) r1 ([]:List ai) 0 _ bo7)<|Be [0,1,0,0,0,16,0,120,255,511]<|tw (lm a)<|tv (show aY Pg 95 [.func (.func 55) [] [.eptr (cS c),.eptr (cS c2),.eptr (cS c3)],.func (.func 54) [] [.eptr (cS c4),.eptr (cS c5)]]=some (.agg [.func (.func 55) [] [.eptr (cS c),.eptr (cS c2),.eptr (cS c3)],.func (.func 54) [] [.eptr (cS c4),.eptr (cS c5)]]) by kernel_rfl)<|tw (fT a)<|bM (hR52 _ _ _ _ _ _ _ _ br8)<|tv (CK a.Con o7.2 r8)<|tx (hU (⟨a.Con,o7.2,r8⟩:az))<|Ei λq=>aI (Rt (⟨a.Con,o7.2,r8⟩:az)) q.2
section
variable(R52:aS)(v:(List af))(t8:waD)(t9:Int)(v2:ai)(v3:ai)(v4:ai)(v5:ai)(v6:ai)(out:waD)(t10:Int)
def cO:aB:=aO 22 [(1,.func (.func 110) [] [.eptr ((cL ak) v),.bptr 0 0]),(5,sl au out),(8,sl au t8),(9,.int .i64 t9),(10,.int .i64 t10)] [.cells [.func (.func 55) [] [.eptr (cS v2),.eptr (cS v3),.eptr (cS v4)],.func (.func 54) [] [.eptr (cS v5),.eptr (cS v6)]] []] [((5,0),89)]
def eb(o:waD):aB:=aO 22 [(5,sl au o)] [.cells [.func (.func 55) [] [.eptr (cS v2),.eptr (cS v3),.eptr (cS v4)],.func (.func 54) [] [.eptr (cS v5),.eptr (cS v6)]] []] [((5,0),89)]
instance iS_syntax_each_naming_apply_3_Subst_2_Subst_1_L1:KS 1 (cO v t8 t9 v2 v3 v4 v5 v6 out t10):=ks 1 rfl
instance iO_syntax_each_naming_apply_3_Subst_2_Subst_1_L1{o:waD}:KS 1 (eb v2 v3 v4 v5 v6 o):=ks 1 rfl
def aQ:Option ((waD×Int)⊕(waD)):=
 if decide (t10<t9)=true then
  (ey t8 t10).bind λx2=>
  (cq R52 x2 v v2 v3 v4 v5 v6).bind λr3=>
  (app out ([r3]:List az)).bind λl4=>
  some (.inl (l4,dp (t10+1)))
 else
  some (.inr out)
def ei:Option waD:=loop (λ(zz:waD×Int)=>aQ R52 v t8 t9 v2 v3 v4 v5 v6 zz.1 zz.2) (out,t10)
theorem gS(hR52:bA R52):OL 1 (cA Z1 119) (aQ R52 v t8 t9 v2 v3 v4 v5 v6 out t10) (λ(zz:waD×Int)=>cO v t8 t9 v2 v3 v4 v5 v6 zz.1 zz.2) (λ_=>.exit 0) (eb v2 v3 v4 v5 v6) (cO v t8 t9 v2 v3 v4 v5 v6 out t10):=XN.lx<|
 tF (tb λx2 bx2=>tb λr3 br3=>tb λl4 bl4=>tv (dc.ia (k:=.i64) bx2)<|tv (lp x2)<|tx Jv<|tx (hU x2)<|tv (QY x2 [])<|tc [0] (ko R52 hR52 _ br3)<|tv (dc.mk' (v:=S2) Rc ([r3]:List az) 1 (by kernel_rfl))<|tv (dc.ap bl4)<|tE)<|tE
def gV(hR52:bA R52):=rE (s:=(out,t10)) λzz=>gS R52 v t8 t9 v2 v3 v4 v5 v6 zz.1 zz.2 hR52
end
def cx(R52:aS)(a:waD)(c:(List af))(c2:ai)(c3:ai)(c4:ai)(c5:ai)(c6:ai):Option waD:=
 (ei R52 c a (a.length:Int) c2 c3 c4 c5 c6 ([]:List az) 0).bind λo5=>
 some o5
theorem iK(R52:aS)(hR52:bA R52){a:waD}{c:(List af)}{c2:ai}{c3:ai}{c4:ai}{c5:ai}{c6:ai}:OG 109 [sl au a,.func (.func 110) [] [.eptr ((cL ak) c),.bptr 0 0]] [] [.cells [.func (.func 55) [] [.eptr (cS c2),.eptr (cS c3),.eptr (cS c4)],.func (.func 54) [] [.eptr (cS c5),.eptr (cS c6)]] []] (cx R52 a c c2 c3 c4 c5 c6) (λr=>sl au r) [(0,89)] (λr=>[.cells [.func (.func 55) [] [.eptr (cS c2),.eptr (cS c3),.eptr (cS c4)],.func (.func 54) [] [.eptr (cS c5),.eptr (cS c6)]] []]):=XN.g 1<|
 tb λo5 bo5=>ct (dc.ln a)<|cD (gV R52 c a (a.length:Int) c2 c3 c4 c5 c6 ([]:List az) 0 hR52 _ bo5)<|tE
section
variable(scope:(List af))(v:ai)(v2:ai)(v3:ai)(v4:ai)(v5:ai)(m:Int)(m2:ai)(m3:Int)(m4:waE)(m5:waC)(m6:waD)(m7:waB)(m8:waE)(m9:waC)(m10:waD)(m11:waB)(m12:(List af))
def cP:Option ((ai×(List af))):=
 (eX (⟨m,m2,m3,m4,m5,m6,m7⟩:ag)).bind λr3=>
 if r3=true then
  (ng scope m2).bind λr5=>
  if r5.2=true then
   some (r5.1,m12)
  else
   (ol m2 v4 v5).bind λr7=>
   some (r7,m12)
 else if(m==7)=true then
  (cp m2 scope v v2 v3 v4 v5 m12).bind λr9=>
  some (r9.1,r9.2)
 else
  some (m2,m12)
theorem j4:OJ 0 (cA qai 62) (cP scope v v2 v3 v4 v5 m m2 m3 m4 m5 m6 m7 m12) .normal (λo=>aO 96 [(3,.bptr 0 0),(4,.bptr 1 0),(5,.eptr ((cL ak) scope)),(6,.bptr 3 0),(7,.bptr 4 0),(8,.bptr 5 0)] [.cells [.func (.func 55) [] [.eptr (cS v),.eptr (cS v2),.eptr (cS v3)],.func (.func 54) [] [.eptr (cS v4),.eptr (cS v5)]] [],.cells [.int .i64 m,.str o.1,.int .i64 m3,sl ae m4,sl aj m5,sl au m6,sl ah m7] [(6,60)],.dead,.cells [.int .i64 0,.str ([]:ai),.int .i64 0,sl ae m8,sl aj m9,sl au m10,sl ah m11] [(3,28),(4,85),(5,89),(6,60)],.cells [sl ak o.2] [(0,137)],.cells [.func (.func 105) [] [.bptr 0 0,.eptr ((cL ak) scope),.bptr 4 0]] []] []) (aO 96 [(3,.bptr 0 0),(4,.bptr 1 0),(5,.eptr ((cL ak) scope)),(6,.bptr 3 0),(7,.bptr 4 0),(8,.bptr 5 0)] [.cells [.func (.func 55) [] [.eptr (cS v),.eptr (cS v2),.eptr (cS v3)],.func (.func 54) [] [.eptr (cS v4),.eptr (cS v5)]] [],.cells [.int .i64 m,.str m2,.int .i64 m3,sl ae m4,sl aj m5,sl au m6,sl ah m7] [(6,60)],.dead,.cells [.int .i64 0,.str ([]:ai),.int .i64 0,sl ae m8,sl aj m9,sl au m10,sl ah m11] [(3,28),(4,85),(5,89),(6,60)],.cells [sl ak m12] [(0,137)],.cells [.func (.func 105) [] [.bptr 0 0,.eptr ((cL ak) scope),.bptr 4 0]] []] []):=Za.j<|
 tb λr3 br3=>tv (aK (⟨m,m2,m3,m4,m5,m6,m7⟩:ag) [])<|bM (jQ _ br3)<|tF (tb λr5 br5=>tv (cw Jx (sl ak scope) [])<|ts<|bM (AZ br5)<|tF (ts<|tE)<|tb λr7 br7=>ts<|ts<|bM (F8 _ br7)<|ts<|tE)<|ts<|tF (tb λr9 br9=>ts<|ts<|tc [0,4] (fg _ br9)<|ts<|tE)<|tE
end
section
variable(scope:(List af))(kids:waE)(i:Int)(t59:waE)(t60:Int)(v:ai)(v2:ai)(v3:ai)(v4:ai)(v5:ai)(m:Int)(m2:ai)(m3:Int)(m4:waC)(m5:waD)(m6:waB)(m7:waE)(m8:waC)(m9:waD)(m10:waB)(m11:(List af))(m12:Int)(m13:ai)(m14:Int)(m15:waE)(m16:waC)(m17:waD)(m18:waB)
def dN:Option Bool:=
 if(m==7)=true then
  some (i==0)
 else
  some false
theorem j5:OU 0 (cA qai 523766) (dN i m) .normal (λo=>[(13,.undef),(72,.bool o)]) (aO 96 [(3,.bptr 0 0),(4,.bptr 1 0),(5,.eptr ((cL ak) scope)),(6,.bptr 3 0),(7,.bptr 4 0),(12,sl ae kids),(13,.int .i64 i),(14,.bptr 7 0),(59,sl ae t59),(60,.int .i64 t60),(61,.int .i64 i)] [.cells [.func (.func 55) [] [.eptr (cS v),.eptr (cS v2),.eptr (cS v3)],.func (.func 54) [] [.eptr (cS v4),.eptr (cS v5)]] [],.cells [.int .i64 m,.str m2,.int .i64 m3,sl ae t59,sl aj m4,sl au m5,sl ah m6] [(4,85),(6,60)],.dead,.cells [.int .i64 0,.str ([]:ai),.int .i64 0,sl ae m7,sl aj m8,sl au m9,sl ah m10] [(3,28),(4,85),(5,89),(6,60)],.cells [sl ak m11] [(0,137)],.cells [.func (.func 105) [] [.bptr 0 0,.eptr ((cL ak) scope),.bptr 4 0]] [],.dead,.cells [.int .i64 m12,.str m13,.int .i64 m14,sl ae m15,sl aj m16,sl au m17,sl ah m18] []] [((12,0),28)]):=Za.j<|
 tf (λc14=>ts<|tg 4 c14<|tE) λc14=>ts<|tg 4 c14<|tE
end
section
variable(R52:aS)(scope:(List af))(t59:waE)(t60:Int)(v:ai)(v2:ai)(v3:ai)(v4:ai)(v5:ai)(m:Int)(m2:ai)(m3:Int)(m4:waC)(m5:waD)(m6:waB)(m7:waE)(m8:waC)(m9:waD)(m10:waB)(m11:(List af))(kids:waE)(t61:Int)
def du:aB:=aO 96 [(3,.bptr 0 0),(4,.bptr 1 0),(5,.eptr ((cL ak) scope)),(6,.bptr 3 0),(7,.bptr 4 0),(12,sl ae kids),(59,sl ae t59),(60,.int .i64 t60),(61,.int .i64 t61)] [.cells [.func (.func 55) [] [.eptr (cS v),.eptr (cS v2),.eptr (cS v3)],.func (.func 54) [] [.eptr (cS v4),.eptr (cS v5)]] [],.cells [.int .i64 m,.str m2,.int .i64 m3,sl ae t59,sl aj m4,sl au m5,sl ah m6] [(4,85),(6,60)],.dead,.cells [.int .i64 0,.str ([]:ai),.int .i64 0,sl ae m7,sl aj m8,sl au m9,sl ah m10] [(3,28),(4,85),(5,89),(6,60)],.cells [sl ak m11] [(0,137)],.cells [.func (.func 105) [] [.bptr 0 0,.eptr ((cL ak) scope),.bptr 4 0]] [],.dead] [((12,0),28)]
def fi(o:waE):aB:=aO 96 [(3,.bptr 0 0),(4,.bptr 1 0),(5,.eptr ((cL ak) scope)),(6,.bptr 3 0),(12,sl ae o)] [.cells [.func (.func 55) [] [.eptr (cS v),.eptr (cS v2),.eptr (cS v3)],.func (.func 54) [] [.eptr (cS v4),.eptr (cS v5)]] [],.cells [.int .i64 m,.str m2,.int .i64 m3,sl ae t59,sl aj m4,sl au m5,sl ah m6] [(4,85),(6,60)],.dead,.cells [.int .i64 0,.str ([]:ai),.int .i64 0,sl ae m7,sl aj m8,sl au m9,sl ah m10] [(3,28),(4,85),(5,89),(6,60)],.cells [sl ak m11] [(0,137)],.cells [.func (.func 105) [] [.bptr 0 0,.eptr ((cL ak) scope),.bptr 4 0]] [],.dead] [((12,0),28)]
instance iS_syntax_naming_apply_Subst_2_Subst_1_L2:KS 0 (du scope t59 t60 v v2 v3 v4 v5 m m2 m3 m4 m5 m6 m7 m8 m9 m10 m11 kids t61):=⟨rfl,(yL (aI (ky rfl) (aI (ky rfl) (aI (iQ (Ha bj scope)) (aI (ky rfl) (aI (ky rfl) (aI (up (aH a8 kids)) (aI (up (aH a8 t59)) (aI vzz (aI vzz vzz)))))))))),(aI (aI (aI vzz (aI (iQ (uB v)) (aI (iQ (uB v2)) (aI (iQ (uB v3)) trivial)))) (aI (aI vzz (aI (iQ (uB v4)) (aI (iQ (uB v5)) trivial))) trivial)) (aI (aI vzz (aI vzz (aI vzz (aI (up (aH a8 t59)) (aI (up (aH bH m4)) (aI (up (aH dm m5)) (aI (up (aH bU m6)) trivial))))))) (aI vzz (aI (aI vzz (aI vzz (aI vzz (aI (up (aH a8 m7)) (aI (up (aH bH m8)) (aI (up (aH dm m9)) (aI (up (aH bU m10)) trivial))))))) (aI (aI (up (aH bj m11)) trivial) (aI (aI (aI vzz (aI (ky rfl) (aI (iQ (Ha bj scope)) (aI (ky rfl) trivial)))) trivial) (aI vzz vzz)))))))⟩
instance iO_syntax_naming_apply_Subst_2_Subst_1_L2{o:waE}:KS 0 (fi scope t59 v v2 v3 v4 v5 m m2 m3 m4 m5 m6 m7 m8 m9 m10 m11 o):=⟨rfl,(yL (aI (ky rfl) (aI (ky rfl) (aI (iQ (Ha bj scope)) (aI (ky rfl) (aI (up (aH a8 o)) trivial)))))),(aI (aI (aI vzz (aI (iQ (uB v)) (aI (iQ (uB v2)) (aI (iQ (uB v3)) trivial)))) (aI (aI vzz (aI (iQ (uB v4)) (aI (iQ (uB v5)) trivial))) trivial)) (aI (aI vzz (aI vzz (aI vzz (aI (up (aH a8 t59)) (aI (up (aH bH m4)) (aI (up (aH dm m5)) (aI (up (aH bU m6)) trivial))))))) (aI vzz (aI (aI vzz (aI vzz (aI vzz (aI (up (aH a8 m7)) (aI (up (aH bH m8)) (aI (up (aH dm m9)) (aI (up (aH bU m10)) trivial))))))) (aI (aI (up (aH bj m11)) trivial) (aI (aI (aI vzz (aI (ky rfl) (aI (iQ (Ha bj scope)) (aI (ky rfl) trivial)))) trivial) (aI vzz vzz)))))))⟩
def bh:Option ((waE×Int)⊕(waE)):=
 if decide (t61<t60)=true then
  (ey t59 t61).bind λx13=>
  (dN t61 m).bind λo15=>
  if o15=true then
   (R52 v v2 v3 v4 v5 x13 scope).bind λr17=>
   (app kids ([r17]:List ag)).bind λl18=>
   some (.inl (l18,dp (t61+1)))
  else
   (R52 v v2 v3 v4 v5 x13 m11).bind λr19=>
   (app kids ([r19]:List ag)).bind λl20=>
   some (.inl (l20,dp (t61+1)))
 else
  some (.inr kids)
def dO:Option waE:=loop (λ(zz:waE×Int)=>bh R52 scope t59 t60 v v2 v3 v4 v5 m m11 zz.1 zz.2) (kids,t61)
theorem jP(hR52:bA R52):OL 0 (cA qai 8183) (bh R52 scope t59 t60 v v2 v3 v4 v5 m m11 kids t61) (λ(zz:waE×Int)=>du scope t59 t60 v v2 v3 v4 v5 m m2 m3 m4 m5 m6 m7 m8 m9 m10 m11 zz.1 zz.2) (λ_=>.exit 1) (fi scope t59 v v2 v3 v4 v5 m m2 m3 m4 m5 m6 m7 m8 m9 m10 m11) (du scope t59 t60 v v2 v3 v4 v5 m m2 m3 m4 m5 m6 m7 m8 m9 m10 m11 kids t61):=Za.lx<|
 tF (tb λx13 bx13=>tb λo15 bo15=>tv (cR.ia (k:=.i64) bx13)<|tv (aX x13)<|tx rH<|tx (dn x13)<|jo 0<|cD (j5 scope kids t61 t59 t60 v v2 v3 v4 v5 m m2 m3 m4 m5 m6 m7 m8 m9 m10 m11 x13.Op x13.Name x13.N x13.Kids x13.Params x13.Alts x13.Types _ bo15)<|tF (tb λr17 br17=>tb λl18 bl18=>tv (show aY Pg 95 [.func (.func 55) [] [.eptr (cS v),.eptr (cS v2),.eptr (cS v3)],.func (.func 54) [] [.eptr (cS v4),.eptr (cS v5)]]=some (.agg [.func (.func 55) [] [.eptr (cS v),.eptr (cS v2),.eptr (cS v3)],.func (.func 54) [] [.eptr (cS v4),.eptr (cS v5)]]) by kernel_rfl)<|tv (aK x13 [])<|tv (cw Jx (sl ak scope) [])<|bM (hR52 _ _ _ _ _ _ _ _ br17)<|tv (cR.mk' (v:=ly) dR ([r17]:List ag) 1 (by kernel_rfl))<|tv (cR.ap bl18)<|tE)<|tb λr19 br19=>tb λl20 bl20=>tv (show aY Pg 95 [.func (.func 55) [] [.eptr (cS v),.eptr (cS v2),.eptr (cS v3)],.func (.func 54) [] [.eptr (cS v4),.eptr (cS v5)]]=some (.agg [.func (.func 55) [] [.eptr (cS v),.eptr (cS v2),.eptr (cS v3)],.func (.func 54) [] [.eptr (cS v4),.eptr (cS v5)]]) by kernel_rfl)<|tv (aK x13 [])<|ts<|bM (hR52 _ _ _ _ _ _ _ _ br19)<|tv (cR.mk' (v:=ly) dR ([r19]:List ag) 1 (by kernel_rfl))<|tv (cR.ap bl20)<|tE)<|tE
def j6(hR52:bA R52):=rE (s:=(kids,t61)) λzz=>jP R52 scope t59 t60 v v2 v3 v4 v5 m m2 m3 m4 m5 m6 m7 m8 m9 m10 m11 zz.1 zz.2 hR52
end
def cT(R52:aS)(c:ai)(c2:ai)(c3:ai)(c4:ai)(c5:ai)(e:ag)(scope:(List af)):Option ag:=
 (cr e.Types).bind λr1=>
 (pj scope).bind λr2=>
 (cP scope c c2 c3 c4 c5 e.Op e.Name e.N e.Kids e.Params e.Alts r1 r2).bind λo10=>
 (bF e.Params (e.Op==6) scope c c2 c3 c4 c5 o10.2).bind λr11=>
 (dO R52 scope e.Kids (e.Kids.length:Int) c c2 c3 c4 c5 e.Op r11.2 ([]:List ag) 0).bind λo21=>
 (cx R52 e.Alts scope c c2 c3 c4 c5).bind λr22=>
 some (⟨e.Op,o10.1,e.N,o21,r11.1,r22,r1⟩:ag)
theorem kH(R52:aS)(hR52:bA R52){c:ai}{c2:ai}{c3:ai}{c4:ai}{c5:ai}{e:ag}{scope:(List af)}:OV 56 [.agg [.func (.func 55) [] [.eptr (cS c),.eptr (cS c2),.eptr (cS c3)],.func (.func 54) [] [.eptr (cS c4),.eptr (cS c5)]],.agg (ae e),sl ak scope] (cT R52 c c2 c3 c4 c5 e scope) (λr=>.agg (ae r)) [(3,28),(4,85),(5,89),(6,60)]:=Za.va<|
 tb λr1 br1=>tb λr2 br2=>tb λo10 bo10=>tb λr11 br11=>tb λo21 bo21=>tb λr22 br22=>T9 (Zl [.func (.func 55) [] [.eptr (cS c),.eptr (cS c2),.eptr (cS c3)],.func (.func 54) [] [.eptr (cS c4),.eptr (cS c5)]]) rfl<|T9 (dn e) rfl<|te (qeG ak scope)<|tx rH<|ts<|bM (fC _ br1)<|tv (cw Jx (sl ak scope) [])<|bM (uC br2)<|tx qcn<|tx qcm<|ts<|jo 0<|cD (j4 scope c c2 c3 c4 c5 e.Op e.Name e.N e.Kids e.Params e.Alts r1 ([]:List ag) ([]:List am) ([]:List az) ([]:List al) r2 _ bo10)<|ts<|tx qeH<|ts<|Vt 6 [[.bool (e.Op==6)]] [3,4,5,6,7,8,11] [] (qdS (m:=0) (b:=6) rfl [.bool (e.Op==6)] rfl) (qdT 6 (l:=[.bool (e.Op==6)]) (aI vzz vzz)) (qdU (qd6 [.bool (e.Op==6)]))<|tq (Jq 6 (Ha bj scope))<|tq (Jq 6 (uB c))<|tq (Jq 6 (uB c2))<|tq (Jq 6 (uB c3))<|tq (Jq 6 (uB c4))<|tq (Jq 6 (uB c5))<|tq (iD 6 (p:=sl ae e.Kids) (aH a8 e.Kids))<|tq (iD 6 (p:=sl aj e.Params) (aH bH e.Params))<|tq (iD 6 (p:=sl au e.Alts) (aH dm e.Alts))<|tq (iD 6 (p:=sl ah r1) (aH bU r1))<|tq (iD 6 (p:=sl ae ([]:List ag)) (aH a8 ([]:List ag)))<|tq (iD 6 (p:=sl aj ([]:List am)) (aH bH ([]:List am)))<|tq (iD 6 (p:=sl au ([]:List az)) (aH dm ([]:List az)))<|tq (iD 6 (p:=sl ah ([]:List al)) (aH bU ([]:List al)))<|tq (iD 6 (p:=sl ak o10.2) (aH bj o10.2))<|tq (Jq 6 (Ha bj scope))<|ts<|tc [5,0,4] (eY _ br11)<|ts<|ct (cR.ln e.Kids)<|cD (j6 R52 scope e.Kids (e.Kids.length:Int) c c2 c3 c4 c5 e.Op o10.1 e.N r11.1 e.Alts r1 ([]:List ag) ([]:List am) ([]:List az) ([]:List al) r11.2 ([]:List ag) 0 hR52 _ bo21)<|ts<|tc [0] (iK R52 hR52 _ br22)<|tz (aK (⟨e.Op,o10.1,e.N,o21,r11.1,r22,r1⟩:ag) [])<|ty (bz (⟨e.Op,o10.1,e.N,o21,r11.1,r22,r1⟩:ag))<|Ei λq=>aI (iX (⟨e.Op,o10.1,e.N,o21,r11.1,r22,r1⟩:ag)) q.2
def dU:((ai×ai×ai×ai×ai×ag×(List af))->Option ag)->(ai×ai×ai×ai×ai×ag×(List af))->Option ag:=λ(rec:(ai×ai×ai×ai×ai×ag×(List af))->Option ag) (x:ai×ai×ai×ai×ai×ag×(List af))=>cT (λc c2 c3 c4 c5 e scope=>rec (c,c2,c3,c4,c5,e,scope)) x.1 x.2.1 x.2.2.1 x.2.2.2.1 x.2.2.2.2.1 x.2.2.2.2.2.1 x.2.2.2.2.2.2
def ed(c:ai)(c2:ai)(c3:ai)(c4:ai)(c5:ai)(e:ag)(scope:(List af)):Option ag:=pl dU (c,c2,c3,c4,c5,e,scope)
theorem lc{c:ai}{c2:ai}{c3:ai}{c4:ai}{c5:ai}{e:ag}{scope:(List af)}:OV 56 [.agg [.func (.func 55) [] [.eptr (cS c),.eptr (cS c2),.eptr (cS c3)],.func (.func 54) [] [.eptr (cS c4),.eptr (cS c5)]],.agg (ae e),sl ak scope] (ed c c2 c3 c4 c5 e scope) (λr=>.agg (ae r)) [(3,28),(4,85),(5,89),(6,60)]:=BN λ_ h=>
 dY (F:=dU) (M:=λ(x:ai×ai×ai×ai×ai×ag×(List af)) (r:ag)=>CC Pg GE 56 [.agg [.func (.func 55) [] [.eptr (cS x.1),.eptr (cS x.2.1),.eptr (cS x.2.2.1)],.func (.func 54) [] [.eptr (cS x.2.2.2.1),.eptr (cS x.2.2.2.2.1)]],.agg (ae x.2.2.2.2.2.1),sl ak x.2.2.2.2.2.2] (.agg (ae r)) [(3,28),(4,85),(5,89),(6,60)]) (λrec hrec x r h=>kH _ (λc c2 c3 c4 c5 e scope=>BN λr h=>hrec (c,c2,c3,c4,c5,e,scope) r h) _ h) h
noncomputable def qfe:Code:=f13.body.getD .skip
theorem qeQ:ZF Pg [] 13 f13 qfe:=zf call13 func13 rfl mixed
def oh(e:ag)(name:ai)(a:ai):Option ag:=
 (yy e).bind λr1=>
 (app r1 ([a]:List ai)).bind λl2=>
 (pZ l2 a).bind λr3=>
 (ed a name r3 name a e ([]:List af)).bind λr4=>
 some r4
theorem eW{e:ag}{name:ai}{a:ai}:OV 13 [.agg (ae e),.str name,.str a] (oh e name a) (λr=>.agg (ae r)) [(3,28),(4,85),(5,89),(6,60)]:=qeQ.va<|
 tb λr1 br1=>tb λl2 bl2=>tb λr3 br3=>tb λr4 br4=>te (cm e)<|te (qaF name)<|te (qaF a)<|tx rH<|Be [0,1,0,4,15,0,63,0,255]<|tv (aX e)<|bM (Nt _ br1)<|tv (cw BZ (.str a) [])<|tv (gD [a] 1 rfl)<|tv (b8.ap bl2)<|tv (cw BZ (.str a) [])<|bM (Ax _ br3)<|qfR (rfl:cj (.str r3)=some [.str r3])<|Vt 4 [[.str r3]] [3,4,5,6,7] [] (qdS (m:=0) (b:=4) rfl [.str r3] rfl) (qdT 4 (l:=[.str r3]) (aI vzz vzz)) (qdU (qd6 [.str r3]))<|tq (Jq 4 (a8 e))<|tq (Jq 4 (uB name))<|tq (Jq 4 (uB a))<|tq (iD 4 (p:=sl ae ([]:List ag)) (aH a8 ([]:List ag)))<|tq (iD 4 (p:=sl aj ([]:List am)) (aH bH ([]:List am)))<|tq (iD 4 (p:=sl au ([]:List az)) (aH dm ([]:List az)))<|tq (iD 4 (p:=sl ah ([]:List al)) (aH bU ([]:List al)))<|tv (show dh Pg 95 [(1,.func (.func 54) [] [.eptr (cS name),.eptr (cS a)]),(0,.func (.func 55) [] [.eptr (cS a),.eptr (cS name),.eptr (cS r3)])]=some (.agg [.func (.func 55) [] [.eptr (cS a),.eptr (cS name),.eptr (cS r3)],.func (.func 54) [] [.eptr (cS name),.eptr (cS a)]]) by kernel_rfl)<|tx qco<|tx (Zl [.func (.func 55) [] [.eptr (cS a),.eptr (cS name),.eptr (cS r3)],.func (.func 54) [] [.eptr (cS name),.eptr (cS a)]])<|tv (show aY Pg 95 [.func (.func 55) [] [.eptr (cS a),.eptr (cS name),.eptr (cS r3)],.func (.func 54) [] [.eptr (cS name),.eptr (cS a)]]=some (.agg [.func (.func 55) [] [.eptr (cS a),.eptr (cS name),.eptr (cS r3)],.func (.func 54) [] [.eptr (cS name),.eptr (cS a)]]) by kernel_rfl)<|tv (aX e)<|bM (lc _ br4)<|ty (bz r4)<|Ei λq=>aI (iX r4) q.2
abbrev fb:=(ag->Int->Option (Bool×Int))
abbrev e8(R:fb):Prop:=∀(e:ag) (k0:Int),OG 64 [.agg (ae e),.func (.func 68) [] [.bptr 0 0]] [] [.cells [.int .i64 k0] []] (R e k0) (λr=>.bool r.1) [] (λr=>[.cells [.int .i64 r.2] []])
noncomputable def qfu:Code:=f68.body.getD .skip
theorem qe6:ZF Pg [] 68 f68 qfu:=zf call68 func68 rfl mixed
def AW(a:ag)(k0:Int):Option (Bool×Int):=
 some (true,dp (k0+1))
theorem F7{a:ag}{k0:Int}:OG 68 [.agg (ae a),.bptr 0 0] [] [.cells [.int .i64 k0] []] (AW a k0) (λr=>.bool r.1) [] (λr=>[.cells [.int .i64 r.2] []]):=qe6.g 1<|
 te (cm a)<|ts<|ts<|tE
end Go.Proofs.YtkdahfeiedaahaaGreatDoor
