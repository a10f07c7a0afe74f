/- PROVED: a part of the proof. Conditions: none. -/
import Derived.Test.YtkdahfeiedaahaaGreatDoorPkF12
noncomputable section
namespace Go.Proofs.YtkdahfeiedaahaaGreatDoor
open Go Go.Proofs.Tryz
set_option linter.unusedVariables false
set_option maxRecDepth 100000
noncomputable def XI:Code:=f99.body.getD .skip
def Va:List Nat:=[]
theorem Z99:ZF Va 99 f99 XI:=⟨call99,func99,rfl⟩
section
variable(v:ag)(m2:(List (af×Bool)))
def wB:aB:=bg 38 [(1,.bptr 0 0),(2,.eptr (ae v))] [.cells [.func (.func 81) [.bptr 1 0] []] [],.cells [.mapr 2] [],.map (aJ PVal.bool m2),.dead] []
def jX(o:Bool):aB:=bg 38 [(1,.bptr 0 0),(2,.eptr (ae v)),(12,.bool o)] [.cells [.func (.func 81) [.bptr 1 0] []] [],.cells [.mapr 2] [],.map (aJ PVal.bool m2),.dead] []
def ll:Option Bool:=
 (fD v).bind fun r1=>
 if r1=true then
  some true
 else
  some (v.Op==7)
theorem wh{x:Bool}(h:ll v=some x):bh Pg GE 3 (cA XI 12) (EX .normal (jX v m2 x)) (wB v m2):=by
 obtain⟨r1,br1,h⟩:=cP h
 have p3:=fun{sc F} (r:PS sc F)=>sv (b9 v)<|dj (jI br1)<|r
 rcases aQ h with⟨c2,h⟩|⟨c2,h⟩
 ·obtain rfl:=lf h
  exact bF Va (p3<|sg 3 c2<|eF .normal (jX v m2 true))<|by kernel_rfl
 ·obtain rfl:=lf h
  exact bF Va (p3<|sg 3 c2<|sv (dZ v)<|sv (d7 v)<|eF .normal (jX v m2 (v.Op==7)))<|by kernel_rfl
end
section
variable(v:ag)(m2:(List (af×Bool)))
def wA:aB:=bg 38 [(1,.bptr 0 0),(2,.eptr (ae v))] [.cells [.func (.func 81) [.bptr 1 0] []] [],.cells [.mapr 2] [],.map (aJ PVal.bool m2),.dead] []
def jW(o:(List (af×Bool))):aB:=bg 38 [(1,.bptr 0 0),(2,.eptr (ae v))] [.cells [.func (.func 81) [.bptr 1 0] []] [],.cells [.mapr 2] [],.map (aJ PVal.bool o),.dead] []
def iJ:Option (((List (af×Bool)))):=
 (ll v).bind fun o4=>
 if o4=true then
  (fY ([v.Name]:List af) m2).bind fun r7=>
  some r7
 else
  some m2
theorem wg{x:((List (af×Bool)))}(h:iJ v m2=some x):bh Pg GE 3 (cA XI 6) (EX .normal (jW v x)) (wA v m2):=by
 obtain⟨o4,bo4,h⟩:=cP h
 have p6:=fun{sc F} (r:PS sc F)=>rh 0<|du (wh v m2 bo4)<|r
 rcases aQ h with⟨c5,h⟩|⟨c5,h⟩
 ·obtain⟨r7,br7,h⟩:=cP h
  obtain rfl:=lf h
  exact bF Va (p6<|sg 0 c5<|ss<|sv (eJ v)<|sv (ft v)<|sv (dp.mk' (v:=PVal.str) NF ([v.Name]:List af) 1 (by kernel_rfl))<|si (.cg ⟨[1,2],[.bptr 0 0,sl cS ([v.Name]:List af)],[],[.cells [.mapr 2] [],.map (aJ PVal.bool m2)],[.cells [.mapr 1] [],.map (aJ PVal.bool m2)],[.cells [.mapr 2] [],.map (aJ PVal.bool r7)],[.cells [.mapr 1] [],.map (aJ PVal.bool r7)],.tuple [],.tuple [],[]⟩) (iN br7)<|sf (aI (xB [1,2] 0 1 0 rfl) (aI (xR [1,2] (sl cS ([v.Name]:List af)) (ak bD ([v.Name]:List af))) trivial))<|sf (aI (aI (rB (.cells [.mapr 2] [])) (aI (rW []) (aI (xM [1,2] 1 2 rfl) trivial))) (aI (aI (rB (.map (aJ PVal.bool m2))) (aI (rM (aJ PVal.bool m2)) (pU (n:=0) PVal.bool (fun x=>trivial) m2))) trivial))<|sf (aI (aI (rW []) (aI (xM [1,2] 1 2 rfl) trivial)) (aI (aI (rM (aJ PVal.bool r7)) (pU (n:=0) PVal.bool (fun x=>trivial) r7)) trivial))<|sf (xR [1,2] (.tuple []) trivial)<|eF .normal (jW v r7))<|by kernel_rfl
 ·obtain rfl:=lf h
  exact bF Va (p6<|sg 0 c5<|eF .normal (jW v m2))<|by kernel_rfl
end
section
variable(v:ag)(m2:(List (af×Bool)))
def wC:aB:=bg 38 [(1,.bptr 0 0),(2,.eptr (ae v))] [.cells [.func (.func 81) [.bptr 1 0] []] [],.cells [.mapr 2] [],.map (aJ PVal.bool m2),.dead] []
def jY(o:(List (af×Bool))):aB:=bg 38 [(1,.bptr 0 0),(2,.eptr (ae v))] [.cells [.func (.func 81) [.bptr 1 0] []] [],.cells [.mapr 2] [],.map (aJ PVal.bool o),.dead] []
def iK:Option (((List (af×Bool)))):=
 if(v.Op==6)=true then
  (lM v.Params).bind fun r11=>
  (fY r11 m2).bind fun r12=>
  some r12
 else
  some m2
theorem wj{x:((List (af×Bool)))}(h:iK v m2=some x):bh Pg GE 3 (cA XI 14) (EX .normal (jY v x)) (wC v m2):=by
 have p10:=fun{sc F} (r:PS sc F)=>sv (dZ v)<|sv (d7 v)<|r
 rcases aQ h with⟨c9,h⟩|⟨c9,h⟩
 ·obtain⟨r11,br11,r12,br12,h⟩:=Zb2 h
  obtain rfl:=lf h
  exact bF Va (p10<|sg 0 c9<|sk<|Xx (.dx [0,0,2,6] [] [] [])<|ss<|sv (bP v)<|sv (bQ v)<|dj (pr br11)<|si (.cg ⟨[1,2],[.bptr 0 0,sl cS r11],[],[.cells [.mapr 2] [],.map (aJ PVal.bool m2)],[.cells [.mapr 1] [],.map (aJ PVal.bool m2)],[.cells [.mapr 2] [],.map (aJ PVal.bool r12)],[.cells [.mapr 1] [],.map (aJ PVal.bool r12)],.tuple [],.tuple [],[]⟩) (iN br12)<|sf (aI (xB [1,2] 0 1 0 rfl) (aI (xR [1,2] (sl cS r11) (ak bD r11)) trivial))<|sf (aI (aI (rB (.cells [.mapr 2] [])) (aI (rW []) (aI (xM [1,2] 1 2 rfl) trivial))) (aI (aI (rB (.map (aJ PVal.bool m2))) (aI (rM (aJ PVal.bool m2)) (pU (n:=0) PVal.bool (fun x=>trivial) m2))) trivial))<|sf (aI (aI (rW []) (aI (xM [1,2] 1 2 rfl) trivial)) (aI (aI (rM (aJ PVal.bool r12)) (pU (n:=0) PVal.bool (fun x=>trivial) r12)) trivial))<|sf (xR [1,2] (.tuple []) trivial)<|eF .normal (jY v r12))<|by kernel_rfl
 ·obtain rfl:=lf h
  exact bF Va (p10<|sg 0 c9<|eF .normal (jY v m2))<|by kernel_rfl
end
section
variable(t27:waD)(t28:Int)(t29:Int)(m2:(List (af×Bool)))
def gp:aB:=bg 38 [(1,.bptr 0 0),(27,sl aA t27),(28,.int .i64 t28),(29,.int .i64 t29)] [.cells [.func (.func 81) [.bptr 1 0] []] [],.cells [.mapr 2] [],.map (aJ PVal.bool m2),.dead] []
def jZ(o:(List (af×Bool))):aB:=bg 38 [] [.cells [.func (.func 81) [.bptr 1 0] []] [],.cells [.mapr 2] [],.map (aJ PVal.bool o),.dead] []
def dh:Option ((Int×(List (af×Bool)))⊕(((List (af×Bool))))):=
 if(decide (t29<t28))=true then
  (gn t27 t29).bind fun x15=>
  (fY x15.Names m2).bind fun r16=>
  some (.inl (bV (t29+1),r16))
 else
  some (.inr m2)
def iL:Option (((List (af×Bool)))):=loop (fun(zz:Int×(List (af×Bool)))=>dh t27 t28 zz.1 zz.2) (t29,m2)
theorem uV{y:(Int×(List (af×Bool)))⊕(((List (af×Bool))))}(h:dh t27 t28 t29 m2=some y):bh Pg GE 3 (cA XI 247) (LQ (fun(zz:Int×(List (af×Bool)))=>gp t27 t28 zz.1 zz.2) (fun _=>.exit 0) jZ y) (gp t27 t28 t29 m2):=by
 rcases aQ h with⟨c14,h⟩|⟨c14,h⟩
 ·obtain⟨x15,bx15,r16,br16,h⟩:=Zb2 h
  obtain rfl:=lf h
  have z:=sg 0 c14<|sv (fO.ia (k:=.i64) bx15)<|sv (mH x15)<|sx G4<|sx (jz x15)<|ss<|ss<|si (.cg ⟨[1,2],[.bptr 0 0,sl cS x15.Names],[],[.cells [.mapr 2] [],.map (aJ PVal.bool m2)],[.cells [.mapr 1] [],.map (aJ PVal.bool m2)],[.cells [.mapr 2] [],.map (aJ PVal.bool r16)],[.cells [.mapr 1] [],.map (aJ PVal.bool r16)],.tuple [],.tuple [],[]⟩) (iN br16)<|sf (aI (xB [1,2] 0 1 0 rfl) (aI (xR [1,2] (sl cS x15.Names) (ak bD x15.Names)) trivial))<|sf (aI (aI (rB (.cells [.mapr 2] [])) (aI (rW []) (aI (xM [1,2] 1 2 rfl) trivial))) (aI (aI (rB (.map (aJ PVal.bool m2))) (aI (rM (aJ PVal.bool m2)) (pU (n:=0) PVal.bool (fun x=>trivial) m2))) trivial))<|sf (aI (aI (rW []) (aI (xM [1,2] 1 2 rfl) trivial)) (aI (aI (rM (aJ PVal.bool r16)) (pU (n:=0) PVal.bool (fun x=>trivial) r16)) trivial))<|sf (xR [1,2] (.tuple []) trivial)<|ue 3 .normal (gp t27 t28 (bV (t29+1)) r16) rfl (dU (aI (aW rfl) (aI (up (ak bK t27)) (aI trivial (aI trivial trivial))))) (aI (aI (aI (aI (aW rfl) trivial) trivial) trivial) (aI (aI (aW rfl) trivial) (aI (pU PVal.bool (fun x=>trivial) r16) (aI trivial trivial))))
  exact ed (A:=Va) mixed z<|by kernel_rfl
 ·obtain rfl:=lf h
  have z:=sg 0 c14<|eF (.exit 0) (jZ m2)
  exact jy Va (Zn rfl) z<|by kernel_rfl
theorem wk{x:((List (af×Bool)))}(h:iL t27 t28 t29 m2=some x):bh Pg GE 3 (.loop (cA XI 247)) (EX (.exit 0) (jZ x)) (gp t27 t28 t29 m2):=
 ZL h fun _ _ hy=>uV _ _ _ _ hy
end
def fI(a:ag)(k2:(List (af×Bool))):Option (Bool×(List (af×Bool))):=
 (iJ a k2).bind fun o8=>
 (iK a o8).bind fun o13=>
 (iL a.Alts (a.Alts.length:Int) 0 o13).bind fun o17=>
 some (true,o17)
theorem yJ{a:ag}{k2:(List (af×Bool))}{r:Bool×(List (af×Bool))}(h:fI a k2=some r):C Pg GE 99 [.agg (ae a),.bptr 0 0] [] [.cells [.func (.func 81) [.bptr 1 0] []] [],.cells [.mapr 2] [],.map (aJ PVal.bool k2)] (.bool r.1) [] [.cells [.func (.func 81) [.bptr 1 0] []] [],.cells [.mapr 2] [],.map (aJ PVal.bool r.2)]:=by
 obtain⟨o8,bo8,o13,bo13,o17,bo17,h⟩:=Zb3 h
 obtain rfl:=lf h
 have z:=se (dy a)<|rh 0<|du (wg a k2 bo8)<|rh 0<|du (wj a o8 bo13)<|sv (aK a)<|sv (aL a)<|bW (fO.ln a.Alts)<|du (wk a.Alts (a.Alts.length:Int) 0 o13 bo17)<|en (aI (rP (.bool true))<|aI trivial<|aI (rL [.cells [.func (.func 81) [.bptr 1 0] []] [],.cells [.mapr 2] [],.map (aJ PVal.bool o17)])<|(aI (aI (aI (aI (aW (i:=1) (n:=3) rfl) trivial) trivial) trivial) (aI (aI (aW (i:=2) (n:=3) rfl) trivial) (aI (pU (n:=3) PVal.bool (fun x=>trivial) o17) trivial))))
 exact Z99.g (m:=3) rfl z<|by kernel_rfl
noncomputable def KW:Code:=f64.body.getD .skip
def Gj:List Nat:=[]
theorem Z64:ZF Gj 64 f64 KW:=⟨call64,func64,rfl⟩
section
variable(R43:ek)(e:ag)(t14:waF)(t15:Int)(t16:Int)(m2:(List (af×Bool)))
def eX:aB:=bg 38 [(1,.func (.func 99) [] [.bptr 0 0]),(2,.eptr (ae e)),(14,sl ae t14),(15,.int .i64 t15),(16,.int .i64 t16)] [.cells [.func (.func 81) [.bptr 1 0] []] [],.cells [.mapr 2] [],.map (aJ PVal.bool m2),.dead] []
def eY(o:((List (af×Bool)))⊕((List (af×Bool)))):Exit:=match o with
 |(.inl _)=>.ret
 |(.inr _)=>.exit 0
def ck(o:((List (af×Bool)))⊕((List (af×Bool)))):aB:=match o with
 |(.inl o)=>bg 38 [(4,.bool false)] [.cells [.func (.func 81) [.bptr 1 0] []] [],.cells [.mapr 2] [],.map (aJ PVal.bool o),.dead] []
 |(.inr o)=>bg 38 [(1,.func (.func 99) [] [.bptr 0 0]),(2,.eptr (ae e))] [.cells [.func (.func 81) [.bptr 1 0] []] [],.cells [.mapr 2] [],.map (aJ PVal.bool o),.dead] []
def cj:Option ((Int×(List (af×Bool)))⊕(((List (af×Bool)))⊕((List (af×Bool))))):=
 if(decide (t16<t15))=true then
  (gn t14 t16).bind fun x5=>
  (R43 x5 m2).bind fun r6=>
  if(!r6.1)=true then
   some (.inr (.inl r6.2))
  else
   some (.inl (bV (t16+1),r6.2))
 else
  some (.inr (.inr m2))
def mf:Option (((List (af×Bool)))⊕((List (af×Bool)))):=loop (fun(zz:Int×(List (af×Bool)))=>cj R43 t14 t15 zz.1 zz.2) (t16,m2)
theorem ra(hR43:ei R43){y:(Int×(List (af×Bool)))⊕(((List (af×Bool)))⊕((List (af×Bool))))}(h:cj R43 t14 t15 t16 m2=some y):bh Pg GE 3 (cA KW 119) (LQ (fun(zz:Int×(List (af×Bool)))=>eX e t14 t15 zz.1 zz.2) eY (ck e) y) (eX e t14 t15 t16 m2):=by
 rcases aQ h with⟨c4,h⟩|⟨c4,h⟩
 ·obtain⟨x5,bx5,r6,br6,h⟩:=Zb2 h
  have p8:=fun{sc F} (r:PS sc F)=>sg 0 c4<|sv (jt.ia (k:=.i64) bx5)<|sv (b9 x5)<|sx zB<|sx (lb x5)<|sv (ce x5 [])<|si (.cg ⟨[0,1,2],[.agg (ae x5),.func (.func 99) [] [.bptr 0 0]],[],[.cells [.func (.func 81) [.bptr 1 0] []] [],.cells [.mapr 2] [],.map (aJ PVal.bool m2)],[.cells [.func (.func 81) [.bptr 1 0] []] [],.cells [.mapr 2] [],.map (aJ PVal.bool m2)],[.cells [.func (.func 81) [.bptr 1 0] []] [],.cells [.mapr 2] [],.map (aJ PVal.bool r6.2)],[.cells [.func (.func 81) [.bptr 1 0] []] [],.cells [.mapr 2] [],.map (aJ PVal.bool r6.2)],.bool r6.1,.bool r6.1,[]⟩) (hR43 _ _ _ br6)<|sf (aI (xR [0,1,2] (.agg (ae x5)) (ay x5)) (aI (xF [0,1,2] (.func 99) [] [.bptr 0 0] [] [.bptr 0 0] trivial (aI (xB [0,1,2] 0 0 0 rfl) trivial)) trivial))<|sf (aI (aI (rB (.cells [.func (.func 81) [.bptr 1 0] []] [])) (aI (rW []) (aI (xF [0,1,2] (.func 81) [.bptr 1 0] [] [.bptr 1 0] [] (aI (xB [0,1,2] 1 1 0 rfl) trivial) trivial) trivial))) (aI (aI (rB (.cells [.mapr 2] [])) (aI (rW []) (aI (xM [0,1,2] 2 2 rfl) trivial))) (aI (aI (rB (.map (aJ PVal.bool m2))) (aI (rM (aJ PVal.bool m2)) (pU (n:=0) PVal.bool (fun x=>trivial) m2))) trivial)))<|sf (aI (aI (rW []) (aI (xF [0,1,2] (.func 81) [.bptr 1 0] [] [.bptr 1 0] [] (aI (xB [0,1,2] 1 1 0 rfl) trivial) trivial) trivial)) (aI (aI (rW []) (aI (xM [0,1,2] 2 2 rfl) trivial)) (aI (aI (rM (aJ PVal.bool r6.2)) (pU (n:=0) PVal.bool (fun x=>trivial) r6.2)) trivial)))<|sf (xR [0,1,2] (.bool r6.1) trivial)<|r
  rcases aQ h with⟨c7,h⟩|⟨c7,h⟩
  ·obtain rfl:=lf h
   have z:=p8<|sg 0 c7<|ue 3 (eY (.inl r6.2)) (ck e (.inl r6.2)) rfl (dU (aI trivial trivial)) (aI (aI (aI (aI (aW rfl) trivial) trivial) trivial) (aI (aI (aW rfl) trivial) (aI (pU PVal.bool (fun x=>trivial) r6.2) (aI trivial trivial))))
   exact rY (A:=Gj) mixed (Zn rfl) z<|by kernel_rfl
  ·obtain rfl:=lf h
   have z:=p8<|sg 0 c7<|ue 3 .normal (eX e t14 t15 (bV (t16+1)) r6.2) rfl (dU (aI (aI trivial (aI (aW rfl) trivial)) (aI (aZ (ay e)) (aI (up (ak ay t14)) (aI trivial (aI trivial trivial)))))) (aI (aI (aI (aI (aW rfl) trivial) trivial) trivial) (aI (aI (aW rfl) trivial) (aI (pU PVal.bool (fun x=>trivial) r6.2) (aI trivial trivial))))
   exact ed (A:=Gj) mixed z<|by kernel_rfl
 ·obtain rfl:=lf h
  have z:=sg 0 c4<|eF (eY (.inr m2)) (ck e (.inr m2))
  exact jy Gj (Zn rfl) z<|by kernel_rfl
theorem gm(hR43:ei R43){x:((List (af×Bool)))⊕((List (af×Bool)))}(h:mf R43 t14 t15 t16 m2=some x):bh Pg GE 3 (.loop (cA KW 119)) (EX (eY x) (ck e x)) (eX e t14 t15 t16 m2):=
 ZL h fun _ _ hy=>ra _ _ _ _ _ _ hR43 hy
end
section
variable(R43:ek)(t26:waD)(t27:Int)(t28:Int)(m2:(List (af×Bool)))
def eZ:aB:=bg 38 [(1,.func (.func 99) [] [.bptr 0 0]),(26,sl aA t26),(27,.int .i64 t27),(28,.int .i64 t28)] [.cells [.func (.func 81) [.bptr 1 0] []] [],.cells [.mapr 2] [],.map (aJ PVal.bool m2),.dead] []
def e8(o:((List (af×Bool)))⊕((List (af×Bool)))):Exit:=match o with
 |(.inl _)=>.ret
 |(.inr _)=>.exit 2
def cV(o:((List (af×Bool)))⊕((List (af×Bool)))):aB:=match o with
 |(.inl o)=>bg 38 [(4,.bool false)] [.cells [.func (.func 81) [.bptr 1 0] []] [],.cells [.mapr 2] [],.map (aJ PVal.bool o),.dead] []
 |(.inr o)=>bg 38 [] [.cells [.func (.func 81) [.bptr 1 0] []] [],.cells [.mapr 2] [],.map (aJ PVal.bool o),.dead] []
def cm:Option ((Int×(List (af×Bool)))⊕(((List (af×Bool)))⊕((List (af×Bool))))):=
 if(decide (t28<t27))=true then
  (gn t26 t28).bind fun x11=>
  (R43 x11.Body m2).bind fun r12=>
  if(!r12.1)=true then
   some (.inr (.inl r12.2))
  else
   some (.inl (bV (t28+1),r12.2))
 else
  some (.inr (.inr m2))
def mg:Option (((List (af×Bool)))⊕((List (af×Bool)))):=loop (fun(zz:Int×(List (af×Bool)))=>cm R43 t26 t27 zz.1 zz.2) (t28,m2)
theorem rb(hR43:ei R43){y:(Int×(List (af×Bool)))⊕(((List (af×Bool)))⊕((List (af×Bool))))}(h:cm R43 t26 t27 t28 m2=some y):bh Pg GE 3 (cA KW 247) (LQ (fun(zz:Int×(List (af×Bool)))=>eZ t26 t27 zz.1 zz.2) e8 cV y) (eZ t26 t27 t28 m2):=by
 rcases aQ h with⟨c10,h⟩|⟨c10,h⟩
 ·obtain⟨x11,bx11,r12,br12,h⟩:=Zb2 h
  have p14:=fun{sc F} (r:PS sc F)=>sg 0 c10<|sv (fO.ia (k:=.i64) bx11)<|sv (mH x11)<|sx G4<|sx (jz x11)<|sv (ce x11.Body [])<|si (.cg ⟨[0,1,2],[.agg (ae x11.Body),.func (.func 99) [] [.bptr 0 0]],[],[.cells [.func (.func 81) [.bptr 1 0] []] [],.cells [.mapr 2] [],.map (aJ PVal.bool m2)],[.cells [.func (.func 81) [.bptr 1 0] []] [],.cells [.mapr 2] [],.map (aJ PVal.bool m2)],[.cells [.func (.func 81) [.bptr 1 0] []] [],.cells [.mapr 2] [],.map (aJ PVal.bool r12.2)],[.cells [.func (.func 81) [.bptr 1 0] []] [],.cells [.mapr 2] [],.map (aJ PVal.bool r12.2)],.bool r12.1,.bool r12.1,[]⟩) (hR43 _ _ _ br12)<|sf (aI (xR [0,1,2] (.agg (ae x11.Body)) (ay x11.Body)) (aI (xF [0,1,2] (.func 99) [] [.bptr 0 0] [] [.bptr 0 0] trivial (aI (xB [0,1,2] 0 0 0 rfl) trivial)) trivial))<|sf (aI (aI (rB (.cells [.func (.func 81) [.bptr 1 0] []] [])) (aI (rW []) (aI (xF [0,1,2] (.func 81) [.bptr 1 0] [] [.bptr 1 0] [] (aI (xB [0,1,2] 1 1 0 rfl) trivial) trivial) trivial))) (aI (aI (rB (.cells [.mapr 2] [])) (aI (rW []) (aI (xM [0,1,2] 2 2 rfl) trivial))) (aI (aI (rB (.map (aJ PVal.bool m2))) (aI (rM (aJ PVal.bool m2)) (pU (n:=0) PVal.bool (fun x=>trivial) m2))) trivial)))<|sf (aI (aI (rW []) (aI (xF [0,1,2] (.func 81) [.bptr 1 0] [] [.bptr 1 0] [] (aI (xB [0,1,2] 1 1 0 rfl) trivial) trivial) trivial)) (aI (aI (rW []) (aI (xM [0,1,2] 2 2 rfl) trivial)) (aI (aI (rM (aJ PVal.bool r12.2)) (pU (n:=0) PVal.bool (fun x=>trivial) r12.2)) trivial)))<|sf (xR [0,1,2] (.bool r12.1) trivial)<|r
  rcases aQ h with⟨c13,h⟩|⟨c13,h⟩
  ·obtain rfl:=lf h
   have z:=p14<|sg 0 c13<|ue 3 (e8 (.inl r12.2)) (cV (.inl r12.2)) rfl (dU (aI trivial trivial)) (aI (aI (aI (aI (aW rfl) trivial) trivial) trivial) (aI (aI (aW rfl) trivial) (aI (pU PVal.bool (fun x=>trivial) r12.2) (aI trivial trivial))))
   exact rY (A:=Gj) mixed (Zn rfl) z<|by kernel_rfl
  ·obtain rfl:=lf h
   have z:=p14<|sg 0 c13<|ue 3 .normal (eZ t26 t27 (bV (t28+1)) r12.2) rfl (dU (aI (aI trivial (aI (aW rfl) trivial)) (aI (up (ak bK t26)) (aI trivial (aI trivial trivial))))) (aI (aI (aI (aI (aW rfl) trivial) trivial) trivial) (aI (aI (aW rfl) trivial) (aI (pU PVal.bool (fun x=>trivial) r12.2) (aI trivial trivial))))
   exact ed (A:=Gj) mixed z<|by kernel_rfl
 ·obtain rfl:=lf h
  have z:=sg 0 c10<|eF (e8 (.inr m2)) (cV (.inr m2))
  exact jy Gj (Zn rfl) z<|by kernel_rfl
theorem kH(hR43:ei R43){x:((List (af×Bool)))⊕((List (af×Bool)))}(h:mg R43 t26 t27 t28 m2=some x):bh Pg GE 3 (.loop (cA KW 247)) (EX (e8 x) (cV x)) (eZ t26 t27 t28 m2):=
 ZL h fun _ _ hy=>rb _ _ _ _ _ hR43 hy
end
def fN(R43:ek)(e:ag)(k2:(List (af×Bool))):Option (Bool×(List (af×Bool))):=
 (fI e k2).bind fun r1=>
 if(!r1.1)=true then
  some (false,r1.2)
 else
  (mf R43 e.Kids (e.Kids.length:Int) 0 r1.2).bind fun o9=>match o9 with
  |(.inl o9)=>
   some (false,o9)
  | (.inr o9) =>
   (mg R43 e.Alts (e.Alts.length:Int) 0 o9).bind fun o15=>match o15 with
   |(.inl o15)=>
    some (false,o15)
   |(.inr o15)=>
    some (true,o15)
theorem tE(R43:ek)(hR43:ei R43){e:ag}{k2:(List (af×Bool))}{r:Bool×(List (af×Bool))}(h:fN R43 e k2=some r):C Pg GE 64 [.agg (ae e),.func (.func 99) [] [.bptr 0 0]] [] [.cells [.func (.func 81) [.bptr 1 0] []] [],.cells [.mapr 2] [],.map (aJ PVal.bool k2)] (.bool r.1) [] [.cells [.func (.func 81) [.bptr 1 0] []] [],.cells [.mapr 2] [],.map (aJ PVal.bool r.2)]:=by
 obtain⟨r1,br1,h⟩:=cP h
 have p3:=fun{sc F} (r:PS sc F)=>se (dy e)<|sv (b9 e)<|si (.cg ⟨[0,1,2],[.agg (ae e),.bptr 0 0],[],[.cells [.func (.func 81) [.bptr 1 0] []] [],.cells [.mapr 2] [],.map (aJ PVal.bool k2)],[.cells [.func (.func 81) [.bptr 1 0] []] [],.cells [.mapr 2] [],.map (aJ PVal.bool k2)],[.cells [.func (.func 81) [.bptr 1 0] []] [],.cells [.mapr 2] [],.map (aJ PVal.bool r1.2)],[.cells [.func (.func 81) [.bptr 1 0] []] [],.cells [.mapr 2] [],.map (aJ PVal.bool r1.2)],.bool r1.1,.bool r1.1,[]⟩) (yJ br1)<|sf (aI (xR [0,1,2] (.agg (ae e)) (ay e)) (aI (xB [0,1,2] 0 0 0 rfl) trivial))<|sf (aI (aI (rB (.cells [.func (.func 81) [.bptr 1 0] []] [])) (aI (rW []) (aI (xF [0,1,2] (.func 81) [.bptr 1 0] [] [.bptr 1 0] [] (aI (xB [0,1,2] 1 1 0 rfl) trivial) trivial) trivial))) (aI (aI (rB (.cells [.mapr 2] [])) (aI (rW []) (aI (xM [0,1,2] 2 2 rfl) trivial))) (aI (aI (rB (.map (aJ PVal.bool k2))) (aI (rM (aJ PVal.bool k2)) (pU (n:=0) PVal.bool (fun x=>trivial) k2))) trivial)))<|sf (aI (aI (rW []) (aI (xF [0,1,2] (.func 81) [.bptr 1 0] [] [.bptr 1 0] [] (aI (xB [0,1,2] 1 1 0 rfl) trivial) trivial) trivial)) (aI (aI (rW []) (aI (xM [0,1,2] 2 2 rfl) trivial)) (aI (aI (rM (aJ PVal.bool r1.2)) (pU (n:=0) PVal.bool (fun x=>trivial) r1.2)) trivial)))<|sf (xR [0,1,2] (.bool r1.1) trivial)<|r
 rcases aQ h with⟨c2,h⟩|⟨c2,h⟩
 ·obtain rfl:=lf h
  have z:=p3<|sg 0 c2<|en (aI (rP (.bool false))<|aI trivial<|aI (rL [.cells [.func (.func 81) [.bptr 1 0] []] [],.cells [.mapr 2] [],.map (aJ PVal.bool r1.2)])<|(aI (aI (aI (aI (aW (i:=1) (n:=3) rfl) trivial) trivial) trivial) (aI (aI (aW (i:=2) (n:=3) rfl) trivial) (aI (pU (n:=3) PVal.bool (fun x=>trivial) r1.2) trivial))))
  exact Z64.g (m:=3) rfl z<|by kernel_rfl
 ·obtain⟨o9,bo9,h⟩:=cP h
  rcases o9 with o9|o9
  ·obtain rfl:=lf h
   have z:=p3<|sg 0 c2<|sv (bw e)<|sv (bz e)<|bW (jt.ln e.Kids)<|du (e:=.ret) (s1:=ck e (.inl o9)) (gm R43 e e.Kids (e.Kids.length:Int) 0 r1.2 hR43 bo9)<|en (aI (rP (.bool false))<|aI trivial<|aI (rL [.cells [.func (.func 81) [.bptr 1 0] []] [],.cells [.mapr 2] [],.map (aJ PVal.bool o9)])<|(aI (aI (aI (aI (aW (i:=1) (n:=3) rfl) trivial) trivial) trivial) (aI (aI (aW (i:=2) (n:=3) rfl) trivial) (aI (pU (n:=3) PVal.bool (fun x=>trivial) o9) trivial))))
   exact Z64.g (m:=3) rfl z<|by kernel_rfl
  ·obtain⟨o15,bo15,h⟩:=cP h
   rcases o15 with o15|o15
   ·obtain rfl:=lf h
    have z:=p3<|sg 0 c2<|sv (bw e)<|sv (bz e)<|bW (jt.ln e.Kids)<|du (e:=.exit 0) (s1:=ck e (.inr o9)) (gm R43 e e.Kids (e.Kids.length:Int) 0 r1.2 hR43 bo9)<|sv (aK e)<|sv (aL e)<|bW (fO.ln e.Alts)<|du (e:=.ret) (s1:=cV (.inl o15)) (kH R43 e.Alts (e.Alts.length:Int) 0 o9 hR43 bo15)<|en (aI (rP (.bool false))<|aI trivial<|aI (rL [.cells [.func (.func 81) [.bptr 1 0] []] [],.cells [.mapr 2] [],.map (aJ PVal.bool o15)])<|(aI (aI (aI (aI (aW (i:=1) (n:=3) rfl) trivial) trivial) trivial) (aI (aI (aW (i:=2) (n:=3) rfl) trivial) (aI (pU (n:=3) PVal.bool (fun x=>trivial) o15) trivial))))
    exact Z64.g (m:=3) rfl z<|by kernel_rfl
   ·obtain rfl:=lf h
    have z:=p3<|sg 0 c2<|sv (bw e)<|sv (bz e)<|bW (jt.ln e.Kids)<|du (e:=.exit 0) (s1:=ck e (.inr o9)) (gm R43 e e.Kids (e.Kids.length:Int) 0 r1.2 hR43 bo9)<|sv (aK e)<|sv (aL e)<|bW (fO.ln e.Alts)<|du (e:=.exit 2) (s1:=cV (.inr o15)) (kH R43 e.Alts (e.Alts.length:Int) 0 o9 hR43 bo15)<|en (aI (rP (.bool true))<|aI trivial<|aI (rL [.cells [.func (.func 81) [.bptr 1 0] []] [],.cells [.mapr 2] [],.map (aJ PVal.bool o15)])<|(aI (aI (aI (aI (aW (i:=1) (n:=3) rfl) trivial) trivial) trivial) (aI (aI (aW (i:=2) (n:=3) rfl) trivial) (aI (pU (n:=3) PVal.bool (fun x=>trivial) o15) trivial))))
    exact Z64.g (m:=3) rfl z<|by kernel_rfl
def jf:((ag×(List (af×Bool)))->Option (Bool×(List (af×Bool))))->(ag×(List (af×Bool)))->Option (Bool×(List (af×Bool))):=fun(rec:(ag×(List (af×Bool)))->Option (Bool×(List (af×Bool)))) (x:ag×(List (af×Bool)))=>fN (fun e k2=>rec (e,k2)) x.1 x.2
def j4(e:ag)(k2:(List (af×Bool))):Option (Bool×(List (af×Bool))):=tn jf (e,k2)
theorem tW{e:ag}{k2:(List (af×Bool))}{r:Bool×(List (af×Bool))}(h:j4 e k2=some r):C Pg GE 64 [.agg (ae e),.func (.func 99) [] [.bptr 0 0]] [] [.cells [.func (.func 81) [.bptr 1 0] []] [],.cells [.mapr 2] [],.map (aJ PVal.bool k2)] (.bool r.1) [] [.cells [.func (.func 81) [.bptr 1 0] []] [],.cells [.mapr 2] [],.map (aJ PVal.bool r.2)]:=
 fj (F:=jf) (M:=fun(x:ag×(List (af×Bool))) (r:Bool×(List (af×Bool)))=>C Pg GE 64 [.agg (ae x.1),.func (.func 99) [] [.bptr 0 0]] [] [.cells [.func (.func 81) [.bptr 1 0] []] [],.cells [.mapr 2] [],.map (aJ PVal.bool x.2)] (.bool r.1) [] [.cells [.func (.func 81) [.bptr 1 0] []] [],.cells [.mapr 2] [],.map (aJ PVal.bool r.2)]) (fun rec hrec x r h=>tE _ (fun e k2 r h=>hrec (e,k2) r h) h) h
noncomputable def qbw:Code:=f53.body.getD .skip
def qba:List Nat:=[]
theorem Z53:ZF qba 53 f53 qbw:=⟨call53,func53,rfl⟩
def zL(e:ag):Option waA:=
 (ms ([]:List af)).bind fun r1=>
 (j4 e r1).bind fun r2=>
 (sq r2.2).bind fun r3=>
 some r3
theorem Lo{e:ag}{r:waA}(h:zL e=some r):CC Pg GE 53 [.agg (ae e)] (sl cS r) [(0,9)]:=by
 obtain⟨r1,br1,r2,br2,r3,br3,h⟩:=Zb3 h
 obtain rfl:=lf h
 have z:=se (dy e)<|si (.cn ⟨[1,2],[],[],[],[],[.map (aJ PVal.bool r1),.cells [.mapr 1] []],[.map (aJ PVal.bool r1),.cells [.mapr 0] []],.bptr 2 0,.bptr 1 0,[]⟩) (sA br1)<|sf (aI (ak bD ([]:List af)) trivial)<|sf (aI (aI (rM (aJ PVal.bool r1)) (pU (n:=0) PVal.bool (fun x=>trivial) r1)) (aI (aI (rW []) (aI (xM [1,2] 0 1 rfl) trivial)) trivial))<|sf (xB [1,2] 1 2 0 rfl)<|sx YH<|ss<|sv (b9 e)<|si (.cg ⟨[3,2,1],[.agg (ae e),.func (.func 99) [] [.bptr 0 0]],[],[.cells [.func (.func 81) [.bptr 2 0] []] [],.cells [.mapr 1] [],.map (aJ PVal.bool r1)],[.cells [.func (.func 81) [.bptr 1 0] []] [],.cells [.mapr 2] [],.map (aJ PVal.bool r1)],[.cells [.func (.func 81) [.bptr 2 0] []] [],.cells [.mapr 1] [],.map (aJ PVal.bool r2.2)],[.cells [.func (.func 81) [.bptr 1 0] []] [],.cells [.mapr 2] [],.map (aJ PVal.bool r2.2)],.bool r2.1,.bool r2.1,[]⟩) (tW br2)<|sf (aI (xR [3,2,1] (.agg (ae e)) (ay e)) (aI (xF [3,2,1] (.func 99) [] [.bptr 3 0] [] [.bptr 0 0] trivial (aI (xB [3,2,1] 0 3 0 rfl) trivial)) trivial))<|sf (aI (aI (rB (.cells [.func (.func 81) [.bptr 2 0] []] [])) (aI (rW []) (aI (xF [3,2,1] (.func 81) [.bptr 2 0] [] [.bptr 1 0] [] (aI (xB [3,2,1] 1 2 0 rfl) trivial) trivial) trivial))) (aI (aI (rB (.cells [.mapr 1] [])) (aI (rW []) (aI (xM [3,2,1] 2 1 rfl) trivial))) (aI (aI (rB (.map (aJ PVal.bool r1))) (aI (rM (aJ PVal.bool r1)) (pU (n:=0) PVal.bool (fun x=>trivial) r1))) trivial)))<|sf (aI (aI (rW []) (aI (xF [3,2,1] (.func 81) [.bptr 2 0] [] [.bptr 1 0] [] (aI (xB [3,2,1] 1 2 0 rfl) trivial) trivial) trivial)) (aI (aI (rW []) (aI (xM [3,2,1] 2 1 rfl) trivial)) (aI (aI (rM (aJ PVal.bool r2.2)) (pU (n:=0) PVal.bool (fun x=>trivial) r2.2)) trivial)))<|sf (xR [3,2,1] (.bool r2.1) trivial)<|si (.cg ⟨[2,1],[.bptr 0 0],[],[.cells [.mapr 1] [],.map (aJ PVal.bool r2.2)],[.cells [.mapr 1] [],.map (aJ PVal.bool r2.2)],[.cells [.mapr 1] [],.map (aJ PVal.bool r2.2)],[.cells [.mapr 1] [],.map (aJ PVal.bool r2.2)],sl cS r3,sl cS r3,[(0,9)]⟩) (xY br3)<|sf (aI (xB [2,1] 0 2 0 rfl) trivial)<|sf (aI (aI (rB (.cells [.mapr 1] [])) (aI (rW []) (aI (xM [2,1] 1 1 rfl) trivial))) (aI (aI (rB (.map (aJ PVal.bool r2.2))) (aI (rM (aJ PVal.bool r2.2)) (pU (n:=0) PVal.bool (fun x=>trivial) r2.2))) trivial))<|sf (aI (aI (rW []) (aI (xM [2,1] 1 1 rfl) trivial)) (aI (aI (rM (aJ PVal.bool r2.2)) (pU (n:=0) PVal.bool (fun x=>trivial) r2.2)) trivial))<|sf (xR [2,1] (sl cS r3) (ak bD r3))<|en (aI (rP (sl cS r3))<|(ak bD r3))
 exact Z53.v (aI (ay e) trivial) z<|by kernel_rfl
abbrev aU:=(af->af->af->af->af->ag->(List ac)->Option ag)
abbrev bA(R:aU):Prop:=∀(c:af) (c2:af) (c3:af) (c4:af) (c5:af) (e:ag) (scope:(List ac)) (r:ag),R c c2 c3 c4 c5 e scope=some r->CC Pg GE 56 [.agg [.func (.func 55) [] [.eptr (cS c),.eptr (cS c2),.eptr (cS c3)],.func (.func 54) [] [.eptr (cS c4),.eptr (cS c5)]],.agg (ae e),sl aa scope] (.agg (ae r)) [(3,28),(4,85),(5,89),(6,60)]
noncomputable def qbx:Code:=f54.body.getD .skip
def qbb:List Nat:=[9]
theorem Z54:ZF qbb 54 f54 qbx:=⟨call54,func54,rfl⟩
def qI(s:af)(a:af)(a2:af):Option af:=
 if(s==a)=true then
  some a2
 else
  some s
theorem FV{s:af}{a:af}{a2:af}{r:af}(h:qI s a a2=some r):CC Pg GE 54 [.str s,.eptr (cS a),.eptr (cS a2)] (.str r) []:=by
 rcases aQ h with⟨c1,h⟩|⟨c1,h⟩
 ·obtain rfl:=lf h
  have z:=sv (cY ED (.str a) [])<|sg 0 c1<|sv (cY ED (.str a2) [])<|en (aI (rP (.str a2))<|trivial)
  exact Z54.v (aI trivial (aI (bD a) (aI (bD a2) trivial))) z<|by kernel_rfl
 ·obtain rfl:=lf h
  have z:=sv (cY ED (.str a) [])<|sg 0 c1<|en (aI (rP (.str s))<|trivial)
  exact Z54.v (aI trivial (aI (bD a) (aI (bD a2) trivial))) z<|by kernel_rfl
noncomputable def qaJ:Code:=f55.body.getD .skip
def Zy:List Nat:=[17]
theorem Z55:ZF Zy 55 f55 qaJ:=⟨call55,func55,rfl⟩
section
variable(s:af)(t2:af)(t3:af)(t4:af)
def CT:aB:=bg 18 [(0,.str s),(2,.eptr (cS t2)),(3,.eptr (cS t3)),(4,.eptr (cS t4))] [] []
def oq(o:Bool):aB:=bg 18 [(0,.str s),(4,.eptr (cS t4)),(15,.bool o)] [] []
def qJ:Option Bool:=
 if(s==t2)=true then
  some (!(t3==t2))
 else
  some false
theorem BN{x:Bool}(h:qJ s t2 t3=some x):bh Pg GE 0 (cA qaJ 12) (EX .normal (oq s t4 x)) (CT s t2 t3 t4):=by
 rcases aQ h with⟨c1,h⟩|⟨c1,h⟩
 ·obtain rfl:=lf h
  exact bF Zy (sv (cY ED (.str t2) [])<|sg 4 c1<|sv (cY ED (.str t3) [])<|sv (cY ED (.str t2) [])<|eF .normal (oq s t4 (!(t3==t2))))<|by kernel_rfl
 ·obtain rfl:=lf h
  exact bF Zy (sv (cY ED (.str t2) [])<|sg 4 c1<|eF .normal (oq s t4 false))<|by kernel_rfl
end
def nq(s:af)(a:(List ac))(a2:af)(a3:af)(a4:af):Option af:=
 (qJ s a2 a3).bind fun o2=>
 if o2=true then
  some a4
 else
  some s
theorem xp{s:af}{a:(List ac)}{a2:af}{a3:af}{a4:af}{r:af}(h:nq s a a2 a3 a4=some r):CC Pg GE 55 [.str s,sl aa a,.eptr (cS a2),.eptr (cS a3),.eptr (cS a4)] (.str r) []:=by
 obtain⟨o2,bo2,h⟩:=cP h
 have p4:=fun{sc F} (r:PS sc F)=>rh 2<|du (BN s a2 a3 a4 bo2)<|r
 rcases aQ h with⟨c3,h⟩|⟨c3,h⟩
 ·obtain rfl:=lf h
  have z:=p4<|sg 0 c3<|sv (cY ED (.str a4) [])<|en (aI (rP (.str a4))<|trivial)
  exact Z55.v (aI trivial (aI (ak au a) (aI (bD a2) (aI (bD a3) (aI (bD a4) trivial))))) z<|by kernel_rfl
 ·obtain rfl:=lf h
  have z:=p4<|sg 0 c3<|en (aI (rP (.str s))<|trivial)
  exact Z55.v (aI trivial (aI (ak au a) (aI (bD a2) (aI (bD a3) (aI (bD a4) trivial))))) z<|by kernel_rfl
def cE(s:af)(a:(List ac))(c:af)(c2:af)(c3:af)(c4:af)(c5:af)(k1:(List ac)):Option (af×(List ac)):=
 (nq s a c c2 c3).bind fun r1=>
 (app k1 ([(⟨s,r1⟩:ac)]:List ac)).bind fun l2=>
 some (r1,l2)
theorem gC{s:af}{a:(List ac)}{c:af}{c2:af}{c3:af}{c4:af}{c5:af}{k1:(List ac)}{r:af×(List ac)}(h:cE s a c c2 c3 c4 c5 k1=some r):C Pg GE 105 [.str s,.bptr 0 0,.eptr ((cL aa) a),.bptr 1 0] [] [.cells [.func (.func 55) [] [.eptr (cS c),.eptr (cS c2),.eptr (cS c3)],.func (.func 54) [] [.eptr (cS c4),.eptr (cS c5)]] [],.cells [sl aa k1] [(0,137)]] (.str r.1) [] [.cells [.func (.func 55) [] [.eptr (cS c),.eptr (cS c2),.eptr (cS c3)],.func (.func 54) [] [.eptr (cS c4),.eptr (cS c5)]] [],.cells [sl aa r.2] [(0,137)]]:=by
 obtain⟨r1,br1,l2,bl2,h⟩:=Zb2 h
 obtain rfl:=lf h
 have z:=ss<|sv (cY Iy (sl aa a) [])<|dj (xp br1)<|sv (lG s r1)<|sv (Ku.mk' (v:=oR) pk ([(⟨s,r1⟩:ac)]:List ac) 1 (by kernel_rfl))<|sv (Ku.ap bl2)<|en (aI (rP (.str r1))<|aI trivial<|aI (rL [.cells [.func (.func 55) [] [.eptr (cS c),.eptr (cS c2),.eptr (cS c3)],.func (.func 54) [] [.eptr (cS c4),.eptr (cS c5)]] [],.cells [sl aa l2] [(0,137)]])<|(aI (aI (aI trivial (aI (aZ (n:=2) (bD c)) (aI (aZ (n:=2) (bD c2)) (aI (aZ (n:=2) (bD c3)) trivial)))) (aI (aI trivial (aI (aZ (n:=2) (bD c4)) (aI (aZ (n:=2) (bD c5)) trivial))) trivial)) (aI (aI (up (n:=2) (ak au l2)) trivial) trivial)))
 exact C.evGp (A:=XP) mixed (m:=2) (c:=X4) rfl call105 func105 rfl z<|by kernel_rfl
section
variable(t1:Bool)(v:(List ac))(v2:af)(v3:af)(v4:af)(v5:af)(v6:af)(m:(List ac))(m2:af)(m3:Int)(m4:af)(m5:waB)(m6:waA)(m7:Int)(m8:af)(m9:Int)(m10:waC)(m11:waC)(m12:waB)(m13:waC)
def g9:aB:=bg 17 [(1,.eptr (cB t1)),(2,.bptr 0 0),(3,.bptr 3 0),(4,.bptr 4 0)] [.cells [.func (.func 105) [] [.bptr 1 0,.eptr ((cL aa) v),.bptr 2 0]] [],.cells [.func (.func 55) [] [.eptr (cS v2),.eptr (cS v3),.eptr (cS v4)],.func (.func 54) [] [.eptr (cS v5),.eptr (cS v6)]] [],.cells [sl aa m] [(0,137)],.cells [.str m2,.int .i64 m3,.str m4,sl ai m5,sl cS m6,.int .i64 m7,.str m8,.int .i64 m9,sl al m10,sl al m11] [],.cells [.str ([]:af),.int .i64 0,.str ([]:af),sl ai m12,sl cS ([]:List af),.int .i64 0,.str ([]:af),.int .i64 0,sl al m13,sl al m13] [(3,60),(4,9),(8,58),(9,58)]] []
def ct(o:(List ac)×af):aB:=bg 17 [(3,.bptr 3 0),(4,.bptr 4 0)] [.cells [.func (.func 105) [] [.bptr 1 0,.eptr ((cL aa) v),.bptr 2 0]] [],.cells [.func (.func 55) [] [.eptr (cS v2),.eptr (cS v3),.eptr (cS v4)],.func (.func 54) [] [.eptr (cS v5),.eptr (cS v6)]] [],.cells [sl aa o.1] [(0,137)],.cells [.str o.2,.int .i64 m3,.str m4,sl ai m5,sl cS m6,.int .i64 m7,.str m8,.int .i64 m9,sl al m10,sl al m11] [],.cells [.str ([]:af),.int .i64 0,.str ([]:af),sl ai m12,sl cS ([]:List af),.int .i64 0,.str ([]:af),.int .i64 0,sl al m13,sl al m13] [(3,60),(4,9),(8,58),(9,58)]] []
def cz:Option (((List ac)×af)):=
 if t1=true then
  (cE m2 v v2 v3 v4 v5 v6 m).bind fun r2=>
  some (r2.2,r2.1)
 else
  some (m,m2)
theorem gP{x:((List ac)×af)}(h:cz t1 v v2 v3 v4 v5 v6 m m2=some x):bh Pg GE 3 (cA Vj 6) (EX .normal (ct v v2 v3 v4 v5 v6 m3 m4 m5 m6 m7 m8 m9 m10 m11 m12 m13 x)) (g9 t1 v v2 v3 v4 v5 v6 m m2 m3 m4 m5 m6 m7 m8 m9 m10 m11 m12 m13):=by
 rcases aQ h with⟨c1,h⟩|⟨c1,h⟩
 ·obtain⟨r2,br2,h⟩:=cP h
  obtain rfl:=lf h
  exact bF Rn (sv (cY Zc (.bool t1) [])<|sg 0 c1<|ss<|ss<|si (.cg ⟨[1,2],[.str m2,.bptr 0 0,.eptr ((cL aa) v),.bptr 1 0],[],[.cells [.func (.func 55) [] [.eptr (cS v2),.eptr (cS v3),.eptr (cS v4)],.func (.func 54) [] [.eptr (cS v5),.eptr (cS v6)]] [],.cells [sl aa m] [(0,137)]],[.cells [.func (.func 55) [] [.eptr (cS v2),.eptr (cS v3),.eptr (cS v4)],.func (.func 54) [] [.eptr (cS v5),.eptr (cS v6)]] [],.cells [sl aa m] [(0,137)]],[.cells [.func (.func 55) [] [.eptr (cS v2),.eptr (cS v3),.eptr (cS v4)],.func (.func 54) [] [.eptr (cS v5),.eptr (cS v6)]] [],.cells [sl aa r2.2] [(0,137)]],[.cells [.func (.func 55) [] [.eptr (cS v2),.eptr (cS v3),.eptr (cS v4)],.func (.func 54) [] [.eptr (cS v5),.eptr (cS v6)]] [],.cells [sl aa r2.2] [(0,137)]],.str r2.1,.str r2.1,[]⟩) (gC br2)<|sf (aI (xR [1,2] (.str m2) trivial) (aI (xB [1,2] 0 1 0 rfl) (aI (xR [1,2] (.eptr ((cL aa) v)) (mT au v)) (aI (xB [1,2] 1 2 0 rfl) trivial))))<|sf (aI (aI (rB (.cells [.func (.func 55) [] [.eptr (cS v2),.eptr (cS v3),.eptr (cS v4)],.func (.func 54) [] [.eptr (cS v5),.eptr (cS v6)]] [])) (aI (rW []) (aI (xR [1,2] (.func (.func 55) [] [.eptr (cS v2),.eptr (cS v3),.eptr (cS v4)]) (aI trivial (aI (bD v2) (aI (bD v3) (aI (bD v4) trivial))))) (aI (xR [1,2] (.func (.func 54) [] [.eptr (cS v5),.eptr (cS v6)]) (aI trivial (aI (bD v5) (aI (bD v6) trivial)))) trivial)))) (aI (aI (rB (.cells [sl aa m] [(0,137)])) (aI (rW [(0,137)]) (aI (xR [1,2] (sl aa m) (ak au m)) trivial))) trivial))<|sf (aI (aI (rW []) (aI (xR [1,2] (.func (.func 55) [] [.eptr (cS v2),.eptr (cS v3),.eptr (cS v4)]) (aI trivial (aI (bD v2) (aI (bD v3) (aI (bD v4) trivial))))) (aI (xR [1,2] (.func (.func 54) [] [.eptr (cS v5),.eptr (cS v6)]) (aI trivial (aI (bD v5) (aI (bD v6) trivial)))) trivial))) (aI (aI (rW [(0,137)]) (aI (xR [1,2] (sl aa r2.2) (ak au r2.2)) trivial)) trivial))<|sf (xR [1,2] (.str r2.1) trivial)<|ss<|eF .normal (ct v v2 v3 v4 v5 v6 m3 m4 m5 m6 m7 m8 m9 m10 m11 m12 m13 (r2.2,r2.1)))<|by kernel_rfl
 ·obtain rfl:=lf h
  exact bF Rn (sv (cY Zc (.bool t1) [])<|sg 0 c1<|eF .normal (ct v v2 v3 v4 v5 v6 m3 m4 m5 m6 m7 m8 m9 m10 m11 m12 m13 (m,m2)))<|by kernel_rfl
end
def bN(p:ax)(a:Bool)(c:(List ac))(c2:af)(c3:af)(c4:af)(c5:af)(c6:af)(k2:(List ac)):Option (ax×(List ac)):=
 (cz a c c2 c3 c4 c5 c6 k2 p.Name).bind fun o3=>
 (eT cG p.Type_).bind fun r4=>
 some ((⟨o3.2,r4⟩:ax),o3.1)
theorem iy{p:ax}{a:Bool}{c:(List ac)}{c2:af}{c3:af}{c4:af}{c5:af}{c6:af}{k2:(List ac)}{r:ax×(List ac)}(h:bN p a c c2 c3 c4 c5 c6 k2=some r):C Pg GE 108 [.agg (aw p),.eptr (cB a),.bptr 0 0] [] [.cells [.func (.func 105) [] [.bptr 1 0,.eptr ((cL aa) c),.bptr 2 0]] [],.cells [.func (.func 55) [] [.eptr (cS c2),.eptr (cS c3),.eptr (cS c4)],.func (.func 54) [] [.eptr (cS c5),.eptr (cS c6)]] [],.cells [sl aa k2] [(0,137)]] (.agg (aw r.1)) [] [.cells [.func (.func 105) [] [.bptr 1 0,.eptr ((cL aa) c),.bptr 2 0]] [],.cells [.func (.func 55) [] [.eptr (cS c2),.eptr (cS c3),.eptr (cS c4)],.func (.func 54) [] [.eptr (cS c5),.eptr (cS c6)]] [],.cells [sl aa r.2] [(0,137)]]:=by
 obtain⟨o3,bo3,r4,br4,h⟩:=Zb2 h
 obtain rfl:=lf h
 have z:=sx (nl p)<|sx SC<|rh 0<|du (gP a c c2 c3 c4 c5 c6 k2 p.Name p.Type_.Op p.Type_.Name p.Type_.Args p.Type_.Names p.Type_.Pred.Op p.Type_.Pred.Name p.Type_.Pred.N p.Type_.Pred.Kids p.Type_.Preds ([]:List aj) ([]:List am) bo3)<|Kw [0,1,0,4,12,31,63]<|ss<|sv (kW p.Type_ [])<|dj (ou cG (fun _ _ h=>g8 h) br4)<|sv (Db o3.2 r4)<|sx (nl (⟨o3.2,r4⟩:ax))<|en (aI (Ks (⟨o3.2,r4⟩:ax))<|aI (YQ (n:=3) (aY (⟨o3.2,r4⟩:ax)))<|aI (rL [.cells [.func (.func 105) [] [.bptr 1 0,.eptr ((cL aa) c),.bptr 2 0]] [],.cells [.func (.func 55) [] [.eptr (cS c2),.eptr (cS c3),.eptr (cS c4)],.func (.func 54) [] [.eptr (cS c5),.eptr (cS c6)]] [],.cells [sl aa o3.1] [(0,137)]])<|(aI (aI (aI trivial (aI (aW (i:=1) (n:=3) rfl) (aI (aZ (n:=3) (mT au c)) (aI (aW (i:=2) (n:=3) rfl) trivial)))) trivial) (aI (aI (aI trivial (aI (aZ (n:=3) (bD c2)) (aI (aZ (n:=3) (bD c3)) (aI (aZ (n:=3) (bD c4)) trivial)))) (aI (aI trivial (aI (aZ (n:=3) (bD c5)) (aI (aZ (n:=3) (bD c6)) trivial))) trivial)) (aI (aI (up (n:=3) (ak au o3.1)) trivial) trivial))))
 exact C.evGp (A:=Rn) mixed (m:=3) (c:=Vj) rfl call108 func108 rfl z<|by kernel_rfl
section
variable(v:Bool)(t8:waE)(t9:Int)(v2:(List ac))(v3:af)(v4:af)(v5:af)(v6:af)(v7:af)(out:waE)(t10:Int)(m:(List ac))
def bo:aB:=bg 22 [(1,.func (.func 108) [] [.eptr (cB v),.bptr 0 0]),(5,sl aw out),(8,sl aw t8),(9,.int .i64 t9),(10,.int .i64 t10)] [.cells [.func (.func 105) [] [.bptr 1 0,.eptr ((cL aa) v2),.bptr 2 0]] [],.cells [.func (.func 55) [] [.eptr (cS v3),.eptr (cS v4),.eptr (cS v5)],.func (.func 54) [] [.eptr (cS v6),.eptr (cS v7)]] [],.cells [sl aa m] [(0,137)]] [((5,0),85)]
def bU(o:waE×(List ac)):aB:=bg 22 [(5,sl aw o.1)] [.cells [.func (.func 105) [] [.bptr 1 0,.eptr ((cL aa) v2),.bptr 2 0]] [],.cells [.func (.func 55) [] [.eptr (cS v3),.eptr (cS v4),.eptr (cS v5)],.func (.func 54) [] [.eptr (cS v6),.eptr (cS v7)]] [],.cells [sl aa o.2] [(0,137)]] [((5,0),85)]
def aH:Option ((waE×Int×(List ac))⊕((waE×(List ac)))):=
 if(decide (t10<t9))=true then
  (gn t8 t10).bind fun x2=>
  (bN x2 v v2 v3 v4 v5 v6 v7 m).bind fun r3=>
  (app out ([r3.1]:List ax)).bind fun l4=>
  some (.inl (l4,bV (t10+1),r3.2))
 else
  some (.inr (out,m))
def bY:Option ((waE×(List ac))):=loop (fun(zz:waE×Int×(List ac))=>aH v t8 t9 v2 v3 v4 v5 v6 v7 zz.1 zz.2.1 zz.2.2) (out,t10,m)
theorem fP{y:(waE×Int×(List ac))⊕((waE×(List ac)))}(h:aH v t8 t9 v2 v3 v4 v5 v6 v7 out t10 m=some y):bh Pg GE 3 (cA Rx 119) (LQ (fun(zz:waE×Int×(List ac))=>bo v t8 t9 v2 v3 v4 v5 v6 v7 zz.1 zz.2.1 zz.2.2) (fun _=>.exit 0) (bU v2 v3 v4 v5 v6 v7) y) (bo v t8 t9 v2 v3 v4 v5 v6 v7 out t10 m):=by
 rcases aQ h with⟨c1,h⟩|⟨c1,h⟩
 ·obtain⟨x2,bx2,r3,br3,l4,bl4,h⟩:=Zb3 h
  obtain rfl:=lf h
  have z:=sg 0 c1<|sv (mV.ia (k:=.i64) bx2)<|sv (Co x2)<|sx SC<|sx (nl x2)<|sv (JY x2 [])<|si (.cg ⟨[0,1,2],[.agg (aw x2),.eptr (cB v),.bptr 0 0],[],[.cells [.func (.func 105) [] [.bptr 1 0,.eptr ((cL aa) v2),.bptr 2 0]] [],.cells [.func (.func 55) [] [.eptr (cS v3),.eptr (cS v4),.eptr (cS v5)],.func (.func 54) [] [.eptr (cS v6),.eptr (cS v7)]] [],.cells [sl aa m] [(0,137)]],[.cells [.func (.func 105) [] [.bptr 1 0,.eptr ((cL aa) v2),.bptr 2 0]] [],.cells [.func (.func 55) [] [.eptr (cS v3),.eptr (cS v4),.eptr (cS v5)],.func (.func 54) [] [.eptr (cS v6),.eptr (cS v7)]] [],.cells [sl aa m] [(0,137)]],[.cells [.func (.func 105) [] [.bptr 1 0,.eptr ((cL aa) v2),.bptr 2 0]] [],.cells [.func (.func 55) [] [.eptr (cS v3),.eptr (cS v4),.eptr (cS v5)],.func (.func 54) [] [.eptr (cS v6),.eptr (cS v7)]] [],.cells [sl aa r3.2] [(0,137)]],[.cells [.func (.func 105) [] [.bptr 1 0,.eptr ((cL aa) v2),.bptr 2 0]] [],.cells [.func (.func 55) [] [.eptr (cS v3),.eptr (cS v4),.eptr (cS v5)],.func (.func 54) [] [.eptr (cS v6),.eptr (cS v7)]] [],.cells [sl aa r3.2] [(0,137)]],.agg (aw r3.1),.agg (aw r3.1),[]⟩) (iy br3)<|sf (aI (xR [0,1,2] (.agg (aw x2)) (aY x2)) (aI (xR [0,1,2] (.eptr (cB v)) (XJ v)) (aI (xB [0,1,2] 0 0 0 rfl) trivial)))<|sf (aI (aI (rB (.cells [.func (.func 105) [] [.bptr 1 0,.eptr ((cL aa) v2),.bptr 2 0]] [])) (aI (rW []) (aI (xF [0,1,2] (.func 105) [] [.bptr 1 0,.eptr ((cL aa) v2),.bptr 2 0] [] [.bptr 1 0,.eptr ((cL aa) v2),.bptr 2 0] trivial (aI (xB [0,1,2] 1 1 0 rfl) (aI (xR [0,1,2] (.eptr ((cL aa) v2)) (mT au v2)) (aI (xB [0,1,2] 2 2 0 rfl) trivial)))) trivial))) (aI (aI (rB (.cells [.func (.func 55) [] [.eptr (cS v3),.eptr (cS v4),.eptr (cS v5)],.func (.func 54) [] [.eptr (cS v6),.eptr (cS v7)]] [])) (aI (rW []) (aI (xR [0,1,2] (.func (.func 55) [] [.eptr (cS v3),.eptr (cS v4),.eptr (cS v5)]) (aI trivial (aI (bD v3) (aI (bD v4) (aI (bD v5) trivial))))) (aI (xR [0,1,2] (.func (.func 54) [] [.eptr (cS v6),.eptr (cS v7)]) (aI trivial (aI (bD v6) (aI (bD v7) trivial)))) trivial)))) (aI (aI (rB (.cells [sl aa m] [(0,137)])) (aI (rW [(0,137)]) (aI (xR [0,1,2] (sl aa m) (ak au m)) trivial))) trivial)))<|sf (aI (aI (rW []) (aI (xF [0,1,2] (.func 105) [] [.bptr 1 0,.eptr ((cL aa) v2),.bptr 2 0] [] [.bptr 1 0,.eptr ((cL aa) v2),.bptr 2 0] trivial (aI (xB [0,1,2] 1 1 0 rfl) (aI (xR [0,1,2] (.eptr ((cL aa) v2)) (mT au v2)) (aI (xB [0,1,2] 2 2 0 rfl) trivial)))) trivial)) (aI (aI (rW []) (aI (xR [0,1,2] (.func (.func 55) [] [.eptr (cS v3),.eptr (cS v4),.eptr (cS v5)]) (aI trivial (aI (bD v3) (aI (bD v4) (aI (bD v5) trivial))))) (aI (xR [0,1,2] (.func (.func 54) [] [.eptr (cS v6),.eptr (cS v7)]) (aI trivial (aI (bD v6) (aI (bD v7) trivial)))) trivial))) (aI (aI (rW [(0,137)]) (aI (xR [0,1,2] (sl aa r3.2) (ak au r3.2)) trivial)) trivial)))<|sf (xR [0,1,2] (.agg (aw r3.1)) (aY r3.1))<|sv (mV.mk' (v:=B7) zw ([r3.1]:List ax) 1 (by kernel_rfl))<|sv (mV.ap bl4)<|ue 3 .normal (bo v t8 t9 v2 v3 v4 v5 v6 v7 l4 (bV (t10+1)) r3.2) rfl (dU (aI (aI trivial (aI (aZ (XJ v)) (aI (aW rfl) trivial))) (aI (up (ak aY l4)) (aI (up (ak aY t8)) (aI trivial (aI trivial trivial)))))) (aI (aI (aI trivial (aI (aW rfl) (aI (aZ (mT au v2)) (aI (aW rfl) trivial)))) trivial) (aI (aI (aI trivial (aI (aZ (bD v3)) (aI (aZ (bD v4)) (aI (aZ (bD v5)) trivial)))) (aI (aI trivial (aI (aZ (bD v6)) (aI (aZ (bD v7)) trivial))) trivial)) (aI (aI (up (ak au r3.2)) trivial) trivial)))
  exact ed (A:=Rm) mixed z<|by kernel_rfl
 ·obtain rfl:=lf h
  have z:=sg 0 c1<|eF (.exit 0) (bU v2 v3 v4 v5 v6 v7 (out,m))
  exact jy Rm (Zn rfl) z<|by kernel_rfl
theorem fR{x:(waE×(List ac))}(h:bY v t8 t9 v2 v3 v4 v5 v6 v7 out t10 m=some x):bh Pg GE 3 (.loop (cA Rx 119)) (EX (.exit 0) (bU v2 v3 v4 v5 v6 v7 x)) (bo v t8 t9 v2 v3 v4 v5 v6 v7 out t10 m):=
 ZL h fun _ _ hy=>fP _ _ _ _ _ _ _ _ _ _ _ _ hy
end
def bB(a:waE)(c:Bool)(c2:(List ac))(c3:af)(c4:af)(c5:af)(c6:af)(c7:af)(k2:(List ac)):Option (waE×(List ac)):=
 (bY c a (a.length:Int) c2 c3 c4 c5 c6 c7 ([]:List ax) 0 k2).bind fun o5=>
 some (o5.1,o5.2)
theorem gg{a:waE}{c:Bool}{c2:(List ac)}{c3:af}{c4:af}{c5:af}{c6:af}{c7:af}{k2:(List ac)}{r:waE×(List ac)}(h:bB a c c2 c3 c4 c5 c6 c7 k2=some r):C Pg GE 107 [sl aw a,.func (.func 108) [] [.eptr (cB c),.bptr 0 0]] [] [.cells [.func (.func 105) [] [.bptr 1 0,.eptr ((cL aa) c2),.bptr 2 0]] [],.cells [.func (.func 55) [] [.eptr (cS c3),.eptr (cS c4),.eptr (cS c5)],.func (.func 54) [] [.eptr (cS c6),.eptr (cS c7)]] [],.cells [sl aa k2] [(0,137)]] (sl aw r.1) [(0,85)] [.cells [.func (.func 105) [] [.bptr 1 0,.eptr ((cL aa) c2),.bptr 2 0]] [],.cells [.func (.func 55) [] [.eptr (cS c3),.eptr (cS c4),.eptr (cS c5)],.func (.func 54) [] [.eptr (cS c6),.eptr (cS c7)]] [],.cells [sl aa r.2] [(0,137)]]:=by
 obtain⟨o5,bo5,h⟩:=cP h
 obtain rfl:=lf h
 have z:=bW (mV.ln a)<|du (fR c a (a.length:Int) c2 c3 c4 c5 c6 c7 ([]:List ax) 0 k2 bo5)<|en (aI (rP (sl aw o5.1))<|aI (up (n:=3) (ak aY o5.1))<|aI (rL [.cells [.func (.func 105) [] [.bptr 1 0,.eptr ((cL aa) c2),.bptr 2 0]] [],.cells [.func (.func 55) [] [.eptr (cS c3),.eptr (cS c4),.eptr (cS c5)],.func (.func 54) [] [.eptr (cS c6),.eptr (cS c7)]] [],.cells [sl aa o5.2] [(0,137)]])<|(aI (aI (aI trivial (aI (aW (i:=1) (n:=3) rfl) (aI (aZ (n:=3) (mT au c2)) (aI (aW (i:=2) (n:=3) rfl) trivial)))) trivial) (aI (aI (aI trivial (aI (aZ (n:=3) (bD c3)) (aI (aZ (n:=3) (bD c4)) (aI (aZ (n:=3) (bD c5)) trivial)))) (aI (aI trivial (aI (aZ (n:=3) (bD c6)) (aI (aZ (n:=3) (bD c7)) trivial))) trivial)) (aI (aI (up (n:=3) (ak au o5.2)) trivial) trivial))))
 exact C.evGp (A:=Rm) mixed (m:=3) (c:=Rx) rfl call107 func107 rfl z<|by kernel_rfl
section
variable(t1:(List ac))(v:aG)(t13:waA)(t14:Int)(v4:af)(v5:af)(v6:af)(v7:af)(v8:af)(m:waF)(m2:waE)(m3:waD)(m4:waB)(v2:(List ac))(v3:waA)(t15:Int)
def cN:aB:=bg 44 [(1,.eptr ((cL aa) t1)),(2,.bptr 0 0),(3,.eptr (aA v)),(4,.bptr 2 0),(5,sl aa v2),(6,sl cS v3),(13,sl cS t13),(14,.int .i64 t14),(15,.int .i64 t15)] [.cells [.func (.func 55) [] [.eptr (cS v4),.eptr (cS v5),.eptr (cS v6)],.func (.func 54) [] [.eptr (cS v7),.eptr (cS v8)]] [],.dead,.cells [.str ([]:af),sl cS ([]:List af),.int .i64 0,.str ([]:af),.int .i64 0,sl ae m,sl aw m2,sl aA m3,sl ai m4] [(1,9),(5,28),(6,85),(7,89),(8,60)]] [((6,0),9),((5,0),137)]
def dT(o:(List ac)×waA):aB:=bg 44 [(2,.bptr 0 0),(3,.eptr (aA v)),(4,.bptr 2 0),(5,sl aa o.1),(6,sl cS o.2)] [.cells [.func (.func 55) [] [.eptr (cS v4),.eptr (cS v5),.eptr (cS v6)],.func (.func 54) [] [.eptr (cS v7),.eptr (cS v8)]] [],.dead,.cells [.str ([]:af),sl cS ([]:List af),.int .i64 0,.str ([]:af),.int .i64 0,sl ae m,sl aw m2,sl aA m3,sl ai m4] [(1,9),(5,28),(6,85),(7,89),(8,60)]] [((6,0),9),((5,0),137)]
def a8:Option (((List ac)×waA×Int)⊕(((List ac)×waA))):=
 if(decide (t15<t14))=true then
  (gn t13 t15).bind fun x3=>
  (nq x3 t1 v4 v5 v6).bind fun r4=>
  (app v3 ([r4]:List af)).bind fun l5=>
  (app v2 ([(⟨x3,r4⟩:ac)]:List ac)).bind fun l6=>
  some (.inl (l6,l5,bV (t15+1)))
 else
  some (.inr (v2,v3))
def da:Option (((List ac)×waA)):=loop (fun(zz:(List ac)×waA×Int)=>a8 t1 t13 t14 v4 v5 v6 zz.1 zz.2.1 zz.2.2) (v2,v3,t15)
theorem lq{y:((List ac)×waA×Int)⊕(((List ac)×waA))}(h:a8 t1 t13 t14 v4 v5 v6 v2 v3 t15=some y):bh Pg GE 1 (cA Rz 247) (LQ (fun(zz:(List ac)×waA×Int)=>cN t1 v t13 t14 v4 v5 v6 v7 v8 m m2 m3 m4 zz.1 zz.2.1 zz.2.2) (fun _=>.exit 0) (dT v v4 v5 v6 v7 v8 m m2 m3 m4) y) (cN t1 v t13 t14 v4 v5 v6 v7 v8 m m2 m3 m4 v2 v3 t15):=by
 rcases aQ h with⟨c2,h⟩|⟨c2,h⟩
 ·obtain⟨x3,bx3,r4,br4,l5,bl5,l6,bl6,h⟩:=Zb4 h
  obtain rfl:=lf h
  exact AC Rp (sg 0 c2<|sv (dp.ia (k:=.i64) bx3)<|sv (cY ED (.str x3) [])<|ss<|sv (cY Iy (sl aa t1) [])<|dj (xp br4)<|sv (dp.mk' (v:=PVal.str) NF ([r4]:List af) 1 (by kernel_rfl))<|sv (dp.ap bl5)<|sv (lG x3 r4)<|sv (Ku.mk' (v:=oR) pk ([(⟨x3,r4⟩:ac)]:List ac) 1 (by kernel_rfl))<|sv (Ku.ap bl6)<|eF .normal (cN t1 v t13 t14 v4 v5 v6 v7 v8 m m2 m3 m4 l6 l5 (bV (t15+1))))<|by kernel_rfl
 ·obtain rfl:=lf h
  have z:=sg 0 c2<|eF (.exit 0) (dT v v4 v5 v6 v7 v8 m m2 m3 m4 (v2,v3))
  exact jy Rp (Zn rfl) z<|by kernel_rfl
theorem lu{x:((List ac)×waA)}(h:da t1 t13 t14 v4 v5 v6 v2 v3 t15=some x):bh Pg GE 1 (.loop (cA Rz 247)) (EX (.exit 0) (dT v v4 v5 v6 v7 v8 m m2 m3 m4 x)) (cN t1 v t13 t14 v4 v5 v6 v7 v8 m m2 m3 m4 v2 v3 t15):=
 ZL h fun _ _ hy=>lq _ _ _ _ _ _ _ _ _ _ _ _ _ _ _ _ hy
end
def cF(R45:aU)(a:aG)(a2:(List ac))(c:af)(c2:af)(c3:af)(c4:af)(c5:af):Option aG:=
 (px a2).bind fun r1=>
 (da a2 a.Names (a.Names.length:Int) c c2 c3 r1 ([]:List af) 0).bind fun o7=>
 (R45 c c2 c3 c4 c5 a.Body o7.1).bind fun r8=>
 some (⟨a.Con,o7.2,r8⟩:aG)
theorem mw(R45:aU)(hR45:bA R45){a:aG}{a2:(List ac)}{c:af}{c2:af}{c3:af}{c4:af}{c5:af}{r:aG}(h:cF R45 a a2 c c2 c3 c4 c5=some r):C Pg GE 110 [.agg (aA a),.eptr ((cL aa) a2),.bptr 0 0] [] [.cells [.func (.func 55) [] [.eptr (cS c),.eptr (cS c2),.eptr (cS c3)],.func (.func 54) [] [.eptr (cS c4),.eptr (cS c5)]] []] (.agg (aA r)) [] [.cells [.func (.func 55) [] [.eptr (cS c),.eptr (cS c2),.eptr (cS c3)],.func (.func 54) [] [.eptr (cS c4),.eptr (cS c5)]] []]:=by
 obtain⟨r1,br1,o7,bo7,r8,br8,h⟩:=Zb3 h
 obtain rfl:=lf h
 have z:=se (Nj a)<|sx G4<|sv (cY Iy (sl aa a2) [])<|dj (wW br1)<|sv (uJ a)<|sv (uM a)<|bW (dp.ln a.Names)<|du (lu a2 a a.Names (a.Names.length:Int) c c2 c3 c4 c5 ([]:List ag) ([]:List ax) ([]:List aG) ([]:List aj) r1 ([]:List af) 0 bo7)<|Kw [0,1,0,0,0,16,0,120,255,511]<|sv (zm a)<|sv (Bn a)<|sv (show bv Pg 95 [.func (.func 55) [] [.eptr (cS c),.eptr (cS c2),.eptr (cS c3)],.func (.func 54) [] [.eptr (cS c4),.eptr (cS c5)]]=some (.agg [.func (.func 55) [] [.eptr (cS c),.eptr (cS c2),.eptr (cS c3)],.func (.func 54) [] [.eptr (cS c4),.eptr (cS c5)]]) by kernel_rfl)<|sv (zn a)<|sv (zr a)<|dj (hR45 _ _ _ _ _ _ _ _ br8)<|sv (Da a.Con o7.2 r8)<|sx (jz (⟨a.Con,o7.2,r8⟩:aG))<|en (aI (O9 (⟨a.Con,o7.2,r8⟩:aG))<|aI (YQ (n:=1) (bK (⟨a.Con,o7.2,r8⟩:aG)))<|aI (rL [.cells [.func (.func 55) [] [.eptr (cS c),.eptr (cS c2),.eptr (cS c3)],.func (.func 54) [] [.eptr (cS c4),.eptr (cS c5)]] []])<|(aI (aI (aI trivial (aI (aZ (n:=1) (bD c)) (aI (aZ (n:=1) (bD c2)) (aI (aZ (n:=1) (bD c3)) trivial)))) (aI (aI trivial (aI (aZ (n:=1) (bD c4)) (aI (aZ (n:=1) (bD c5)) trivial))) trivial)) trivial))
 exact C.evGp (A:=Rp) mixed (m:=1) (c:=Rz) rfl call110 func110 rfl z<|by kernel_rfl
section
variable(R45:aU)(v:(List ac))(t8:waD)(t9:Int)(v2:af)(v3:af)(v4:af)(v5:af)(v6:af)(out:waD)(t10:Int)
def cd:aB:=bg 22 [(1,.func (.func 110) [] [.eptr ((cL aa) v),.bptr 0 0]),(5,sl aA out),(8,sl aA t8),(9,.int .i64 t9),(10,.int .i64 t10)] [.cells [.func (.func 55) [] [.eptr (cS v2),.eptr (cS v3),.eptr (cS v4)],.func (.func 54) [] [.eptr (cS v5),.eptr (cS v6)]] []] [((5,0),89)]
def dl(o:waD):aB:=bg 22 [(5,sl aA o)] [.cells [.func (.func 55) [] [.eptr (cS v2),.eptr (cS v3),.eptr (cS v4)],.func (.func 54) [] [.eptr (cS v5),.eptr (cS v6)]] []] [((5,0),89)]
def aS:Option ((waD×Int)⊕(waD)):=
 if(decide (t10<t9))=true then
  (gn t8 t10).bind fun x2=>
  (cF R45 x2 v v2 v3 v4 v5 v6).bind fun r3=>
  (app out ([r3]:List aG)).bind fun l4=>
  some (.inl (l4,bV (t10+1)))
 else
  some (.inr out)
def dD:Option waD:=loop (fun(zz:waD×Int)=>aS R45 v t8 t9 v2 v3 v4 v5 v6 zz.1 zz.2) (out,t10)
theorem jN(hR45:bA R45){y:(waD×Int)⊕(waD)}(h:aS R45 v t8 t9 v2 v3 v4 v5 v6 out t10=some y):bh Pg GE 1 (cA Ry 119) (LQ (fun(zz:waD×Int)=>cd v t8 t9 v2 v3 v4 v5 v6 zz.1 zz.2) (fun _=>.exit 0) (dl v2 v3 v4 v5 v6) y) (cd v t8 t9 v2 v3 v4 v5 v6 out t10):=by
 rcases aQ h with⟨c1,h⟩|⟨c1,h⟩
 ·obtain⟨x2,bx2,r3,br3,l4,bl4,h⟩:=Zb3 h
  obtain rfl:=lf h
  have z:=sg 0 c1<|sv (fO.ia (k:=.i64) bx2)<|sv (mH x2)<|sx G4<|sx (jz x2)<|sv (OC x2 [])<|si (.cg ⟨[0],[.agg (aA x2),.eptr ((cL aa) v),.bptr 0 0],[],[.cells [.func (.func 55) [] [.eptr (cS v2),.eptr (cS v3),.eptr (cS v4)],.func (.func 54) [] [.eptr (cS v5),.eptr (cS v6)]] []],[.cells [.func (.func 55) [] [.eptr (cS v2),.eptr (cS v3),.eptr (cS v4)],.func (.func 54) [] [.eptr (cS v5),.eptr (cS v6)]] []],[.cells [.func (.func 55) [] [.eptr (cS v2),.eptr (cS v3),.eptr (cS v4)],.func (.func 54) [] [.eptr (cS v5),.eptr (cS v6)]] []],[.cells [.func (.func 55) [] [.eptr (cS v2),.eptr (cS v3),.eptr (cS v4)],.func (.func 54) [] [.eptr (cS v5),.eptr (cS v6)]] []],.agg (aA r3),.agg (aA r3),[]⟩) (mw R45 hR45 br3)<|sf (aI (xR [0] (.agg (aA x2)) (bK x2)) (aI (xR [0] (.eptr ((cL aa) v)) (mT au v)) (aI (xB [0] 0 0 0 rfl) trivial)))<|sf (aI (aI (rB (.cells [.func (.func 55) [] [.eptr (cS v2),.eptr (cS v3),.eptr (cS v4)],.func (.func 54) [] [.eptr (cS v5),.eptr (cS v6)]] [])) (aI (rW []) (aI (xR [0] (.func (.func 55) [] [.eptr (cS v2),.eptr (cS v3),.eptr (cS v4)]) (aI trivial (aI (bD v2) (aI (bD v3) (aI (bD v4) trivial))))) (aI (xR [0] (.func (.func 54) [] [.eptr (cS v5),.eptr (cS v6)]) (aI trivial (aI (bD v5) (aI (bD v6) trivial)))) trivial)))) trivial)<|sf (aI (aI (rW []) (aI (xR [0] (.func (.func 55) [] [.eptr (cS v2),.eptr (cS v3),.eptr (cS v4)]) (aI trivial (aI (bD v2) (aI (bD v3) (aI (bD v4) trivial))))) (aI (xR [0] (.func (.func 54) [] [.eptr (cS v5),.eptr (cS v6)]) (aI trivial (aI (bD v5) (aI (bD v6) trivial)))) trivial))) trivial)<|sf (xR [0] (.agg (aA r3)) (bK r3))<|sv (fO.mk' (v:=Qr) OV ([r3]:List aG) 1 (by kernel_rfl))<|sv (fO.ap bl4)<|ue 1 .normal (cd v t8 t9 v2 v3 v4 v5 v6 l4 (bV (t10+1))) rfl (dU (aI (aI trivial (aI (aZ (mT au v)) (aI (aW rfl) trivial))) (aI (up (ak bK l4)) (aI (up (ak bK t8)) (aI trivial (aI trivial trivial)))))) (aI (aI (aI trivial (aI (aZ (bD v2)) (aI (aZ (bD v3)) (aI (aZ (bD v4)) trivial)))) (aI (aI trivial (aI (aZ (bD v5)) (aI (aZ (bD v6)) trivial))) trivial)) trivial)
  exact ed (A:=Ro) mixed z<|by kernel_rfl
 ·obtain rfl:=lf h
  have z:=sg 0 c1<|eF (.exit 0) (dl v2 v3 v4 v5 v6 out)
  exact jy Ro (Zn rfl) z<|by kernel_rfl
theorem j0(hR45:bA R45){x:waD}(h:dD R45 v t8 t9 v2 v3 v4 v5 v6 out t10=some x):bh Pg GE 1 (.loop (cA Ry 119)) (EX (.exit 0) (dl v2 v3 v4 v5 v6 x)) (cd v t8 t9 v2 v3 v4 v5 v6 out t10):=
 ZL h fun _ _ hy=>jN _ _ _ _ _ _ _ _ _ _ _ hR45 hy
end
def cM(R45:aU)(a:waD)(c:(List ac))(c2:af)(c3:af)(c4:af)(c5:af)(c6:af):Option waD:=
 (dD R45 c a (a.length:Int) c2 c3 c4 c5 c6 ([]:List aG) 0).bind fun o5=>
 some o5
theorem kI(R45:aU)(hR45:bA R45){a:waD}{c:(List ac)}{c2:af}{c3:af}{c4:af}{c5:af}{c6:af}{r:waD}(h:cM R45 a c c2 c3 c4 c5 c6=some r):C Pg GE 109 [sl aA a,.func (.func 110) [] [.eptr ((cL aa) c),.bptr 0 0]] [] [.cells [.func (.func 55) [] [.eptr (cS c2),.eptr (cS c3),.eptr (cS c4)],.func (.func 54) [] [.eptr (cS c5),.eptr (cS c6)]] []] (sl aA r) [(0,89)] [.cells [.func (.func 55) [] [.eptr (cS c2),.eptr (cS c3),.eptr (cS c4)],.func (.func 54) [] [.eptr (cS c5),.eptr (cS c6)]] []]:=by
 obtain⟨o5,bo5,h⟩:=cP h
 obtain rfl:=lf h
 have z:=bW (fO.ln a)<|du (j0 R45 c a (a.length:Int) c2 c3 c4 c5 c6 ([]:List aG) 0 hR45 bo5)<|en (aI (rP (sl aA o5))<|aI (up (n:=1) (ak bK o5))<|aI (rL [.cells [.func (.func 55) [] [.eptr (cS c2),.eptr (cS c3),.eptr (cS c4)],.func (.func 54) [] [.eptr (cS c5),.eptr (cS c6)]] []])<|(aI (aI (aI trivial (aI (aZ (n:=1) (bD c2)) (aI (aZ (n:=1) (bD c3)) (aI (aZ (n:=1) (bD c4)) trivial)))) (aI (aI trivial (aI (aZ (n:=1) (bD c5)) (aI (aZ (n:=1) (bD c6)) trivial))) trivial)) trivial))
 exact C.evGp (A:=Ro) mixed (m:=1) (c:=Ry) rfl call109 func109 rfl z<|by kernel_rfl
section
variable(scope:(List ac))(v:af)(v2:af)(v3:af)(v4:af)(v5:af)(m:Int)(m2:af)(m3:Int)(m4:waF)(m5:waE)(m6:waD)(m7:waB)(m8:waF)(m9:waE)(m10:waD)(m11:waB)(m12:(List ac))
def mz:aB:=bg 96 [(3,.bptr 0 0),(4,.bptr 1 0),(5,.eptr ((cL aa) scope)),(6,.bptr 3 0),(7,.bptr 4 0),(8,.bptr 5 0)] [.cells [.func (.func 55) [] [.eptr (cS v),.eptr (cS v2),.eptr (cS v3)],.func (.func 54) [] [.eptr (cS v4),.eptr (cS v5)]] [],.cells [.int .i64 m,.str m2,.int .i64 m3,sl ae m4,sl aw m5,sl aA m6,sl ai m7] [(6,60)],.dead,.cells [.int .i64 0,.str ([]:af),.int .i64 0,sl ae m8,sl aw m9,sl aA m10,sl ai m11] [(3,28),(4,85),(5,89),(6,60)],.cells [sl aa m12] [(0,137)],.cells [.func (.func 105) [] [.bptr 0 0,.eptr ((cL aa) scope),.bptr 4 0]] []] []
def cb(o:af×(List ac)):aB:=bg 96 [(3,.bptr 0 0),(4,.bptr 1 0),(5,.eptr ((cL aa) scope)),(6,.bptr 3 0),(7,.bptr 4 0),(8,.bptr 5 0)] [.cells [.func (.func 55) [] [.eptr (cS v),.eptr (cS v2),.eptr (cS v3)],.func (.func 54) [] [.eptr (cS v4),.eptr (cS v5)]] [],.cells [.int .i64 m,.str o.1,.int .i64 m3,sl ae m4,sl aw m5,sl aA m6,sl ai m7] [(6,60)],.dead,.cells [.int .i64 0,.str ([]:af),.int .i64 0,sl ae m8,sl aw m9,sl aA m10,sl ai m11] [(3,28),(4,85),(5,89),(6,60)],.cells [sl aa o.2] [(0,137)],.cells [.func (.func 105) [] [.bptr 0 0,.eptr ((cL aa) scope),.bptr 4 0]] []] []
def dm:Option ((af×(List ac))):=
 (fD (⟨m,m2,m3,m4,m5,m6,m7⟩:ag)).bind fun r3=>
 if r3=true then
  (pS scope m2).bind fun r6=>
  if r6.2=true then
   some (r6.1,m12)
  else
   (qI m2 v4 v5).bind fun r9=>
   some (r9,m12)
 else
  if(m==7)=true then
   (cE m2 scope v v2 v3 v4 v5 m12).bind fun r12=>
   some (r12.1,r12.2)
  else
   some (m2,m12)
theorem mb{x:(af×(List ac))}(h:dm scope v v2 v3 v4 v5 m m2 m3 m4 m5 m6 m7 m12=some x):bh Pg GE 0 (cA UZ 62) (EX .normal (cb scope v v2 v3 v4 v5 m m3 m4 m5 m6 m7 m8 m9 m10 m11 x)) (mz scope v v2 v3 v4 v5 m m2 m3 m4 m5 m6 m7 m8 m9 m10 m11 m12):=by
 obtain⟨r3,br3,h⟩:=cP h
 have p5:=fun{sc F} (r:PS sc F)=>sv (ce (⟨m,m2,m3,m4,m5,m6,m7⟩:ag) [])<|dj (jI br3)<|r
 rcases aQ h with⟨c4,h⟩|⟨c4,h⟩
 ·obtain⟨r6,br6,h⟩:=cP h
  have p8:=fun{sc F} (r:PS sc F)=>p5<|sg 0 c4<|sv (cY Iy (sl aa scope) [])<|ss<|dj (BP br6)<|r
  rcases aQ h with⟨c7,h⟩|⟨c7,h⟩
  ·obtain rfl:=lf h
   exact bF Lq (p8<|sg 0 c7<|ss<|eF .normal (cb scope v v2 v3 v4 v5 m m3 m4 m5 m6 m7 m8 m9 m10 m11 (r6.1,m12)))<|by kernel_rfl
  ·obtain⟨r9,br9,h⟩:=cP h
   obtain rfl:=lf h
   exact bF Lq (p8<|sg 0 c7<|ss<|ss<|dj (FV br9)<|ss<|eF .normal (cb scope v v2 v3 v4 v5 m m3 m4 m5 m6 m7 m8 m9 m10 m11 (r9,m12)))<|by kernel_rfl
 ·have p11:=fun{sc F} (r:PS sc F)=>p5<|sg 0 c4<|ss<|r
  rcases aQ h with⟨c10,h⟩|⟨c10,h⟩
  ·obtain⟨r12,br12,h⟩:=cP h
   obtain rfl:=lf h
   exact bF Lq (p11<|sg 0 c10<|ss<|ss<|si (.cg ⟨[0,4],[.str m2,.bptr 0 0,.eptr ((cL aa) scope),.bptr 1 0],[],[.cells [.func (.func 55) [] [.eptr (cS v),.eptr (cS v2),.eptr (cS v3)],.func (.func 54) [] [.eptr (cS v4),.eptr (cS v5)]] [],.cells [sl aa m12] [(0,137)]],[.cells [.func (.func 55) [] [.eptr (cS v),.eptr (cS v2),.eptr (cS v3)],.func (.func 54) [] [.eptr (cS v4),.eptr (cS v5)]] [],.cells [sl aa m12] [(0,137)]],[.cells [.func (.func 55) [] [.eptr (cS v),.eptr (cS v2),.eptr (cS v3)],.func (.func 54) [] [.eptr (cS v4),.eptr (cS v5)]] [],.cells [sl aa r12.2] [(0,137)]],[.cells [.func (.func 55) [] [.eptr (cS v),.eptr (cS v2),.eptr (cS v3)],.func (.func 54) [] [.eptr (cS v4),.eptr (cS v5)]] [],.cells [sl aa r12.2] [(0,137)]],.str r12.1,.str r12.1,[]⟩) (gC br12)<|sf (aI (xR [0,4] (.str m2) trivial) (aI (xB [0,4] 0 0 0 rfl) (aI (xR [0,4] (.eptr ((cL aa) scope)) (mT au scope)) (aI (xB [0,4] 1 4 0 rfl) trivial))))<|sf (aI (aI (rB (.cells [.func (.func 55) [] [.eptr (cS v),.eptr (cS v2),.eptr (cS v3)],.func (.func 54) [] [.eptr (cS v4),.eptr (cS v5)]] [])) (aI (rW []) (aI (xR [0,4] (.func (.func 55) [] [.eptr (cS v),.eptr (cS v2),.eptr (cS v3)]) (aI trivial (aI (bD v) (aI (bD v2) (aI (bD v3) trivial))))) (aI (xR [0,4] (.func (.func 54) [] [.eptr (cS v4),.eptr (cS v5)]) (aI trivial (aI (bD v4) (aI (bD v5) trivial)))) trivial)))) (aI (aI (rB (.cells [sl aa m12] [(0,137)])) (aI (rW [(0,137)]) (aI (xR [0,4] (sl aa m12) (ak au m12)) trivial))) trivial))<|sf (aI (aI (rW []) (aI (xR [0,4] (.func (.func 55) [] [.eptr (cS v),.eptr (cS v2),.eptr (cS v3)]) (aI trivial (aI (bD v) (aI (bD v2) (aI (bD v3) trivial))))) (aI (xR [0,4] (.func (.func 54) [] [.eptr (cS v4),.eptr (cS v5)]) (aI trivial (aI (bD v4) (aI (bD v5) trivial)))) trivial))) (aI (aI (rW [(0,137)]) (aI (xR [0,4] (sl aa r12.2) (ak au r12.2)) trivial)) trivial))<|sf (xR [0,4] (.str r12.1) trivial)<|ss<|eF .normal (cb scope v v2 v3 v4 v5 m m3 m4 m5 m6 m7 m8 m9 m10 m11 (r12.1,r12.2)))<|by kernel_rfl
  ·obtain rfl:=lf h
   exact bF Lq (p11<|sg 0 c10<|eF .normal (cb scope v v2 v3 v4 v5 m m3 m4 m5 m6 m7 m8 m9 m10 m11 (m2,m12)))<|by kernel_rfl
end
section
variable(scope:(List ac))(kids:waF)(i:Int)(t59:waF)(t60:Int)(v:af)(v2:af)(v3:af)(v4:af)(v5:af)(m:Int)(m2:af)(m3:Int)(m4:waE)(m5:waD)(m6:waB)(m7:waF)(m8:waE)(m9:waD)(m10:waB)(m11:(List ac))(m12:Int)(m13:af)(m14:Int)(m15:waF)(m16:waE)(m17:waD)(m18:waB)
def mA:aB:=bg 96 [(3,.bptr 0 0),(4,.bptr 1 0),(5,.eptr ((cL aa) scope)),(6,.bptr 3 0),(7,.bptr 4 0),(12,sl ae kids),(13,.int .i64 i),(14,.bptr 7 0),(59,sl ae t59),(60,.int .i64 t60),(61,.int .i64 i)] [.cells [.func (.func 55) [] [.eptr (cS v),.eptr (cS v2),.eptr (cS v3)],.func (.func 54) [] [.eptr (cS v4),.eptr (cS v5)]] [],.cells [.int .i64 m,.str m2,.int .i64 m3,sl ae t59,sl aw m4,sl aA m5,sl ai m6] [(4,85),(6,60)],.dead,.cells [.int .i64 0,.str ([]:af),.int .i64 0,sl ae m7,sl aw m8,sl aA m9,sl ai m10] [(3,28),(4,85),(5,89),(6,60)],.cells [sl aa m11] [(0,137)],.cells [.func (.func 105) [] [.bptr 0 0,.eptr ((cL aa) scope),.bptr 4 0]] [],.dead,.cells [.int .i64 m12,.str m13,.int .i64 m14,sl ae m15,sl aw m16,sl aA m17,sl ai m18] []] [((12,0),28)]
def ef(o:Bool):aB:=bg 96 [(3,.bptr 0 0),(4,.bptr 1 0),(5,.eptr ((cL aa) scope)),(6,.bptr 3 0),(7,.bptr 4 0),(12,sl ae kids),(14,.bptr 7 0),(59,sl ae t59),(60,.int .i64 t60),(61,.int .i64 i),(72,.bool o)] [.cells [.func (.func 55) [] [.eptr (cS v),.eptr (cS v2),.eptr (cS v3)],.func (.func 54) [] [.eptr (cS v4),.eptr (cS v5)]] [],.cells [.int .i64 m,.str m2,.int .i64 m3,sl ae t59,sl aw m4,sl aA m5,sl ai m6] [(4,85),(6,60)],.dead,.cells [.int .i64 0,.str ([]:af),.int .i64 0,sl ae m7,sl aw m8,sl aA m9,sl ai m10] [(3,28),(4,85),(5,89),(6,60)],.cells [sl aa m11] [(0,137)],.cells [.func (.func 105) [] [.bptr 0 0,.eptr ((cL aa) scope),.bptr 4 0]] [],.dead,.cells [.int .i64 m12,.str m13,.int .i64 m14,sl ae m15,sl aw m16,sl aA m17,sl ai m18] []] [((12,0),28)]
def eI:Option Bool:=
 if(m==7)=true then
  some (i==0)
 else
  some false
theorem mc{x:Bool}(h:eI i m=some x):bh Pg GE 0 (cA UZ 523766) (EX .normal (ef scope kids i t59 t60 v v2 v3 v4 v5 m m2 m3 m4 m5 m6 m7 m8 m9 m10 m11 m12 m13 m14 m15 m16 m17 m18 x)) (mA scope kids i t59 t60 v v2 v3 v4 v5 m m2 m3 m4 m5 m6 m7 m8 m9 m10 m11 m12 m13 m14 m15 m16 m17 m18):=by
 rcases aQ h with⟨c17,h⟩|⟨c17,h⟩
 ·obtain rfl:=lf h
  exact bF Lq (ss<|sg 4 c17<|eF .normal (ef scope kids i t59 t60 v v2 v3 v4 v5 m m2 m3 m4 m5 m6 m7 m8 m9 m10 m11 m12 m13 m14 m15 m16 m17 m18 (i==0)))<|by kernel_rfl
 ·obtain rfl:=lf h
  exact bF Lq (ss<|sg 4 c17<|eF .normal (ef scope kids i t59 t60 v v2 v3 v4 v5 m m2 m3 m4 m5 m6 m7 m8 m9 m10 m11 m12 m13 m14 m15 m16 m17 m18 false))<|by kernel_rfl
end
section
variable(R45:aU)(scope:(List ac))(t59:waF)(t60:Int)(v:af)(v2:af)(v3:af)(v4:af)(v5:af)(m:Int)(m2:af)(m3:Int)(m4:waE)(m5:waD)(m6:waB)(m7:waF)(m8:waE)(m9:waD)(m10:waB)(m11:(List ac))(kids:waF)(t61:Int)
def cc:aB:=bg 96 [(3,.bptr 0 0),(4,.bptr 1 0),(5,.eptr ((cL aa) scope)),(6,.bptr 3 0),(7,.bptr 4 0),(12,sl ae kids),(59,sl ae t59),(60,.int .i64 t60),(61,.int .i64 t61)] [.cells [.func (.func 55) [] [.eptr (cS v),.eptr (cS v2),.eptr (cS v3)],.func (.func 54) [] [.eptr (cS v4),.eptr (cS v5)]] [],.cells [.int .i64 m,.str m2,.int .i64 m3,sl ae t59,sl aw m4,sl aA m5,sl ai m6] [(4,85),(6,60)],.dead,.cells [.int .i64 0,.str ([]:af),.int .i64 0,sl ae m7,sl aw m8,sl aA m9,sl ai m10] [(3,28),(4,85),(5,89),(6,60)],.cells [sl aa m11] [(0,137)],.cells [.func (.func 105) [] [.bptr 0 0,.eptr ((cL aa) scope),.bptr 4 0]] [],.dead] [((12,0),28)]
def eg(o:waF):aB:=bg 96 [(3,.bptr 0 0),(4,.bptr 1 0),(5,.eptr ((cL aa) scope)),(6,.bptr 3 0),(12,sl ae o)] [.cells [.func (.func 55) [] [.eptr (cS v),.eptr (cS v2),.eptr (cS v3)],.func (.func 54) [] [.eptr (cS v4),.eptr (cS v5)]] [],.cells [.int .i64 m,.str m2,.int .i64 m3,sl ae t59,sl aw m4,sl aA m5,sl ai m6] [(4,85),(6,60)],.dead,.cells [.int .i64 0,.str ([]:af),.int .i64 0,sl ae m7,sl aw m8,sl aA m9,sl ai m10] [(3,28),(4,85),(5,89),(6,60)],.cells [sl aa m11] [(0,137)],.cells [.func (.func 105) [] [.bptr 0 0,.eptr ((cL aa) scope),.bptr 4 0]] [],.dead] [((12,0),28)]
def bk:Option ((waF×Int)⊕(waF)):=
 if(decide (t61<t60))=true then
  (gn t59 t61).bind fun x16=>
  (eI t61 m).bind fun o18=>
  if o18=true then
   (R45 v v2 v3 v4 v5 x16 scope).bind fun r21=>
   (app kids ([r21]:List ag)).bind fun l22=>
   some (.inl (l22,bV (t61+1)))
  else
   (R45 v v2 v3 v4 v5 x16 m11).bind fun r23=>
   (app kids ([r23]:List ag)).bind fun l24=>
   some (.inl (l24,bV (t61+1)))
 else
  some (.inr kids)
def dn:Option waF:=loop (fun(zz:waF×Int)=>bk R45 scope t59 t60 v v2 v3 v4 v5 m m11 zz.1 zz.2) (kids,t61)
theorem lP(hR45:bA R45){y:(waF×Int)⊕(waF)}(h:bk R45 scope t59 t60 v v2 v3 v4 v5 m m11 kids t61=some y):bh Pg GE 0 (cA UZ 8183) (LQ (fun(zz:waF×Int)=>cc scope t59 t60 v v2 v3 v4 v5 m m2 m3 m4 m5 m6 m7 m8 m9 m10 m11 zz.1 zz.2) (fun _=>.exit 1) (eg scope t59 v v2 v3 v4 v5 m m2 m3 m4 m5 m6 m7 m8 m9 m10 m11) y) (cc scope t59 t60 v v2 v3 v4 v5 m m2 m3 m4 m5 m6 m7 m8 m9 m10 m11 kids t61):=by
 rcases aQ h with⟨c15,h⟩|⟨c15,h⟩
 ·obtain⟨x16,bx16,o18,bo18,h⟩:=Zb2 h
  have p20:=fun{sc F} (r:PS sc F)=>sg 0 c15<|sv (jt.ia (k:=.i64) bx16)<|sv (b9 x16)<|sx zB<|sx (lb x16)<|rh 0<|du (mc scope kids t61 t59 t60 v v2 v3 v4 v5 m m2 m3 m4 m5 m6 m7 m8 m9 m10 m11 x16.Op x16.Name x16.N x16.Kids x16.Params x16.Alts x16.Types bo18)<|r
  rcases aQ h with⟨c19,h⟩|⟨c19,h⟩
  ·obtain⟨r21,br21,l22,bl22,h⟩:=Zb2 h
   obtain rfl:=lf h
   have z:=p20<|sg 0 c19<|sv (show bv Pg 95 [.func (.func 55) [] [.eptr (cS v),.eptr (cS v2),.eptr (cS v3)],.func (.func 54) [] [.eptr (cS v4),.eptr (cS v5)]]=some (.agg [.func (.func 55) [] [.eptr (cS v),.eptr (cS v2),.eptr (cS v3)],.func (.func 54) [] [.eptr (cS v4),.eptr (cS v5)]]) by kernel_rfl)<|sv (ce x16 [])<|sv (cY Iy (sl aa scope) [])<|dj (hR45 _ _ _ _ _ _ _ _ br21)<|sv (jt.mk' (v:=td) nR ([r21]:List ag) 1 (by kernel_rfl))<|sv (jt.ap bl22)<|ue 0 .normal (cc scope t59 t60 v v2 v3 v4 v5 m m2 m3 m4 m5 m6 m7 m8 m9 m10 m11 l22 (bV (t61+1))) rfl (dU (aI (aW rfl) (aI (aW rfl) (aI (aZ (mT au scope)) (aI (aW rfl) (aI (aW rfl) (aI (up (ak ay l22)) (aI (up (ak ay t59)) (aI trivial (aI trivial trivial)))))))))) (aI (aI (aI trivial (aI (aZ (bD v)) (aI (aZ (bD v2)) (aI (aZ (bD v3)) trivial)))) (aI (aI trivial (aI (aZ (bD v4)) (aI (aZ (bD v5)) trivial))) trivial)) (aI (aI trivial (aI trivial (aI trivial (aI (up (ak ay t59)) (aI (up (ak aY m4)) (aI (up (ak bK m5)) (aI (up (ak aE m6)) trivial))))))) (aI trivial (aI (aI trivial (aI trivial (aI trivial (aI (up (ak ay m7)) (aI (up (ak aY m8)) (aI (up (ak bK m9)) (aI (up (ak aE m10)) trivial))))))) (aI (aI (up (ak au m11)) trivial) (aI (aI (aI trivial (aI (aW rfl) (aI (aZ (mT au scope)) (aI (aW rfl) trivial)))) trivial) (aI trivial trivial)))))))
   exact ed (A:=Lq) mixed z<|by kernel_rfl
  ·obtain⟨r23,br23,l24,bl24,h⟩:=Zb2 h
   obtain rfl:=lf h
   have z:=p20<|sg 0 c19<|sv (show bv Pg 95 [.func (.func 55) [] [.eptr (cS v),.eptr (cS v2),.eptr (cS v3)],.func (.func 54) [] [.eptr (cS v4),.eptr (cS v5)]]=some (.agg [.func (.func 55) [] [.eptr (cS v),.eptr (cS v2),.eptr (cS v3)],.func (.func 54) [] [.eptr (cS v4),.eptr (cS v5)]]) by kernel_rfl)<|sv (ce x16 [])<|ss<|dj (hR45 _ _ _ _ _ _ _ _ br23)<|sv (jt.mk' (v:=td) nR ([r23]:List ag) 1 (by kernel_rfl))<|sv (jt.ap bl24)<|ue 0 .normal (cc scope t59 t60 v v2 v3 v4 v5 m m2 m3 m4 m5 m6 m7 m8 m9 m10 m11 l24 (bV (t61+1))) rfl (dU (aI (aW rfl) (aI (aW rfl) (aI (aZ (mT au scope)) (aI (aW rfl) (aI (aW rfl) (aI (up (ak ay l24)) (aI (up (ak ay t59)) (aI trivial (aI trivial trivial)))))))))) (aI (aI (aI trivial (aI (aZ (bD v)) (aI (aZ (bD v2)) (aI (aZ (bD v3)) trivial)))) (aI (aI trivial (aI (aZ (bD v4)) (aI (aZ (bD v5)) trivial))) trivial)) (aI (aI trivial (aI trivial (aI trivial (aI (up (ak ay t59)) (aI (up (ak aY m4)) (aI (up (ak bK m5)) (aI (up (ak aE m6)) trivial))))))) (aI trivial (aI (aI trivial (aI trivial (aI trivial (aI (up (ak ay m7)) (aI (up (ak aY m8)) (aI (up (ak bK m9)) (aI (up (ak aE m10)) trivial))))))) (aI (aI (up (ak au m11)) trivial) (aI (aI (aI trivial (aI (aW rfl) (aI (aZ (mT au scope)) (aI (aW rfl) trivial)))) trivial) (aI trivial trivial)))))))
   exact ed (A:=Lq) mixed z<|by kernel_rfl
 ·obtain rfl:=lf h
  have z:=sg 0 c15<|eF (.exit 1) (eg scope t59 v v2 v3 v4 v5 m m2 m3 m4 m5 m6 m7 m8 m9 m10 m11 kids)
  exact jy Lq (Zn rfl) z<|by kernel_rfl
theorem me(hR45:bA R45){x:waF}(h:dn R45 scope t59 t60 v v2 v3 v4 v5 m m11 kids t61=some x):bh Pg GE 0 (.loop (cA UZ 8183)) (EX (.exit 1) (eg scope t59 v v2 v3 v4 v5 m m2 m3 m4 m5 m6 m7 m8 m9 m10 m11 x)) (cc scope t59 t60 v v2 v3 v4 v5 m m2 m3 m4 m5 m6 m7 m8 m9 m10 m11 kids t61):=
 ZL h fun _ _ hy=>lP _ _ _ _ _ _ _ _ _ _ _ _ _ _ _ _ _ _ _ _ _ _ hR45 hy
end
def dw(R45:aU)(c:af)(c2:af)(c3:af)(c4:af)(c5:af)(e:ag)(scope:(List ac)):Option ag:=
 (cG e.Types).bind fun r1=>
 (px scope).bind fun r2=>
 (dm scope c c2 c3 c4 c5 e.Op e.Name e.N e.Kids e.Params e.Alts r1 r2).bind fun o13=>
 (bB e.Params (e.Op==6) scope c c2 c3 c4 c5 o13.2).bind fun r14=>
 (dn R45 scope e.Kids (e.Kids.length:Int) c c2 c3 c4 c5 e.Op r14.2 ([]:List ag) 0).bind fun o25=>
 (cM R45 e.Alts scope c c2 c3 c4 c5).bind fun r26=>
 some (⟨e.Op,o13.1,e.N,o25,r14.1,r26,r1⟩:ag)
theorem mZ(R45:aU)(hR45:bA R45){c:af}{c2:af}{c3:af}{c4:af}{c5:af}{e:ag}{scope:(List ac)}{r:ag}(h:dw R45 c c2 c3 c4 c5 e scope=some r):CC Pg GE 56 [.agg [.func (.func 55) [] [.eptr (cS c),.eptr (cS c2),.eptr (cS c3)],.func (.func 54) [] [.eptr (cS c4),.eptr (cS c5)]],.agg (ae e),sl aa scope] (.agg (ae r)) [(3,28),(4,85),(5,89),(6,60)]:=by
 obtain⟨r1,br1,r2,br2,o13,bo13,r14,br14,h⟩:=Zb4 h
 obtain⟨o25,bo25,r26,br26,h⟩:=Zb2 h
 obtain rfl:=lf h
 have z:=sx (YG [.func (.func 55) [] [.eptr (cS c),.eptr (cS c2),.eptr (cS c3)],.func (.func 54) [] [.eptr (cS c4),.eptr (cS c5)]])<|sx (lb e)<|se (qaU aa scope)<|sx zB<|ss<|dj (g8 br1)<|sv (cY Iy (sl aa scope) [])<|dj (wW br2)<|sx YL<|sx YK<|ss<|rh 0<|du (mb scope c c2 c3 c4 c5 e.Op e.Name e.N e.Kids e.Params e.Alts r1 ([]:List ag) ([]:List ax) ([]:List aG) ([]:List aj) r2 bo13)<|ss<|sx qaV<|ss<|qaE 6 [[.bool (e.Op==6)]] [3,4,5,6,7,8,11] [] (qaj (m:=0) (b:=6) rfl [.bool (e.Op==6)] rfl) (qak 6 (l:=[.bool (e.Op==6)]) (aI trivial trivial)) (qal (qay [.bool (e.Op==6)]))<|sf (Iu 6 (mT au scope))<|sf (Iu 6 (bD c))<|sf (Iu 6 (bD c2))<|sf (Iu 6 (bD c3))<|sf (Iu 6 (bD c4))<|sf (Iu 6 (bD c5))<|sf (J7 6 (p:=sl ae e.Kids) (ak ay e.Kids))<|sf (J7 6 (p:=sl aw e.Params) (ak aY e.Params))<|sf (J7 6 (p:=sl aA e.Alts) (ak bK e.Alts))<|sf (J7 6 (p:=sl ai r1) (ak aE r1))<|sf (J7 6 (p:=sl ae ([]:List ag)) (ak ay ([]:List ag)))<|sf (J7 6 (p:=sl aw ([]:List ax)) (ak aY ([]:List ax)))<|sf (J7 6 (p:=sl aA ([]:List aG)) (ak bK ([]:List aG)))<|sf (J7 6 (p:=sl ai ([]:List aj)) (ak aE ([]:List aj)))<|sf (J7 6 (p:=sl aa o13.2) (ak au o13.2))<|sf (Iu 6 (mT au scope))<|ss<|si (.cg ⟨[5,0,4],[sl aw e.Params,.func (.func 108) [] [.eptr (cB (e.Op==6)),.bptr 0 0]],[],[.cells [.func (.func 105) [] [.bptr 0 0,.eptr ((cL aa) scope),.bptr 4 0]] [],.cells [.func (.func 55) [] [.eptr (cS c),.eptr (cS c2),.eptr (cS c3)],.func (.func 54) [] [.eptr (cS c4),.eptr (cS c5)]] [],.cells [sl aa o13.2] [(0,137)]],[.cells [.func (.func 105) [] [.bptr 1 0,.eptr ((cL aa) scope),.bptr 2 0]] [],.cells [.func (.func 55) [] [.eptr (cS c),.eptr (cS c2),.eptr (cS c3)],.func (.func 54) [] [.eptr (cS c4),.eptr (cS c5)]] [],.cells [sl aa o13.2] [(0,137)]],[.cells [.func (.func 105) [] [.bptr 0 0,.eptr ((cL aa) scope),.bptr 4 0]] [],.cells [.func (.func 55) [] [.eptr (cS c),.eptr (cS c2),.eptr (cS c3)],.func (.func 54) [] [.eptr (cS c4),.eptr (cS c5)]] [],.cells [sl aa r14.2] [(0,137)]],[.cells [.func (.func 105) [] [.bptr 1 0,.eptr ((cL aa) scope),.bptr 2 0]] [],.cells [.func (.func 55) [] [.eptr (cS c),.eptr (cS c2),.eptr (cS c3)],.func (.func 54) [] [.eptr (cS c4),.eptr (cS c5)]] [],.cells [sl aa r14.2] [(0,137)]],sl aw r14.1,sl aw r14.1,[(0,85)]⟩) (gg br14)<|sf (aI (xR [5,0,4] (sl aw e.Params) (ak aY e.Params)) (aI (xF [5,0,4] (.func 108) [] [.eptr (cB (e.Op==6)),.bptr 5 0] [] [.eptr (cB (e.Op==6)),.bptr 0 0] trivial (aI (xR [5,0,4] (.eptr (cB (e.Op==6))) (XJ (e.Op==6))) (aI (xB [5,0,4] 0 5 0 rfl) trivial))) trivial))<|sf (aI (aI (rB (.cells [.func (.func 105) [] [.bptr 0 0,.eptr ((cL aa) scope),.bptr 4 0]] [])) (aI (rW []) (aI (xF [5,0,4] (.func 105) [] [.bptr 0 0,.eptr ((cL aa) scope),.bptr 4 0] [] [.bptr 1 0,.eptr ((cL aa) scope),.bptr 2 0] trivial (aI (xB [5,0,4] 1 0 0 rfl) (aI (xR [5,0,4] (.eptr ((cL aa) scope)) (mT au scope)) (aI (xB [5,0,4] 2 4 0 rfl) trivial)))) trivial))) (aI (aI (rB (.cells [.func (.func 55) [] [.eptr (cS c),.eptr (cS c2),.eptr (cS c3)],.func (.func 54) [] [.eptr (cS c4),.eptr (cS c5)]] [])) (aI (rW []) (aI (xR [5,0,4] (.func (.func 55) [] [.eptr (cS c),.eptr (cS c2),.eptr (cS c3)]) (aI trivial (aI (bD c) (aI (bD c2) (aI (bD c3) trivial))))) (aI (xR [5,0,4] (.func (.func 54) [] [.eptr (cS c4),.eptr (cS c5)]) (aI trivial (aI (bD c4) (aI (bD c5) trivial)))) trivial)))) (aI (aI (rB (.cells [sl aa o13.2] [(0,137)])) (aI (rW [(0,137)]) (aI (xR [5,0,4] (sl aa o13.2) (ak au o13.2)) trivial))) trivial)))<|sf (aI (aI (rW []) (aI (xF [5,0,4] (.func 105) [] [.bptr 0 0,.eptr ((cL aa) scope),.bptr 4 0] [] [.bptr 1 0,.eptr ((cL aa) scope),.bptr 2 0] trivial (aI (xB [5,0,4] 1 0 0 rfl) (aI (xR [5,0,4] (.eptr ((cL aa) scope)) (mT au scope)) (aI (xB [5,0,4] 2 4 0 rfl) trivial)))) trivial)) (aI (aI (rW []) (aI (xR [5,0,4] (.func (.func 55) [] [.eptr (cS c),.eptr (cS c2),.eptr (cS c3)]) (aI trivial (aI (bD c) (aI (bD c2) (aI (bD c3) trivial))))) (aI (xR [5,0,4] (.func (.func 54) [] [.eptr (cS c4),.eptr (cS c5)]) (aI trivial (aI (bD c4) (aI (bD c5) trivial)))) trivial))) (aI (aI (rW [(0,137)]) (aI (xR [5,0,4] (sl aa r14.2) (ak au r14.2)) trivial)) trivial)))<|sf (xR [5,0,4] (sl aw r14.1) (ak aY r14.1))<|ss<|bW (jt.ln e.Kids)<|du (me R45 scope e.Kids (e.Kids.length:Int) c c2 c3 c4 c5 e.Op o13.1 e.N r14.1 e.Alts r1 ([]:List ag) ([]:List ax) ([]:List aG) ([]:List aj) r14.2 ([]:List ag) 0 hR45 bo25)<|ss<|si (.cg ⟨[0],[sl aA e.Alts,.func (.func 110) [] [.eptr ((cL aa) scope),.bptr 0 0]],[],[.cells [.func (.func 55) [] [.eptr (cS c),.eptr (cS c2),.eptr (cS c3)],.func (.func 54) [] [.eptr (cS c4),.eptr (cS c5)]] []],[.cells [.func (.func 55) [] [.eptr (cS c),.eptr (cS c2),.eptr (cS c3)],.func (.func 54) [] [.eptr (cS c4),.eptr (cS c5)]] []],[.cells [.func (.func 55) [] [.eptr (cS c),.eptr (cS c2),.eptr (cS c3)],.func (.func 54) [] [.eptr (cS c4),.eptr (cS c5)]] []],[.cells [.func (.func 55) [] [.eptr (cS c),.eptr (cS c2),.eptr (cS c3)],.func (.func 54) [] [.eptr (cS c4),.eptr (cS c5)]] []],sl aA r26,sl aA r26,[(0,89)]⟩) (kI R45 hR45 br26)<|sf (aI (xR [0] (sl aA e.Alts) (ak bK e.Alts)) (aI (xF [0] (.func 110) [] [.eptr ((cL aa) scope),.bptr 0 0] [] [.eptr ((cL aa) scope),.bptr 0 0] trivial (aI (xR [0] (.eptr ((cL aa) scope)) (mT au scope)) (aI (xB [0] 0 0 0 rfl) trivial))) trivial))<|sf (aI (aI (rB (.cells [.func (.func 55) [] [.eptr (cS c),.eptr (cS c2),.eptr (cS c3)],.func (.func 54) [] [.eptr (cS c4),.eptr (cS c5)]] [])) (aI (rW []) (aI (xR [0] (.func (.func 55) [] [.eptr (cS c),.eptr (cS c2),.eptr (cS c3)]) (aI trivial (aI (bD c) (aI (bD c2) (aI (bD c3) trivial))))) (aI (xR [0] (.func (.func 54) [] [.eptr (cS c4),.eptr (cS c5)]) (aI trivial (aI (bD c4) (aI (bD c5) trivial)))) trivial)))) trivial)<|sf (aI (aI (rW []) (aI (xR [0] (.func (.func 55) [] [.eptr (cS c),.eptr (cS c2),.eptr (cS c3)]) (aI trivial (aI (bD c) (aI (bD c2) (aI (bD c3) trivial))))) (aI (xR [0] (.func (.func 54) [] [.eptr (cS c4),.eptr (cS c5)]) (aI trivial (aI (bD c4) (aI (bD c5) trivial)))) trivial))) trivial)<|sf (xR [0] (sl aA r26) (ak bK r26))<|sz (ce (⟨e.Op,o13.1,e.N,o25,r14.1,r26,r1⟩:ag) [])<|sy (bE (⟨e.Op,o13.1,e.N,o25,r14.1,r26,r1⟩:ag))<|en (aI (sj (⟨e.Op,o13.1,e.N,o25,r14.1,r26,r1⟩:ag))<|aI (ay (⟨e.Op,o13.1,e.N,o25,r14.1,r26,r1⟩:ag))<|rT)
 exact Y6 Lq call56 func56 (c:=UZ) rfl (aI (aI (aI trivial (aI (bD c) (aI (bD c2) (aI (bD c3) trivial)))) (aI (aI trivial (aI (bD c4) (aI (bD c5) trivial))) trivial)) (aI (ay e) (aI (ak au scope) trivial))) z<|by kernel_rfl
def eU:((af×af×af×af×af×ag×(List ac))->Option ag)->(af×af×af×af×af×ag×(List ac))->Option ag:=fun(rec:(af×af×af×af×af×ag×(List ac))->Option ag) (x:af×af×af×af×af×ag×(List ac))=>dw (fun c c2 c3 c4 c5 e scope=>rec (c,c2,c3,c4,c5,e,scope)) x.1 x.2.1 x.2.2.1 x.2.2.2.1 x.2.2.2.2.1 x.2.2.2.2.2.1 x.2.2.2.2.2.2
def fo(c:af)(c2:af)(c3:af)(c4:af)(c5:af)(e:ag)(scope:(List ac)):Option ag:=tn eU (c,c2,c3,c4,c5,e,scope)
theorem nx{c:af}{c2:af}{c3:af}{c4:af}{c5:af}{e:ag}{scope:(List ac)}{r:ag}(h:fo c c2 c3 c4 c5 e scope=some r):CC Pg GE 56 [.agg [.func (.func 55) [] [.eptr (cS c),.eptr (cS c2),.eptr (cS c3)],.func (.func 54) [] [.eptr (cS c4),.eptr (cS c5)]],.agg (ae e),sl aa scope] (.agg (ae r)) [(3,28),(4,85),(5,89),(6,60)]:=
 fj (F:=eU) (M:=fun(x:af×af×af×af×af×ag×(List ac)) (r:ag)=>CC Pg GE 56 [.agg [.func (.func 55) [] [.eptr (cS x.1),.eptr (cS x.2.1),.eptr (cS x.2.2.1)],.func (.func 54) [] [.eptr (cS x.2.2.2.1),.eptr (cS x.2.2.2.2.1)]],.agg (ae x.2.2.2.2.2.1),sl aa x.2.2.2.2.2.2] (.agg (ae r)) [(3,28),(4,85),(5,89),(6,60)]) (fun rec hrec x r h=>mZ _ (fun c c2 c3 c4 c5 e scope r h=>hrec (c,c2,c3,c4,c5,e,scope) r h) h) h
noncomputable def qbm:Code:=f13.body.getD .skip
def qa0:List Nat:=[]
theorem Z13:ZF qa0 13 f13 qbm:=⟨call13,func13,rfl⟩
def qH(e:ag)(name:af)(a:af):Option ag:=
 (zL e).bind fun r1=>
 (app r1 ([a]:List af)).bind fun l2=>
 (tt l2 a).bind fun r3=>
 (fo a name r3 name a e ([]:List ac)).bind fun r4=>
 some r4
theorem Ag{e:ag}{name:af}{a:af}{r:ag}(h:qH e name a=some r):CC Pg GE 13 [.agg (ae e),.str name,.str a] (.agg (ae r)) [(3,28),(4,85),(5,89),(6,60)]:=by
 obtain⟨r1,br1,l2,bl2,r3,br3,r4,br4,h⟩:=Zb4 h
 obtain rfl:=lf h
 have z:=se (dy e)<|se (NF name)<|se (NF a)<|sx zB<|Kw [0,1,0,4,15,0,63,0,255]<|sv (b9 e)<|dj (Lo br1)<|sv (cY ED (.str a) [])<|sv (dp.mk' (v:=PVal.str) NF ([a]:List af) 1 (by kernel_rfl))<|sv (dp.ap bl2)<|sv (cY ED (.str a) [])<|dj (Bu br3)<|qbT (rfl:cK (.str r3)=some [.str r3])<|qaE 4 [[.str r3]] [3,4,5,6,7] [] (qaj (m:=0) (b:=4) rfl [.str r3] rfl) (qak 4 (l:=[.str r3]) (aI trivial trivial)) (qal (qay [.str r3]))<|sf (Iu 4 (ay e))<|sf (Iu 4 (bD name))<|sf (Iu 4 (bD a))<|sf (J7 4 (p:=sl ae ([]:List ag)) (ak ay ([]:List ag)))<|sf (J7 4 (p:=sl aw ([]:List ax)) (ak aY ([]:List ax)))<|sf (J7 4 (p:=sl aA ([]:List aG)) (ak bK ([]:List aG)))<|sf (J7 4 (p:=sl ai ([]:List aj)) (ak aE ([]:List aj)))<|sv (show dQ Pg 95 [(1,.func (.func 54) [] [.eptr (cS name),.eptr (cS a)]),(0,.func (.func 55) [] [.eptr (cS a),.eptr (cS name),.eptr (cS r3)])]=some (.agg [.func (.func 55) [] [.eptr (cS a),.eptr (cS name),.eptr (cS r3)],.func (.func 54) [] [.eptr (cS name),.eptr (cS a)]]) by kernel_rfl)<|sx YM<|sx (YG [.func (.func 55) [] [.eptr (cS a),.eptr (cS name),.eptr (cS r3)],.func (.func 54) [] [.eptr (cS name),.eptr (cS a)]])<|sv (show bv Pg 95 [.func (.func 55) [] [.eptr (cS a),.eptr (cS name),.eptr (cS r3)],.func (.func 54) [] [.eptr (cS name),.eptr (cS a)]]=some (.agg [.func (.func 55) [] [.eptr (cS a),.eptr (cS name),.eptr (cS r3)],.func (.func 54) [] [.eptr (cS name),.eptr (cS a)]]) by kernel_rfl)<|sv (b9 e)<|dj (nx br4)<|sy (bE r4)<|en (aI (sj r4)<|aI (ay r4)<|rT)
 exact Z13.v (aI (ay e) (aI trivial (aI trivial trivial))) z<|by kernel_rfl
abbrev gw:=(ag->Int->Option (Bool×Int))
abbrev gu(R:gw):Prop:=∀(e:ag) (k0:Int) (r:Bool×Int),R e k0=some r->C Pg GE 64 [.agg (ae e),.func (.func 68) [] [.bptr 0 0]] [] [.cells [.int .i64 k0] []] (.bool r.1) [] [.cells [.int .i64 r.2] []]
noncomputable def qbB:Code:=f68.body.getD .skip
def qbf:List Nat:=[]
theorem Z68:ZF qbf 68 f68 qbB:=⟨call68,func68,rfl⟩
def BM(a:ag)(k0:Int):Option (Bool×Int):=
 some (true,bV (k0+1))
theorem FU{a:ag}{k0:Int}{r:Bool×Int}(h:BM a k0=some r):C Pg GE 68 [.agg (ae a),.bptr 0 0] [] [.cells [.int .i64 k0] []] (.bool r.1) [] [.cells [.int .i64 r.2] []]:=by
 obtain rfl:=lf h
 have z:=se (dy a)<|ss<|ss<|en (aI (rP (.bool true))<|aI trivial<|aI (rL [.cells [.int .i64 (bV (k0+1))] []])<|(aI (aI trivial trivial) trivial))
 exact Z68.g (m:=1) rfl z<|by kernel_rfl
end Go.Proofs.YtkdahfeiedaahaaGreatDoor
