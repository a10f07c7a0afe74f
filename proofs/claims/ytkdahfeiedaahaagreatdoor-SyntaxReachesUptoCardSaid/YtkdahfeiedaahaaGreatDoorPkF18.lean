/- PROVED: a part of the proof. Conditions: none. -/
import Derived.Test.YtkdahfeiedaahaaGreatDoorPkF17
import Derived.Test.YtkdahfeiedaahaaGreatDoorPkF10
import Derived.Shelf.SlicesE.DeleteFunc
import Derived.Shelf.SlicesE.Index
noncomputable section
namespace Go.Proofs.YtkdahfeiedaahaaGreatDoor
open Go Go.Proofs.Tryz
set_option linter.unusedVariables false
set_option maxRecDepth 100000
abbrev dX:=(ag->waA->waA->Option waA)
abbrev dW(R:dX):Prop:=∀(e:ag) (hidden:waA) (k0:waA) (r:waA),R e hidden k0=some r->C Pg GE 79 [.agg (ae e),sl cS hidden,.func (.func 87) [] [.bptr 0 0]] [] [.cells [sl cS k0] [(0,9)]] (.tuple []) [] [.cells [sl cS r] [(0,9)]]
noncomputable def qbF:Code:=f87.body.getD .skip
def qbj:List Nat:=[6]
theorem Z87:ZF qbj 87 f87 qbF:=⟨call87,func87,rfl⟩
def qC(a:ag)(k0:waA):Option waA:=
 if(a.Op==5)=true then
  (app k0 ([a.Name]:List af)).bind fun l3=>
  some l3
 else
  some k0
theorem FP{a:ag}{k0:waA}{r:waA}(h:qC a k0=some r):C Pg GE 87 [.agg (ae a),.bptr 0 0] [] [.cells [sl cS k0] [(0,9)]] (.tuple []) [] [.cells [sl cS r] [(0,9)]]:=by
 have p2:=fun{sc F} (r:PS sc F)=>se (dy a)<|sv (dZ a)<|sv (d7 a)<|r
 rcases aQ h with⟨c1,h⟩|⟨c1,h⟩
 ·obtain⟨l3,bl3,h⟩:=cP h
  obtain rfl:=lf h
  have z:=p2<|sg 0 c1<|sv (eJ a)<|sv (ft a)<|sv (dp.mk' (v:=PVal.str) NF ([a.Name]:List af) 1 (by kernel_rfl))<|sv (dp.ap bl3)<|en (aI (rP (.tuple []))<|aI trivial<|aI (rL [.cells [sl cS l3] [(0,9)]])<|(aI (aI (up (n:=1) (ak bD l3)) trivial) trivial))
  exact Z87.g (m:=1) rfl z<|by kernel_rfl
 ·obtain rfl:=lf h
  have z:=p2<|sg 0 c1<|en (aI (rP (.tuple []))<|aI trivial<|aI (rL [.cells [sl cS k0] [(0,9)]])<|(aI (aI (up (n:=1) (ak bD k0)) trivial) trivial))
  exact Z87.g (m:=1) rfl z<|by kernel_rfl
section
variable(hidden:waA)(e:ag)(m:waA)
def rq:aB:=bg 57 [(1,sl cS hidden),(2,.func (.func 87) [] [.bptr 0 0]),(3,.eptr (ae e))] [.cells [sl cS m] [(0,9)],.dead] []
def gi(o:Bool):aB:=bg 57 [(1,sl cS hidden),(2,.func (.func 87) [] [.bptr 0 0]),(3,.eptr (ae e)),(18,.bool o)] [.cells [sl cS m] [(0,9)],.dead] []
def iq:Option Bool:=
 (fD e).bind fun r1=>
 if r1=true then
  (pA hidden e.Name).bind fun r4=>
  some (decide (r4<0))
 else
  some false
theorem qR{x:Bool}(h:iq hidden e=some x):bh Pg GE 1 (cA QF 12) (EX .normal (gi hidden e m x)) (rq hidden e m):=by
 obtain⟨r1,br1,h⟩:=cP h
 have p3:=fun{sc F} (r:PS sc F)=>sv (b9 e)<|dj (jI br1)<|r
 rcases aQ h with⟨c2,h⟩|⟨c2,h⟩
 ·obtain⟨r4,br4,h⟩:=cP h
  obtain rfl:=lf h
  exact bF ND (p3<|sg 3 c2<|sv (eJ e)<|sv (ft e)<|dj (xQ br4)<|eF .normal (gi hidden e m (decide (r4<0))))<|by kernel_rfl
 ·obtain rfl:=lf h
  exact bF ND (p3<|sg 3 c2<|eF .normal (gi hidden e m false))<|by kernel_rfl
end
section
variable(hidden:waA)(e:ag)(m:waA)
def rm:aB:=bg 57 [(1,sl cS hidden),(2,.func (.func 87) [] [.bptr 0 0]),(3,.eptr (ae e))] [.cells [sl cS m] [(0,9)],.dead] []
def gh(o:waA):aB:=bg 57 [(1,sl cS hidden),(2,.func (.func 87) [] [.bptr 0 0]),(3,.eptr (ae e))] [.cells [sl cS o] [(0,9)],.dead] []
def ip:Option waA:=
 (iq hidden e).bind fun o5=>
 if o5=true then
  (qC e m).bind fun r8=>
  some r8
 else
  some m
theorem qQ{x:waA}(h:ip hidden e m=some x):bh Pg GE 1 (cA QF 6) (EX .normal (gh hidden e x)) (rm hidden e m):=by
 obtain⟨o5,bo5,h⟩:=cP h
 have p7:=fun{sc F} (r:PS sc F)=>rh 0<|du (qR hidden e m bo5)<|r
 rcases aQ h with⟨c6,h⟩|⟨c6,h⟩
 ·obtain⟨r8,br8,h⟩:=cP h
  obtain rfl:=lf h
  exact bF ND (p7<|sg 0 c6<|sv (b9 e)<|si (.cg ⟨[0],[.agg (ae e),.bptr 0 0],[],[.cells [sl cS m] [(0,9)]],[.cells [sl cS m] [(0,9)]],[.cells [sl cS r8] [(0,9)]],[.cells [sl cS r8] [(0,9)]],.tuple [],.tuple [],[]⟩) (FP br8)<|sf (aI (xR [0] (.agg (ae e)) (ay e)) (aI (xB [0] 0 0 0 rfl) trivial))<|sf (aI (aI (rB (.cells [sl cS m] [(0,9)])) (aI (rW [(0,9)]) (aI (xR [0] (sl cS m) (ak bD m)) trivial))) trivial)<|sf (aI (aI (rW [(0,9)]) (aI (xR [0] (sl cS r8) (ak bD r8)) trivial)) trivial)<|sf (xR [0] (.tuple []) trivial)<|eF .normal (gh hidden e r8))<|by kernel_rfl
 ·obtain rfl:=lf h
  exact bF ND (p7<|sg 0 c6<|eF .normal (gh hidden e m))<|by kernel_rfl
end
section
variable(R152:dX)(hidden:waA)(e:ag)(t23:waF)(t24:Int)(t25:Int)(m:waA)
def eB:aB:=bg 57 [(1,sl cS hidden),(2,.func (.func 87) [] [.bptr 0 0]),(3,.eptr (ae e)),(23,sl ae t23),(24,.int .i64 t24),(25,.int .i64 t25)] [.cells [sl cS m] [(0,9)],.dead] []
def gj(o:waA):aB:=bg 57 [(1,sl cS hidden),(2,.func (.func 87) [] [.bptr 0 0]),(3,.eptr (ae e))] [.cells [sl cS o] [(0,9)],.dead] []
def bZ:Option ((Int×waA)⊕(waA)):=
 if(decide (t25<t24))=true then
  (gn t23 t25).bind fun x11=>
  (px hidden).bind fun r12=>
  (oM e t25).bind fun r13=>
  (app r12 r13).bind fun l14=>
  (R152 x11 l14 m).bind fun r15=>
  some (.inl (bV (t25+1),r15))
 else
  some (.inr m)
def ff:Option waA:=loop (fun(zz:Int×waA)=>bZ R152 hidden e t23 t24 zz.1 zz.2) (t25,m)
theorem pW(hR152:dW R152){y:(Int×waA)⊕(waA)}(h:bZ R152 hidden e t23 t24 t25 m=some y):bh Pg GE 1 (cA QF 119) (LQ (fun(zz:Int×waA)=>eB hidden e t23 t24 zz.1 zz.2) (fun _=>.exit 0) (gj hidden e) y) (eB hidden e t23 t24 t25 m):=by
 rcases aQ h with⟨c10,h⟩|⟨c10,h⟩
 ·obtain⟨x11,bx11,r12,br12,r13,br13,l14,bl14,h⟩:=Zb4 h
  obtain⟨r15,br15,h⟩:=cP h
  obtain rfl:=lf h
  have z:=sg 0 c10<|sv (jt.ia (k:=.i64) bx11)<|sv (b9 x11)<|sx zB<|sx (lb x11)<|sk<|Xx (.dx [0,0,2,0,0,30,62,0] [] [] [])<|sv (ce x11 [])<|dj (tj br12)<|sv (b9 e)<|dj (yM br13)<|sv (dp.ap bl14)<|si (.cg ⟨[0],[.agg (ae x11),sl cS l14,.func (.func 87) [] [.bptr 0 0]],[],[.cells [sl cS m] [(0,9)]],[.cells [sl cS m] [(0,9)]],[.cells [sl cS r15] [(0,9)]],[.cells [sl cS r15] [(0,9)]],.tuple [],.tuple [],[]⟩) (hR152 _ _ _ _ br15)<|sf (aI (xR [0] (.agg (ae x11)) (ay x11)) (aI (xR [0] (sl cS l14) (ak bD l14)) (aI (xF [0] (.func 87) [] [.bptr 0 0] [] [.bptr 0 0] trivial (aI (xB [0] 0 0 0 rfl) trivial)) trivial)))<|sf (aI (aI (rB (.cells [sl cS m] [(0,9)])) (aI (rW [(0,9)]) (aI (xR [0] (sl cS m) (ak bD m)) trivial))) trivial)<|sf (aI (aI (rW [(0,9)]) (aI (xR [0] (sl cS r15) (ak bD r15)) trivial)) trivial)<|sf (xR [0] (.tuple []) trivial)<|ue 1 .normal (eB hidden e t23 t24 (bV (t25+1)) r15) rfl (dU (aI (up (ak bD hidden)) (aI (aI trivial (aI (aW rfl) trivial)) (aI (aZ (ay e)) (aI (up (ak ay t23)) (aI trivial (aI trivial trivial))))))) (aI (aI (up (ak bD r15)) trivial) (aI trivial trivial))
  exact ed (A:=ND) mixed z<|by kernel_rfl
 ·obtain rfl:=lf h
  have z:=sg 0 c10<|eF (.exit 0) (gj hidden e m)
  exact jy ND (Zn rfl) z<|by kernel_rfl
theorem qS(hR152:dW R152){x:waA}(h:ff R152 hidden e t23 t24 t25 m=some x):bh Pg GE 1 (.loop (cA QF 119)) (EX (.exit 0) (gj hidden e x)) (eB hidden e t23 t24 t25 m):=
 ZL h fun _ _ hy=>pW _ hidden _ _ _ _ _ hR152 hy
end
section
variable(R152:dX)(hidden:waA)(t41:waD)(t42:Int)(t43:Int)(m:waA)
def eC:aB:=bg 57 [(1,sl cS hidden),(2,.func (.func 87) [] [.bptr 0 0]),(41,sl aA t41),(42,.int .i64 t42),(43,.int .i64 t43)] [.cells [sl cS m] [(0,9)],.dead] []
def gk(o:waA):aB:=bg 57 [] [.cells [sl cS o] [(0,9)],.dead] []
def b7:Option ((Int×waA)⊕(waA)):=
 if(decide (t43<t42))=true then
  (gn t41 t43).bind fun x18=>
  (px hidden).bind fun r19=>
  (app r19 x18.Names).bind fun l20=>
  (R152 x18.Body l20 m).bind fun r21=>
  some (.inl (bV (t43+1),r21))
 else
  some (.inr m)
def fg:Option waA:=loop (fun(zz:Int×waA)=>b7 R152 hidden t41 t42 zz.1 zz.2) (t43,m)
theorem pX(hR152:dW R152){y:(Int×waA)⊕(waA)}(h:b7 R152 hidden t41 t42 t43 m=some y):bh Pg GE 1 (cA QF 127) (LQ (fun(zz:Int×waA)=>eC hidden t41 t42 zz.1 zz.2) (fun _=>.exit 2) gk y) (eC hidden t41 t42 t43 m):=by
 rcases aQ h with⟨c17,h⟩|⟨c17,h⟩
 ·obtain⟨x18,bx18,r19,br19,l20,bl20,r21,br21,h⟩:=Zb4 h
  obtain rfl:=lf h
  have z:=sg 0 c17<|sv (fO.ia (k:=.i64) bx18)<|sv (mH x18)<|sx G4<|sx (jz x18)<|sk<|Xx (.dx [0,1,0,4,0,16,60,0] [] [] [])<|sv (ce x18.Body [])<|dj (tj br19)<|ss<|sv (dp.ap bl20)<|si (.cg ⟨[0],[.agg (ae x18.Body),sl cS l20,.func (.func 87) [] [.bptr 0 0]],[],[.cells [sl cS m] [(0,9)]],[.cells [sl cS m] [(0,9)]],[.cells [sl cS r21] [(0,9)]],[.cells [sl cS r21] [(0,9)]],.tuple [],.tuple [],[]⟩) (hR152 _ _ _ _ br21)<|sf (aI (xR [0] (.agg (ae x18.Body)) (ay x18.Body)) (aI (xR [0] (sl cS l20) (ak bD l20)) (aI (xF [0] (.func 87) [] [.bptr 0 0] [] [.bptr 0 0] trivial (aI (xB [0] 0 0 0 rfl) trivial)) trivial)))<|sf (aI (aI (rB (.cells [sl cS m] [(0,9)])) (aI (rW [(0,9)]) (aI (xR [0] (sl cS m) (ak bD m)) trivial))) trivial)<|sf (aI (aI (rW [(0,9)]) (aI (xR [0] (sl cS r21) (ak bD r21)) trivial)) trivial)<|sf (xR [0] (.tuple []) trivial)<|ue 1 .normal (eC hidden t41 t42 (bV (t43+1)) r21) rfl (dU (aI (up (ak bD hidden)) (aI (aI trivial (aI (aW rfl) trivial)) (aI (up (ak bK t41)) (aI trivial (aI trivial trivial)))))) (aI (aI (up (ak bD r21)) trivial) (aI trivial trivial))
  exact ed (A:=ND) mixed z<|by kernel_rfl
 ·obtain rfl:=lf h
  have z:=sg 0 c17<|eF (.exit 2) (gk m)
  exact jy ND (Zn rfl) z<|by kernel_rfl
theorem qT(hR152:dW R152){x:waA}(h:fg R152 hidden t41 t42 t43 m=some x):bh Pg GE 1 (.loop (cA QF 127)) (EX (.exit 2) (gk x)) (eC hidden t41 t42 t43 m):=
 ZL h fun _ _ hy=>pX _ hidden _ _ _ _ hR152 hy
end
def fA(R152:dX)(e:ag)(hidden:waA)(k0:waA):Option waA:=
 (ip hidden e k0).bind fun o9=>
 (ff R152 hidden e e.Kids (e.Kids.length:Int) 0 o9).bind fun o16=>
 (fg R152 hidden e.Alts (e.Alts.length:Int) 0 o16).bind fun o22=>
 some o22
theorem sD(R152:dX)(hR152:dW R152){e:ag}{hidden:waA}{k0:waA}{r:waA}(h:fA R152 e hidden k0=some r):C Pg GE 79 [.agg (ae e),sl cS hidden,.func (.func 87) [] [.bptr 0 0]] [] [.cells [sl cS k0] [(0,9)]] (.tuple []) [] [.cells [sl cS r] [(0,9)]]:=by
 obtain⟨o9,bo9,o16,bo16,o22,bo22,h⟩:=Zb3 h
 obtain rfl:=lf h
 have z:=se (dy e)<|rh 0<|du (qQ hidden e k0 bo9)<|sv (bw e)<|sv (bz e)<|bW (jt.ln e.Kids)<|du (qS R152 hidden e e.Kids (e.Kids.length:Int) 0 o9 hR152 bo16)<|sv (aK e)<|sv (aL e)<|bW (fO.ln e.Alts)<|du (qT R152 hidden e.Alts (e.Alts.length:Int) 0 o16 hR152 bo22)<|en (aI (rP (.tuple []))<|aI trivial<|aI (rL [.cells [sl cS o22] [(0,9)]])<|(aI (aI (up (n:=1) (ak bD o22)) trivial) trivial))
 exact C.evGp (A:=ND) mixed (m:=1) (c:=QF) rfl call79 func79 rfl z<|by kernel_rfl
def iQ:((ag×waA×waA)->Option waA)->(ag×waA×waA)->Option waA:=fun(rec:(ag×waA×waA)->Option waA) (x:ag×waA×waA)=>fA (fun e hidden k0=>rec (e,hidden,k0)) x.1 x.2.1 x.2.2
def jG(e:ag)(hidden:waA)(k0:waA):Option waA:=tn iQ (e,hidden,k0)
theorem tC{e:ag}{hidden:waA}{k0:waA}{r:waA}(h:jG e hidden k0=some r):C Pg GE 79 [.agg (ae e),sl cS hidden,.func (.func 87) [] [.bptr 0 0]] [] [.cells [sl cS k0] [(0,9)]] (.tuple []) [] [.cells [sl cS r] [(0,9)]]:=
 fj (F:=iQ) (M:=fun(x:ag×waA×waA) (r:waA)=>C Pg GE 79 [.agg (ae x.1),sl cS x.2.1,.func (.func 87) [] [.bptr 0 0]] [] [.cells [sl cS x.2.2] [(0,9)]] (.tuple []) [] [.cells [sl cS r] [(0,9)]]) (fun rec hrec x r h=>sD _ (fun e hidden k0 r h=>hrec (e,hidden,k0) r h) h) h
noncomputable def qbr:Code:=f29.body.getD .skip
def qa5:List Nat:=[7]
theorem Z29:ZF qa5 29 f29 qbr:=⟨call29,func29,rfl⟩
def uT(e:ag):Option waA:=
 (jG e ([]:List af) ([]:List af)).bind fun r1=>
 some r1
theorem IC{e:ag}{r:waA}(h:uT e=some r):CC Pg GE 29 [.agg (ae e)] (sl cS r) [(0,9)]:=by
 obtain⟨r1,br1,h⟩:=cP h
 obtain rfl:=lf h
 have z:=se (dy e)<|sx YJ<|sv (b9 e)<|si (.cg ⟨[1],[.agg (ae e),sl cS ([]:List af),.func (.func 87) [] [.bptr 0 0]],[],[.cells [sl cS ([]:List af)] [(0,9)]],[.cells [sl cS ([]:List af)] [(0,9)]],[.cells [sl cS r1] [(0,9)]],[.cells [sl cS r1] [(0,9)]],.tuple [],.tuple [],[]⟩) (tC br1)<|sf (aI (xR [1] (.agg (ae e)) (ay e)) (aI (xR [1] (sl cS ([]:List af)) (ak bD ([]:List af))) (aI (xF [1] (.func 87) [] [.bptr 1 0] [] [.bptr 0 0] trivial (aI (xB [1] 0 1 0 rfl) trivial)) trivial)))<|sf (aI (aI (rB (.cells [sl cS ([]:List af)] [(0,9)])) (aI (rW [(0,9)]) (aI (xR [1] (sl cS ([]:List af)) (ak bD ([]:List af))) trivial))) trivial)<|sf (aI (aI (rW [(0,9)]) (aI (xR [1] (sl cS r1) (ak bD r1)) trivial)) trivial)<|sf (xR [1] (.tuple []) trivial)<|en (aI (rP (sl cS r1))<|(ak bD r1))
 exact Z29.v (aI (ay e) trivial) z<|by kernel_rfl
noncomputable def Vp:Code:=f32.body.getD .skip
def Qv:List Nat:=[43]
theorem Z32:ZF Qv 32 f32 Vp:=⟨call32,func32,rfl⟩
section
variable(m:aP)
def Mx:aB:=bg 93 [(1,.eptr (az m))] [.dead] []
def uy(o:Bool):aB:=bg 93 [(1,.eptr (az m)),(23,.bool o)] [.dead] []
def DM:Option Bool:=
 if(decide ((m.Datas.length:Int)>30))=true then
  some true
 else
  if(decide ((m.Instances.length:Int)>30))=true then
   some true
  else
   some (decide ((m.Defs.length:Int)>30))
theorem KT{x:Bool}(h:DM m=some x):bh Pg GE 0 (cA Vp 12) (EX .normal (uy m x)) (Mx m):=by
 have p2:=fun{sc F} (r:PS sc F)=>sv (tH m)<|sv (tJ m)<|bW (Xw.ln m.Datas)<|r
 rcases aQ h with⟨c1,h⟩|⟨c1,h⟩
 ·obtain rfl:=lf h
  exact bF Qv (p2<|sg 5 c1<|eF .normal (uy m true))<|by kernel_rfl
 ·have p4:=fun{sc F} (r:PS sc F)=>p2<|sg 5 c1<|sv (oV m)<|sv (oX m)<|bW (Wf.ln m.Instances)<|r
  rcases aQ h with⟨c3,h⟩|⟨c3,h⟩
  ·obtain rfl:=lf h
   exact bF Qv (p4<|sg 11 c3<|eF .normal (uy m true))<|by kernel_rfl
  ·obtain rfl:=lf h
   exact bF Qv (p4<|sg 11 c3<|sv (fq m)<|sv (fu m)<|bW (zD.ln m.Defs)<|eF .normal (uy m (decide ((m.Defs.length:Int)>30))))<|by kernel_rfl
end
section
variable(m:aP)(v:waJ)(i:Int)
def uz:aB:=bg 93 [(1,.eptr (az m)),(3,sl bH v),(4,.int .i64 i)] [.dead] [((3,0),64)]
def uA(o:Unit⊕(waJ)):Exit:=match o with
 |(.inl _)=>.ret
 |(.inr _)=>.exit 0
def lE(o:Unit⊕(waJ)):aB:=match o with
 |(.inl o)=>bg 93 [(2,.bool false)] [.dead] []
 |(.inr o)=>bg 93 [(1,.eptr (az m)),(3,sl bH o)] [.dead] [((3,0),64)]
def nB:Option ((waJ×Int)⊕(Unit⊕(waJ))):=
 if(decide (i<(m.Instances.length:Int)))=true then
  (gn m.Instances i).bind fun x11=>
  if(decide ((x11.Defs.length:Int)>30))=true then
   some (.inr (.inl ()))
  else
   (gn m.Instances i).bind fun x14=>
   (app v x14.Defs).bind fun l15=>
   some (.inl (l15,bV (i+1)))
 else
  some (.inr (.inr v))
def DN:Option (Unit⊕(waJ)):=loop (fun(zz:waJ×Int)=>nB m zz.1 zz.2) (v,i)
theorem Jp{y:(waJ×Int)⊕(Unit⊕(waJ))}(h:nB m v i=some y):bh Pg GE 0 (cA Vp 247) (LQ (fun(zz:waJ×Int)=>uz m zz.1 zz.2) uA (lE m) y) (uz m v i):=by
 have p10:=fun{sc F} (r:PS sc F)=>sv (oV m)<|sv (oX m)<|bW (Wf.ln m.Instances)<|r
 rcases aQ h with⟨c9,h⟩|⟨c9,h⟩
 ·obtain⟨x11,bx11,h⟩:=cP h
  have p13:=fun{sc F} (r:PS sc F)=>p10<|sg 0 c9<|sv (oV m)<|sv (oX m)<|sv (Wf.ia (k:=.i64) bx11)<|sv (vK x11)<|sv (vP x11)<|bW (zD.ln x11.Defs)<|r
  rcases aQ h with⟨c12,h⟩|⟨c12,h⟩
  ·obtain rfl:=lf h
   have z:=p13<|sg 0 c12<|eF (uA (.inl ())) (lE m (.inl ()))
   exact jy Qv (Zn rfl) z<|by kernel_rfl
  ·obtain⟨x14,bx14,l15,bl15,h⟩:=Zb2 h
   obtain rfl:=lf h
   exact AC Qv (p13<|sg 0 c12<|sv (oV m)<|sv (oX m)<|sv (Wf.ia (k:=.i64) bx14)<|sv (vK x14)<|sv (vP x14)<|sv (zD.ap bl15)<|eF .normal (uz m l15 (bV (i+1))))<|by kernel_rfl
 ·obtain rfl:=lf h
  have z:=p10<|sg 0 c9<|eF (uA (.inr v)) (lE m (.inr v))
  exact jy Qv (Zn rfl) z<|by kernel_rfl
theorem xK{x:Unit⊕(waJ)}(h:DN m v i=some x):bh Pg GE 0 (.loop (cA Vp 247)) (EX (uA x) (lE m x)) (uz m v i):=
 ZL h fun _ _ hy=>Jp _ _ _ hy
end
section
variable(m:aP)(v:waJ)(n:Int)(i:Int)
def My:aB:=bg 93 [(1,.eptr (az m)),(3,sl bH v),(5,.int .i64 n),(6,.int .i64 i)] [.dead] [((3,0),64)]
def zd(o:Bool):aB:=bg 93 [(1,.eptr (az m)),(3,sl bH v),(5,.int .i64 n),(6,.int .i64 i),(58,.bool o)] [.dead] [((3,0),64)]
def zc:Option Bool:=
 if(decide (i<(v.length:Int)))=true then
  some (decide (n<=2000))
 else
  some false
theorem KU{x:Bool}(h:zc v n i=some x):bh Pg GE 0 (cA Vp 4060) (EX .normal (zd m v n i x)) (My m v n i):=by
 rcases aQ h with⟨c17,h⟩|⟨c17,h⟩
 ·obtain rfl:=lf h
  exact bF Qv (bW (zD.ln v)<|sg 5 c17<|eF .normal (zd m v n i (decide (n<=2000))))<|by kernel_rfl
 ·obtain rfl:=lf h
  exact bF Qv (bW (zD.ln v)<|sg 5 c17<|eF .normal (zd m v n i false))<|by kernel_rfl
end
section
variable(m:aP)(v:waJ)(n:Int)(i:Int)
def uB:aB:=bg 93 [(1,.eptr (az m)),(3,sl bH v),(5,.int .i64 n),(6,.int .i64 i)] [.dead] [((3,0),64)]
def ze(o:Int):aB:=bg 93 [(1,.eptr (az m)),(5,.int .i64 o)] [.dead] []
def nC:Option ((Int×Int)⊕(Int)):=
 (zc v n i).bind fun o18=>
 if o18=true then
  (gn v i).bind fun x21=>
  (gn v i).bind fun x22=>
  (I8 x22.Body 2000).bind fun r23=>
  some (.inl (bV ((bV (n+(x21.Params.length:Int)))+r23),bV (i+1)))
 else
  some (.inr n)
def DO:Option Int:=loop (fun(zz:Int×Int)=>nC v zz.1 zz.2) (n,i)
theorem Jq{y:(Int×Int)⊕(Int)}(h:nC v n i=some y):bh Pg GE 0 (cA Vp 1015) (LQ (fun(zz:Int×Int)=>uB m v zz.1 zz.2) (fun _=>.exit 2) (ze m) y) (uB m v n i):=by
 obtain⟨o18,bo18,h⟩:=cP h
 have p20:=fun{sc F} (r:PS sc F)=>rh 1<|du (KU m v n i bo18)<|r
 rcases aQ h with⟨c19,h⟩|⟨c19,h⟩
 ·obtain⟨x21,bx21,x22,bx22,r23,br23,h⟩:=Zb3 h
  obtain rfl:=lf h
  exact AC Qv (p20<|sg 0 c19<|Kw [0,0,0,6,14,30,62,127,0,0,768,1792,3840,7936,16383,32767]<|sv (zD.ia (k:=.i64) bx21)<|sv (zo x21)<|sv (zt x21)<|bW (dp.ln x21.Params)<|sv (zD.ia (k:=.i64) bx22)<|sv (uK x22)<|sv (uN x22)<|dj (NL br23)<|eF .normal (uB m v (bV ((bV (n+(x21.Params.length:Int)))+r23)) (bV (i+1))))<|by kernel_rfl
 ·obtain rfl:=lf h
  have z:=p20<|sg 0 c19<|eF (.exit 2) (ze m n)
  exact jy Qv (Zn rfl) z<|by kernel_rfl
theorem C6{x:Int}(h:DO v n i=some x):bh Pg GE 0 (.loop (cA Vp 1015)) (EX (.exit 2) (ze m x)) (uB m v n i):=
 ZL h fun _ _ hy=>Jq _ _ _ _ hy
end
section
variable(m:aP)(n:Int)(i:Int)
def uC:aB:=bg 93 [(1,.eptr (az m)),(5,.int .i64 n),(7,.int .i64 i)] [.dead] []
def uE(o:Unit⊕(Unit)):Exit:=match o with
 |(.inl _)=>.ret
 |(.inr _)=>.exit 4
def nD(o:Unit⊕(Unit)):aB:=match o with
 |(.inl o)=>bg 93 [(2,.bool false)] [.dead] []
 |(.inr o)=>bg 93 [(5,.int .i64 n)] [.dead] []
def uD:Option (Int⊕(Unit⊕(Unit))):=
 if(decide (i<(m.Datas.length:Int)))=true then
  (gn m.Datas i).bind fun x27=>
  if(decide ((x27.Cons.length:Int)>30))=true then
   some (.inr (.inl ()))
  else
   some (.inl (bV (i+1)))
 else
  some (.inr (.inr ()))
def DP:Option (Unit⊕(Unit)):=loop (fun(zz:Int)=>uD m zz) i
theorem Jr{y:Int⊕(Unit⊕(Unit))}(h:uD m i=some y):bh Pg GE 0 (cA Vp 2039) (LQ (fun(zz:Int)=>uC m n zz) uE (nD n) y) (uC m n i):=by
 have p26:=fun{sc F} (r:PS sc F)=>sv (tH m)<|sv (tJ m)<|bW (Xw.ln m.Datas)<|r
 rcases aQ h with⟨c25,h⟩|⟨c25,h⟩
 ·obtain⟨x27,bx27,h⟩:=cP h
  have p29:=fun{sc F} (r:PS sc F)=>p26<|sg 0 c25<|sv (tH m)<|sv (tJ m)<|sv (Xw.ia (k:=.i64) bx27)<|sv (K6 x27)<|sv (La x27)<|bW (qaA.ln x27.Cons)<|r
  rcases aQ h with⟨c28,h⟩|⟨c28,h⟩
  ·obtain rfl:=lf h
   have z:=p29<|sg 0 c28<|eF (uE (.inl ())) (nD n (.inl ()))
   exact jy Qv (Zn rfl) z<|by kernel_rfl
  ·obtain rfl:=lf h
   exact AC Qv (p29<|sg 0 c28<|eF .normal (uC m n (bV (i+1))))<|by kernel_rfl
 ·obtain rfl:=lf h
  have z:=p26<|sg 0 c25<|eF (uE (.inr ())) (nD n (.inr ()))
  exact jy Qv (Zn rfl) z<|by kernel_rfl
theorem C7{x:Unit⊕(Unit)}(h:DP m i=some x):bh Pg GE 0 (.loop (cA Vp 2039)) (EX (uE x) (nD n x)) (uC m n i):=
 ZL h fun _ _ hy=>Jr _ _ _ hy
end
def IL(m:aP):Option Bool:=
 (DM m).bind fun o5=>
 if o5=true then
  some false
 else
  (app ([]:List eA) m.Defs).bind fun l8=>
  (DN m l8 0).bind fun o16=>match o16 with
  |(.inl o16)=>
   some false
  | (.inr o16) =>
   (DO o16 0 0).bind fun o24=>
   (DP m 0).bind fun o30=>match o30 with
   |(.inl o30)=>
    some false
   |(.inr o30)=>
    some (decide (o24<=2000))
theorem Pr{m:aP}{r:Bool}(h:IL m=some r):CC Pg GE 32 [.agg (az m)] (.bool r) []:=by
 obtain⟨o5,bo5,h⟩:=cP h
 have p7:=fun{sc F} (r:PS sc F)=>se (vT m)<|rh 1<|du (KT m bo5)<|r
 rcases aQ h with⟨c6,h⟩|⟨c6,h⟩
 ·obtain rfl:=lf h
  have z:=p7<|sg 0 c6<|en (aI (rP (.bool false))<|trivial)
  exact Z32.v (aI (cX m) trivial) z<|by kernel_rfl
 ·obtain⟨l8,bl8,o16,bo16,h⟩:=Zb2 h
  rcases o16 with o16|o16
  ·obtain rfl:=lf h
   have z:=p7<|sg 0 c6<|sv (zD.mk' (v:=Nz) Kd ([]:List eA) 0 (by kernel_rfl))<|sv (fq m)<|sv (fu m)<|sv (zD.ap bl8)<|du (e:=.ret) (s1:=lE m (.inl o16)) (xK m l8 0 bo16)<|en (aI (rP (.bool false))<|trivial)
   exact Z32.v (aI (cX m) trivial) z<|by kernel_rfl
  ·obtain⟨o24,bo24,o30,bo30,h⟩:=Zb2 h
   rcases o30 with o30|o30
   ·obtain rfl:=lf h
    have z:=p7<|sg 0 c6<|sv (zD.mk' (v:=Nz) Kd ([]:List eA) 0 (by kernel_rfl))<|sv (fq m)<|sv (fu m)<|sv (zD.ap bl8)<|du (e:=.exit 0) (s1:=lE m (.inr o16)) (xK m l8 0 bo16)<|du (C6 m o16 0 0 bo24)<|du (e:=.ret) (s1:=nD o24 (.inl o30)) (C7 m o24 0 bo30)<|en (aI (rP (.bool false))<|trivial)
    exact Z32.v (aI (cX m) trivial) z<|by kernel_rfl
   ·obtain rfl:=lf h
    have z:=p7<|sg 0 c6<|sv (zD.mk' (v:=Nz) Kd ([]:List eA) 0 (by kernel_rfl))<|sv (fq m)<|sv (fu m)<|sv (zD.ap bl8)<|du (e:=.exit 0) (s1:=lE m (.inr o16)) (xK m l8 0 bo16)<|du (C6 m o16 0 0 bo24)<|du (e:=.exit 4) (s1:=nD o24 (.inr o30)) (C7 m o24 0 bo30)<|en (aI (rP (.bool (decide (o24<=2000))))<|trivial)
    exact Z32.v (aI (cX m) trivial) z<|by kernel_rfl
noncomputable def Z0:Code:=f33.body.getD .skip
def YT:List Nat:=[]
theorem Z33:ZF YT 33 f33 Z0:=⟨call33,func33,rfl⟩
section
variable(name:af)(t9:waJ)(t10:Int)(t11:Int)(m:af)(m2:waA)(m3:Int)(m4:af)(m5:Int)(m6:waF)(m7:waE)(m8:waD)(m9:waB)(m10:Int)(m11:Bool)(m12:waA)(m13:waG)(m14:waH)(m15:waI)(m16:Int)(m17:af)(m18:waB)(m19:waA)(m20:Int)(m21:af)(m22:Int)(m23:waC)(m24:waC)(m25:waC)
def po:aB:=bg 22 [(1,.str name),(4,.bptr 1 0),(9,sl bH t9),(10,.int .i64 t10),(11,.int .i64 t11)] [.dead,.cells [.str m,sl cS m2,.int .i64 m3,.str m4,.int .i64 m5,sl ae m6,sl aw m7,sl aA m8,sl ai m9,.int .i64 m10,.bool m11,sl cS m12,sl gX m13,sl lH m14,sl fH m15,.int .i64 m16,.str m17,sl ai m18,sl cS m19,.int .i64 m20,.str m21,.int .i64 m22,sl al m23,sl al m24,sl al m25] [(1,9),(5,28),(6,85),(7,89),(8,60),(11,9),(12,250),(13,252),(14,254),(17,60),(18,9),(22,58),(23,58),(24,58)]] []
def pp(o:(af×waA×Int×af×Int×waF×waE×waD×waB×Int×Bool×waA×waG×waH×waI×Int×af×waB×waA×Int×af×Int×waC×waC×waC)⊕(af×waA×Int×af×Int×waF×waE×waD×waB×Int×Bool×waA×waG×waH×waI×Int×af×waB×waA×Int×af×Int×waC×waC×waC)):Exit:=match o with
 |(.inl _)=>.ret
 |(.inr _)=>.exit 0
def j9(o:(af×waA×Int×af×Int×waF×waE×waD×waB×Int×Bool×waA×waG×waH×waI×Int×af×waB×waA×Int×af×Int×waC×waC×waC)⊕(af×waA×Int×af×Int×waF×waE×waD×waB×Int×Bool×waA×waG×waH×waI×Int×af×waB×waA×Int×af×Int×waC×waC×waC)):aB:=match o with
 |(.inl o)=>bg 22 [(4,.bptr 1 0),(5,.bool true)] [.dead,.cells [.str o.1,sl cS o.2.1,.int .i64 o.2.2.1,.str o.2.2.2.1,.int .i64 o.2.2.2.2.1,sl ae o.2.2.2.2.2.1,sl aw o.2.2.2.2.2.2.1,sl aA o.2.2.2.2.2.2.2.1,sl ai o.2.2.2.2.2.2.2.2.1,.int .i64 o.2.2.2.2.2.2.2.2.2.1,.bool o.2.2.2.2.2.2.2.2.2.2.1,sl cS o.2.2.2.2.2.2.2.2.2.2.2.1,sl gX o.2.2.2.2.2.2.2.2.2.2.2.2.1,sl lH o.2.2.2.2.2.2.2.2.2.2.2.2.2.1,sl fH o.2.2.2.2.2.2.2.2.2.2.2.2.2.2.1,.int .i64 o.2.2.2.2.2.2.2.2.2.2.2.2.2.2.2.1,.str o.2.2.2.2.2.2.2.2.2.2.2.2.2.2.2.2.1,sl ai o.2.2.2.2.2.2.2.2.2.2.2.2.2.2.2.2.2.1,sl cS o.2.2.2.2.2.2.2.2.2.2.2.2.2.2.2.2.2.2.1,.int .i64 o.2.2.2.2.2.2.2.2.2.2.2.2.2.2.2.2.2.2.2.1,.str o.2.2.2.2.2.2.2.2.2.2.2.2.2.2.2.2.2.2.2.2.1,.int .i64 o.2.2.2.2.2.2.2.2.2.2.2.2.2.2.2.2.2.2.2.2.2.1,sl al o.2.2.2.2.2.2.2.2.2.2.2.2.2.2.2.2.2.2.2.2.2.2.1,sl al o.2.2.2.2.2.2.2.2.2.2.2.2.2.2.2.2.2.2.2.2.2.2.2.1,sl al o.2.2.2.2.2.2.2.2.2.2.2.2.2.2.2.2.2.2.2.2.2.2.2.2] []] []
 |(.inr o)=>bg 22 [(4,.bptr 1 0)] [.dead,.cells [.str o.1,sl cS o.2.1,.int .i64 o.2.2.1,.str o.2.2.2.1,.int .i64 o.2.2.2.2.1,sl ae o.2.2.2.2.2.1,sl aw o.2.2.2.2.2.2.1,sl aA o.2.2.2.2.2.2.2.1,sl ai o.2.2.2.2.2.2.2.2.1,.int .i64 o.2.2.2.2.2.2.2.2.2.1,.bool o.2.2.2.2.2.2.2.2.2.2.1,sl cS o.2.2.2.2.2.2.2.2.2.2.2.1,sl gX o.2.2.2.2.2.2.2.2.2.2.2.2.1,sl lH o.2.2.2.2.2.2.2.2.2.2.2.2.2.1,sl fH o.2.2.2.2.2.2.2.2.2.2.2.2.2.2.1,.int .i64 o.2.2.2.2.2.2.2.2.2.2.2.2.2.2.2.1,.str o.2.2.2.2.2.2.2.2.2.2.2.2.2.2.2.2.1,sl ai o.2.2.2.2.2.2.2.2.2.2.2.2.2.2.2.2.2.1,sl cS o.2.2.2.2.2.2.2.2.2.2.2.2.2.2.2.2.2.2.1,.int .i64 o.2.2.2.2.2.2.2.2.2.2.2.2.2.2.2.2.2.2.2.1,.str o.2.2.2.2.2.2.2.2.2.2.2.2.2.2.2.2.2.2.2.2.1,.int .i64 o.2.2.2.2.2.2.2.2.2.2.2.2.2.2.2.2.2.2.2.2.2.1,sl al o.2.2.2.2.2.2.2.2.2.2.2.2.2.2.2.2.2.2.2.2.2.2.1,sl al o.2.2.2.2.2.2.2.2.2.2.2.2.2.2.2.2.2.2.2.2.2.2.2.1,sl al o.2.2.2.2.2.2.2.2.2.2.2.2.2.2.2.2.2.2.2.2.2.2.2.2] [(1,9),(5,28),(6,85),(7,89),(8,60),(11,9),(12,250),(13,252),(14,254),(17,60),(18,9),(22,58),(23,58),(24,58)]] []
def iP:Option ((Int×af×waA×Int×af×Int×waF×waE×waD×waB×Int×Bool×waA×waG×waH×waI×Int×af×waB×waA×Int×af×Int×waC×waC×waC)⊕((af×waA×Int×af×Int×waF×waE×waD×waB×Int×Bool×waA×waG×waH×waI×Int×af×waB×waA×Int×af×Int×waC×waC×waC)⊕(af×waA×Int×af×Int×waF×waE×waD×waB×Int×Bool×waA×waG×waH×waI×Int×af×waB×waA×Int×af×Int×waC×waC×waC))):=
 if(decide (t11<t10))=true then
  (gn t9 t11).bind fun x2=>
  if(x2.Name==name)=true then
   some (.inr (.inl (x2.Name,x2.Params,x2.Body.Op,x2.Body.Name,x2.Body.N,x2.Body.Kids,x2.Body.Params,x2.Body.Alts,x2.Body.Types,x2.Mode,x2.Typed,x2.Sig.Vars,x2.Sig.Needs,x2.Sig.Abs,x2.Sig.Bounds,x2.Sig.Type_.Op,x2.Sig.Type_.Name,x2.Sig.Type_.Args,x2.Sig.Type_.Names,x2.Sig.Type_.Pred.Op,x2.Sig.Type_.Pred.Name,x2.Sig.Type_.Pred.N,x2.Sig.Type_.Pred.Kids,x2.Sig.Type_.Preds,x2.Sig.Metric)))
  else
   some (.inl (bV (t11+1),m,m2,m3,m4,m5,m6,m7,m8,m9,m10,m11,m12,m13,m14,m15,m16,m17,m18,m19,m20,m21,m22,m23,m24,m25))
 else
  some (.inr (.inr (m,m2,m3,m4,m5,m6,m7,m8,m9,m10,m11,m12,m13,m14,m15,m16,m17,m18,m19,m20,m21,m22,m23,m24,m25)))
def xZ:Option ((af×waA×Int×af×Int×waF×waE×waD×waB×Int×Bool×waA×waG×waH×waI×Int×af×waB×waA×Int×af×Int×waC×waC×waC)⊕(af×waA×Int×af×Int×waF×waE×waD×waB×Int×Bool×waA×waG×waH×waI×Int×af×waB×waA×Int×af×Int×waC×waC×waC)):=loop (fun(zz:Int×af×waA×Int×af×Int×waF×waE×waD×waB×Int×Bool×waA×waG×waH×waI×Int×af×waB×waA×Int×af×Int×waC×waC×waC)=>iP name t9 t10 zz.1 zz.2.1 zz.2.2.1 zz.2.2.2.1 zz.2.2.2.2.1 zz.2.2.2.2.2.1 zz.2.2.2.2.2.2.1 zz.2.2.2.2.2.2.2.1 zz.2.2.2.2.2.2.2.2.1 zz.2.2.2.2.2.2.2.2.2.1 zz.2.2.2.2.2.2.2.2.2.2.1 zz.2.2.2.2.2.2.2.2.2.2.2.1 zz.2.2.2.2.2.2.2.2.2.2.2.2.1 zz.2.2.2.2.2.2.2.2.2.2.2.2.2.1 zz.2.2.2.2.2.2.2.2.2.2.2.2.2.2.1 zz.2.2.2.2.2.2.2.2.2.2.2.2.2.2.2.1 zz.2.2.2.2.2.2.2.2.2.2.2.2.2.2.2.2.1 zz.2.2.2.2.2.2.2.2.2.2.2.2.2.2.2.2.2.1 zz.2.2.2.2.2.2.2.2.2.2.2.2.2.2.2.2.2.2.1 zz.2.2.2.2.2.2.2.2.2.2.2.2.2.2.2.2.2.2.2.1 zz.2.2.2.2.2.2.2.2.2.2.2.2.2.2.2.2.2.2.2.2.1 zz.2.2.2.2.2.2.2.2.2.2.2.2.2.2.2.2.2.2.2.2.2.1 zz.2.2.2.2.2.2.2.2.2.2.2.2.2.2.2.2.2.2.2.2.2.2.1 zz.2.2.2.2.2.2.2.2.2.2.2.2.2.2.2.2.2.2.2.2.2.2.2.1 zz.2.2.2.2.2.2.2.2.2.2.2.2.2.2.2.2.2.2.2.2.2.2.2.2.1 zz.2.2.2.2.2.2.2.2.2.2.2.2.2.2.2.2.2.2.2.2.2.2.2.2.2) (t11,m,m2,m3,m4,m5,m6,m7,m8,m9,m10,m11,m12,m13,m14,m15,m16,m17,m18,m19,m20,m21,m22,m23,m24,m25)
theorem FT{y:(Int×af×waA×Int×af×Int×waF×waE×waD×waB×Int×Bool×waA×waG×waH×waI×Int×af×waB×waA×Int×af×Int×waC×waC×waC)⊕((af×waA×Int×af×Int×waF×waE×waD×waB×Int×Bool×waA×waG×waH×waI×Int×af×waB×waA×Int×af×Int×waC×waC×waC)⊕(af×waA×Int×af×Int×waF×waE×waD×waB×Int×Bool×waA×waG×waH×waI×Int×af×waB×waA×Int×af×Int×waC×waC×waC))}(h:iP name t9 t10 t11 m m2 m3 m4 m5 m6 m7 m8 m9 m10 m11 m12 m13 m14 m15 m16 m17 m18 m19 m20 m21 m22 m23 m24 m25=some y):bh Pg GE 0 (cA Z0 55) (LQ (fun(zz:Int×af×waA×Int×af×Int×waF×waE×waD×waB×Int×Bool×waA×waG×waH×waI×Int×af×waB×waA×Int×af×Int×waC×waC×waC)=>po name t9 t10 zz.1 zz.2.1 zz.2.2.1 zz.2.2.2.1 zz.2.2.2.2.1 zz.2.2.2.2.2.1 zz.2.2.2.2.2.2.1 zz.2.2.2.2.2.2.2.1 zz.2.2.2.2.2.2.2.2.1 zz.2.2.2.2.2.2.2.2.2.1 zz.2.2.2.2.2.2.2.2.2.2.1 zz.2.2.2.2.2.2.2.2.2.2.2.1 zz.2.2.2.2.2.2.2.2.2.2.2.2.1 zz.2.2.2.2.2.2.2.2.2.2.2.2.2.1 zz.2.2.2.2.2.2.2.2.2.2.2.2.2.2.1 zz.2.2.2.2.2.2.2.2.2.2.2.2.2.2.2.1 zz.2.2.2.2.2.2.2.2.2.2.2.2.2.2.2.2.1 zz.2.2.2.2.2.2.2.2.2.2.2.2.2.2.2.2.2.1 zz.2.2.2.2.2.2.2.2.2.2.2.2.2.2.2.2.2.2.1 zz.2.2.2.2.2.2.2.2.2.2.2.2.2.2.2.2.2.2.2.1 zz.2.2.2.2.2.2.2.2.2.2.2.2.2.2.2.2.2.2.2.2.1 zz.2.2.2.2.2.2.2.2.2.2.2.2.2.2.2.2.2.2.2.2.2.1 zz.2.2.2.2.2.2.2.2.2.2.2.2.2.2.2.2.2.2.2.2.2.2.1 zz.2.2.2.2.2.2.2.2.2.2.2.2.2.2.2.2.2.2.2.2.2.2.2.1 zz.2.2.2.2.2.2.2.2.2.2.2.2.2.2.2.2.2.2.2.2.2.2.2.2.1 zz.2.2.2.2.2.2.2.2.2.2.2.2.2.2.2.2.2.2.2.2.2.2.2.2.2) pp j9 y) (po name t9 t10 t11 m m2 m3 m4 m5 m6 m7 m8 m9 m10 m11 m12 m13 m14 m15 m16 m17 m18 m19 m20 m21 m22 m23 m24 m25):=by
 rcases aQ h with⟨c1,h⟩|⟨c1,h⟩
 ·obtain⟨x2,bx2,h⟩:=cP h
  have p4:=fun{sc F} (r:PS sc F)=>sg 0 c1<|sv (zD.ia (k:=.i64) bx2)<|sv (VS x2)<|sx UN<|sx (Fy x2)<|ss<|r
  rcases aQ h with⟨c3,h⟩|⟨c3,h⟩
  ·obtain rfl:=lf h
   have z:=p4<|sg 0 c3<|sv (OD x2 [])<|sx (Fy x2)<|ue 0 (pp (.inl (x2.Name,x2.Params,x2.Body.Op,x2.Body.Name,x2.Body.N,x2.Body.Kids,x2.Body.Params,x2.Body.Alts,x2.Body.Types,x2.Mode,x2.Typed,x2.Sig.Vars,x2.Sig.Needs,x2.Sig.Abs,x2.Sig.Bounds,x2.Sig.Type_.Op,x2.Sig.Type_.Name,x2.Sig.Type_.Args,x2.Sig.Type_.Names,x2.Sig.Type_.Pred.Op,x2.Sig.Type_.Pred.Name,x2.Sig.Type_.Pred.N,x2.Sig.Type_.Pred.Kids,x2.Sig.Type_.Preds,x2.Sig.Metric))) (j9 (.inl (x2.Name,x2.Params,x2.Body.Op,x2.Body.Name,x2.Body.N,x2.Body.Kids,x2.Body.Params,x2.Body.Alts,x2.Body.Types,x2.Mode,x2.Typed,x2.Sig.Vars,x2.Sig.Needs,x2.Sig.Abs,x2.Sig.Bounds,x2.Sig.Type_.Op,x2.Sig.Type_.Name,x2.Sig.Type_.Args,x2.Sig.Type_.Names,x2.Sig.Type_.Pred.Op,x2.Sig.Type_.Pred.Name,x2.Sig.Type_.Pred.N,x2.Sig.Type_.Pred.Kids,x2.Sig.Type_.Preds,x2.Sig.Metric))) rfl (dU (aI (aW rfl) (aI trivial trivial))) (aI trivial (aI (aI trivial (aI (up (ak bD x2.Params)) (aI trivial (aI trivial (aI trivial (aI (up (ak ay x2.Body.Kids)) (aI (up (ak aY x2.Body.Params)) (aI (up (ak bK x2.Body.Alts)) (aI (up (ak aE x2.Body.Types)) (aI trivial (aI trivial (aI (up (ak bD x2.Sig.Vars)) (aI (up (ak yk x2.Sig.Needs)) (aI (up (ak EW x2.Sig.Abs)) (aI (up (ak yj x2.Sig.Bounds)) (aI trivial (aI trivial (aI (up (ak aE x2.Sig.Type_.Args)) (aI (up (ak bD x2.Sig.Type_.Names)) (aI trivial (aI trivial (aI trivial (aI (up (ak aR x2.Sig.Type_.Pred.Kids)) (aI (up (ak aR x2.Sig.Type_.Preds)) (aI (up (ak aR x2.Sig.Metric)) trivial))))))))))))))))))))))))) trivial))
   exact rY (A:=YT) mixed (Zn rfl) z<|by kernel_rfl
  ·obtain rfl:=lf h
   have z:=p4<|sg 0 c3<|ue 0 .normal (po name t9 t10 (bV (t11+1)) m m2 m3 m4 m5 m6 m7 m8 m9 m10 m11 m12 m13 m14 m15 m16 m17 m18 m19 m20 m21 m22 m23 m24 m25) rfl (dU (aI trivial (aI (aW rfl) (aI (up (ak oT t9)) (aI trivial (aI trivial trivial)))))) (aI trivial (aI (aI trivial (aI (up (ak bD m2)) (aI trivial (aI trivial (aI trivial (aI (up (ak ay m6)) (aI (up (ak aY m7)) (aI (up (ak bK m8)) (aI (up (ak aE m9)) (aI trivial (aI trivial (aI (up (ak bD m12)) (aI (up (ak yk m13)) (aI (up (ak EW m14)) (aI (up (ak yj m15)) (aI trivial (aI trivial (aI (up (ak aE m18)) (aI (up (ak bD m19)) (aI trivial (aI trivial (aI trivial (aI (up (ak aR m23)) (aI (up (ak aR m24)) (aI (up (ak aR m25)) trivial))))))))))))))))))))))))) trivial))
   exact ed (A:=YT) mixed z<|by kernel_rfl
 ·obtain rfl:=lf h
  have z:=sg 0 c1<|eF (pp (.inr (m,m2,m3,m4,m5,m6,m7,m8,m9,m10,m11,m12,m13,m14,m15,m16,m17,m18,m19,m20,m21,m22,m23,m24,m25))) (j9 (.inr (m,m2,m3,m4,m5,m6,m7,m8,m9,m10,m11,m12,m13,m14,m15,m16,m17,m18,m19,m20,m21,m22,m23,m24,m25)))
  exact jy YT (Zn rfl) z<|by kernel_rfl
theorem yI{x:(af×waA×Int×af×Int×waF×waE×waD×waB×Int×Bool×waA×waG×waH×waI×Int×af×waB×waA×Int×af×Int×waC×waC×waC)⊕(af×waA×Int×af×Int×waF×waE×waD×waB×Int×Bool×waA×waG×waH×waI×Int×af×waB×waA×Int×af×Int×waC×waC×waC)}(h:xZ name t9 t10 t11 m m2 m3 m4 m5 m6 m7 m8 m9 m10 m11 m12 m13 m14 m15 m16 m17 m18 m19 m20 m21 m22 m23 m24 m25=some x):bh Pg GE 0 (.loop (cA Z0 55)) (EX (pp x) (j9 x)) (po name t9 t10 t11 m m2 m3 m4 m5 m6 m7 m8 m9 m10 m11 m12 m13 m14 m15 m16 m17 m18 m19 m20 m21 m22 m23 m24 m25):=
 ZL h fun _ _ hy=>FT _ _ _ _ _ _ _ _ _ _ _ _ _ _ _ _ _ _ _ _ _ _ _ _ _ _ _ _ _ hy
end
def wb(m:aP)(name:af):Option (eA×Bool):=
 (xZ name m.Defs (m.Defs.length:Int) 0 ([]:af) ([]:List af) 0 ([]:af) 0 ([]:List ag) ([]:List ax) ([]:List aG) ([]:List aj) 0 false ([]:List af) ([]:List gE) ([]:List na) ([]:List eu) 0 ([]:af) ([]:List aj) ([]:List af) 0 ([]:af) 0 ([]:List am) ([]:List am) ([]:List am)).bind fun o5=>match o5 with
 |(.inl o5)=>
  some ((⟨o5.1,o5.2.1,(⟨o5.2.2.1,o5.2.2.2.1,o5.2.2.2.2.1,o5.2.2.2.2.2.1,o5.2.2.2.2.2.2.1,o5.2.2.2.2.2.2.2.1,o5.2.2.2.2.2.2.2.2.1⟩:ag),o5.2.2.2.2.2.2.2.2.2.1,o5.2.2.2.2.2.2.2.2.2.2.1,(⟨o5.2.2.2.2.2.2.2.2.2.2.2.1,o5.2.2.2.2.2.2.2.2.2.2.2.2.1,o5.2.2.2.2.2.2.2.2.2.2.2.2.2.1,o5.2.2.2.2.2.2.2.2.2.2.2.2.2.2.1,(⟨o5.2.2.2.2.2.2.2.2.2.2.2.2.2.2.2.1,o5.2.2.2.2.2.2.2.2.2.2.2.2.2.2.2.2.1,o5.2.2.2.2.2.2.2.2.2.2.2.2.2.2.2.2.2.1,o5.2.2.2.2.2.2.2.2.2.2.2.2.2.2.2.2.2.2.1,(⟨o5.2.2.2.2.2.2.2.2.2.2.2.2.2.2.2.2.2.2.2.1,o5.2.2.2.2.2.2.2.2.2.2.2.2.2.2.2.2.2.2.2.2.1,o5.2.2.2.2.2.2.2.2.2.2.2.2.2.2.2.2.2.2.2.2.2.1,o5.2.2.2.2.2.2.2.2.2.2.2.2.2.2.2.2.2.2.2.2.2.2.1⟩:am),o5.2.2.2.2.2.2.2.2.2.2.2.2.2.2.2.2.2.2.2.2.2.2.2.1⟩:aj),o5.2.2.2.2.2.2.2.2.2.2.2.2.2.2.2.2.2.2.2.2.2.2.2.2⟩:IE)⟩:eA),true)
 |(.inr o5)=>
  some ((⟨([]:af),([]:List af),(⟨0,([]:af),0,([]:List ag),([]:List ax),([]:List aG),([]:List aj)⟩:ag),0,false,(⟨([]:List af),([]:List gE),([]:List na),([]:List eu),(⟨0,([]:af),([]:List aj),([]:List af),(⟨0,([]:af),0,([]:List am)⟩:am),([]:List am)⟩:aj),([]:List am)⟩:IE)⟩:eA),false)
theorem Dx{m:aP}{name:af}{r:eA×Bool}(h:wb m name=some r):CC Pg GE 33 [.agg (az m),.str name] (.tuple [.agg (bH r.1),.bool r.2]) []:=by
 obtain⟨o5,bo5,h⟩:=cP h
 rcases o5 with o5|o5
 ·obtain rfl:=lf h
  have z:=se (vT m)<|sx UN<|sv (fq m)<|sv (fu m)<|bW (zD.ln m.Defs)<|du (e:=.ret) (s1:=j9 (.inl o5)) (yI name m.Defs (m.Defs.length:Int) 0 ([]:af) ([]:List af) 0 ([]:af) 0 ([]:List ag) ([]:List ax) ([]:List aG) ([]:List aj) 0 false ([]:List af) ([]:List gE) ([]:List na) ([]:List eu) 0 ([]:af) ([]:List aj) ([]:List af) 0 ([]:af) 0 ([]:List am) ([]:List am) ([]:List am) bo5)<|en (aI (va9 PVal.tuple (jO (Pa (⟨o5.1,o5.2.1,(⟨o5.2.2.1,o5.2.2.2.1,o5.2.2.2.2.1,o5.2.2.2.2.2.1,o5.2.2.2.2.2.2.1,o5.2.2.2.2.2.2.2.1,o5.2.2.2.2.2.2.2.2.1⟩:ag),o5.2.2.2.2.2.2.2.2.2.1,o5.2.2.2.2.2.2.2.2.2.2.1,(⟨o5.2.2.2.2.2.2.2.2.2.2.2.1,o5.2.2.2.2.2.2.2.2.2.2.2.2.1,o5.2.2.2.2.2.2.2.2.2.2.2.2.2.1,o5.2.2.2.2.2.2.2.2.2.2.2.2.2.2.1,(⟨o5.2.2.2.2.2.2.2.2.2.2.2.2.2.2.2.1,o5.2.2.2.2.2.2.2.2.2.2.2.2.2.2.2.2.1,o5.2.2.2.2.2.2.2.2.2.2.2.2.2.2.2.2.2.1,o5.2.2.2.2.2.2.2.2.2.2.2.2.2.2.2.2.2.2.1,(⟨o5.2.2.2.2.2.2.2.2.2.2.2.2.2.2.2.2.2.2.2.1,o5.2.2.2.2.2.2.2.2.2.2.2.2.2.2.2.2.2.2.2.2.1,o5.2.2.2.2.2.2.2.2.2.2.2.2.2.2.2.2.2.2.2.2.2.1,o5.2.2.2.2.2.2.2.2.2.2.2.2.2.2.2.2.2.2.2.2.2.2.1⟩:am),o5.2.2.2.2.2.2.2.2.2.2.2.2.2.2.2.2.2.2.2.2.2.2.2.1⟩:aj),o5.2.2.2.2.2.2.2.2.2.2.2.2.2.2.2.2.2.2.2.2.2.2.2.2⟩:IE)⟩:eA)) (jO (rP (.bool true)) (rfl:([]:List PVal)=[]))))<|(aI (oT (⟨o5.1,o5.2.1,(⟨o5.2.2.1,o5.2.2.2.1,o5.2.2.2.2.1,o5.2.2.2.2.2.1,o5.2.2.2.2.2.2.1,o5.2.2.2.2.2.2.2.1,o5.2.2.2.2.2.2.2.2.1⟩:ag),o5.2.2.2.2.2.2.2.2.2.1,o5.2.2.2.2.2.2.2.2.2.2.1,(⟨o5.2.2.2.2.2.2.2.2.2.2.2.1,o5.2.2.2.2.2.2.2.2.2.2.2.2.1,o5.2.2.2.2.2.2.2.2.2.2.2.2.2.1,o5.2.2.2.2.2.2.2.2.2.2.2.2.2.2.1,(⟨o5.2.2.2.2.2.2.2.2.2.2.2.2.2.2.2.1,o5.2.2.2.2.2.2.2.2.2.2.2.2.2.2.2.2.1,o5.2.2.2.2.2.2.2.2.2.2.2.2.2.2.2.2.2.1,o5.2.2.2.2.2.2.2.2.2.2.2.2.2.2.2.2.2.2.1,(⟨o5.2.2.2.2.2.2.2.2.2.2.2.2.2.2.2.2.2.2.2.1,o5.2.2.2.2.2.2.2.2.2.2.2.2.2.2.2.2.2.2.2.2.1,o5.2.2.2.2.2.2.2.2.2.2.2.2.2.2.2.2.2.2.2.2.2.1,o5.2.2.2.2.2.2.2.2.2.2.2.2.2.2.2.2.2.2.2.2.2.2.1⟩:am),o5.2.2.2.2.2.2.2.2.2.2.2.2.2.2.2.2.2.2.2.2.2.2.2.1⟩:aj),o5.2.2.2.2.2.2.2.2.2.2.2.2.2.2.2.2.2.2.2.2.2.2.2.2⟩:IE)⟩:eA)) (aI trivial trivial)))
  exact Z33.v (aI (cX m) (aI trivial trivial)) z<|by kernel_rfl
 ·obtain rfl:=lf h
  have z:=se (vT m)<|sx UN<|sv (fq m)<|sv (fu m)<|bW (zD.ln m.Defs)<|du (e:=.exit 0) (s1:=j9 (.inr o5)) (yI name m.Defs (m.Defs.length:Int) 0 ([]:af) ([]:List af) 0 ([]:af) 0 ([]:List ag) ([]:List ax) ([]:List aG) ([]:List aj) 0 false ([]:List af) ([]:List gE) ([]:List na) ([]:List eu) 0 ([]:af) ([]:List aj) ([]:List af) 0 ([]:af) 0 ([]:List am) ([]:List am) ([]:List am) bo5)<|sb (RC) (RA)<|sy (nJ (⟨([]:af),([]:List af),(⟨0,([]:af),0,([]:List ag),([]:List ax),([]:List aG),([]:List aj)⟩:ag),0,false,(⟨([]:List af),([]:List gE),([]:List na),([]:List eu),(⟨0,([]:af),([]:List aj),([]:List af),(⟨0,([]:af),0,([]:List am)⟩:am),([]:List am)⟩:aj),([]:List am)⟩:IE)⟩:eA))<|en (aI (va9 PVal.tuple (jO (Pa (⟨([]:af),([]:List af),(⟨0,([]:af),0,([]:List ag),([]:List ax),([]:List aG),([]:List aj)⟩:ag),0,false,(⟨([]:List af),([]:List gE),([]:List na),([]:List eu),(⟨0,([]:af),([]:List aj),([]:List af),(⟨0,([]:af),0,([]:List am)⟩:am),([]:List am)⟩:aj),([]:List am)⟩:IE)⟩:eA)) (jO (rP (.bool false)) (rfl:([]:List PVal)=[]))))<|(aI (oT (⟨([]:af),([]:List af),(⟨0,([]:af),0,([]:List ag),([]:List ax),([]:List aG),([]:List aj)⟩:ag),0,false,(⟨([]:List af),([]:List gE),([]:List na),([]:List eu),(⟨0,([]:af),([]:List aj),([]:List af),(⟨0,([]:af),0,([]:List am)⟩:am),([]:List am)⟩:aj),([]:List am)⟩:IE)⟩:eA)) (aI trivial trivial)))
  exact Z33.v (aI (cX m) (aI trivial trivial)) z<|by kernel_rfl
abbrev gV:=(af->aP->(List (af×Bool))->aP->Option ((List (af×Bool))))
abbrev kp(R:gV):Prop:=∀(name:af) (a:aP) (k2:(List (af×Bool))) (c:aP) (r:(List (af×Bool))),R name a k2 c=some r->C Pg GE 89 [.str name,.eptr (az a),.bptr 0 0,.bptr 3 0] [] [.cells [.bptr 1 0] [],.cells [.mapr 2] [],.map (aJ PVal.bool k2),.cells [.func (.func 89) [] [.eptr (az c),.bptr 0 0,.bptr 3 0]] []] (.tuple []) [] [.cells [.bptr 1 0] [],.cells [.mapr 2] [],.map (aJ PVal.bool r),.cells [.func (.func 89) [] [.eptr (az c),.bptr 0 0,.bptr 3 0]] []]
noncomputable def ZO:Code:=f130.body.getD .skip
def Zl:List Nat:=[]
theorem Z130:ZF Zl 130 f130 ZO:=⟨call130,func130,rfl⟩
def Ah(s:af)(a:eA):Option Bool:=
 (pA a.Params s).bind fun r1=>
 some (decide (r1>=0))
theorem Em{s:af}{a:eA}{r:Bool}(h:Ah s a=some r):CC Pg GE 130 [.str s,.eptr (bH a)] (.bool r) []:=by
 obtain⟨r1,br1,h⟩:=cP h
 obtain rfl:=lf h
 have z:=sv (zo a)<|sv (zt a)<|dj (xQ br1)<|en (aI (rP (.bool (decide (r1>=0))))<|trivial)
 exact Z130.v (aI trivial (aI (oT a) trivial)) z<|by kernel_rfl
section
variable(s:waA)(v:eA)(t7:Int)(t8:Int)
def eO:aB:=bg 19 [(0,sl cS s),(1,.func (.func 130) [] [.eptr (bH v)]),(7,.int .i64 t7),(8,.int .i64 t8)] [] []
def eP(o:Int⊕(Unit)):Exit:=match o with
 |(.inl _)=>.ret
 |(.inr _)=>.exit 0
def cT(o:Int⊕(Unit)):aB:=match o with
 |(.inl o)=>bg 19 [(4,.int .i64 o)] [] []
 |(.inr o)=>bg 19 [] [] []
def gN:Option (Int⊕(Int⊕(Unit))):=
 if(decide (t8<t7))=true then
  (gn s t8).bind fun x2=>
  (Ah x2 v).bind fun r3=>
  if r3=true then
   some (.inr (.inl t8))
  else
   some (.inl (bV (t8+1)))
 else
  some (.inr (.inr ()))
def fy:Option (Int⊕(Unit)):=loop (fun(zz:Int)=>gN s v t7 zz) t8
theorem qA{y:Int⊕(Int⊕(Unit))}(h:gN s v t7 t8=some y):bh Pg GE 0 (cA Px 55) (LQ (fun(zz:Int)=>eO s v t7 zz) eP cT y) (eO s v t7 t8):=by
 rcases aQ h with⟨c1,h⟩|⟨c1,h⟩
 ·obtain⟨x2,bx2,r3,br3,h⟩:=Zb2 h
  have p5:=fun{sc F} (r:PS sc F)=>sg 0 c1<|sv (dp.ia (k:=.i64) bx2)<|sv (cY ED (.str x2) [])<|dj (Em br3)<|r
  rcases aQ h with⟨c4,h⟩|⟨c4,h⟩
  ·obtain rfl:=lf h
   have z:=p5<|sg 0 c4<|eF (eP (.inl t8)) (cT (.inl t8))
   exact jy Mq (Zn rfl) z<|by kernel_rfl
  ·obtain rfl:=lf h
   exact AC Mq (p5<|sg 0 c4<|eF .normal (eO s v t7 (bV (t8+1))))<|by kernel_rfl
 ·obtain rfl:=lf h
  have z:=sg 0 c1<|eF (eP (.inr ())) (cT (.inr ()))
  exact jy Mq (Zn rfl) z<|by kernel_rfl
theorem kF{x:Int⊕(Unit)}(h:fy s v t7 t8=some x):bh Pg GE 0 (.loop (cA Px 55)) (EX (eP x) (cT x)) (eO s v t7 t8):=
 ZL h fun _ _ hy=>qA _ _ _ _ hy
end
def jT(s:waA)(c:eA):Option Int:=
 (fy s c (s.length:Int) 0).bind fun o6=>match o6 with
 |(.inl o6)=>
  some o6
 |(.inr o6)=>
  some (-1)
theorem tM{s:waA}{c:eA}{r:Int}(h:jT s c=some r):CC Pg GE 155 [sl cS s,.func (.func 130) [] [.eptr (bH c)]] (.int .i64 r) []:=by
 obtain⟨o6,bo6,h⟩:=cP h
 rcases o6 with o6|o6
 ·obtain rfl:=lf h
  have z:=bW (dp.ln s)<|du (e:=.ret) (s1:=cT (.inl o6)) (kF s c (s.length:Int) 0 bo6)<|en (aI (rP (.int .i64 o6))<|trivial)
  exact Y6 Mq call155 func155 (c:=Px) rfl (aI (ak bD s) (aI (aI trivial (aI (oT c) trivial)) trivial)) z<|by kernel_rfl
 ·obtain rfl:=lf h
  have z:=bW (dp.ln s)<|du (e:=.exit 0) (s1:=cT (.inr o6)) (kF s c (s.length:Int) 0 bo6)<|en (aI (rP (.int .i64 (-1)))<|trivial)
  exact Y6 Mq call155 func155 (c:=Px) rfl (aI (ak bD s) (aI (aI trivial (aI (oT c) trivial)) trivial)) z<|by kernel_rfl
open Go Go.Sort Go.Proofs.Tryz
set_option linter.unusedSimpArgs false
abbrev qbJ:Nat:=90
abbrev QO:Nat:=130
abbrev Y7:Nat:=129
abbrev qaQ:Nat:=94
noncomputable def Ya:Code:=f90.body.getD .skip
noncomputable def Ci:Code:=f130.body.getD .skip
noncomputable def Im:Code:=f94.body.getD .skip
theorem IV{P:Program}{a:Act}{w:World}{Q:Exit->Act->World->Prop}{ops:Array Oper}{L:List Nat}{i:Nat}{o:Oper}{f:FuncId}{vs:Array Value}{R:Ending->World->Prop}(hi:ops[i]? =some o)(hg:o.guard=none)(hrun:(execOp a.eval o).run P w=.ok (.enter f vs) w)
  (hc:Calls P f vs w R) (h:∀e w',R e w'->∃v,e=.returned v/\wpOps P ops Q L (a.put o.dst v) w'):wpOps P ops Q (i::L) a w:=by
 rw[wpOps_cons]
 unfold wpOp
 rw[hi]
 simp only
 rw[vaw (by simp[Region.wanted,hg])]
 refine .inl ?_
 unfold Oper.wp
 rw[hrun,Oper.upon_enter]
 refine hc.mono fun e w' he=>?_
 obtain⟨v,rfl,hx⟩:=h e w' he
 exact hx
def qbI(o:Oper):TypeId:=match o.op with
 |.binOp _ _ _ _ s=>s
 |_=>0
theorem Cz{P:Program}{a:Act}{w:World}{o:Oper}{f:FuncId}{args:Array Operand}{tys:Array TypeId}(ho:o.op=.call {callee:=.value (.func f),args:=args,argTypes:=tys})(hc:∀vs w,(callFunc f vs).run P w=.ok (.enter f vs) w):(execOp a.eval o).run P w=.ok (.enter f (args.map a.eval)) w:=by
 simp only[execOp,ho]
 simp[resolve,Act.eval,Deferred.ofValue,invoke,hc]
theorem Mk{Γ:aT}{w:World}{l:List af}{b off:Nat}{vals:Nat->Nat->Value}{sz:Nat}(hsz:∀(i:Nat) e,(l.map cS)[i]? =some e->e.length=sz)
  (hc:∀(i:Nat) e (k:Nat) p,(l.map cS)[i]? =some e->e[k]? =some p->w.cell? ⟨b,off+i * sz+k,none⟩=some (vals i k))
  (hv:∀(i:Nat) e (k:Nat) p,(l.map cS)[i]? =some e->e[k]? =some p->VR Γ [] w p (vals i k)):∀j,j<l.length->w.cell? ⟨b,off+j,none⟩=some (encStr l[j]!):=fun j hj=>by
 have hx:(l.map cS)[j]? =some (cS l[j]):=by simp[hj]
 have hs1:sz=1:=by have:=hsz j _ hx;simp[cS]at this;exact this.symm
 subst hs1
 have e1:=hc j _ 0 (.str l[j]) hx rfl
 have e2:=hv j _ 0 (.str l[j]) hx rfl
 rw[show off+j * 1+0=off+j by omega]at e1
 rw[e1,getElem!_pos l j hj]
 generalize vals j 0=q at e2
 cases e2
 rfl
theorem PN(T:TypeId):EqlAt Pg T encStr (fun x y=>x==y):=⟨fun x y w=>by
 have:=(EqlAt.string Pg T).1 ⟨x.toArray⟩ ⟨y.toArray⟩ w
 simpa[encStr]using this,fun op a b x y w=>(EqlAt.string Pg T).2 op a b ⟨x.toArray⟩ ⟨y.toArray⟩ w⟩
theorem RS(l:List af)(x:af):decide (Lib.idxBy (fun x y=>x==y) l x>=0)=l.any fun y=>y==x:=by
 have:=Lib.idxBy_nonneg_iff (fun x y=>x==y) l x
 rw[show decide (Lib.idxBy (fun x y=>x==y) l x>=0)=decide (0<=Lib.idxBy (fun x y=>x==y) l x)from rfl]
 rw[this]
 congr 1
 funext y
 exact Bool.eq_iff_iff.2 (by simp only[va1];exact eq_comm)
theorem PP{Γ:aT}{W:World}{v:Value}{ps:List af}{x:af}(hv:VR Γ [] W (sl cS ps) v)(hl:ps.length<=dF):Calls Pg qaQ #[v,encStr x] W fun e w'=>e=.returned (.int .i64 (Lib.idxBy (fun x y=>x==y) ps x))/\w'=W:=by
 have hIx:Calls Pg 131 #[v,encStr x] W fun e w'=>e=.returned (.int .i64 (Lib.idxBy (fun x y=>x==y) ps x))/\w'=W:=by
  unfold sl at hv
  generalize hes:ps.map cS=es at hv
  cases hv with
  | sliceNil =>
   have hn:ps=[]:=by cases ps with
    |nil=>rfl
    |cons x l=>simp at hes
   subst hn
   exact AnyE.slices_Index_empty Tryz.ix131 none 0 _ W
  | sliceE a cap =>
   have hn:ps=[]:=by cases ps with
    |nil=>rfl
    |cons x l=>simp at hes
   subst hn
   exact AnyE.slices_Index_empty Tryz.ix131 (some a) cap _ W
  |slice _ b off cap n sz vals h0 hcap hg hn hsz hc hvv=>
   subst hes
   have h:=AnyE.slices_Index Tryz.ix131 encStr (fun x y=>x==y) (PN _) b off (ps.map cS).length cap ps x W (by simp) (by rw[vbb];unfold dF at hl;omega) (Mk (Γ:=Γ) hsz hc hvv)
   rw[show ps.take (ps.map cS).length=ps from List.take_of_length_le (by simp)]at h
   exact h
 refine calls_of_wp func94 (c:=Im) rfl ?_
 have hn:f94.ntmps=8:=by kernel_rfl
 refine(fun(key:∀A0:Act,A0.tmps.size=8->A0.tmps[0]? =some v->A0.tmps[1]? =some (encStr x)->A0.defers=[]->Im.wp Pg _ A0 W)=>key _ ?_ ?_ ?_ rfl) ?_
 ·rw[hn];simp
 ·rw[hn];simp
 ·rw[hn];simp
 intro A0 z0 z1 z2 z3
 have hb:Im=.seq (.region (Rh (ba Im [false])) #[gf (ba Im [false]) 0] false) (.seq (.region (Rh (ba Im [true,false])) #[gf (ba Im [true,false]) 0,gf (ba Im [true,false]) 1,gf (ba Im [true,false]) 2,gf (ba Im [true,false]) 3] false) .ret):=by kernel_rfl
 rw[hb]
 have d0:(gf (ba Im [false]) 0).dst=some 4:=by kernel_rfl
 have o1:(gf (ba Im [true,false]) 0).op=.move (.tmp 0):=by kernel_rfl
 have d1:(gf (ba Im [true,false]) 0).dst=some 5:=by kernel_rfl
 have o2:(gf (ba Im [true,false]) 1).op=.move (.tmp 1):=by kernel_rfl
 have d2:(gf (ba Im [true,false]) 1).dst=some 6:=by kernel_rfl
 have o3:(gf (ba Im [true,false]) 2).op=.call {callee:=.value (.func 131),args:=#[.tmp 5,.tmp 6],argTypes:=UV (gf (ba Im [true,false]) 2)}:=by kernel_rfl
 have d3:(gf (ba Im [true,false]) 2).dst=some 7:=by kernel_rfl
 have o4:(gf (ba Im [true,false]) 3).op=.assign (.tmp 7):=by kernel_rfl
 have d4:(gf (ba Im [true,false]) 3).dst=some 4:=by kernel_rfl
 refine wp_seq (H6 (gd (o:=gf (ba Im [false]) 0) (by kernel_rfl) (by kernel_rfl) (v:=.int .i64 0) (w':=W) (by kernel_rfl) ?_))
 rw[d0]
 show Code.wp Pg _ _ _ W
 refine wp_seq (H6 (gd (o:=gf (ba Im [true,false]) 0) (by kernel_rfl) (by kernel_rfl) (v:=v) (w':=W) ?_ ?_))
 ·have:(A0.put (some 4) (.int .i64 0)).eval (.tmp 0)=v:=bT (by simp only[dY];exact z1)
  simp[execOp,o1,this]
 rw[d1]
 refine gd (o:=gf (ba Im [true,false]) 1) (by kernel_rfl) (by kernel_rfl) (v:=encStr x) (w':=W) ?_ ?_
 ·have:((A0.put (some 4) (.int .i64 0)).put (some 5) v).eval (.tmp 1)=encStr x:=bT (by simp only[dY];exact z2)
  simp[execOp,o2,this]
 rw[d2]
 have e5:(((A0.put (some 4) (.int .i64 0)).put (some 5) v).put (some 6) (encStr x)).eval (.tmp 5)=v:=bT (by simp only[dY,dK,z0];rfl)
 have e6:(((A0.put (some 4) (.int .i64 0)).put (some 5) v).put (some 6) (encStr x)).eval (.tmp 6)=encStr x:=bT (by simp only[dY,dK,z0];rfl)
 have hrun:=Cz (a:=((A0.put (some 4) (.int .i64 0)).put (some 5) v).put (some 6) (encStr x)) (w:=W) o3 call131
 rw[show(#[Operand.tmp 5,.tmp 6]:Array Operand).map (((A0.put (some 4) (.int .i64 0)).put (some 5) v).put (some 6) (encStr x)).eval=#[v,encStr x] by simp[e5,e6]]at hrun
 refine IV (o:=gf (ba Im [true,false]) 2) (by kernel_rfl) (by kernel_rfl) hrun hIx ?_
 rintro e w' ⟨rfl,rfl⟩
 refine⟨_,rfl,?_⟩
 rw[d3]
 refine gd (o:=gf (ba Im [true,false]) 3) (by kernel_rfl) (by kernel_rfl) (v:=.int .i64 (Lib.idxBy (fun x y=>x==y) ps x)) (w':=w') ?_ ?_
 ·have:((((A0.put (some 4) (.int .i64 0)).put (some 5) v).put (some 6) (encStr x)).put (some 7) (.int .i64 (Lib.idxBy (fun x y=>x==y) ps x))).eval (.tmp 7)=.int .i64 (Lib.idxBy (fun x y=>x==y) ps x):=bT (by simp only[dY,dK,z0];rfl)
  simp[execOp,o4,this]
 rw[d4]
 show Code.wp Pg _ _ _ w'
 refine wp_ret ⟨by simp only[bp];exact z3,.int .i64 (Lib.idxBy (fun x y=>x==y) ps x),?_,rfl,rfl⟩
 have hg:(((((A0.put (some 4) (.int .i64 0)).put (some 5) v).put (some 6) (encStr x)).put (some 7) (.int .i64 (Lib.idxBy (fun x y=>x==y) ps x))).put (some 4) (.int .i64 (Lib.idxBy (fun x y=>x==y) ps x))).tmps[4]? =some (.int .i64 (Lib.idxBy (fun x y=>x==y) ps x)):=by simp only[dY,dK,z0];rfl
 simp[results,vas,hg]
theorem Ap.same{Γ:aT}{w W:World}(hB:Ap GE Γ w)(hk:∀b,b<w.heap.size->W.heap[b]? =w.heap[b]?):Ap GE Γ W/\Γ.Le w Γ W:=by
 have hlt:∀b n,Γ b=some n->b<w.heap.size:=fun b n h=>by obtain⟨c,t,fr,h1,_⟩:=hB.wi b n h;exact eD h1
 have hle:Γ.Le w Γ W:=fun b n hb _=>⟨n,hb,van _,fun o _=>bO (hk b (hlt b n hb)) o⟩
 refine⟨{
  wi:=fun b n h=>by obtain⟨c,t,fr,h1,h2⟩:=hB.wi b n h;exact⟨c,t,fr,(hk b (hlt b n h)).trans h1,h2⟩
  gl:=fun g cs hg=>(hB.gl g cs hg).mono hle (.refl _)
  gc:=hB.gc
  gx:=fun g cs hg=>by
   obtain⟨k1,c,t,fr,k2,k3⟩:=hB.gx g cs hg
   have:=(hk g k1).trans k2
   exact⟨eD this,c,t,fr,this,k3⟩},hle⟩
theorem Yx(d:eA):lw Pg 38 (.eptr ((bH d).drop 1)) []=some (sl cS d.Params):=zt d
theorem TQ{Γ:aT}{W:World}{cv:Value}{d:eA}(hB:Ap GE Γ W)(hcv:VR Γ [] W (.eptr (bH d)) cv)(hl:d.Params.length<=dF)(x:af):Calls Pg QO #[encStr x,cv] W fun e w'=>e=.returned (.bool (d.Params.any fun y=>y==x))/\w'=W:=by
 obtain⟨v4,hfa,hv4⟩:=qq (P:=Pg) hcv (zo d)
 have hS:=hB.fresh (P:=Pg) (a:=#[]) 0 (tmps:=[]) rfl (fun t p v hp=>by simp at hp)
 obtain⟨v5,hld,hv5⟩:=u9 (P:=Pg) hS hv4 (Yx d)
 have hF:=PP (x:=x) hv5 hl
 refine calls_of_wp func130 (c:=Ci) rfl ?_
 have hn:f130.ntmps=9:=by kernel_rfl
 refine(fun(key:∀A0:Act,A0.tmps.size=9->A0.tmps[0]? =some (encStr x)->A0.tmps[1]? =some cv->A0.defers=[]->Ci.wp Pg _ A0 W)=>key _ ?_ ?_ ?_ rfl) ?_
 ·rw[hn];simp
 ·rw[hn];simp
 ·rw[hn];simp
 intro A0 z0 z1 z2 z3
 have hb:Ci=.seq (.region (Rh (ba Ci [false])) #[gf (ba Ci [false]) 0] false) (.seq (.region (Rh (ba Ci [true,false])) #[gf (ba Ci [true,false]) 0,gf (ba Ci [true,false]) 1,gf (ba Ci [true,false]) 2,gf (ba Ci [true,false]) 3,gf (ba Ci [true,false]) 4,gf (ba Ci [true,false]) 5] false) .ret):=by kernel_rfl
 rw[hb]
 have d0:(gf (ba Ci [false]) 0).dst=some 3:=by kernel_rfl
 have o1:(gf (ba Ci [true,false]) 0).op=.fieldAddr 64 (.tmp 1) 1:=by kernel_rfl
 have d1:(gf (ba Ci [true,false]) 0).dst=some 4:=by kernel_rfl
 have o2:(gf (ba Ci [true,false]) 1).op=.load 38 (.tmp 4):=by kernel_rfl
 have d2:(gf (ba Ci [true,false]) 1).dst=some 5:=by kernel_rfl
 have o3:(gf (ba Ci [true,false]) 2).op=.move (.tmp 0):=by kernel_rfl
 have d3:(gf (ba Ci [true,false]) 2).dst=some 6:=by kernel_rfl
 have o4:(gf (ba Ci [true,false]) 3).op=.call {callee:=.value (.func qaQ),args:=#[.tmp 5,.tmp 6],argTypes:=UV (gf (ba Ci [true,false]) 3)}:=by kernel_rfl
 have d4:(gf (ba Ci [true,false]) 3).dst=some 7:=by kernel_rfl
 have d5:(gf (ba Ci [true,false]) 4).dst=some 8:=by kernel_rfl
 have o6:(gf (ba Ci [true,false]) 5).op=.assign (.tmp 8):=by kernel_rfl
 have d6:(gf (ba Ci [true,false]) 5).dst=some 3:=by kernel_rfl
 refine wp_seq (H6 (gd (o:=gf (ba Ci [false]) 0) (by kernel_rfl) (by kernel_rfl) (v:=.bool false) (w':=W) (by kernel_rfl) ?_))
 rw[d0]
 show Code.wp Pg _ _ _ W
 refine wp_seq (H6 (gd (o:=gf (ba Ci [true,false]) 0) (by kernel_rfl) (by kernel_rfl) (v:=v4) (w':=W) ?_ ?_))
 ·have:(A0.put (some 3) (.bool false)).eval (.tmp 1)=cv:=bT (by simp only[dY];exact z2)
  simp[execOp,o1,this,hfa]
 rw[d1]
 generalize hA1:(A0.put (some 3) (.bool false)).put (some 4) v4=A1
 have y0:A1.tmps.size=9:=by rw[<-hA1];simp only[dK];exact z0
 have y1:A1.tmps[0]? =some (encStr x):=by rw[<-hA1];simp only[dY];exact z1
 have y4:A1.tmps[4]? =some v4:=by rw[<-hA1];simp only[dY,dK,z0];rfl
 have y3:A1.defers=[]:=by rw[<-hA1];simp only[bp];exact z3
 clear hA1
 refine gd (o:=gf (ba Ci [true,false]) 1) (by kernel_rfl) (by kernel_rfl) (v:=v5) (w':=W) ?_ ?_
 ·have:A1.eval (.tmp 4)=v4:=bT y4
  simp[execOp,o2,this,hld]
 rw[d2]
 refine gd (o:=gf (ba Ci [true,false]) 2) (by kernel_rfl) (by kernel_rfl) (v:=encStr x) (w':=W) ?_ ?_
 ·have:(A1.put (some 5) v5).eval (.tmp 0)=encStr x:=bT (by simp only[dY];exact y1)
  simp[execOp,o3,this]
 rw[d3]
 have e5:((A1.put (some 5) v5).put (some 6) (encStr x)).eval (.tmp 5)=v5:=bT (by simp only[dY,dK,y0];rfl)
 have e6:((A1.put (some 5) v5).put (some 6) (encStr x)).eval (.tmp 6)=encStr x:=bT (by simp only[dY,dK,y0];rfl)
 have hrun:=Cz (a:=(A1.put (some 5) v5).put (some 6) (encStr x)) (w:=W) o4 call94
 rw[show(#[Operand.tmp 5,.tmp 6]:Array Operand).map ((A1.put (some 5) v5).put (some 6) (encStr x)).eval=#[v5,encStr x] by simp[e5,e6]]at hrun
 refine IV (o:=gf (ba Ci [true,false]) 3) (by kernel_rfl) (by kernel_rfl) hrun hF ?_
 rintro e w' ⟨rfl,rfl⟩
 refine⟨_,rfl,?_⟩
 rw[d4]
 generalize hA2:((A1.put (some 5) v5).put (some 6) (encStr x)).put (some 7) (.int .i64 (Lib.idxBy (fun x y=>x==y) d.Params x))=A2
 have x0:A2.tmps.size=9:=by rw[<-hA2];simp only[dK];exact y0
 have x7:A2.tmps[7]? =some (.int .i64 (Lib.idxBy (fun x y=>x==y) d.Params x)):=by rw[<-hA2];simp only[dY,dK,y0];rfl
 have x3:A2.defers=[]:=by rw[<-hA2];simp only[bp];exact y3
 clear hA2
 have o5:(gf (ba Ci [true,false]) 4).op=.binOp .geq 3 (.tmp 7) (.const (.int .i64 0)) (qbI (gf (ba Ci [true,false]) 4)):=by kernel_rfl
 refine gd (o:=gf (ba Ci [true,false]) 4) (by kernel_rfl) (by kernel_rfl) (v:=.bool (d.Params.any fun y=>y==x)) (w':=w') ?_ ?_
 ·have e7:A2.eval (.tmp 7)=.int .i64 (Lib.idxBy (fun x y=>x==y) d.Params x):=bT x7
  have hp:Lf Pg .geq 3 (.int .i64 (Lib.idxBy (fun x y=>x==y) d.Params x)) (.int .i64 0)=some (.bool (decide (Lib.idxBy (fun x y=>x==y) d.Params x>=0))):=rfl
  obtain⟨vb,hb1,hb2⟩:=OT (P:=Pg) (w:=w') (Γ:=Γ) (bs:=[]) (.int .i64 _) (.int .i64 0) (.tmp 7) (.const (.int .i64 0)) hp
  rw[RS]at hb2
  have hv:vb=.bool (d.Params.any fun y=>y==x):=by cases hb2;rfl
  subst hv
  have ec:A2.eval (.const (.int .i64 0))=.int .i64 0:=rfl
  simp only[execOp,o5,Sem.run_bind,e7,ec]at hb1 ⊢
  rw[hb1];rfl
 rw[d5]
 refine gd (o:=gf (ba Ci [true,false]) 5) (by kernel_rfl) (by kernel_rfl) (v:=.bool (d.Params.any fun y=>y==x)) (w':=w') ?_ ?_
 ·have:(A2.put (some 8) (.bool (d.Params.any fun y=>y==x))).eval (.tmp 8)=.bool (d.Params.any fun y=>y==x):=bT (by simp only[dY,dK,x0];rfl)
  simp[execOp,o6,this]
 rw[d6]
 show Code.wp Pg _ _ _ w'
 refine wp_ret ⟨by simp only[bp];exact x3,.bool (d.Params.any fun y=>y==x),?_,rfl,rfl⟩
 have hg:((A2.put (some 8) (.bool (d.Params.any fun y=>y==x))).put (some 3) (.bool (d.Params.any fun y=>y==x))).tmps[3]? =some (.bool (d.Params.any fun y=>y==x)):=by simp only[dY,dK,x0];rfl
 simp[results,vas,hg]
def Ng(d:eA)(s:af):Bool:=d.Params.any fun y=>y==s
noncomputable def qbH:Code:=f129.body.getD .skip
theorem RT(d:eA):jT [] d=some (-1):=by
 have h:fy [] d 0 0=some (.inr ()):=by
  unfold fy
  exact rS (by unfold gN;rfl)
 unfold jT
 rw[show(([]:List af).length:Int)=0 from rfl,h];rfl
theorem TI(d:eA):CC Pg GE Y7 [sl cS ([]:List af),.func (.func QO) [] [.eptr (bH d)]] (sl cS ([]:List af)) []:=by
 have z:=dj (tM (RT d))<|sg 0 (show((-1:Int)==-1)=true from rfl)<|en (aI (rP (sl cS ([]:List af)))<|(ak bD ([]:List af)))
 exact C.evp (A:=[]) mixed call129 func129 (c:=qbH) rfl (aI (ak bD ([]:List af))<|aI (aI trivial (aI (show jK 0 (bH d)from oT d) trivial)) trivial) z (by kernel_rfl)
structure XU(Γ1 Γ3:aT)(w1 w3:World):Prop where
 wi:∀b n,Γ3 b=some n->∃c t fr,w3.heap[b]? =some (.cells c t fr)/\n<=c.size
 keep:∀b,b<w1.heap.size->w3.heap[b]? =w1.heap[b]?/\Γ3 b=Γ1 b
 os:w3.os=w1.os
 tape:w3.tape=w1.tape
 output:w3.output=w1.output
 size:w1.heap.size<=w3.heap.size
 drawn:w1.drawn<=w3.drawn
theorem Xp{Γ1 Γ2:aT}{w1 w2:World}{cv v5:Value}{d:eA}{l:List af}{ow2:Nat->Option mi}(hB1:Ap GE Γ1 w1)(hcv:VR Γ1 [] w1 (.eptr (bH d)) cv)(hps:d.Params.length<=dF)
  (h2:SR Pg (DU GE Γ1 w1) Γ2 [] ow2 w2 #[v5] ⟨[sl cS l],[],[((0,0),eS)]⟩) (hl:l.length<=dF):
  Calls Pg Y7 #[v5,.func (.func QO) #[] #[cv]] w2 fun e w3=>∃v7 Γ3,e=.returned v7/\VR Γ3 [] w3 (sl cS (l.filter fun s=>!Ng d s)) v7/\XU Γ1 Γ3 w1 w3:=by
 have hk2:∀b,b<w1.heap.size->w2.heap[b]? =w1.heap[b]?:=fun b hb=>(h2.step.keep b hb id).1
 have hlt1:∀b n,Γ1 b=some n->b<w1.heap.size:=fun b n h=>by obtain⟨c,t,fr,q1,_⟩:=hB1.wi b n h;exact eD q1
 have hempty:l=[]->VR Γ1 [] w2 (sl cS ([]:List af)) v5->Calls Pg Y7 #[v5,.func (.func QO) #[] #[cv]] w2 fun e w3=>∃v7 Γ3,e=.returned v7/\VR Γ3 [] w3 (sl cS (l.filter fun s=>!Ng d s)) v7/\XU Γ1 Γ3 w1 w3:=by
  rintro rfl hv
  obtain⟨hB2,hle2⟩:=hB1.same hk2
  have hT:bj [] (fun _=>none)=fun _=>False:=by
   funext b
   exact propext ⟨fun h=>h.elim (fun⟨i,hi⟩=>by simp at hi) (fun hx=>hx rfl),False.elim⟩
  have hfr:=hB2.fresh (P:=Pg) (a:=#[v5,.func (.func QO) #[] #[cv]]) 0 (tmps:=[sl cS ([]:List af),.func (.func QO) [] [.eptr (bH d)]]) rfl (fun t p v hp hv'=>by
   match t,hp,hv' with
   |0,hp,hv'=>simp at hp hv';subst hp;subst hv';exact hv
   | 1,hp,hv' =>
    simp at hp hv';subst hp;subst hv'
    exact .func _ _ _ _ _ rfl rfl (fun i p v hp=>by simp at hp) (fun i p v hp hv=>by
     match i,hp,hv with
     |0,hp,hv=>simp at hp hv;subst hp;subst hv;exact hcv.mono hle2 (.refl _)
     |i+1,hp,_=>simp at hp)
   |t+2,hp,_=>simp at hp)
  have hC:=(TI d).2.2 Γ1 [] (fun _=>none) w2 #[v5,.func (.func QO) #[] #[cv]] (by rw[hT];exact hfr)
  refine hC.mono fun e w3 he=>?_
  obtain⟨v7,Γ',ow',rfl,hS⟩:=he
  rw[hT]at hS
  have hv7:VR Γ' [] w3 (sl cS ([]:List af)) v7:=hS.tm 0 _ _ rfl rfl
  refine⟨v7,Γ1,rfl,?_,fun b n hb=>?_,fun b hb=>⟨?_,rfl⟩,hS.step.os.trans h2.step.os,hS.step.tape.trans h2.step.tape,hS.step.output.trans h2.step.output,vay h2.step.size hS.step.size,vay h2.step.drawn hS.step.drawn⟩
  ·rw[List.filter_nil]
   unfold sl at hv7 ⊢
   rw[vbC]at hv7 ⊢
   cases hv7 with
   |sliceNil=>exact .sliceNil
   |sliceE a cap=>exact .sliceE a cap
   |slice _ b off cap n sz vals h0 hcap hg hn hsz hc hvv=>exact .sliceE _ _
  ·obtain⟨c,t,fr,q1,q2⟩:=hB2.wi b n hb
   exact⟨c,t,fr,((hS.step.keep b (eD q1) id).1).trans q1,q2⟩
  ·exact((hS.step.keep b (vaA hb h2.step.size) id).1).trans (hk2 b hb)
 obtain⟨u,v,hu,hpv,hown,hob⟩:=h2.ot 0 0 eS (by simp)
 have hvu:u=v5:=by simpa using hu.symm
 subst hvu
 have hvr:VR Γ2 [] w2 (sl cS l) u:=h2.tm 0 _ _ rfl rfl
 unfold sl at hvr
 generalize hes:l.map cS=es at hvr
 cases hvr with
 | sliceNil =>
  have hn:l=[]:=by cases l with
   |nil=>rfl
   |cons x l=>simp at hes
  exact hempty hn (by unfold sl;rw[vbC];exact .sliceNil)
 | sliceE x cap =>
  have hn:l=[]:=by cases l with
   |nil=>rfl
   |cons x l=>simp at hes
  exact hempty hn (by unfold sl;rw[vbC];exact .sliceE x cap)
 | slice _ b off cap m sz vals hz0 hcap hg hm hszs hc hvv =>
  rw[Bz]at hpv
  cases hpv
  obtain⟨k,xs,⟨hx1,hx2⟩,hx3⟩:=hown
  rcases hx2 with⟨hx2,_⟩|⟨g',cap',cur,hx2,_,hheap,hkc,hcm,hcs,htake⟩
  ·cases hx2
  ·cases hx2
   subst hes
   rw[qaP,vbV]at hcs htake
   have hlen:(l.map cS).length=l.length:=by simp
   have hcap':l.length<=cap:=by rw[<-hlen];exact hcap
   have hcs':cur.size=cap:=by omega
   have hbl:=h2.on b _ (hob b rfl)
   have hb1:w1.heap.size<=b:=hbl.2.resolve_left id
   have hcell:=Mk (Γ:=Γ2) hszs hc hvv
   have hrow:cur.toList.take l.length=l.map fun s=>Value.string ⟨s.toArray⟩:=by
    refine va2 fun i=>?_
    by_cases hi:i<l.length
    ·rw[vak hi]
     simp only[vaJ,var,vab hi,vah]
     have e1:=hcell i hi
     rw[vaQ,cell_of_row w2 b i cur eS _ hheap,getElem!_pos l i hi]at e1
     rw[e1]
    ·rw[vaE (by simp;omega),vaE (by simp;omega)]
   have gives:∀(W:World) (x:af),(∀j,j<w1.heap.size->W.heap[j]? =w1.heap[j]?)->FnGives Pg QO #[cv] #[encStr x] (.bool (Ng d x)) W:=fun W x hW=>by
    obtain⟨hBW,hle⟩:=hB1.same hW
    refine(TQ hBW (hcv.mono hle (.refl _)) hps x).mono fun e w' he=>?_
    obtain⟨rfl,rfl⟩:=he
    exact⟨rfl,0,rfl⟩
   have hcall:=AnyE.slices_DeleteFunc (P:=Pg) Tryz.df129 encStr (fun _=>rfl) (Ng d) QO #[cv] call130 [] Tryz.zeroValue9 b 0 cap l.toArray w2
    (fun W x hb=>gives W x fun j hj=>(hb.block j (vaA hj h2.step.size)).trans (hk2 j hj))
    (fun n os dk x hdk=>gives _ x fun j hj=>by
     obtain⟨k1,_⟩:=G7 (n:=n) (os:=os) dk.toList [] hheap (by rw[Array.length_toList,hdk];simp;omega) (by simp)
     rw[Array.toArray_toList]at k1
     exact(k1 j (vaA hj h2.step.size) (by omega)).trans (hk2 j hj))
    (Om hheap hrow) (by simp;unfold dF at hl;omega) (by simpa using hcap)
   have hsz5:l.toArray.size=l.length:=by simp
   rw[hsz5]at hcall
   rw[hlen]
   refine hcall.mono fun e w3 he=>?_
   obtain⟨rfl,q,rfl⟩:=he
   generalize hR:(l.filter fun x=>!Ng d x)=r
   have hrl:r.length<=l.length:=by rw[<-hR];exact vby _ _
   obtain⟨k1,k2,cur',k3,k4,k5⟩:=G7 (n:=q) (os:=#[]) (r++List.replicate (l.length - r.length) []) r hheap (by simp;omega) (by simp)
   rw[grow_empty]at k1 k2 k3
   refine⟨_,Γ1.put b r.length,rfl,?_,fun x n hx=>?_,fun x hx=>⟨?_,Γ1.put_other (by omega)⟩,h2.step.os,h2.step.tape,h2.step.output,vay h2.step.size k2,vay h2.step.drawn (vbG _ _)⟩
   ·have:=VR.slice (Γ:=Γ1.put b r.length) (bs:=[]) (w:=putRow encStr (Sort.ahead w2 q) b 0 (r++List.replicate (l.length - r.length) []).toArray) (r.map cS) b 0 cap r.length 1 (fun i _=>.string ⟨(r[i]!).toArray⟩) (by decide) (by simp;omega) (Γ1.put_same _ _) (by simp)
     (fun i x hx=>by rw[var]at hx;cases hf:r[i]? with
      |none=>rw[hf]at hx;cases hx
      |some s=>rw[hf]at hx;cases hx;rfl)
     (fun i x k q' hx hq=>by
      rw[var]at hx
      cases hf:r[i]? with
      |none=>rw[hf]at hx;cases hx
      |some s=>
       rw[hf]at hx;cases hx
       have hil:=aq hf
       have hk:k=0:=by have:=aq hq;simp[cS]at this;exact this
       subst hk
       rw[show 0+i * 1+0=i by omega,cell_of_row _ b i cur' eS _ k3]
       have h1:(cur'.toList.take r.length)[i]? =(r.map fun s=>Value.string ⟨s.toArray⟩)[i]?:=by rw[k5]
       rw[vak hil]at h1
       simp only[vaJ,var]at h1
       rw[h1]
       simp[hil])
     (fun i x k q' hx hq=>by
      rw[var]at hx
      cases hf:r[i]? with
      |none=>rw[hf]at hx;cases hx
      |some s=>
       rw[hf]at hx;cases hx
       have hk:k=0:=by have:=aq hq;simp[cS]at this;exact this
       subst hk
       simp[cS]at hq;subst hq
       have:r[i]! =s:=by rw[vb2,hf];rfl
       rw[this]
       exact .str s)
    rw[vbb]at this
    exact this
   ·by_cases hxb:x=b
    ·subst hxb;rw[Γ1.put_same]at hx;cases hx;exact⟨cur',eS,(0,0),k3,by omega⟩
    ·rw[Γ1.put_other hxb]at hx
     obtain⟨c,t,fr,q1,q2⟩:=hB1.wi x n hx
     have hxl:=eD q1
     exact⟨c,t,fr,((k1 x (vaA hxl h2.step.size) hxb).trans (hk2 x hxl)).trans q1,q2⟩
   ·exact(k1 x (vaA hx h2.step.size) (by omega)).trans (hk2 x hx)
def tc(d:eA):Option (List af):=(uT d.Body).bind fun l=>if(decide (l.length<=dF)&&decide (d.Params.length<=dF))=true then some (l.filter fun s=>!Ng d s)else none
abbrev qaN:Code:=ba Ya [false]
abbrev Gt:Code:=ba Ya [true,false]
abbrev qaY(d:eA):aB:=bg 8 [(1,.eptr (bH d))] [.dead] []
theorem qaf(d:eA):bh Pg GE 0 qaN (EX .normal (qaY d)) (bg 8 [(0,.agg (bH d))] [] []):=by
 have z:=se (V2 d)<|eF .normal (qaY d)
 exact qr (A:=[]) mixed z (by kernel_rfl)
theorem Xs(d:eA):lw Pg 28 (.eptr ((bH d).drop 2)) []=some (.agg (ae d.Body)):=uN d
theorem Xa:Ya=.seq qaN (.seq (.region (Rh Gt) #[gf Gt 0,gf Gt 1,gf Gt 2,gf Gt 3,gf Gt 4,gf Gt 5] false) .ret):=by kernel_rfl
theorem He{d:eA}{r:List af}(h:tc d=some r):CC Pg GE qbJ [.agg (bH d)] (sl cS r) []:=by
 obtain⟨l,hcl,h⟩:=cP h
 rcases aQ h with⟨c1,h⟩|⟨_,h⟩
 rotate_left
 ·cases h
 obtain⟨hl,hps⟩:l.length<=dF/\d.Params.length<=dF:=by simpa using c1
 obtain rfl:=lf h
 refine⟨aI (oT d) trivial,call90,fun Γ bs ow w vs hS=>calls_of_wp func90 (c:=Ya) rfl ?_⟩
 obtain rfl:bs=[]:=vap hS.bl
 obtain⟨v,rfl⟩:∃v,vs=#[v]:=vb3.1 hS.sz
 have hB:Ap GE Γ w:=hS.base
 have hE:te GE 0 (DU GE Γ w):=hB.good
 have hvr:VR Γ [] w (.agg (bH d)) v:=hS.tm 0 _ _ rfl rfl
 have h0:SR Pg (DU GE Γ w) Γ [] (fun _=>none) w (#[v]++Array.replicate 7 undef) (bg 8 [(0,.agg (bH d))] [] []):=by
  refine hB.fresh (a:=#[v]++Array.replicate 7 undef) 0 (tmps:=[.agg (bH d)]++List.replicate 7 .undef) (by simp) fun t q u hq hu=>?_
  by_cases ht:t<1
  ·rw[vac (by simpa using ht)]at hq
   rw[vaP (by simpa using ht)]at hu
   match t,ht with
   |0,_=>simp at hq hu;subst hq;subst hu;exact hvr
  ·rw[vaf (by show 1<=t;omega),vaU]at hq
   split at hq<;>cases hq
   exact .undef u
 show Ya.wp Pg _ ⟨#[v]++Array.replicate 7 undef,[]⟩ w
 rw[Xa]
 refine wp_seq (wp_mono (qaf d none (DU GE Γ w) [] ⟨#[v]++Array.replicate 7 undef,[]⟩ w hE rfl ⟨Γ,[],_,h0,fun i hi=>absurd hi (vaK _)⟩) ?_)
 rintro e ⟨a1,ds1⟩ w1 ⟨rfl,st1,⟨Γ1,bs1,ow1,h1,_⟩,rfl,rfl⟩
 have hB1:Ap GE Γ1 w1:=h1.base
 have hz1:a1.size=8:=h1.sz
 obtain⟨cv,hcv1⟩:∃cv,a1[1]? =some cv:=⟨a1[1]'(by omega),by simp[hz1]⟩
 have hcv:VR Γ1 [] w1 (.eptr (bH d)) cv:=(h1.tm 1 _ _ rfl hcv1).clo (show jK 0 (bH d)from oT d)
 obtain⟨v3,hfa,hv3⟩:=qq (P:=Pg) hcv (uK d)
 obtain⟨v4,hld,hv4⟩:=u9 (P:=Pg) (hB1.fresh (P:=Pg) (a:=#[]) 0 (tmps:=[]) rfl (fun t p v hp=>by simp at hp)) hv3 (Xs d)
 have hT:bj [] (fun _=>none)=fun _=>False:=by
  funext b
  exact propext ⟨fun h=>h.elim (fun⟨i,hi⟩=>by simp at hi) (fun hx=>hx rfl),False.elim⟩
 have hfr:=hB1.fresh (P:=Pg) (a:=#[v4]) 0 (tmps:=[.agg (ae d.Body)]) rfl (fun t p v hp hv'=>by
  match t,hp,hv' with
  |0,hp,hv'=>simp at hp hv';subst hp;subst hv';exact hv4
  |t+1,hp,_=>simp at hp)
 have hC:=(IC hcl).2.2 Γ1 [] (fun _=>none) w1 #[v4] (by rw[hT];exact hfr)
 rw[hT]at hC
 have o1:(gf Gt 0).op=.fieldAddr 64 (.tmp 1) 2:=by kernel_rfl
 have d1:(gf Gt 0).dst=some 3:=by kernel_rfl
 have o2:(gf Gt 1).op=.load 28 (.tmp 3):=by kernel_rfl
 have d2:(gf Gt 1).dst=some 4:=by kernel_rfl
 have o3:(gf Gt 2).op=.call {callee:=.value (.func 29),args:=#[.tmp 4],argTypes:=UV (gf Gt 2)}:=by kernel_rfl
 have d3:(gf Gt 2).dst=some 5:=by kernel_rfl
 have o4:(gf Gt 3).op=.makeFunc (.func QO) #[] #[.tmp 1]:=by kernel_rfl
 have d4:(gf Gt 3).dst=some 6:=by kernel_rfl
 have o5:(gf Gt 4).op=.call {callee:=.value (.func Y7),args:=#[.tmp 5,.tmp 6],argTypes:=UV (gf Gt 4)}:=by kernel_rfl
 have d5:(gf Gt 4).dst=some 7:=by kernel_rfl
 have o6:(gf Gt 5).op=.assign (.tmp 7):=by kernel_rfl
 have d6:(gf Gt 5).dst=some 2:=by kernel_rfl
 refine wp_seq (H6 (gd (o:=gf Gt 0) (by kernel_rfl) (by kernel_rfl) (v:=v3) (w':=w1) ?_ ?_))
 ·have:(Act.mk a1 []).eval (.tmp 1)=cv:=bT hcv1
  simp[execOp,o1,this,hfa]
 rw[d1]
 refine gd (o:=gf Gt 1) (by kernel_rfl) (by kernel_rfl) (v:=v4) (w':=w1) ?_ ?_
 ·have:((Act.mk a1 []).put (some 3) v3).eval (.tmp 3)=v3:=bT (by simp only[dY,hz1];rfl)
  simp[execOp,o2,this,hld]
 rw[d2]
 generalize hA1:((Act.mk a1 []).put (some 3) v3).put (some 4) v4=A1
 have y0:A1.tmps.size=8:=by rw[<-hA1];simp only[dK];exact hz1
 have y1:A1.tmps[1]? =some cv:=by rw[<-hA1];simp only[dY];exact hcv1
 have y4:A1.tmps[4]? =some v4:=by rw[<-hA1];simp only[dY,dK,hz1];rfl
 have y3:A1.defers=[]:=by rw[<-hA1];simp only[bp]
 clear hA1
 have hrun:=Cz (a:=A1) (w:=w1) o3 call29
 rw[show(#[Operand.tmp 4]:Array Operand).map A1.eval=#[v4] by simp[bT y4]]at hrun
 refine IV (o:=gf Gt 2) (by kernel_rfl) (by kernel_rfl) hrun hC ?_
 rintro e w2 ⟨v5,Γ2,ow2,rfl,h2⟩
 refine⟨_,rfl,?_⟩
 rw[d3]
 refine gd (o:=gf Gt 3) (by kernel_rfl) (by kernel_rfl) (v:=.func (.func QO) #[] #[cv]) (w':=w2) ?_ ?_
 ·have:(A1.put (some 5) v5).eval (.tmp 1)=cv:=bT (by simp only[dY];exact y1)
  simp[execOp,o4,this]
  rfl
 rw[d4]
 generalize hA2:(A1.put (some 5) v5).put (some 6) (.func (.func QO) #[] #[cv])=A2
 have x0:A2.tmps.size=8:=by rw[<-hA2];simp only[dK];exact y0
 have x5:A2.tmps[5]? =some v5:=by rw[<-hA2];simp only[dY,dK,y0];rfl
 have x6:A2.tmps[6]? =some (.func (.func QO) #[] #[cv]):=by rw[<-hA2];simp only[dY,dK,y0];rfl
 have x3:A2.defers=[]:=by rw[<-hA2];simp only[bp];exact y3
 clear hA2
 have hrun2:=Cz (a:=A2) (w:=w2) o5 call129
 rw[show(#[Operand.tmp 5,.tmp 6]:Array Operand).map A2.eval=#[v5,.func (.func QO) #[] #[cv]] by simp[bT x5,bT x6]]at hrun2
 refine IV (o:=gf Gt 4) (by kernel_rfl) (by kernel_rfl) hrun2 (Xp hB1 hcv hps h2 hl) ?_
 rintro e w3 ⟨v7,Γ3,rfl,hv7,hW⟩
 refine⟨_,rfl,?_⟩
 rw[d5]
 refine gd (o:=gf Gt 5) (by kernel_rfl) (by kernel_rfl) (v:=v7) (w':=w3) ?_ ?_
 ·have:(A2.put (some 7) v7).eval (.tmp 7)=v7:=bT (by simp only[dY,dK,x0];rfl)
  simp[execOp,o6,this]
 rw[d6]
 show Code.wp Pg _ _ _ w3
 have hlt1:∀b n,Γ1 b=some n->b<w1.heap.size:=fun b n h=>by obtain⟨c,t,fr,q1,_⟩:=hB1.wi b n h;exact eD q1
 have hle:Γ1.Le w1 Γ3 w3:=fun b n hb _=>⟨n,by rw[(hW.keep b (hlt1 b n hb)).2];exact hb,van _,fun o _=>bO (hW.keep b (hlt1 b n hb)).1 o⟩
 have hB3:Ap GE Γ3 w3:={
  wi:=hW.wi
  gl:=fun g cs hg=>(hB1.gl g cs hg).mono hle (.refl _)
  gc:=hB1.gc
  gx:=fun g cs hg=>by
   obtain⟨k1,c,t,fr,k2,k3⟩:=hB1.gx g cs hg
   have:=(hW.keep g k1).1.trans k2
   exact⟨eD this,c,t,fr,this,k3⟩}
 have hF:=hB3.fresh (P:=Pg) (a:=#[v7]) 0 (tmps:=[sl cS (l.filter fun s=>!Ng d s)]) rfl (fun t p v hp hv'=>by
  match t,hp,hv' with
  |0,hp,hv'=>simp at hp hv';subst hp;subst hv';exact hv7
  |t+1,hp,_=>simp at hp)
 refine wp_ret ⟨by simp only[bp];exact x3,v7,?_,v7,Γ3,fun _=>none,rfl,{hF with
  bn:=fun i b hb=>by simp at hb
  on:=fun b L hL=>by simp at hL
  gx:=hS.gx
  step:=⟨hW.os.trans h1.step.os,hW.tape.trans h1.step.tape,hW.output.trans h1.step.output,vay h1.step.size hW.size,vay h1.step.drawn hW.drawn,fun b hb _=>?_,h1.step.le.trans hle⟩}⟩
 ·have hg:((A2.put (some 7) v7).put (some 2) v7).tmps[2]? =some v7:=by simp only[dY,dK,x0];rfl
  simp[results,vas,hg]
 ·have k1:=h1.step.keep b hb id
  have k3:=hW.keep b (vaA hb h1.step.size)
  exact⟨k3.1.trans k1.1,k3.2.trans k1.2⟩
end Go.Proofs.YtkdahfeiedaahaaGreatDoor
