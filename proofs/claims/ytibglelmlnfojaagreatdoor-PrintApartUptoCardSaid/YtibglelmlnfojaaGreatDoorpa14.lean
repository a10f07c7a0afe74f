/- PROVED: a part of the proof. Conditions: none. -/
import Derived.Test.YtibglelmlnfojaaGreatDoorpa13
set_option linter.unusedSimpArgs false
set_option linter.unusedVariables false
noncomputable section
namespace Go.Proofs.YtibglelmlnfojaaGreatDoor
open Go Go.Proofs.Tryz
set_option linter.unusedVariables false
set_option maxRecDepth 100000
abbrev fP:=(aa->Int->Option ah)
abbrev kU(R:fP):Prop:=∀(p:aa) (least:Int),OG 188 [.agg (ac p),.int .i64 least,.bptr 0 0,.bptr 1 0] [] [.cells [.func (.func 188) [] [.bptr 0 0,.bptr 1 0]] [],.cells [.func (.func 185) [] [.bptr 0 0]] []] (R p least) (λr=>.str r) [] (λr=>[.cells [.func (.func 188) [] [.bptr 0 0,.bptr 1 0]] [],.cells [.func (.func 185) [] [.bptr 0 0]] []])
noncomputable def qiB:Code:=f190.body.getD .skip
def qg8:List Nat:=[]
theorem qh0:ZF Pg qg8 190 f190 qiB:=zf call190 func190 rfl mixed
def qd(op:Int):Option (aG×Bool):=
 if(op==18)=true then
  some ((⟨1,1,2,tP⟩:aG),true)
 else if(op==17)=true then
  some ((⟨2,3,2,EI⟩:aG),true)
 else if(op==16)=true then
  some ((⟨3,3,4,Bf⟩:aG),true)
 else if(op==15)=true then
  some ((⟨4,4,5,Bd⟩:aG),true)
 else if(op==10)=true then
  some ((⟨6,7,7,Uc⟩:aG),true)
 else if(op==11)=true then
  some ((⟨6,7,7,gT⟩:aG),true)
 else if(op==12)=true then
  some ((⟨6,7,7,Qs⟩:aG),true)
 else if(op==13)=true then
  some ((⟨6,7,7,Be⟩:aG),true)
 else if(op==6)=true then
  some ((⟨7,7,8,Qr⟩:aG),true)
 else if(op==7)=true then
  some ((⟨7,7,8,pj⟩:aG),true)
 else if(op==8)=true then
  some ((⟨8,8,9,Qq⟩:aG),true)
 else
  some ((⟨0,0,0,([]:ah)⟩:aG),false)
theorem y4{op:Int}:OV 190 [.int .i64 op] (qd op) (λr=>.tuple [.agg (eV r.1),.bool r.2]) []:=qh0.v<|
 tx qas<|tF (tv (bD 1 1 2 tP)<|tx (bX (⟨1,1,2,tP⟩:aG))<|Jn λq=>aI (va6 PVal.tuple (dI (cB (⟨1,1,2,tP⟩:aG)) (dI (rP (.bool true)) (rfl:([]:List PVal)=[])))) q.2)<|tF (tv (bD 2 3 2 EI)<|tx (bX (⟨2,3,2,EI⟩:aG))<|Jn λq=>aI (va6 PVal.tuple (dI (cB (⟨2,3,2,EI⟩:aG)) (dI (rP (.bool true)) (rfl:([]:List PVal)=[])))) q.2)<|tF (tv (bD 3 3 4 Bf)<|tx (bX (⟨3,3,4,Bf⟩:aG))<|Jn λq=>aI (va6 PVal.tuple (dI (cB (⟨3,3,4,Bf⟩:aG)) (dI (rP (.bool true)) (rfl:([]:List PVal)=[])))) q.2)<|tF (tv (bD 4 4 5 Bd)<|tx (bX (⟨4,4,5,Bd⟩:aG))<|Jn λq=>aI (va6 PVal.tuple (dI (cB (⟨4,4,5,Bd⟩:aG)) (dI (rP (.bool true)) (rfl:([]:List PVal)=[])))) q.2)<|tF (tv (bD 6 7 7 Uc)<|tx (bX (⟨6,7,7,Uc⟩:aG))<|Jn λq=>aI (va6 PVal.tuple (dI (cB (⟨6,7,7,Uc⟩:aG)) (dI (rP (.bool true)) (rfl:([]:List PVal)=[])))) q.2)<|tF (tv (bD 6 7 7 gT)<|tx (bX (⟨6,7,7,gT⟩:aG))<|Jn λq=>aI (va6 PVal.tuple (dI (cB (⟨6,7,7,gT⟩:aG)) (dI (rP (.bool true)) (rfl:([]:List PVal)=[])))) q.2)<|tF (tv (bD 6 7 7 Qs)<|tx (bX (⟨6,7,7,Qs⟩:aG))<|Jn λq=>aI (va6 PVal.tuple (dI (cB (⟨6,7,7,Qs⟩:aG)) (dI (rP (.bool true)) (rfl:([]:List PVal)=[])))) q.2)<|tF (tv (bD 6 7 7 Be)<|tx (bX (⟨6,7,7,Be⟩:aG))<|Jn λq=>aI (va6 PVal.tuple (dI (cB (⟨6,7,7,Be⟩:aG)) (dI (rP (.bool true)) (rfl:([]:List PVal)=[])))) q.2)<|tF (tv (bD 7 7 8 Qr)<|tx (bX (⟨7,7,8,Qr⟩:aG))<|Jn λq=>aI (va6 PVal.tuple (dI (cB (⟨7,7,8,Qr⟩:aG)) (dI (rP (.bool true)) (rfl:([]:List PVal)=[])))) q.2)<|tF (tv (bD 7 7 8 pj)<|tx (bX (⟨7,7,8,pj⟩:aG))<|Jn λq=>aI (va6 PVal.tuple (dI (cB (⟨7,7,8,pj⟩:aG)) (dI (rP (.bool true)) (rfl:([]:List PVal)=[])))) q.2)<|tF (tv (bD 8 8 9 Qq)<|tx (bX (⟨8,8,9,Qq⟩:aG))<|Jn λq=>aI (va6 PVal.tuple (dI (cB (⟨8,8,9,Qq⟩:aG)) (dI (rP (.bool true)) (rfl:([]:List PVal)=[])))) q.2)<|tv (GJ)<|tx (bX (⟨0,0,0,([]:ah)⟩:aG))<|Jn λq=>aI (va6 PVal.tuple (dI (cB (⟨0,0,0,([]:ah)⟩:aG)) (dI (rP (.bool false)) (rfl:([]:List PVal)=[])))) q.2
noncomputable def qiA:Code:=f189.body.getD .skip
def qg7:List Nat:=[]
theorem qhY:ZF Pg qg7 189 f189 qiA:=zf call189 func189 rfl mixed
def xk(p:aa):Option Int:=
 if(p.Op==14)=true then
  some 5
 else if(p.Op==9)=true then
  some 9
 else
  (qd p.Op).bind λr3=>
  if r3.2=true then
   some r3.1.level
  else
   some 10
theorem IW{p:aa}:OV 189 [.agg (ac p)] (xk p) (λr=>.int .i64 r) []:=qhY.v<|
 te (eI p)<|tw (aQ p)<|tF tE<|tF tE<|tb λr3 br3=>tw (aQ p)<|cJ (y4 _ br3)<|tx qas<|tx (bX r3.1)<|tF (ts<|tE)<|tE
noncomputable def qiy:Code:=f186.body.getD .skip
def qg5:List Nat:=[]
theorem qhW:ZF Pg qg5 186 f186 qiy:=zf call186 func186 rfl mixed
def dz(a:waA):Option ah:=
 (PO a ([]:ah)).bind λr1=>
 some r1
theorem dW{a:waA}:OV 186 [sl cS a] (dz a) (λr=>.str r) []:=qhW.v<|
 tb λr1 br1=>cJ (S8 br1)<|tE
noncomputable def qdI:Code:=f185.body.getD .skip
def qg4:List Nat:=[13]
theorem qe5:ZF Pg qg4 185 f185 qdI:=zf call185 func185 rfl mixed
section
variable(R65:fP)(t7:waD)(t8:Int)(out:waA)(t9:Int)
def iy:aF:=aZ 24 [(1,.bptr 0 0),(4,sl cS out),(7,sl ac t7),(8,.int .i64 t8),(9,.int .i64 t9)] [.cells [.func (.func 188) [] [.bptr 0 0,.bptr 1 0]] [],.cells [.func (.func 185) [] [.bptr 0 0]] []] [((4,0),9)]
def lU(o:waA):aF:=aZ 24 [(4,sl cS o)] [.cells [.func (.func 188) [] [.bptr 0 0,.bptr 1 0]] [],.cells [.func (.func 185) [] [.bptr 0 0]] []] [((4,0),9)]
instance iS_predtext_Text_1_L1:KS 2 (iy t7 t8 out t9):=⟨rfl,(bE (aI (dQ rfl) (aI (up (aU Mf out)) (aI (up (aU bv t7)) (aI vzz (aI vzz vzz)))))),(aI (aI (aI vzz (aI (dQ rfl) (aI (dQ rfl) trivial))) trivial) (aI (aI (aI vzz (aI (dQ rfl) trivial)) trivial) trivial))⟩
instance iO_predtext_Text_1_L1{o:waA}:KS 2 (lU o):=⟨rfl,(bE (aI (up (aU Mf o)) trivial)),(aI (aI (aI vzz (aI (dQ rfl) (aI (dQ rfl) trivial))) trivial) (aI (aI (aI vzz (aI (dQ rfl) trivial)) trivial) trivial))⟩
def fI:Option ((waA×Int)⊕(waA)):=
 if decide (t9<t8)=true then
  (dh t7 t9).bind λx2=>
  (R65 x2 1).bind λr3=>
  (app out ([r3]:List ah)).bind λl4=>
  some (.inl (l4,dU (t9+1)))
 else
  some (.inr out)
def kc:Option waA:=loop (λ(zz:waA×Int)=>fI R65 t7 t8 zz.1 zz.2) (out,t9)
theorem BZ(hR65:kU R65):OL 2 (cA qdI 119) (fI R65 t7 t8 out t9) (λ(zz:waA×Int)=>iy t7 t8 zz.1 zz.2) (λ_=>.exit 0) lU (iy t7 t8 out t9):=qe5.lx<|
 tF (tb λx2 bx2=>tb λr3 br3=>tb λl4 bl4=>tv (eL.ia (k:=.i64) bx2)<|tv (bC x2)<|tx N7<|tx (jK x2)<|ts<|tv (kz x2 [])<|tc [0,1] (hR65 _ _ _ br3)<|tv (cU [r3] 1 rfl)<|tv (kQ.ap bl4)<|tE)<|tE
theorem C9(hR65:kU R65):OJ 2 (.loop (cA qdI 119)) (kc R65 t7 t8 out t9) (.exit 0) lU (iy t7 t8 out t9):=Ke λ_=>BZ _ _ _ _ _ hR65
end
def kq(R65:fP)(a:waD):Option ah:=
 (kc R65 a (a.length:Int) ([]:List ah) 0).bind λo5=>
 (PO o5 ax).bind λr6=>
 (dz ([cd,r6,bA]:List ah)).bind λr7=>
 some r7
theorem xj(R65:fP)(hR65:kU R65){a:waD}:OG 185 [sl ac a,.bptr 0 0] [] [.cells [.func (.func 188) [] [.bptr 0 0,.bptr 1 0]] [],.cells [.func (.func 185) [] [.bptr 0 0]] []] (kq R65 a) (λr=>.str r) [] (λr=>[.cells [.func (.func 188) [] [.bptr 0 0,.bptr 1 0]] [],.cells [.func (.func 185) [] [.bptr 0 0]] []]):=qe5.g 2<|
 tb λo5 bo5=>tb λr6 br6=>tb λr7 br7=>cq (eL.ln a)<|dm (C9 R65 a (a.length:Int) ([]:List ah) 0 hR65 _ bo5)<|cJ (S8 br6)<|tv (cU [cd,r6,bA] 3 rfl)<|cJ (dW _ br7)<|tE
noncomputable def qiz:Code:=f188.body.getD .skip
def qg6:List Nat:=[]
theorem qhX:ZF Pg qg6 188 f188 qiz:=zf call188 func188 rfl mixed
def lj(R65:fP)(p:aa)(least:Int):Option ah:=
 (xk p).bind λr1=>
 if decide (r1<least)=true then
  (R65 p 1).bind λr3=>
  (dz ([cd,r3,bA]:List ah)).bind λr4=>
  some r4
 else
  (qd p.Op).bind λr5=>
  if r5.2=true then
   (dh p.Kids 0).bind λx7=>
   (R65 x7 r5.1.left).bind λr8=>
   (dh p.Kids 1).bind λx9=>
   (R65 x9 r5.1.right).bind λr10=>
   (dz ([r8,ce,r5.1.sign,ce,r10]:List ah)).bind λr11=>
   some r11
  else if(p.Op==1)=true then
   if decide (p.N<0)=true then
    (Ni p.N).bind λr14=>
    (dz ([cd,r14,bA]:List ah)).bind λr15=>
    some r15
   else
    (Ni p.N).bind λr16=>
    some r16
  else if(p.Op==2)=true then
   (fq (p.N==1)).bind λr18=>
   some r18
  else if(p.Op==3)=true then
   some p.Name
  else if(p.Op==4)=true then
   (kq R65 p.Kids).bind λr21=>
   (dz ([p.Name,r21]:List ah)).bind λr22=>
   some r22
  else if(p.Op==5)=true then
   (kq R65 p.Kids).bind λr24=>
   (dz ([Lh,p.Name,r24]:List ah)).bind λr25=>
   some r25
  else if(p.Op==14)=true then
   (dh p.Kids 0).bind λx27=>
   (R65 x27 5).bind λr28=>
   (dz ([rh,r28]:List ah)).bind λr29=>
   some r29
  else
   (dh p.Kids 0).bind λx30=>
   (R65 x30 9).bind λr31=>
   (dz ([pj,r31]:List ah)).bind λr32=>
   some r32
theorem FC(R65:fP)(hR65:kU R65){p:aa}{least:Int}:OG 188 [.agg (ac p),.int .i64 least,.bptr 0 0,.bptr 1 0] [] [.cells [.func (.func 188) [] [.bptr 0 0,.bptr 1 0]] [],.cells [.func (.func 185) [] [.bptr 0 0]] []] (lj R65 p least) (λr=>.str r) [] (λr=>[.cells [.func (.func 188) [] [.bptr 0 0,.bptr 1 0]] [],.cells [.func (.func 185) [] [.bptr 0 0]] []]):=qhX.g 2<|
 tb λr1 br1=>te (eI p)<|tv (bC p)<|cJ (IW _ br1)<|tF (tb λr3 br3=>tb λr4 br4=>ts<|tv (bC p)<|tc [0,1] (hR65 _ _ _ br3)<|tv (cU [cd,r3,bA] 3 rfl)<|cJ (dW _ br4)<|tE)<|tb λr5 br5=>tw (aQ p)<|cJ (y4 _ br5)<|tx qas<|tx (bX r5.1)<|tF (tb λx7 bx7=>tb λr8 br8=>tb λx9 bx9=>tb λr10 br10=>tb λr11 br11=>Kz (.dx [0,0,2,6,14,0,32,127,0,256,0,0,2048,6144,14336,0,32768,130303,262143,524287,1048575] [] [] [0,2,3,11,263,301,317,343])<|ts<|tw (aK p)<|tv (eL.ia (k:=.i64) bx7)<|tv (bC x7)<|ts<|qjY [0,1] (hR65 _ _ _ br8)<|ts<|ts<|tw (aK p)<|tv (eL.ia (k:=.i64) bx9)<|tv (bC x9)<|ts<|qjY [0,1] (hR65 _ _ _ br10)<|tv (cU [r8,ce,r5.1.sign,ce,r10] 5 rfl)<|cJ (dW _ br11)<|tE)<|tw (aQ p)<|tF (tw (bM p)<|tF (tb λr14 br14=>tb λr15 br15=>tw (bM p)<|cJ (Mm br14)<|tv (cU [cd,r14,bA] 3 rfl)<|cJ (dW _ br15)<|tE)<|tb λr16 br16=>tw (bM p)<|cJ (Mm br16)<|tE)<|tF (tb λr18 br18=>tw (bM p)<|cJ (rf _ br18)<|tE)<|tF (tw (cy p)<|tE)<|tF (tb λr21 br21=>tb λr22 br22=>Kz (.dx [0,1,0,0,8,28,63,127,255] [] [] [3,11,589,617])<|tw (cy p)<|ts<|tw (aK p)<|tc [0,1] (xj R65 hR65 _ br21)<|tv (cU [p.Name,r21] 2 rfl)<|cJ (dW _ br22)<|tE)<|tF (tb λr24 br24=>tb λr25 br25=>Kz (.dx [0,1,0,0,8,28,63,127,255] [] [] [3,11,669,697])<|tw (cy p)<|ts<|tw (aK p)<|tc [0,1] (xj R65 hR65 _ br24)<|tv (cU [Lh,p.Name,r24] 3 rfl)<|cJ (dW _ br25)<|tE)<|tF (tb λx27 bx27=>tb λr28 br28=>tb λr29 br29=>Kz (.dx [0,0,2,6,14,31,63,127,255] [] [] [3,11,777])<|ts<|tw (aK p)<|tv (eL.ia (k:=.i64) bx27)<|tv (bC x27)<|tc [0,1] (hR65 _ _ _ br28)<|tv (cU [rh,r28] 2 rfl)<|cJ (dW _ br29)<|tE)<|tb λx30 bx30=>tb λr31 br31=>tb λr32 br32=>Kz (.dx [0,0,2,6,14,31,63,127,255] [] [] [3,11,841])<|ts<|tw (aK p)<|tv (eL.ia (k:=.i64) bx30)<|tv (bC x30)<|tc [0,1] (hR65 _ _ _ br31)<|tv (cU [pj,r31] 2 rfl)<|cJ (dW _ br32)<|tE
def qc:((aa×Int)->Option ah)->(aa×Int)->Option ah:=λ(rec:(aa×Int)->Option ah) (x:aa×Int)=>lj (λp least=>rec (p,least)) x.1 x.2
def um(p:aa)(least:Int):Option ah:=oE qc (p,least)
theorem G7{p:aa}{least:Int}:OG 188 [.agg (ac p),.int .i64 least,.bptr 0 0,.bptr 1 0] [] [.cells [.func (.func 188) [] [.bptr 0 0,.bptr 1 0]] [],.cells [.func (.func 185) [] [.bptr 0 0]] []] (um p least) (λr=>.str r) [] (λr=>[.cells [.func (.func 188) [] [.bptr 0 0,.bptr 1 0]] [],.cells [.func (.func 185) [] [.bptr 0 0]] []]):=Ug λ_ h=>
 eE (F:=qc) (M:=λ(x:aa×Int) (r:ah)=>C Pg GE 188 [.agg (ac x.1),.int .i64 x.2,.bptr 0 0,.bptr 1 0] [] [.cells [.func (.func 188) [] [.bptr 0 0,.bptr 1 0]] [],.cells [.func (.func 185) [] [.bptr 0 0]] []] (.str r) [] [.cells [.func (.func 188) [] [.bptr 0 0,.bptr 1 0]] [],.cells [.func (.func 185) [] [.bptr 0 0]] []]) (λrec hrec x r h=>FC _ (λp least=>Ug λr h=>hrec (p,least) r h) _ h) h
noncomputable def qil:Code:=f127.body.getD .skip
def qgF:List Nat:=[11]
theorem qhJ:ZF Pg qgF 127 f127 qil:=zf call127 func127 rfl mixed
def sC(p:aa):Option (ah×Int):=
 (rB p).bind λr1=>
 if(r1 !=0)=true then
  some (([]:ah),r1)
 else
  (um p 1).bind λr3=>
  some (r3,0)
theorem Ko{p:aa}:OV 127 [.agg (ac p)] (sC p) (λr=>.tuple [.str r.1,.int .i64 r.2]) []:=qhJ.v<|
 tb λr1 br1=>te (eI p)<|tv (bC p)<|cJ (Pm br1)<|tF tE<|tb λr3 br3=>tx qfT<|tx qfU<|ts<|ts<|ts<|tv (bC p)<|tc [1,2] (G7 _ br3)<|tE
noncomputable def qjM:Code:=f78.body.getD .skip
def qkE:List Nat:=[]
theorem qjH:ZF Pg qkE 78 f78 qjM:=zf call78 func78 rfl mixed
section
variable(s:ah)(e:Int)(m:(List Int))(m2:Bool)
def iE:Option Bool:=
 if m2=true then
  some true
 else
  some (e !=0)
theorem AL:OJ 1 (cA qjM 14) (iE e m2) .normal (λo=>aZ 26 [(0,.bptr 0 0),(4,.str s)] [.cells [.nptr 0 76,sl (cI .u8) m,.bool o] [(1,5)],.dead] []) (aZ 26 [(0,.bptr 0 0),(4,.str s),(5,.int .i64 e)] [.cells [.nptr 0 76,sl (cI .u8) m,.bool m2] [(1,5)],.dead] []):=qjH.j<|
 tf (λc2=>ts<|tg 6 c2<|ts<|tE) λc2=>ts<|tg 6 c2<|ts<|tE
end
def iD(p:aa)(k0:(List Int))(k02:Bool):Option ((List Int)×Bool):=
 (sC p).bind λr1=>
 (iE r1.2 k02).bind λo3=>
 (ak ([r1.1]:List ah) k0 o3).bind λr4=>
 some (r4,o3)
theorem tG{p:aa}{k0:(List Int)}{k02:Bool}:OG 78 [.bptr 0 0,.agg (ac p)] [] [.cells [.nptr 0 76,sl (cI .u8) k0,.bool k02] [(1,5)]] (iD p k0 k02) (λr=>.tuple []) [] (λr=>[.cells [.nptr 0 76,sl (cI .u8) r.1,.bool r.2] [(1,5)]]):=qjH.g 1<|
 tb λr1 br1=>tb λo3 bo3=>tb λr4 br4=>te (eI p)<|tv (bC p)<|cJ (Ko _ br1)<|lB 0<|dm (AL r1.1 r1.2 k0 k02 _ bo3)<|tv (cU [r1.1] 1 rfl)<|tc [0] (ai _ br4)<|tE
noncomputable def qlu:Code:=f95.body.getD .skip
def qkL:List Nat:=[]
theorem qk9:ZF Pg qkL 95 f95 qlu:=zf call95 func95 rfl mixed
def kj(p:aa)(k0:(List Int))(k02:Bool):Option ((List Int)×Bool):=
 (mb p).bind λr1=>
 if r1=true then
  (ak ([eC]:List ah) k0 k02).bind λr3=>
  some (r3,k02)
 else
  (iD p k0 k02).bind λr4=>
  some (r4.1,r4.2)
theorem Df{p:aa}{k0:(List Int)}{k02:Bool}:OG 95 [.bptr 0 0,.agg (ac p)] [] [.cells [.nptr 0 76,sl (cI .u8) k0,.bool k02] [(1,5)]] (kj p k0 k02) (λr=>.tuple []) [] (λr=>[.cells [.nptr 0 76,sl (cI .u8) r.1,.bool r.2] [(1,5)]]):=qk9.g 1<|
 tb λr1 br1=>te (eI p)<|tv (bC p)<|cJ (nH _ br1)<|tF (tb λr3 br3=>tv (cU [eC] 1 rfl)<|tc [0] (ai _ br3)<|tE)<|tb λr4 br4=>tv (bC p)<|tc [0] (tG _ br4)<|tE
noncomputable def qlt:Code:=f94.body.getD .skip
def qkK:List Nat:=[]
theorem qk8:ZF Pg qkK 94 f94 qlt:=zf call94 func94 rfl mixed
def oJ(i:Int)(a:ae)(k1:(List Int))(k12:Bool):Option ((List Int)×Bool):=
 (ak ([ed]:List ah) k1 k12).bind λr1=>
 (dh a.Preds i).bind λx2=>
 (kj x2 r1 k12).bind λr3=>
 some (r3.1,r3.2)
theorem Dg{i:Int}{a:ae}{k1:(List Int)}{k12:Bool}:OG 94 [.int .i64 i,.bptr 0 0,.eptr (aj a)] [] [.cells [.bptr 1 0] [],.cells [.nptr 1 76,sl (cI .u8) k1,.bool k12] [(1,5)]] (oJ i a k1 k12) (λr=>.tuple []) [] (λr=>[.cells [.bptr 1 0] [],.cells [.nptr 1 76,sl (cI .u8) r.1,.bool r.2] [(1,5)]]):=qk8.g 2<|
 tb λr1 br1=>tb λx2 bx2=>tb λr3 br3=>ts<|tv (cU [ed] 1 rfl)<|tc [1] (ai _ br1)<|tk<|Kz (.dx [0,0,2,0,14,30] [] [] [])<|ts<|tw (bu a)<|tv (eL.ia (k:=.i64) bx2)<|tv (bC x2)<|tc [1] (Df _ br3)<|tE
section
variable(v:ae)(i:Int)(t7:Int)(m:(List Int))(m2:Bool)
def nB:Option (((List Int))):=
 if decide (i>0)=true then
  (ak ([ax]:List ah) m m2).bind λr3=>
  some r3
 else
  some m
theorem vR:OJ 2 (cA QH 1014) (nB i m m2) .normal (λo=>aZ 20 [(0,.bptr 0 0),(2,.func (.func 94) [] [.bptr 1 0,.eptr (aj v)]),(6,.int .i64 i),(7,.int .i64 t7),(8,.int .i64 i)] [.cells [.nptr 0 76,sl (cI .u8) o,.bool m2] [(1,5)],.cells [.bptr 0 0] []] []) (aZ 20 [(0,.bptr 0 0),(2,.func (.func 94) [] [.bptr 1 0,.eptr (aj v)]),(6,.int .i64 i),(7,.int .i64 t7),(8,.int .i64 i)] [.cells [.nptr 0 76,sl (cI .u8) m,.bool m2] [(1,5)],.cells [.bptr 0 0] []] []):=Sm.j<|
 tF (tb λr3 br3=>tv (cU [ax] 1 rfl)<|tc [0] (ai _ br3)<|tE)<|tE
end
section
variable(v:ae)(t7:Int)(t8:Int)(m:(List Int))(m2:Bool)
def gI:aF:=aZ 20 [(0,.bptr 0 0),(2,.func (.func 94) [] [.bptr 1 0,.eptr (aj v)]),(7,.int .i64 t7),(8,.int .i64 t8)] [.cells [.nptr 0 76,sl (cI .u8) m,.bool m2] [(1,5)],.cells [.bptr 0 0] []] []
def lW(o:(List Int)×Bool):aF:=aZ 20 [] [.cells [.nptr 0 76,sl (cI .u8) o.1,.bool o.2] [(1,5)],.cells [.bptr 0 0] []] []
def cE:Option ((Int×(List Int)×Bool)⊕(((List Int)×Bool))):=
 if decide (t8<t7)=true then
  (nB t8 m m2).bind λo4=>
  (oJ t8 v o4 m2).bind λr5=>
  some (.inl (dU (t8+1),r5.1,r5.2))
 else
  some (.inr (m,m2))
def iN:Option (((List Int)×Bool)):=loop (λ(zz:Int×(List Int)×Bool)=>cE v t7 zz.1 zz.2.1 zz.2.2) (t8,m,m2)
theorem ur:OL 2 (cA QH 15) (cE v t7 t8 m m2) (λ(zz:Int×(List Int)×Bool)=>gI v t7 zz.1 zz.2.1 zz.2.2) (λ_=>.exit 0) lW (gI v t7 t8 m m2):=Sm.l<|
 tF (tb λo4 bo4=>tb λr5 br5=>lB 2<|dm (vR v t8 t7 m m2 _ bo4)<|tc [1,0] (Dg _ br5)<|tE)<|tE
theorem vS:OJ 2 (.loop (cA QH 15)) (iN v t7 t8 m m2) (.exit 0) lW (gI v t7 t8 m m2):=Ke λ_=>ur _ _ _ _ _
end
def gY(n:Int)(c:ae)(k0:(List Int))(k02:Bool):Option ((List Int)×Bool):=
 (iN c n 0 k0 k02).bind λo6=>
 some (o6.1,o6.2)
theorem zM{n:Int}{c:ae}{k0:(List Int)}{k02:Bool}:OG 70 [.bptr 0 0,.int .i64 n,.func (.func 94) [] [.bptr 1 0,.eptr (aj c)]] [] [.cells [.nptr 0 76,sl (cI .u8) k0,.bool k02] [(1,5)],.cells [.bptr 0 0] []] (gY n c k0 k02) (λr=>.tuple []) [] (λr=>[.cells [.nptr 0 76,sl (cI .u8) r.1,.bool r.2] [(1,5)],.cells [.bptr 0 0] []]):=Sm.g 2<|
 tb λo6 bo6=>dm (vS c n 0 k0 k02 _ bo6)<|tE
noncomputable def qfm:Code:=f147.body.getD .skip
def qgM:List Nat:=[]
theorem qe2:ZF Pg qgM 147 f147 qfm:=zf call147 func147 rfl mixed
section
variable(i:Int)(t1:ae)(m:(List Int))(m2:Bool)
def gM:Option (((List Int)×Bool)):=
 if decide ((t1.Names.length:Int)>0)=true then
  (dh t1.Names i).bind λx2=>
  (cz x2 m m2).bind λr3=>
  (ak ([aS]:List ah) r3.2 r3.1).bind λr4=>
  some (r4,r3.1)
 else
  some (m,m2)
theorem tA:OJ 2 (cA qfm 2) (gM i t1 m m2) .normal (λo=>aZ 25 [(0,.int .i64 i),(1,.eptr (aj t1)),(2,.bptr 0 0)] [.cells [.bptr 1 0] [],.cells [.nptr 1 76,sl (cI .u8) o.1,.bool o.2] [(1,5)]] []) (aZ 25 [(0,.int .i64 i),(1,.eptr (aj t1)),(2,.bptr 0 0)] [.cells [.bptr 1 0] [],.cells [.nptr 1 76,sl (cI .u8) m,.bool m2] [(1,5)]] []):=qe2.j<|
 tw (bN t1)<|cq (kQ.ln t1.Names)<|tF (tb λx2 bx2=>tb λr3 br3=>tb λr4 br4=>tk<|Kz (.dx [0,0,2,0,14,30] [] [] [])<|ts<|tw (bN t1)<|tv (kQ.ia (k:=.i64) bx2)<|tv (kb qct (.str x2) [])<|tc [1] (cV _ br3)<|ts<|tv (cU [aS] 1 rfl)<|tc [1] (ai _ br4)<|tE)<|tE
end
def jM(R78:bL)(i:Int)(a:ae)(k1:(List Int))(k12:Bool):Option ((List Int)×Bool):=
 (gM i a k1 k12).bind λo5=>
 (dh a.Args i).bind λx6=>
 (R78 x6 o5.1 o5.2).bind λr7=>
 some (r7.2,r7.1)
theorem xo(R78:bL)(hR78:cY R78){i:Int}{a:ae}{k1:(List Int)}{k12:Bool}:OG 147 [.int .i64 i,.eptr (aj a),.bptr 0 0] [] [.cells [.bptr 1 0] [],.cells [.nptr 1 76,sl (cI .u8) k1,.bool k12] [(1,5)]] (jM R78 i a k1 k12) (λr=>.tuple []) [] (λr=>[.cells [.bptr 1 0] [],.cells [.nptr 1 76,sl (cI .u8) r.1,.bool r.2] [(1,5)]]):=qe2.g 2<|
 tb λo5 bo5=>tb λx6 bx6=>tb λr7 br7=>lB 0<|dm (tA i a k1 k12 _ bo5)<|tk<|Kz (.dx [0,0,2,0,14,30] [] [] [])<|ts<|tw (aX a)<|tv (dy.ia (k:=.i64) bx6)<|tv (cC x6)<|tc [1] (hR78 _ _ _ _ br7)<|tE
section
variable(v:ae)(i:Int)(t7:Int)(m:(List Int))(m2:Bool)
def nC:Option (((List Int))):=
 if decide (i>0)=true then
  (ak ([ax]:List ah) m m2).bind λr3=>
  some r3
 else
  some m
theorem vT:OJ 2 (cA QH 1014) (nC i m m2) .normal (λo=>aZ 20 [(0,.bptr 0 0),(2,.func (.func 147) [] [.eptr (aj v),.bptr 1 0]),(6,.int .i64 i),(7,.int .i64 t7),(8,.int .i64 i)] [.cells [.nptr 0 76,sl (cI .u8) o,.bool m2] [(1,5)],.cells [.bptr 0 0] []] []) (aZ 20 [(0,.bptr 0 0),(2,.func (.func 147) [] [.eptr (aj v),.bptr 1 0]),(6,.int .i64 i),(7,.int .i64 t7),(8,.int .i64 i)] [.cells [.nptr 0 76,sl (cI .u8) m,.bool m2] [(1,5)],.cells [.bptr 0 0] []] []):=Sm.j<|
 tF (tb λr3 br3=>tv (cU [ax] 1 rfl)<|tc [0] (ai _ br3)<|tE)<|tE
end
section
variable(R78:bL)(v:ae)(t7:Int)(t8:Int)(m:(List Int))(m2:Bool)
def gJ:aF:=aZ 20 [(0,.bptr 0 0),(2,.func (.func 147) [] [.eptr (aj v),.bptr 1 0]),(7,.int .i64 t7),(8,.int .i64 t8)] [.cells [.nptr 0 76,sl (cI .u8) m,.bool m2] [(1,5)],.cells [.bptr 0 0] []] []
def lX(o:(List Int)×Bool):aF:=aZ 20 [] [.cells [.nptr 0 76,sl (cI .u8) o.1,.bool o.2] [(1,5)],.cells [.bptr 0 0] []] []
def cF:Option ((Int×(List Int)×Bool)⊕(((List Int)×Bool))):=
 if decide (t8<t7)=true then
  (nC t8 m m2).bind λo4=>
  (jM R78 t8 v o4 m2).bind λr5=>
  some (.inl (dU (t8+1),r5.1,r5.2))
 else
  some (.inr (m,m2))
def iO:Option (((List Int)×Bool)):=loop (λ(zz:Int×(List Int)×Bool)=>cF R78 v t7 zz.1 zz.2.1 zz.2.2) (t8,m,m2)
theorem ut(hR78:cY R78):OL 2 (cA QH 15) (cF R78 v t7 t8 m m2) (λ(zz:Int×(List Int)×Bool)=>gJ v t7 zz.1 zz.2.1 zz.2.2) (λ_=>.exit 0) lX (gJ v t7 t8 m m2):=Sm.l<|
 tF (tb λo4 bo4=>tb λr5 br5=>lB 2<|dm (vT v t8 t7 m m2 _ bo4)<|tc [1,0] (xo R78 hR78 _ br5)<|tE)<|tE
theorem vU(hR78:cY R78):OJ 2 (.loop (cA QH 15)) (iO R78 v t7 t8 m m2) (.exit 0) lX (gJ v t7 t8 m m2):=Ke λ_=>ut _ _ _ _ _ _ hR78
end
def kK(R78:bL)(n:Int)(c:ae)(k0:(List Int))(k02:Bool):Option ((List Int)×Bool):=
 (iO R78 c n 0 k0 k02).bind λo6=>
 some (o6.1,o6.2)
theorem zN(R78:bL)(hR78:cY R78){n:Int}{c:ae}{k0:(List Int)}{k02:Bool}:OG 70 [.bptr 0 0,.int .i64 n,.func (.func 147) [] [.eptr (aj c),.bptr 1 0]] [] [.cells [.nptr 0 76,sl (cI .u8) k0,.bool k02] [(1,5)],.cells [.bptr 0 0] []] (kK R78 n c k0 k02) (λr=>.tuple []) [] (λr=>[.cells [.nptr 0 76,sl (cI .u8) r.1,.bool r.2] [(1,5)],.cells [.bptr 0 0] []]):=Sm.g 2<|
 tb λo6 bo6=>dm (vU R78 c n 0 k0 k02 hR78 _ bo6)<|tE
noncomputable def qlv:Code:=f96.body.getD .skip
def qkM:List Nat:=[]
theorem qla:ZF Pg qkM 96 f96 qlv:=zf call96 func96 rfl mixed
def gZ(R78:bL)(t:ae)(k0:(List Int))(k02:Bool):Option ((List Int)×Bool):=
 (ak ([cd]:List ah) k0 k02).bind λr1=>
 (kK R78 (dU ((t.Args.length:Int) - 1)) t r1 k02).bind λr2=>
 (ak ([aR]:List ah) r2.1 r2.2).bind λr3=>
 (dh t.Args (dU ((t.Args.length:Int) - 1))).bind λx4=>
 (R78 x4 r3 r2.2).bind λr5=>
 some (r5.2,r5.1)
theorem zQ(R78:bL)(hR78:cY R78){t:ae}{k0:(List Int)}{k02:Bool}:OG 96 [.bptr 0 0,.agg (aj t)] [] [.cells [.nptr 0 76,sl (cI .u8) k0,.bool k02] [(1,5)]] (gZ R78 t k0 k02) (λr=>.tuple []) [] (λr=>[.cells [.nptr 0 76,sl (cI .u8) r.1,.bool r.2] [(1,5)]]):=qla.g 1<|
 tb λr1 br1=>tb λr2 br2=>tb λr3 br3=>tb λx4 bx4=>tb λr5 br5=>qeP (rfl:bZ (.bptr 0 0)=some [.bptr 0 0]) rfl<|te (fe t)<|tw (aX t)<|cq (dy.ln t.Args)<|ts<|tv (cU [cd] 1 rfl)<|tc [0] (ai _ br1)<|ts<|tc [0,1] (zN R78 hR78 _ br2)<|ts<|tv (cU [aR] 1 rfl)<|tc [0] (ai _ br3)<|tk<|Kz (.dx [0,0,2,0,14,30] [] [] [])<|ts<|tw (aX t)<|tv (dy.ia (k:=.i64) bx4)<|tv (cC x4)<|tc [0] (hR78 _ _ _ _ br5)<|tE
noncomputable def qeK:Code:=f53.body.getD .skip
def qku:List Nat:=[]
theorem qfg:ZF Pg qku 53 f53 qeK:=zf call53 func53 rfl mixed
section
variable(t:ae)(m:(List Int))(m2:Bool)
def jl:Option Bool:=
 if(t.Op==6)=true then
  (mb t.Pred).bind λr3=>
  if(!r3)=true then
   some true
  else if decide ((t.Preds.length:Int)>0)=true then
   some true
  else if(t.Op !=4)=true then
   some (decide ((t.Preds.length:Int)>0))
  else
   some false
 else if(t.Op !=4)=true then
  some (decide ((t.Preds.length:Int)>0))
 else
  some false
theorem Ca:OJ 1 (cA qeK 12) (jl t) .normal (λo=>aZ 119 [(2,.bptr 1 0),(3,.eptr (aj t)),(32,.bool o)] [.cells [.nptr 0 76,sl (cI .u8) m,.bool m2] [(1,5)],.cells [.bptr 0 0] [],.dead] []) (aZ 119 [(2,.bptr 1 0),(3,.eptr (aj t))] [.cells [.nptr 0 76,sl (cI .u8) m,.bool m2] [(1,5)],.cells [.bptr 0 0] [],.dead] []):=qfg.j<|
 have pp2:=λ{X Y Z} (r:PV _ X Y Z)=>tw (aW t)<|r;tf (λc1=>tb λr3 br3=>have pp5:=λ{X Y Z} (r:PV _ X Y Z)=>pp2<|tg 4 c1<|tw (cZ t)<|cJ (nH _ br3)<|r;tf (λc4=>pp5<|tg 9 c4<|tE) λc4=>have pp7:=λ{X Y Z} (r:PV _ X Y Z)=>pp5<|tg 9 c4<|tw (bu t)<|cq (eL.ln t.Preds)<|r;tf (λc6=>pp7<|tg 16 c6<|tE) λc6=>have pp9:=λ{X Y Z} (r:PV _ X Y Z)=>pp7<|tg 16 c6<|tw (aW t)<|r;tf (λc8=>pp9<|tg 20 c8<|tw (bu t)<|cq (eL.ln t.Preds)<|tE) λc8=>pp9<|tg 20 c8<|tE) λc1=>have pp11:=λ{X Y Z} (r:PV _ X Y Z)=>pp2<|tg 4 c1<|tw (aW t)<|r;tf (λc10=>pp11<|tg 20 c10<|tw (bu t)<|cq (eL.ln t.Preds)<|tE) λc10=>pp11<|tg 20 c10<|tE
end
section
variable(t:ae)(refined:Bool)(m:(List Int))(m2:Bool)
def jm:Option (((List Int))):=
 if refined=true then
  (ak ([dB]:List ah) m m2).bind λr16=>
  some r16
 else
  some m
theorem Cb:OJ 1 (cA qeK 30) (jm refined m m2) .normal (λo=>aZ 119 [(2,.bptr 1 0),(3,.eptr (aj t)),(4,.bool refined)] [.cells [.nptr 0 76,sl (cI .u8) o,.bool m2] [(1,5)],.cells [.bptr 0 0] [],.dead] []) (aZ 119 [(2,.bptr 1 0),(3,.eptr (aj t)),(4,.bool refined)] [.cells [.nptr 0 76,sl (cI .u8) m,.bool m2] [(1,5)],.cells [.bptr 0 0] [],.dead] []):=qfg.j<|
 tF (tb λr16 br16=>ts<|tv (cU [dB] 1 rfl)<|tc [0] (ai _ br16)<|tE)<|tE
end
section
variable(R78:bL)(t:ae)(refined:Bool)(t74:waB)(t75:Int)(t76:Int)(m:(List Int))(m2:Bool)
def hO:aF:=aZ 119 [(2,.bptr 1 0),(3,.eptr (aj t)),(4,.bool refined),(74,sl aj t74),(75,.int .i64 t75),(76,.int .i64 t76)] [.cells [.nptr 0 76,sl (cI .u8) m,.bool m2] [(1,5)],.cells [.bptr 0 0] [],.dead] []
def kP(o:(List Int)×Bool):aF:=aZ 119 [(2,.bptr 1 0),(3,.eptr (aj t)),(4,.bool refined)] [.cells [.nptr 0 76,sl (cI .u8) o.1,.bool o.2] [(1,5)],.cells [.bptr 0 0] [],.dead] []
instance iS_print_writer_typ_L4:KS 1 (hO t refined t74 t75 t76 m m2):=⟨rfl,(bE (aI (dQ rfl) (aI (eX (dO t)) (aI vzz (aI (up (aU dO t74)) (aI vzz (aI vzz vzz))))))),(aI (aI (dQ rfl) (aI (up (aU (Sn .u8) m)) (aI vzz vzz))) (aI (aI (dQ rfl) trivial) (aI vzz vzz)))⟩
instance iO_print_writer_typ_L4{o:((List Int)×Bool)}:KS 1 (kP t refined o):=⟨rfl,(bE (aI (dQ rfl) (aI (eX (dO t)) (aI vzz vzz)))),(aI (aI (dQ rfl) (aI (up (aU (Sn .u8) o.1)) (aI vzz vzz))) (aI (aI (dQ rfl) trivial) (aI vzz vzz)))⟩
def d9:Option ((Int×(List Int)×Bool)⊕(((List Int)×Bool))):=
 if decide (t76<t75)=true then
  (dh t74 t76).bind λx29=>
  (ak ([ce]:List ah) m m2).bind λr30=>
  (ki R78 x29 r30 m2).bind λr31=>
  some (.inl (dU (t76+1),r31.1,r31.2))
 else
  some (.inr (m,m2))
def jo:Option (((List Int)×Bool)):=loop (λ(zz:Int×(List Int)×Bool)=>d9 R78 t74 t75 zz.1 zz.2.1 zz.2.2) (t76,m,m2)
theorem AO(hR78:cY R78):OL 1 (cA qeK 8257495) (d9 R78 t74 t75 t76 m m2) (λ(zz:Int×(List Int)×Bool)=>hO t refined t74 t75 zz.1 zz.2.1 zz.2.2) (λ_=>.exit 1) (kP t refined) (hO t refined t74 t75 t76 m m2):=qfg.lx<|
 tF (tb λx29 bx29=>tb λr30 br30=>tb λr31 br31=>tv (dy.ia (k:=.i64) bx29)<|tv (cC x29)<|tx RN<|tx (pf x29)<|ts<|tv (cU [ce] 1 rfl)<|tc [0] (ai _ br30)<|ts<|tv (ij x29 [])<|tc [0] (De R78 hR78 _ br31)<|tE)<|tE
theorem Cd(hR78:cY R78):OJ 1 (.loop (cA qeK 8257495)) (jo R78 t74 t75 t76 m m2) (.exit 1) (kP t refined) (hO t refined t74 t75 t76 m m2):=Ke λ_=>AO _ _ _ _ _ _ _ _ hR78
end
section
variable(R78:bL)(t:ae)(refined:Bool)(m:(List Int))(m2:Bool)
def jn:Option (((List Int)×Bool)):=
 if(t.Op==1)=true then
  (ak ([Lg]:List ah) m m2).bind λr19=>
  some (r19,m2)
 else if(t.Op==2)=true then
  (ak ([EG]:List ah) m m2).bind λr21=>
  some (r21,m2)
 else if(t.Op==3)=true then
  (ak ([EH]:List ah) m m2).bind λr23=>
  some (r23,m2)
 else if(t.Op==5)=true then
  (cz t.Name m m2).bind λr25=>
  some (r25.2,r25.1)
 else if(t.Op==4)=true then
  (fm t.Name m m2).bind λr27=>
  (jo R78 t.Args (t.Args.length:Int) 0 r27.2 r27.1).bind λo32=>
  if decide ((t.Preds.length:Int)>0)=true then
   (ak ([tO]:List ah) o32.1 o32.2).bind λr34=>
   (gY (t.Preds.length:Int) t r34 o32.2).bind λr35=>
   (ak ([EJ]:List ah) r35.1 r35.2).bind λr36=>
   some (r36,r35.2)
  else
   some (o32.1,o32.2)
 else if(t.Op==6)=true then
  (gZ R78 t m m2).bind λr38=>
  some (r38.1,r38.2)
 else
  some (m,m2)
theorem Cc(hR78:cY R78):OJ 1 (cA qeK 62) (jn R78 t m m2) .normal (λo=>aZ 119 [(2,.bptr 1 0),(3,.eptr (aj t)),(4,.bool refined)] [.cells [.nptr 0 76,sl (cI .u8) o.1,.bool o.2] [(1,5)],.cells [.bptr 0 0] [],.dead] []) (aZ 119 [(2,.bptr 1 0),(3,.eptr (aj t)),(4,.bool refined)] [.cells [.nptr 0 76,sl (cI .u8) m,.bool m2] [(1,5)],.cells [.bptr 0 0] [],.dead] []):=qfg.j<|
 tw (aW t)<|tF (tb λr19 br19=>ts<|tv (cU [Lg] 1 rfl)<|tc [0] (ai _ br19)<|tE)<|tF (tb λr21 br21=>ts<|tv (cU [EG] 1 rfl)<|tc [0] (ai _ br21)<|tE)<|tF (tb λr23 br23=>ts<|tv (cU [EH] 1 rfl)<|tc [0] (ai _ br23)<|tE)<|tF (tb λr25 br25=>ts<|tw (cT t)<|tc [0] (cV _ br25)<|tE)<|tF (tb λr27 br27=>tb λo32 bo32=>ts<|tw (cT t)<|tc [0] (kO _ br27)<|tw (aX t)<|cq (dy.ln t.Args)<|dm (Cd R78 t refined t.Args (t.Args.length:Int) 0 r27.2 r27.1 hR78 _ bo32)<|tw (bu t)<|cq (eL.ln t.Preds)<|tF (tb λr34 br34=>tb λr35 br35=>tb λr36 br36=>ts<|tv (cU [tO] 1 rfl)<|tc [0] (ai _ br34)<|ts<|tw (bu t)<|cq (eL.ln t.Preds)<|tc [0,1] (zM _ br35)<|ts<|tv (cU [EJ] 1 rfl)<|tc [0] (ai _ br36)<|tE)<|tE)<|tF (tb λr38 br38=>ts<|tv (cC t)<|tc [0] (zQ R78 hR78 _ br38)<|tE)<|tE
end
def kk(R78:bL)(t:ae)(k0:(List Int))(k02:Bool):Option (Bool×(List Int)):=
 (jl t).bind λo12=>
 if o12=true then
  some (true,k0)
 else
  (mb t.Pred).bind λr14=>
  (jm (!r14) k0 k02).bind λo17=>
  (jn R78 t o17 k02).bind λo39=>
  if(!r14)=true then
   (ak ([fM]:List ah) o39.1 o39.2).bind λr41=>
   (iD t.Pred r41 o39.2).bind λr42=>
   (ak ([C0]:List ah) r42.1 r42.2).bind λr43=>
   some (r42.2,r43)
  else
   some (o39.2,o39.1)
theorem Eu(R78:bL)(hR78:cY R78){t:ae}{k0:(List Int)}{k02:Bool}:OG 53 [.bptr 0 0,.agg (aj t)] [] [.cells [.nptr 0 76,sl (cI .u8) k0,.bool k02] [(1,5)]] (kk R78 t k0 k02) (λr=>.tuple []) [] (λr=>[.cells [.nptr 0 76,sl (cI .u8) r.2,.bool r.1] [(1,5)]]):=qfg.g 1<|
 tb λo12 bo12=>qeP (rfl:bZ (.bptr 0 0)=some [.bptr 0 0]) rfl<|te (fe t)<|lB 1<|dm (Ca t k0 k02 _ bo12)<|tF (ts<|ts<|tE)<|tb λr14 br14=>tb λo17 bo17=>tb λo39 bo39=>tw (cZ t)<|cJ (nH _ br14)<|lB 0<|dm (Cb t (!r14) k0 k02 _ bo17)<|lB 0<|dm (Cc R78 t (!r14) o17 k02 hR78 _ bo39)<|tF (tb λr41 br41=>tb λr42 br42=>tb λr43 br43=>ts<|tv (cU [fM] 1 rfl)<|tc [0] (ai _ br41)<|ts<|tw (cZ t)<|tc [0] (tG _ br42)<|ts<|tv (cU [C0] 1 rfl)<|tc [0] (ai _ br43)<|tE)<|tE
def oK:((ae×(List Int)×Bool)->Option (Bool×(List Int)))->(ae×(List Int)×Bool)->Option (Bool×(List Int)):=λ(rec:(ae×(List Int)×Bool)->Option (Bool×(List Int))) (x:ae×(List Int)×Bool)=>kk (λt k0 k02=>rec (t,k0,k02)) x.1 x.2.1 x.2.2
def rG(t:ae)(k0:(List Int))(k02:Bool):Option (Bool×(List Int)):=oE oK (t,k0,k02)
theorem FL{t:ae}{k0:(List Int)}{k02:Bool}:OG 53 [.bptr 0 0,.agg (aj t)] [] [.cells [.nptr 0 76,sl (cI .u8) k0,.bool k02] [(1,5)]] (rG t k0 k02) (λr=>.tuple []) [] (λr=>[.cells [.nptr 0 76,sl (cI .u8) r.2,.bool r.1] [(1,5)]]):=Ug λ_ h=>
 eE (F:=oK) (M:=λ(x:ae×(List Int)×Bool) (r:Bool×(List Int))=>C Pg GE 53 [.bptr 0 0,.agg (aj x.1)] [] [.cells [.nptr 0 76,sl (cI .u8) x.2.1,.bool x.2.2] [(1,5)]] (.tuple []) [] [.cells [.nptr 0 76,sl (cI .u8) r.2,.bool r.1] [(1,5)]]) (λrec hrec x r h=>Eu _ (λt k0 k02=>Ug λr h=>hrec (t,k0,k02) r h) _ h) h
noncomputable def qle:Code:=f22.body.getD .skip
def qke:List Nat:=[]
theorem qkT:ZF Pg qke 22 f22 qle:=zf call22 func22 rfl mixed
def dt(t:ae)(k0:(List Int))(k02:Bool):Option (Bool×(List Int)):=
 (mf t).bind λr1=>
 if(r1 !=0)=true then
  some (true,k0)
 else
  (rG t k0 k02).bind λr3=>
  some (r3.1,r3.2)
theorem ew{t:ae}{k0:(List Int)}{k02:Bool}:OG 22 [.bptr 0 0,.agg (aj t)] [] [.cells [.nptr 0 76,sl (cI .u8) k0,.bool k02] [(1,5)]] (dt t k0 k02) (λr=>.tuple []) [] (λr=>[.cells [.nptr 0 76,sl (cI .u8) r.2,.bool r.1] [(1,5)]]):=qkT.g 1<|
 tb λr1 br1=>te (fe t)<|tv (cC t)<|cJ (xL _ br1)<|tF (ts<|tE)<|tb λr3 br3=>tv (cC t)<|tc [0] (FL _ br3)<|tE
noncomputable def qit:Code:=f163.body.getD .skip
def qgU:List Nat:=[]
theorem qhR:ZF Pg qgU 163 f163 qit:=zf call163 func163 rfl mixed
def ma(i:Int)(a:waB)(k1:(List Int))(k12:Bool):Option ((List Int)×Bool):=
 (dh a i).bind λx1=>
 (dt x1 k1 k12).bind λr2=>
 some (r2.2,r2.1)
theorem AP{i:Int}{a:waB}{k1:(List Int)}{k12:Bool}:OG 163 [.int .i64 i,.bptr 0 0,.eptr ((cL aj) a)] [] [.cells [.bptr 1 0] [],.cells [.nptr 1 76,sl (cI .u8) k1,.bool k12] [(1,5)]] (ma i a k1 k12) (λr=>.tuple []) [] (λr=>[.cells [.bptr 1 0] [],.cells [.nptr 1 76,sl (cI .u8) r.1,.bool r.2] [(1,5)]]):=qhR.g 2<|
 tb λx1 bx1=>tb λr2 br2=>tk<|Kz (.dx [0,0,0,6,14] [] [] [])<|ts<|tv (kb qeu (sl aj a) [])<|tv (dy.ia (k:=.i64) bx1)<|tv (cC x1)<|tc [1] (ew _ br2)<|tE
section
variable(v:waB)(i:Int)(t7:Int)(m:(List Int))(m2:Bool)
def nD:Option (((List Int))):=
 if decide (i>0)=true then
  (ak ([ax]:List ah) m m2).bind λr3=>
  some r3
 else
  some m
theorem vV:OJ 2 (cA QH 1014) (nD i m m2) .normal (λo=>aZ 20 [(0,.bptr 0 0),(2,.func (.func 163) [] [.bptr 1 0,.eptr ((cL aj) v)]),(6,.int .i64 i),(7,.int .i64 t7),(8,.int .i64 i)] [.cells [.nptr 0 76,sl (cI .u8) o,.bool m2] [(1,5)],.cells [.bptr 0 0] []] []) (aZ 20 [(0,.bptr 0 0),(2,.func (.func 163) [] [.bptr 1 0,.eptr ((cL aj) v)]),(6,.int .i64 i),(7,.int .i64 t7),(8,.int .i64 i)] [.cells [.nptr 0 76,sl (cI .u8) m,.bool m2] [(1,5)],.cells [.bptr 0 0] []] []):=Sm.j<|
 tF (tb λr3 br3=>tv (cU [ax] 1 rfl)<|tc [0] (ai _ br3)<|tE)<|tE
end
section
variable(v:waB)(t7:Int)(t8:Int)(m:(List Int))(m2:Bool)
def gK:aF:=aZ 20 [(0,.bptr 0 0),(2,.func (.func 163) [] [.bptr 1 0,.eptr ((cL aj) v)]),(7,.int .i64 t7),(8,.int .i64 t8)] [.cells [.nptr 0 76,sl (cI .u8) m,.bool m2] [(1,5)],.cells [.bptr 0 0] []] []
def lY(o:(List Int)×Bool):aF:=aZ 20 [] [.cells [.nptr 0 76,sl (cI .u8) o.1,.bool o.2] [(1,5)],.cells [.bptr 0 0] []] []
def cG:Option ((Int×(List Int)×Bool)⊕(((List Int)×Bool))):=
 if decide (t8<t7)=true then
  (nD t8 m m2).bind λo4=>
  (ma t8 v o4 m2).bind λr5=>
  some (.inl (dU (t8+1),r5.1,r5.2))
 else
  some (.inr (m,m2))
def iP:Option (((List Int)×Bool)):=loop (λ(zz:Int×(List Int)×Bool)=>cG v t7 zz.1 zz.2.1 zz.2.2) (t8,m,m2)
theorem uu:OL 2 (cA QH 15) (cG v t7 t8 m m2) (λ(zz:Int×(List Int)×Bool)=>gK v t7 zz.1 zz.2.1 zz.2.2) (λ_=>.exit 0) lY (gK v t7 t8 m m2):=Sm.l<|
 tF (tb λo4 bo4=>tb λr5 br5=>lB 2<|dm (vV v t8 t7 m m2 _ bo4)<|tc [1,0] (AP _ br5)<|tE)<|tE
theorem vW:OJ 2 (.loop (cA QH 15)) (iP v t7 t8 m m2) (.exit 0) lY (gK v t7 t8 m m2):=Ke λ_=>uu _ _ _ _ _
end
def kL(n:Int)(c:waB)(k0:(List Int))(k02:Bool):Option ((List Int)×Bool):=
 (iP c n 0 k0 k02).bind λo6=>
 some (o6.1,o6.2)
theorem zO{n:Int}{c:waB}{k0:(List Int)}{k02:Bool}:OG 70 [.bptr 0 0,.int .i64 n,.func (.func 163) [] [.bptr 1 0,.eptr ((cL aj) c)]] [] [.cells [.nptr 0 76,sl (cI .u8) k0,.bool k02] [(1,5)],.cells [.bptr 0 0] []] (kL n c k0 k02) (λr=>.tuple []) [] (λr=>[.cells [.nptr 0 76,sl (cI .u8) r.1,.bool r.2] [(1,5)],.cells [.bptr 0 0] []]):=Sm.g 2<|
 tb λo6 bo6=>dm (vW c n 0 k0 k02 _ bo6)<|tE
noncomputable def qif:Code:=f109.body.getD .skip
def qgw:List Nat:=[]
theorem qhD:ZF Pg qgw 109 f109 qif:=zf call109 func109 rfl mixed
def gO(a:waB)(k0:(List Int))(k02:Bool):Option ((List Int)×Bool):=
 if((a.length:Int)==0)=true then
  some (k0,k02)
 else
  (ak ([Li]:List ah) k0 k02).bind λr2=>
  (kL (a.length:Int) a r2 k02).bind λr3=>
  (ak ([EK]:List ah) r3.1 r3.2).bind λr4=>
  some (r4,r3.2)
theorem q9{a:waB}{k0:(List Int)}{k02:Bool}:OG 109 [.bptr 0 0,sl aj a] [] [.cells [.nptr 0 76,sl (cI .u8) k0,.bool k02] [(1,5)]] (gO a k0 k02) (λr=>.tuple []) [] (λr=>[.cells [.nptr 0 76,sl (cI .u8) r.1,.bool r.2] [(1,5)]]):=qhD.g 1<|
 qeP (rfl:bZ (.bptr 0 0)=some [.bptr 0 0]) rfl<|te (qjb aj a)<|tv (kb qeu (sl aj a) [])<|cq (dy.ln a)<|tF tE<|tb λr2 br2=>tb λr3 br3=>tb λr4 br4=>ts<|tv (cU [Li] 1 rfl)<|tc [0] (ai _ br2)<|ts<|tv (kb qeu (sl aj a) [])<|cq (dy.ln a)<|tc [0,1] (zO _ br3)<|ts<|tv (cU [EK] 1 rfl)<|tc [0] (ai _ br4)<|tE
noncomputable def qiu:Code:=f164.body.getD .skip
def qgV:List Nat:=[]
theorem qhS:ZF Pg qgV 164 f164 qiu:=zf call164 func164 rfl mixed
def mZ(R111:bk)(i:Int)(a:waC)(k1:(List Int))(k12:Bool):Option ((List Int)×Bool):=
 (dh a i).bind λx1=>
 (R111 x1 k1 k12).bind λr2=>
 some (r2.1,r2.2)
theorem B4(R111:bk)(hR111:co R111){i:Int}{a:waC}{k1:(List Int)}{k12:Bool}:OG 164 [.int .i64 i,.bptr 0 0,.eptr ((cL ag) a)] [] [.cells [.bptr 1 0] [],.cells [.nptr 1 76,sl (cI .u8) k1,.bool k12] [(1,5)]] (mZ R111 i a k1 k12) (λr=>.tuple []) [] (λr=>[.cells [.bptr 1 0] [],.cells [.nptr 1 76,sl (cI .u8) r.1,.bool r.2] [(1,5)]]):=qhS.g 2<|
 tb λx1 bx1=>tb λr2 br2=>tk<|Kz (.dx [0,0,0,6,14] [] [] [])<|ts<|tv (kb qf6 (sl ag a) [])<|tv (fj.ia (k:=.i64) bx1)<|tv (bh x1)<|tc [1] (hR111 _ _ _ _ br2)<|tE
section
variable(v:waC)(i:Int)(t7:Int)(m:(List Int))(m2:Bool)
def nF:Option (((List Int))):=
 if decide (i>0)=true then
  (ak ([ax]:List ah) m m2).bind λr3=>
  some r3
 else
  some m
theorem vX:OJ 2 (cA QH 1014) (nF i m m2) .normal (λo=>aZ 20 [(0,.bptr 0 0),(2,.func (.func 164) [] [.bptr 1 0,.eptr ((cL ag) v)]),(6,.int .i64 i),(7,.int .i64 t7),(8,.int .i64 i)] [.cells [.nptr 0 76,sl (cI .u8) o,.bool m2] [(1,5)],.cells [.bptr 0 0] []] []) (aZ 20 [(0,.bptr 0 0),(2,.func (.func 164) [] [.bptr 1 0,.eptr ((cL ag) v)]),(6,.int .i64 i),(7,.int .i64 t7),(8,.int .i64 i)] [.cells [.nptr 0 76,sl (cI .u8) m,.bool m2] [(1,5)],.cells [.bptr 0 0] []] []):=Sm.j<|
 tF (tb λr3 br3=>tv (cU [ax] 1 rfl)<|tc [0] (ai _ br3)<|tE)<|tE
end
section
variable(R111:bk)(v:waC)(t7:Int)(t8:Int)(m:(List Int))(m2:Bool)
def gL:aF:=aZ 20 [(0,.bptr 0 0),(2,.func (.func 164) [] [.bptr 1 0,.eptr ((cL ag) v)]),(7,.int .i64 t7),(8,.int .i64 t8)] [.cells [.nptr 0 76,sl (cI .u8) m,.bool m2] [(1,5)],.cells [.bptr 0 0] []] []
def lZ(o:(List Int)×Bool):aF:=aZ 20 [] [.cells [.nptr 0 76,sl (cI .u8) o.1,.bool o.2] [(1,5)],.cells [.bptr 0 0] []] []
def cH:Option ((Int×(List Int)×Bool)⊕(((List Int)×Bool))):=
 if decide (t8<t7)=true then
  (nF t8 m m2).bind λo4=>
  (mZ R111 t8 v o4 m2).bind λr5=>
  some (.inl (dU (t8+1),r5.1,r5.2))
 else
  some (.inr (m,m2))
def iQ:Option (((List Int)×Bool)):=loop (λ(zz:Int×(List Int)×Bool)=>cH R111 v t7 zz.1 zz.2.1 zz.2.2) (t8,m,m2)
theorem uv(hR111:co R111):OL 2 (cA QH 15) (cH R111 v t7 t8 m m2) (λ(zz:Int×(List Int)×Bool)=>gL v t7 zz.1 zz.2.1 zz.2.2) (λ_=>.exit 0) lZ (gL v t7 t8 m m2):=Sm.l<|
 tF (tb λo4 bo4=>tb λr5 br5=>lB 2<|dm (vX v t8 t7 m m2 _ bo4)<|tc [1,0] (B4 R111 hR111 _ br5)<|tE)<|tE
theorem vY(hR111:co R111):OJ 2 (.loop (cA QH 15)) (iQ R111 v t7 t8 m m2) (.exit 0) lZ (gL v t7 t8 m m2):=Ke λ_=>uv _ _ _ _ _ _ hR111
end
def kM(R111:bk)(n:Int)(c:waC)(k0:(List Int))(k02:Bool):Option ((List Int)×Bool):=
 (iQ R111 c n 0 k0 k02).bind λo6=>
 some (o6.1,o6.2)
theorem zP(R111:bk)(hR111:co R111){n:Int}{c:waC}{k0:(List Int)}{k02:Bool}:OG 70 [.bptr 0 0,.int .i64 n,.func (.func 164) [] [.bptr 1 0,.eptr ((cL ag) c)]] [] [.cells [.nptr 0 76,sl (cI .u8) k0,.bool k02] [(1,5)],.cells [.bptr 0 0] []] (kM R111 n c k0 k02) (λr=>.tuple []) [] (λr=>[.cells [.nptr 0 76,sl (cI .u8) r.1,.bool r.2] [(1,5)],.cells [.bptr 0 0] []]):=Sm.g 2<|
 tb λo6 bo6=>dm (vY R111 c n 0 k0 k02 hR111 _ bo6)<|tE
noncomputable def qig:Code:=f110.body.getD .skip
def qgx:List Nat:=[]
theorem qhE:ZF Pg qgx 110 f110 qig:=zf call110 func110 rfl mixed
def dR(R111:bk)(a:waC)(k0:(List Int))(k02:Bool):Option ((List Int)×Bool):=
 (ak ([cd]:List ah) k0 k02).bind λr1=>
 (kM R111 (a.length:Int) a r1 k02).bind λr2=>
 (ak ([bA]:List ah) r2.1 r2.2).bind λr3=>
 some (r3,r2.2)
theorem eu(R111:bk)(hR111:co R111){a:waC}{k0:(List Int)}{k02:Bool}:OG 110 [.bptr 0 0,sl ag a] [] [.cells [.nptr 0 76,sl (cI .u8) k0,.bool k02] [(1,5)]] (dR R111 a k0 k02) (λr=>.tuple []) [] (λr=>[.cells [.nptr 0 76,sl (cI .u8) r.1,.bool r.2] [(1,5)]]):=qhE.g 1<|
 tb λr1 br1=>tb λr2 br2=>tb λr3 br3=>qeP (rfl:bZ (.bptr 0 0)=some [.bptr 0 0]) rfl<|te (qjb ag a)<|ts<|tv (cU [cd] 1 rfl)<|tc [0] (ai _ br1)<|ts<|tv (kb qf6 (sl ag a) [])<|cq (fj.ln a)<|tc [0,1] (zP R111 hR111 _ br2)<|ts<|tv (cU [bA] 1 rfl)<|tc [0] (ai _ br3)<|tE
noncomputable def qiw:Code:=f166.body.getD .skip
def qgX:List Nat:=[]
theorem qhU:ZF Pg qgX 166 f166 qiw:=zf call166 func166 rfl mixed
def sE(t:ae):Option Bool:=
 if (t.Op == 0) = true then
  if (t.Name == ([]:ah)) = true then
   if ((t.Args.length:Int) == 0) = true then
    if((t.Names.length:Int)==0)=true then
     (mb t.Pred).bind λr9=>
     if r9=true then
      some ((t.Preds.length:Int)==0)
     else
      some false
    else
     some false
   else
    some false
  else
   some false
 else
  some false
theorem Kp{t:ae}:OV 166 [.agg (aj t)] (sE t) (λr=>.bool r) []:=qhU.v<|
 te (fe t)<|have pp2:=λ{X Y Z} (r:PV _ X Y Z)=>tw (aW t)<|r;tf (λc1=>have pp4:=λ{X Y Z} (r:PV _ X Y Z)=>pp2<|tg 4 c1<|tw (cT t)<|r;tf (λc3=>have pp6:=λ{X Y Z} (r:PV _ X Y Z)=>pp4<|tg 9 c3<|tw (aX t)<|cq (dy.ln t.Args)<|r;tf (λc5=>have pp8:=λ{X Y Z} (r:PV _ X Y Z)=>pp6<|tg 15 c5<|tw (bN t)<|cq (kQ.ln t.Names)<|r;tf (λc7=>tb λr9 br9=>have pp11:=λ{X Y Z} (r:PV _ X Y Z)=>pp8<|tg 21 c7<|tw (cZ t)<|cJ (nH _ br9)<|r;tf (λc10=>pp11<|tg 26 c10<|tw (bu t)<|cq (eL.ln t.Preds)<|tE) λc10=>pp11<|tg 26 c10<|tE) λc7=>pp8<|tg 21 c7<|tE) λc5=>pp6<|tg 15 c5<|tE) λc3=>pp4<|tg 9 c3<|tE) λc1=>pp2<|tg 4 c1<|tE
noncomputable def qiv:Code:=f165.body.getD .skip
def qgW:List Nat:=[]
theorem qhT:ZF Pg qgW 165 f165 qiv:=zf call165 func165 rfl mixed
def lV(i:Int)(a:af)(k1:(List Int))(k12:Bool):Option ((List Int)×Bool):=
 (dh a.Params i).bind λx1=>
 (cz x1.Name k1 k12).bind λr2=>
 (dh a.Params i).bind λx3=>
 (sE x3.Type_).bind λr4=>
 if(!r4)=true then
  (ak ([aS]:List ah) r2.2 r2.1).bind λr6=>
  (dh a.Params i).bind λx7=>
  (dt x7.Type_ r6 r2.1).bind λr8=>
  some (r8.2,r8.1)
 else
  some (r2.2,r2.1)
theorem AF{i:Int}{a:af}{k1:(List Int)}{k12:Bool}:OG 165 [.int .i64 i,.bptr 0 0,.eptr (ag a)] [] [.cells [.bptr 1 0] [],.cells [.nptr 1 76,sl (cI .u8) k1,.bool k12] [(1,5)]] (lV i a k1 k12) (λr=>.tuple []) [] (λr=>[.cells [.bptr 1 0] [],.cells [.nptr 1 76,sl (cI .u8) r.1,.bool r.2] [(1,5)]]):=qhT.g 2<|
 tb λx1 bx1=>tb λr2 br2=>tb λx3 bx3=>tb λr4 br4=>tk<|Kz (.dx [0,0,2,0,14,30,62] [] [] [])<|ts<|tw (aL a)<|tv (pl.ia (k:=.i64) bx1)<|tw (ga x1)<|tc [1] (cV _ br2)<|tw (aL a)<|tv (pl.ia (k:=.i64) bx3)<|tw (ir x3)<|cJ (Kp _ br4)<|tF (tb λr6 br6=>tb λx7 bx7=>tb λr8 br8=>ts<|tv (cU [aS] 1 rfl)<|tc [1] (ai _ br6)<|tk<|Kz (.dx [0,0,2,0,14,30,62] [] [] [])<|ts<|tw (aL a)<|tv (pl.ia (k:=.i64) bx7)<|tw (ir x7)<|tc [1] (ew _ br8)<|tE)<|tE
section
variable(v:af)(i:Int)(t7:Int)(m:(List Int))(m2:Bool)
def mK:Option (((List Int))):=
 if decide (i>0)=true then
  (ak ([ax]:List ah) m m2).bind λr3=>
  some r3
 else
  some m
theorem uo:OJ 2 (cA QH 1014) (mK i m m2) .normal (λo=>aZ 20 [(0,.bptr 0 0),(2,.func (.func 165) [] [.bptr 1 0,.eptr (ag v)]),(6,.int .i64 i),(7,.int .i64 t7),(8,.int .i64 i)] [.cells [.nptr 0 76,sl (cI .u8) o,.bool m2] [(1,5)],.cells [.bptr 0 0] []] []) (aZ 20 [(0,.bptr 0 0),(2,.func (.func 165) [] [.bptr 1 0,.eptr (ag v)]),(6,.int .i64 i),(7,.int .i64 t7),(8,.int .i64 i)] [.cells [.nptr 0 76,sl (cI .u8) m,.bool m2] [(1,5)],.cells [.bptr 0 0] []] []):=Sm.j<|
 tF (tb λr3 br3=>tv (cU [ax] 1 rfl)<|tc [0] (ai _ br3)<|tE)<|tE
end
section
variable(v:af)(t7:Int)(t8:Int)(m:(List Int))(m2:Bool)
def gi:aF:=aZ 20 [(0,.bptr 0 0),(2,.func (.func 165) [] [.bptr 1 0,.eptr (ag v)]),(7,.int .i64 t7),(8,.int .i64 t8)] [.cells [.nptr 0 76,sl (cI .u8) m,.bool m2] [(1,5)],.cells [.bptr 0 0] []] []
def ls(o:(List Int)×Bool):aF:=aZ 20 [] [.cells [.nptr 0 76,sl (cI .u8) o.1,.bool o.2] [(1,5)],.cells [.bptr 0 0] []] []
def cr:Option ((Int×(List Int)×Bool)⊕(((List Int)×Bool))):=
 if decide (t8<t7)=true then
  (mK t8 m m2).bind λo4=>
  (lV t8 v o4 m2).bind λr5=>
  some (.inl (dU (t8+1),r5.1,r5.2))
 else
  some (.inr (m,m2))
def ic:Option (((List Int)×Bool)):=loop (λ(zz:Int×(List Int)×Bool)=>cr v t7 zz.1 zz.2.1 zz.2.2) (t8,m,m2)
theorem tu:OL 2 (cA QH 15) (cr v t7 t8 m m2) (λ(zz:Int×(List Int)×Bool)=>gi v t7 zz.1 zz.2.1 zz.2.2) (λ_=>.exit 0) ls (gi v t7 t8 m m2):=Sm.l<|
 tF (tb λo4 bo4=>tb λr5 br5=>lB 2<|dm (uo v t8 t7 m m2 _ bo4)<|tc [1,0] (AF _ br5)<|tE)<|tE
theorem uq:OJ 2 (.loop (cA QH 15)) (ic v t7 t8 m m2) (.exit 0) ls (gi v t7 t8 m m2):=Ke λ_=>tu _ _ _ _ _
end
def gh(n:Int)(c:af)(k0:(List Int))(k02:Bool):Option ((List Int)×Bool):=
 (ic c n 0 k0 k02).bind λo6=>
 some (o6.1,o6.2)
theorem yf{n:Int}{c:af}{k0:(List Int)}{k02:Bool}:OG 70 [.bptr 0 0,.int .i64 n,.func (.func 165) [] [.bptr 1 0,.eptr (ag c)]] [] [.cells [.nptr 0 76,sl (cI .u8) k0,.bool k02] [(1,5)],.cells [.bptr 0 0] []] (gh n c k0 k02) (λr=>.tuple []) [] (λr=>[.cells [.nptr 0 76,sl (cI .u8) r.1,.bool r.2] [(1,5)],.cells [.bptr 0 0] []]):=Sm.g 2<|
 tb λo6 bo6=>dm (uq c n 0 k0 k02 _ bo6)<|tE
noncomputable def YI:Code:=f111.body.getD .skip
def qgy:List Nat:=[117]
theorem qa7:ZF Pg qgy 111 f111 YI:=zf call111 func111 rfl mixed
section
variable(e:af)(m:(List Int))(m2:Bool)
def kJ:Option (((List Int)×Bool)):=
 if decide ((e.Types.length:Int)>0)=true then
  (ak ([aS]:List ah) m m2).bind λr11=>
  (dh e.Types 0).bind λx12=>
  (dt x12 r11 m2).bind λr13=>
  some (r13.2,r13.1)
 else
  some (m,m2)
theorem zJ:OJ 1 (cA YI 2038) (kJ e m m2) .normal (λo=>aZ 176 [(2,.bptr 1 0),(3,.eptr (ag e))] [.cells [.nptr 0 76,sl (cI .u8) o.1,.bool o.2] [(1,5)],.cells [.bptr 0 0] [],.dead] []) (aZ 176 [(2,.bptr 1 0),(3,.eptr (ag e))] [.cells [.nptr 0 76,sl (cI .u8) m,.bool m2] [(1,5)],.cells [.bptr 0 0] [],.dead] []):=qa7.j<|
 tw (aw e)<|cq (dy.ln e.Types)<|tF (tb λr11 br11=>tb λx12 bx12=>tb λr13 br13=>ts<|tv (cU [aS] 1 rfl)<|tc [0] (ai _ br11)<|tk<|Kz (.dx [0,0,2,6,14] [] [] [])<|ts<|tw (aw e)<|tv (dy.ia (k:=.i64) bx12)<|tv (cC x12)<|tc [0] (ew _ br13)<|tE)<|tE
end
section
variable(i:Int)(t113:waE)(t114:Int)(m:(List Int))(m2:Bool)(m3:ah)(m4:waA)(m5:Int)(m6:ah)(m7:Int)(m8:waC)(m9:(List cc))(m10:waE)(m11:waB)
def qX:Option (((List Int))):=
 if decide (i>0)=true then
  (ak ([ey]:List ah) m m2).bind λr39=>
  some r39
 else
  some m
theorem zK:OJ 1 (cA YI 33545718) (qX i m m2) .normal (λo=>aZ 176 [(2,.bptr 1 0),(5,.bptr 3 0),(113,sl bw t113),(114,.int .i64 t114),(115,.int .i64 i)] [.cells [.nptr 0 76,sl (cI .u8) o,.bool m2] [(1,5)],.cells [.bptr 0 0] [],.dead,.cells [.str m3,sl cS m4,.int .i64 m5,.str m6,.int .i64 m7,sl ag m8,sl bj m9,sl bw m10,sl aj m11] []] []) (aZ 176 [(2,.bptr 1 0),(4,.int .i64 i),(5,.bptr 3 0),(113,sl bw t113),(114,.int .i64 t114),(115,.int .i64 i)] [.cells [.nptr 0 76,sl (cI .u8) m,.bool m2] [(1,5)],.cells [.bptr 0 0] [],.dead,.cells [.str m3,sl cS m4,.int .i64 m5,.str m6,.int .i64 m7,sl ag m8,sl bj m9,sl bw m10,sl aj m11] []] []):=qa7.j<|
 tF (tb λr39 br39=>ts<|tv (cU [ey] 1 rfl)<|tc [0] (ai _ br39)<|tE)<|tE
end
section
variable(R111:bk)(t113:waE)(t114:Int)(t115:Int)(m:(List Int))(m2:Bool)
def fS:aF:=aZ 176 [(2,.bptr 1 0),(113,sl bw t113),(114,.int .i64 t114),(115,.int .i64 t115)] [.cells [.nptr 0 76,sl (cI .u8) m,.bool m2] [(1,5)],.cells [.bptr 0 0] [],.dead] []
def jL(o:(List Int)×Bool):aF:=aZ 176 [(2,.bptr 1 0)] [.cells [.nptr 0 76,sl (cI .u8) o.1,.bool o.2] [(1,5)],.cells [.bptr 0 0] [],.dead] []
instance iS_print_writer_block_L2:KS 1 (fS t113 t114 t115 m m2):=⟨rfl,(bE (aI (dQ rfl) (aI (up (aU n7 t113)) (aI vzz (aI vzz vzz))))),(aI (aI (dQ rfl) (aI (up (aU (Sn .u8) m)) (aI vzz vzz))) (aI (aI (dQ rfl) trivial) (aI vzz vzz)))⟩
instance iO_print_writer_block_L2{o:((List Int)×Bool)}:KS 1 (jL o):=⟨rfl,(bE (aI (dQ rfl) trivial)),(aI (aI (dQ rfl) (aI (up (aU (Sn .u8) o.1)) (aI vzz vzz))) (aI (aI (dQ rfl) trivial) (aI vzz vzz)))⟩
def dT:Option ((Int×(List Int)×Bool)⊕(((List Int)×Bool))):=
 if decide (t115<t114)=true then
  (dh t113 t115).bind λx37=>
  (qX t115 m m2).bind λo40=>
  (fm x37.Con o40 m2).bind λr41=>
  (gN x37.Names r41.2 r41.1).bind λr42=>
  (ak ([cX]:List ah) r42.1 r42.2).bind λr43=>
  (R111 x37.Body r43 r42.2).bind λr44=>
  some (.inl (dU (t115+1),r44.1,r44.2))
 else
  some (.inr (m,m2))
def gX:Option (((List Int)×Bool)):=loop (λ(zz:Int×(List Int)×Bool)=>dT R111 t113 t114 zz.1 zz.2.1 zz.2.2) (t115,m,m2)
theorem ye(hR111:co R111):OL 1 (cA YI 524151) (dT R111 t113 t114 t115 m m2) (λ(zz:Int×(List Int)×Bool)=>fS t113 t114 zz.1 zz.2.1 zz.2.2) (λ_=>.exit 1) jL (fS t113 t114 t115 m m2):=qa7.lx<|
 tF (tb λx37 bx37=>tb λo40 bo40=>tb λr41 br41=>tb λr42 br42=>tb λr43 br43=>tb λr44 br44=>tv (fJ.ia (k:=.i64) bx37)<|tv (y0 x37)<|tx N6<|tx (xg x37)<|lB 0<|dm (zK t115 t113 t114 m m2 x37.Con x37.Names x37.Body.Op x37.Body.Name x37.Body.N x37.Body.Kids x37.Body.Params x37.Body.Alts x37.Body.Types _ bo40)<|ts<|ts<|tc [0] (kO _ br41)<|ts<|ts<|tc [0] (qZ _ br42)<|ts<|tv (cU [cX] 1 rfl)<|tc [0] (ai _ br43)<|ts<|tv (jG x37.Body [])<|tc [0] (hR111 _ _ _ _ br44)<|tE)<|tE
theorem zL(hR111:co R111):OJ 1 (.loop (cA YI 524151)) (gX R111 t113 t114 t115 m m2) (.exit 1) jL (fS t113 t114 t115 m m2):=Ke λ_=>ye _ _ _ _ _ _ hR111
end
def kg(R111:bk)(e:af)(k0:(List Int))(k02:Bool):Option ((List Int)×Bool):=
 if(e.Op==6)=true then
  (ak ([mg]:List ah) k0 k02).bind λr2=>
  (gh (e.Params.length:Int) e r2 k02).bind λr3=>
  (ak ([aR]:List ah) r3.1 r3.2).bind λr4=>
  (dh e.Kids 0).bind λx5=>
  (R111 x5 r4 r3.2).bind λr6=>
  some (r6.1,r6.2)
 else if(e.Op==7)=true then
  (ak ([tQ]:List ah) k0 k02).bind λr8=>
  (cz e.Name r8 k02).bind λr9=>
  (kJ e r9.2 r9.1).bind λo14=>
  (ak ([dY]:List ah) o14.1 o14.2).bind λr15=>
  (dh e.Kids 0).bind λx16=>
  (R111 x16 r15 o14.2).bind λr17=>
  (ak ([cP]:List ah) r17.1 r17.2).bind λr18=>
  (dh e.Kids 1).bind λx19=>
  (R111 x19 r18 r17.2).bind λr20=>
  some (r20.1,r20.2)
 else if(e.Op==8)=true then
  (ak ([Ct]:List ah) k0 k02).bind λr22=>
  (dh e.Kids 0).bind λx23=>
  (R111 x23 r22 k02).bind λr24=>
  (ak ([fF]:List ah) r24.1 r24.2).bind λr25=>
  (dh e.Kids 1).bind λx26=>
  (R111 x26 r25 r24.2).bind λr27=>
  (ak ([fE]:List ah) r27.1 r27.2).bind λr28=>
  (dh e.Kids 2).bind λx29=>
  (R111 x29 r28 r27.2).bind λr30=>
  some (r30.1,r30.2)
 else if(e.Op==9)=true then
  (ak ([rV]:List ah) k0 k02).bind λr32=>
  (dh e.Kids 0).bind λx33=>
  (R111 x33 r32 k02).bind λr34=>
  (ak ([dG]:List ah) r34.1 r34.2).bind λr35=>
  (gX R111 e.Alts (e.Alts.length:Int) 0 r35 r34.2).bind λo45=>
  (ak ([gS]:List ah) o45.1 o45.2).bind λr46=>
  some (r46,o45.2)
 else if(e.Op==25)=true then
  (ak ([xP]:List ah) k0 k02).bind λr48=>
  (cz e.Name r48 k02).bind λr49=>
  (ak ([ce]:List ah) r49.2 r49.1).bind λr50=>
  (Sa e.Kids none (some (dU ((e.Kids.length:Int) - 1)))).bind λl51=>
  (dR R111 l51 r50 r49.1).bind λr52=>
  (ak ([cP]:List ah) r52.1 r52.2).bind λr53=>
  (dh e.Kids (dU ((e.Kids.length:Int) - 1))).bind λx54=>
  (R111 x54 r53 r52.2).bind λr55=>
  some (r55.1,r55.2)
 else
  some (k0,k02)
theorem Da(R111:bk)(hR111:co R111){e:af}{k0:(List Int)}{k02:Bool}:OG 111 [.bptr 0 0,.agg (ag e)] [] [.cells [.nptr 0 76,sl (cI .u8) k0,.bool k02] [(1,5)]] (kg R111 e k0 k02) (λr=>.tuple []) [] (λr=>[.cells [.nptr 0 76,sl (cI .u8) r.1,.bool r.2] [(1,5)]]):=qa7.g 1<|
 qeP (rfl:bZ (.bptr 0 0)=some [.bptr 0 0]) rfl<|te (dq e)<|tw (cj e)<|tF (tb λr2 br2=>tb λr3 br3=>tb λr4 br4=>tb λx5 bx5=>tb λr6 br6=>ts<|tv (cU [mg] 1 rfl)<|tc [0] (ai _ br2)<|ts<|tw (aL e)<|cq (pl.ln e.Params)<|tc [0,1] (yf _ br3)<|ts<|tv (cU [aR] 1 rfl)<|tc [0] (ai _ br4)<|tk<|Kz (.dx [0,0,2,6,14] [] [] [])<|ts<|tw (az e)<|tv (fj.ia (k:=.i64) bx5)<|tv (bh x5)<|tc [0] (hR111 _ _ _ _ br6)<|tE)<|tF (tb λr8 br8=>tb λr9 br9=>tb λo14 bo14=>tb λr15 br15=>tb λx16 bx16=>tb λr17 br17=>tb λr18 br18=>tb λx19 bx19=>tb λr20 br20=>ts<|tv (cU [tQ] 1 rfl)<|tc [0] (ai _ br8)<|ts<|tw (dn e)<|tc [0] (cV _ br9)<|lB 0<|dm (zJ e r9.2 r9.1 _ bo14)<|ts<|tv (cU [dY] 1 rfl)<|tc [0] (ai _ br15)<|tk<|Kz (.dx [0,0,2,6,14] [] [] [])<|ts<|tw (az e)<|tv (fj.ia (k:=.i64) bx16)<|tv (bh x16)<|tc [0] (hR111 _ _ _ _ br17)<|ts<|tv (cU [cP] 1 rfl)<|tc [0] (ai _ br18)<|tk<|Kz (.dx [0,0,2,6,14] [] [] [])<|ts<|tw (az e)<|tv (fj.ia (k:=.i64) bx19)<|tv (bh x19)<|tc [0] (hR111 _ _ _ _ br20)<|tE)<|tF (tb λr22 br22=>tb λx23 bx23=>tb λr24 br24=>tb λr25 br25=>tb λx26 bx26=>tb λr27 br27=>tb λr28 br28=>tb λx29 bx29=>tb λr30 br30=>ts<|tv (cU [Ct] 1 rfl)<|tc [0] (ai _ br22)<|tk<|Kz (.dx [0,0,2,6,14] [] [] [])<|ts<|tw (az e)<|tv (fj.ia (k:=.i64) bx23)<|tv (bh x23)<|tc [0] (hR111 _ _ _ _ br24)<|ts<|tv (cU [fF] 1 rfl)<|tc [0] (ai _ br25)<|tk<|Kz (.dx [0,0,2,6,14] [] [] [])<|ts<|tw (az e)<|tv (fj.ia (k:=.i64) bx26)<|tv (bh x26)<|tc [0] (hR111 _ _ _ _ br27)<|ts<|tv (cU [fE] 1 rfl)<|tc [0] (ai _ br28)<|tk<|Kz (.dx [0,0,2,6,14] [] [] [])<|ts<|tw (az e)<|tv (fj.ia (k:=.i64) bx29)<|tv (bh x29)<|tc [0] (hR111 _ _ _ _ br30)<|tE)<|tF (tb λr32 br32=>tb λx33 bx33=>tb λr34 br34=>tb λr35 br35=>tb λo45 bo45=>tb λr46 br46=>ts<|tv (cU [rV] 1 rfl)<|tc [0] (ai _ br32)<|tk<|Kz (.dx [0,0,2,6,14] [] [] [])<|ts<|tw (az e)<|tv (fj.ia (k:=.i64) bx33)<|tv (bh x33)<|tc [0] (hR111 _ _ _ _ br34)<|ts<|tv (cU [dG] 1 rfl)<|tc [0] (ai _ br35)<|tw (av e)<|cq (fJ.ln e.Alts)<|dm (zL R111 e.Alts (e.Alts.length:Int) 0 r35 r34.2 hR111 _ bo45)<|ts<|tv (cU [gS] 1 rfl)<|tc [0] (ai _ br46)<|tE)<|tF (tb λr48 br48=>tb λr49 br49=>tb λr50 br50=>tb λl51 bl51=>tb λr52 br52=>tb λr53 br53=>tb λx54 bx54=>tb λr55 br55=>tw (az e)<|cq (fj.ln e.Kids)<|ts<|tv (cU [xP] 1 rfl)<|tc [0] (ai _ br48)<|ts<|tw (dn e)<|tc [0] (cV _ br49)<|ts<|tv (cU [ce] 1 rfl)<|tc [0] (ai _ br50)<|tk<|Kz (.dx [0,0,2,0,14] [] [] [])<|ts<|tw (az e)<|tv (fj.sc bl51)<|tc [0] (eu R111 hR111 _ br52)<|ts<|tv (cU [cP] 1 rfl)<|tc [0] (ai _ br53)<|tk<|Kz (.dx [0,0,2,0,14,30] [] [] [])<|ts<|tw (az e)<|tv (fj.ia (k:=.i64) bx54)<|tv (bh x54)<|tc [0] (hR111 _ _ _ _ br55)<|tE)<|tE
noncomputable def YJ:Code:=f114.body.getD .skip
def qgB:List Nat:=[]
theorem YD:ZF Pg qgB 114 f114 YJ:=zf call114 func114 rfl mixed
section
variable(e:af)(t4:Int)
def El:Option Bool:=
 if(t4==7)=true then
  some (t4==7)
 else if(t4==8)=true then
  some (t4==8)
 else if(t4==9)=true then
  some (t4==9)
 else if(t4==6)=true then
  some (t4==6)
 else
  some (t4==25)
theorem IY:OJ 0 (cA YJ 54) (El t4) .normal (λo=>aZ 36 [(1,.eptr (ag e)),(4,.int .i64 t4),(5,.bool o)] [.dead] []) (aZ 36 [(1,.eptr (ag e)),(4,.int .i64 t4)] [.dead] []):=YD.j<|
 tF tE<|tF tE<|tF tE<|tF tE<|tE
end
section
variable(t4:Int)
def Em:Option Bool:=
 if(t4==16)=true then
  some (t4==16)
 else if(t4==17)=true then
  some (t4==17)
 else
  some (t4==18)
theorem IZ:OJ 0 (cA YJ 14334) (Em t4) .normal (λo=>aZ 36 [(4,.int .i64 t4),(23,.bool o)] [.dead] []) (aZ 36 [(4,.int .i64 t4)] [.dead] []):=YD.j<|
 tF tE<|tF tE<|tE
end
section
variable(t4:Int)
def En:Option Bool:=
 if(t4==10)=true then
  some (t4==10)
 else
  some (t4==11)
theorem I0:OJ 0 (cA YJ 57342) (En t4) .normal (λo=>aZ 36 [(4,.int .i64 t4),(27,.bool o)] [.dead] []) (aZ 36 [(4,.int .i64 t4)] [.dead] []):=YD.j<|
 tF tE<|tE
end
section
variable(t4:Int)
def Eo:Option Bool:=
 if(t4==12)=true then
  some (t4==12)
 else if(t4==13)=true then
  some (t4==13)
 else
  some (t4==14)
theorem I1:OJ 0 (cA YJ 229374) (Eo t4) .normal (λo=>aZ 36 [(4,.int .i64 t4),(30,.bool o)] [.dead] []) (aZ 36 [(4,.int .i64 t4)] [.dead] []):=YD.j<|
 tF tE<|tF tE<|tE
end
def tt(e:af):Option Int:=
 (El e.Op).bind λo5=>
 if o5=true then
  some 0
 else if(e.Op==20)=true then
  some 1
 else if(e.Op==19)=true then
  some 2
 else if(e.Op==21)=true then
  (dh e.Kids 0).bind λx10=>
  if(x10.Op==16)=true then
   some 4
  else
   some 3
 else
  (Em e.Op).bind λo14=>
  if o14=true then
   some 4
  else
   (En e.Op).bind λo17=>
   if o17=true then
    some 5
   else
    (Eo e.Op).bind λo21=>
    if o21=true then
     some 6
    else if(e.Op==15)=true then
     some 7
    else
     some 8
theorem xl{e:af}:OV 114 [.agg (ag e)] (tt e) (λr=>.int .i64 r) []:=YD.v<|
 tb λo5 bo5=>te (dq e)<|tw (cj e)<|lB 0<|dm (IY e e.Op _ bo5)<|tF tE<|tF tE<|tF tE<|tF (tb λx10 bx10=>tw (az e)<|tv (fj.ia (k:=.i64) bx10)<|tw (cj x10)<|tF tE<|tE)<|tb λo14 bo14=>lB 0<|dm (IZ e.Op _ bo14)<|tF tE<|tb λo17 bo17=>lB 0<|dm (I0 e.Op _ bo17)<|tF tE<|tb λo21 bo21=>lB 0<|dm (I1 e.Op _ bo21)<|tF tE<|tF tE<|tE
noncomputable def qii:Code:=f113.body.getD .skip
def qgA:List Nat:=[]
theorem qhG:ZF Pg qgA 113 f113 qii:=zf call113 func113 rfl mixed
def fl(R111:bk)(e:af)(least:Int)(k0:(List Int))(k02:Bool):Option ((List Int)×Bool):=
 (tt e).bind λr1=>
 if decide (r1<least)=true then
  (ak ([cd]:List ah) k0 k02).bind λr3=>
  (R111 e r3 k02).bind λr4=>
  (ak ([bA]:List ah) r4.1 r4.2).bind λr5=>
  some (r5,r4.2)
 else
  (R111 e k0 k02).bind λr6=>
  some (r6.1,r6.2)
theorem jk(R111:bk)(hR111:co R111){e:af}{least:Int}{k0:(List Int)}{k02:Bool}:OG 113 [.bptr 0 0,.agg (ag e),.int .i64 least] [] [.cells [.nptr 0 76,sl (cI .u8) k0,.bool k02] [(1,5)]] (fl R111 e least k0 k02) (λr=>.tuple []) [] (λr=>[.cells [.nptr 0 76,sl (cI .u8) r.1,.bool r.2] [(1,5)]]):=qhG.g 1<|
 tb λr1 br1=>te (dq e)<|tv (bh e)<|cJ (xl _ br1)<|tF (tb λr3 br3=>tb λr4 br4=>tb λr5 br5=>tv (cU [cd] 1 rfl)<|tc [0] (ai _ br3)<|tv (bh e)<|tc [0] (hR111 _ _ _ _ br4)<|tv (cU [bA] 1 rfl)<|tc [0] (ai _ br5)<|tE)<|tb λr6 br6=>tv (bh e)<|tc [0] (hR111 _ _ _ _ br6)<|tE
noncomputable def qih:Code:=f112.body.getD .skip
def qgz:List Nat:=[]
theorem qhF:ZF Pg qgz 112 f112 qih:=zf call112 func112 rfl mixed
def eT(R111:bk)(a:af)(sign:ah)(a2:af)(first:Int)(second:Int)(k0:(List Int))(k02:Bool):Option ((List Int)×Bool):=
 (fl R111 a first k0 k02).bind λr1=>
 (ak ([ce,sign,ce]:List ah) r1.1 r1.2).bind λr2=>
 (fl R111 a2 second r2 r1.2).bind λr3=>
 some (r3.1,r3.2)
theorem kf(R111:bk)(hR111:co R111){a:af}{sign:ah}{a2:af}{first:Int}{second:Int}{k0:(List Int)}{k02:Bool}:OG 112 [.bptr 0 0,.agg (ag a),.str sign,.agg (ag a2),.int .i64 first,.int .i64 second] [] [.cells [.nptr 0 76,sl (cI .u8) k0,.bool k02] [(1,5)]] (eT R111 a sign a2 first second k0 k02) (λr=>.tuple []) [] (λr=>[.cells [.nptr 0 76,sl (cI .u8) r.1,.bool r.2] [(1,5)]]):=qhF.g 1<|
 tb λr1 br1=>tb λr2 br2=>tb λr3 br3=>te (dq a)<|te (dq a2)<|tv (bh a)<|tc [0] (jk R111 hR111 _ br1)<|tv (cU [ce,sign,ce] 3 rfl)<|tc [0] (ai _ br2)<|tv (bh a2)<|tc [0] (jk R111 hR111 _ br3)<|tE
noncomputable def qiR:Code:=f64.body.getD .skip
def qkx:List Nat:=[]
theorem qib:ZF Pg qkx 64 f64 qiR:=zf call64 func64 rfl mixed
section
variable(e:af)(t6:Int)(m:(List Int))(m2:Bool)
def iA:Option Bool:=
 if(t6==6)=true then
  some (t6==6)
 else if(t6==7)=true then
  some (t6==7)
 else if(t6==8)=true then
  some (t6==8)
 else if(t6==9)=true then
  some (t6==9)
 else
  some (t6==25)
theorem AG:OJ 1 (cA qiR 32766) (iA t6) .normal (λo=>aZ 203 [(0,.bptr 0 0),(3,.eptr (ag e)),(6,.int .i64 t6),(90,.bool o)] [.cells [.nptr 0 76,sl (cI .u8) m,.bool m2] [(1,5)],.dead] []) (aZ 203 [(0,.bptr 0 0),(3,.eptr (ag e)),(6,.int .i64 t6)] [.cells [.nptr 0 76,sl (cI .u8) m,.bool m2] [(1,5)],.dead] []):=qib.j<|
 tF tE<|tF tE<|tF tE<|tF tE<|tE
end
section
variable(e:af)(t6:Int)(m:(List Int))(m2:Bool)
def iB:Option Bool:=
 if(t6==16)=true then
  some (t6==16)
 else if(t6==17)=true then
  some (t6==17)
 else
  some (t6==18)
theorem AH:OJ 1 (cA qiR 536870910) (iB t6) .normal (λo=>aZ 203 [(0,.bptr 0 0),(3,.eptr (ag e)),(185,.bool o)] [.cells [.nptr 0 76,sl (cI .u8) m,.bool m2] [(1,5)],.dead] []) (aZ 203 [(0,.bptr 0 0),(3,.eptr (ag e)),(6,.int .i64 t6)] [.cells [.nptr 0 76,sl (cI .u8) m,.bool m2] [(1,5)],.dead] []):=qib.j<|
 tF tE<|tF tE<|tE
end
def ji(R111:bk)(e:af)(k0:(List Int))(k02:Bool):Option ((List Int)×Bool):=
 if(e.Op==1)=true then
  if decide (e.N<0)=true then
   (Ni e.N).bind λr3=>
   (ak ([cd,r3,bA]:List ah) k0 k02).bind λr4=>
   some (r4,k02)
  else
   (Ni e.N).bind λr5=>
   (ak ([r5]:List ah) k0 k02).bind λr6=>
   some (r6,k02)
 else if(e.Op==2)=true then
  (fq (e.N==1)).bind λr8=>
  (ak ([r8]:List ah) k0 k02).bind λr9=>
  some (r9,k02)
 else if(e.Op==3)=true then
  (cz e.Name k0 k02).bind λr11=>
  some (r11.2,r11.1)
 else if(e.Op==4)=true then
  (fm e.Name k0 k02).bind λr13=>
  (gO e.Types r13.2 r13.1).bind λr14=>
  if decide ((e.Kids.length:Int)>0)=true then
   (dR R111 e.Kids r14.1 r14.2).bind λr16=>
   some (r16.1,r16.2)
  else
   some (r14.1,r14.2)
 else if(e.Op==5)=true then
  (cz e.Name k0 k02).bind λr18=>
  (gO e.Types r18.2 r18.1).bind λr19=>
  (dR R111 e.Kids r19.1 r19.2).bind λr20=>
  some (r20.1,r20.2)
 else
  (iA e.Op).bind λo25=>
  if o25=true then
   (kg R111 e k0 k02).bind λr27=>
   some (r27.1,r27.2)
  else if(e.Op==21)=true then
   (dh e.Kids 0).bind λx29=>
   if(x29.Op==16)=true then
    (dh x29.Kids 0).bind λx31=>
    (dh x29.Kids 1).bind λx32=>
    (eT R111 x31 gT x32 5 5 k0 k02).bind λr33=>
    some (r33.1,r33.2)
   else
    (ak ([rh]:List ah) k0 k02).bind λr34=>
    (fl R111 x29 3 r34 k02).bind λr35=>
    some (r35.1,r35.2)
  else if(e.Op==15)=true then
   (ak ([pj]:List ah) k0 k02).bind λr37=>
   (dh e.Kids 0).bind λx38=>
   (fl R111 x38 7 r37 k02).bind λr39=>
   some (r39.1,r39.2)
  else if(e.Op==22)=true then
   (ak ([Ll]:List ah) k0 k02).bind λr41=>
   (dR R111 e.Kids r41 k02).bind λr42=>
   some (r42.1,r42.2)
  else if(e.Op==23)=true then
   (ak ([Lk]:List ah) k0 k02).bind λr44=>
   (dR R111 e.Kids r44 k02).bind λr45=>
   some (r45.1,r45.2)
  else if(e.Op==24)=true then
   (ak ([Lm]:List ah) k0 k02).bind λr47=>
   (dR R111 e.Kids r47 k02).bind λr48=>
   some (r48.1,r48.2)
  else if(e.Op==26)=true then
   (ak ([cd]:List ah) k0 k02).bind λr50=>
   (dh e.Kids 0).bind λx51=>
   (R111 x51 r50 k02).bind λr52=>
   (ak ([aS]:List ah) r52.1 r52.2).bind λr53=>
   (dh e.Types 0).bind λx54=>
   (dt x54 r53 r52.2).bind λr55=>
   (ak ([bA]:List ah) r55.2 r55.1).bind λr56=>
   some (r56,r55.1)
  else
   (iB e.Op).bind λo59=>
   if o59=true then
    (dh e.Kids 0).bind λx61=>
    (dh iz e.Op).bind λx62=>
    (dh e.Kids 1).bind λx63=>
    (eT R111 x61 x62 x63 5 5 k0 k02).bind λr64=>
    some (r64.1,r64.2)
   else
    (dh e.Kids 0).bind λx65=>
    (dh iz e.Op).bind λx66=>
    (dh e.Kids 1).bind λx67=>
    (tt e).bind λr68=>
    (tt e).bind λr69=>
    (eT R111 x65 x66 x67 r68 (dU (r69+1)) k0 k02).bind λr70=>
    some (r70.1,r70.2)
theorem Dc(R111:bk)(hR111:co R111){e:af}{k0:(List Int)}{k02:Bool}:OG 64 [.bptr 0 0,.agg (ag e)] [] [.cells [.nptr 0 76,sl (cI .u8) k0,.bool k02] [(1,5)]] (ji R111 e k0 k02) (λr=>.tuple []) [] (λr=>[.cells [.nptr 0 76,sl (cI .u8) r.1,.bool r.2] [(1,5)]]):=qib.g 1<|
 te (dq e)<|tw (cj e)<|tF (tw (cx e)<|tF (tb λr3 br3=>tb λr4 br4=>tw (cx e)<|cJ (Mm br3)<|tv (cU [cd,r3,bA] 3 rfl)<|tc [0] (ai _ br4)<|tE)<|tb λr5 br5=>tb λr6 br6=>tw (cx e)<|cJ (Mm br5)<|tv (cU [r5] 1 rfl)<|tc [0] (ai _ br6)<|tE)<|tF (tb λr8 br8=>tb λr9 br9=>tw (cx e)<|cJ (rf _ br8)<|tv (cU [r8] 1 rfl)<|tc [0] (ai _ br9)<|tE)<|tF (tb λr11 br11=>tw (dn e)<|tc [0] (cV _ br11)<|tE)<|tF (tb λr13 br13=>tb λr14 br14=>tw (dn e)<|tc [0] (kO _ br13)<|tw (aw e)<|tc [0] (q9 _ br14)<|tw (az e)<|cq (fj.ln e.Kids)<|tF (tb λr16 br16=>tw (az e)<|tc [0] (eu R111 hR111 _ br16)<|tE)<|tE)<|tF (tb λr18 br18=>tb λr19 br19=>tb λr20 br20=>tw (dn e)<|tc [0] (cV _ br18)<|tw (aw e)<|tc [0] (q9 _ br19)<|tw (az e)<|tc [0] (eu R111 hR111 _ br20)<|tE)<|tb λo25 bo25=>lB 0<|dm (AG e e.Op k0 k02 _ bo25)<|tF (tb λr27 br27=>tv (bh e)<|tc [0] (Da R111 hR111 _ br27)<|tE)<|tF (tb λx29 bx29=>tw (az e)<|tv (fj.ia (k:=.i64) bx29)<|tv (bh x29)<|tx RO<|tx (Ay x29)<|ts<|tF (tb λx31 bx31=>tb λx32 bx32=>tb λr33 br33=>tk<|Kz (.dx [0,0,2,6,14,0,32,96,224] [] [] [])<|ts<|tv (fj.ia (k:=.i64) bx31)<|tv (bh x31)<|ts<|tv (fj.ia (k:=.i64) bx32)<|tv (bh x32)<|tc [0] (kf R111 hR111 _ br33)<|tE)<|tb λr34 br34=>tb λr35 br35=>tv (cU [rh] 1 rfl)<|tc [0] (ai _ br34)<|tv (jG x29 [])<|tc [0] (jk R111 hR111 _ br35)<|tE)<|tF (tb λr37 br37=>tb λx38 bx38=>tb λr39 br39=>tv (cU [pj] 1 rfl)<|tc [0] (ai _ br37)<|tw (az e)<|tv (fj.ia (k:=.i64) bx38)<|tv (bh x38)<|tc [0] (jk R111 hR111 _ br39)<|tE)<|tF (tb λr41 br41=>tb λr42 br42=>tv (cU [Ll] 1 rfl)<|tc [0] (ai _ br41)<|tw (az e)<|tc [0] (eu R111 hR111 _ br42)<|tE)<|tF (tb λr44 br44=>tb λr45 br45=>tv (cU [Lk] 1 rfl)<|tc [0] (ai _ br44)<|tw (az e)<|tc [0] (eu R111 hR111 _ br45)<|tE)<|tF (tb λr47 br47=>tb λr48 br48=>tv (cU [Lm] 1 rfl)<|tc [0] (ai _ br47)<|tw (az e)<|tc [0] (eu R111 hR111 _ br48)<|tE)<|tF (tb λr50 br50=>tb λx51 bx51=>tb λr52 br52=>tb λr53 br53=>tb λx54 bx54=>tb λr55 br55=>tb λr56 br56=>tv (cU [cd] 1 rfl)<|tc [0] (ai _ br50)<|tw (az e)<|tv (fj.ia (k:=.i64) bx51)<|tv (bh x51)<|tc [0] (hR111 _ _ _ _ br52)<|tv (cU [aS] 1 rfl)<|tc [0] (ai _ br53)<|tw (aw e)<|tv (dy.ia (k:=.i64) bx54)<|tv (cC x54)<|tc [0] (ew _ br55)<|tv (cU [bA] 1 rfl)<|tc [0] (ai _ br56)<|tE)<|tb λo59 bo59=>lB 0<|dm (AH e e.Op k0 k02 _ bo59)<|tF (tb λx61 bx61=>tb λx62 bx62=>tb λx63 bx63=>tb λr64 br64=>tk<|Kz (.dx [0,0,2,6,14,0,32,96,224,0,512,1536,3584] [] [] [])<|tw (az e)<|tv (fj.ia (k:=.i64) bx61)<|tv (bh x61)<|tw (cj e)<|tv (Ep (k:=.i64) bx62)<|tv (Er bx62)<|tw (az e)<|tv (fj.ia (k:=.i64) bx63)<|tv (bh x63)<|tc [0] (kf R111 hR111 _ br64)<|tE)<|tb λx65 bx65=>tb λx66 bx66=>tb λx67 bx67=>tb λr68 br68=>tb λr69 br69=>tb λr70 br70=>tk<|Kz (.dx [0,0,2,6,14,0,32,96,224,0,512,1536,3584,0,8192,0,57344,122880] [] [] [])<|tw (az e)<|tv (fj.ia (k:=.i64) bx65)<|tv (bh x65)<|tw (cj e)<|tv (Ep (k:=.i64) bx66)<|tv (Er bx66)<|tw (az e)<|tv (fj.ia (k:=.i64) bx67)<|tv (bh x67)<|tv (bh e)<|cJ (xl _ br68)<|tv (bh e)<|cJ (xl _ br69)<|tc [0] (kf R111 hR111 _ br70)<|tE
def nc:((af×(List Int)×Bool)->Option ((List Int)×Bool))->(af×(List Int)×Bool)->Option ((List Int)×Bool):=λ(rec:(af×(List Int)×Bool)->Option ((List Int)×Bool)) (x:af×(List Int)×Bool)=>ji (λe k0 k02=>rec (e,k0,k02)) x.1 x.2.1 x.2.2
def qn(e:af)(k0:(List Int))(k02:Bool):Option ((List Int)×Bool):=oE nc (e,k0,k02)
theorem Et{e:af}{k0:(List Int)}{k02:Bool}:OG 64 [.bptr 0 0,.agg (ag e)] [] [.cells [.nptr 0 76,sl (cI .u8) k0,.bool k02] [(1,5)]] (qn e k0 k02) (λr=>.tuple []) [] (λr=>[.cells [.nptr 0 76,sl (cI .u8) r.1,.bool r.2] [(1,5)]]):=Ug λ_ h=>
 eE (F:=nc) (M:=λ(x:af×(List Int)×Bool) (r:(List Int)×Bool)=>C Pg GE 64 [.bptr 0 0,.agg (ag x.1)] [] [.cells [.nptr 0 76,sl (cI .u8) x.2.1,.bool x.2.2] [(1,5)]] (.tuple []) [] [.cells [.nptr 0 76,sl (cI .u8) r.1,.bool r.2] [(1,5)]]) (λrec hrec x r h=>Dc _ (λe k0 k02=>Ug λr h=>hrec (e,k0,k02) r h) _ h) h
noncomputable def qlg:Code:=f27.body.getD .skip
def qki:List Nat:=[]
theorem qkV:ZF Pg qki 27 f27 qlg:=zf call27 func27 rfl mixed
def kl(e:af)(k0:(List Int))(k02:Bool):Option (Bool×(List Int)):=
 (v8 e).bind λr1=>
 if(r1 !=0)=true then
  some (true,k0)
 else
  (qn e k0 k02).bind λr3=>
  some (r3.2,r3.1)
theorem ra{e:af}{k0:(List Int)}{k02:Bool}:OG 27 [.bptr 0 0,.agg (ag e)] [] [.cells [.nptr 0 76,sl (cI .u8) k0,.bool k02] [(1,5)]] (kl e k0 k02) (λr=>.tuple []) [] (λr=>[.cells [.nptr 0 76,sl (cI .u8) r.2,.bool r.1] [(1,5)]]):=qkV.g 1<|
 tb λr1 br1=>te (dq e)<|tv (bh e)<|cJ (L4 _ br1)<|tF (ts<|tE)<|tb λr3 br3=>tv (bh e)<|tc [0] (Et _ br3)<|tE
noncomputable def qgk:Code:=f38.body.getD .skip
def qkn:List Nat:=[]
theorem qgi:ZF Pg qkn 38 f38 qgk:=zf call38 func38 rfl mixed
section
variable(d:i8)(assumed:Bool)(m:(List Int))(m2:Bool)
def uX:Option (((List Int)×Bool)):=
 if(d.Mode==0)=true then
  (ak ([Ud]:List ah) m m2).bind λr2=>
  some (r2,m2)
 else if(d.Mode==2)=true then
  (ak ([Ju]:List ah) m m2).bind λr4=>
  some (r4,m2)
 else if(d.Mode==1)=true then
  (ak ([Lj]:List ah) m m2).bind λr6=>
  some (r6,m2)
 else
  some (m,true)
theorem B6:OJ 1 (cA qgk 14) (uX d m m2) .normal (λo=>aZ 75 [(0,.bptr 0 0),(3,.eptr (bY d)),(4,.bool assumed)] [.cells [.nptr 0 76,sl (cI .u8) o.1,.bool o.2] [(1,5)],.dead] []) (aZ 75 [(0,.bptr 0 0),(3,.eptr (bY d)),(4,.bool assumed)] [.cells [.nptr 0 76,sl (cI .u8) m,.bool m2] [(1,5)],.dead] []):=qgi.j<|
 tw (pT d)<|tF (tb λr2 br2=>tv (cU [Ud] 1 rfl)<|tc [0] (ai _ br2)<|tE)<|tF (tb λr4 br4=>tv (cU [Ju] 1 rfl)<|tc [0] (ai _ br4)<|tE)<|tF (tb λr6 br6=>tv (cU [Lj] 1 rfl)<|tc [0] (ai _ br6)<|tE)<|ts<|tE
end
section
variable(d:i8)(assumed:Bool)(m:(List Int))(m2:Bool)
def uY:Option Bool:=
 if(d.Mode !=0)=true then
  if(!d.Typed)=true then
   some true
  else if assumed=true then
   (EB d.Body (⟨0,([]:ah),0,([]:List af),([]:List cc),([]:List cf),([]:List ae)⟩:af)).bind λr14=>
   some (!r14)
  else
   some false
 else if assumed=true then
  (EB d.Body (⟨0,([]:ah),0,([]:List af),([]:List cc),([]:List cf),([]:List ae)⟩:af)).bind λr17=>
  some (!r17)
 else
  some false
theorem B7:OJ 1 (cA qgk 60) (uY d assumed) .normal (λo=>aZ 75 [(0,.bptr 0 0),(3,.eptr (bY d)),(4,.bool assumed),(45,.bool o)] [.cells [.nptr 0 76,sl (cI .u8) m,.bool m2] [(1,5)],.dead] []) (aZ 75 [(0,.bptr 0 0),(3,.eptr (bY d)),(4,.bool assumed)] [.cells [.nptr 0 76,sl (cI .u8) m,.bool m2] [(1,5)],.dead] []):=qgi.j<|
 have pp9:=λ{X Y Z} (r:PV _ X Y Z)=>tw (pT d)<|r;tf (λc8=>have pp11:=λ{X Y Z} (r:PV _ X Y Z)=>pp9<|tg 4 c8<|tw (yQ d)<|r;tf (λc10=>pp11<|tg 9 c10<|tE) λc10=>have pp13:=λ{X Y Z} (r:PV _ X Y Z)=>pp11<|tg 9 c10<|r;tf (λc12=>tb λr14 br14=>pp13<|tg 11 c12<|tw (pS d)<|Oq (GK) (GI)<|cJ (EC _ br14)<|tE) λc12=>pp13<|tg 11 c12<|tE) λc8=>have pp16:=λ{X Y Z} (r:PV _ X Y Z)=>pp9<|tg 4 c8<|r;tf (λc15=>tb λr17 br17=>pp16<|tg 11 c15<|tw (pS d)<|Oq (GK) (GI)<|cJ (EC _ br17)<|tE) λc15=>pp16<|tg 11 c15<|tE
end
section
variable(d:i8)(assumed:Bool)(m:(List Int))(m2:Bool)
def uZ:Option (((List Int)×Bool)):=
 if d.Typed=true then
  (ak ([aS]:List ah) m m2).bind λr23=>
  (AN d.Sig r23 m2).bind λr24=>
  some (r24.1,r24.2)
 else
  some (m,m2)
theorem B8:OJ 1 (cA qgk 254) (uZ d m m2) .normal (λo=>aZ 75 [(0,.bptr 0 0),(3,.eptr (bY d)),(4,.bool assumed)] [.cells [.nptr 0 76,sl (cI .u8) o.1,.bool o.2] [(1,5)],.dead] []) (aZ 75 [(0,.bptr 0 0),(3,.eptr (bY d)),(4,.bool assumed)] [.cells [.nptr 0 76,sl (cI .u8) m,.bool m2] [(1,5)],.dead] []):=qgi.j<|
 tw (yQ d)<|tF (tb λr23 br23=>tb λr24 br24=>tv (cU [aS] 1 rfl)<|tc [0] (ai _ br23)<|tw (GR d)<|tc [0] (FK _ br24)<|tE)<|tE
end
def rF(d:i8)(k0:(List Int))(k02:Bool):Option ((List Int)×Bool):=
 (uX d k0 k02).bind λo7=>
 (uY d (d.Mode==1)).bind λo18=>
 if o18=true then
  some (o7.1,true)
 else
  (cz d.Name o7.1 o7.2).bind λr20=>
  (gN d.Params r20.2 r20.1).bind λr21=>
  (uZ d r21.1 r21.2).bind λo25=>
  if(!(d.Mode==1))=true then
   (ak ([dY]:List ah) o25.1 o25.2).bind λr27=>
   (kl d.Body r27 o25.2).bind λr28=>
   some (r28.2,r28.1)
  else
   some (o25.1,o25.2)
theorem u6{d:i8}{k0:(List Int)}{k02:Bool}:OG 38 [.bptr 0 0,.agg (bY d)] [] [.cells [.nptr 0 76,sl (cI .u8) k0,.bool k02] [(1,5)]] (rF d k0 k02) (λr=>.tuple []) [] (λr=>[.cells [.nptr 0 76,sl (cI .u8) r.1,.bool r.2] [(1,5)]]):=qgi.g 1<|
 tb λo7 bo7=>tb λo18 bo18=>te (Wb d)<|tw (pT d)<|lB 0<|dm (B6 d (d.Mode==1) k0 k02 _ bo7)<|lB 1<|dm (B7 d (d.Mode==1) o7.1 o7.2 _ bo18)<|tF (ts<|tE)<|tb λr20 br20=>tb λr21 br21=>tb λo25 bo25=>tw (JL d)<|tc [0] (cV _ br20)<|tw (Ih d)<|tc [0] (qZ _ br21)<|lB 0<|dm (B8 d (d.Mode==1) r21.1 r21.2 _ bo25)<|tF (tb λr27 br27=>tb λr28 br28=>tv (cU [dY] 1 rfl)<|tc [0] (ai _ br27)<|tw (pS d)<|tc [0] (ra _ br28)<|tE)<|tE
noncomputable def qlr:Code:=f82.body.getD .skip
def qkG:List Nat:=[]
theorem qk6:ZF Pg qkG 82 f82 qlr:=zf call82 func82 rfl mixed
def u7(k0:(List Int))(k02:Bool):Option Int:=
 some (k0.length:Int)
theorem Ck{k0:(List Int)}{k02:Bool}:OG 82 [.bptr 0 0] [] [.cells [.nptr 0 76,sl (cI .u8) k0,.bool k02] [(1,5)]] (u7 k0 k02) (λr=>.int .i64 r) [] (λr=>[.cells [.nptr 0 76,sl (cI .u8) k0,.bool k02] [(1,5)]]):=qk6.g 1<|
 ts<|cq (qf5.ln k0)<|tE
noncomputable def qlk:Code:=f39.body.getD .skip
def qko:List Nat:=[]
theorem qkZ:ZF Pg qko 39 f39 qlk:=zf call39 func39 rfl mixed
def qm(k0:(List Int))(k02:Bool):Option (ah×Int):=
 if k02=true then
  some (([]:ah),6)
 else
  (u7 k0 k02).bind λr2=>
  if decide (r2>40000)=true then
   some (([]:ah),7)
  else
   (ER k0 k02).bind λr4=>
   some (r4,0)
theorem tz{k0:(List Int)}{k02:Bool}:OG 39 [.bptr 0 0] [] [.cells [.nptr 0 76,sl (cI .u8) k0,.bool k02] [(1,5)]] (qm k0 k02) (λr=>.tuple [.str r.1,.int .i64 r.2]) [] (λr=>[.cells [.nptr 0 76,sl (cI .u8) k0,.bool k02] []]):=qkZ.g 1<|
 ts<|tF tE<|tb λr2 br2=>tc [0] (Ck _ br2)<|tF tE<|tb λr4 br4=>tc [0] (HX br4)<|tE
noncomputable def qld:Code:=f17.body.getD .skip
def qka:List Nat:=[]
theorem qkS:ZF Pg qka 17 f17 qld:=zf call17 func17 rfl mixed
def Qa(d:i8):Option (ah×Int):=
 (rF d ([]:List Int) false).bind λr1=>
 (qm r1.1 r1.2).bind λr2=>
 some (r2.1,r2.2)
theorem RM{d:i8}:OV 17 [.agg (bY d)] (Qa d) (λr=>.tuple [.str r.1,.int .i64 r.2]) []:=qkS.v<|
 tb λr1 br1=>tb λr2 br2=>te (Wb d)<|Oq (show di Pg 76 []=some (.agg [.val (.pointer none),sl (cI .u8) ([]:List Int),.bool false]) by kernel_rfl) (show ui Pg 76 [] [(1,5)]from⟨[.val (.pointer none),.val ee,.bool false],by kernel_rfl,(aI rfl vzz)⟩)<|ty (qgp [.val (.pointer none),sl (cI .u8) ([]:List Int),.bool false])<|tv (VS d)<|tc [1] (u6 _ br1)<|tc [1] (tz _ br2)<|tE
def zb(d:xI)(k0:(List Int))(k02:Bool):Option ((List Int)×Bool):=none
theorem Es{d:xI}{k0:(List Int)}{k02:Bool}:OG 32 [.bptr 0 0,.agg (j8 d)] [] [.cells [.nptr 0 76,sl (cI .u8) k0,.bool k02] [(1,5)]] (zb d k0 k02) (λr=>.tuple []) [] (λr=>[.cells [.nptr 0 76,sl (cI .u8) r.1,.bool r.2] [(1,5)]]):=Ug λr h=>by cases(show(none:Option _)=some r from h)
def xm(c:oM)(k0:(List Int))(k02:Bool):Option ((List Int)×Bool):=none
theorem Db{c:oM}{k0:(List Int)}{k02:Bool}:OG 34 [.bptr 0 0,.agg (gA c)] [] [.cells [.nptr 0 76,sl (cI .u8) k0,.bool k02] [(1,5)]] (xm c k0 k02) (λr=>.tuple []) [] (λr=>[.cells [.nptr 0 76,sl (cI .u8) r.1,.bool r.2] [(1,5)]]):=Ug λr h=>by cases(show(none:Option _)=some r from h)
def qY(a:ft)(k0:(List Int))(k02:Bool):Option ((List Int)×Bool):=none
theorem zR{a:ft}{k0:(List Int)}{k02:Bool}:OG 35 [.bptr 0 0,.agg (dH a)] [] [.cells [.nptr 0 76,sl (cI .u8) k0,.bool k02] [(1,5)]] (qY a k0 k02) (λr=>.tuple []) [] (λr=>[.cells [.nptr 0 76,sl (cI .u8) r.1,.bool r.2] [(1,5)]]):=Ug λr h=>by cases(show(none:Option _)=some r from h)
def tD(a:gR)(k0:(List Int))(k02:Bool):Option ((List Int)×Bool):=none
theorem AI{a:gR}{k0:(List Int)}{k02:Bool}:OG 36 [.bptr 0 0,.agg (d7 a)] [] [.cells [.nptr 0 76,sl (cI .u8) k0,.bool k02] [(1,5)]] (tD a k0 k02) (λr=>.tuple []) [] (λr=>[.cells [.nptr 0 76,sl (cI .u8) r.1,.bool r.2] [(1,5)]]):=Ug λr h=>by cases(show(none:Option _)=some r from h)
def qo(q:xJ)(k0:(List Int))(k02:Bool):Option ((List Int)×Bool):=none
theorem yi{q:xJ}{k0:(List Int)}{k02:Bool}:OG 37 [.bptr 0 0,.agg (je q)] [] [.cells [.nptr 0 76,sl (cI .u8) k0,.bool k02] [(1,5)]] (qo q k0 k02) (λr=>.tuple []) [] (λr=>[.cells [.nptr 0 76,sl (cI .u8) r.1,.bool r.2] [(1,5)]]):=Ug λr h=>by cases(show(none:Option _)=some r from h)
end Go.Proofs.YtibglelmlnfojaaGreatDoor
